/- Texts put together: RefC, EqP, Wak. Conditions: those of each part. -/
import Derived.Test.YtjokcbjahidckaaGreatG04
set_option linter.unusedVariables false
/-! quarryref06.Of, quarryref08.Of: the document's fields and curves. Condition: none. -/
namespace Go.Proofs.YtjokcbjahidckaaGreat
open Go.RowKit

theorem refhex_h {w : World} (k : Nat) (h1 : 1 ≤ k) (h6 : k ≤ 6) : Calls Tryz.prog 152 #[.string (hexS k)] w (RetN w (prm k)) := by
  obtain ⟨hs, hh, hv⟩ := hexOk.out (hexS_ok k h1 h6)
  have := refhex_any (hexS k) (by rw [hs]; unfold pml; split <;> omega) hh w
  rwa [hv] at this
theorem refhex_g {w : World} (k : Nat) (h1 : 1 ≤ k) (h4 : k ≤ 4) : Calls Tryz.prog 152 #[.string (genS k)] w (RetN w (genN k)) := by
  obtain ⟨hs, hh, hv⟩ := hexOk.out (genS_ok k h1 h4)
  have := refhex_any (genS k) (by rw [hs]; unfold gml; split <;> omega) hh w
  rwa [hv] at this
def datS (l : List (Nat × Option Addr)) : Dat := ⟨fun i => (l.getD i (0, none)).1, fun i => (l.getD i (0, none)).2, fun _ => undef⟩
set_option maxRecDepth 100000 in
theorem ref6of_1 {w : World} : Calls Tryz.prog 69 #[.int .i64 1] w (RetR w (fun d => .tuple #[.agg #[.slice (d.o 0) (wd (prm 1)).length (d.n 0), .int .i64 32], .bool true]) (fun d w => NA (prm 1) (d.o 0) (d.n 0) w)) := by
  refine calls_of_wp Tryz.func69 (by rfl : Tryz.f69.body = some _) ?_
  have hF : Fr [(0, .int .i64 1)] 30 _ := Fr.start (args := #[.int .i64 1]) (m := 30) (by simp)
  have hI := Inv.start0 w
  refine wp_seq ?_
  refine sy [] #[.new [] (fun _ => (([Value.slice none 0 0] ++ [Value.int .i64 0])).toArray) 33,
      va (.bool false)]
    (fun g1 => [(0, .int .i64 1), (2, pt (g1.γ 0)), (3, .bool false)]) (fun g1 => [((g1.γ 0), ([Value.slice none 0 0] ++ [Value.int .i64 0]), 33)]) (fun _ => [])
    hF hI trivial (fun g => ⟨nw,
      pv, trivial⟩) ?_
  intro g1 a1 w1 hF hI
  refine wp_seq ?_
  refine wp_seq ?_
  refine sy [] #[va (.int .i64 1)]
    (fun g2 => [(2, pt (g1.γ 0)), (3, .bool false), (4, .int .i64 1)]) (fun _ => [((g1.γ 0), ([Value.slice none 0 0] ++ [Value.int .i64 0]), 33)]) (fun _ => [])
    hF hI trivial (fun g => ⟨pv, trivial⟩) ?_
  intro g2 a2 w2 hF hI
  refine wp_block ?_
  refine wp_seq ?_
  refine sy [] #[va (.bool true),
      va (.bool true)]
    (fun g3 => [(2, pt (g1.γ 0)), (3, .bool false), (4, .int .i64 1), (5, .bool true)]) (fun _ => [((g1.γ 0), ([Value.slice none 0 0] ++ [Value.int .i64 0]), 33)]) (fun _ => [])
    hF hI trivial (fun g => ⟨pv,
      pv, trivial⟩) ?_
  intro g3 a3 w3 hF hI
  refine wp_cond_true (hF.eval rfl) ?_
  refine wp_seq ?_
  refine ss2 [33] #[.ex [] (fun d => .slice (d.o 0) (wd (prm 1)).length (d.n 0)) (fun _ d => fun w => NA (prm 1) (d.o 0) (d.n 0) w),
      .val [0] (fun l => .agg (([Value.slice ((l.getD 0 dat0).o 0) (wd (prm 1)).length ((l.getD 0 dat0).n 0)] ++ [Value.int .i64 32])).toArray)]
    (fun g4 => [(2, pt (g1.γ 0))]) (fun g4 => [((g1.γ 0), ([Value.slice ((g4.δ 0).o 0) (wd (prm 1)).length ((g4.δ 0).n 0)] ++ [Value.int .i64 32]), 33)]) (fun g4 => [fun w => NA (prm 1) ((g4.δ 0).o 0) ((g4.δ 0).n 0) w]) 0 0
    hF hI trivial (fun g => ⟨cx (fun l d w w1 hg h => NA.grow hg rfl h) fun w hI hfa => refhex_h 1 (by decide) (by decide),
      pv, trivial⟩) rfl rfl rfl rfl rfl rfl ?_
  intro g4 a4 w4 hF hI
  refine wp_ret ?_
  show bodyPost Tryz.prog Tryz.f69 (RetR w (fun d => .tuple #[.agg #[.slice (d.o 0) (wd (prm 1)).length (d.n 0), .int .i64 32], .bool true]) (fun d w => NA (prm 1) (d.o 0) (d.n 0) w)) .ret _ _
  exact sym_ret2 rfl hF.df (rv_cell 0 hF rfl hI rfl Tryz.underlying33 rfl (by kernel_rfl)) (rv_tmp hF rfl) ⟨datS [(((g4.δ 0).n 0), ((g4.δ 0).o 0))], rfl, hI.below, hI.fact 0 rfl⟩

set_option maxRecDepth 100000 in
theorem ref6of_2 {w : World} : Calls Tryz.prog 69 #[.int .i64 2] w (RetR w (fun d => .tuple #[.agg #[.slice (d.o 0) (wd (prm 2)).length (d.n 0), .int .i64 32], .bool true]) (fun d w => NA (prm 2) (d.o 0) (d.n 0) w)) := by
  refine calls_of_wp Tryz.func69 (by rfl : Tryz.f69.body = some _) ?_
  have hF : Fr [(0, .int .i64 2)] 30 _ := Fr.start (args := #[.int .i64 2]) (m := 30) (by simp)
  have hI := Inv.start0 w
  refine wp_seq ?_
  refine sy [] #[.new [] (fun _ => (([Value.slice none 0 0] ++ [Value.int .i64 0])).toArray) 33,
      va (.bool false)]
    (fun g1 => [(0, .int .i64 2), (2, pt (g1.γ 0)), (3, .bool false)]) (fun g1 => [((g1.γ 0), ([Value.slice none 0 0] ++ [Value.int .i64 0]), 33)]) (fun _ => [])
    hF hI trivial (fun g => ⟨nw,
      pv, trivial⟩) ?_
  intro g1 a1 w1 hF hI
  refine wp_seq ?_
  refine wp_seq ?_
  refine sy [] #[va (.int .i64 2)]
    (fun g2 => [(2, pt (g1.γ 0)), (3, .bool false), (4, .int .i64 2)]) (fun _ => [((g1.γ 0), ([Value.slice none 0 0] ++ [Value.int .i64 0]), 33)]) (fun _ => [])
    hF hI trivial (fun g => ⟨pv, trivial⟩) ?_
  intro g2 a2 w2 hF hI
  refine wp_block ?_
  refine wp_seq ?_
  refine sy [] #[va (.bool false),
      va (.bool false)]
    (fun g3 => [(2, pt (g1.γ 0)), (3, .bool false), (4, .int .i64 2), (5, .bool false)]) (fun _ => [((g1.γ 0), ([Value.slice none 0 0] ++ [Value.int .i64 0]), 33)]) (fun _ => [])
    hF hI trivial (fun g => ⟨pv,
      pv, trivial⟩) ?_
  intro g3 a3 w3 hF hI
  refine wp_cond_false (hF.eval rfl) ?_
  refine wp_seq ?_
  refine sy [] #[va (.bool true),
      va (.bool true)]
    (fun g4 => [(2, pt (g1.γ 0)), (3, .bool false), (4, .int .i64 2), (9, .bool true)]) (fun _ => [((g1.γ 0), ([Value.slice none 0 0] ++ [Value.int .i64 0]), 33)]) (fun _ => [])
    hF hI trivial (fun g => ⟨pv,
      pv, trivial⟩) ?_
  intro g4 a4 w4 hF hI
  refine wp_cond_true (hF.eval rfl) ?_
  refine wp_seq ?_
  refine ss2 [33] #[.ex [] (fun d => .slice (d.o 0) (wd (prm 2)).length (d.n 0)) (fun _ d => fun w => NA (prm 2) (d.o 0) (d.n 0) w),
      .val [0] (fun l => .agg (([Value.slice ((l.getD 0 dat0).o 0) (wd (prm 2)).length ((l.getD 0 dat0).n 0)] ++ [Value.int .i64 32])).toArray)]
    (fun g5 => [(2, pt (g1.γ 0))]) (fun g5 => [((g1.γ 0), ([Value.slice ((g5.δ 0).o 0) (wd (prm 2)).length ((g5.δ 0).n 0)] ++ [Value.int .i64 32]), 33)]) (fun g5 => [fun w => NA (prm 2) ((g5.δ 0).o 0) ((g5.δ 0).n 0) w]) 0 0
    hF hI trivial (fun g => ⟨cx (fun l d w w1 hg h => NA.grow hg rfl h) fun w hI hfa => refhex_h 2 (by decide) (by decide),
      pv, trivial⟩) rfl rfl rfl rfl rfl rfl ?_
  intro g5 a5 w5 hF hI
  refine wp_ret ?_
  show bodyPost Tryz.prog Tryz.f69 (RetR w (fun d => .tuple #[.agg #[.slice (d.o 0) (wd (prm 2)).length (d.n 0), .int .i64 32], .bool true]) (fun d w => NA (prm 2) (d.o 0) (d.n 0) w)) .ret _ _
  exact sym_ret2 rfl hF.df (rv_cell 0 hF rfl hI rfl Tryz.underlying33 rfl (by kernel_rfl)) (rv_tmp hF rfl) ⟨datS [(((g5.δ 0).n 0), ((g5.δ 0).o 0))], rfl, hI.below, hI.fact 0 rfl⟩

set_option maxRecDepth 100000 in
theorem ref6of_3 {w : World} : Calls Tryz.prog 69 #[.int .i64 3] w (RetR w (fun d => .tuple #[.agg #[.slice (d.o 0) (wd (prm 3)).length (d.n 0), .int .i64 32], .bool true]) (fun d w => NA (prm 3) (d.o 0) (d.n 0) w)) := by
  refine calls_of_wp Tryz.func69 (by rfl : Tryz.f69.body = some _) ?_
  have hF : Fr [(0, .int .i64 3)] 30 _ := Fr.start (args := #[.int .i64 3]) (m := 30) (by simp)
  have hI := Inv.start0 w
  refine wp_seq ?_
  refine sy [] #[.new [] (fun _ => (([Value.slice none 0 0] ++ [Value.int .i64 0])).toArray) 33,
      va (.bool false)]
    (fun g1 => [(0, .int .i64 3), (2, pt (g1.γ 0)), (3, .bool false)]) (fun g1 => [((g1.γ 0), ([Value.slice none 0 0] ++ [Value.int .i64 0]), 33)]) (fun _ => [])
    hF hI trivial (fun g => ⟨nw,
      pv, trivial⟩) ?_
  intro g1 a1 w1 hF hI
  refine wp_seq ?_
  refine wp_seq ?_
  refine sy [] #[va (.int .i64 3)]
    (fun g2 => [(2, pt (g1.γ 0)), (3, .bool false), (4, .int .i64 3)]) (fun _ => [((g1.γ 0), ([Value.slice none 0 0] ++ [Value.int .i64 0]), 33)]) (fun _ => [])
    hF hI trivial (fun g => ⟨pv, trivial⟩) ?_
  intro g2 a2 w2 hF hI
  refine wp_block ?_
  refine wp_seq ?_
  refine sy [] #[va (.bool false),
      va (.bool false)]
    (fun g3 => [(2, pt (g1.γ 0)), (3, .bool false), (4, .int .i64 3), (5, .bool false)]) (fun _ => [((g1.γ 0), ([Value.slice none 0 0] ++ [Value.int .i64 0]), 33)]) (fun _ => [])
    hF hI trivial (fun g => ⟨pv,
      pv, trivial⟩) ?_
  intro g3 a3 w3 hF hI
  refine wp_cond_false (hF.eval rfl) ?_
  refine wp_seq ?_
  refine sy [] #[va (.bool false),
      va (.bool false)]
    (fun g4 => [(2, pt (g1.γ 0)), (3, .bool false), (4, .int .i64 3), (9, .bool false)]) (fun _ => [((g1.γ 0), ([Value.slice none 0 0] ++ [Value.int .i64 0]), 33)]) (fun _ => [])
    hF hI trivial (fun g => ⟨pv,
      pv, trivial⟩) ?_
  intro g4 a4 w4 hF hI
  refine wp_cond_false (hF.eval rfl) ?_
  refine wp_seq ?_
  refine sy [] #[va (.bool true),
      va (.bool true)]
    (fun g5 => [(2, pt (g1.γ 0)), (3, .bool false), (4, .int .i64 3), (13, .bool true)]) (fun _ => [((g1.γ 0), ([Value.slice none 0 0] ++ [Value.int .i64 0]), 33)]) (fun _ => [])
    hF hI trivial (fun g => ⟨pv,
      pv, trivial⟩) ?_
  intro g5 a5 w5 hF hI
  refine wp_cond_true (hF.eval rfl) ?_
  refine wp_seq ?_
  refine ss2 [33] #[.ex [] (fun d => .slice (d.o 0) (wd (prm 3)).length (d.n 0)) (fun _ d => fun w => NA (prm 3) (d.o 0) (d.n 0) w),
      .val [0] (fun l => .agg (([Value.slice ((l.getD 0 dat0).o 0) (wd (prm 3)).length ((l.getD 0 dat0).n 0)] ++ [Value.int .i64 32])).toArray)]
    (fun g6 => [(2, pt (g1.γ 0))]) (fun g6 => [((g1.γ 0), ([Value.slice ((g6.δ 0).o 0) (wd (prm 3)).length ((g6.δ 0).n 0)] ++ [Value.int .i64 32]), 33)]) (fun g6 => [fun w => NA (prm 3) ((g6.δ 0).o 0) ((g6.δ 0).n 0) w]) 0 0
    hF hI trivial (fun g => ⟨cx (fun l d w w1 hg h => NA.grow hg rfl h) fun w hI hfa => refhex_h 3 (by decide) (by decide),
      pv, trivial⟩) rfl rfl rfl rfl rfl rfl ?_
  intro g6 a6 w6 hF hI
  refine wp_ret ?_
  show bodyPost Tryz.prog Tryz.f69 (RetR w (fun d => .tuple #[.agg #[.slice (d.o 0) (wd (prm 3)).length (d.n 0), .int .i64 32], .bool true]) (fun d w => NA (prm 3) (d.o 0) (d.n 0) w)) .ret _ _
  exact sym_ret2 rfl hF.df (rv_cell 0 hF rfl hI rfl Tryz.underlying33 rfl (by kernel_rfl)) (rv_tmp hF rfl) ⟨datS [(((g6.δ 0).n 0), ((g6.δ 0).o 0))], rfl, hI.below, hI.fact 0 rfl⟩

set_option maxRecDepth 100000 in
theorem ref6of_4 {w : World} : Calls Tryz.prog 69 #[.int .i64 4] w (RetR w (fun d => .tuple #[.agg #[.slice (d.o 0) (wd (prm 4)).length (d.n 0), .int .i64 32], .bool true]) (fun d w => NA (prm 4) (d.o 0) (d.n 0) w)) := by
  refine calls_of_wp Tryz.func69 (by rfl : Tryz.f69.body = some _) ?_
  have hF : Fr [(0, .int .i64 4)] 30 _ := Fr.start (args := #[.int .i64 4]) (m := 30) (by simp)
  have hI := Inv.start0 w
  refine wp_seq ?_
  refine sy [] #[.new [] (fun _ => (([Value.slice none 0 0] ++ [Value.int .i64 0])).toArray) 33,
      va (.bool false)]
    (fun g1 => [(0, .int .i64 4), (2, pt (g1.γ 0)), (3, .bool false)]) (fun g1 => [((g1.γ 0), ([Value.slice none 0 0] ++ [Value.int .i64 0]), 33)]) (fun _ => [])
    hF hI trivial (fun g => ⟨nw,
      pv, trivial⟩) ?_
  intro g1 a1 w1 hF hI
  refine wp_seq ?_
  refine wp_seq ?_
  refine sy [] #[va (.int .i64 4)]
    (fun g2 => [(2, pt (g1.γ 0)), (3, .bool false), (4, .int .i64 4)]) (fun _ => [((g1.γ 0), ([Value.slice none 0 0] ++ [Value.int .i64 0]), 33)]) (fun _ => [])
    hF hI trivial (fun g => ⟨pv, trivial⟩) ?_
  intro g2 a2 w2 hF hI
  refine wp_block ?_
  refine wp_seq ?_
  refine sy [] #[va (.bool false),
      va (.bool false)]
    (fun g3 => [(2, pt (g1.γ 0)), (3, .bool false), (4, .int .i64 4), (5, .bool false)]) (fun _ => [((g1.γ 0), ([Value.slice none 0 0] ++ [Value.int .i64 0]), 33)]) (fun _ => [])
    hF hI trivial (fun g => ⟨pv,
      pv, trivial⟩) ?_
  intro g3 a3 w3 hF hI
  refine wp_cond_false (hF.eval rfl) ?_
  refine wp_seq ?_
  refine sy [] #[va (.bool false),
      va (.bool false)]
    (fun g4 => [(2, pt (g1.γ 0)), (3, .bool false), (4, .int .i64 4), (9, .bool false)]) (fun _ => [((g1.γ 0), ([Value.slice none 0 0] ++ [Value.int .i64 0]), 33)]) (fun _ => [])
    hF hI trivial (fun g => ⟨pv,
      pv, trivial⟩) ?_
  intro g4 a4 w4 hF hI
  refine wp_cond_false (hF.eval rfl) ?_
  refine wp_seq ?_
  refine sy [] #[va (.bool false),
      va (.bool false)]
    (fun g5 => [(2, pt (g1.γ 0)), (3, .bool false), (4, .int .i64 4), (13, .bool false)]) (fun _ => [((g1.γ 0), ([Value.slice none 0 0] ++ [Value.int .i64 0]), 33)]) (fun _ => [])
    hF hI trivial (fun g => ⟨pv,
      pv, trivial⟩) ?_
  intro g5 a5 w5 hF hI
  refine wp_cond_false (hF.eval rfl) ?_
  refine wp_seq ?_
  refine sy [] #[va (.bool true),
      va (.bool true)]
    (fun g6 => [(2, pt (g1.γ 0)), (3, .bool false), (4, .int .i64 4), (17, .bool true)]) (fun _ => [((g1.γ 0), ([Value.slice none 0 0] ++ [Value.int .i64 0]), 33)]) (fun _ => [])
    hF hI trivial (fun g => ⟨pv,
      pv, trivial⟩) ?_
  intro g6 a6 w6 hF hI
  refine wp_cond_true (hF.eval rfl) ?_
  refine wp_seq ?_
  refine ss2 [33] #[.ex [] (fun d => .slice (d.o 0) (wd (prm 4)).length (d.n 0)) (fun _ d => fun w => NA (prm 4) (d.o 0) (d.n 0) w),
      .val [0] (fun l => .agg (([Value.slice ((l.getD 0 dat0).o 0) (wd (prm 4)).length ((l.getD 0 dat0).n 0)] ++ [Value.int .i64 32])).toArray)]
    (fun g7 => [(2, pt (g1.γ 0))]) (fun g7 => [((g1.γ 0), ([Value.slice ((g7.δ 0).o 0) (wd (prm 4)).length ((g7.δ 0).n 0)] ++ [Value.int .i64 32]), 33)]) (fun g7 => [fun w => NA (prm 4) ((g7.δ 0).o 0) ((g7.δ 0).n 0) w]) 0 0
    hF hI trivial (fun g => ⟨cx (fun l d w w1 hg h => NA.grow hg rfl h) fun w hI hfa => refhex_h 4 (by decide) (by decide),
      pv, trivial⟩) rfl rfl rfl rfl rfl rfl ?_
  intro g7 a7 w7 hF hI
  refine wp_ret ?_
  show bodyPost Tryz.prog Tryz.f69 (RetR w (fun d => .tuple #[.agg #[.slice (d.o 0) (wd (prm 4)).length (d.n 0), .int .i64 32], .bool true]) (fun d w => NA (prm 4) (d.o 0) (d.n 0) w)) .ret _ _
  exact sym_ret2 rfl hF.df (rv_cell 0 hF rfl hI rfl Tryz.underlying33 rfl (by kernel_rfl)) (rv_tmp hF rfl) ⟨datS [(((g7.δ 0).n 0), ((g7.δ 0).o 0))], rfl, hI.below, hI.fact 0 rfl⟩

set_option maxRecDepth 100000 in
theorem ref6of_5 {w : World} : Calls Tryz.prog 69 #[.int .i64 5] w (RetR w (fun d => .tuple #[.agg #[.slice (d.o 0) (wd (prm 5)).length (d.n 0), .int .i64 48], .bool true]) (fun d w => NA (prm 5) (d.o 0) (d.n 0) w)) := by
  refine calls_of_wp Tryz.func69 (by rfl : Tryz.f69.body = some _) ?_
  have hF : Fr [(0, .int .i64 5)] 30 _ := Fr.start (args := #[.int .i64 5]) (m := 30) (by simp)
  have hI := Inv.start0 w
  refine wp_seq ?_
  refine sy [] #[.new [] (fun _ => (([Value.slice none 0 0] ++ [Value.int .i64 0])).toArray) 33,
      va (.bool false)]
    (fun g1 => [(0, .int .i64 5), (2, pt (g1.γ 0)), (3, .bool false)]) (fun g1 => [((g1.γ 0), ([Value.slice none 0 0] ++ [Value.int .i64 0]), 33)]) (fun _ => [])
    hF hI trivial (fun g => ⟨nw,
      pv, trivial⟩) ?_
  intro g1 a1 w1 hF hI
  refine wp_seq ?_
  refine wp_seq ?_
  refine sy [] #[va (.int .i64 5)]
    (fun g2 => [(2, pt (g1.γ 0)), (3, .bool false), (4, .int .i64 5)]) (fun _ => [((g1.γ 0), ([Value.slice none 0 0] ++ [Value.int .i64 0]), 33)]) (fun _ => [])
    hF hI trivial (fun g => ⟨pv, trivial⟩) ?_
  intro g2 a2 w2 hF hI
  refine wp_block ?_
  refine wp_seq ?_
  refine sy [] #[va (.bool false),
      va (.bool false)]
    (fun g3 => [(2, pt (g1.γ 0)), (3, .bool false), (4, .int .i64 5), (5, .bool false)]) (fun _ => [((g1.γ 0), ([Value.slice none 0 0] ++ [Value.int .i64 0]), 33)]) (fun _ => [])
    hF hI trivial (fun g => ⟨pv,
      pv, trivial⟩) ?_
  intro g3 a3 w3 hF hI
  refine wp_cond_false (hF.eval rfl) ?_
  refine wp_seq ?_
  refine sy [] #[va (.bool false),
      va (.bool false)]
    (fun g4 => [(2, pt (g1.γ 0)), (3, .bool false), (4, .int .i64 5), (9, .bool false)]) (fun _ => [((g1.γ 0), ([Value.slice none 0 0] ++ [Value.int .i64 0]), 33)]) (fun _ => [])
    hF hI trivial (fun g => ⟨pv,
      pv, trivial⟩) ?_
  intro g4 a4 w4 hF hI
  refine wp_cond_false (hF.eval rfl) ?_
  refine wp_seq ?_
  refine sy [] #[va (.bool false),
      va (.bool false)]
    (fun g5 => [(2, pt (g1.γ 0)), (3, .bool false), (4, .int .i64 5), (13, .bool false)]) (fun _ => [((g1.γ 0), ([Value.slice none 0 0] ++ [Value.int .i64 0]), 33)]) (fun _ => [])
    hF hI trivial (fun g => ⟨pv,
      pv, trivial⟩) ?_
  intro g5 a5 w5 hF hI
  refine wp_cond_false (hF.eval rfl) ?_
  refine wp_seq ?_
  refine sy [] #[va (.bool false),
      va (.bool false)]
    (fun g6 => [(2, pt (g1.γ 0)), (3, .bool false), (4, .int .i64 5), (17, .bool false)]) (fun _ => [((g1.γ 0), ([Value.slice none 0 0] ++ [Value.int .i64 0]), 33)]) (fun _ => [])
    hF hI trivial (fun g => ⟨pv,
      pv, trivial⟩) ?_
  intro g6 a6 w6 hF hI
  refine wp_cond_false (hF.eval rfl) ?_
  refine wp_seq ?_
  refine sy [] #[va (.bool true),
      va (.bool true)]
    (fun g7 => [(2, pt (g1.γ 0)), (3, .bool false), (4, .int .i64 5), (21, .bool true)]) (fun _ => [((g1.γ 0), ([Value.slice none 0 0] ++ [Value.int .i64 0]), 33)]) (fun _ => [])
    hF hI trivial (fun g => ⟨pv,
      pv, trivial⟩) ?_
  intro g7 a7 w7 hF hI
  refine wp_cond_true (hF.eval rfl) ?_
  refine wp_seq ?_
  refine ss2 [33] #[.ex [] (fun d => .slice (d.o 0) (wd (prm 5)).length (d.n 0)) (fun _ d => fun w => NA (prm 5) (d.o 0) (d.n 0) w),
      .val [0] (fun l => .agg (([Value.slice ((l.getD 0 dat0).o 0) (wd (prm 5)).length ((l.getD 0 dat0).n 0)] ++ [Value.int .i64 48])).toArray)]
    (fun g8 => [(2, pt (g1.γ 0))]) (fun g8 => [((g1.γ 0), ([Value.slice ((g8.δ 0).o 0) (wd (prm 5)).length ((g8.δ 0).n 0)] ++ [Value.int .i64 48]), 33)]) (fun g8 => [fun w => NA (prm 5) ((g8.δ 0).o 0) ((g8.δ 0).n 0) w]) 0 0
    hF hI trivial (fun g => ⟨cx (fun l d w w1 hg h => NA.grow hg rfl h) fun w hI hfa => refhex_h 5 (by decide) (by decide),
      pv, trivial⟩) rfl rfl rfl rfl rfl rfl ?_
  intro g8 a8 w8 hF hI
  refine wp_ret ?_
  show bodyPost Tryz.prog Tryz.f69 (RetR w (fun d => .tuple #[.agg #[.slice (d.o 0) (wd (prm 5)).length (d.n 0), .int .i64 48], .bool true]) (fun d w => NA (prm 5) (d.o 0) (d.n 0) w)) .ret _ _
  exact sym_ret2 rfl hF.df (rv_cell 0 hF rfl hI rfl Tryz.underlying33 rfl (by kernel_rfl)) (rv_tmp hF rfl) ⟨datS [(((g8.δ 0).n 0), ((g8.δ 0).o 0))], rfl, hI.below, hI.fact 0 rfl⟩

set_option maxRecDepth 100000 in
theorem ref6of_6 {w : World} : Calls Tryz.prog 69 #[.int .i64 6] w (RetR w (fun d => .tuple #[.agg #[.slice (d.o 0) (wd (prm 6)).length (d.n 0), .int .i64 32], .bool true]) (fun d w => NA (prm 6) (d.o 0) (d.n 0) w)) := by
  refine calls_of_wp Tryz.func69 (by rfl : Tryz.f69.body = some _) ?_
  have hF : Fr [(0, .int .i64 6)] 30 _ := Fr.start (args := #[.int .i64 6]) (m := 30) (by simp)
  have hI := Inv.start0 w
  refine wp_seq ?_
  refine sy [] #[.new [] (fun _ => (([Value.slice none 0 0] ++ [Value.int .i64 0])).toArray) 33,
      va (.bool false)]
    (fun g1 => [(0, .int .i64 6), (2, pt (g1.γ 0)), (3, .bool false)]) (fun g1 => [((g1.γ 0), ([Value.slice none 0 0] ++ [Value.int .i64 0]), 33)]) (fun _ => [])
    hF hI trivial (fun g => ⟨nw,
      pv, trivial⟩) ?_
  intro g1 a1 w1 hF hI
  refine wp_seq ?_
  refine wp_seq ?_
  refine sy [] #[va (.int .i64 6)]
    (fun g2 => [(2, pt (g1.γ 0)), (3, .bool false), (4, .int .i64 6)]) (fun _ => [((g1.γ 0), ([Value.slice none 0 0] ++ [Value.int .i64 0]), 33)]) (fun _ => [])
    hF hI trivial (fun g => ⟨pv, trivial⟩) ?_
  intro g2 a2 w2 hF hI
  refine wp_block ?_
  refine wp_seq ?_
  refine sy [] #[va (.bool false),
      va (.bool false)]
    (fun g3 => [(2, pt (g1.γ 0)), (3, .bool false), (4, .int .i64 6), (5, .bool false)]) (fun _ => [((g1.γ 0), ([Value.slice none 0 0] ++ [Value.int .i64 0]), 33)]) (fun _ => [])
    hF hI trivial (fun g => ⟨pv,
      pv, trivial⟩) ?_
  intro g3 a3 w3 hF hI
  refine wp_cond_false (hF.eval rfl) ?_
  refine wp_seq ?_
  refine sy [] #[va (.bool false),
      va (.bool false)]
    (fun g4 => [(2, pt (g1.γ 0)), (3, .bool false), (4, .int .i64 6), (9, .bool false)]) (fun _ => [((g1.γ 0), ([Value.slice none 0 0] ++ [Value.int .i64 0]), 33)]) (fun _ => [])
    hF hI trivial (fun g => ⟨pv,
      pv, trivial⟩) ?_
  intro g4 a4 w4 hF hI
  refine wp_cond_false (hF.eval rfl) ?_
  refine wp_seq ?_
  refine sy [] #[va (.bool false),
      va (.bool false)]
    (fun g5 => [(2, pt (g1.γ 0)), (3, .bool false), (4, .int .i64 6), (13, .bool false)]) (fun _ => [((g1.γ 0), ([Value.slice none 0 0] ++ [Value.int .i64 0]), 33)]) (fun _ => [])
    hF hI trivial (fun g => ⟨pv,
      pv, trivial⟩) ?_
  intro g5 a5 w5 hF hI
  refine wp_cond_false (hF.eval rfl) ?_
  refine wp_seq ?_
  refine sy [] #[va (.bool false),
      va (.bool false)]
    (fun g6 => [(2, pt (g1.γ 0)), (3, .bool false), (4, .int .i64 6), (17, .bool false)]) (fun _ => [((g1.γ 0), ([Value.slice none 0 0] ++ [Value.int .i64 0]), 33)]) (fun _ => [])
    hF hI trivial (fun g => ⟨pv,
      pv, trivial⟩) ?_
  intro g6 a6 w6 hF hI
  refine wp_cond_false (hF.eval rfl) ?_
  refine wp_seq ?_
  refine sy [] #[va (.bool false),
      va (.bool false)]
    (fun g7 => [(2, pt (g1.γ 0)), (3, .bool false), (4, .int .i64 6), (21, .bool false)]) (fun _ => [((g1.γ 0), ([Value.slice none 0 0] ++ [Value.int .i64 0]), 33)]) (fun _ => [])
    hF hI trivial (fun g => ⟨pv,
      pv, trivial⟩) ?_
  intro g7 a7 w7 hF hI
  refine wp_cond_false (hF.eval rfl) ?_
  refine wp_seq ?_
  refine sy [] #[va (.bool true),
      va (.bool true)]
    (fun g8 => [(2, pt (g1.γ 0)), (3, .bool false), (25, .bool true)]) (fun _ => [((g1.γ 0), ([Value.slice none 0 0] ++ [Value.int .i64 0]), 33)]) (fun _ => [])
    hF hI trivial (fun g => ⟨pv,
      pv, trivial⟩) ?_
  intro g8 a8 w8 hF hI
  refine wp_cond_true (hF.eval rfl) ?_
  refine wp_seq ?_
  refine ss2 [33] #[.ex [] (fun d => .slice (d.o 0) (wd (prm 6)).length (d.n 0)) (fun _ d => fun w => NA (prm 6) (d.o 0) (d.n 0) w),
      .val [0] (fun l => .agg (([Value.slice ((l.getD 0 dat0).o 0) (wd (prm 6)).length ((l.getD 0 dat0).n 0)] ++ [Value.int .i64 32])).toArray)]
    (fun g9 => [(2, pt (g1.γ 0))]) (fun g9 => [((g1.γ 0), ([Value.slice ((g9.δ 0).o 0) (wd (prm 6)).length ((g9.δ 0).n 0)] ++ [Value.int .i64 32]), 33)]) (fun g9 => [fun w => NA (prm 6) ((g9.δ 0).o 0) ((g9.δ 0).n 0) w]) 0 0
    hF hI trivial (fun g => ⟨cx (fun l d w w1 hg h => NA.grow hg rfl h) fun w hI hfa => refhex_h 6 (by decide) (by decide),
      pv, trivial⟩) rfl rfl rfl rfl rfl rfl ?_
  intro g9 a9 w9 hF hI
  refine wp_ret ?_
  show bodyPost Tryz.prog Tryz.f69 (RetR w (fun d => .tuple #[.agg #[.slice (d.o 0) (wd (prm 6)).length (d.n 0), .int .i64 32], .bool true]) (fun d w => NA (prm 6) (d.o 0) (d.n 0) w)) .ret _ _
  exact sym_ret2 rfl hF.df (rv_cell 0 hF rfl hI rfl Tryz.underlying33 rfl (by kernel_rfl)) (rv_tmp hF rfl) ⟨datS [(((g9.δ 0).n 0), ((g9.δ 0).o 0))], rfl, hI.below, hI.fact 0 rfl⟩

set_option maxRecDepth 100000 in
theorem refone_1 {w : World} : Calls Tryz.prog 95 #[.string (genS 1)] w (RetR w (fun d => .agg #[.slice (d.o 0) (wd (genN 1)).length (d.n 0), .slice none 0 0]) (fun d w => NA (genN 1) (d.o 0) (d.n 0) w)) := by
  refine calls_of_wp Tryz.func95 (by rfl : Tryz.f95.body = some _) ?_
  have hF : Fr [(0, .string (genS 1))] 6 _ := Fr.start (args := #[.string (genS 1)]) (m := 6) (by simp)
  have hI := Inv.start0 w
  refine wp_seq ?_
  refine sy [] #[.new [] (fun _ => (([Value.slice none 0 0] ++ [Value.slice none 0 0])).toArray) 35]
    (fun g1 => [(0, .string (genS 1)), (2, pt (g1.γ 0))]) (fun g1 => [((g1.γ 0), ([Value.slice none 0 0] ++ [Value.slice none 0 0]), 35)]) (fun _ => [])
    hF hI trivial (fun g => ⟨nw, trivial⟩) ?_
  intro g1 a1 w1 hF hI
  refine wp_seq ?_
  refine ss [35] #[va (.string (genS 1)),
      .ex [] (fun d => .slice (d.o 0) (wd (genN 1)).length (d.n 0)) (fun _ d => fun w => NA (genN 1) (d.o 0) (d.n 0) w),
      .val [1] (fun l => .agg (([Value.slice ((l.getD 0 dat0).o 0) (wd (genN 1)).length ((l.getD 0 dat0).n 0)] ++ [Value.slice none 0 0])).toArray)]
    (fun g2 => [(2, pt (g1.γ 0))]) (fun g2 => [((g1.γ 0), ([Value.slice ((g2.δ 1).o 0) (wd (genN 1)).length ((g2.δ 1).n 0)] ++ [Value.slice none 0 0]), 35)]) (fun g2 => [fun w => NA (genN 1) ((g2.δ 1).o 0) ((g2.δ 1).n 0) w]) 0 0
    hF hI trivial (fun g => ⟨pv,
      cx (fun l d w w1 hg h => NA.grow hg rfl h) fun w hI hfa => refhex_g 1 (by decide) (by decide),
      pv, trivial⟩) rfl rfl rfl ?_
  intro g2 a2 w2 hF hI
  refine wp_ret ?_
  show bodyPost Tryz.prog Tryz.f95 (RetR w (fun d => .agg #[.slice (d.o 0) (wd (genN 1)).length (d.n 0), .slice none 0 0]) (fun d w => NA (genN 1) (d.o 0) (d.n 0) w)) .ret _ _
  exact sym_ret rfl hF.df (rv_cell 0 hF rfl hI rfl Tryz.underlying35 rfl (by kernel_rfl)) ⟨datS [(((g2.δ 1).n 0), ((g2.δ 1).o 0))], rfl, hI.below, hI.fact 0 rfl⟩

set_option maxRecDepth 100000 in
theorem refone_2 {w : World} : Calls Tryz.prog 95 #[.string (genS 2)] w (RetR w (fun d => .agg #[.slice (d.o 0) (wd (genN 2)).length (d.n 0), .slice none 0 0]) (fun d w => NA (genN 2) (d.o 0) (d.n 0) w)) := by
  refine calls_of_wp Tryz.func95 (by rfl : Tryz.f95.body = some _) ?_
  have hF : Fr [(0, .string (genS 2))] 6 _ := Fr.start (args := #[.string (genS 2)]) (m := 6) (by simp)
  have hI := Inv.start0 w
  refine wp_seq ?_
  refine sy [] #[.new [] (fun _ => (([Value.slice none 0 0] ++ [Value.slice none 0 0])).toArray) 35]
    (fun g1 => [(0, .string (genS 2)), (2, pt (g1.γ 0))]) (fun g1 => [((g1.γ 0), ([Value.slice none 0 0] ++ [Value.slice none 0 0]), 35)]) (fun _ => [])
    hF hI trivial (fun g => ⟨nw, trivial⟩) ?_
  intro g1 a1 w1 hF hI
  refine wp_seq ?_
  refine ss [35] #[va (.string (genS 2)),
      .ex [] (fun d => .slice (d.o 0) (wd (genN 2)).length (d.n 0)) (fun _ d => fun w => NA (genN 2) (d.o 0) (d.n 0) w),
      .val [1] (fun l => .agg (([Value.slice ((l.getD 0 dat0).o 0) (wd (genN 2)).length ((l.getD 0 dat0).n 0)] ++ [Value.slice none 0 0])).toArray)]
    (fun g2 => [(2, pt (g1.γ 0))]) (fun g2 => [((g1.γ 0), ([Value.slice ((g2.δ 1).o 0) (wd (genN 2)).length ((g2.δ 1).n 0)] ++ [Value.slice none 0 0]), 35)]) (fun g2 => [fun w => NA (genN 2) ((g2.δ 1).o 0) ((g2.δ 1).n 0) w]) 0 0
    hF hI trivial (fun g => ⟨pv,
      cx (fun l d w w1 hg h => NA.grow hg rfl h) fun w hI hfa => refhex_g 2 (by decide) (by decide),
      pv, trivial⟩) rfl rfl rfl ?_
  intro g2 a2 w2 hF hI
  refine wp_ret ?_
  show bodyPost Tryz.prog Tryz.f95 (RetR w (fun d => .agg #[.slice (d.o 0) (wd (genN 2)).length (d.n 0), .slice none 0 0]) (fun d w => NA (genN 2) (d.o 0) (d.n 0) w)) .ret _ _
  exact sym_ret rfl hF.df (rv_cell 0 hF rfl hI rfl Tryz.underlying35 rfl (by kernel_rfl)) ⟨datS [(((g2.δ 1).n 0), ((g2.δ 1).o 0))], rfl, hI.below, hI.fact 0 rfl⟩

set_option maxRecDepth 100000 in
theorem refone_3 {w : World} : Calls Tryz.prog 95 #[.string (genS 3)] w (RetR w (fun d => .agg #[.slice (d.o 0) (wd (genN 3)).length (d.n 0), .slice none 0 0]) (fun d w => NA (genN 3) (d.o 0) (d.n 0) w)) := by
  refine calls_of_wp Tryz.func95 (by rfl : Tryz.f95.body = some _) ?_
  have hF : Fr [(0, .string (genS 3))] 6 _ := Fr.start (args := #[.string (genS 3)]) (m := 6) (by simp)
  have hI := Inv.start0 w
  refine wp_seq ?_
  refine sy [] #[.new [] (fun _ => (([Value.slice none 0 0] ++ [Value.slice none 0 0])).toArray) 35]
    (fun g1 => [(0, .string (genS 3)), (2, pt (g1.γ 0))]) (fun g1 => [((g1.γ 0), ([Value.slice none 0 0] ++ [Value.slice none 0 0]), 35)]) (fun _ => [])
    hF hI trivial (fun g => ⟨nw, trivial⟩) ?_
  intro g1 a1 w1 hF hI
  refine wp_seq ?_
  refine ss [35] #[va (.string (genS 3)),
      .ex [] (fun d => .slice (d.o 0) (wd (genN 3)).length (d.n 0)) (fun _ d => fun w => NA (genN 3) (d.o 0) (d.n 0) w),
      .val [1] (fun l => .agg (([Value.slice ((l.getD 0 dat0).o 0) (wd (genN 3)).length ((l.getD 0 dat0).n 0)] ++ [Value.slice none 0 0])).toArray)]
    (fun g2 => [(2, pt (g1.γ 0))]) (fun g2 => [((g1.γ 0), ([Value.slice ((g2.δ 1).o 0) (wd (genN 3)).length ((g2.δ 1).n 0)] ++ [Value.slice none 0 0]), 35)]) (fun g2 => [fun w => NA (genN 3) ((g2.δ 1).o 0) ((g2.δ 1).n 0) w]) 0 0
    hF hI trivial (fun g => ⟨pv,
      cx (fun l d w w1 hg h => NA.grow hg rfl h) fun w hI hfa => refhex_g 3 (by decide) (by decide),
      pv, trivial⟩) rfl rfl rfl ?_
  intro g2 a2 w2 hF hI
  refine wp_ret ?_
  show bodyPost Tryz.prog Tryz.f95 (RetR w (fun d => .agg #[.slice (d.o 0) (wd (genN 3)).length (d.n 0), .slice none 0 0]) (fun d w => NA (genN 3) (d.o 0) (d.n 0) w)) .ret _ _
  exact sym_ret rfl hF.df (rv_cell 0 hF rfl hI rfl Tryz.underlying35 rfl (by kernel_rfl)) ⟨datS [(((g2.δ 1).n 0), ((g2.δ 1).o 0))], rfl, hI.below, hI.fact 0 rfl⟩

set_option maxRecDepth 100000 in
theorem refone_4 {w : World} : Calls Tryz.prog 95 #[.string (genS 4)] w (RetR w (fun d => .agg #[.slice (d.o 0) (wd (genN 4)).length (d.n 0), .slice none 0 0]) (fun d w => NA (genN 4) (d.o 0) (d.n 0) w)) := by
  refine calls_of_wp Tryz.func95 (by rfl : Tryz.f95.body = some _) ?_
  have hF : Fr [(0, .string (genS 4))] 6 _ := Fr.start (args := #[.string (genS 4)]) (m := 6) (by simp)
  have hI := Inv.start0 w
  refine wp_seq ?_
  refine sy [] #[.new [] (fun _ => (([Value.slice none 0 0] ++ [Value.slice none 0 0])).toArray) 35]
    (fun g1 => [(0, .string (genS 4)), (2, pt (g1.γ 0))]) (fun g1 => [((g1.γ 0), ([Value.slice none 0 0] ++ [Value.slice none 0 0]), 35)]) (fun _ => [])
    hF hI trivial (fun g => ⟨nw, trivial⟩) ?_
  intro g1 a1 w1 hF hI
  refine wp_seq ?_
  refine ss [35] #[va (.string (genS 4)),
      .ex [] (fun d => .slice (d.o 0) (wd (genN 4)).length (d.n 0)) (fun _ d => fun w => NA (genN 4) (d.o 0) (d.n 0) w),
      .val [1] (fun l => .agg (([Value.slice ((l.getD 0 dat0).o 0) (wd (genN 4)).length ((l.getD 0 dat0).n 0)] ++ [Value.slice none 0 0])).toArray)]
    (fun g2 => [(2, pt (g1.γ 0))]) (fun g2 => [((g1.γ 0), ([Value.slice ((g2.δ 1).o 0) (wd (genN 4)).length ((g2.δ 1).n 0)] ++ [Value.slice none 0 0]), 35)]) (fun g2 => [fun w => NA (genN 4) ((g2.δ 1).o 0) ((g2.δ 1).n 0) w]) 0 0
    hF hI trivial (fun g => ⟨pv,
      cx (fun l d w w1 hg h => NA.grow hg rfl h) fun w hI hfa => refhex_g 4 (by decide) (by decide),
      pv, trivial⟩) rfl rfl rfl ?_
  intro g2 a2 w2 hF hI
  refine wp_ret ?_
  show bodyPost Tryz.prog Tryz.f95 (RetR w (fun d => .agg #[.slice (d.o 0) (wd (genN 4)).length (d.n 0), .slice none 0 0]) (fun d w => NA (genN 4) (d.o 0) (d.n 0) w)) .ret _ _
  exact sym_ret rfl hF.df (rv_cell 0 hF rfl hI rfl Tryz.underlying35 rfl (by kernel_rfl)) ⟨datS [(((g2.δ 1).n 0), ((g2.δ 1).o 0))], rfl, hI.below, hI.fact 0 rfl⟩

/-- The document's curve over a prime field. -/
abbrev crV (c : Nat) (d : Dat) : Value := .agg #[.slice (d.o 0) (wd (prm (2 * c - 1))).length (d.n 0), .int .i64 (if c = 3 then 48 else 32), .slice (d.o 1) (wd (cbN c)).length (d.n 1), .slice none 0 0,
  .slice (d.o 2) (wd (prm (2 * c))).length (d.n 2), .slice (d.o 3) (wd (gxN c)).length (d.n 3), .slice none 0 0, .slice (d.o 4) (wd (gyN c)).length (d.n 4), .slice none 0 0, .bool false, .bool false]
def CrA (c : Nat) (d : Dat) (w : World) : Prop := NA (prm (2 * c - 1)) (d.o 0) (d.n 0) w ∧ NA (cbN c) (d.o 1) (d.n 1) w ∧ NA (prm (2 * c)) (d.o 2) (d.n 2) w ∧ NA (gxN c) (d.o 3) (d.n 3) w ∧ NA (gyN c) (d.o 4) (d.n 4) w
theorem CrA.grow {T : List TypeId} {w w' : World} {c : Nat} {d : Dat} (hg : Grow T w w') (hT : T.contains 180 = false) (h : CrA c d w) : CrA c d w' :=
  ⟨h.1.grow hg hT, h.2.1.grow hg hT, h.2.2.1.grow hg hT, h.2.2.2.1.grow hg hT, h.2.2.2.2.grow hg hT⟩
set_option maxRecDepth 100000 in
set_option maxHeartbeats 1000000 in
theorem ref8of_1 {w : World} : Calls Tryz.prog 23 #[.int .i64 1, .bool false] w (RetR w (fun d => .tuple #[crV 1 d, .bool true]) (CrA 1)) := by
  refine calls_of_wp Tryz.func23 (by rfl : Tryz.f23.body = some _) ?_
  have hF : Fr [(0, .int .i64 1), (1, .bool false)] 152 _ := Fr.start (args := #[.int .i64 1, .bool false]) (m := 152) (by simp)
  have hI := Inv.start0 w
  refine wp_seq ?_
  refine sy [] #[.new [] (fun _ => (([Value.slice none 0 0] ++ ([Value.int .i64 0] ++ ([Value.slice none 0 0] ++ ([Value.slice none 0 0] ++ ([Value.slice none 0 0] ++ ([Value.slice none 0 0] ++ ([Value.slice none 0 0] ++ ([Value.slice none 0 0] ++ ([Value.slice none 0 0] ++ ([Value.bool false] ++ [Value.bool false]))))))))))).toArray) 39,
      va (.bool false)]
    (fun g1 => [(0, .int .i64 1), (1, .bool false), (4, pt (g1.γ 0)), (5, .bool false)]) (fun g1 => [((g1.γ 0), ([Value.slice none 0 0] ++ ([Value.int .i64 0] ++ ([Value.slice none 0 0] ++ ([Value.slice none 0 0] ++ ([Value.slice none 0 0] ++ ([Value.slice none 0 0] ++ ([Value.slice none 0 0] ++ ([Value.slice none 0 0] ++ ([Value.slice none 0 0] ++ ([Value.bool false] ++ [Value.bool false])))))))))), 39)]) (fun _ => [])
    hF hI trivial (fun g => ⟨nw,
      pv, trivial⟩) ?_
  intro g1 a1 w1 hF hI
  refine wp_seq ?_
  refine wp_block ?_
  refine wp_seq ?_
  refine sy [] #[va (.int .i64 1),
      va (.bool true),
      va (.bool true),
      va (.bool false),
      va (.bool true),
      va (.bool true),
      va (.bool true)]
    (fun g2 => [(0, .int .i64 1), (1, .bool false), (4, pt (g1.γ 0)), (5, .bool false), (27, .bool true)]) (fun _ => [((g1.γ 0), ([Value.slice none 0 0] ++ ([Value.int .i64 0] ++ ([Value.slice none 0 0] ++ ([Value.slice none 0 0] ++ ([Value.slice none 0 0] ++ ([Value.slice none 0 0] ++ ([Value.slice none 0 0] ++ ([Value.slice none 0 0] ++ ([Value.slice none 0 0] ++ ([Value.bool false] ++ [Value.bool false])))))))))), 39)]) (fun _ => [])
    hF hI trivial (fun g => ⟨pv,
      pv,
      pv,
      pv,
      pv,
      pv,
      pv, trivial⟩) ?_
  intro g2 a2 w2 hF hI
  refine wp_cond_true (hF.eval rfl) ?_
  refine wp_seq ?_
  refine sy [33] #[.ex [] (fun d => .tuple #[.agg #[.slice (d.o 0) (wd (prm 1)).length (d.n 0), .int .i64 32], .bool true]) (fun _ d => fun w => NA (prm 1) (d.o 0) (d.n 0) w),
      .val [0] (fun l => .tuple #[.agg (([Value.slice ((l.getD 0 dat0).o 0) (wd (prm 1)).length ((l.getD 0 dat0).n 0)] ++ [Value.int .i64 32])).toArray, .bool true]),
      .val [0] (fun l => .agg (([Value.slice ((l.getD 0 dat0).o 0) (wd (prm 1)).length ((l.getD 0 dat0).n 0)] ++ [Value.int .i64 32])).toArray),
      va (.bool true),
      .new [] (fun _ => (([Value.slice none 0 0] ++ [Value.int .i64 0])).toArray) 33,
      .put 4 [0] (fun l => (([Value.slice ((l.getD 0 dat0).o 0) (wd (prm 1)).length ((l.getD 0 dat0).n 0)] ++ [Value.int .i64 32])).toArray),
      va (.bool true)]
    (fun g3 => [(4, pt (g1.γ 0)), (5, .bool false), (6, pt (g3.γ 4))]) (fun g3 => [((g1.γ 0), ([Value.slice none 0 0] ++ ([Value.int .i64 0] ++ ([Value.slice none 0 0] ++ ([Value.slice none 0 0] ++ ([Value.slice none 0 0] ++ ([Value.slice none 0 0] ++ ([Value.slice none 0 0] ++ ([Value.slice none 0 0] ++ ([Value.slice none 0 0] ++ ([Value.bool false] ++ [Value.bool false])))))))))), 39), ((g3.γ 4), ([Value.slice ((g3.δ 0).o 0) (wd (prm 1)).length ((g3.δ 0).n 0)] ++ [Value.int .i64 32]), 33)]) (fun g3 => [fun w => NA (prm 1) ((g3.δ 0).o 0) ((g3.δ 0).n 0) w])
    hF hI trivial (fun g => ⟨cx (fun l d w w1 hg h => NA.grow hg rfl h) fun w hI hfa => ref6of_1,
      pv,
      pv,
      pv,
      nw,
      po (.agg (([Value.slice ((g.δ 0).o 0) (wd (prm 1)).length ((g.δ 0).n 0)] ++ [Value.int .i64 32])).toArray) (([Value.slice none 0 0] ++ [Value.int .i64 0])) rfl,
      pv, trivial⟩) ?_
  intro g3 a3 w3 hF hI
  refine wp_seq ?_
  refine sy [33] #[.ex [] (fun d => .tuple #[.agg #[.slice (d.o 0) (wd (prm 2)).length (d.n 0), .int .i64 32], .bool true]) (fun _ d => fun w => NA (prm 2) (d.o 0) (d.n 0) w),
      .val [0] (fun l => .tuple #[.agg (([Value.slice ((l.getD 0 dat0).o 0) (wd (prm 2)).length ((l.getD 0 dat0).n 0)] ++ [Value.int .i64 32])).toArray, .bool true]),
      .val [0] (fun l => .agg (([Value.slice ((l.getD 0 dat0).o 0) (wd (prm 2)).length ((l.getD 0 dat0).n 0)] ++ [Value.int .i64 32])).toArray),
      va (.bool true),
      .new [] (fun _ => (([Value.slice none 0 0] ++ [Value.int .i64 0])).toArray) 33,
      .put 4 [0] (fun l => (([Value.slice ((l.getD 0 dat0).o 0) (wd (prm 2)).length ((l.getD 0 dat0).n 0)] ++ [Value.int .i64 32])).toArray),
      va (.bool true)]
    (fun g4 => [(4, pt (g1.γ 0)), (5, .bool false), (6, pt (g3.γ 4)), (8, pt (g4.γ 4))]) (fun g4 => [((g1.γ 0), ([Value.slice none 0 0] ++ ([Value.int .i64 0] ++ ([Value.slice none 0 0] ++ ([Value.slice none 0 0] ++ ([Value.slice none 0 0] ++ ([Value.slice none 0 0] ++ ([Value.slice none 0 0] ++ ([Value.slice none 0 0] ++ ([Value.slice none 0 0] ++ ([Value.bool false] ++ [Value.bool false])))))))))), 39), ((g3.γ 4), ([Value.slice ((g3.δ 0).o 0) (wd (prm 1)).length ((g3.δ 0).n 0)] ++ [Value.int .i64 32]), 33), ((g4.γ 4), ([Value.slice ((g4.δ 0).o 0) (wd (prm 2)).length ((g4.δ 0).n 0)] ++ [Value.int .i64 32]), 33)]) (fun g4 => [fun w => NA (prm 1) ((g3.δ 0).o 0) ((g3.δ 0).n 0) w, fun w => NA (prm 2) ((g4.δ 0).o 0) ((g4.δ 0).n 0) w])
    hF hI ⟨(fun w w1 hg h => NA.grow hg rfl h), trivial⟩ (fun g => ⟨cx (fun l d w w1 hg h => NA.grow hg rfl h) fun w hI hfa => ref6of_2,
      pv,
      pv,
      pv,
      nw,
      po (.agg (([Value.slice ((g.δ 0).o 0) (wd (prm 2)).length ((g.δ 0).n 0)] ++ [Value.int .i64 32])).toArray) (([Value.slice none 0 0] ++ [Value.int .i64 0])) rfl,
      pv, trivial⟩) ?_
  intro g4 a4 w4 hF hI
  refine wp_seq ?_
  refine ss2 [39] #[va (.agg (([Value.slice ((g3.δ 0).o 0) (wd (prm 1)).length ((g3.δ 0).n 0)] ++ [Value.int .i64 32])).toArray),
      .ex [] (fun d => .slice (d.o 0) (wd 7).length (d.n 0)) (fun _ d => fun w => NA 7 (d.o 0) (d.n 0) w),
      .val [1] (fun l => .agg (([Value.slice ((l.getD 0 dat0).o 0) (wd 7).length ((l.getD 0 dat0).n 0)] ++ [Value.slice none 0 0])).toArray),
      va (pt (g4.γ 4)),
      va (.slice ((g4.δ 0).o 0) (wd (prm 2)).length ((g4.δ 0).n 0)),
      .ex [] (fun d => .agg #[.slice (d.o 0) (wd (genN 1)).length (d.n 0), .slice none 0 0]) (fun _ d => fun w => NA (genN 1) (d.o 0) (d.n 0) w),
      .ex [] (fun d => .agg #[.slice (d.o 0) (wd (genN 2)).length (d.n 0), .slice none 0 0]) (fun _ d => fun w => NA (genN 2) (d.o 0) (d.n 0) w),
      .val [5, 6] (fun l => .agg (([Value.slice ((l.getD 0 dat0).o 0) (wd (genN 1)).length ((l.getD 0 dat0).n 0)] ++ ([Value.slice none 0 0] ++ ([Value.slice ((l.getD 1 dat0).o 0) (wd (genN 2)).length ((l.getD 1 dat0).n 0)] ++ ([Value.slice none 0 0] ++ [Value.bool false]))))).toArray),
      .val [1, 5, 6] (fun l => .agg (([Value.slice ((g3.δ 0).o 0) (wd (prm 1)).length ((g3.δ 0).n 0)] ++ ([Value.int .i64 32] ++ ([Value.slice ((l.getD 0 dat0).o 0) (wd 7).length ((l.getD 0 dat0).n 0)] ++ ([Value.slice none 0 0] ++ ([Value.slice ((g4.δ 0).o 0) (wd (prm 2)).length ((g4.δ 0).n 0)] ++ ([Value.slice ((l.getD 1 dat0).o 0) (wd (genN 1)).length ((l.getD 1 dat0).n 0)] ++ ([Value.slice none 0 0] ++ ([Value.slice ((l.getD 2 dat0).o 0) (wd (genN 2)).length ((l.getD 2 dat0).n 0)] ++ ([Value.slice none 0 0] ++ ([Value.bool false] ++ [Value.bool false]))))))))))).toArray)]
    (fun g5 => [(4, pt (g1.γ 0))]) (fun g5 => [((g1.γ 0), ([Value.slice ((g3.δ 0).o 0) (wd (prm 1)).length ((g3.δ 0).n 0)] ++ ([Value.int .i64 32] ++ ([Value.slice ((g5.δ 1).o 0) (wd 7).length ((g5.δ 1).n 0)] ++ ([Value.slice none 0 0] ++ ([Value.slice ((g4.δ 0).o 0) (wd (prm 2)).length ((g4.δ 0).n 0)] ++ ([Value.slice ((g5.δ 5).o 0) (wd (genN 1)).length ((g5.δ 5).n 0)] ++ ([Value.slice none 0 0] ++ ([Value.slice ((g5.δ 6).o 0) (wd (genN 2)).length ((g5.δ 6).n 0)] ++ ([Value.slice none 0 0] ++ ([Value.bool false] ++ [Value.bool false])))))))))), 39), ((g3.γ 4), ([Value.slice ((g3.δ 0).o 0) (wd (prm 1)).length ((g3.δ 0).n 0)] ++ [Value.int .i64 32]), 33), ((g4.γ 4), ([Value.slice ((g4.δ 0).o 0) (wd (prm 2)).length ((g4.δ 0).n 0)] ++ [Value.int .i64 32]), 33)]) (fun g5 => [fun w => NA (prm 1) ((g3.δ 0).o 0) ((g3.δ 0).n 0) w, fun w => NA (prm 2) ((g4.δ 0).o 0) ((g4.δ 0).n 0) w, fun w => NA 7 ((g5.δ 1).o 0) ((g5.δ 1).n 0) w, fun w => NA (genN 1) ((g5.δ 5).o 0) ((g5.δ 5).n 0) w, fun w => NA (genN 2) ((g5.δ 6).o 0) ((g5.δ 6).n 0) w]) 0 0
    hF hI ⟨(fun w w1 hg h => NA.grow hg rfl h), (fun w w1 hg h => NA.grow hg rfl h), trivial⟩ (fun g => ⟨lk 1 0 rfl rfl,
      cx (fun l d w w1 hg h => NA.grow hg rfl h) fun w hI hfa => of_n (by decide),
      pv,
      pv,
      lk1 2 0 rfl rfl,
      cx (fun l d w w1 hg h => NA.grow hg rfl h) fun w hI hfa => refone_1,
      cx (fun l d w w1 hg h => NA.grow hg rfl h) fun w hI hfa => refone_2,
      pv,
      pv, trivial⟩) rfl rfl rfl rfl rfl rfl ?_
  intro g5 a5 w5 hF hI
  refine wp_ret ?_
  show bodyPost Tryz.prog Tryz.f23 (RetR w (fun d => .tuple #[crV 1 d, .bool true]) (CrA 1)) .ret _ _
  exact sym_ret2 rfl hF.df (rv_cell 0 hF rfl hI rfl Tryz.underlying39 rfl (by kernel_rfl)) (rv_tmp hF rfl) ⟨datS [(((g3.δ 0).n 0), ((g3.δ 0).o 0)), (((g5.δ 1).n 0), ((g5.δ 1).o 0)), (((g4.δ 0).n 0), ((g4.δ 0).o 0)), (((g5.δ 5).n 0), ((g5.δ 5).o 0)), (((g5.δ 6).n 0), ((g5.δ 6).o 0))], rfl, hI.below, ⟨hI.fact 0 rfl, hI.fact 2 rfl, hI.fact 1 rfl, hI.fact 3 rfl, hI.fact 4 rfl⟩⟩

set_option maxRecDepth 100000 in
set_option maxHeartbeats 1000000 in
theorem ref8of_2 {w : World} : Calls Tryz.prog 23 #[.int .i64 2, .bool false] w (RetR w (fun d => .tuple #[crV 2 d, .bool true]) (CrA 2)) := by
  refine calls_of_wp Tryz.func23 (by rfl : Tryz.f23.body = some _) ?_
  have hF : Fr [(0, .int .i64 2), (1, .bool false)] 152 _ := Fr.start (args := #[.int .i64 2, .bool false]) (m := 152) (by simp)
  have hI := Inv.start0 w
  refine wp_seq ?_
  refine sy [] #[.new [] (fun _ => (([Value.slice none 0 0] ++ ([Value.int .i64 0] ++ ([Value.slice none 0 0] ++ ([Value.slice none 0 0] ++ ([Value.slice none 0 0] ++ ([Value.slice none 0 0] ++ ([Value.slice none 0 0] ++ ([Value.slice none 0 0] ++ ([Value.slice none 0 0] ++ ([Value.bool false] ++ [Value.bool false]))))))))))).toArray) 39,
      va (.bool false)]
    (fun g1 => [(0, .int .i64 2), (1, .bool false), (4, pt (g1.γ 0)), (5, .bool false)]) (fun g1 => [((g1.γ 0), ([Value.slice none 0 0] ++ ([Value.int .i64 0] ++ ([Value.slice none 0 0] ++ ([Value.slice none 0 0] ++ ([Value.slice none 0 0] ++ ([Value.slice none 0 0] ++ ([Value.slice none 0 0] ++ ([Value.slice none 0 0] ++ ([Value.slice none 0 0] ++ ([Value.bool false] ++ [Value.bool false])))))))))), 39)]) (fun _ => [])
    hF hI trivial (fun g => ⟨nw,
      pv, trivial⟩) ?_
  intro g1 a1 w1 hF hI
  refine wp_seq ?_
  refine wp_block ?_
  refine wp_seq ?_
  refine sy [] #[va (.int .i64 2),
      va (.bool false),
      va (.bool false),
      .off,
      .off,
      va (.bool false),
      va (.bool false)]
    (fun g2 => [(0, .int .i64 2), (1, .bool false), (4, pt (g1.γ 0)), (5, .bool false), (27, .bool false)]) (fun _ => [((g1.γ 0), ([Value.slice none 0 0] ++ ([Value.int .i64 0] ++ ([Value.slice none 0 0] ++ ([Value.slice none 0 0] ++ ([Value.slice none 0 0] ++ ([Value.slice none 0 0] ++ ([Value.slice none 0 0] ++ ([Value.slice none 0 0] ++ ([Value.slice none 0 0] ++ ([Value.bool false] ++ [Value.bool false])))))))))), 39)]) (fun _ => [])
    hF hI trivial (fun g => ⟨pv,
      pv,
      pv,
      offV,
      offV,
      pv,
      pv, trivial⟩) ?_
  intro g2 a2 w2 hF hI
  refine wp_cond_false (hF.eval rfl) ?_
  refine wp_seq ?_
  refine sy [] #[va (.int .i64 2),
      va (.bool true),
      va (.bool true),
      va (.bool false),
      va (.bool true),
      va (.bool true),
      va (.bool true)]
    (fun g3 => [(0, .int .i64 2), (1, .bool false), (4, pt (g1.γ 0)), (5, .bool false), (51, .bool true)]) (fun _ => [((g1.γ 0), ([Value.slice none 0 0] ++ ([Value.int .i64 0] ++ ([Value.slice none 0 0] ++ ([Value.slice none 0 0] ++ ([Value.slice none 0 0] ++ ([Value.slice none 0 0] ++ ([Value.slice none 0 0] ++ ([Value.slice none 0 0] ++ ([Value.slice none 0 0] ++ ([Value.bool false] ++ [Value.bool false])))))))))), 39)]) (fun _ => [])
    hF hI trivial (fun g => ⟨pv,
      pv,
      pv,
      pv,
      pv,
      pv,
      pv, trivial⟩) ?_
  intro g3 a3 w3 hF hI
  refine wp_cond_true (hF.eval rfl) ?_
  refine wp_seq ?_
  refine sy [33] #[.ex [] (fun d => .tuple #[.agg #[.slice (d.o 0) (wd (prm 3)).length (d.n 0), .int .i64 32], .bool true]) (fun _ d => fun w => NA (prm 3) (d.o 0) (d.n 0) w),
      .val [0] (fun l => .tuple #[.agg (([Value.slice ((l.getD 0 dat0).o 0) (wd (prm 3)).length ((l.getD 0 dat0).n 0)] ++ [Value.int .i64 32])).toArray, .bool true]),
      .val [0] (fun l => .agg (([Value.slice ((l.getD 0 dat0).o 0) (wd (prm 3)).length ((l.getD 0 dat0).n 0)] ++ [Value.int .i64 32])).toArray),
      va (.bool true),
      .new [] (fun _ => (([Value.slice none 0 0] ++ [Value.int .i64 0])).toArray) 33,
      .put 4 [0] (fun l => (([Value.slice ((l.getD 0 dat0).o 0) (wd (prm 3)).length ((l.getD 0 dat0).n 0)] ++ [Value.int .i64 32])).toArray),
      va (.bool true)]
    (fun g4 => [(4, pt (g1.γ 0)), (5, .bool false), (10, pt (g4.γ 4))]) (fun g4 => [((g1.γ 0), ([Value.slice none 0 0] ++ ([Value.int .i64 0] ++ ([Value.slice none 0 0] ++ ([Value.slice none 0 0] ++ ([Value.slice none 0 0] ++ ([Value.slice none 0 0] ++ ([Value.slice none 0 0] ++ ([Value.slice none 0 0] ++ ([Value.slice none 0 0] ++ ([Value.bool false] ++ [Value.bool false])))))))))), 39), ((g4.γ 4), ([Value.slice ((g4.δ 0).o 0) (wd (prm 3)).length ((g4.δ 0).n 0)] ++ [Value.int .i64 32]), 33)]) (fun g4 => [fun w => NA (prm 3) ((g4.δ 0).o 0) ((g4.δ 0).n 0) w])
    hF hI trivial (fun g => ⟨cx (fun l d w w1 hg h => NA.grow hg rfl h) fun w hI hfa => ref6of_3,
      pv,
      pv,
      pv,
      nw,
      po (.agg (([Value.slice ((g.δ 0).o 0) (wd (prm 3)).length ((g.δ 0).n 0)] ++ [Value.int .i64 32])).toArray) (([Value.slice none 0 0] ++ [Value.int .i64 0])) rfl,
      pv, trivial⟩) ?_
  intro g4 a4 w4 hF hI
  refine wp_seq ?_
  refine sy [33] #[.ex [] (fun d => .tuple #[.agg #[.slice (d.o 0) (wd (prm 4)).length (d.n 0), .int .i64 32], .bool true]) (fun _ d => fun w => NA (prm 4) (d.o 0) (d.n 0) w),
      .val [0] (fun l => .tuple #[.agg (([Value.slice ((l.getD 0 dat0).o 0) (wd (prm 4)).length ((l.getD 0 dat0).n 0)] ++ [Value.int .i64 32])).toArray, .bool true]),
      .val [0] (fun l => .agg (([Value.slice ((l.getD 0 dat0).o 0) (wd (prm 4)).length ((l.getD 0 dat0).n 0)] ++ [Value.int .i64 32])).toArray),
      va (.bool true),
      .new [] (fun _ => (([Value.slice none 0 0] ++ [Value.int .i64 0])).toArray) 33,
      .put 4 [0] (fun l => (([Value.slice ((l.getD 0 dat0).o 0) (wd (prm 4)).length ((l.getD 0 dat0).n 0)] ++ [Value.int .i64 32])).toArray),
      va (.bool true)]
    (fun g5 => [(4, pt (g1.γ 0)), (5, .bool false), (10, pt (g4.γ 4)), (12, pt (g5.γ 4))]) (fun g5 => [((g1.γ 0), ([Value.slice none 0 0] ++ ([Value.int .i64 0] ++ ([Value.slice none 0 0] ++ ([Value.slice none 0 0] ++ ([Value.slice none 0 0] ++ ([Value.slice none 0 0] ++ ([Value.slice none 0 0] ++ ([Value.slice none 0 0] ++ ([Value.slice none 0 0] ++ ([Value.bool false] ++ [Value.bool false])))))))))), 39), ((g4.γ 4), ([Value.slice ((g4.δ 0).o 0) (wd (prm 3)).length ((g4.δ 0).n 0)] ++ [Value.int .i64 32]), 33), ((g5.γ 4), ([Value.slice ((g5.δ 0).o 0) (wd (prm 4)).length ((g5.δ 0).n 0)] ++ [Value.int .i64 32]), 33)]) (fun g5 => [fun w => NA (prm 3) ((g4.δ 0).o 0) ((g4.δ 0).n 0) w, fun w => NA (prm 4) ((g5.δ 0).o 0) ((g5.δ 0).n 0) w])
    hF hI ⟨(fun w w1 hg h => NA.grow hg rfl h), trivial⟩ (fun g => ⟨cx (fun l d w w1 hg h => NA.grow hg rfl h) fun w hI hfa => ref6of_4,
      pv,
      pv,
      pv,
      nw,
      po (.agg (([Value.slice ((g.δ 0).o 0) (wd (prm 4)).length ((g.δ 0).n 0)] ++ [Value.int .i64 32])).toArray) (([Value.slice none 0 0] ++ [Value.int .i64 0])) rfl,
      pv, trivial⟩) ?_
  intro g5 a5 w5 hF hI
  refine wp_seq ?_
  refine ss2 [39] #[va (.agg (([Value.slice ((g4.δ 0).o 0) (wd (prm 3)).length ((g4.δ 0).n 0)] ++ [Value.int .i64 32])).toArray),
      .ex [] (fun d => .slice (d.o 0) (wd 3).length (d.n 0)) (fun _ d => fun w => NA 3 (d.o 0) (d.n 0) w),
      .val [1] (fun l => .agg (([Value.slice ((l.getD 0 dat0).o 0) (wd 3).length ((l.getD 0 dat0).n 0)] ++ [Value.slice none 0 0])).toArray),
      va (pt (g5.γ 4)),
      va (.slice ((g5.δ 0).o 0) (wd (prm 4)).length ((g5.δ 0).n 0)),
      .ex [] (fun d => .slice (d.o 0) (wd 1).length (d.n 0)) (fun _ d => fun w => NA 1 (d.o 0) (d.n 0) w),
      .val [5] (fun l => .agg (([Value.slice ((l.getD 0 dat0).o 0) (wd 1).length ((l.getD 0 dat0).n 0)] ++ [Value.slice none 0 0])).toArray),
      .ex [] (fun d => .slice (d.o 0) (wd 2).length (d.n 0)) (fun _ d => fun w => NA 2 (d.o 0) (d.n 0) w),
      .val [7] (fun l => .agg (([Value.slice ((l.getD 0 dat0).o 0) (wd 2).length ((l.getD 0 dat0).n 0)] ++ [Value.slice none 0 0])).toArray),
      .val [5, 7] (fun l => .agg (([Value.slice ((l.getD 0 dat0).o 0) (wd 1).length ((l.getD 0 dat0).n 0)] ++ ([Value.slice none 0 0] ++ ([Value.slice ((l.getD 1 dat0).o 0) (wd 2).length ((l.getD 1 dat0).n 0)] ++ ([Value.slice none 0 0] ++ [Value.bool false]))))).toArray),
      .val [1, 5, 7] (fun l => .agg (([Value.slice ((g4.δ 0).o 0) (wd (prm 3)).length ((g4.δ 0).n 0)] ++ ([Value.int .i64 32] ++ ([Value.slice ((l.getD 0 dat0).o 0) (wd 3).length ((l.getD 0 dat0).n 0)] ++ ([Value.slice none 0 0] ++ ([Value.slice ((g5.δ 0).o 0) (wd (prm 4)).length ((g5.δ 0).n 0)] ++ ([Value.slice ((l.getD 1 dat0).o 0) (wd 1).length ((l.getD 1 dat0).n 0)] ++ ([Value.slice none 0 0] ++ ([Value.slice ((l.getD 2 dat0).o 0) (wd 2).length ((l.getD 2 dat0).n 0)] ++ ([Value.slice none 0 0] ++ ([Value.bool false] ++ [Value.bool false]))))))))))).toArray)]
    (fun g6 => [(4, pt (g1.γ 0))]) (fun g6 => [((g1.γ 0), ([Value.slice ((g4.δ 0).o 0) (wd (prm 3)).length ((g4.δ 0).n 0)] ++ ([Value.int .i64 32] ++ ([Value.slice ((g6.δ 1).o 0) (wd 3).length ((g6.δ 1).n 0)] ++ ([Value.slice none 0 0] ++ ([Value.slice ((g5.δ 0).o 0) (wd (prm 4)).length ((g5.δ 0).n 0)] ++ ([Value.slice ((g6.δ 5).o 0) (wd 1).length ((g6.δ 5).n 0)] ++ ([Value.slice none 0 0] ++ ([Value.slice ((g6.δ 7).o 0) (wd 2).length ((g6.δ 7).n 0)] ++ ([Value.slice none 0 0] ++ ([Value.bool false] ++ [Value.bool false])))))))))), 39), ((g4.γ 4), ([Value.slice ((g4.δ 0).o 0) (wd (prm 3)).length ((g4.δ 0).n 0)] ++ [Value.int .i64 32]), 33), ((g5.γ 4), ([Value.slice ((g5.δ 0).o 0) (wd (prm 4)).length ((g5.δ 0).n 0)] ++ [Value.int .i64 32]), 33)]) (fun g6 => [fun w => NA (prm 3) ((g4.δ 0).o 0) ((g4.δ 0).n 0) w, fun w => NA (prm 4) ((g5.δ 0).o 0) ((g5.δ 0).n 0) w, fun w => NA 3 ((g6.δ 1).o 0) ((g6.δ 1).n 0) w, fun w => NA 1 ((g6.δ 5).o 0) ((g6.δ 5).n 0) w, fun w => NA 2 ((g6.δ 7).o 0) ((g6.δ 7).n 0) w]) 0 0
    hF hI ⟨(fun w w1 hg h => NA.grow hg rfl h), (fun w w1 hg h => NA.grow hg rfl h), trivial⟩ (fun g => ⟨lk 1 0 rfl rfl,
      cx (fun l d w w1 hg h => NA.grow hg rfl h) fun w hI hfa => of_n (by decide),
      pv,
      pv,
      lk1 2 0 rfl rfl,
      cx (fun l d w w1 hg h => NA.grow hg rfl h) fun w hI hfa => of_n (by decide),
      pv,
      cx (fun l d w w1 hg h => NA.grow hg rfl h) fun w hI hfa => of_n (by decide),
      pv,
      pv,
      pv, trivial⟩) rfl rfl rfl rfl rfl rfl ?_
  intro g6 a6 w6 hF hI
  refine wp_ret ?_
  show bodyPost Tryz.prog Tryz.f23 (RetR w (fun d => .tuple #[crV 2 d, .bool true]) (CrA 2)) .ret _ _
  exact sym_ret2 rfl hF.df (rv_cell 0 hF rfl hI rfl Tryz.underlying39 rfl (by kernel_rfl)) (rv_tmp hF rfl) ⟨datS [(((g4.δ 0).n 0), ((g4.δ 0).o 0)), (((g6.δ 1).n 0), ((g6.δ 1).o 0)), (((g5.δ 0).n 0), ((g5.δ 0).o 0)), (((g6.δ 5).n 0), ((g6.δ 5).o 0)), (((g6.δ 7).n 0), ((g6.δ 7).o 0))], rfl, hI.below, ⟨hI.fact 0 rfl, hI.fact 2 rfl, hI.fact 1 rfl, hI.fact 3 rfl, hI.fact 4 rfl⟩⟩

set_option maxRecDepth 100000 in
set_option maxHeartbeats 1000000 in
theorem ref8of_3 {w : World} : Calls Tryz.prog 23 #[.int .i64 3, .bool false] w (RetR w (fun d => .tuple #[crV 3 d, .bool true]) (CrA 3)) := by
  refine calls_of_wp Tryz.func23 (by rfl : Tryz.f23.body = some _) ?_
  have hF : Fr [(0, .int .i64 3), (1, .bool false)] 152 _ := Fr.start (args := #[.int .i64 3, .bool false]) (m := 152) (by simp)
  have hI := Inv.start0 w
  refine wp_seq ?_
  refine sy [] #[.new [] (fun _ => (([Value.slice none 0 0] ++ ([Value.int .i64 0] ++ ([Value.slice none 0 0] ++ ([Value.slice none 0 0] ++ ([Value.slice none 0 0] ++ ([Value.slice none 0 0] ++ ([Value.slice none 0 0] ++ ([Value.slice none 0 0] ++ ([Value.slice none 0 0] ++ ([Value.bool false] ++ [Value.bool false]))))))))))).toArray) 39,
      va (.bool false)]
    (fun g1 => [(0, .int .i64 3), (1, .bool false), (4, pt (g1.γ 0)), (5, .bool false)]) (fun g1 => [((g1.γ 0), ([Value.slice none 0 0] ++ ([Value.int .i64 0] ++ ([Value.slice none 0 0] ++ ([Value.slice none 0 0] ++ ([Value.slice none 0 0] ++ ([Value.slice none 0 0] ++ ([Value.slice none 0 0] ++ ([Value.slice none 0 0] ++ ([Value.slice none 0 0] ++ ([Value.bool false] ++ [Value.bool false])))))))))), 39)]) (fun _ => [])
    hF hI trivial (fun g => ⟨nw,
      pv, trivial⟩) ?_
  intro g1 a1 w1 hF hI
  refine wp_seq ?_
  refine wp_block ?_
  refine wp_seq ?_
  refine sy [] #[va (.int .i64 3),
      va (.bool false),
      va (.bool false),
      .off,
      .off,
      va (.bool false),
      va (.bool false)]
    (fun g2 => [(0, .int .i64 3), (1, .bool false), (4, pt (g1.γ 0)), (5, .bool false), (27, .bool false)]) (fun _ => [((g1.γ 0), ([Value.slice none 0 0] ++ ([Value.int .i64 0] ++ ([Value.slice none 0 0] ++ ([Value.slice none 0 0] ++ ([Value.slice none 0 0] ++ ([Value.slice none 0 0] ++ ([Value.slice none 0 0] ++ ([Value.slice none 0 0] ++ ([Value.slice none 0 0] ++ ([Value.bool false] ++ [Value.bool false])))))))))), 39)]) (fun _ => [])
    hF hI trivial (fun g => ⟨pv,
      pv,
      pv,
      offV,
      offV,
      pv,
      pv, trivial⟩) ?_
  intro g2 a2 w2 hF hI
  refine wp_cond_false (hF.eval rfl) ?_
  refine wp_seq ?_
  refine sy [] #[va (.int .i64 3),
      va (.bool false),
      va (.bool false),
      .off,
      .off,
      va (.bool false),
      va (.bool false)]
    (fun g3 => [(0, .int .i64 3), (1, .bool false), (4, pt (g1.γ 0)), (5, .bool false), (51, .bool false)]) (fun _ => [((g1.γ 0), ([Value.slice none 0 0] ++ ([Value.int .i64 0] ++ ([Value.slice none 0 0] ++ ([Value.slice none 0 0] ++ ([Value.slice none 0 0] ++ ([Value.slice none 0 0] ++ ([Value.slice none 0 0] ++ ([Value.slice none 0 0] ++ ([Value.slice none 0 0] ++ ([Value.bool false] ++ [Value.bool false])))))))))), 39)]) (fun _ => [])
    hF hI trivial (fun g => ⟨pv,
      pv,
      pv,
      offV,
      offV,
      pv,
      pv, trivial⟩) ?_
  intro g3 a3 w3 hF hI
  refine wp_cond_false (hF.eval rfl) ?_
  refine wp_seq ?_
  refine sy [] #[va (.int .i64 3),
      va (.bool true),
      va (.bool true),
      va (.bool false),
      va (.bool true),
      va (.bool true),
      va (.bool true)]
    (fun g4 => [(0, .int .i64 3), (4, pt (g1.γ 0)), (5, .bool false), (77, .bool true)]) (fun _ => [((g1.γ 0), ([Value.slice none 0 0] ++ ([Value.int .i64 0] ++ ([Value.slice none 0 0] ++ ([Value.slice none 0 0] ++ ([Value.slice none 0 0] ++ ([Value.slice none 0 0] ++ ([Value.slice none 0 0] ++ ([Value.slice none 0 0] ++ ([Value.slice none 0 0] ++ ([Value.bool false] ++ [Value.bool false])))))))))), 39)]) (fun _ => [])
    hF hI trivial (fun g => ⟨pv,
      pv,
      pv,
      pv,
      pv,
      pv,
      pv, trivial⟩) ?_
  intro g4 a4 w4 hF hI
  refine wp_cond_true (hF.eval rfl) ?_
  refine wp_seq ?_
  refine sy [33] #[.ex [] (fun d => .tuple #[.agg #[.slice (d.o 0) (wd (prm 5)).length (d.n 0), .int .i64 48], .bool true]) (fun _ d => fun w => NA (prm 5) (d.o 0) (d.n 0) w),
      .val [0] (fun l => .tuple #[.agg (([Value.slice ((l.getD 0 dat0).o 0) (wd (prm 5)).length ((l.getD 0 dat0).n 0)] ++ [Value.int .i64 48])).toArray, .bool true]),
      .val [0] (fun l => .agg (([Value.slice ((l.getD 0 dat0).o 0) (wd (prm 5)).length ((l.getD 0 dat0).n 0)] ++ [Value.int .i64 48])).toArray),
      va (.bool true),
      .new [] (fun _ => (([Value.slice none 0 0] ++ [Value.int .i64 0])).toArray) 33,
      .put 4 [0] (fun l => (([Value.slice ((l.getD 0 dat0).o 0) (wd (prm 5)).length ((l.getD 0 dat0).n 0)] ++ [Value.int .i64 48])).toArray),
      va (.bool true)]
    (fun g5 => [(4, pt (g1.γ 0)), (5, .bool false), (14, pt (g5.γ 4))]) (fun g5 => [((g1.γ 0), ([Value.slice none 0 0] ++ ([Value.int .i64 0] ++ ([Value.slice none 0 0] ++ ([Value.slice none 0 0] ++ ([Value.slice none 0 0] ++ ([Value.slice none 0 0] ++ ([Value.slice none 0 0] ++ ([Value.slice none 0 0] ++ ([Value.slice none 0 0] ++ ([Value.bool false] ++ [Value.bool false])))))))))), 39), ((g5.γ 4), ([Value.slice ((g5.δ 0).o 0) (wd (prm 5)).length ((g5.δ 0).n 0)] ++ [Value.int .i64 48]), 33)]) (fun g5 => [fun w => NA (prm 5) ((g5.δ 0).o 0) ((g5.δ 0).n 0) w])
    hF hI trivial (fun g => ⟨cx (fun l d w w1 hg h => NA.grow hg rfl h) fun w hI hfa => ref6of_5,
      pv,
      pv,
      pv,
      nw,
      po (.agg (([Value.slice ((g.δ 0).o 0) (wd (prm 5)).length ((g.δ 0).n 0)] ++ [Value.int .i64 48])).toArray) (([Value.slice none 0 0] ++ [Value.int .i64 0])) rfl,
      pv, trivial⟩) ?_
  intro g5 a5 w5 hF hI
  refine wp_seq ?_
  refine sy [33] #[.ex [] (fun d => .tuple #[.agg #[.slice (d.o 0) (wd (prm 6)).length (d.n 0), .int .i64 32], .bool true]) (fun _ d => fun w => NA (prm 6) (d.o 0) (d.n 0) w),
      .val [0] (fun l => .tuple #[.agg (([Value.slice ((l.getD 0 dat0).o 0) (wd (prm 6)).length ((l.getD 0 dat0).n 0)] ++ [Value.int .i64 32])).toArray, .bool true]),
      .val [0] (fun l => .agg (([Value.slice ((l.getD 0 dat0).o 0) (wd (prm 6)).length ((l.getD 0 dat0).n 0)] ++ [Value.int .i64 32])).toArray),
      va (.bool true),
      .new [] (fun _ => (([Value.slice none 0 0] ++ [Value.int .i64 0])).toArray) 33,
      .put 4 [0] (fun l => (([Value.slice ((l.getD 0 dat0).o 0) (wd (prm 6)).length ((l.getD 0 dat0).n 0)] ++ [Value.int .i64 32])).toArray),
      va (.bool true)]
    (fun g6 => [(4, pt (g1.γ 0)), (5, .bool false), (14, pt (g5.γ 4)), (16, pt (g6.γ 4))]) (fun g6 => [((g1.γ 0), ([Value.slice none 0 0] ++ ([Value.int .i64 0] ++ ([Value.slice none 0 0] ++ ([Value.slice none 0 0] ++ ([Value.slice none 0 0] ++ ([Value.slice none 0 0] ++ ([Value.slice none 0 0] ++ ([Value.slice none 0 0] ++ ([Value.slice none 0 0] ++ ([Value.bool false] ++ [Value.bool false])))))))))), 39), ((g5.γ 4), ([Value.slice ((g5.δ 0).o 0) (wd (prm 5)).length ((g5.δ 0).n 0)] ++ [Value.int .i64 48]), 33), ((g6.γ 4), ([Value.slice ((g6.δ 0).o 0) (wd (prm 6)).length ((g6.δ 0).n 0)] ++ [Value.int .i64 32]), 33)]) (fun g6 => [fun w => NA (prm 5) ((g5.δ 0).o 0) ((g5.δ 0).n 0) w, fun w => NA (prm 6) ((g6.δ 0).o 0) ((g6.δ 0).n 0) w])
    hF hI ⟨(fun w w1 hg h => NA.grow hg rfl h), trivial⟩ (fun g => ⟨cx (fun l d w w1 hg h => NA.grow hg rfl h) fun w hI hfa => ref6of_6,
      pv,
      pv,
      pv,
      nw,
      po (.agg (([Value.slice ((g.δ 0).o 0) (wd (prm 6)).length ((g.δ 0).n 0)] ++ [Value.int .i64 32])).toArray) (([Value.slice none 0 0] ++ [Value.int .i64 0])) rfl,
      pv, trivial⟩) ?_
  intro g6 a6 w6 hF hI
  refine wp_seq ?_
  refine ss2 [39] #[va (.agg (([Value.slice ((g5.δ 0).o 0) (wd (prm 5)).length ((g5.δ 0).n 0)] ++ [Value.int .i64 48])).toArray),
      .ex [] (fun d => .slice (d.o 0) (wd 4).length (d.n 0)) (fun _ d => fun w => NA 4 (d.o 0) (d.n 0) w),
      .val [1] (fun l => .agg (([Value.slice ((l.getD 0 dat0).o 0) (wd 4).length ((l.getD 0 dat0).n 0)] ++ [Value.slice none 0 0])).toArray),
      va (pt (g6.γ 4)),
      va (.slice ((g6.δ 0).o 0) (wd (prm 6)).length ((g6.δ 0).n 0)),
      .ex [] (fun d => .agg #[.slice (d.o 0) (wd (genN 3)).length (d.n 0), .slice none 0 0]) (fun _ d => fun w => NA (genN 3) (d.o 0) (d.n 0) w),
      .ex [] (fun d => .agg #[.slice (d.o 0) (wd (genN 4)).length (d.n 0), .slice none 0 0]) (fun _ d => fun w => NA (genN 4) (d.o 0) (d.n 0) w),
      .val [5, 6] (fun l => .agg (([Value.slice ((l.getD 0 dat0).o 0) (wd (genN 3)).length ((l.getD 0 dat0).n 0)] ++ ([Value.slice none 0 0] ++ ([Value.slice ((l.getD 1 dat0).o 0) (wd (genN 4)).length ((l.getD 1 dat0).n 0)] ++ ([Value.slice none 0 0] ++ [Value.bool false]))))).toArray),
      .val [1, 5, 6] (fun l => .agg (([Value.slice ((g5.δ 0).o 0) (wd (prm 5)).length ((g5.δ 0).n 0)] ++ ([Value.int .i64 48] ++ ([Value.slice ((l.getD 0 dat0).o 0) (wd 4).length ((l.getD 0 dat0).n 0)] ++ ([Value.slice none 0 0] ++ ([Value.slice ((g6.δ 0).o 0) (wd (prm 6)).length ((g6.δ 0).n 0)] ++ ([Value.slice ((l.getD 1 dat0).o 0) (wd (genN 3)).length ((l.getD 1 dat0).n 0)] ++ ([Value.slice none 0 0] ++ ([Value.slice ((l.getD 2 dat0).o 0) (wd (genN 4)).length ((l.getD 2 dat0).n 0)] ++ ([Value.slice none 0 0] ++ ([Value.bool false] ++ [Value.bool false]))))))))))).toArray)]
    (fun g7 => [(4, pt (g1.γ 0))]) (fun g7 => [((g1.γ 0), ([Value.slice ((g5.δ 0).o 0) (wd (prm 5)).length ((g5.δ 0).n 0)] ++ ([Value.int .i64 48] ++ ([Value.slice ((g7.δ 1).o 0) (wd 4).length ((g7.δ 1).n 0)] ++ ([Value.slice none 0 0] ++ ([Value.slice ((g6.δ 0).o 0) (wd (prm 6)).length ((g6.δ 0).n 0)] ++ ([Value.slice ((g7.δ 5).o 0) (wd (genN 3)).length ((g7.δ 5).n 0)] ++ ([Value.slice none 0 0] ++ ([Value.slice ((g7.δ 6).o 0) (wd (genN 4)).length ((g7.δ 6).n 0)] ++ ([Value.slice none 0 0] ++ ([Value.bool false] ++ [Value.bool false])))))))))), 39), ((g5.γ 4), ([Value.slice ((g5.δ 0).o 0) (wd (prm 5)).length ((g5.δ 0).n 0)] ++ [Value.int .i64 48]), 33), ((g6.γ 4), ([Value.slice ((g6.δ 0).o 0) (wd (prm 6)).length ((g6.δ 0).n 0)] ++ [Value.int .i64 32]), 33)]) (fun g7 => [fun w => NA (prm 5) ((g5.δ 0).o 0) ((g5.δ 0).n 0) w, fun w => NA (prm 6) ((g6.δ 0).o 0) ((g6.δ 0).n 0) w, fun w => NA 4 ((g7.δ 1).o 0) ((g7.δ 1).n 0) w, fun w => NA (genN 3) ((g7.δ 5).o 0) ((g7.δ 5).n 0) w, fun w => NA (genN 4) ((g7.δ 6).o 0) ((g7.δ 6).n 0) w]) 0 0
    hF hI ⟨(fun w w1 hg h => NA.grow hg rfl h), (fun w w1 hg h => NA.grow hg rfl h), trivial⟩ (fun g => ⟨lk 1 0 rfl rfl,
      cx (fun l d w w1 hg h => NA.grow hg rfl h) fun w hI hfa => of_n (by decide),
      pv,
      pv,
      lk1 2 0 rfl rfl,
      cx (fun l d w w1 hg h => NA.grow hg rfl h) fun w hI hfa => refone_3,
      cx (fun l d w w1 hg h => NA.grow hg rfl h) fun w hI hfa => refone_4,
      pv,
      pv, trivial⟩) rfl rfl rfl rfl rfl rfl ?_
  intro g7 a7 w7 hF hI
  refine wp_ret ?_
  show bodyPost Tryz.prog Tryz.f23 (RetR w (fun d => .tuple #[crV 3 d, .bool true]) (CrA 3)) .ret _ _
  exact sym_ret2 rfl hF.df (rv_cell 0 hF rfl hI rfl Tryz.underlying39 rfl (by kernel_rfl)) (rv_tmp hF rfl) ⟨datS [(((g5.δ 0).n 0), ((g5.δ 0).o 0)), (((g7.δ 1).n 0), ((g7.δ 1).o 0)), (((g6.δ 0).n 0), ((g6.δ 0).o 0)), (((g7.δ 5).n 0), ((g7.δ 5).o 0)), (((g7.δ 6).n 0), ((g7.δ 6).o 0))], rfl, hI.below, ⟨hI.fact 0 rfl, hI.fact 2 rfl, hI.fact 1 rfl, hI.fact 3 rfl, hI.fact 4 rfl⟩⟩

set_option maxRecDepth 100000 in
set_option maxHeartbeats 1000000 in
theorem ref8of_bad {k : Int} (hk : ∀ i : Int, 1 ≤ i → i ≤ 3 → k ≠ i) {w : World} : Calls Tryz.prog 23 #[.int .i64 k, .bool false] w (Ret w (.tuple #[.agg (([Value.slice none 0 0] ++ ([Value.int .i64 0] ++ ([Value.slice none 0 0] ++ ([Value.slice none 0 0] ++ ([Value.slice none 0 0] ++ ([Value.slice none 0 0] ++ ([Value.slice none 0 0] ++ ([Value.slice none 0 0] ++ ([Value.slice none 0 0] ++ ([Value.bool false] ++ [Value.bool false]))))))))))).toArray, .bool false])) := by
  refine calls_of_wp Tryz.func23 (by rfl : Tryz.f23.body = some _) ?_
  have hF : Fr [(0, .int .i64 k), (1, .bool false)] 152 _ := Fr.start (args := #[.int .i64 k, .bool false]) (m := 152) (by simp)
  have hI := Inv.start0 w
  refine wp_seq ?_
  refine sy [] #[.new [] (fun _ => (([Value.slice none 0 0] ++ ([Value.int .i64 0] ++ ([Value.slice none 0 0] ++ ([Value.slice none 0 0] ++ ([Value.slice none 0 0] ++ ([Value.slice none 0 0] ++ ([Value.slice none 0 0] ++ ([Value.slice none 0 0] ++ ([Value.slice none 0 0] ++ ([Value.bool false] ++ [Value.bool false]))))))))))).toArray) 39,
      va (.bool false)]
    (fun g1 => [(0, .int .i64 k), (1, .bool false), (4, pt (g1.γ 0)), (5, .bool false)]) (fun g1 => [((g1.γ 0), ([Value.slice none 0 0] ++ ([Value.int .i64 0] ++ ([Value.slice none 0 0] ++ ([Value.slice none 0 0] ++ ([Value.slice none 0 0] ++ ([Value.slice none 0 0] ++ ([Value.slice none 0 0] ++ ([Value.slice none 0 0] ++ ([Value.slice none 0 0] ++ ([Value.bool false] ++ [Value.bool false])))))))))), 39)]) (fun _ => [])
    hF hI trivial (fun g => ⟨nw,
      pv, trivial⟩) ?_
  intro g1 a1 w1 hF hI
  refine wp_seq ?_
  refine wp_block ?_
  refine wp_seq ?_
  refine sy [] #[va (.int .i64 k),
      va (.bool false),
      va (.bool false),
      .off,
      .off,
      va (.bool false),
      va (.bool false)]
    (fun g2 => [(0, .int .i64 k), (1, .bool false), (4, pt (g1.γ 0)), (5, .bool false), (27, .bool false)]) (fun _ => [((g1.γ 0), ([Value.slice none 0 0] ++ ([Value.int .i64 0] ++ ([Value.slice none 0 0] ++ ([Value.slice none 0 0] ++ ([Value.slice none 0 0] ++ ([Value.slice none 0 0] ++ ([Value.slice none 0 0] ++ ([Value.slice none 0 0] ++ ([Value.slice none 0 0] ++ ([Value.bool false] ++ [Value.bool false])))))))))), 39)]) (fun _ => [])
    hF hI trivial (fun g => ⟨pv,
      ov fun w hI hfa => pureU (boolR (k == 1) (by kernel_rfl) (ieq_f (hk 1 (by decide) (by decide)))),
      pv,
      offV,
      offV,
      pv,
      pv, trivial⟩) ?_
  intro g2 a2 w2 hF hI
  refine wp_cond_false (hF.eval rfl) ?_
  refine wp_seq ?_
  refine sy [] #[va (.int .i64 k),
      va (.bool false),
      va (.bool false),
      .off,
      .off,
      va (.bool false),
      va (.bool false)]
    (fun g3 => [(0, .int .i64 k), (1, .bool false), (4, pt (g1.γ 0)), (5, .bool false), (51, .bool false)]) (fun _ => [((g1.γ 0), ([Value.slice none 0 0] ++ ([Value.int .i64 0] ++ ([Value.slice none 0 0] ++ ([Value.slice none 0 0] ++ ([Value.slice none 0 0] ++ ([Value.slice none 0 0] ++ ([Value.slice none 0 0] ++ ([Value.slice none 0 0] ++ ([Value.slice none 0 0] ++ ([Value.bool false] ++ [Value.bool false])))))))))), 39)]) (fun _ => [])
    hF hI trivial (fun g => ⟨pv,
      ov fun w hI hfa => pureU (boolR (k == 2) (by kernel_rfl) (ieq_f (hk 2 (by decide) (by decide)))),
      pv,
      offV,
      offV,
      pv,
      pv, trivial⟩) ?_
  intro g3 a3 w3 hF hI
  refine wp_cond_false (hF.eval rfl) ?_
  refine wp_seq ?_
  refine sy [] #[va (.int .i64 k),
      va (.bool false),
      va (.bool false),
      .off,
      .off,
      va (.bool false),
      va (.bool false)]
    (fun g4 => [(0, .int .i64 k), (4, pt (g1.γ 0)), (5, .bool false), (77, .bool false)]) (fun _ => [((g1.γ 0), ([Value.slice none 0 0] ++ ([Value.int .i64 0] ++ ([Value.slice none 0 0] ++ ([Value.slice none 0 0] ++ ([Value.slice none 0 0] ++ ([Value.slice none 0 0] ++ ([Value.slice none 0 0] ++ ([Value.slice none 0 0] ++ ([Value.slice none 0 0] ++ ([Value.bool false] ++ [Value.bool false])))))))))), 39)]) (fun _ => [])
    hF hI trivial (fun g => ⟨pv,
      ov fun w hI hfa => pureU (boolR (k == 3) (by kernel_rfl) (ieq_f (hk 3 (by decide) (by decide)))),
      pv,
      offV,
      offV,
      pv,
      pv, trivial⟩) ?_
  intro g4 a4 w4 hF hI
  refine wp_cond_false (hF.eval rfl) ?_
  refine wp_seq ?_
  refine sy [] #[va (.int .i64 k),
      va (.bool false),
      va (.bool false)]
    (fun g5 => [(0, .int .i64 k), (4, pt (g1.γ 0)), (5, .bool false), (101, .bool false)]) (fun _ => [((g1.γ 0), ([Value.slice none 0 0] ++ ([Value.int .i64 0] ++ ([Value.slice none 0 0] ++ ([Value.slice none 0 0] ++ ([Value.slice none 0 0] ++ ([Value.slice none 0 0] ++ ([Value.slice none 0 0] ++ ([Value.slice none 0 0] ++ ([Value.slice none 0 0] ++ ([Value.bool false] ++ [Value.bool false])))))))))), 39)]) (fun _ => [])
    hF hI trivial (fun g => ⟨pv,
      ov fun w hI hfa => pureU (boolR (k == 2) (by kernel_rfl) (ieq_f (hk 2 (by decide) (by decide)))),
      pv, trivial⟩) ?_
  intro g5 a5 w5 hF hI
  refine wp_cond_false (hF.eval rfl) ?_
  refine wp_seq ?_
  refine sy [] #[va (.int .i64 k),
      va (.bool false),
      va (.bool false)]
    (fun g6 => [(4, pt (g1.γ 0)), (5, .bool false), (130, .bool false)]) (fun _ => [((g1.γ 0), ([Value.slice none 0 0] ++ ([Value.int .i64 0] ++ ([Value.slice none 0 0] ++ ([Value.slice none 0 0] ++ ([Value.slice none 0 0] ++ ([Value.slice none 0 0] ++ ([Value.slice none 0 0] ++ ([Value.slice none 0 0] ++ ([Value.slice none 0 0] ++ ([Value.bool false] ++ [Value.bool false])))))))))), 39)]) (fun _ => [])
    hF hI trivial (fun g => ⟨pv,
      ov fun w hI hfa => pureU (boolR (k == 3) (by kernel_rfl) (ieq_f (hk 3 (by decide) (by decide)))),
      pv, trivial⟩) ?_
  intro g6 a6 w6 hF hI
  refine wp_cond_false (hF.eval rfl) ?_
  refine wp_skip ?_
  refine wp_seq ?_
  refine ss2 [39] #[va (.agg (([Value.slice none 0 0] ++ ([Value.int .i64 0] ++ ([Value.slice none 0 0] ++ ([Value.slice none 0 0] ++ ([Value.slice none 0 0] ++ ([Value.slice none 0 0] ++ ([Value.slice none 0 0] ++ ([Value.slice none 0 0] ++ ([Value.slice none 0 0] ++ ([Value.bool false] ++ [Value.bool false]))))))))))).toArray)]
    (fun g7 => [(4, pt (g1.γ 0))]) (fun _ => [((g1.γ 0), ([Value.slice none 0 0] ++ ([Value.int .i64 0] ++ ([Value.slice none 0 0] ++ ([Value.slice none 0 0] ++ ([Value.slice none 0 0] ++ ([Value.slice none 0 0] ++ ([Value.slice none 0 0] ++ ([Value.slice none 0 0] ++ ([Value.slice none 0 0] ++ ([Value.bool false] ++ [Value.bool false])))))))))), 39)]) (fun _ => []) 0 0
    hF hI trivial (fun g => ⟨pv, trivial⟩) rfl rfl rfl rfl rfl rfl ?_
  intro g7 a7 w7 hF hI
  refine wp_ret ?_
  show bodyPost Tryz.prog Tryz.f23 (Ret w (.tuple #[.agg (([Value.slice none 0 0] ++ ([Value.int .i64 0] ++ ([Value.slice none 0 0] ++ ([Value.slice none 0 0] ++ ([Value.slice none 0 0] ++ ([Value.slice none 0 0] ++ ([Value.slice none 0 0] ++ ([Value.slice none 0 0] ++ ([Value.slice none 0 0] ++ ([Value.bool false] ++ [Value.bool false]))))))))))).toArray, .bool false])) .ret _ _
  exact sym_ret2 rfl hF.df (rv_cell 0 hF rfl hI rfl Tryz.underlying39 rfl (by kernel_rfl)) (rv_tmp hF rfl) ⟨rfl, hI.below⟩

end Go.Proofs.YtjokcbjahidckaaGreat
/-! Points of the machine are compared. No condition. -/
namespace Go.Proofs.YtjokcbjahidckaaGreat
open Go.RowKit

theorem run_in26 (w : World) (x y x' y' : Nat) (i i' : Bool) :
    (Op.equalIn 10000 26 (.agg (elC x ++ (elC y ++ [Value.bool i])).toArray) (.agg (elC x' ++ (elC y' ++ [Value.bool i'])).toArray)).run Tryz.prog w = .ok ((digs B64 6 x == digs B64 6 x') && ((digs B64 6 y == digs B64 6 y') && (i == i'))) w := by
  have hX := fun (a b : Nat) => run_equalIn_ints (P := Tryz.prog) w .u64 9997 24 22 6 Tryz.underlying24 Tryz.underlying22 Tryz.sizeOf22 (digs B64 6 a) (digs B64 6 b) (length_digs ..) (length_digs ..)
  have hp1 : ∀ (a b : Nat) (j : Bool), (part 24 (elC a ++ (elC b ++ [Value.bool j])).toArray 0).run Tryz.prog w = .ok (.agg (elC a).toArray) w := fun a b j => by kernel_rfl
  have hp2 : ∀ (a b : Nat) (j : Bool), (part 24 (elC a ++ (elC b ++ [Value.bool j])).toArray 6).run Tryz.prog w = .ok (.agg (elC b).toArray) w := fun a b j => by kernel_rfl
  have hp3 : ∀ (a b : Nat) (j : Bool), (part 4 (elC a ++ (elC b ++ [Value.bool j])).toArray 12).run Tryz.prog w = .ok (.bool j) w := fun a b j => by kernel_rfl
  have hb : (Op.equalIn 9999 4 (.bool i) (.bool i')).run Tryz.prog w = .ok (i == i') w := by cases i <;> cases i' <;> kernel_rfl
  rw [run_equalIn_struct w 9999 26 _ _ (by kernel_rfl) (by kernel_rfl)]
  have hf : (Tryz.prog.fieldsOf 26).toList.map (fun f => (f.name != "_", f.type, f.offset)) = [(true, 24, 0), (true, 24, 6), (true, 4, 12)] := by kernel_rfl
  generalize (Tryz.prog.fieldsOf 26).toList = fs at hf
  rcases fs with _ | ⟨f1, _ | ⟨f2, _ | ⟨f3, _ | ⟨f4, r⟩⟩⟩⟩
  · cases hf
  · simp at hf
  · simp at hf
  · simp only [List.map_cons, List.map_nil, List.cons.injEq, Prod.mk.injEq, and_true, bne_iff_ne, ne_eq] at hf
    obtain ⟨⟨a1, b1, c1⟩, ⟨a2, b2, c2⟩, a3, b3, c3⟩ := hf
    have h1 := hX x x'
    have h2 := hX y y'
    simp only [Op.eqFields, b1, b2, b3, c1, c2, c3, a1, a2, a3, Sem.run_bind, hp1, Result.andThen_ok, not_false_eq_true, ne_eq, if_true]
    have e0 : ∀ a : Nat, elC a = (digs B64 6 a).map fun n : Nat => Value.int .u64 (n : Int) := fun _ => rfl
    rw [← e0, ← e0] at h1 h2
    rw [h1]
    cases (digs B64 6 x == digs B64 6 x') with
    | false => rfl
    | true =>
      simp only [Result.andThen_ok, Bool.not_true, Bool.false_eq_true, if_false, Sem.run_bind, Bool.true_and, hp2]
      rw [h2]
      cases (digs B64 6 y == digs B64 6 y') with
      | false => rfl
      | true =>
        simp only [Result.andThen_ok, Bool.not_true, Bool.false_eq_true, if_false, Sem.run_bind, Bool.true_and, hp3, hb]
        cases i == i' <;> rfl
  · simp at hf
theorem run_eq26 (w : World) (x y : Nat) (i : Bool) (eq : Bool) :
    (binOp (if eq then .eql else .neq) 26 (.agg (elC x ++ (elC y ++ [Value.bool i])).toArray) (.agg (elC x ++ (elC y ++ [Value.bool i])).toArray)).run Tryz.prog w = .ok (.bool eq) w := by
  have h := run_in26 w x y x y i i
  have e : ((digs B64 6 x == digs B64 6 x) && ((digs B64 6 y == digs B64 6 y) && (i == i))) = true := by simp
  rw [e] at h
  cases eq with
  | true =>
    show (binOp .eql 26 _ _).run _ _ = _
    rw [run_eql_struct, h]; rfl
  | false =>
    show (binOp .neq 26 _ _).run _ _ = _
    rw [run_neq_struct, h]; rfl
theorem eqPt {ρ : Operand → Value} {o : Oper} {x' y' : Operand} {w : World} (x y : Nat) (i : Bool) (eq : Bool) (ho : o.op = .binOp (if eq then .eql else .neq) 26 x' y' 26) (hx : ρ x' = .agg (elC x ++ (elC y ++ [Value.bool i])).toArray) (hy : ρ y' = .agg (elC x ++ (elC y ++ [Value.bool i])).toArray) :
    (execOp ρ o).run Tryz.prog w = .ok (.value (.bool eq)) w := by
  have hg : ∀ op, (eqGuard op 26 x' y' (.agg (elC x ++ (elC y ++ [Value.bool i])).toArray) (.agg (elC x ++ (elC y ++ [Value.bool i])).toArray)).run Tryz.prog w = .ok () w := fun op => run_eqGuard_agg w op 26 x' y' _ _ (by kernel_rfl)
  have hb := run_eq26 w x y i eq
  unfold execOp
  simp only [ho, hx, hy, Sem.run_bind, hg, Result.andThen_ok]
  rw [hb]
  rfl

/-! The program's answers, in points. -/
abbrev pV (x y : Nat) (i : Bool) : Value := .agg (elC x ++ (elC y ++ [Value.bool i])).toArray
/-- These coordinates are a point on the curve. -/
structure Pn (c : Nat) [Pr (cp c)] (x y : Nat) (i : Bool) (G : GP (Zm (cp c))) : Prop where
  hx : x < B64 ^ 6
  hy : y < B64 ^ 6
  e : onc c x y i = true
  g : gI c x y i = G
section
variable {c : Nat} [Pr (cp c)] {x0 y0 x1 y1 : Nat} {i0 i1 : Bool} {P Q Z : GP (Zm (cp c))} {w : World}
theorem Pn.nf (h : Pn c x0 y0 i0 P) : P.nf := h.g ▸ gin_nf x0 y0 i0
theorem Pn.on (h : Pn c x0 y0 i0 P) : gon (Zm.of (cbN c) : Zm (cp c)) P := h.g ▸ gon_of h.e
theorem Pn.inp (hx : x0 < B64 ^ 6) (hy : y0 < B64 ^ 6) (e : onc c x0 y0 i0 = true) : Pn c x0 y0 i0 (gI c x0 y0 i0) := ⟨hx, hy, e, rfl⟩
theorem Pn.out (h1 : 1 ≤ c) (h3 : c ≤ 3) (hn : P.nf) (ho : gon (Zm.of (cbN c) : Zm (cp c)) P) : Pn c (gox P) (goy P) P.inf P :=
  have h := go_lt P (Nat.le_of_lt (cp_four c h1 h3).2)
  ⟨h.1, h.2, onc_go hn ho, gin_go hn⟩
theorem Pn.low (h : Pn c x0 y0 false P) : x0 % cp c = x0 ∧ y0 % cp c = y0 := by
  have := h.e
  unfold onc p1on at this
  simp only [Bool.false_or, Bool.and_eq_true, decide_eq_true_eq] at this
  exact this.1
theorem Pn.same (h : Pn c x0 y0 false P) : gox P = x0 ∧ goy P = y0 ∧ P.inf = false := by
  have := h.low
  rw [← h.g]
  exact this.imp id fun h => ⟨h, rfl⟩
theorem gen_p (h1 : 1 ≤ c) (h3 : c ≤ 3) : Pn c (gxN c) (gyN c) false (gI c (gxN c) (gyN c) false) := by
  obtain ⟨hx, hy, -, -⟩ := gen_lt c h1 h3
  have := (cp_four c h1 h3).2
  exact .inp (by omega) (by omega) (gen_on c h1 h3)
theorem add_p (h1 : 1 ≤ c) (h3 : c ≤ 3) (hP : Pn c x0 y0 i0 P) (hQ : Pn c x1 y1 i1 Q) (hz : gadd Fd.finv P Q = Z) : Calls Tryz.prog 25 #[.int .i64 (c : Nat), pV x0 y0 i0, pV x1 y1 i1] w (Ret w (.tuple #[pV (gox Z) (goy Z) Z.inf, .int .i64 0])) := by
  have := add1_tt h1 h3 hP.hx hP.hy hQ.hx hQ.hy hP.e hQ.e (w := w)
  rw [hP.g, hQ.g, hz] at this
  exact this
theorem pv0 : pV (gox (⟨0, 0, true⟩ : GP (Zm (cp c)))) (goy (⟨0, 0, true⟩ : GP (Zm (cp c)))) (⟨0, 0, true⟩ : GP (Zm (cp c))).inf = .agg (Z6 ++ (Z6 ++ [Value.bool true])).toArray := by kernel_rfl
theorem add_z (h1 : 1 ≤ c) (h3 : c ≤ 3) (hP : Pn c x0 y0 i0 P) (hQ : Pn c x1 y1 i1 Q) (hz : gadd Fd.finv P Q = ⟨0, 0, true⟩) : Calls Tryz.prog 25 #[.int .i64 (c : Nat), pV x0 y0 i0, pV x1 y1 i1] w (Ret w (.tuple #[.agg (Z6 ++ (Z6 ++ [Value.bool true])).toArray, .int .i64 0])) := by
  have := add_p h1 h3 hP hQ hz (w := w)
  rwa [pv0] at this
theorem neg_p (h1 : 1 ≤ c) (h3 : c ≤ 3) (hP : Pn c x0 y0 i0 P) (hz : gneg P = Z) : Calls Tryz.prog 26 #[.int .i64 (c : Nat), pV x0 y0 i0] w (Ret w (.tuple #[pV (gox Z) (goy Z) Z.inf, .int .i64 0])) := by
  have := neg1_t h1 h3 hP.hx hP.hy hP.e (w := w)
  rw [hP.g, hz] at this
  exact this
theorem mul_p (h1 : 1 ≤ c) (h3 : c ≤ 3) {A : Option Addr} {cap : Nat} {bs : List Nat} (hB : BA bs A cap w) (hP : Pn c x0 y0 i0 P) (hz : gmul Fd.finv P (ofBE bs) = Z) : Calls Tryz.prog 27 #[.int .i64 (c : Nat), pV x0 y0 i0, .slice A bs.length cap] w (Ret w (.tuple #[pV (gox Z) (goy Z) Z.inf, .int .i64 0])) := by
  have := mul1_t h1 h3 hP.hx hP.hy hP.e hB.1 hB.2.2.2 hB.2.1
  rw [hP.g, hz] at this
  exact this
theorem mul_z (h1 : 1 ≤ c) (h3 : c ≤ 3) {A : Option Addr} {cap : Nat} {bs : List Nat} (hB : BA bs A cap w) (hP : Pn c x0 y0 i0 P) (hz : gmul Fd.finv P (ofBE bs) = ⟨0, 0, true⟩) : Calls Tryz.prog 27 #[.int .i64 (c : Nat), pV x0 y0 i0, .slice A bs.length cap] w (Ret w (.tuple #[.agg (Z6 ++ (Z6 ++ [Value.bool true])).toArray, .int .i64 0])) := by
  have := mul_p h1 h3 hB hP hz
  rwa [pv0] at this
theorem mul_s (h1 : 1 ≤ c) (h3 : c ≤ 3) {A : Option Addr} {cap : Nat} {bs : List Nat} (hB : BA bs A cap w) (hP : Pn c x0 y0 false P) (hz : gmul Fd.finv P (ofBE bs) = P) : Calls Tryz.prog 27 #[.int .i64 (c : Nat), pV x0 y0 false, .slice A bs.length cap] w (Ret w (.tuple #[pV x0 y0 false, .int .i64 0])) := by
  have := mul_p h1 h3 hB hP hz
  obtain ⟨e1, e2, e3⟩ := hP.same
  rw [e1, e2, e3] at this
  exact this
theorem on_p (h1 : 1 ≤ c) (h3 : c ≤ 3) (hP : Pn c x0 y0 i0 P) : Calls Tryz.prog 29 #[.int .i64 (c : Nat), pV x0 y0 i0] w (Ret w (.bool true)) := on1_t h1 h3 hP.hx hP.hy hP.e
theorem in_p (h1 : 1 ≤ c) (h3 : c ≤ 3) (hP : Pn c x0 y0 i0 P) (hz : (gmul Fd.finv P (prm (2 * c))).inf = true) : Calls Tryz.prog 30 #[.int .i64 (c : Nat), pV x0 y0 i0] w (Ret w (.bool true)) := by
  have := in1_t h1 h3 hP.hx hP.hy hP.e (w := w)
  rw [hP.g, hz] at this
  exact this
end
theorem BA.one {b : Nat} {w : World} (h : w.heap[b]? = some (.cells [Value.int .u8 1].toArray 5 (0, 0))) : BA [1] (some ⟨b, 0, none⟩) 1 w :=
  have hr : Row w b .u8 5 [1] := h
  ⟨Nat.le_refl _, hr.rd (by decide), hr.ty, by intro d hd; simp at hd; omega⟩
theorem ref8of_any (c : Nat) (h1 : 1 ≤ c) (h3 : c ≤ 3) {w : World} : Calls Tryz.prog 23 #[.int .i64 (c : Nat), .bool false] w (RetR w (fun d => .tuple #[crV c d, .bool true]) (CrA c)) :=
  three_of (P := fun c => Calls Tryz.prog 23 #[.int .i64 (c : Nat), .bool false] w (RetR w (fun d => .tuple #[crV c d, .bool true]) (CrA c))) ref8of_1 ref8of_2 ref8of_3 c h1 h3
end Go.Proofs.YtjokcbjahidckaaGreat
/-! quarrylaw08.wakes: the document's runs. No condition. -/
namespace Go.Proofs.YtjokcbjahidckaaGreat
open Go.RowKit

theorem off13 [Pr (cp 2)] : onc 2 1 3 false = false := by
  have h : ¬ gon (Zm.of (cbN 2) : Zm (cp 2)) (gin 1 3 false) := by
    rintro (h | h)
    · cases h
    · have := congrArg Zm.val h
      revert this
      show ¬ (((3 % cp 2) * (3 % cp 2)) % cp 2 = ((1 % cp 2) * ((1 % cp 2) * (1 % cp 2) % cp 2) % cp 2 + 3 % cp 2) % cp 2)
      decide
  unfold onc p1on
  rw [decide_eq_false h]
  simp
set_option maxRecDepth 100000 in
set_option maxHeartbeats 4000000 in
theorem wakes_raw (h1 : 1 ≤ 2) (h3 : 2 ≤ 3) [Pr (cp 2)] {Z : GP (Zm (cp 2))} (hn : gneg (gI 2 (gxN 2) (gyN 2) false) = Z) (hZ : Pn 2 (gox Z) (goy Z) Z.inf Z) (hs : gadd Fd.finv (gI 2 (gxN 2) (gyN 2) false) Z = ⟨0, 0, true⟩) (e13 : onc 2 1 3 false = false) {w : World} : Calls Tryz.prog 31 #[] w (Ret w (.bool true)) := by
  refine calls_of_wp Tryz.func31 (by rfl : Tryz.f31.body = some _) ?_
  have hF : Fr [] 55 _ := Fr.start (args := #[]) (m := 55) (by simp)
  have hI := Inv.start0 w
  refine wp_seq ?_
  refine sy [] #[va (.bool false)]
    (fun g1 => [(0, .bool false)]) (fun _ => []) (fun _ => [])
    hF hI trivial (fun g => ⟨pv, trivial⟩) ?_
  intro g1 a1 w1 hF hI
  refine wp_seq ?_
  refine sy [26] #[va (.tuple #[.agg ((elC ((gxN 2)) ++ (elC ((gyN 2)) ++ [Value.bool false]))).toArray, .int .i64 0]),
      va (.tuple #[.agg ((elC ((gxN 2)) ++ (elC ((gyN 2)) ++ [Value.bool false]))).toArray, .int .i64 0]),
      va (.agg ((elC ((gxN 2)) ++ (elC ((gyN 2)) ++ [Value.bool false]))).toArray),
      va (.int .i64 0),
      .new [] (fun _ => ((Z6 ++ (Z6 ++ [Value.bool false]))).toArray) 26,
      .put 4 [] (fun _ => ((elC ((gxN 2)) ++ (elC ((gyN 2)) ++ [Value.bool false]))).toArray),
      va (.int .i64 0)]
    (fun g2 => [(0, .bool false), (1, pt (g2.γ 4)), (2, .int .i64 0)]) (fun g2 => [((g2.γ 4), (elC ((gxN 2)) ++ (elC ((gyN 2)) ++ [Value.bool false])), 26)]) (fun _ => [])
    hF hI trivial (fun g => ⟨cv fun w hI hfa => gen1_ok h1 h3,
      pv,
      pv,
      pv,
      nw,
      po (.agg ((elC ((gxN 2)) ++ (elC ((gyN 2)) ++ [Value.bool false]))).toArray) ((Z6 ++ (Z6 ++ [Value.bool false]))) rfl,
      pv, trivial⟩) ?_
  intro g2 a2 w2 hF hI
  refine wp_seq ?_
  refine sy [26] #[va (.agg ((elC ((gxN 2)) ++ (elC ((gyN 2)) ++ [Value.bool false]))).toArray),
      va (.tuple #[.agg ((elC ((gox Z)) ++ (elC ((goy Z)) ++ [Value.bool Z.inf]))).toArray, .int .i64 0]),
      va (.tuple #[.agg ((elC ((gox Z)) ++ (elC ((goy Z)) ++ [Value.bool Z.inf]))).toArray, .int .i64 0]),
      va (.agg ((elC ((gox Z)) ++ (elC ((goy Z)) ++ [Value.bool Z.inf]))).toArray),
      va (.int .i64 0),
      .new [] (fun _ => ((Z6 ++ (Z6 ++ [Value.bool false]))).toArray) 26,
      .put 5 [] (fun _ => ((elC ((gox Z)) ++ (elC ((goy Z)) ++ [Value.bool Z.inf]))).toArray),
      va (.int .i64 0)]
    (fun g3 => [(0, .bool false), (1, pt (g2.γ 4)), (2, .int .i64 0), (3, pt (g3.γ 5)), (4, .int .i64 0)]) (fun g3 => [((g2.γ 4), (elC ((gxN 2)) ++ (elC ((gyN 2)) ++ [Value.bool false])), 26), ((g3.γ 5), (elC ((gox Z)) ++ (elC ((goy Z)) ++ [Value.bool Z.inf])), 26)]) (fun _ => [])
    hF hI trivial (fun g => ⟨lk 0 0 rfl rfl,
      cv fun w hI hfa => neg_p h1 h3 (gen_p h1 h3) hn,
      pv,
      pv,
      pv,
      nw,
      po (.agg ((elC ((gox Z)) ++ (elC ((goy Z)) ++ [Value.bool Z.inf]))).toArray) ((Z6 ++ (Z6 ++ [Value.bool false]))) rfl,
      pv, trivial⟩) ?_
  intro g3 a3 w3 hF hI
  refine wp_seq ?_
  refine sy [26] #[va (.agg ((elC ((gxN 2)) ++ (elC ((gyN 2)) ++ [Value.bool false]))).toArray),
      va (.agg ((elC ((gox Z)) ++ (elC ((goy Z)) ++ [Value.bool Z.inf]))).toArray),
      va (.tuple #[.agg ((Z6 ++ (Z6 ++ [Value.bool true]))).toArray, .int .i64 0]),
      va (.tuple #[.agg ((Z6 ++ (Z6 ++ [Value.bool true]))).toArray, .int .i64 0]),
      va (.agg ((Z6 ++ (Z6 ++ [Value.bool true]))).toArray),
      va (.int .i64 0),
      .new [] (fun _ => ((Z6 ++ (Z6 ++ [Value.bool false]))).toArray) 26,
      .put 6 [] (fun _ => ((Z6 ++ (Z6 ++ [Value.bool true]))).toArray),
      va (.int .i64 0)]
    (fun g4 => [(0, .bool false), (1, pt (g2.γ 4)), (2, .int .i64 0), (4, .int .i64 0), (5, pt (g4.γ 6)), (6, .int .i64 0)]) (fun g4 => [((g2.γ 4), (elC ((gxN 2)) ++ (elC ((gyN 2)) ++ [Value.bool false])), 26), ((g3.γ 5), (elC ((gox Z)) ++ (elC ((goy Z)) ++ [Value.bool Z.inf])), 26), ((g4.γ 6), (Z6 ++ (Z6 ++ [Value.bool true])), 26)]) (fun _ => [])
    hF hI trivial (fun g => ⟨lk 0 0 rfl rfl,
      lk 1 0 rfl rfl,
      cv fun w hI hfa => add_z h1 h3 (gen_p h1 h3) hZ hs,
      pv,
      pv,
      pv,
      nw,
      po (.agg ((Z6 ++ (Z6 ++ [Value.bool true]))).toArray) ((Z6 ++ (Z6 ++ [Value.bool false]))) rfl,
      pv, trivial⟩) ?_
  intro g4 a4 w4 hF hI
  refine wp_seq ?_
  refine sy [] #[va (.int .i64 0),
      va (.bool true),
      va (.bool true),
      va (.int .i64 0),
      va (.bool true),
      va (.bool true),
      va (.bool true),
      va (.int .i64 0),
      va (.bool true),
      va (.bool true),
      va (.bool true),
      va (.agg ((elC ((gxN 2)) ++ (elC ((gyN 2)) ++ [Value.bool false]))).toArray),
      va (.agg (([Value.int .u64 1] ++ ([Value.int .u64 0] ++ ([Value.int .u64 0] ++ ([Value.int .u64 0] ++ ([Value.int .u64 0] ++ [Value.int .u64 0])))))).toArray),
      va (.agg (([Value.int .u64 2] ++ ([Value.int .u64 0] ++ ([Value.int .u64 0] ++ ([Value.int .u64 0] ++ ([Value.int .u64 0] ++ [Value.int .u64 0])))))).toArray),
      va (.agg (([Value.int .u64 1] ++ ([Value.int .u64 0] ++ ([Value.int .u64 0] ++ ([Value.int .u64 0] ++ ([Value.int .u64 0] ++ ([Value.int .u64 0] ++ ([Value.int .u64 2] ++ ([Value.int .u64 0] ++ ([Value.int .u64 0] ++ ([Value.int .u64 0] ++ ([Value.int .u64 0] ++ ([Value.int .u64 0] ++ [Value.bool false]))))))))))))).toArray),
      va (.bool true),
      va (.bool true),
      va (.bool true),
      va (.agg ((Z6 ++ (Z6 ++ [Value.bool true]))).toArray),
      va (.agg ((Z6 ++ (Z6 ++ [Value.bool true]))).toArray),
      va (.bool true),
      va (.bool true),
      va (.bool true),
      va (.agg ((elC ((gxN 2)) ++ (elC ((gyN 2)) ++ [Value.bool false]))).toArray),
      va (.bool true),
      va (.bool true),
      va (.bool true),
      va (.agg (([Value.int .u64 1] ++ ([Value.int .u64 0] ++ ([Value.int .u64 0] ++ ([Value.int .u64 0] ++ ([Value.int .u64 0] ++ [Value.int .u64 0])))))).toArray),
      va (.agg (([Value.int .u64 3] ++ ([Value.int .u64 0] ++ ([Value.int .u64 0] ++ ([Value.int .u64 0] ++ ([Value.int .u64 0] ++ [Value.int .u64 0])))))).toArray),
      va (.agg (([Value.int .u64 1] ++ ([Value.int .u64 0] ++ ([Value.int .u64 0] ++ ([Value.int .u64 0] ++ ([Value.int .u64 0] ++ ([Value.int .u64 0] ++ ([Value.int .u64 3] ++ ([Value.int .u64 0] ++ ([Value.int .u64 0] ++ ([Value.int .u64 0] ++ ([Value.int .u64 0] ++ ([Value.int .u64 0] ++ [Value.bool false]))))))))))))).toArray),
      va (.bool false),
      va (.bool true),
      va (.bool true),
      va (.bool true)]
    (fun g5 => [(0, .bool true)]) (fun _ => [((g2.γ 4), (elC ((gxN 2)) ++ (elC ((gyN 2)) ++ [Value.bool false])), 26), ((g3.γ 5), (elC ((gox Z)) ++ (elC ((goy Z)) ++ [Value.bool Z.inf])), 26), ((g4.γ 6), (Z6 ++ (Z6 ++ [Value.bool true])), 26)]) (fun _ => [])
    hF hI trivial (fun g => ⟨pv,
      pv,
      pv,
      pv,
      pv,
      pv,
      pv,
      pv,
      pv,
      pv,
      pv,
      lk 0 0 rfl rfl,
      pv,
      pv,
      pv,
      ov fun w hI hfa => pureU (eqPt ((gxN 2)) ((gyN 2)) false true rfl (by kernel_rfl) (by kernel_rfl)),
      pv,
      pv,
      lk 2 0 rfl rfl,
      pv,
      ov fun w hI hfa => pureU (eqPt 0 0 true true rfl (by kernel_rfl) (by kernel_rfl)),
      pv,
      pv,
      lk 0 0 rfl rfl,
      cv fun w hI hfa => on_p h1 h3 (gen_p h1 h3),
      pv,
      pv,
      pv,
      pv,
      pv,
      cv fun w hI hfa => on1_f h1 h3 (x0 := 1) (y0 := 3) (i0 := false) (by decide) (by decide) e13,
      pv,
      pv,
      pv, trivial⟩) ?_
  intro g5 a5 w5 hF hI
  refine wp_ret ?_
  show bodyPost Tryz.prog Tryz.f31 (Ret w (.bool true)) .ret _ _
  exact sym_ret rfl hF.df (rv_tmp hF rfl) ⟨rfl, hI.below⟩

theorem wakes_any {w : World} : Calls Tryz.prog 31 #[] w (Ret w (.bool true)) := by
  have hp : Pr (cp 2) := pr_3
  have hG := gen_p (c := 2) (by decide) (by decide)
  exact wakes_raw (by decide) (by decide) rfl (Pn.out (by decide) (by decide) (gneg_nf hG.nf) (grp_neg_on hG.on)) (grp_neg hG.nf hG.on) off13
end Go.Proofs.YtjokcbjahidckaaGreat
