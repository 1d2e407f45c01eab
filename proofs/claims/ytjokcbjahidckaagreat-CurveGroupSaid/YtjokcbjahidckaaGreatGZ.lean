/- quarrylaw08.CurveGroup answers true whatever the input, and leaves its argument as it was: the points on a curve are a commutative group, multiples add up, the order times the generator is zero. No condition. -/
import Derived.Test.YtjokcbjahidckaaGreatG05
import Derived.ProofKit
import Derived.OpenShut
import Derived.ShutString
import Derived.ChangeOld
import Derived.Test.YtjokcbjahidckaaGreatFact
import Derived.WalkKit
import Derived.Below
set_option linter.unusedVariables false
/-! quarrylaw08.CurveGroup: each way through it. Conditions: numbers have six limbs, slices read as bytes. -/
namespace Go.Proofs.YtjokcbjahidckaaGreat
open Go.RowKit

set_option maxRecDepth 100000 in
set_option maxHeartbeats 4000000 in
theorem group_bad {i0 : Bool} {x0 y0 x1 y1 x2 y2 : Nat} {i1 i2 : Bool} {KA MA : Option Addr} {kl ml kc mc : Nat} {k : Int} (hk : ∀ i : Int, 1 ≤ i → i ≤ 3 → k ≠ i) {w : World} : Calls Tryz.prog 4 #[.agg (([Value.int .i64 k] ++ (elC x0 ++ (elC y0 ++ ([Value.bool i0] ++ (elC x1 ++ (elC y1 ++ ([Value.bool i1] ++ (elC x2 ++ (elC y2 ++ ([Value.bool i2] ++ ([Value.slice KA kl kc] ++ [Value.slice MA ml mc])))))))))))).toArray] w (Ret w (.bool true)) := by
  refine calls_of_wp Tryz.func4 (by rfl : Tryz.f4.body = some _) ?_
  have hF : Fr [(0, .agg (([Value.int .i64 k] ++ (elC x0 ++ (elC y0 ++ ([Value.bool i0] ++ (elC x1 ++ (elC y1 ++ ([Value.bool i1] ++ (elC x2 ++ (elC y2 ++ ([Value.bool i2] ++ ([Value.slice KA kl kc] ++ [Value.slice MA ml mc])))))))))))).toArray)] 255 _ := Fr.start (args := #[.agg (([Value.int .i64 k] ++ (elC x0 ++ (elC y0 ++ ([Value.bool i0] ++ (elC x1 ++ (elC y1 ++ ([Value.bool i1] ++ (elC x2 ++ (elC y2 ++ ([Value.bool i2] ++ ([Value.slice KA kl kc] ++ [Value.slice MA ml mc])))))))))))).toArray]) (m := 255) (by simp)
  have hI := Inv.start0 w
  refine wp_seq ?_
  refine sy [] #[.new [] (fun _ => (([Value.int .i64 k] ++ (elC x0 ++ (elC y0 ++ ([Value.bool i0] ++ (elC x1 ++ (elC y1 ++ ([Value.bool i1] ++ (elC x2 ++ (elC y2 ++ ([Value.bool i2] ++ ([Value.slice KA kl kc] ++ [Value.slice MA ml mc])))))))))))).toArray) 29,
      va (.bool false)]
    (fun g1 => [(1, pt (g1.γ 0)), (2, .bool false)]) (fun g1 => [((g1.γ 0), ([Value.int .i64 k] ++ (elC x0 ++ (elC y0 ++ ([Value.bool i0] ++ (elC x1 ++ (elC y1 ++ ([Value.bool i1] ++ (elC x2 ++ (elC y2 ++ ([Value.bool i2] ++ ([Value.slice KA kl kc] ++ [Value.slice MA ml mc]))))))))))), 29)]) (fun _ => [])
    hF hI trivial (fun g => ⟨nw,
      pv, trivial⟩) ?_
  intro g1 a1 w1 hF hI
  refine wp_seq ?_
  refine sy [39] #[va (pt (g1.γ 0)),
      va (.int .i64 k),
      va (.tuple #[.agg (([Value.slice none 0 0] ++ ([Value.int .i64 0] ++ ([Value.slice none 0 0] ++ ([Value.slice none 0 0] ++ ([Value.slice none 0 0] ++ ([Value.slice none 0 0] ++ ([Value.slice none 0 0] ++ ([Value.slice none 0 0] ++ ([Value.slice none 0 0] ++ ([Value.bool false] ++ [Value.bool false]))))))))))).toArray, .bool false]),
      va (.tuple #[.agg (([Value.slice none 0 0] ++ ([Value.int .i64 0] ++ ([Value.slice none 0 0] ++ ([Value.slice none 0 0] ++ ([Value.slice none 0 0] ++ ([Value.slice none 0 0] ++ ([Value.slice none 0 0] ++ ([Value.slice none 0 0] ++ ([Value.slice none 0 0] ++ ([Value.bool false] ++ [Value.bool false]))))))))))).toArray, .bool false]),
      va (.agg (([Value.slice none 0 0] ++ ([Value.int .i64 0] ++ ([Value.slice none 0 0] ++ ([Value.slice none 0 0] ++ ([Value.slice none 0 0] ++ ([Value.slice none 0 0] ++ ([Value.slice none 0 0] ++ ([Value.slice none 0 0] ++ ([Value.slice none 0 0] ++ ([Value.bool false] ++ [Value.bool false]))))))))))).toArray),
      va (.bool false),
      .new [] (fun _ => (([Value.slice none 0 0] ++ ([Value.int .i64 0] ++ ([Value.slice none 0 0] ++ ([Value.slice none 0 0] ++ ([Value.slice none 0 0] ++ ([Value.slice none 0 0] ++ ([Value.slice none 0 0] ++ ([Value.slice none 0 0] ++ ([Value.slice none 0 0] ++ ([Value.bool false] ++ [Value.bool false]))))))))))).toArray) 39,
      .put 6 [] (fun _ => (([Value.slice none 0 0] ++ ([Value.int .i64 0] ++ ([Value.slice none 0 0] ++ ([Value.slice none 0 0] ++ ([Value.slice none 0 0] ++ ([Value.slice none 0 0] ++ ([Value.slice none 0 0] ++ ([Value.slice none 0 0] ++ ([Value.slice none 0 0] ++ ([Value.bool false] ++ [Value.bool false]))))))))))).toArray),
      va (.bool false)]
    (fun g2 => [(1, pt (g1.γ 0)), (2, .bool false), (3, pt (g2.γ 6)), (4, .bool false)]) (fun g2 => [((g1.γ 0), ([Value.int .i64 k] ++ (elC x0 ++ (elC y0 ++ ([Value.bool i0] ++ (elC x1 ++ (elC y1 ++ ([Value.bool i1] ++ (elC x2 ++ (elC y2 ++ ([Value.bool i2] ++ ([Value.slice KA kl kc] ++ [Value.slice MA ml mc]))))))))))), 29), ((g2.γ 6), ([Value.slice none 0 0] ++ ([Value.int .i64 0] ++ ([Value.slice none 0 0] ++ ([Value.slice none 0 0] ++ ([Value.slice none 0 0] ++ ([Value.slice none 0 0] ++ ([Value.slice none 0 0] ++ ([Value.slice none 0 0] ++ ([Value.slice none 0 0] ++ ([Value.bool false] ++ [Value.bool false])))))))))), 39)]) (fun _ => [])
    hF hI trivial (fun g => ⟨pv,
      lk1 0 0 rfl rfl,
      cv fun w hI hfa => ref8of_bad hk,
      pv,
      pv,
      pv,
      nw,
      po (.agg (([Value.slice none 0 0] ++ ([Value.int .i64 0] ++ ([Value.slice none 0 0] ++ ([Value.slice none 0 0] ++ ([Value.slice none 0 0] ++ ([Value.slice none 0 0] ++ ([Value.slice none 0 0] ++ ([Value.slice none 0 0] ++ ([Value.slice none 0 0] ++ ([Value.bool false] ++ [Value.bool false]))))))))))).toArray) (([Value.slice none 0 0] ++ ([Value.int .i64 0] ++ ([Value.slice none 0 0] ++ ([Value.slice none 0 0] ++ ([Value.slice none 0 0] ++ ([Value.slice none 0 0] ++ ([Value.slice none 0 0] ++ ([Value.slice none 0 0] ++ ([Value.slice none 0 0] ++ ([Value.bool false] ++ [Value.bool false]))))))))))) rfl,
      pv, trivial⟩) ?_
  intro g2 a2 w2 hF hI
  refine wp_seq ?_
  refine wp_seq ?_
  refine sy [] #[va (.bool false),
      va (.bool true),
      va (.bool true),
      .off,
      .off,
      .off,
      .off,
      .off,
      .off,
      va (.bool true),
      va (.bool true),
      .off,
      .off,
      .off,
      .off,
      .off,
      .off,
      va (.bool true),
      va (.bool true),
      .off,
      .off,
      .off,
      .off,
      .off,
      .off,
      va (.bool true)]
    (fun g3 => [(1, pt (g1.γ 0)), (2, .bool false), (3, pt (g2.γ 6)), (66, .bool true)]) (fun _ => [((g1.γ 0), ([Value.int .i64 k] ++ (elC x0 ++ (elC y0 ++ ([Value.bool i0] ++ (elC x1 ++ (elC y1 ++ ([Value.bool i1] ++ (elC x2 ++ (elC y2 ++ ([Value.bool i2] ++ ([Value.slice KA kl kc] ++ [Value.slice MA ml mc]))))))))))), 29), ((g2.γ 6), ([Value.slice none 0 0] ++ ([Value.int .i64 0] ++ ([Value.slice none 0 0] ++ ([Value.slice none 0 0] ++ ([Value.slice none 0 0] ++ ([Value.slice none 0 0] ++ ([Value.slice none 0 0] ++ ([Value.slice none 0 0] ++ ([Value.slice none 0 0] ++ ([Value.bool false] ++ [Value.bool false])))))))))), 39)]) (fun _ => [])
    hF hI trivial (fun g => ⟨pv,
      pv,
      pv,
      offV,
      offV,
      offV,
      offV,
      offV,
      offV,
      pv,
      pv,
      offV,
      offV,
      offV,
      offV,
      offV,
      offV,
      pv,
      pv,
      offV,
      offV,
      offV,
      offV,
      offV,
      offV,
      pv, trivial⟩) ?_
  intro g3 a3 w3 hF hI
  refine wp_cond_true (hF.eval rfl) ?_
  refine wp_seq ?_
  refine sy [] #[va (.bool true),
      va (.bool true)]
    (fun g4 => [(1, pt (g1.γ 0)), (2, .bool true), (3, pt (g2.γ 6))]) (fun _ => [((g1.γ 0), ([Value.int .i64 k] ++ (elC x0 ++ (elC y0 ++ ([Value.bool i0] ++ (elC x1 ++ (elC y1 ++ ([Value.bool i1] ++ (elC x2 ++ (elC y2 ++ ([Value.bool i2] ++ ([Value.slice KA kl kc] ++ [Value.slice MA ml mc]))))))))))), 29), ((g2.γ 6), ([Value.slice none 0 0] ++ ([Value.int .i64 0] ++ ([Value.slice none 0 0] ++ ([Value.slice none 0 0] ++ ([Value.slice none 0 0] ++ ([Value.slice none 0 0] ++ ([Value.slice none 0 0] ++ ([Value.slice none 0 0] ++ ([Value.slice none 0 0] ++ ([Value.bool false] ++ [Value.bool false])))))))))), 39)]) (fun _ => [])
    hF hI trivial (fun g => ⟨cv fun w hI hfa => wakes_any,
      pv, trivial⟩) ?_
  intro g4 a4 w4 hF hI
  refine wp_ret ?_
  show bodyPost Tryz.prog Tryz.f4 (Ret w (.bool true)) .ret _ _
  exact sym_ret rfl hF.df (rv_tmp hF rfl) ⟨rfl, hI.below⟩

set_option maxRecDepth 100000 in
set_option maxHeartbeats 4000000 in
theorem group_off0 {i0 : Bool} {x0 y0 x1 y1 x2 y2 : Nat} {i1 i2 : Bool} {KA MA : Option Addr} {kl ml kc mc : Nat} {c : Nat} (h1 : 1 ≤ c) (h3 : c ≤ 3) [Pr (cp c)] (hx0 : x0 < B64 ^ 6) (hy0 : y0 < B64 ^ 6) (e0 : onc c x0 y0 i0 = false) {w : World} : Calls Tryz.prog 4 #[.agg (([Value.int .i64 (c : Nat)] ++ (elC x0 ++ (elC y0 ++ ([Value.bool i0] ++ (elC x1 ++ (elC y1 ++ ([Value.bool i1] ++ (elC x2 ++ (elC y2 ++ ([Value.bool i2] ++ ([Value.slice KA kl kc] ++ [Value.slice MA ml mc])))))))))))).toArray] w (Ret w (.bool true)) := by
  refine calls_of_wp Tryz.func4 (by rfl : Tryz.f4.body = some _) ?_
  have hF : Fr [(0, .agg (([Value.int .i64 (c : Nat)] ++ (elC x0 ++ (elC y0 ++ ([Value.bool i0] ++ (elC x1 ++ (elC y1 ++ ([Value.bool i1] ++ (elC x2 ++ (elC y2 ++ ([Value.bool i2] ++ ([Value.slice KA kl kc] ++ [Value.slice MA ml mc])))))))))))).toArray)] 255 _ := Fr.start (args := #[.agg (([Value.int .i64 (c : Nat)] ++ (elC x0 ++ (elC y0 ++ ([Value.bool i0] ++ (elC x1 ++ (elC y1 ++ ([Value.bool i1] ++ (elC x2 ++ (elC y2 ++ ([Value.bool i2] ++ ([Value.slice KA kl kc] ++ [Value.slice MA ml mc])))))))))))).toArray]) (m := 255) (by simp)
  have hI := Inv.start0 w
  refine wp_seq ?_
  refine sy [] #[.new [] (fun _ => (([Value.int .i64 (c : Nat)] ++ (elC x0 ++ (elC y0 ++ ([Value.bool i0] ++ (elC x1 ++ (elC y1 ++ ([Value.bool i1] ++ (elC x2 ++ (elC y2 ++ ([Value.bool i2] ++ ([Value.slice KA kl kc] ++ [Value.slice MA ml mc])))))))))))).toArray) 29,
      va (.bool false)]
    (fun g1 => [(1, pt (g1.γ 0)), (2, .bool false)]) (fun g1 => [((g1.γ 0), ([Value.int .i64 (c : Nat)] ++ (elC x0 ++ (elC y0 ++ ([Value.bool i0] ++ (elC x1 ++ (elC y1 ++ ([Value.bool i1] ++ (elC x2 ++ (elC y2 ++ ([Value.bool i2] ++ ([Value.slice KA kl kc] ++ [Value.slice MA ml mc]))))))))))), 29)]) (fun _ => [])
    hF hI trivial (fun g => ⟨nw,
      pv, trivial⟩) ?_
  intro g1 a1 w1 hF hI
  refine wp_seq ?_
  refine sy [39] #[va (pt (g1.γ 0)),
      va (.int .i64 (c : Nat)),
      .ex [] (fun d => .tuple #[crV c d, .bool true]) (fun _ d => fun w => CrA c d w),
      .val [2] (fun l => .tuple #[.agg (([Value.slice ((l.getD 0 dat0).o 0) (wd (prm (2 * c - 1))).length ((l.getD 0 dat0).n 0)] ++ ([Value.int .i64 (if c = 3 then 48 else 32)] ++ ([Value.slice ((l.getD 0 dat0).o 1) (wd (cbN c)).length ((l.getD 0 dat0).n 1)] ++ ([Value.slice none 0 0] ++ ([Value.slice ((l.getD 0 dat0).o 2) (wd (prm (2 * c))).length ((l.getD 0 dat0).n 2)] ++ ([Value.slice ((l.getD 0 dat0).o 3) (wd (gxN c)).length ((l.getD 0 dat0).n 3)] ++ ([Value.slice none 0 0] ++ ([Value.slice ((l.getD 0 dat0).o 4) (wd (gyN c)).length ((l.getD 0 dat0).n 4)] ++ ([Value.slice none 0 0] ++ ([Value.bool false] ++ [Value.bool false]))))))))))).toArray, .bool true]),
      .val [2] (fun l => .agg (([Value.slice ((l.getD 0 dat0).o 0) (wd (prm (2 * c - 1))).length ((l.getD 0 dat0).n 0)] ++ ([Value.int .i64 (if c = 3 then 48 else 32)] ++ ([Value.slice ((l.getD 0 dat0).o 1) (wd (cbN c)).length ((l.getD 0 dat0).n 1)] ++ ([Value.slice none 0 0] ++ ([Value.slice ((l.getD 0 dat0).o 2) (wd (prm (2 * c))).length ((l.getD 0 dat0).n 2)] ++ ([Value.slice ((l.getD 0 dat0).o 3) (wd (gxN c)).length ((l.getD 0 dat0).n 3)] ++ ([Value.slice none 0 0] ++ ([Value.slice ((l.getD 0 dat0).o 4) (wd (gyN c)).length ((l.getD 0 dat0).n 4)] ++ ([Value.slice none 0 0] ++ ([Value.bool false] ++ [Value.bool false]))))))))))).toArray),
      va (.bool true),
      .new [] (fun _ => (([Value.slice none 0 0] ++ ([Value.int .i64 0] ++ ([Value.slice none 0 0] ++ ([Value.slice none 0 0] ++ ([Value.slice none 0 0] ++ ([Value.slice none 0 0] ++ ([Value.slice none 0 0] ++ ([Value.slice none 0 0] ++ ([Value.slice none 0 0] ++ ([Value.bool false] ++ [Value.bool false]))))))))))).toArray) 39,
      .put 6 [2] (fun l => (([Value.slice ((l.getD 0 dat0).o 0) (wd (prm (2 * c - 1))).length ((l.getD 0 dat0).n 0)] ++ ([Value.int .i64 (if c = 3 then 48 else 32)] ++ ([Value.slice ((l.getD 0 dat0).o 1) (wd (cbN c)).length ((l.getD 0 dat0).n 1)] ++ ([Value.slice none 0 0] ++ ([Value.slice ((l.getD 0 dat0).o 2) (wd (prm (2 * c))).length ((l.getD 0 dat0).n 2)] ++ ([Value.slice ((l.getD 0 dat0).o 3) (wd (gxN c)).length ((l.getD 0 dat0).n 3)] ++ ([Value.slice none 0 0] ++ ([Value.slice ((l.getD 0 dat0).o 4) (wd (gyN c)).length ((l.getD 0 dat0).n 4)] ++ ([Value.slice none 0 0] ++ ([Value.bool false] ++ [Value.bool false]))))))))))).toArray),
      va (.bool true)]
    (fun g2 => [(1, pt (g1.γ 0)), (2, .bool false), (3, pt (g2.γ 6)), (4, .bool true)]) (fun g2 => [((g1.γ 0), ([Value.int .i64 (c : Nat)] ++ (elC x0 ++ (elC y0 ++ ([Value.bool i0] ++ (elC x1 ++ (elC y1 ++ ([Value.bool i1] ++ (elC x2 ++ (elC y2 ++ ([Value.bool i2] ++ ([Value.slice KA kl kc] ++ [Value.slice MA ml mc]))))))))))), 29), ((g2.γ 6), ([Value.slice ((g2.δ 2).o 0) (wd (prm (2 * c - 1))).length ((g2.δ 2).n 0)] ++ ([Value.int .i64 (if c = 3 then 48 else 32)] ++ ([Value.slice ((g2.δ 2).o 1) (wd (cbN c)).length ((g2.δ 2).n 1)] ++ ([Value.slice none 0 0] ++ ([Value.slice ((g2.δ 2).o 2) (wd (prm (2 * c))).length ((g2.δ 2).n 2)] ++ ([Value.slice ((g2.δ 2).o 3) (wd (gxN c)).length ((g2.δ 2).n 3)] ++ ([Value.slice none 0 0] ++ ([Value.slice ((g2.δ 2).o 4) (wd (gyN c)).length ((g2.δ 2).n 4)] ++ ([Value.slice none 0 0] ++ ([Value.bool false] ++ [Value.bool false])))))))))), 39)]) (fun g2 => [fun w => CrA c (g2.δ 2) w])
    hF hI trivial (fun g => ⟨pv,
      lk1 0 0 rfl rfl,
      cx (fun l d w w1 hg h => CrA.grow hg rfl h) fun w hI hfa => ref8of_any c h1 h3,
      pv,
      pv,
      pv,
      nw,
      po (.agg (([Value.slice ((g.δ 2).o 0) (wd (prm (2 * c - 1))).length ((g.δ 2).n 0)] ++ ([Value.int .i64 (if c = 3 then 48 else 32)] ++ ([Value.slice ((g.δ 2).o 1) (wd (cbN c)).length ((g.δ 2).n 1)] ++ ([Value.slice none 0 0] ++ ([Value.slice ((g.δ 2).o 2) (wd (prm (2 * c))).length ((g.δ 2).n 2)] ++ ([Value.slice ((g.δ 2).o 3) (wd (gxN c)).length ((g.δ 2).n 3)] ++ ([Value.slice none 0 0] ++ ([Value.slice ((g.δ 2).o 4) (wd (gyN c)).length ((g.δ 2).n 4)] ++ ([Value.slice none 0 0] ++ ([Value.bool false] ++ [Value.bool false]))))))))))).toArray) (([Value.slice none 0 0] ++ ([Value.int .i64 0] ++ ([Value.slice none 0 0] ++ ([Value.slice none 0 0] ++ ([Value.slice none 0 0] ++ ([Value.slice none 0 0] ++ ([Value.slice none 0 0] ++ ([Value.slice none 0 0] ++ ([Value.slice none 0 0] ++ ([Value.bool false] ++ [Value.bool false]))))))))))) rfl,
      pv, trivial⟩) ?_
  intro g2 a2 w2 hF hI
  refine wp_seq ?_
  refine wp_seq ?_
  refine sy [] #[va (.bool true),
      va (.bool false),
      va (.bool false),
      va (pt (g1.γ 0)),
      va (.int .i64 (c : Nat)),
      va (.pointer (some ⟨(g1.γ 0), 1, none⟩)),
      va (.agg ((elC x0 ++ (elC y0 ++ [Value.bool i0]))).toArray),
      va (.bool false),
      va (.bool true),
      va (.bool true),
      va (.bool true),
      .off,
      .off,
      .off,
      .off,
      .off,
      .off,
      va (.bool true),
      va (.bool true),
      .off,
      .off,
      .off,
      .off,
      .off,
      .off,
      va (.bool true)]
    (fun g3 => [(1, pt (g1.γ 0)), (2, .bool false), (3, pt (g2.γ 6)), (66, .bool true)]) (fun _ => [((g1.γ 0), ([Value.int .i64 (c : Nat)] ++ (elC x0 ++ (elC y0 ++ ([Value.bool i0] ++ (elC x1 ++ (elC y1 ++ ([Value.bool i1] ++ (elC x2 ++ (elC y2 ++ ([Value.bool i2] ++ ([Value.slice KA kl kc] ++ [Value.slice MA ml mc]))))))))))), 29), ((g2.γ 6), ([Value.slice ((g2.δ 2).o 0) (wd (prm (2 * c - 1))).length ((g2.δ 2).n 0)] ++ ([Value.int .i64 (if c = 3 then 48 else 32)] ++ ([Value.slice ((g2.δ 2).o 1) (wd (cbN c)).length ((g2.δ 2).n 1)] ++ ([Value.slice none 0 0] ++ ([Value.slice ((g2.δ 2).o 2) (wd (prm (2 * c))).length ((g2.δ 2).n 2)] ++ ([Value.slice ((g2.δ 2).o 3) (wd (gxN c)).length ((g2.δ 2).n 3)] ++ ([Value.slice none 0 0] ++ ([Value.slice ((g2.δ 2).o 4) (wd (gyN c)).length ((g2.δ 2).n 4)] ++ ([Value.slice none 0 0] ++ ([Value.bool false] ++ [Value.bool false])))))))))), 39)]) (fun _ => [fun w => CrA c (g2.δ 2) w])
    hF hI ⟨(fun w w1 hg h => CrA.grow hg rfl h), trivial⟩ (fun g => ⟨pv,
      pv,
      pv,
      pv,
      lk1 0 0 rfl rfl,
      pv,
      lk 0 1 rfl rfl,
      cv fun w hI hfa => on1_f h1 h3 hx0 hy0 e0,
      pv,
      pv,
      pv,
      offV,
      offV,
      offV,
      offV,
      offV,
      offV,
      pv,
      pv,
      offV,
      offV,
      offV,
      offV,
      offV,
      offV,
      pv, trivial⟩) ?_
  intro g3 a3 w3 hF hI
  refine wp_cond_true (hF.eval rfl) ?_
  refine wp_seq ?_
  refine sy [] #[va (.bool true),
      va (.bool true)]
    (fun g4 => [(1, pt (g1.γ 0)), (2, .bool true), (3, pt (g2.γ 6))]) (fun _ => [((g1.γ 0), ([Value.int .i64 (c : Nat)] ++ (elC x0 ++ (elC y0 ++ ([Value.bool i0] ++ (elC x1 ++ (elC y1 ++ ([Value.bool i1] ++ (elC x2 ++ (elC y2 ++ ([Value.bool i2] ++ ([Value.slice KA kl kc] ++ [Value.slice MA ml mc]))))))))))), 29), ((g2.γ 6), ([Value.slice ((g2.δ 2).o 0) (wd (prm (2 * c - 1))).length ((g2.δ 2).n 0)] ++ ([Value.int .i64 (if c = 3 then 48 else 32)] ++ ([Value.slice ((g2.δ 2).o 1) (wd (cbN c)).length ((g2.δ 2).n 1)] ++ ([Value.slice none 0 0] ++ ([Value.slice ((g2.δ 2).o 2) (wd (prm (2 * c))).length ((g2.δ 2).n 2)] ++ ([Value.slice ((g2.δ 2).o 3) (wd (gxN c)).length ((g2.δ 2).n 3)] ++ ([Value.slice none 0 0] ++ ([Value.slice ((g2.δ 2).o 4) (wd (gyN c)).length ((g2.δ 2).n 4)] ++ ([Value.slice none 0 0] ++ ([Value.bool false] ++ [Value.bool false])))))))))), 39)]) (fun _ => [fun w => CrA c (g2.δ 2) w])
    hF hI ⟨(fun w w1 hg h => CrA.grow hg rfl h), trivial⟩ (fun g => ⟨cv fun w hI hfa => wakes_any,
      pv, trivial⟩) ?_
  intro g4 a4 w4 hF hI
  refine wp_ret ?_
  show bodyPost Tryz.prog Tryz.f4 (Ret w (.bool true)) .ret _ _
  exact sym_ret rfl hF.df (rv_tmp hF rfl) ⟨rfl, hI.below⟩

set_option maxRecDepth 100000 in
set_option maxHeartbeats 4000000 in
theorem group_off1 {i0 : Bool} {x0 y0 x1 y1 x2 y2 : Nat} {i1 i2 : Bool} {KA MA : Option Addr} {kl ml kc mc : Nat} {c : Nat} (h1 : 1 ≤ c) (h3 : c ≤ 3) [Pr (cp c)] {P : GP (Zm (cp c))} (hP : Pn c x0 y0 i0 P) (hx1 : x1 < B64 ^ 6) (hy1 : y1 < B64 ^ 6) (e1 : onc c x1 y1 i1 = false) {w : World} : Calls Tryz.prog 4 #[.agg (([Value.int .i64 (c : Nat)] ++ (elC x0 ++ (elC y0 ++ ([Value.bool i0] ++ (elC x1 ++ (elC y1 ++ ([Value.bool i1] ++ (elC x2 ++ (elC y2 ++ ([Value.bool i2] ++ ([Value.slice KA kl kc] ++ [Value.slice MA ml mc])))))))))))).toArray] w (Ret w (.bool true)) := by
  refine calls_of_wp Tryz.func4 (by rfl : Tryz.f4.body = some _) ?_
  have hF : Fr [(0, .agg (([Value.int .i64 (c : Nat)] ++ (elC x0 ++ (elC y0 ++ ([Value.bool i0] ++ (elC x1 ++ (elC y1 ++ ([Value.bool i1] ++ (elC x2 ++ (elC y2 ++ ([Value.bool i2] ++ ([Value.slice KA kl kc] ++ [Value.slice MA ml mc])))))))))))).toArray)] 255 _ := Fr.start (args := #[.agg (([Value.int .i64 (c : Nat)] ++ (elC x0 ++ (elC y0 ++ ([Value.bool i0] ++ (elC x1 ++ (elC y1 ++ ([Value.bool i1] ++ (elC x2 ++ (elC y2 ++ ([Value.bool i2] ++ ([Value.slice KA kl kc] ++ [Value.slice MA ml mc])))))))))))).toArray]) (m := 255) (by simp)
  have hI := Inv.start0 w
  refine wp_seq ?_
  refine sy [] #[.new [] (fun _ => (([Value.int .i64 (c : Nat)] ++ (elC x0 ++ (elC y0 ++ ([Value.bool i0] ++ (elC x1 ++ (elC y1 ++ ([Value.bool i1] ++ (elC x2 ++ (elC y2 ++ ([Value.bool i2] ++ ([Value.slice KA kl kc] ++ [Value.slice MA ml mc])))))))))))).toArray) 29,
      va (.bool false)]
    (fun g1 => [(1, pt (g1.γ 0)), (2, .bool false)]) (fun g1 => [((g1.γ 0), ([Value.int .i64 (c : Nat)] ++ (elC x0 ++ (elC y0 ++ ([Value.bool i0] ++ (elC x1 ++ (elC y1 ++ ([Value.bool i1] ++ (elC x2 ++ (elC y2 ++ ([Value.bool i2] ++ ([Value.slice KA kl kc] ++ [Value.slice MA ml mc]))))))))))), 29)]) (fun _ => [])
    hF hI trivial (fun g => ⟨nw,
      pv, trivial⟩) ?_
  intro g1 a1 w1 hF hI
  refine wp_seq ?_
  refine sy [39] #[va (pt (g1.γ 0)),
      va (.int .i64 (c : Nat)),
      .ex [] (fun d => .tuple #[crV c d, .bool true]) (fun _ d => fun w => CrA c d w),
      .val [2] (fun l => .tuple #[.agg (([Value.slice ((l.getD 0 dat0).o 0) (wd (prm (2 * c - 1))).length ((l.getD 0 dat0).n 0)] ++ ([Value.int .i64 (if c = 3 then 48 else 32)] ++ ([Value.slice ((l.getD 0 dat0).o 1) (wd (cbN c)).length ((l.getD 0 dat0).n 1)] ++ ([Value.slice none 0 0] ++ ([Value.slice ((l.getD 0 dat0).o 2) (wd (prm (2 * c))).length ((l.getD 0 dat0).n 2)] ++ ([Value.slice ((l.getD 0 dat0).o 3) (wd (gxN c)).length ((l.getD 0 dat0).n 3)] ++ ([Value.slice none 0 0] ++ ([Value.slice ((l.getD 0 dat0).o 4) (wd (gyN c)).length ((l.getD 0 dat0).n 4)] ++ ([Value.slice none 0 0] ++ ([Value.bool false] ++ [Value.bool false]))))))))))).toArray, .bool true]),
      .val [2] (fun l => .agg (([Value.slice ((l.getD 0 dat0).o 0) (wd (prm (2 * c - 1))).length ((l.getD 0 dat0).n 0)] ++ ([Value.int .i64 (if c = 3 then 48 else 32)] ++ ([Value.slice ((l.getD 0 dat0).o 1) (wd (cbN c)).length ((l.getD 0 dat0).n 1)] ++ ([Value.slice none 0 0] ++ ([Value.slice ((l.getD 0 dat0).o 2) (wd (prm (2 * c))).length ((l.getD 0 dat0).n 2)] ++ ([Value.slice ((l.getD 0 dat0).o 3) (wd (gxN c)).length ((l.getD 0 dat0).n 3)] ++ ([Value.slice none 0 0] ++ ([Value.slice ((l.getD 0 dat0).o 4) (wd (gyN c)).length ((l.getD 0 dat0).n 4)] ++ ([Value.slice none 0 0] ++ ([Value.bool false] ++ [Value.bool false]))))))))))).toArray),
      va (.bool true),
      .new [] (fun _ => (([Value.slice none 0 0] ++ ([Value.int .i64 0] ++ ([Value.slice none 0 0] ++ ([Value.slice none 0 0] ++ ([Value.slice none 0 0] ++ ([Value.slice none 0 0] ++ ([Value.slice none 0 0] ++ ([Value.slice none 0 0] ++ ([Value.slice none 0 0] ++ ([Value.bool false] ++ [Value.bool false]))))))))))).toArray) 39,
      .put 6 [2] (fun l => (([Value.slice ((l.getD 0 dat0).o 0) (wd (prm (2 * c - 1))).length ((l.getD 0 dat0).n 0)] ++ ([Value.int .i64 (if c = 3 then 48 else 32)] ++ ([Value.slice ((l.getD 0 dat0).o 1) (wd (cbN c)).length ((l.getD 0 dat0).n 1)] ++ ([Value.slice none 0 0] ++ ([Value.slice ((l.getD 0 dat0).o 2) (wd (prm (2 * c))).length ((l.getD 0 dat0).n 2)] ++ ([Value.slice ((l.getD 0 dat0).o 3) (wd (gxN c)).length ((l.getD 0 dat0).n 3)] ++ ([Value.slice none 0 0] ++ ([Value.slice ((l.getD 0 dat0).o 4) (wd (gyN c)).length ((l.getD 0 dat0).n 4)] ++ ([Value.slice none 0 0] ++ ([Value.bool false] ++ [Value.bool false]))))))))))).toArray),
      va (.bool true)]
    (fun g2 => [(1, pt (g1.γ 0)), (2, .bool false), (3, pt (g2.γ 6)), (4, .bool true)]) (fun g2 => [((g1.γ 0), ([Value.int .i64 (c : Nat)] ++ (elC x0 ++ (elC y0 ++ ([Value.bool i0] ++ (elC x1 ++ (elC y1 ++ ([Value.bool i1] ++ (elC x2 ++ (elC y2 ++ ([Value.bool i2] ++ ([Value.slice KA kl kc] ++ [Value.slice MA ml mc]))))))))))), 29), ((g2.γ 6), ([Value.slice ((g2.δ 2).o 0) (wd (prm (2 * c - 1))).length ((g2.δ 2).n 0)] ++ ([Value.int .i64 (if c = 3 then 48 else 32)] ++ ([Value.slice ((g2.δ 2).o 1) (wd (cbN c)).length ((g2.δ 2).n 1)] ++ ([Value.slice none 0 0] ++ ([Value.slice ((g2.δ 2).o 2) (wd (prm (2 * c))).length ((g2.δ 2).n 2)] ++ ([Value.slice ((g2.δ 2).o 3) (wd (gxN c)).length ((g2.δ 2).n 3)] ++ ([Value.slice none 0 0] ++ ([Value.slice ((g2.δ 2).o 4) (wd (gyN c)).length ((g2.δ 2).n 4)] ++ ([Value.slice none 0 0] ++ ([Value.bool false] ++ [Value.bool false])))))))))), 39)]) (fun g2 => [fun w => CrA c (g2.δ 2) w])
    hF hI trivial (fun g => ⟨pv,
      lk1 0 0 rfl rfl,
      cx (fun l d w w1 hg h => CrA.grow hg rfl h) fun w hI hfa => ref8of_any c h1 h3,
      pv,
      pv,
      pv,
      nw,
      po (.agg (([Value.slice ((g.δ 2).o 0) (wd (prm (2 * c - 1))).length ((g.δ 2).n 0)] ++ ([Value.int .i64 (if c = 3 then 48 else 32)] ++ ([Value.slice ((g.δ 2).o 1) (wd (cbN c)).length ((g.δ 2).n 1)] ++ ([Value.slice none 0 0] ++ ([Value.slice ((g.δ 2).o 2) (wd (prm (2 * c))).length ((g.δ 2).n 2)] ++ ([Value.slice ((g.δ 2).o 3) (wd (gxN c)).length ((g.δ 2).n 3)] ++ ([Value.slice none 0 0] ++ ([Value.slice ((g.δ 2).o 4) (wd (gyN c)).length ((g.δ 2).n 4)] ++ ([Value.slice none 0 0] ++ ([Value.bool false] ++ [Value.bool false]))))))))))).toArray) (([Value.slice none 0 0] ++ ([Value.int .i64 0] ++ ([Value.slice none 0 0] ++ ([Value.slice none 0 0] ++ ([Value.slice none 0 0] ++ ([Value.slice none 0 0] ++ ([Value.slice none 0 0] ++ ([Value.slice none 0 0] ++ ([Value.slice none 0 0] ++ ([Value.bool false] ++ [Value.bool false]))))))))))) rfl,
      pv, trivial⟩) ?_
  intro g2 a2 w2 hF hI
  refine wp_seq ?_
  refine wp_seq ?_
  refine sy [] #[va (.bool true),
      va (.bool false),
      va (.bool false),
      va (pt (g1.γ 0)),
      va (.int .i64 (c : Nat)),
      va (.pointer (some ⟨(g1.γ 0), 1, none⟩)),
      va (.agg ((elC x0 ++ (elC y0 ++ [Value.bool i0]))).toArray),
      va (.bool true),
      va (.bool false),
      va (.bool false),
      va (.bool false),
      va (pt (g1.γ 0)),
      va (.int .i64 (c : Nat)),
      va (.pointer (some ⟨(g1.γ 0), 14, none⟩)),
      va (.agg ((elC x1 ++ (elC y1 ++ [Value.bool i1]))).toArray),
      va (.bool false),
      va (.bool true),
      va (.bool true),
      va (.bool true),
      .off,
      .off,
      .off,
      .off,
      .off,
      .off,
      va (.bool true)]
    (fun g3 => [(1, pt (g1.γ 0)), (2, .bool false), (3, pt (g2.γ 6)), (66, .bool true)]) (fun _ => [((g1.γ 0), ([Value.int .i64 (c : Nat)] ++ (elC x0 ++ (elC y0 ++ ([Value.bool i0] ++ (elC x1 ++ (elC y1 ++ ([Value.bool i1] ++ (elC x2 ++ (elC y2 ++ ([Value.bool i2] ++ ([Value.slice KA kl kc] ++ [Value.slice MA ml mc]))))))))))), 29), ((g2.γ 6), ([Value.slice ((g2.δ 2).o 0) (wd (prm (2 * c - 1))).length ((g2.δ 2).n 0)] ++ ([Value.int .i64 (if c = 3 then 48 else 32)] ++ ([Value.slice ((g2.δ 2).o 1) (wd (cbN c)).length ((g2.δ 2).n 1)] ++ ([Value.slice none 0 0] ++ ([Value.slice ((g2.δ 2).o 2) (wd (prm (2 * c))).length ((g2.δ 2).n 2)] ++ ([Value.slice ((g2.δ 2).o 3) (wd (gxN c)).length ((g2.δ 2).n 3)] ++ ([Value.slice none 0 0] ++ ([Value.slice ((g2.δ 2).o 4) (wd (gyN c)).length ((g2.δ 2).n 4)] ++ ([Value.slice none 0 0] ++ ([Value.bool false] ++ [Value.bool false])))))))))), 39)]) (fun _ => [fun w => CrA c (g2.δ 2) w])
    hF hI ⟨(fun w w1 hg h => CrA.grow hg rfl h), trivial⟩ (fun g => ⟨pv,
      pv,
      pv,
      pv,
      lk1 0 0 rfl rfl,
      pv,
      lk 0 1 rfl rfl,
      cv fun w hI hfa => on_p h1 h3 hP,
      pv,
      pv,
      pv,
      pv,
      lk1 0 0 rfl rfl,
      pv,
      lk 0 14 rfl rfl,
      cv fun w hI hfa => on1_f h1 h3 hx1 hy1 e1,
      pv,
      pv,
      pv,
      offV,
      offV,
      offV,
      offV,
      offV,
      offV,
      pv, trivial⟩) ?_
  intro g3 a3 w3 hF hI
  refine wp_cond_true (hF.eval rfl) ?_
  refine wp_seq ?_
  refine sy [] #[va (.bool true),
      va (.bool true)]
    (fun g4 => [(1, pt (g1.γ 0)), (2, .bool true), (3, pt (g2.γ 6))]) (fun _ => [((g1.γ 0), ([Value.int .i64 (c : Nat)] ++ (elC x0 ++ (elC y0 ++ ([Value.bool i0] ++ (elC x1 ++ (elC y1 ++ ([Value.bool i1] ++ (elC x2 ++ (elC y2 ++ ([Value.bool i2] ++ ([Value.slice KA kl kc] ++ [Value.slice MA ml mc]))))))))))), 29), ((g2.γ 6), ([Value.slice ((g2.δ 2).o 0) (wd (prm (2 * c - 1))).length ((g2.δ 2).n 0)] ++ ([Value.int .i64 (if c = 3 then 48 else 32)] ++ ([Value.slice ((g2.δ 2).o 1) (wd (cbN c)).length ((g2.δ 2).n 1)] ++ ([Value.slice none 0 0] ++ ([Value.slice ((g2.δ 2).o 2) (wd (prm (2 * c))).length ((g2.δ 2).n 2)] ++ ([Value.slice ((g2.δ 2).o 3) (wd (gxN c)).length ((g2.δ 2).n 3)] ++ ([Value.slice none 0 0] ++ ([Value.slice ((g2.δ 2).o 4) (wd (gyN c)).length ((g2.δ 2).n 4)] ++ ([Value.slice none 0 0] ++ ([Value.bool false] ++ [Value.bool false])))))))))), 39)]) (fun _ => [fun w => CrA c (g2.δ 2) w])
    hF hI ⟨(fun w w1 hg h => CrA.grow hg rfl h), trivial⟩ (fun g => ⟨cv fun w hI hfa => wakes_any,
      pv, trivial⟩) ?_
  intro g4 a4 w4 hF hI
  refine wp_ret ?_
  show bodyPost Tryz.prog Tryz.f4 (Ret w (.bool true)) .ret _ _
  exact sym_ret rfl hF.df (rv_tmp hF rfl) ⟨rfl, hI.below⟩

set_option maxRecDepth 100000 in
set_option maxHeartbeats 4000000 in
theorem group_off2 {i0 : Bool} {x0 y0 x1 y1 x2 y2 : Nat} {i1 i2 : Bool} {KA MA : Option Addr} {kl ml kc mc : Nat} {c : Nat} (h1 : 1 ≤ c) (h3 : c ≤ 3) [Pr (cp c)] {P Q : GP (Zm (cp c))} (hP : Pn c x0 y0 i0 P) (hQ : Pn c x1 y1 i1 Q) (hx2 : x2 < B64 ^ 6) (hy2 : y2 < B64 ^ 6) (e2 : onc c x2 y2 i2 = false) {w : World} : Calls Tryz.prog 4 #[.agg (([Value.int .i64 (c : Nat)] ++ (elC x0 ++ (elC y0 ++ ([Value.bool i0] ++ (elC x1 ++ (elC y1 ++ ([Value.bool i1] ++ (elC x2 ++ (elC y2 ++ ([Value.bool i2] ++ ([Value.slice KA kl kc] ++ [Value.slice MA ml mc])))))))))))).toArray] w (Ret w (.bool true)) := by
  refine calls_of_wp Tryz.func4 (by rfl : Tryz.f4.body = some _) ?_
  have hF : Fr [(0, .agg (([Value.int .i64 (c : Nat)] ++ (elC x0 ++ (elC y0 ++ ([Value.bool i0] ++ (elC x1 ++ (elC y1 ++ ([Value.bool i1] ++ (elC x2 ++ (elC y2 ++ ([Value.bool i2] ++ ([Value.slice KA kl kc] ++ [Value.slice MA ml mc])))))))))))).toArray)] 255 _ := Fr.start (args := #[.agg (([Value.int .i64 (c : Nat)] ++ (elC x0 ++ (elC y0 ++ ([Value.bool i0] ++ (elC x1 ++ (elC y1 ++ ([Value.bool i1] ++ (elC x2 ++ (elC y2 ++ ([Value.bool i2] ++ ([Value.slice KA kl kc] ++ [Value.slice MA ml mc])))))))))))).toArray]) (m := 255) (by simp)
  have hI := Inv.start0 w
  refine wp_seq ?_
  refine sy [] #[.new [] (fun _ => (([Value.int .i64 (c : Nat)] ++ (elC x0 ++ (elC y0 ++ ([Value.bool i0] ++ (elC x1 ++ (elC y1 ++ ([Value.bool i1] ++ (elC x2 ++ (elC y2 ++ ([Value.bool i2] ++ ([Value.slice KA kl kc] ++ [Value.slice MA ml mc])))))))))))).toArray) 29,
      va (.bool false)]
    (fun g1 => [(1, pt (g1.γ 0)), (2, .bool false)]) (fun g1 => [((g1.γ 0), ([Value.int .i64 (c : Nat)] ++ (elC x0 ++ (elC y0 ++ ([Value.bool i0] ++ (elC x1 ++ (elC y1 ++ ([Value.bool i1] ++ (elC x2 ++ (elC y2 ++ ([Value.bool i2] ++ ([Value.slice KA kl kc] ++ [Value.slice MA ml mc]))))))))))), 29)]) (fun _ => [])
    hF hI trivial (fun g => ⟨nw,
      pv, trivial⟩) ?_
  intro g1 a1 w1 hF hI
  refine wp_seq ?_
  refine sy [39] #[va (pt (g1.γ 0)),
      va (.int .i64 (c : Nat)),
      .ex [] (fun d => .tuple #[crV c d, .bool true]) (fun _ d => fun w => CrA c d w),
      .val [2] (fun l => .tuple #[.agg (([Value.slice ((l.getD 0 dat0).o 0) (wd (prm (2 * c - 1))).length ((l.getD 0 dat0).n 0)] ++ ([Value.int .i64 (if c = 3 then 48 else 32)] ++ ([Value.slice ((l.getD 0 dat0).o 1) (wd (cbN c)).length ((l.getD 0 dat0).n 1)] ++ ([Value.slice none 0 0] ++ ([Value.slice ((l.getD 0 dat0).o 2) (wd (prm (2 * c))).length ((l.getD 0 dat0).n 2)] ++ ([Value.slice ((l.getD 0 dat0).o 3) (wd (gxN c)).length ((l.getD 0 dat0).n 3)] ++ ([Value.slice none 0 0] ++ ([Value.slice ((l.getD 0 dat0).o 4) (wd (gyN c)).length ((l.getD 0 dat0).n 4)] ++ ([Value.slice none 0 0] ++ ([Value.bool false] ++ [Value.bool false]))))))))))).toArray, .bool true]),
      .val [2] (fun l => .agg (([Value.slice ((l.getD 0 dat0).o 0) (wd (prm (2 * c - 1))).length ((l.getD 0 dat0).n 0)] ++ ([Value.int .i64 (if c = 3 then 48 else 32)] ++ ([Value.slice ((l.getD 0 dat0).o 1) (wd (cbN c)).length ((l.getD 0 dat0).n 1)] ++ ([Value.slice none 0 0] ++ ([Value.slice ((l.getD 0 dat0).o 2) (wd (prm (2 * c))).length ((l.getD 0 dat0).n 2)] ++ ([Value.slice ((l.getD 0 dat0).o 3) (wd (gxN c)).length ((l.getD 0 dat0).n 3)] ++ ([Value.slice none 0 0] ++ ([Value.slice ((l.getD 0 dat0).o 4) (wd (gyN c)).length ((l.getD 0 dat0).n 4)] ++ ([Value.slice none 0 0] ++ ([Value.bool false] ++ [Value.bool false]))))))))))).toArray),
      va (.bool true),
      .new [] (fun _ => (([Value.slice none 0 0] ++ ([Value.int .i64 0] ++ ([Value.slice none 0 0] ++ ([Value.slice none 0 0] ++ ([Value.slice none 0 0] ++ ([Value.slice none 0 0] ++ ([Value.slice none 0 0] ++ ([Value.slice none 0 0] ++ ([Value.slice none 0 0] ++ ([Value.bool false] ++ [Value.bool false]))))))))))).toArray) 39,
      .put 6 [2] (fun l => (([Value.slice ((l.getD 0 dat0).o 0) (wd (prm (2 * c - 1))).length ((l.getD 0 dat0).n 0)] ++ ([Value.int .i64 (if c = 3 then 48 else 32)] ++ ([Value.slice ((l.getD 0 dat0).o 1) (wd (cbN c)).length ((l.getD 0 dat0).n 1)] ++ ([Value.slice none 0 0] ++ ([Value.slice ((l.getD 0 dat0).o 2) (wd (prm (2 * c))).length ((l.getD 0 dat0).n 2)] ++ ([Value.slice ((l.getD 0 dat0).o 3) (wd (gxN c)).length ((l.getD 0 dat0).n 3)] ++ ([Value.slice none 0 0] ++ ([Value.slice ((l.getD 0 dat0).o 4) (wd (gyN c)).length ((l.getD 0 dat0).n 4)] ++ ([Value.slice none 0 0] ++ ([Value.bool false] ++ [Value.bool false]))))))))))).toArray),
      va (.bool true)]
    (fun g2 => [(1, pt (g1.γ 0)), (2, .bool false), (3, pt (g2.γ 6)), (4, .bool true)]) (fun g2 => [((g1.γ 0), ([Value.int .i64 (c : Nat)] ++ (elC x0 ++ (elC y0 ++ ([Value.bool i0] ++ (elC x1 ++ (elC y1 ++ ([Value.bool i1] ++ (elC x2 ++ (elC y2 ++ ([Value.bool i2] ++ ([Value.slice KA kl kc] ++ [Value.slice MA ml mc]))))))))))), 29), ((g2.γ 6), ([Value.slice ((g2.δ 2).o 0) (wd (prm (2 * c - 1))).length ((g2.δ 2).n 0)] ++ ([Value.int .i64 (if c = 3 then 48 else 32)] ++ ([Value.slice ((g2.δ 2).o 1) (wd (cbN c)).length ((g2.δ 2).n 1)] ++ ([Value.slice none 0 0] ++ ([Value.slice ((g2.δ 2).o 2) (wd (prm (2 * c))).length ((g2.δ 2).n 2)] ++ ([Value.slice ((g2.δ 2).o 3) (wd (gxN c)).length ((g2.δ 2).n 3)] ++ ([Value.slice none 0 0] ++ ([Value.slice ((g2.δ 2).o 4) (wd (gyN c)).length ((g2.δ 2).n 4)] ++ ([Value.slice none 0 0] ++ ([Value.bool false] ++ [Value.bool false])))))))))), 39)]) (fun g2 => [fun w => CrA c (g2.δ 2) w])
    hF hI trivial (fun g => ⟨pv,
      lk1 0 0 rfl rfl,
      cx (fun l d w w1 hg h => CrA.grow hg rfl h) fun w hI hfa => ref8of_any c h1 h3,
      pv,
      pv,
      pv,
      nw,
      po (.agg (([Value.slice ((g.δ 2).o 0) (wd (prm (2 * c - 1))).length ((g.δ 2).n 0)] ++ ([Value.int .i64 (if c = 3 then 48 else 32)] ++ ([Value.slice ((g.δ 2).o 1) (wd (cbN c)).length ((g.δ 2).n 1)] ++ ([Value.slice none 0 0] ++ ([Value.slice ((g.δ 2).o 2) (wd (prm (2 * c))).length ((g.δ 2).n 2)] ++ ([Value.slice ((g.δ 2).o 3) (wd (gxN c)).length ((g.δ 2).n 3)] ++ ([Value.slice none 0 0] ++ ([Value.slice ((g.δ 2).o 4) (wd (gyN c)).length ((g.δ 2).n 4)] ++ ([Value.slice none 0 0] ++ ([Value.bool false] ++ [Value.bool false]))))))))))).toArray) (([Value.slice none 0 0] ++ ([Value.int .i64 0] ++ ([Value.slice none 0 0] ++ ([Value.slice none 0 0] ++ ([Value.slice none 0 0] ++ ([Value.slice none 0 0] ++ ([Value.slice none 0 0] ++ ([Value.slice none 0 0] ++ ([Value.slice none 0 0] ++ ([Value.bool false] ++ [Value.bool false]))))))))))) rfl,
      pv, trivial⟩) ?_
  intro g2 a2 w2 hF hI
  refine wp_seq ?_
  refine wp_seq ?_
  refine sy [] #[va (.bool true),
      va (.bool false),
      va (.bool false),
      va (pt (g1.γ 0)),
      va (.int .i64 (c : Nat)),
      va (.pointer (some ⟨(g1.γ 0), 1, none⟩)),
      va (.agg ((elC x0 ++ (elC y0 ++ [Value.bool i0]))).toArray),
      va (.bool true),
      va (.bool false),
      va (.bool false),
      va (.bool false),
      va (pt (g1.γ 0)),
      va (.int .i64 (c : Nat)),
      va (.pointer (some ⟨(g1.γ 0), 14, none⟩)),
      va (.agg ((elC x1 ++ (elC y1 ++ [Value.bool i1]))).toArray),
      va (.bool true),
      va (.bool false),
      va (.bool false),
      va (.bool false),
      va (pt (g1.γ 0)),
      va (.int .i64 (c : Nat)),
      va (.pointer (some ⟨(g1.γ 0), 27, none⟩)),
      va (.agg ((elC x2 ++ (elC y2 ++ [Value.bool i2]))).toArray),
      va (.bool false),
      va (.bool true),
      va (.bool true)]
    (fun g3 => [(1, pt (g1.γ 0)), (2, .bool false), (3, pt (g2.γ 6)), (66, .bool true)]) (fun _ => [((g1.γ 0), ([Value.int .i64 (c : Nat)] ++ (elC x0 ++ (elC y0 ++ ([Value.bool i0] ++ (elC x1 ++ (elC y1 ++ ([Value.bool i1] ++ (elC x2 ++ (elC y2 ++ ([Value.bool i2] ++ ([Value.slice KA kl kc] ++ [Value.slice MA ml mc]))))))))))), 29), ((g2.γ 6), ([Value.slice ((g2.δ 2).o 0) (wd (prm (2 * c - 1))).length ((g2.δ 2).n 0)] ++ ([Value.int .i64 (if c = 3 then 48 else 32)] ++ ([Value.slice ((g2.δ 2).o 1) (wd (cbN c)).length ((g2.δ 2).n 1)] ++ ([Value.slice none 0 0] ++ ([Value.slice ((g2.δ 2).o 2) (wd (prm (2 * c))).length ((g2.δ 2).n 2)] ++ ([Value.slice ((g2.δ 2).o 3) (wd (gxN c)).length ((g2.δ 2).n 3)] ++ ([Value.slice none 0 0] ++ ([Value.slice ((g2.δ 2).o 4) (wd (gyN c)).length ((g2.δ 2).n 4)] ++ ([Value.slice none 0 0] ++ ([Value.bool false] ++ [Value.bool false])))))))))), 39)]) (fun _ => [fun w => CrA c (g2.δ 2) w])
    hF hI ⟨(fun w w1 hg h => CrA.grow hg rfl h), trivial⟩ (fun g => ⟨pv,
      pv,
      pv,
      pv,
      lk1 0 0 rfl rfl,
      pv,
      lk 0 1 rfl rfl,
      cv fun w hI hfa => on_p h1 h3 hP,
      pv,
      pv,
      pv,
      pv,
      lk1 0 0 rfl rfl,
      pv,
      lk 0 14 rfl rfl,
      cv fun w hI hfa => on_p h1 h3 hQ,
      pv,
      pv,
      pv,
      pv,
      lk1 0 0 rfl rfl,
      pv,
      lk 0 27 rfl rfl,
      cv fun w hI hfa => on1_f h1 h3 hx2 hy2 e2,
      pv,
      pv, trivial⟩) ?_
  intro g3 a3 w3 hF hI
  refine wp_cond_true (hF.eval rfl) ?_
  refine wp_seq ?_
  refine sy [] #[va (.bool true),
      va (.bool true)]
    (fun g4 => [(1, pt (g1.γ 0)), (2, .bool true), (3, pt (g2.γ 6))]) (fun _ => [((g1.γ 0), ([Value.int .i64 (c : Nat)] ++ (elC x0 ++ (elC y0 ++ ([Value.bool i0] ++ (elC x1 ++ (elC y1 ++ ([Value.bool i1] ++ (elC x2 ++ (elC y2 ++ ([Value.bool i2] ++ ([Value.slice KA kl kc] ++ [Value.slice MA ml mc]))))))))))), 29), ((g2.γ 6), ([Value.slice ((g2.δ 2).o 0) (wd (prm (2 * c - 1))).length ((g2.δ 2).n 0)] ++ ([Value.int .i64 (if c = 3 then 48 else 32)] ++ ([Value.slice ((g2.δ 2).o 1) (wd (cbN c)).length ((g2.δ 2).n 1)] ++ ([Value.slice none 0 0] ++ ([Value.slice ((g2.δ 2).o 2) (wd (prm (2 * c))).length ((g2.δ 2).n 2)] ++ ([Value.slice ((g2.δ 2).o 3) (wd (gxN c)).length ((g2.δ 2).n 3)] ++ ([Value.slice none 0 0] ++ ([Value.slice ((g2.δ 2).o 4) (wd (gyN c)).length ((g2.δ 2).n 4)] ++ ([Value.slice none 0 0] ++ ([Value.bool false] ++ [Value.bool false])))))))))), 39)]) (fun _ => [fun w => CrA c (g2.δ 2) w])
    hF hI ⟨(fun w w1 hg h => CrA.grow hg rfl h), trivial⟩ (fun g => ⟨cv fun w hI hfa => wakes_any,
      pv, trivial⟩) ?_
  intro g4 a4 w4 hF hI
  refine wp_ret ?_
  show bodyPost Tryz.prog Tryz.f4 (Ret w (.bool true)) .ret _ _
  exact sym_ret rfl hF.df (rv_tmp hF rfl) ⟨rfl, hI.below⟩

set_option maxRecDepth 100000 in
set_option maxHeartbeats 4000000 in
theorem group_t {x0 y0 x1 y1 x2 y2 : Nat} {i1 i2 : Bool} {KA MA : Option Addr} {kt mt : List Nat} {kl ml kc mc : Nat} {c : Nat} (h1 : 1 ≤ c) (h3 : c ≤ 3) [Pr (cp c)] {P Q R S A B N U K1 M1 G : GP (Zm (cp c))} (hP : Pn c x0 y0 true P) (hQ : Pn c x1 y1 i1 Q) (hR : Pn c x2 y2 i2 R) (hG : Pn c (gxN c) (gyN c) false G) (nS : Pn c (gox S) (goy S) S.inf S) (nA : Pn c (gox A) (goy A) A.inf A) (nB : Pn c (gox B) (goy B) B.inf B) (nN : Pn c (gox N) (goy N) N.inf N) (nU : Pn c (gox U) (goy U) U.inf U) (nK1 : Pn c (gox K1) (goy K1) K1.inf K1) (nM1 : Pn c (gox M1) (goy M1) M1.inf M1) (eS : gadd Fd.finv P Q = S) (eS2 : gadd Fd.finv Q P = S) (eA : gadd Fd.finv S R = A) (eB : gadd Fd.finv Q R = B) (eA2 : gadd Fd.finv P B = A) (eN : gneg P = N) (eZ : gadd Fd.finv P N = ⟨0, 0, true⟩) (eK : gmul Fd.finv P (ofBE kt) = K1) (eM : gmul Fd.finv P (ofBE mt) = M1) (eU : gadd Fd.finv K1 M1 = U) (eU2 : gmul Fd.finv P (ofBE (beb (ofBE kt + ofBE mt))) = U) (eO : gmul Fd.finv G (ofBE (beb (prm (2 * c)))) = ⟨0, 0, true⟩) (e1 : gmul Fd.finv P (ofBE [1]) = ⟨0, 0, true⟩) (eG : (gmul Fd.finv G (prm (2 * c))).inf = true) (hK : ofBE kt < Bg) (hM : ofBE mt < Bg) (hKM : ofBE kt + ofBE mt < Bg) (hO : prm (2 * c) < Bg) {w : World} (hkr : BIn 40 kt KA kl kc w) (hmr : BIn 40 mt MA ml mc w) : Calls Tryz.prog 4 #[.agg (([Value.int .i64 (c : Nat)] ++ (elC x0 ++ (elC y0 ++ ([Value.bool true] ++ (elC x1 ++ (elC y1 ++ ([Value.bool i1] ++ (elC x2 ++ (elC y2 ++ ([Value.bool i2] ++ ([Value.slice KA kl kc] ++ [Value.slice MA ml mc])))))))))))).toArray] w (Ret w (.bool true)) := by
  refine calls_of_wp Tryz.func4 (by rfl : Tryz.f4.body = some _) ?_
  have hF : Fr [(0, .agg (([Value.int .i64 (c : Nat)] ++ (elC x0 ++ (elC y0 ++ ([Value.bool true] ++ (elC x1 ++ (elC y1 ++ ([Value.bool i1] ++ (elC x2 ++ (elC y2 ++ ([Value.bool i2] ++ ([Value.slice KA kl kc] ++ [Value.slice MA ml mc])))))))))))).toArray)] 255 _ := Fr.start (args := #[.agg (([Value.int .i64 (c : Nat)] ++ (elC x0 ++ (elC y0 ++ ([Value.bool true] ++ (elC x1 ++ (elC y1 ++ ([Value.bool i1] ++ (elC x2 ++ (elC y2 ++ ([Value.bool i2] ++ ([Value.slice KA kl kc] ++ [Value.slice MA ml mc])))))))))))).toArray]) (m := 255) (by simp)
  have hI := Inv.start0 w
  refine wp_seq ?_
  refine sy [] #[.new [] (fun _ => (([Value.int .i64 (c : Nat)] ++ (elC x0 ++ (elC y0 ++ ([Value.bool true] ++ (elC x1 ++ (elC y1 ++ ([Value.bool i1] ++ (elC x2 ++ (elC y2 ++ ([Value.bool i2] ++ ([Value.slice KA kl kc] ++ [Value.slice MA ml mc])))))))))))).toArray) 29,
      va (.bool false)]
    (fun g1 => [(1, pt (g1.γ 0)), (2, .bool false)]) (fun g1 => [((g1.γ 0), ([Value.int .i64 (c : Nat)] ++ (elC x0 ++ (elC y0 ++ ([Value.bool true] ++ (elC x1 ++ (elC y1 ++ ([Value.bool i1] ++ (elC x2 ++ (elC y2 ++ ([Value.bool i2] ++ ([Value.slice KA kl kc] ++ [Value.slice MA ml mc]))))))))))), 29)]) (fun _ => [])
    hF hI trivial (fun g => ⟨nw,
      pv, trivial⟩) ?_
  intro g1 a1 w1 hF hI
  refine wp_seq ?_
  refine sy [39] #[va (pt (g1.γ 0)),
      va (.int .i64 (c : Nat)),
      .ex [] (fun d => .tuple #[crV c d, .bool true]) (fun _ d => fun w => CrA c d w),
      .val [2] (fun l => .tuple #[.agg (([Value.slice ((l.getD 0 dat0).o 0) (wd (prm (2 * c - 1))).length ((l.getD 0 dat0).n 0)] ++ ([Value.int .i64 (if c = 3 then 48 else 32)] ++ ([Value.slice ((l.getD 0 dat0).o 1) (wd (cbN c)).length ((l.getD 0 dat0).n 1)] ++ ([Value.slice none 0 0] ++ ([Value.slice ((l.getD 0 dat0).o 2) (wd (prm (2 * c))).length ((l.getD 0 dat0).n 2)] ++ ([Value.slice ((l.getD 0 dat0).o 3) (wd (gxN c)).length ((l.getD 0 dat0).n 3)] ++ ([Value.slice none 0 0] ++ ([Value.slice ((l.getD 0 dat0).o 4) (wd (gyN c)).length ((l.getD 0 dat0).n 4)] ++ ([Value.slice none 0 0] ++ ([Value.bool false] ++ [Value.bool false]))))))))))).toArray, .bool true]),
      .val [2] (fun l => .agg (([Value.slice ((l.getD 0 dat0).o 0) (wd (prm (2 * c - 1))).length ((l.getD 0 dat0).n 0)] ++ ([Value.int .i64 (if c = 3 then 48 else 32)] ++ ([Value.slice ((l.getD 0 dat0).o 1) (wd (cbN c)).length ((l.getD 0 dat0).n 1)] ++ ([Value.slice none 0 0] ++ ([Value.slice ((l.getD 0 dat0).o 2) (wd (prm (2 * c))).length ((l.getD 0 dat0).n 2)] ++ ([Value.slice ((l.getD 0 dat0).o 3) (wd (gxN c)).length ((l.getD 0 dat0).n 3)] ++ ([Value.slice none 0 0] ++ ([Value.slice ((l.getD 0 dat0).o 4) (wd (gyN c)).length ((l.getD 0 dat0).n 4)] ++ ([Value.slice none 0 0] ++ ([Value.bool false] ++ [Value.bool false]))))))))))).toArray),
      va (.bool true),
      .new [] (fun _ => (([Value.slice none 0 0] ++ ([Value.int .i64 0] ++ ([Value.slice none 0 0] ++ ([Value.slice none 0 0] ++ ([Value.slice none 0 0] ++ ([Value.slice none 0 0] ++ ([Value.slice none 0 0] ++ ([Value.slice none 0 0] ++ ([Value.slice none 0 0] ++ ([Value.bool false] ++ [Value.bool false]))))))))))).toArray) 39,
      .put 6 [2] (fun l => (([Value.slice ((l.getD 0 dat0).o 0) (wd (prm (2 * c - 1))).length ((l.getD 0 dat0).n 0)] ++ ([Value.int .i64 (if c = 3 then 48 else 32)] ++ ([Value.slice ((l.getD 0 dat0).o 1) (wd (cbN c)).length ((l.getD 0 dat0).n 1)] ++ ([Value.slice none 0 0] ++ ([Value.slice ((l.getD 0 dat0).o 2) (wd (prm (2 * c))).length ((l.getD 0 dat0).n 2)] ++ ([Value.slice ((l.getD 0 dat0).o 3) (wd (gxN c)).length ((l.getD 0 dat0).n 3)] ++ ([Value.slice none 0 0] ++ ([Value.slice ((l.getD 0 dat0).o 4) (wd (gyN c)).length ((l.getD 0 dat0).n 4)] ++ ([Value.slice none 0 0] ++ ([Value.bool false] ++ [Value.bool false]))))))))))).toArray),
      va (.bool true)]
    (fun g2 => [(1, pt (g1.γ 0)), (2, .bool false), (3, pt (g2.γ 6)), (4, .bool true)]) (fun g2 => [((g1.γ 0), ([Value.int .i64 (c : Nat)] ++ (elC x0 ++ (elC y0 ++ ([Value.bool true] ++ (elC x1 ++ (elC y1 ++ ([Value.bool i1] ++ (elC x2 ++ (elC y2 ++ ([Value.bool i2] ++ ([Value.slice KA kl kc] ++ [Value.slice MA ml mc]))))))))))), 29), ((g2.γ 6), ([Value.slice ((g2.δ 2).o 0) (wd (prm (2 * c - 1))).length ((g2.δ 2).n 0)] ++ ([Value.int .i64 (if c = 3 then 48 else 32)] ++ ([Value.slice ((g2.δ 2).o 1) (wd (cbN c)).length ((g2.δ 2).n 1)] ++ ([Value.slice none 0 0] ++ ([Value.slice ((g2.δ 2).o 2) (wd (prm (2 * c))).length ((g2.δ 2).n 2)] ++ ([Value.slice ((g2.δ 2).o 3) (wd (gxN c)).length ((g2.δ 2).n 3)] ++ ([Value.slice none 0 0] ++ ([Value.slice ((g2.δ 2).o 4) (wd (gyN c)).length ((g2.δ 2).n 4)] ++ ([Value.slice none 0 0] ++ ([Value.bool false] ++ [Value.bool false])))))))))), 39)]) (fun g2 => [fun w => CrA c (g2.δ 2) w])
    hF hI trivial (fun g => ⟨pv,
      lk1 0 0 rfl rfl,
      cx (fun l d w w1 hg h => CrA.grow hg rfl h) fun w hI hfa => ref8of_any c h1 h3,
      pv,
      pv,
      pv,
      nw,
      po (.agg (([Value.slice ((g.δ 2).o 0) (wd (prm (2 * c - 1))).length ((g.δ 2).n 0)] ++ ([Value.int .i64 (if c = 3 then 48 else 32)] ++ ([Value.slice ((g.δ 2).o 1) (wd (cbN c)).length ((g.δ 2).n 1)] ++ ([Value.slice none 0 0] ++ ([Value.slice ((g.δ 2).o 2) (wd (prm (2 * c))).length ((g.δ 2).n 2)] ++ ([Value.slice ((g.δ 2).o 3) (wd (gxN c)).length ((g.δ 2).n 3)] ++ ([Value.slice none 0 0] ++ ([Value.slice ((g.δ 2).o 4) (wd (gyN c)).length ((g.δ 2).n 4)] ++ ([Value.slice none 0 0] ++ ([Value.bool false] ++ [Value.bool false]))))))))))).toArray) (([Value.slice none 0 0] ++ ([Value.int .i64 0] ++ ([Value.slice none 0 0] ++ ([Value.slice none 0 0] ++ ([Value.slice none 0 0] ++ ([Value.slice none 0 0] ++ ([Value.slice none 0 0] ++ ([Value.slice none 0 0] ++ ([Value.slice none 0 0] ++ ([Value.bool false] ++ [Value.bool false]))))))))))) rfl,
      pv, trivial⟩) ?_
  intro g2 a2 w2 hF hI
  refine wp_seq ?_
  refine wp_seq ?_
  refine sy [] #[va (.bool true),
      va (.bool false),
      va (.bool false),
      va (pt (g1.γ 0)),
      va (.int .i64 (c : Nat)),
      va (.pointer (some ⟨(g1.γ 0), 1, none⟩)),
      va (.agg ((elC x0 ++ (elC y0 ++ [Value.bool true]))).toArray),
      va (.bool true),
      va (.bool false),
      va (.bool false),
      va (.bool false),
      va (pt (g1.γ 0)),
      va (.int .i64 (c : Nat)),
      va (.pointer (some ⟨(g1.γ 0), 14, none⟩)),
      va (.agg ((elC x1 ++ (elC y1 ++ [Value.bool i1]))).toArray),
      va (.bool true),
      va (.bool false),
      va (.bool false),
      va (.bool false),
      va (pt (g1.γ 0)),
      va (.int .i64 (c : Nat)),
      va (.pointer (some ⟨(g1.γ 0), 27, none⟩)),
      va (.agg ((elC x2 ++ (elC y2 ++ [Value.bool i2]))).toArray),
      va (.bool true),
      va (.bool false),
      va (.bool false)]
    (fun g3 => [(1, pt (g1.γ 0)), (2, .bool false), (3, pt (g2.γ 6)), (66, .bool false)]) (fun _ => [((g1.γ 0), ([Value.int .i64 (c : Nat)] ++ (elC x0 ++ (elC y0 ++ ([Value.bool true] ++ (elC x1 ++ (elC y1 ++ ([Value.bool i1] ++ (elC x2 ++ (elC y2 ++ ([Value.bool i2] ++ ([Value.slice KA kl kc] ++ [Value.slice MA ml mc]))))))))))), 29), ((g2.γ 6), ([Value.slice ((g2.δ 2).o 0) (wd (prm (2 * c - 1))).length ((g2.δ 2).n 0)] ++ ([Value.int .i64 (if c = 3 then 48 else 32)] ++ ([Value.slice ((g2.δ 2).o 1) (wd (cbN c)).length ((g2.δ 2).n 1)] ++ ([Value.slice none 0 0] ++ ([Value.slice ((g2.δ 2).o 2) (wd (prm (2 * c))).length ((g2.δ 2).n 2)] ++ ([Value.slice ((g2.δ 2).o 3) (wd (gxN c)).length ((g2.δ 2).n 3)] ++ ([Value.slice none 0 0] ++ ([Value.slice ((g2.δ 2).o 4) (wd (gyN c)).length ((g2.δ 2).n 4)] ++ ([Value.slice none 0 0] ++ ([Value.bool false] ++ [Value.bool false])))))))))), 39)]) (fun _ => [fun w => CrA c (g2.δ 2) w])
    hF hI ⟨(fun w w1 hg h => CrA.grow hg rfl h), trivial⟩ (fun g => ⟨pv,
      pv,
      pv,
      pv,
      lk1 0 0 rfl rfl,
      pv,
      lk 0 1 rfl rfl,
      cv fun w hI hfa => on_p h1 h3 hP,
      pv,
      pv,
      pv,
      pv,
      lk1 0 0 rfl rfl,
      pv,
      lk 0 14 rfl rfl,
      cv fun w hI hfa => on_p h1 h3 hQ,
      pv,
      pv,
      pv,
      pv,
      lk1 0 0 rfl rfl,
      pv,
      lk 0 27 rfl rfl,
      cv fun w hI hfa => on_p h1 h3 hR,
      pv,
      pv, trivial⟩) ?_
  intro g3 a3 w3 hF hI
  refine wp_cond_false (hF.eval rfl) ?_
  refine wp_skip ?_
  refine wp_seq ?_
  refine sy [] #[va (pt (g1.γ 0)),
      va (.int .i64 (c : Nat)),
      va (.int .i64 (c : Nat))]
    (fun g4 => [(1, pt (g1.γ 0)), (2, .bool false), (3, pt (g2.γ 6)), (5, .int .i64 (c : Nat))]) (fun _ => [((g1.γ 0), ([Value.int .i64 (c : Nat)] ++ (elC x0 ++ (elC y0 ++ ([Value.bool true] ++ (elC x1 ++ (elC y1 ++ ([Value.bool i1] ++ (elC x2 ++ (elC y2 ++ ([Value.bool i2] ++ ([Value.slice KA kl kc] ++ [Value.slice MA ml mc]))))))))))), 29), ((g2.γ 6), ([Value.slice ((g2.δ 2).o 0) (wd (prm (2 * c - 1))).length ((g2.δ 2).n 0)] ++ ([Value.int .i64 (if c = 3 then 48 else 32)] ++ ([Value.slice ((g2.δ 2).o 1) (wd (cbN c)).length ((g2.δ 2).n 1)] ++ ([Value.slice none 0 0] ++ ([Value.slice ((g2.δ 2).o 2) (wd (prm (2 * c))).length ((g2.δ 2).n 2)] ++ ([Value.slice ((g2.δ 2).o 3) (wd (gxN c)).length ((g2.δ 2).n 3)] ++ ([Value.slice none 0 0] ++ ([Value.slice ((g2.δ 2).o 4) (wd (gyN c)).length ((g2.δ 2).n 4)] ++ ([Value.slice none 0 0] ++ ([Value.bool false] ++ [Value.bool false])))))))))), 39)]) (fun _ => [fun w => CrA c (g2.δ 2) w])
    hF hI ⟨(fun w w1 hg h => CrA.grow hg rfl h), trivial⟩ (fun g => ⟨pv,
      lk1 0 0 rfl rfl,
      pv, trivial⟩) ?_
  intro g4 a4 w4 hF hI
  refine wp_seq ?_
  refine sy [26] #[va (.int .i64 (c : Nat)),
      va (.pointer (some ⟨(g1.γ 0), 1, none⟩)),
      va (.agg ((elC x0 ++ (elC y0 ++ [Value.bool true]))).toArray),
      va (.pointer (some ⟨(g1.γ 0), 14, none⟩)),
      va (.agg ((elC x1 ++ (elC y1 ++ [Value.bool i1]))).toArray),
      va (.tuple #[.agg ((elC ((gox S)) ++ (elC ((goy S)) ++ [Value.bool S.inf]))).toArray, .int .i64 0]),
      va (.tuple #[.agg ((elC ((gox S)) ++ (elC ((goy S)) ++ [Value.bool S.inf]))).toArray, .int .i64 0]),
      va (.agg ((elC ((gox S)) ++ (elC ((goy S)) ++ [Value.bool S.inf]))).toArray),
      va (.int .i64 0),
      .new [] (fun _ => ((Z6 ++ (Z6 ++ [Value.bool false]))).toArray) 26,
      .put 9 [] (fun _ => ((elC ((gox S)) ++ (elC ((goy S)) ++ [Value.bool S.inf]))).toArray),
      va (.int .i64 0)]
    (fun g5 => [(1, pt (g1.γ 0)), (2, .bool false), (3, pt (g2.γ 6)), (5, .int .i64 (c : Nat)), (6, pt (g5.γ 9))]) (fun g5 => [((g1.γ 0), ([Value.int .i64 (c : Nat)] ++ (elC x0 ++ (elC y0 ++ ([Value.bool true] ++ (elC x1 ++ (elC y1 ++ ([Value.bool i1] ++ (elC x2 ++ (elC y2 ++ ([Value.bool i2] ++ ([Value.slice KA kl kc] ++ [Value.slice MA ml mc]))))))))))), 29), ((g2.γ 6), ([Value.slice ((g2.δ 2).o 0) (wd (prm (2 * c - 1))).length ((g2.δ 2).n 0)] ++ ([Value.int .i64 (if c = 3 then 48 else 32)] ++ ([Value.slice ((g2.δ 2).o 1) (wd (cbN c)).length ((g2.δ 2).n 1)] ++ ([Value.slice none 0 0] ++ ([Value.slice ((g2.δ 2).o 2) (wd (prm (2 * c))).length ((g2.δ 2).n 2)] ++ ([Value.slice ((g2.δ 2).o 3) (wd (gxN c)).length ((g2.δ 2).n 3)] ++ ([Value.slice none 0 0] ++ ([Value.slice ((g2.δ 2).o 4) (wd (gyN c)).length ((g2.δ 2).n 4)] ++ ([Value.slice none 0 0] ++ ([Value.bool false] ++ [Value.bool false])))))))))), 39), ((g5.γ 9), (elC ((gox S)) ++ (elC ((goy S)) ++ [Value.bool S.inf])), 26)]) (fun _ => [fun w => CrA c (g2.δ 2) w])
    hF hI ⟨(fun w w1 hg h => CrA.grow hg rfl h), trivial⟩ (fun g => ⟨pv,
      pv,
      lk 0 1 rfl rfl,
      pv,
      lk 0 14 rfl rfl,
      cv fun w hI hfa => add_p h1 h3 hP hQ eS,
      pv,
      pv,
      pv,
      nw,
      po (.agg ((elC ((gox S)) ++ (elC ((goy S)) ++ [Value.bool S.inf]))).toArray) ((Z6 ++ (Z6 ++ [Value.bool false]))) rfl,
      pv, trivial⟩) ?_
  intro g5 a5 w5 hF hI
  refine wp_seq ?_
  refine sy [26] #[va (.int .i64 (c : Nat)),
      va (.pointer (some ⟨(g1.γ 0), 14, none⟩)),
      va (.agg ((elC x1 ++ (elC y1 ++ [Value.bool i1]))).toArray),
      va (.pointer (some ⟨(g1.γ 0), 1, none⟩)),
      va (.agg ((elC x0 ++ (elC y0 ++ [Value.bool true]))).toArray),
      va (.tuple #[.agg ((elC ((gox S)) ++ (elC ((goy S)) ++ [Value.bool S.inf]))).toArray, .int .i64 0]),
      va (.tuple #[.agg ((elC ((gox S)) ++ (elC ((goy S)) ++ [Value.bool S.inf]))).toArray, .int .i64 0]),
      va (.agg ((elC ((gox S)) ++ (elC ((goy S)) ++ [Value.bool S.inf]))).toArray),
      va (.int .i64 0),
      .new [] (fun _ => ((Z6 ++ (Z6 ++ [Value.bool false]))).toArray) 26,
      .put 9 [] (fun _ => ((elC ((gox S)) ++ (elC ((goy S)) ++ [Value.bool S.inf]))).toArray),
      va (.int .i64 0)]
    (fun g6 => [(1, pt (g1.γ 0)), (2, .bool false), (3, pt (g2.γ 6)), (5, .int .i64 (c : Nat)), (6, pt (g5.γ 9)), (8, pt (g6.γ 9))]) (fun g6 => [((g1.γ 0), ([Value.int .i64 (c : Nat)] ++ (elC x0 ++ (elC y0 ++ ([Value.bool true] ++ (elC x1 ++ (elC y1 ++ ([Value.bool i1] ++ (elC x2 ++ (elC y2 ++ ([Value.bool i2] ++ ([Value.slice KA kl kc] ++ [Value.slice MA ml mc]))))))))))), 29), ((g2.γ 6), ([Value.slice ((g2.δ 2).o 0) (wd (prm (2 * c - 1))).length ((g2.δ 2).n 0)] ++ ([Value.int .i64 (if c = 3 then 48 else 32)] ++ ([Value.slice ((g2.δ 2).o 1) (wd (cbN c)).length ((g2.δ 2).n 1)] ++ ([Value.slice none 0 0] ++ ([Value.slice ((g2.δ 2).o 2) (wd (prm (2 * c))).length ((g2.δ 2).n 2)] ++ ([Value.slice ((g2.δ 2).o 3) (wd (gxN c)).length ((g2.δ 2).n 3)] ++ ([Value.slice none 0 0] ++ ([Value.slice ((g2.δ 2).o 4) (wd (gyN c)).length ((g2.δ 2).n 4)] ++ ([Value.slice none 0 0] ++ ([Value.bool false] ++ [Value.bool false])))))))))), 39), ((g5.γ 9), (elC ((gox S)) ++ (elC ((goy S)) ++ [Value.bool S.inf])), 26), ((g6.γ 9), (elC ((gox S)) ++ (elC ((goy S)) ++ [Value.bool S.inf])), 26)]) (fun _ => [fun w => CrA c (g2.δ 2) w])
    hF hI ⟨(fun w w1 hg h => CrA.grow hg rfl h), trivial⟩ (fun g => ⟨pv,
      pv,
      lk 0 14 rfl rfl,
      pv,
      lk 0 1 rfl rfl,
      cv fun w hI hfa => add_p h1 h3 hQ hP eS2,
      pv,
      pv,
      pv,
      nw,
      po (.agg ((elC ((gox S)) ++ (elC ((goy S)) ++ [Value.bool S.inf]))).toArray) ((Z6 ++ (Z6 ++ [Value.bool false]))) rfl,
      pv, trivial⟩) ?_
  intro g6 a6 w6 hF hI
  refine wp_seq ?_
  refine sy [26] #[va (.int .i64 (c : Nat)),
      va (.agg ((elC ((gox S)) ++ (elC ((goy S)) ++ [Value.bool S.inf]))).toArray),
      va (.pointer (some ⟨(g1.γ 0), 27, none⟩)),
      va (.agg ((elC x2 ++ (elC y2 ++ [Value.bool i2]))).toArray),
      va (.tuple #[.agg ((elC ((gox A)) ++ (elC ((goy A)) ++ [Value.bool A.inf]))).toArray, .int .i64 0]),
      va (.tuple #[.agg ((elC ((gox A)) ++ (elC ((goy A)) ++ [Value.bool A.inf]))).toArray, .int .i64 0]),
      va (.agg ((elC ((gox A)) ++ (elC ((goy A)) ++ [Value.bool A.inf]))).toArray),
      va (.int .i64 0),
      .new [] (fun _ => ((Z6 ++ (Z6 ++ [Value.bool false]))).toArray) 26,
      .put 8 [] (fun _ => ((elC ((gox A)) ++ (elC ((goy A)) ++ [Value.bool A.inf]))).toArray),
      va (.int .i64 0)]
    (fun g7 => [(1, pt (g1.γ 0)), (2, .bool false), (3, pt (g2.γ 6)), (5, .int .i64 (c : Nat)), (6, pt (g5.γ 9)), (8, pt (g6.γ 9)), (10, pt (g7.γ 8))]) (fun g7 => [((g1.γ 0), ([Value.int .i64 (c : Nat)] ++ (elC x0 ++ (elC y0 ++ ([Value.bool true] ++ (elC x1 ++ (elC y1 ++ ([Value.bool i1] ++ (elC x2 ++ (elC y2 ++ ([Value.bool i2] ++ ([Value.slice KA kl kc] ++ [Value.slice MA ml mc]))))))))))), 29), ((g2.γ 6), ([Value.slice ((g2.δ 2).o 0) (wd (prm (2 * c - 1))).length ((g2.δ 2).n 0)] ++ ([Value.int .i64 (if c = 3 then 48 else 32)] ++ ([Value.slice ((g2.δ 2).o 1) (wd (cbN c)).length ((g2.δ 2).n 1)] ++ ([Value.slice none 0 0] ++ ([Value.slice ((g2.δ 2).o 2) (wd (prm (2 * c))).length ((g2.δ 2).n 2)] ++ ([Value.slice ((g2.δ 2).o 3) (wd (gxN c)).length ((g2.δ 2).n 3)] ++ ([Value.slice none 0 0] ++ ([Value.slice ((g2.δ 2).o 4) (wd (gyN c)).length ((g2.δ 2).n 4)] ++ ([Value.slice none 0 0] ++ ([Value.bool false] ++ [Value.bool false])))))))))), 39), ((g5.γ 9), (elC ((gox S)) ++ (elC ((goy S)) ++ [Value.bool S.inf])), 26), ((g6.γ 9), (elC ((gox S)) ++ (elC ((goy S)) ++ [Value.bool S.inf])), 26), ((g7.γ 8), (elC ((gox A)) ++ (elC ((goy A)) ++ [Value.bool A.inf])), 26)]) (fun _ => [fun w => CrA c (g2.δ 2) w])
    hF hI ⟨(fun w w1 hg h => CrA.grow hg rfl h), trivial⟩ (fun g => ⟨pv,
      lk 2 0 rfl rfl,
      pv,
      lk 0 27 rfl rfl,
      cv fun w hI hfa => add_p h1 h3 nS hR eA,
      pv,
      pv,
      pv,
      nw,
      po (.agg ((elC ((gox A)) ++ (elC ((goy A)) ++ [Value.bool A.inf]))).toArray) ((Z6 ++ (Z6 ++ [Value.bool false]))) rfl,
      pv, trivial⟩) ?_
  intro g7 a7 w7 hF hI
  refine wp_seq ?_
  refine sy [26] #[va (.int .i64 (c : Nat)),
      va (.pointer (some ⟨(g1.γ 0), 14, none⟩)),
      va (.agg ((elC x1 ++ (elC y1 ++ [Value.bool i1]))).toArray),
      va (.pointer (some ⟨(g1.γ 0), 27, none⟩)),
      va (.agg ((elC x2 ++ (elC y2 ++ [Value.bool i2]))).toArray),
      va (.tuple #[.agg ((elC ((gox B)) ++ (elC ((goy B)) ++ [Value.bool B.inf]))).toArray, .int .i64 0]),
      va (.tuple #[.agg ((elC ((gox B)) ++ (elC ((goy B)) ++ [Value.bool B.inf]))).toArray, .int .i64 0]),
      va (.agg ((elC ((gox B)) ++ (elC ((goy B)) ++ [Value.bool B.inf]))).toArray),
      va (.int .i64 0),
      .new [] (fun _ => ((Z6 ++ (Z6 ++ [Value.bool false]))).toArray) 26,
      .put 9 [] (fun _ => ((elC ((gox B)) ++ (elC ((goy B)) ++ [Value.bool B.inf]))).toArray),
      va (.int .i64 0)]
    (fun g8 => [(1, pt (g1.γ 0)), (2, .bool false), (3, pt (g2.γ 6)), (5, .int .i64 (c : Nat)), (6, pt (g5.γ 9)), (8, pt (g6.γ 9)), (10, pt (g7.γ 8)), (12, pt (g8.γ 9))]) (fun g8 => [((g1.γ 0), ([Value.int .i64 (c : Nat)] ++ (elC x0 ++ (elC y0 ++ ([Value.bool true] ++ (elC x1 ++ (elC y1 ++ ([Value.bool i1] ++ (elC x2 ++ (elC y2 ++ ([Value.bool i2] ++ ([Value.slice KA kl kc] ++ [Value.slice MA ml mc]))))))))))), 29), ((g2.γ 6), ([Value.slice ((g2.δ 2).o 0) (wd (prm (2 * c - 1))).length ((g2.δ 2).n 0)] ++ ([Value.int .i64 (if c = 3 then 48 else 32)] ++ ([Value.slice ((g2.δ 2).o 1) (wd (cbN c)).length ((g2.δ 2).n 1)] ++ ([Value.slice none 0 0] ++ ([Value.slice ((g2.δ 2).o 2) (wd (prm (2 * c))).length ((g2.δ 2).n 2)] ++ ([Value.slice ((g2.δ 2).o 3) (wd (gxN c)).length ((g2.δ 2).n 3)] ++ ([Value.slice none 0 0] ++ ([Value.slice ((g2.δ 2).o 4) (wd (gyN c)).length ((g2.δ 2).n 4)] ++ ([Value.slice none 0 0] ++ ([Value.bool false] ++ [Value.bool false])))))))))), 39), ((g5.γ 9), (elC ((gox S)) ++ (elC ((goy S)) ++ [Value.bool S.inf])), 26), ((g6.γ 9), (elC ((gox S)) ++ (elC ((goy S)) ++ [Value.bool S.inf])), 26), ((g7.γ 8), (elC ((gox A)) ++ (elC ((goy A)) ++ [Value.bool A.inf])), 26), ((g8.γ 9), (elC ((gox B)) ++ (elC ((goy B)) ++ [Value.bool B.inf])), 26)]) (fun _ => [fun w => CrA c (g2.δ 2) w])
    hF hI ⟨(fun w w1 hg h => CrA.grow hg rfl h), trivial⟩ (fun g => ⟨pv,
      pv,
      lk 0 14 rfl rfl,
      pv,
      lk 0 27 rfl rfl,
      cv fun w hI hfa => add_p h1 h3 hQ hR eB,
      pv,
      pv,
      pv,
      nw,
      po (.agg ((elC ((gox B)) ++ (elC ((goy B)) ++ [Value.bool B.inf]))).toArray) ((Z6 ++ (Z6 ++ [Value.bool false]))) rfl,
      pv, trivial⟩) ?_
  intro g8 a8 w8 hF hI
  refine wp_seq ?_
  refine sy [26] #[va (.int .i64 (c : Nat)),
      va (.pointer (some ⟨(g1.γ 0), 1, none⟩)),
      va (.agg ((elC x0 ++ (elC y0 ++ [Value.bool true]))).toArray),
      va (.agg ((elC ((gox B)) ++ (elC ((goy B)) ++ [Value.bool B.inf]))).toArray),
      va (.tuple #[.agg ((elC ((gox A)) ++ (elC ((goy A)) ++ [Value.bool A.inf]))).toArray, .int .i64 0]),
      va (.tuple #[.agg ((elC ((gox A)) ++ (elC ((goy A)) ++ [Value.bool A.inf]))).toArray, .int .i64 0]),
      va (.agg ((elC ((gox A)) ++ (elC ((goy A)) ++ [Value.bool A.inf]))).toArray),
      va (.int .i64 0),
      .new [] (fun _ => ((Z6 ++ (Z6 ++ [Value.bool false]))).toArray) 26,
      .put 8 [] (fun _ => ((elC ((gox A)) ++ (elC ((goy A)) ++ [Value.bool A.inf]))).toArray),
      va (.int .i64 0)]
    (fun g9 => [(1, pt (g1.γ 0)), (2, .bool false), (3, pt (g2.γ 6)), (5, .int .i64 (c : Nat)), (6, pt (g5.γ 9)), (8, pt (g6.γ 9)), (10, pt (g7.γ 8)), (14, pt (g9.γ 8))]) (fun g9 => [((g1.γ 0), ([Value.int .i64 (c : Nat)] ++ (elC x0 ++ (elC y0 ++ ([Value.bool true] ++ (elC x1 ++ (elC y1 ++ ([Value.bool i1] ++ (elC x2 ++ (elC y2 ++ ([Value.bool i2] ++ ([Value.slice KA kl kc] ++ [Value.slice MA ml mc]))))))))))), 29), ((g2.γ 6), ([Value.slice ((g2.δ 2).o 0) (wd (prm (2 * c - 1))).length ((g2.δ 2).n 0)] ++ ([Value.int .i64 (if c = 3 then 48 else 32)] ++ ([Value.slice ((g2.δ 2).o 1) (wd (cbN c)).length ((g2.δ 2).n 1)] ++ ([Value.slice none 0 0] ++ ([Value.slice ((g2.δ 2).o 2) (wd (prm (2 * c))).length ((g2.δ 2).n 2)] ++ ([Value.slice ((g2.δ 2).o 3) (wd (gxN c)).length ((g2.δ 2).n 3)] ++ ([Value.slice none 0 0] ++ ([Value.slice ((g2.δ 2).o 4) (wd (gyN c)).length ((g2.δ 2).n 4)] ++ ([Value.slice none 0 0] ++ ([Value.bool false] ++ [Value.bool false])))))))))), 39), ((g5.γ 9), (elC ((gox S)) ++ (elC ((goy S)) ++ [Value.bool S.inf])), 26), ((g6.γ 9), (elC ((gox S)) ++ (elC ((goy S)) ++ [Value.bool S.inf])), 26), ((g7.γ 8), (elC ((gox A)) ++ (elC ((goy A)) ++ [Value.bool A.inf])), 26), ((g8.γ 9), (elC ((gox B)) ++ (elC ((goy B)) ++ [Value.bool B.inf])), 26), ((g9.γ 8), (elC ((gox A)) ++ (elC ((goy A)) ++ [Value.bool A.inf])), 26)]) (fun _ => [fun w => CrA c (g2.δ 2) w])
    hF hI ⟨(fun w w1 hg h => CrA.grow hg rfl h), trivial⟩ (fun g => ⟨pv,
      pv,
      lk 0 1 rfl rfl,
      lk 5 0 rfl rfl,
      cv fun w hI hfa => add_p h1 h3 hP nB eA2,
      pv,
      pv,
      pv,
      nw,
      po (.agg ((elC ((gox A)) ++ (elC ((goy A)) ++ [Value.bool A.inf]))).toArray) ((Z6 ++ (Z6 ++ [Value.bool false]))) rfl,
      pv, trivial⟩) ?_
  intro g9 a9 w9 hF hI
  refine wp_seq ?_
  refine sy [26] #[va (.int .i64 (c : Nat)),
      va (.pointer (some ⟨(g1.γ 0), 1, none⟩)),
      va (.agg ((elC x0 ++ (elC y0 ++ [Value.bool true]))).toArray),
      va (.tuple #[.agg ((elC ((gox N)) ++ (elC ((goy N)) ++ [Value.bool N.inf]))).toArray, .int .i64 0]),
      va (.tuple #[.agg ((elC ((gox N)) ++ (elC ((goy N)) ++ [Value.bool N.inf]))).toArray, .int .i64 0]),
      va (.agg ((elC ((gox N)) ++ (elC ((goy N)) ++ [Value.bool N.inf]))).toArray),
      va (.int .i64 0),
      .new [] (fun _ => ((Z6 ++ (Z6 ++ [Value.bool false]))).toArray) 26,
      .put 7 [] (fun _ => ((elC ((gox N)) ++ (elC ((goy N)) ++ [Value.bool N.inf]))).toArray),
      va (.int .i64 0)]
    (fun g10 => [(1, pt (g1.γ 0)), (2, .bool false), (3, pt (g2.γ 6)), (5, .int .i64 (c : Nat)), (6, pt (g5.γ 9)), (8, pt (g6.γ 9)), (10, pt (g7.γ 8)), (14, pt (g9.γ 8)), (16, pt (g10.γ 7))]) (fun g10 => [((g1.γ 0), ([Value.int .i64 (c : Nat)] ++ (elC x0 ++ (elC y0 ++ ([Value.bool true] ++ (elC x1 ++ (elC y1 ++ ([Value.bool i1] ++ (elC x2 ++ (elC y2 ++ ([Value.bool i2] ++ ([Value.slice KA kl kc] ++ [Value.slice MA ml mc]))))))))))), 29), ((g2.γ 6), ([Value.slice ((g2.δ 2).o 0) (wd (prm (2 * c - 1))).length ((g2.δ 2).n 0)] ++ ([Value.int .i64 (if c = 3 then 48 else 32)] ++ ([Value.slice ((g2.δ 2).o 1) (wd (cbN c)).length ((g2.δ 2).n 1)] ++ ([Value.slice none 0 0] ++ ([Value.slice ((g2.δ 2).o 2) (wd (prm (2 * c))).length ((g2.δ 2).n 2)] ++ ([Value.slice ((g2.δ 2).o 3) (wd (gxN c)).length ((g2.δ 2).n 3)] ++ ([Value.slice none 0 0] ++ ([Value.slice ((g2.δ 2).o 4) (wd (gyN c)).length ((g2.δ 2).n 4)] ++ ([Value.slice none 0 0] ++ ([Value.bool false] ++ [Value.bool false])))))))))), 39), ((g5.γ 9), (elC ((gox S)) ++ (elC ((goy S)) ++ [Value.bool S.inf])), 26), ((g6.γ 9), (elC ((gox S)) ++ (elC ((goy S)) ++ [Value.bool S.inf])), 26), ((g7.γ 8), (elC ((gox A)) ++ (elC ((goy A)) ++ [Value.bool A.inf])), 26), ((g8.γ 9), (elC ((gox B)) ++ (elC ((goy B)) ++ [Value.bool B.inf])), 26), ((g9.γ 8), (elC ((gox A)) ++ (elC ((goy A)) ++ [Value.bool A.inf])), 26), ((g10.γ 7), (elC ((gox N)) ++ (elC ((goy N)) ++ [Value.bool N.inf])), 26)]) (fun _ => [fun w => CrA c (g2.δ 2) w])
    hF hI ⟨(fun w w1 hg h => CrA.grow hg rfl h), trivial⟩ (fun g => ⟨pv,
      pv,
      lk 0 1 rfl rfl,
      cv fun w hI hfa => neg_p h1 h3 hP eN,
      pv,
      pv,
      pv,
      nw,
      po (.agg ((elC ((gox N)) ++ (elC ((goy N)) ++ [Value.bool N.inf]))).toArray) ((Z6 ++ (Z6 ++ [Value.bool false]))) rfl,
      pv, trivial⟩) ?_
  intro g10 a10 w10 hF hI
  refine wp_seq ?_
  refine sy [26] #[va (.int .i64 (c : Nat)),
      va (.pointer (some ⟨(g1.γ 0), 1, none⟩)),
      va (.agg ((elC x0 ++ (elC y0 ++ [Value.bool true]))).toArray),
      va (.agg ((elC ((gox N)) ++ (elC ((goy N)) ++ [Value.bool N.inf]))).toArray),
      va (.tuple #[.agg ((Z6 ++ (Z6 ++ [Value.bool true]))).toArray, .int .i64 0]),
      va (.tuple #[.agg ((Z6 ++ (Z6 ++ [Value.bool true]))).toArray, .int .i64 0]),
      va (.agg ((Z6 ++ (Z6 ++ [Value.bool true]))).toArray),
      va (.int .i64 0),
      .new [] (fun _ => ((Z6 ++ (Z6 ++ [Value.bool false]))).toArray) 26,
      .put 8 [] (fun _ => ((Z6 ++ (Z6 ++ [Value.bool true]))).toArray),
      va (.int .i64 0)]
    (fun g11 => [(1, pt (g1.γ 0)), (2, .bool false), (3, pt (g2.γ 6)), (5, .int .i64 (c : Nat)), (6, pt (g5.γ 9)), (8, pt (g6.γ 9)), (10, pt (g7.γ 8)), (14, pt (g9.γ 8)), (18, pt (g11.γ 8))]) (fun g11 => [((g1.γ 0), ([Value.int .i64 (c : Nat)] ++ (elC x0 ++ (elC y0 ++ ([Value.bool true] ++ (elC x1 ++ (elC y1 ++ ([Value.bool i1] ++ (elC x2 ++ (elC y2 ++ ([Value.bool i2] ++ ([Value.slice KA kl kc] ++ [Value.slice MA ml mc]))))))))))), 29), ((g2.γ 6), ([Value.slice ((g2.δ 2).o 0) (wd (prm (2 * c - 1))).length ((g2.δ 2).n 0)] ++ ([Value.int .i64 (if c = 3 then 48 else 32)] ++ ([Value.slice ((g2.δ 2).o 1) (wd (cbN c)).length ((g2.δ 2).n 1)] ++ ([Value.slice none 0 0] ++ ([Value.slice ((g2.δ 2).o 2) (wd (prm (2 * c))).length ((g2.δ 2).n 2)] ++ ([Value.slice ((g2.δ 2).o 3) (wd (gxN c)).length ((g2.δ 2).n 3)] ++ ([Value.slice none 0 0] ++ ([Value.slice ((g2.δ 2).o 4) (wd (gyN c)).length ((g2.δ 2).n 4)] ++ ([Value.slice none 0 0] ++ ([Value.bool false] ++ [Value.bool false])))))))))), 39), ((g5.γ 9), (elC ((gox S)) ++ (elC ((goy S)) ++ [Value.bool S.inf])), 26), ((g6.γ 9), (elC ((gox S)) ++ (elC ((goy S)) ++ [Value.bool S.inf])), 26), ((g7.γ 8), (elC ((gox A)) ++ (elC ((goy A)) ++ [Value.bool A.inf])), 26), ((g8.γ 9), (elC ((gox B)) ++ (elC ((goy B)) ++ [Value.bool B.inf])), 26), ((g9.γ 8), (elC ((gox A)) ++ (elC ((goy A)) ++ [Value.bool A.inf])), 26), ((g10.γ 7), (elC ((gox N)) ++ (elC ((goy N)) ++ [Value.bool N.inf])), 26), ((g11.γ 8), (Z6 ++ (Z6 ++ [Value.bool true])), 26)]) (fun _ => [fun w => CrA c (g2.δ 2) w])
    hF hI ⟨(fun w w1 hg h => CrA.grow hg rfl h), trivial⟩ (fun g => ⟨pv,
      pv,
      lk 0 1 rfl rfl,
      lk 7 0 rfl rfl,
      cv fun w hI hfa => add_z h1 h3 hP nN eZ,
      pv,
      pv,
      pv,
      nw,
      po (.agg ((Z6 ++ (Z6 ++ [Value.bool true]))).toArray) ((Z6 ++ (Z6 ++ [Value.bool false]))) rfl,
      pv, trivial⟩) ?_
  intro g11 a11 w11 hF hI
  refine wp_seq ?_
  refine sy [26] #[va (.agg ((Z6 ++ (Z6 ++ [Value.bool true]))).toArray),
      .new [] (fun _ => ((Z6 ++ (Z6 ++ [Value.bool false]))).toArray) 26,
      .put 1 [] (fun _ => ((Z6 ++ (Z6 ++ [Value.bool true]))).toArray)]
    (fun g12 => [(1, pt (g1.γ 0)), (2, .bool false), (3, pt (g2.γ 6)), (5, .int .i64 (c : Nat)), (6, pt (g5.γ 9)), (8, pt (g6.γ 9)), (10, pt (g7.γ 8)), (14, pt (g9.γ 8)), (18, pt (g11.γ 8)), (20, pt (g12.γ 1))]) (fun g12 => [((g1.γ 0), ([Value.int .i64 (c : Nat)] ++ (elC x0 ++ (elC y0 ++ ([Value.bool true] ++ (elC x1 ++ (elC y1 ++ ([Value.bool i1] ++ (elC x2 ++ (elC y2 ++ ([Value.bool i2] ++ ([Value.slice KA kl kc] ++ [Value.slice MA ml mc]))))))))))), 29), ((g2.γ 6), ([Value.slice ((g2.δ 2).o 0) (wd (prm (2 * c - 1))).length ((g2.δ 2).n 0)] ++ ([Value.int .i64 (if c = 3 then 48 else 32)] ++ ([Value.slice ((g2.δ 2).o 1) (wd (cbN c)).length ((g2.δ 2).n 1)] ++ ([Value.slice none 0 0] ++ ([Value.slice ((g2.δ 2).o 2) (wd (prm (2 * c))).length ((g2.δ 2).n 2)] ++ ([Value.slice ((g2.δ 2).o 3) (wd (gxN c)).length ((g2.δ 2).n 3)] ++ ([Value.slice none 0 0] ++ ([Value.slice ((g2.δ 2).o 4) (wd (gyN c)).length ((g2.δ 2).n 4)] ++ ([Value.slice none 0 0] ++ ([Value.bool false] ++ [Value.bool false])))))))))), 39), ((g5.γ 9), (elC ((gox S)) ++ (elC ((goy S)) ++ [Value.bool S.inf])), 26), ((g6.γ 9), (elC ((gox S)) ++ (elC ((goy S)) ++ [Value.bool S.inf])), 26), ((g7.γ 8), (elC ((gox A)) ++ (elC ((goy A)) ++ [Value.bool A.inf])), 26), ((g8.γ 9), (elC ((gox B)) ++ (elC ((goy B)) ++ [Value.bool B.inf])), 26), ((g9.γ 8), (elC ((gox A)) ++ (elC ((goy A)) ++ [Value.bool A.inf])), 26), ((g10.γ 7), (elC ((gox N)) ++ (elC ((goy N)) ++ [Value.bool N.inf])), 26), ((g11.γ 8), (Z6 ++ (Z6 ++ [Value.bool true])), 26), ((g12.γ 1), (Z6 ++ (Z6 ++ [Value.bool true])), 26)]) (fun _ => [fun w => CrA c (g2.δ 2) w])
    hF hI ⟨(fun w w1 hg h => CrA.grow hg rfl h), trivial⟩ (fun g => ⟨pv,
      nw,
      po (.agg ((Z6 ++ (Z6 ++ [Value.bool true]))).toArray) ((Z6 ++ (Z6 ++ [Value.bool false]))) rfl, trivial⟩) ?_
  intro g12 a12 w12 hF hI
  refine wp_seq ?_
  refine wp_seq ?_
  refine sy [] #[va (.agg ((elC ((gox S)) ++ (elC ((goy S)) ++ [Value.bool S.inf]))).toArray),
      va (.agg ((elC ((gox S)) ++ (elC ((goy S)) ++ [Value.bool S.inf]))).toArray),
      va (.bool false),
      va (.bool false),
      va (.agg ((elC ((gox A)) ++ (elC ((goy A)) ++ [Value.bool A.inf]))).toArray),
      va (.agg ((elC ((gox A)) ++ (elC ((goy A)) ++ [Value.bool A.inf]))).toArray),
      va (.bool false),
      va (.bool false),
      va (.bool false),
      va (.agg ((Z6 ++ (Z6 ++ [Value.bool true]))).toArray),
      va (.agg ((Z6 ++ (Z6 ++ [Value.bool true]))).toArray),
      va (.bool false),
      va (.bool false),
      va (.bool false),
      va (.int .i64 (c : Nat)),
      va (.agg ((elC ((gox S)) ++ (elC ((goy S)) ++ [Value.bool S.inf]))).toArray),
      va (.bool true),
      va (.bool false),
      va (.bool false)]
    (fun g13 => [(1, pt (g1.γ 0)), (2, .bool false), (3, pt (g2.γ 6)), (5, .int .i64 (c : Nat)), (20, pt (g12.γ 1)), (147, .bool false)]) (fun _ => [((g1.γ 0), ([Value.int .i64 (c : Nat)] ++ (elC x0 ++ (elC y0 ++ ([Value.bool true] ++ (elC x1 ++ (elC y1 ++ ([Value.bool i1] ++ (elC x2 ++ (elC y2 ++ ([Value.bool i2] ++ ([Value.slice KA kl kc] ++ [Value.slice MA ml mc]))))))))))), 29), ((g2.γ 6), ([Value.slice ((g2.δ 2).o 0) (wd (prm (2 * c - 1))).length ((g2.δ 2).n 0)] ++ ([Value.int .i64 (if c = 3 then 48 else 32)] ++ ([Value.slice ((g2.δ 2).o 1) (wd (cbN c)).length ((g2.δ 2).n 1)] ++ ([Value.slice none 0 0] ++ ([Value.slice ((g2.δ 2).o 2) (wd (prm (2 * c))).length ((g2.δ 2).n 2)] ++ ([Value.slice ((g2.δ 2).o 3) (wd (gxN c)).length ((g2.δ 2).n 3)] ++ ([Value.slice none 0 0] ++ ([Value.slice ((g2.δ 2).o 4) (wd (gyN c)).length ((g2.δ 2).n 4)] ++ ([Value.slice none 0 0] ++ ([Value.bool false] ++ [Value.bool false])))))))))), 39), ((g5.γ 9), (elC ((gox S)) ++ (elC ((goy S)) ++ [Value.bool S.inf])), 26), ((g6.γ 9), (elC ((gox S)) ++ (elC ((goy S)) ++ [Value.bool S.inf])), 26), ((g7.γ 8), (elC ((gox A)) ++ (elC ((goy A)) ++ [Value.bool A.inf])), 26), ((g8.γ 9), (elC ((gox B)) ++ (elC ((goy B)) ++ [Value.bool B.inf])), 26), ((g9.γ 8), (elC ((gox A)) ++ (elC ((goy A)) ++ [Value.bool A.inf])), 26), ((g10.γ 7), (elC ((gox N)) ++ (elC ((goy N)) ++ [Value.bool N.inf])), 26), ((g11.γ 8), (Z6 ++ (Z6 ++ [Value.bool true])), 26), ((g12.γ 1), (Z6 ++ (Z6 ++ [Value.bool true])), 26)]) (fun _ => [fun w => CrA c (g2.δ 2) w])
    hF hI ⟨(fun w w1 hg h => CrA.grow hg rfl h), trivial⟩ (fun g => ⟨lk 2 0 rfl rfl,
      lk 3 0 rfl rfl,
      ov fun w hI hfa => pureU (eqPt ((gox S)) ((goy S)) S.inf false rfl (by kernel_rfl) (by kernel_rfl)),
      pv,
      lk 4 0 rfl rfl,
      lk 6 0 rfl rfl,
      ov fun w hI hfa => pureU (eqPt ((gox A)) ((goy A)) A.inf false rfl (by kernel_rfl) (by kernel_rfl)),
      pv,
      pv,
      lk 8 0 rfl rfl,
      lk 9 0 rfl rfl,
      ov fun w hI hfa => pureU (eqPt 0 0 true false rfl (by kernel_rfl) (by kernel_rfl)),
      pv,
      pv,
      pv,
      lk 2 0 rfl rfl,
      cv fun w hI hfa => on_p h1 h3 nS,
      pv,
      pv, trivial⟩) ?_
  intro g13 a13 w13 hF hI
  refine wp_cond_false (hF.eval rfl) ?_
  refine wp_skip ?_
  refine wp_seq ?_
  refine sy [26] #[va (.int .i64 (c : Nat)),
      va (.pointer (some ⟨(g1.γ 0), 1, none⟩)),
      va (.agg ((elC x0 ++ (elC y0 ++ [Value.bool true]))).toArray),
      va (.pointer (some ⟨(g1.γ 0), 40, none⟩)),
      va (.slice KA kl kc),
      .ex [] (fun d => .slice (d.o 0) kt.length (d.n 0)) (fun _ d => fun w => BA kt (d.o 0) (d.n 0) w),
      va (.tuple #[.agg ((elC ((gox K1)) ++ (elC ((goy K1)) ++ [Value.bool K1.inf]))).toArray, .int .i64 0]),
      va (.tuple #[.agg ((elC ((gox K1)) ++ (elC ((goy K1)) ++ [Value.bool K1.inf]))).toArray, .int .i64 0]),
      va (.agg ((elC ((gox K1)) ++ (elC ((goy K1)) ++ [Value.bool K1.inf]))).toArray),
      va (.int .i64 0),
      .new [] (fun _ => ((Z6 ++ (Z6 ++ [Value.bool false]))).toArray) 26,
      .put 10 [] (fun _ => ((elC ((gox K1)) ++ (elC ((goy K1)) ++ [Value.bool K1.inf]))).toArray),
      va (.int .i64 0)]
    (fun g14 => [(1, pt (g1.γ 0)), (2, .bool false), (3, pt (g2.γ 6)), (5, .int .i64 (c : Nat)), (20, pt (g12.γ 1)), (21, pt (g14.γ 10))]) (fun g14 => [((g1.γ 0), ([Value.int .i64 (c : Nat)] ++ (elC x0 ++ (elC y0 ++ ([Value.bool true] ++ (elC x1 ++ (elC y1 ++ ([Value.bool i1] ++ (elC x2 ++ (elC y2 ++ ([Value.bool i2] ++ ([Value.slice KA kl kc] ++ [Value.slice MA ml mc]))))))))))), 29), ((g2.γ 6), ([Value.slice ((g2.δ 2).o 0) (wd (prm (2 * c - 1))).length ((g2.δ 2).n 0)] ++ ([Value.int .i64 (if c = 3 then 48 else 32)] ++ ([Value.slice ((g2.δ 2).o 1) (wd (cbN c)).length ((g2.δ 2).n 1)] ++ ([Value.slice none 0 0] ++ ([Value.slice ((g2.δ 2).o 2) (wd (prm (2 * c))).length ((g2.δ 2).n 2)] ++ ([Value.slice ((g2.δ 2).o 3) (wd (gxN c)).length ((g2.δ 2).n 3)] ++ ([Value.slice none 0 0] ++ ([Value.slice ((g2.δ 2).o 4) (wd (gyN c)).length ((g2.δ 2).n 4)] ++ ([Value.slice none 0 0] ++ ([Value.bool false] ++ [Value.bool false])))))))))), 39), ((g5.γ 9), (elC ((gox S)) ++ (elC ((goy S)) ++ [Value.bool S.inf])), 26), ((g6.γ 9), (elC ((gox S)) ++ (elC ((goy S)) ++ [Value.bool S.inf])), 26), ((g7.γ 8), (elC ((gox A)) ++ (elC ((goy A)) ++ [Value.bool A.inf])), 26), ((g8.γ 9), (elC ((gox B)) ++ (elC ((goy B)) ++ [Value.bool B.inf])), 26), ((g9.γ 8), (elC ((gox A)) ++ (elC ((goy A)) ++ [Value.bool A.inf])), 26), ((g10.γ 7), (elC ((gox N)) ++ (elC ((goy N)) ++ [Value.bool N.inf])), 26), ((g11.γ 8), (Z6 ++ (Z6 ++ [Value.bool true])), 26), ((g12.γ 1), (Z6 ++ (Z6 ++ [Value.bool true])), 26), ((g14.γ 10), (elC ((gox K1)) ++ (elC ((goy K1)) ++ [Value.bool K1.inf])), 26)]) (fun g14 => [fun w => CrA c (g2.δ 2) w, fun w => BA kt ((g14.δ 5).o 0) ((g14.δ 5).n 0) w])
    hF hI ⟨(fun w w1 hg h => CrA.grow hg rfl h), trivial⟩ (fun g => ⟨pv,
      pv,
      lk 0 1 rfl rfl,
      pv,
      lk1 0 40 rfl rfl,
      cx (fun l d w w1 hg h => BA.grow hg rfl h) fun w hI hfa => few_n (hkr.below hI.below),
      cv fun w hI hfa => mul_p h1 h3 (hfa 5 _ _ _ (by kernel_rfl) rfl) hP eK,
      pv,
      pv,
      pv,
      nw,
      po (.agg ((elC ((gox K1)) ++ (elC ((goy K1)) ++ [Value.bool K1.inf]))).toArray) ((Z6 ++ (Z6 ++ [Value.bool false]))) rfl,
      pv, trivial⟩) ?_
  intro g14 a14 w14 hF hI
  refine wp_seq ?_
  refine sy [26] #[va (.int .i64 (c : Nat)),
      va (.pointer (some ⟨(g1.γ 0), 1, none⟩)),
      va (.agg ((elC x0 ++ (elC y0 ++ [Value.bool true]))).toArray),
      va (.pointer (some ⟨(g1.γ 0), 41, none⟩)),
      va (.slice MA ml mc),
      .ex [] (fun d => .slice (d.o 0) mt.length (d.n 0)) (fun _ d => fun w => BA mt (d.o 0) (d.n 0) w),
      va (.tuple #[.agg ((elC ((gox M1)) ++ (elC ((goy M1)) ++ [Value.bool M1.inf]))).toArray, .int .i64 0]),
      va (.tuple #[.agg ((elC ((gox M1)) ++ (elC ((goy M1)) ++ [Value.bool M1.inf]))).toArray, .int .i64 0]),
      va (.agg ((elC ((gox M1)) ++ (elC ((goy M1)) ++ [Value.bool M1.inf]))).toArray),
      va (.int .i64 0),
      .new [] (fun _ => ((Z6 ++ (Z6 ++ [Value.bool false]))).toArray) 26,
      .put 10 [] (fun _ => ((elC ((gox M1)) ++ (elC ((goy M1)) ++ [Value.bool M1.inf]))).toArray),
      va (.int .i64 0)]
    (fun g15 => [(1, pt (g1.γ 0)), (2, .bool false), (3, pt (g2.γ 6)), (5, .int .i64 (c : Nat)), (20, pt (g12.γ 1)), (21, pt (g14.γ 10)), (23, pt (g15.γ 10))]) (fun g15 => [((g1.γ 0), ([Value.int .i64 (c : Nat)] ++ (elC x0 ++ (elC y0 ++ ([Value.bool true] ++ (elC x1 ++ (elC y1 ++ ([Value.bool i1] ++ (elC x2 ++ (elC y2 ++ ([Value.bool i2] ++ ([Value.slice KA kl kc] ++ [Value.slice MA ml mc]))))))))))), 29), ((g2.γ 6), ([Value.slice ((g2.δ 2).o 0) (wd (prm (2 * c - 1))).length ((g2.δ 2).n 0)] ++ ([Value.int .i64 (if c = 3 then 48 else 32)] ++ ([Value.slice ((g2.δ 2).o 1) (wd (cbN c)).length ((g2.δ 2).n 1)] ++ ([Value.slice none 0 0] ++ ([Value.slice ((g2.δ 2).o 2) (wd (prm (2 * c))).length ((g2.δ 2).n 2)] ++ ([Value.slice ((g2.δ 2).o 3) (wd (gxN c)).length ((g2.δ 2).n 3)] ++ ([Value.slice none 0 0] ++ ([Value.slice ((g2.δ 2).o 4) (wd (gyN c)).length ((g2.δ 2).n 4)] ++ ([Value.slice none 0 0] ++ ([Value.bool false] ++ [Value.bool false])))))))))), 39), ((g5.γ 9), (elC ((gox S)) ++ (elC ((goy S)) ++ [Value.bool S.inf])), 26), ((g6.γ 9), (elC ((gox S)) ++ (elC ((goy S)) ++ [Value.bool S.inf])), 26), ((g7.γ 8), (elC ((gox A)) ++ (elC ((goy A)) ++ [Value.bool A.inf])), 26), ((g8.γ 9), (elC ((gox B)) ++ (elC ((goy B)) ++ [Value.bool B.inf])), 26), ((g9.γ 8), (elC ((gox A)) ++ (elC ((goy A)) ++ [Value.bool A.inf])), 26), ((g10.γ 7), (elC ((gox N)) ++ (elC ((goy N)) ++ [Value.bool N.inf])), 26), ((g11.γ 8), (Z6 ++ (Z6 ++ [Value.bool true])), 26), ((g12.γ 1), (Z6 ++ (Z6 ++ [Value.bool true])), 26), ((g14.γ 10), (elC ((gox K1)) ++ (elC ((goy K1)) ++ [Value.bool K1.inf])), 26), ((g15.γ 10), (elC ((gox M1)) ++ (elC ((goy M1)) ++ [Value.bool M1.inf])), 26)]) (fun g15 => [fun w => CrA c (g2.δ 2) w, fun w => BA kt ((g14.δ 5).o 0) ((g14.δ 5).n 0) w, fun w => BA mt ((g15.δ 5).o 0) ((g15.δ 5).n 0) w])
    hF hI ⟨(fun w w1 hg h => CrA.grow hg rfl h), (fun w w1 hg h => BA.grow hg rfl h), trivial⟩ (fun g => ⟨pv,
      pv,
      lk 0 1 rfl rfl,
      pv,
      lk1 0 41 rfl rfl,
      cx (fun l d w w1 hg h => BA.grow hg rfl h) fun w hI hfa => few_n (hmr.below hI.below),
      cv fun w hI hfa => mul_p h1 h3 (hfa 5 _ _ _ (by kernel_rfl) rfl) hP eM,
      pv,
      pv,
      pv,
      nw,
      po (.agg ((elC ((gox M1)) ++ (elC ((goy M1)) ++ [Value.bool M1.inf]))).toArray) ((Z6 ++ (Z6 ++ [Value.bool false]))) rfl,
      pv, trivial⟩) ?_
  intro g15 a15 w15 hF hI
  refine wp_seq ?_
  refine sy [26] #[va (.int .i64 (c : Nat)),
      va (.agg ((elC ((gox K1)) ++ (elC ((goy K1)) ++ [Value.bool K1.inf]))).toArray),
      va (.agg ((elC ((gox M1)) ++ (elC ((goy M1)) ++ [Value.bool M1.inf]))).toArray),
      va (.tuple #[.agg ((elC ((gox U)) ++ (elC ((goy U)) ++ [Value.bool U.inf]))).toArray, .int .i64 0]),
      va (.tuple #[.agg ((elC ((gox U)) ++ (elC ((goy U)) ++ [Value.bool U.inf]))).toArray, .int .i64 0]),
      va (.agg ((elC ((gox U)) ++ (elC ((goy U)) ++ [Value.bool U.inf]))).toArray),
      va (.int .i64 0),
      .new [] (fun _ => ((Z6 ++ (Z6 ++ [Value.bool false]))).toArray) 26,
      .put 7 [] (fun _ => ((elC ((gox U)) ++ (elC ((goy U)) ++ [Value.bool U.inf]))).toArray),
      va (.int .i64 0)]
    (fun g16 => [(1, pt (g1.γ 0)), (2, .bool false), (3, pt (g2.γ 6)), (5, .int .i64 (c : Nat)), (20, pt (g12.γ 1)), (25, pt (g16.γ 7))]) (fun g16 => [((g1.γ 0), ([Value.int .i64 (c : Nat)] ++ (elC x0 ++ (elC y0 ++ ([Value.bool true] ++ (elC x1 ++ (elC y1 ++ ([Value.bool i1] ++ (elC x2 ++ (elC y2 ++ ([Value.bool i2] ++ ([Value.slice KA kl kc] ++ [Value.slice MA ml mc]))))))))))), 29), ((g2.γ 6), ([Value.slice ((g2.δ 2).o 0) (wd (prm (2 * c - 1))).length ((g2.δ 2).n 0)] ++ ([Value.int .i64 (if c = 3 then 48 else 32)] ++ ([Value.slice ((g2.δ 2).o 1) (wd (cbN c)).length ((g2.δ 2).n 1)] ++ ([Value.slice none 0 0] ++ ([Value.slice ((g2.δ 2).o 2) (wd (prm (2 * c))).length ((g2.δ 2).n 2)] ++ ([Value.slice ((g2.δ 2).o 3) (wd (gxN c)).length ((g2.δ 2).n 3)] ++ ([Value.slice none 0 0] ++ ([Value.slice ((g2.δ 2).o 4) (wd (gyN c)).length ((g2.δ 2).n 4)] ++ ([Value.slice none 0 0] ++ ([Value.bool false] ++ [Value.bool false])))))))))), 39), ((g5.γ 9), (elC ((gox S)) ++ (elC ((goy S)) ++ [Value.bool S.inf])), 26), ((g6.γ 9), (elC ((gox S)) ++ (elC ((goy S)) ++ [Value.bool S.inf])), 26), ((g7.γ 8), (elC ((gox A)) ++ (elC ((goy A)) ++ [Value.bool A.inf])), 26), ((g8.γ 9), (elC ((gox B)) ++ (elC ((goy B)) ++ [Value.bool B.inf])), 26), ((g9.γ 8), (elC ((gox A)) ++ (elC ((goy A)) ++ [Value.bool A.inf])), 26), ((g10.γ 7), (elC ((gox N)) ++ (elC ((goy N)) ++ [Value.bool N.inf])), 26), ((g11.γ 8), (Z6 ++ (Z6 ++ [Value.bool true])), 26), ((g12.γ 1), (Z6 ++ (Z6 ++ [Value.bool true])), 26), ((g14.γ 10), (elC ((gox K1)) ++ (elC ((goy K1)) ++ [Value.bool K1.inf])), 26), ((g15.γ 10), (elC ((gox M1)) ++ (elC ((goy M1)) ++ [Value.bool M1.inf])), 26), ((g16.γ 7), (elC ((gox U)) ++ (elC ((goy U)) ++ [Value.bool U.inf])), 26)]) (fun _ => [fun w => CrA c (g2.δ 2) w, fun w => BA kt ((g14.δ 5).o 0) ((g14.δ 5).n 0) w, fun w => BA mt ((g15.δ 5).o 0) ((g15.δ 5).n 0) w])
    hF hI ⟨(fun w w1 hg h => CrA.grow hg rfl h), (fun w w1 hg h => BA.grow hg rfl h), (fun w w1 hg h => BA.grow hg rfl h), trivial⟩ (fun g => ⟨pv,
      lk 10 0 rfl rfl,
      lk 11 0 rfl rfl,
      cv fun w hI hfa => add_p h1 h3 nK1 nM1 eU,
      pv,
      pv,
      pv,
      nw,
      po (.agg ((elC ((gox U)) ++ (elC ((goy U)) ++ [Value.bool U.inf]))).toArray) ((Z6 ++ (Z6 ++ [Value.bool false]))) rfl,
      pv, trivial⟩) ?_
  intro g16 a16 w16 hF hI
  refine wp_seq ?_
  refine sy [26] #[va (.int .i64 (c : Nat)),
      va (.pointer (some ⟨(g1.γ 0), 1, none⟩)),
      va (.agg ((elC x0 ++ (elC y0 ++ [Value.bool true]))).toArray),
      va (.pointer (some ⟨(g1.γ 0), 40, none⟩)),
      va (.slice KA kl kc),
      .ex [] (fun d => .slice (d.o 0) kt.length (d.n 0)) (fun _ d => fun w => BA kt (d.o 0) (d.n 0) w),
      .ex [] (fun d => .slice (d.o 0) (wd (ofBE kt)).length (d.n 0)) (fun _ d => fun w => NA (ofBE kt) (d.o 0) (d.n 0) w),
      va (.pointer (some ⟨(g1.γ 0), 41, none⟩)),
      va (.slice MA ml mc),
      .ex [] (fun d => .slice (d.o 0) mt.length (d.n 0)) (fun _ d => fun w => BA mt (d.o 0) (d.n 0) w),
      .ex [] (fun d => .slice (d.o 0) (wd (ofBE mt)).length (d.n 0)) (fun _ d => fun w => NA (ofBE mt) (d.o 0) (d.n 0) w),
      .ex [] (fun d => .slice (d.o 0) (wd (ofBE kt + ofBE mt)).length (d.n 0)) (fun _ d => fun w => NA (ofBE kt + ofBE mt) (d.o 0) (d.n 0) w),
      .ex [] (fun d => .slice (d.o 0) (beb (ofBE kt + ofBE mt)).length (d.n 0)) (fun _ d => fun w => BA (beb (ofBE kt + ofBE mt)) (d.o 0) (d.n 0) w),
      va (.tuple #[.agg ((elC ((gox U)) ++ (elC ((goy U)) ++ [Value.bool U.inf]))).toArray, .int .i64 0]),
      va (.tuple #[.agg ((elC ((gox U)) ++ (elC ((goy U)) ++ [Value.bool U.inf]))).toArray, .int .i64 0]),
      va (.agg ((elC ((gox U)) ++ (elC ((goy U)) ++ [Value.bool U.inf]))).toArray),
      va (.int .i64 0),
      .new [] (fun _ => ((Z6 ++ (Z6 ++ [Value.bool false]))).toArray) 26,
      .put 17 [] (fun _ => ((elC ((gox U)) ++ (elC ((goy U)) ++ [Value.bool U.inf]))).toArray),
      va (.int .i64 0)]
    (fun g17 => [(1, pt (g1.γ 0)), (2, .bool false), (3, pt (g2.γ 6)), (5, .int .i64 (c : Nat)), (20, pt (g12.γ 1)), (25, pt (g16.γ 7)), (27, pt (g17.γ 17))]) (fun g17 => [((g1.γ 0), ([Value.int .i64 (c : Nat)] ++ (elC x0 ++ (elC y0 ++ ([Value.bool true] ++ (elC x1 ++ (elC y1 ++ ([Value.bool i1] ++ (elC x2 ++ (elC y2 ++ ([Value.bool i2] ++ ([Value.slice KA kl kc] ++ [Value.slice MA ml mc]))))))))))), 29), ((g2.γ 6), ([Value.slice ((g2.δ 2).o 0) (wd (prm (2 * c - 1))).length ((g2.δ 2).n 0)] ++ ([Value.int .i64 (if c = 3 then 48 else 32)] ++ ([Value.slice ((g2.δ 2).o 1) (wd (cbN c)).length ((g2.δ 2).n 1)] ++ ([Value.slice none 0 0] ++ ([Value.slice ((g2.δ 2).o 2) (wd (prm (2 * c))).length ((g2.δ 2).n 2)] ++ ([Value.slice ((g2.δ 2).o 3) (wd (gxN c)).length ((g2.δ 2).n 3)] ++ ([Value.slice none 0 0] ++ ([Value.slice ((g2.δ 2).o 4) (wd (gyN c)).length ((g2.δ 2).n 4)] ++ ([Value.slice none 0 0] ++ ([Value.bool false] ++ [Value.bool false])))))))))), 39), ((g5.γ 9), (elC ((gox S)) ++ (elC ((goy S)) ++ [Value.bool S.inf])), 26), ((g6.γ 9), (elC ((gox S)) ++ (elC ((goy S)) ++ [Value.bool S.inf])), 26), ((g7.γ 8), (elC ((gox A)) ++ (elC ((goy A)) ++ [Value.bool A.inf])), 26), ((g8.γ 9), (elC ((gox B)) ++ (elC ((goy B)) ++ [Value.bool B.inf])), 26), ((g9.γ 8), (elC ((gox A)) ++ (elC ((goy A)) ++ [Value.bool A.inf])), 26), ((g10.γ 7), (elC ((gox N)) ++ (elC ((goy N)) ++ [Value.bool N.inf])), 26), ((g11.γ 8), (Z6 ++ (Z6 ++ [Value.bool true])), 26), ((g12.γ 1), (Z6 ++ (Z6 ++ [Value.bool true])), 26), ((g14.γ 10), (elC ((gox K1)) ++ (elC ((goy K1)) ++ [Value.bool K1.inf])), 26), ((g15.γ 10), (elC ((gox M1)) ++ (elC ((goy M1)) ++ [Value.bool M1.inf])), 26), ((g16.γ 7), (elC ((gox U)) ++ (elC ((goy U)) ++ [Value.bool U.inf])), 26), ((g17.γ 17), (elC ((gox U)) ++ (elC ((goy U)) ++ [Value.bool U.inf])), 26)]) (fun g17 => [fun w => CrA c (g2.δ 2) w, fun w => BA kt ((g14.δ 5).o 0) ((g14.δ 5).n 0) w, fun w => BA mt ((g15.δ 5).o 0) ((g15.δ 5).n 0) w, fun w => BA kt ((g17.δ 5).o 0) ((g17.δ 5).n 0) w, fun w => NA (ofBE kt) ((g17.δ 6).o 0) ((g17.δ 6).n 0) w, fun w => BA mt ((g17.δ 9).o 0) ((g17.δ 9).n 0) w, fun w => NA (ofBE mt) ((g17.δ 10).o 0) ((g17.δ 10).n 0) w, fun w => NA (ofBE kt + ofBE mt) ((g17.δ 11).o 0) ((g17.δ 11).n 0) w, fun w => BA (beb (ofBE kt + ofBE mt)) ((g17.δ 12).o 0) ((g17.δ 12).n 0) w])
    hF hI ⟨(fun w w1 hg h => CrA.grow hg rfl h), (fun w w1 hg h => BA.grow hg rfl h), (fun w w1 hg h => BA.grow hg rfl h), trivial⟩ (fun g => ⟨pv,
      pv,
      lk 0 1 rfl rfl,
      pv,
      lk1 0 40 rfl rfl,
      cx (fun l d w w1 hg h => BA.grow hg rfl h) fun w hI hfa => few_n (hkr.below hI.below),
      cx (fun l d w w1 hg h => NA.grow hg rfl h) fun w hI hfa => from_n (c := ((g.δ 5).n 0)) (hfa 5 _ _ _ (by kernel_rfl) rfl).2.1 (hfa 5 _ _ _ (by kernel_rfl) rfl).2.2.2,
      pv,
      lk1 0 41 rfl rfl,
      cx (fun l d w w1 hg h => BA.grow hg rfl h) fun w hI hfa => few_n (hmr.below hI.below),
      cx (fun l d w w1 hg h => NA.grow hg rfl h) fun w hI hfa => from_n (c := ((g.δ 9).n 0)) (hfa 9 _ _ _ (by kernel_rfl) rfl).2.1 (hfa 9 _ _ _ (by kernel_rfl) rfl).2.2.2,
      cx (fun l d w w1 hg h => NA.grow hg rfl h) fun w hI hfa => add_n hK hM (hfa 6 _ _ _ (by kernel_rfl) rfl) (hfa 10 _ _ _ (by kernel_rfl) rfl),
      cx (fun l d w w1 hg h => BA.grow hg rfl h) fun w hI hfa => bytes_n hKM (hfa 11 _ _ _ (by kernel_rfl) rfl),
      cv fun w hI hfa => mul_p h1 h3 (hfa 12 _ _ _ (by kernel_rfl) rfl) hP eU2,
      pv,
      pv,
      pv,
      nw,
      po (.agg ((elC ((gox U)) ++ (elC ((goy U)) ++ [Value.bool U.inf]))).toArray) ((Z6 ++ (Z6 ++ [Value.bool false]))) rfl,
      pv, trivial⟩) ?_
  intro g17 a17 w17 hF hI
  refine wp_seq ?_
  refine sy [26] #[va (.int .i64 (c : Nat)),
      va (.tuple #[.agg ((elC ((gxN c)) ++ (elC ((gyN c)) ++ [Value.bool false]))).toArray, .int .i64 0]),
      va (.tuple #[.agg ((elC ((gxN c)) ++ (elC ((gyN c)) ++ [Value.bool false]))).toArray, .int .i64 0]),
      va (.agg ((elC ((gxN c)) ++ (elC ((gyN c)) ++ [Value.bool false]))).toArray),
      va (.int .i64 0),
      .new [] (fun _ => ((Z6 ++ (Z6 ++ [Value.bool false]))).toArray) 26,
      .put 5 [] (fun _ => ((elC ((gxN c)) ++ (elC ((gyN c)) ++ [Value.bool false]))).toArray),
      va (.int .i64 0)]
    (fun g18 => [(1, pt (g1.γ 0)), (2, .bool false), (3, pt (g2.γ 6)), (5, .int .i64 (c : Nat)), (20, pt (g12.γ 1)), (25, pt (g16.γ 7)), (27, pt (g17.γ 17)), (29, pt (g18.γ 5))]) (fun g18 => [((g1.γ 0), ([Value.int .i64 (c : Nat)] ++ (elC x0 ++ (elC y0 ++ ([Value.bool true] ++ (elC x1 ++ (elC y1 ++ ([Value.bool i1] ++ (elC x2 ++ (elC y2 ++ ([Value.bool i2] ++ ([Value.slice KA kl kc] ++ [Value.slice MA ml mc]))))))))))), 29), ((g2.γ 6), ([Value.slice ((g2.δ 2).o 0) (wd (prm (2 * c - 1))).length ((g2.δ 2).n 0)] ++ ([Value.int .i64 (if c = 3 then 48 else 32)] ++ ([Value.slice ((g2.δ 2).o 1) (wd (cbN c)).length ((g2.δ 2).n 1)] ++ ([Value.slice none 0 0] ++ ([Value.slice ((g2.δ 2).o 2) (wd (prm (2 * c))).length ((g2.δ 2).n 2)] ++ ([Value.slice ((g2.δ 2).o 3) (wd (gxN c)).length ((g2.δ 2).n 3)] ++ ([Value.slice none 0 0] ++ ([Value.slice ((g2.δ 2).o 4) (wd (gyN c)).length ((g2.δ 2).n 4)] ++ ([Value.slice none 0 0] ++ ([Value.bool false] ++ [Value.bool false])))))))))), 39), ((g5.γ 9), (elC ((gox S)) ++ (elC ((goy S)) ++ [Value.bool S.inf])), 26), ((g6.γ 9), (elC ((gox S)) ++ (elC ((goy S)) ++ [Value.bool S.inf])), 26), ((g7.γ 8), (elC ((gox A)) ++ (elC ((goy A)) ++ [Value.bool A.inf])), 26), ((g8.γ 9), (elC ((gox B)) ++ (elC ((goy B)) ++ [Value.bool B.inf])), 26), ((g9.γ 8), (elC ((gox A)) ++ (elC ((goy A)) ++ [Value.bool A.inf])), 26), ((g10.γ 7), (elC ((gox N)) ++ (elC ((goy N)) ++ [Value.bool N.inf])), 26), ((g11.γ 8), (Z6 ++ (Z6 ++ [Value.bool true])), 26), ((g12.γ 1), (Z6 ++ (Z6 ++ [Value.bool true])), 26), ((g14.γ 10), (elC ((gox K1)) ++ (elC ((goy K1)) ++ [Value.bool K1.inf])), 26), ((g15.γ 10), (elC ((gox M1)) ++ (elC ((goy M1)) ++ [Value.bool M1.inf])), 26), ((g16.γ 7), (elC ((gox U)) ++ (elC ((goy U)) ++ [Value.bool U.inf])), 26), ((g17.γ 17), (elC ((gox U)) ++ (elC ((goy U)) ++ [Value.bool U.inf])), 26), ((g18.γ 5), (elC ((gxN c)) ++ (elC ((gyN c)) ++ [Value.bool false])), 26)]) (fun _ => [fun w => CrA c (g2.δ 2) w, fun w => BA kt ((g14.δ 5).o 0) ((g14.δ 5).n 0) w, fun w => BA mt ((g15.δ 5).o 0) ((g15.δ 5).n 0) w, fun w => BA kt ((g17.δ 5).o 0) ((g17.δ 5).n 0) w, fun w => NA (ofBE kt) ((g17.δ 6).o 0) ((g17.δ 6).n 0) w, fun w => BA mt ((g17.δ 9).o 0) ((g17.δ 9).n 0) w, fun w => NA (ofBE mt) ((g17.δ 10).o 0) ((g17.δ 10).n 0) w, fun w => NA (ofBE kt + ofBE mt) ((g17.δ 11).o 0) ((g17.δ 11).n 0) w, fun w => BA (beb (ofBE kt + ofBE mt)) ((g17.δ 12).o 0) ((g17.δ 12).n 0) w])
    hF hI ⟨(fun w w1 hg h => CrA.grow hg rfl h), (fun w w1 hg h => BA.grow hg rfl h), (fun w w1 hg h => BA.grow hg rfl h), (fun w w1 hg h => BA.grow hg rfl h), (fun w w1 hg h => NA.grow hg rfl h), (fun w w1 hg h => BA.grow hg rfl h), (fun w w1 hg h => NA.grow hg rfl h), (fun w w1 hg h => NA.grow hg rfl h), (fun w w1 hg h => BA.grow hg rfl h), trivial⟩ (fun g => ⟨pv,
      cv fun w hI hfa => gen1_ok h1 h3,
      pv,
      pv,
      pv,
      nw,
      po (.agg ((elC ((gxN c)) ++ (elC ((gyN c)) ++ [Value.bool false]))).toArray) ((Z6 ++ (Z6 ++ [Value.bool false]))) rfl,
      pv, trivial⟩) ?_
  intro g18 a18 w18 hF hI
  refine wp_seq ?_
  refine sy [26] #[va (.int .i64 (c : Nat)),
      va (.agg ((elC ((gxN c)) ++ (elC ((gyN c)) ++ [Value.bool false]))).toArray),
      va (.pointer (some ⟨(g2.γ 6), 4, none⟩)),
      va (.slice ((g2.δ 2).o 2) (wd (prm (2 * c))).length ((g2.δ 2).n 2)),
      .ex [] (fun d => .slice (d.o 0) (beb (prm (2 * c))).length (d.n 0)) (fun _ d => fun w => BA (beb (prm (2 * c))) (d.o 0) (d.n 0) w),
      va (.tuple #[.agg ((Z6 ++ (Z6 ++ [Value.bool true]))).toArray, .int .i64 0]),
      va (.tuple #[.agg ((Z6 ++ (Z6 ++ [Value.bool true]))).toArray, .int .i64 0]),
      va (.agg ((Z6 ++ (Z6 ++ [Value.bool true]))).toArray),
      va (.int .i64 0),
      .new [] (fun _ => ((Z6 ++ (Z6 ++ [Value.bool false]))).toArray) 26,
      .put 9 [] (fun _ => ((Z6 ++ (Z6 ++ [Value.bool true]))).toArray),
      va (.int .i64 0)]
    (fun g19 => [(1, pt (g1.γ 0)), (2, .bool false), (5, .int .i64 (c : Nat)), (20, pt (g12.γ 1)), (25, pt (g16.γ 7)), (27, pt (g17.γ 17)), (29, pt (g18.γ 5)), (31, pt (g19.γ 9))]) (fun g19 => [((g1.γ 0), ([Value.int .i64 (c : Nat)] ++ (elC x0 ++ (elC y0 ++ ([Value.bool true] ++ (elC x1 ++ (elC y1 ++ ([Value.bool i1] ++ (elC x2 ++ (elC y2 ++ ([Value.bool i2] ++ ([Value.slice KA kl kc] ++ [Value.slice MA ml mc]))))))))))), 29), ((g2.γ 6), ([Value.slice ((g2.δ 2).o 0) (wd (prm (2 * c - 1))).length ((g2.δ 2).n 0)] ++ ([Value.int .i64 (if c = 3 then 48 else 32)] ++ ([Value.slice ((g2.δ 2).o 1) (wd (cbN c)).length ((g2.δ 2).n 1)] ++ ([Value.slice none 0 0] ++ ([Value.slice ((g2.δ 2).o 2) (wd (prm (2 * c))).length ((g2.δ 2).n 2)] ++ ([Value.slice ((g2.δ 2).o 3) (wd (gxN c)).length ((g2.δ 2).n 3)] ++ ([Value.slice none 0 0] ++ ([Value.slice ((g2.δ 2).o 4) (wd (gyN c)).length ((g2.δ 2).n 4)] ++ ([Value.slice none 0 0] ++ ([Value.bool false] ++ [Value.bool false])))))))))), 39), ((g5.γ 9), (elC ((gox S)) ++ (elC ((goy S)) ++ [Value.bool S.inf])), 26), ((g6.γ 9), (elC ((gox S)) ++ (elC ((goy S)) ++ [Value.bool S.inf])), 26), ((g7.γ 8), (elC ((gox A)) ++ (elC ((goy A)) ++ [Value.bool A.inf])), 26), ((g8.γ 9), (elC ((gox B)) ++ (elC ((goy B)) ++ [Value.bool B.inf])), 26), ((g9.γ 8), (elC ((gox A)) ++ (elC ((goy A)) ++ [Value.bool A.inf])), 26), ((g10.γ 7), (elC ((gox N)) ++ (elC ((goy N)) ++ [Value.bool N.inf])), 26), ((g11.γ 8), (Z6 ++ (Z6 ++ [Value.bool true])), 26), ((g12.γ 1), (Z6 ++ (Z6 ++ [Value.bool true])), 26), ((g14.γ 10), (elC ((gox K1)) ++ (elC ((goy K1)) ++ [Value.bool K1.inf])), 26), ((g15.γ 10), (elC ((gox M1)) ++ (elC ((goy M1)) ++ [Value.bool M1.inf])), 26), ((g16.γ 7), (elC ((gox U)) ++ (elC ((goy U)) ++ [Value.bool U.inf])), 26), ((g17.γ 17), (elC ((gox U)) ++ (elC ((goy U)) ++ [Value.bool U.inf])), 26), ((g18.γ 5), (elC ((gxN c)) ++ (elC ((gyN c)) ++ [Value.bool false])), 26), ((g19.γ 9), (Z6 ++ (Z6 ++ [Value.bool true])), 26)]) (fun g19 => [fun w => CrA c (g2.δ 2) w, fun w => BA kt ((g14.δ 5).o 0) ((g14.δ 5).n 0) w, fun w => BA mt ((g15.δ 5).o 0) ((g15.δ 5).n 0) w, fun w => BA kt ((g17.δ 5).o 0) ((g17.δ 5).n 0) w, fun w => NA (ofBE kt) ((g17.δ 6).o 0) ((g17.δ 6).n 0) w, fun w => BA mt ((g17.δ 9).o 0) ((g17.δ 9).n 0) w, fun w => NA (ofBE mt) ((g17.δ 10).o 0) ((g17.δ 10).n 0) w, fun w => NA (ofBE kt + ofBE mt) ((g17.δ 11).o 0) ((g17.δ 11).n 0) w, fun w => BA (beb (ofBE kt + ofBE mt)) ((g17.δ 12).o 0) ((g17.δ 12).n 0) w, fun w => BA (beb (prm (2 * c))) ((g19.δ 4).o 0) ((g19.δ 4).n 0) w])
    hF hI ⟨(fun w w1 hg h => CrA.grow hg rfl h), (fun w w1 hg h => BA.grow hg rfl h), (fun w w1 hg h => BA.grow hg rfl h), (fun w w1 hg h => BA.grow hg rfl h), (fun w w1 hg h => NA.grow hg rfl h), (fun w w1 hg h => BA.grow hg rfl h), (fun w w1 hg h => NA.grow hg rfl h), (fun w w1 hg h => NA.grow hg rfl h), (fun w w1 hg h => BA.grow hg rfl h), trivial⟩ (fun g => ⟨pv,
      lk 14 0 rfl rfl,
      pv,
      lk1 1 4 rfl rfl,
      cx (fun l d w w1 hg h => BA.grow hg rfl h) fun w hI hfa => bytes_n hO (hI.fact 0 rfl).2.2.1,
      cv fun w hI hfa => mul_z h1 h3 (hfa 4 _ _ _ (by kernel_rfl) rfl) hG eO,
      pv,
      pv,
      pv,
      nw,
      po (.agg ((Z6 ++ (Z6 ++ [Value.bool true]))).toArray) ((Z6 ++ (Z6 ++ [Value.bool false]))) rfl,
      pv, trivial⟩) ?_
  intro g19 a19 w19 hF hI
  refine wp_seq ?_
  refine sy [26] #[va (.int .i64 (c : Nat)),
      va (.pointer (some ⟨(g1.γ 0), 1, none⟩)),
      va (.agg ((elC x0 ++ (elC y0 ++ [Value.bool true]))).toArray),
      .ex [] (fun d => .slice (some ⟨d.n 0, 0, none⟩) 1 1) (fun _ d => fun w => w.heap[d.n 0]? = some (.cells ([Value.int .u8 1]).toArray 5 (0, 0))),
      va (.tuple #[.agg ((Z6 ++ (Z6 ++ [Value.bool true]))).toArray, .int .i64 0]),
      va (.tuple #[.agg ((Z6 ++ (Z6 ++ [Value.bool true]))).toArray, .int .i64 0]),
      va (.agg ((Z6 ++ (Z6 ++ [Value.bool true]))).toArray),
      va (.int .i64 0),
      .new [] (fun _ => ((Z6 ++ (Z6 ++ [Value.bool false]))).toArray) 26,
      .put 8 [] (fun _ => ((Z6 ++ (Z6 ++ [Value.bool true]))).toArray),
      va (.int .i64 0)]
    (fun g20 => [(1, pt (g1.γ 0)), (2, .bool false), (5, .int .i64 (c : Nat)), (20, pt (g12.γ 1)), (25, pt (g16.γ 7)), (27, pt (g17.γ 17)), (29, pt (g18.γ 5)), (31, pt (g19.γ 9)), (33, pt (g20.γ 8))]) (fun g20 => [((g1.γ 0), ([Value.int .i64 (c : Nat)] ++ (elC x0 ++ (elC y0 ++ ([Value.bool true] ++ (elC x1 ++ (elC y1 ++ ([Value.bool i1] ++ (elC x2 ++ (elC y2 ++ ([Value.bool i2] ++ ([Value.slice KA kl kc] ++ [Value.slice MA ml mc]))))))))))), 29), ((g2.γ 6), ([Value.slice ((g2.δ 2).o 0) (wd (prm (2 * c - 1))).length ((g2.δ 2).n 0)] ++ ([Value.int .i64 (if c = 3 then 48 else 32)] ++ ([Value.slice ((g2.δ 2).o 1) (wd (cbN c)).length ((g2.δ 2).n 1)] ++ ([Value.slice none 0 0] ++ ([Value.slice ((g2.δ 2).o 2) (wd (prm (2 * c))).length ((g2.δ 2).n 2)] ++ ([Value.slice ((g2.δ 2).o 3) (wd (gxN c)).length ((g2.δ 2).n 3)] ++ ([Value.slice none 0 0] ++ ([Value.slice ((g2.δ 2).o 4) (wd (gyN c)).length ((g2.δ 2).n 4)] ++ ([Value.slice none 0 0] ++ ([Value.bool false] ++ [Value.bool false])))))))))), 39), ((g5.γ 9), (elC ((gox S)) ++ (elC ((goy S)) ++ [Value.bool S.inf])), 26), ((g6.γ 9), (elC ((gox S)) ++ (elC ((goy S)) ++ [Value.bool S.inf])), 26), ((g7.γ 8), (elC ((gox A)) ++ (elC ((goy A)) ++ [Value.bool A.inf])), 26), ((g8.γ 9), (elC ((gox B)) ++ (elC ((goy B)) ++ [Value.bool B.inf])), 26), ((g9.γ 8), (elC ((gox A)) ++ (elC ((goy A)) ++ [Value.bool A.inf])), 26), ((g10.γ 7), (elC ((gox N)) ++ (elC ((goy N)) ++ [Value.bool N.inf])), 26), ((g11.γ 8), (Z6 ++ (Z6 ++ [Value.bool true])), 26), ((g12.γ 1), (Z6 ++ (Z6 ++ [Value.bool true])), 26), ((g14.γ 10), (elC ((gox K1)) ++ (elC ((goy K1)) ++ [Value.bool K1.inf])), 26), ((g15.γ 10), (elC ((gox M1)) ++ (elC ((goy M1)) ++ [Value.bool M1.inf])), 26), ((g16.γ 7), (elC ((gox U)) ++ (elC ((goy U)) ++ [Value.bool U.inf])), 26), ((g17.γ 17), (elC ((gox U)) ++ (elC ((goy U)) ++ [Value.bool U.inf])), 26), ((g18.γ 5), (elC ((gxN c)) ++ (elC ((gyN c)) ++ [Value.bool false])), 26), ((g19.γ 9), (Z6 ++ (Z6 ++ [Value.bool true])), 26), ((g20.γ 8), (Z6 ++ (Z6 ++ [Value.bool true])), 26)]) (fun g20 => [fun w => CrA c (g2.δ 2) w, fun w => BA kt ((g14.δ 5).o 0) ((g14.δ 5).n 0) w, fun w => BA mt ((g15.δ 5).o 0) ((g15.δ 5).n 0) w, fun w => BA kt ((g17.δ 5).o 0) ((g17.δ 5).n 0) w, fun w => NA (ofBE kt) ((g17.δ 6).o 0) ((g17.δ 6).n 0) w, fun w => BA mt ((g17.δ 9).o 0) ((g17.δ 9).n 0) w, fun w => NA (ofBE mt) ((g17.δ 10).o 0) ((g17.δ 10).n 0) w, fun w => NA (ofBE kt + ofBE mt) ((g17.δ 11).o 0) ((g17.δ 11).n 0) w, fun w => BA (beb (ofBE kt + ofBE mt)) ((g17.δ 12).o 0) ((g17.δ 12).n 0) w, fun w => BA (beb (prm (2 * c))) ((g19.δ 4).o 0) ((g19.δ 4).n 0) w, fun w => w.heap[(g20.δ 3).n 0]? = some (.cells ([Value.int .u8 1]).toArray 5 (0, 0))])
    hF hI ⟨(fun w w1 hg h => CrA.grow hg rfl h), (fun w w1 hg h => BA.grow hg rfl h), (fun w w1 hg h => BA.grow hg rfl h), (fun w w1 hg h => BA.grow hg rfl h), (fun w w1 hg h => NA.grow hg rfl h), (fun w w1 hg h => BA.grow hg rfl h), (fun w w1 hg h => NA.grow hg rfl h), (fun w w1 hg h => NA.grow hg rfl h), (fun w w1 hg h => BA.grow hg rfl h), (fun w w1 hg h => BA.grow hg rfl h), trivial⟩ (fun g => ⟨pv,
      pv,
      lk 0 1 rfl rfl,
      ⟨fun l d w w1 hg h => hg.block _ _ h fun C t fr e => by cases e; rfl, by kernel_rfl, fun w hI hfa => exU_slice (by kernel_rfl)⟩,
      cv fun w hI hfa => mul_z h1 h3 (BA.one (hfa 3 _ _ _ (by kernel_rfl) rfl)) hP e1,
      pv,
      pv,
      pv,
      nw,
      po (.agg ((Z6 ++ (Z6 ++ [Value.bool true]))).toArray) ((Z6 ++ (Z6 ++ [Value.bool false]))) rfl,
      pv, trivial⟩) ?_
  intro g20 a20 w20 hF hI
  refine wp_seq ?_
  refine wp_seq ?_
  refine sy [] #[va (.pointer (some ⟨(g1.γ 0), 1, none⟩)),
      va (.pointer (some ⟨(g1.γ 0), 13, none⟩)),
      va (.bool true)]
    (fun g21 => [(1, pt (g1.γ 0)), (2, .bool false), (5, .int .i64 (c : Nat)), (20, pt (g12.γ 1)), (25, pt (g16.γ 7)), (27, pt (g17.γ 17)), (29, pt (g18.γ 5)), (31, pt (g19.γ 9)), (33, pt (g20.γ 8)), (216, .bool true)]) (fun _ => [((g1.γ 0), ([Value.int .i64 (c : Nat)] ++ (elC x0 ++ (elC y0 ++ ([Value.bool true] ++ (elC x1 ++ (elC y1 ++ ([Value.bool i1] ++ (elC x2 ++ (elC y2 ++ ([Value.bool i2] ++ ([Value.slice KA kl kc] ++ [Value.slice MA ml mc]))))))))))), 29), ((g2.γ 6), ([Value.slice ((g2.δ 2).o 0) (wd (prm (2 * c - 1))).length ((g2.δ 2).n 0)] ++ ([Value.int .i64 (if c = 3 then 48 else 32)] ++ ([Value.slice ((g2.δ 2).o 1) (wd (cbN c)).length ((g2.δ 2).n 1)] ++ ([Value.slice none 0 0] ++ ([Value.slice ((g2.δ 2).o 2) (wd (prm (2 * c))).length ((g2.δ 2).n 2)] ++ ([Value.slice ((g2.δ 2).o 3) (wd (gxN c)).length ((g2.δ 2).n 3)] ++ ([Value.slice none 0 0] ++ ([Value.slice ((g2.δ 2).o 4) (wd (gyN c)).length ((g2.δ 2).n 4)] ++ ([Value.slice none 0 0] ++ ([Value.bool false] ++ [Value.bool false])))))))))), 39), ((g5.γ 9), (elC ((gox S)) ++ (elC ((goy S)) ++ [Value.bool S.inf])), 26), ((g6.γ 9), (elC ((gox S)) ++ (elC ((goy S)) ++ [Value.bool S.inf])), 26), ((g7.γ 8), (elC ((gox A)) ++ (elC ((goy A)) ++ [Value.bool A.inf])), 26), ((g8.γ 9), (elC ((gox B)) ++ (elC ((goy B)) ++ [Value.bool B.inf])), 26), ((g9.γ 8), (elC ((gox A)) ++ (elC ((goy A)) ++ [Value.bool A.inf])), 26), ((g10.γ 7), (elC ((gox N)) ++ (elC ((goy N)) ++ [Value.bool N.inf])), 26), ((g11.γ 8), (Z6 ++ (Z6 ++ [Value.bool true])), 26), ((g12.γ 1), (Z6 ++ (Z6 ++ [Value.bool true])), 26), ((g14.γ 10), (elC ((gox K1)) ++ (elC ((goy K1)) ++ [Value.bool K1.inf])), 26), ((g15.γ 10), (elC ((gox M1)) ++ (elC ((goy M1)) ++ [Value.bool M1.inf])), 26), ((g16.γ 7), (elC ((gox U)) ++ (elC ((goy U)) ++ [Value.bool U.inf])), 26), ((g17.γ 17), (elC ((gox U)) ++ (elC ((goy U)) ++ [Value.bool U.inf])), 26), ((g18.γ 5), (elC ((gxN c)) ++ (elC ((gyN c)) ++ [Value.bool false])), 26), ((g19.γ 9), (Z6 ++ (Z6 ++ [Value.bool true])), 26), ((g20.γ 8), (Z6 ++ (Z6 ++ [Value.bool true])), 26)]) (fun _ => [fun w => CrA c (g2.δ 2) w, fun w => BA kt ((g14.δ 5).o 0) ((g14.δ 5).n 0) w, fun w => BA mt ((g15.δ 5).o 0) ((g15.δ 5).n 0) w, fun w => BA kt ((g17.δ 5).o 0) ((g17.δ 5).n 0) w, fun w => NA (ofBE kt) ((g17.δ 6).o 0) ((g17.δ 6).n 0) w, fun w => BA mt ((g17.δ 9).o 0) ((g17.δ 9).n 0) w, fun w => NA (ofBE mt) ((g17.δ 10).o 0) ((g17.δ 10).n 0) w, fun w => NA (ofBE kt + ofBE mt) ((g17.δ 11).o 0) ((g17.δ 11).n 0) w, fun w => BA (beb (ofBE kt + ofBE mt)) ((g17.δ 12).o 0) ((g17.δ 12).n 0) w, fun w => BA (beb (prm (2 * c))) ((g19.δ 4).o 0) ((g19.δ 4).n 0) w, fun w => w.heap[(g20.δ 3).n 0]? = some (.cells ([Value.int .u8 1]).toArray 5 (0, 0))])
    hF hI ⟨(fun w w1 hg h => CrA.grow hg rfl h), (fun w w1 hg h => BA.grow hg rfl h), (fun w w1 hg h => BA.grow hg rfl h), (fun w w1 hg h => BA.grow hg rfl h), (fun w w1 hg h => NA.grow hg rfl h), (fun w w1 hg h => BA.grow hg rfl h), (fun w w1 hg h => NA.grow hg rfl h), (fun w w1 hg h => NA.grow hg rfl h), (fun w w1 hg h => BA.grow hg rfl h), (fun w w1 hg h => BA.grow hg rfl h), (fun w w1 hg h => hg.block _ _ h fun C t fr e => by cases e; rfl), trivial⟩ (fun g => ⟨pv,
      pv,
      lk1 0 13 rfl rfl, trivial⟩) ?_
  intro g21 a21 w21 hF hI
  refine wp_cond_true (hF.eval rfl) ?_
  refine wp_seq ?_
  refine sy [] #[va (.agg ((elC ((gox U)) ++ (elC ((goy U)) ++ [Value.bool U.inf]))).toArray),
      va (.agg ((elC ((gox U)) ++ (elC ((goy U)) ++ [Value.bool U.inf]))).toArray),
      va (.bool true),
      va (.bool true),
      va (.agg ((Z6 ++ (Z6 ++ [Value.bool true]))).toArray),
      va (.agg ((Z6 ++ (Z6 ++ [Value.bool true]))).toArray),
      va (.bool true),
      va (.bool true),
      va (.bool true),
      va (.agg ((Z6 ++ (Z6 ++ [Value.bool true]))).toArray),
      va (.agg ((Z6 ++ (Z6 ++ [Value.bool true]))).toArray),
      va (.bool true),
      va (.bool true),
      va (.bool true),
      va (.bool true),
      va (.bool true),
      va (.bool true)]
    (fun g22 => [(1, pt (g1.γ 0)), (2, .bool true), (5, .int .i64 (c : Nat)), (20, pt (g12.γ 1)), (25, pt (g16.γ 7)), (27, pt (g17.γ 17)), (29, pt (g18.γ 5)), (31, pt (g19.γ 9)), (33, pt (g20.γ 8))]) (fun _ => [((g1.γ 0), ([Value.int .i64 (c : Nat)] ++ (elC x0 ++ (elC y0 ++ ([Value.bool true] ++ (elC x1 ++ (elC y1 ++ ([Value.bool i1] ++ (elC x2 ++ (elC y2 ++ ([Value.bool i2] ++ ([Value.slice KA kl kc] ++ [Value.slice MA ml mc]))))))))))), 29), ((g2.γ 6), ([Value.slice ((g2.δ 2).o 0) (wd (prm (2 * c - 1))).length ((g2.δ 2).n 0)] ++ ([Value.int .i64 (if c = 3 then 48 else 32)] ++ ([Value.slice ((g2.δ 2).o 1) (wd (cbN c)).length ((g2.δ 2).n 1)] ++ ([Value.slice none 0 0] ++ ([Value.slice ((g2.δ 2).o 2) (wd (prm (2 * c))).length ((g2.δ 2).n 2)] ++ ([Value.slice ((g2.δ 2).o 3) (wd (gxN c)).length ((g2.δ 2).n 3)] ++ ([Value.slice none 0 0] ++ ([Value.slice ((g2.δ 2).o 4) (wd (gyN c)).length ((g2.δ 2).n 4)] ++ ([Value.slice none 0 0] ++ ([Value.bool false] ++ [Value.bool false])))))))))), 39), ((g5.γ 9), (elC ((gox S)) ++ (elC ((goy S)) ++ [Value.bool S.inf])), 26), ((g6.γ 9), (elC ((gox S)) ++ (elC ((goy S)) ++ [Value.bool S.inf])), 26), ((g7.γ 8), (elC ((gox A)) ++ (elC ((goy A)) ++ [Value.bool A.inf])), 26), ((g8.γ 9), (elC ((gox B)) ++ (elC ((goy B)) ++ [Value.bool B.inf])), 26), ((g9.γ 8), (elC ((gox A)) ++ (elC ((goy A)) ++ [Value.bool A.inf])), 26), ((g10.γ 7), (elC ((gox N)) ++ (elC ((goy N)) ++ [Value.bool N.inf])), 26), ((g11.γ 8), (Z6 ++ (Z6 ++ [Value.bool true])), 26), ((g12.γ 1), (Z6 ++ (Z6 ++ [Value.bool true])), 26), ((g14.γ 10), (elC ((gox K1)) ++ (elC ((goy K1)) ++ [Value.bool K1.inf])), 26), ((g15.γ 10), (elC ((gox M1)) ++ (elC ((goy M1)) ++ [Value.bool M1.inf])), 26), ((g16.γ 7), (elC ((gox U)) ++ (elC ((goy U)) ++ [Value.bool U.inf])), 26), ((g17.γ 17), (elC ((gox U)) ++ (elC ((goy U)) ++ [Value.bool U.inf])), 26), ((g18.γ 5), (elC ((gxN c)) ++ (elC ((gyN c)) ++ [Value.bool false])), 26), ((g19.γ 9), (Z6 ++ (Z6 ++ [Value.bool true])), 26), ((g20.γ 8), (Z6 ++ (Z6 ++ [Value.bool true])), 26)]) (fun _ => [fun w => CrA c (g2.δ 2) w, fun w => BA kt ((g14.δ 5).o 0) ((g14.δ 5).n 0) w, fun w => BA mt ((g15.δ 5).o 0) ((g15.δ 5).n 0) w, fun w => BA kt ((g17.δ 5).o 0) ((g17.δ 5).n 0) w, fun w => NA (ofBE kt) ((g17.δ 6).o 0) ((g17.δ 6).n 0) w, fun w => BA mt ((g17.δ 9).o 0) ((g17.δ 9).n 0) w, fun w => NA (ofBE mt) ((g17.δ 10).o 0) ((g17.δ 10).n 0) w, fun w => NA (ofBE kt + ofBE mt) ((g17.δ 11).o 0) ((g17.δ 11).n 0) w, fun w => BA (beb (ofBE kt + ofBE mt)) ((g17.δ 12).o 0) ((g17.δ 12).n 0) w, fun w => BA (beb (prm (2 * c))) ((g19.δ 4).o 0) ((g19.δ 4).n 0) w, fun w => w.heap[(g20.δ 3).n 0]? = some (.cells ([Value.int .u8 1]).toArray 5 (0, 0))])
    hF hI ⟨(fun w w1 hg h => CrA.grow hg rfl h), (fun w w1 hg h => BA.grow hg rfl h), (fun w w1 hg h => BA.grow hg rfl h), (fun w w1 hg h => BA.grow hg rfl h), (fun w w1 hg h => NA.grow hg rfl h), (fun w w1 hg h => BA.grow hg rfl h), (fun w w1 hg h => NA.grow hg rfl h), (fun w w1 hg h => NA.grow hg rfl h), (fun w w1 hg h => BA.grow hg rfl h), (fun w w1 hg h => BA.grow hg rfl h), (fun w w1 hg h => hg.block _ _ h fun C t fr e => by cases e; rfl), trivial⟩ (fun g => ⟨lk 12 0 rfl rfl,
      lk 13 0 rfl rfl,
      ov fun w hI hfa => pureU (eqPt ((gox U)) ((goy U)) U.inf true rfl (by kernel_rfl) (by kernel_rfl)),
      pv,
      lk 15 0 rfl rfl,
      lk 9 0 rfl rfl,
      ov fun w hI hfa => pureU (eqPt 0 0 true true rfl (by kernel_rfl) (by kernel_rfl)),
      pv,
      pv,
      lk 16 0 rfl rfl,
      lk 9 0 rfl rfl,
      ov fun w hI hfa => pureU (eqPt 0 0 true true rfl (by kernel_rfl) (by kernel_rfl)),
      pv,
      pv,
      cv fun w hI hfa => wakes_any,
      pv,
      pv, trivial⟩) ?_
  intro g22 a22 w22 hF hI
  refine wp_ret ?_
  show bodyPost Tryz.prog Tryz.f4 (Ret w (.bool true)) .ret _ _
  exact sym_ret rfl hF.df (rv_tmp hF rfl) ⟨rfl, hI.below⟩

set_option maxRecDepth 100000 in
set_option maxHeartbeats 4000000 in
theorem group_f {x0 y0 x1 y1 x2 y2 : Nat} {i1 i2 : Bool} {KA MA : Option Addr} {kt mt : List Nat} {kl ml kc mc : Nat} {c : Nat} (h1 : 1 ≤ c) (h3 : c ≤ 3) [Pr (cp c)] {P Q R S A B N U K1 M1 G : GP (Zm (cp c))} (hP : Pn c x0 y0 false P) (hQ : Pn c x1 y1 i1 Q) (hR : Pn c x2 y2 i2 R) (hG : Pn c (gxN c) (gyN c) false G) (nS : Pn c (gox S) (goy S) S.inf S) (nA : Pn c (gox A) (goy A) A.inf A) (nB : Pn c (gox B) (goy B) B.inf B) (nN : Pn c (gox N) (goy N) N.inf N) (nU : Pn c (gox U) (goy U) U.inf U) (nK1 : Pn c (gox K1) (goy K1) K1.inf K1) (nM1 : Pn c (gox M1) (goy M1) M1.inf M1) (eS : gadd Fd.finv P Q = S) (eS2 : gadd Fd.finv Q P = S) (eA : gadd Fd.finv S R = A) (eB : gadd Fd.finv Q R = B) (eA2 : gadd Fd.finv P B = A) (eN : gneg P = N) (eZ : gadd Fd.finv P N = ⟨0, 0, true⟩) (eK : gmul Fd.finv P (ofBE kt) = K1) (eM : gmul Fd.finv P (ofBE mt) = M1) (eU : gadd Fd.finv K1 M1 = U) (eU2 : gmul Fd.finv P (ofBE (beb (ofBE kt + ofBE mt))) = U) (eO : gmul Fd.finv G (ofBE (beb (prm (2 * c)))) = ⟨0, 0, true⟩) (e1 : gmul Fd.finv P (ofBE [1]) = P) (eG : (gmul Fd.finv G (prm (2 * c))).inf = true) (hK : ofBE kt < Bg) (hM : ofBE mt < Bg) (hKM : ofBE kt + ofBE mt < Bg) (hO : prm (2 * c) < Bg) {w : World} (hkr : BIn 40 kt KA kl kc w) (hmr : BIn 40 mt MA ml mc w) : Calls Tryz.prog 4 #[.agg (([Value.int .i64 (c : Nat)] ++ (elC x0 ++ (elC y0 ++ ([Value.bool false] ++ (elC x1 ++ (elC y1 ++ ([Value.bool i1] ++ (elC x2 ++ (elC y2 ++ ([Value.bool i2] ++ ([Value.slice KA kl kc] ++ [Value.slice MA ml mc])))))))))))).toArray] w (Ret w (.bool true)) := by
  refine calls_of_wp Tryz.func4 (by rfl : Tryz.f4.body = some _) ?_
  have hF : Fr [(0, .agg (([Value.int .i64 (c : Nat)] ++ (elC x0 ++ (elC y0 ++ ([Value.bool false] ++ (elC x1 ++ (elC y1 ++ ([Value.bool i1] ++ (elC x2 ++ (elC y2 ++ ([Value.bool i2] ++ ([Value.slice KA kl kc] ++ [Value.slice MA ml mc])))))))))))).toArray)] 255 _ := Fr.start (args := #[.agg (([Value.int .i64 (c : Nat)] ++ (elC x0 ++ (elC y0 ++ ([Value.bool false] ++ (elC x1 ++ (elC y1 ++ ([Value.bool i1] ++ (elC x2 ++ (elC y2 ++ ([Value.bool i2] ++ ([Value.slice KA kl kc] ++ [Value.slice MA ml mc])))))))))))).toArray]) (m := 255) (by simp)
  have hI := Inv.start0 w
  refine wp_seq ?_
  refine sy [] #[.new [] (fun _ => (([Value.int .i64 (c : Nat)] ++ (elC x0 ++ (elC y0 ++ ([Value.bool false] ++ (elC x1 ++ (elC y1 ++ ([Value.bool i1] ++ (elC x2 ++ (elC y2 ++ ([Value.bool i2] ++ ([Value.slice KA kl kc] ++ [Value.slice MA ml mc])))))))))))).toArray) 29,
      va (.bool false)]
    (fun g1 => [(1, pt (g1.γ 0)), (2, .bool false)]) (fun g1 => [((g1.γ 0), ([Value.int .i64 (c : Nat)] ++ (elC x0 ++ (elC y0 ++ ([Value.bool false] ++ (elC x1 ++ (elC y1 ++ ([Value.bool i1] ++ (elC x2 ++ (elC y2 ++ ([Value.bool i2] ++ ([Value.slice KA kl kc] ++ [Value.slice MA ml mc]))))))))))), 29)]) (fun _ => [])
    hF hI trivial (fun g => ⟨nw,
      pv, trivial⟩) ?_
  intro g1 a1 w1 hF hI
  refine wp_seq ?_
  refine sy [39] #[va (pt (g1.γ 0)),
      va (.int .i64 (c : Nat)),
      .ex [] (fun d => .tuple #[crV c d, .bool true]) (fun _ d => fun w => CrA c d w),
      .val [2] (fun l => .tuple #[.agg (([Value.slice ((l.getD 0 dat0).o 0) (wd (prm (2 * c - 1))).length ((l.getD 0 dat0).n 0)] ++ ([Value.int .i64 (if c = 3 then 48 else 32)] ++ ([Value.slice ((l.getD 0 dat0).o 1) (wd (cbN c)).length ((l.getD 0 dat0).n 1)] ++ ([Value.slice none 0 0] ++ ([Value.slice ((l.getD 0 dat0).o 2) (wd (prm (2 * c))).length ((l.getD 0 dat0).n 2)] ++ ([Value.slice ((l.getD 0 dat0).o 3) (wd (gxN c)).length ((l.getD 0 dat0).n 3)] ++ ([Value.slice none 0 0] ++ ([Value.slice ((l.getD 0 dat0).o 4) (wd (gyN c)).length ((l.getD 0 dat0).n 4)] ++ ([Value.slice none 0 0] ++ ([Value.bool false] ++ [Value.bool false]))))))))))).toArray, .bool true]),
      .val [2] (fun l => .agg (([Value.slice ((l.getD 0 dat0).o 0) (wd (prm (2 * c - 1))).length ((l.getD 0 dat0).n 0)] ++ ([Value.int .i64 (if c = 3 then 48 else 32)] ++ ([Value.slice ((l.getD 0 dat0).o 1) (wd (cbN c)).length ((l.getD 0 dat0).n 1)] ++ ([Value.slice none 0 0] ++ ([Value.slice ((l.getD 0 dat0).o 2) (wd (prm (2 * c))).length ((l.getD 0 dat0).n 2)] ++ ([Value.slice ((l.getD 0 dat0).o 3) (wd (gxN c)).length ((l.getD 0 dat0).n 3)] ++ ([Value.slice none 0 0] ++ ([Value.slice ((l.getD 0 dat0).o 4) (wd (gyN c)).length ((l.getD 0 dat0).n 4)] ++ ([Value.slice none 0 0] ++ ([Value.bool false] ++ [Value.bool false]))))))))))).toArray),
      va (.bool true),
      .new [] (fun _ => (([Value.slice none 0 0] ++ ([Value.int .i64 0] ++ ([Value.slice none 0 0] ++ ([Value.slice none 0 0] ++ ([Value.slice none 0 0] ++ ([Value.slice none 0 0] ++ ([Value.slice none 0 0] ++ ([Value.slice none 0 0] ++ ([Value.slice none 0 0] ++ ([Value.bool false] ++ [Value.bool false]))))))))))).toArray) 39,
      .put 6 [2] (fun l => (([Value.slice ((l.getD 0 dat0).o 0) (wd (prm (2 * c - 1))).length ((l.getD 0 dat0).n 0)] ++ ([Value.int .i64 (if c = 3 then 48 else 32)] ++ ([Value.slice ((l.getD 0 dat0).o 1) (wd (cbN c)).length ((l.getD 0 dat0).n 1)] ++ ([Value.slice none 0 0] ++ ([Value.slice ((l.getD 0 dat0).o 2) (wd (prm (2 * c))).length ((l.getD 0 dat0).n 2)] ++ ([Value.slice ((l.getD 0 dat0).o 3) (wd (gxN c)).length ((l.getD 0 dat0).n 3)] ++ ([Value.slice none 0 0] ++ ([Value.slice ((l.getD 0 dat0).o 4) (wd (gyN c)).length ((l.getD 0 dat0).n 4)] ++ ([Value.slice none 0 0] ++ ([Value.bool false] ++ [Value.bool false]))))))))))).toArray),
      va (.bool true)]
    (fun g2 => [(1, pt (g1.γ 0)), (2, .bool false), (3, pt (g2.γ 6)), (4, .bool true)]) (fun g2 => [((g1.γ 0), ([Value.int .i64 (c : Nat)] ++ (elC x0 ++ (elC y0 ++ ([Value.bool false] ++ (elC x1 ++ (elC y1 ++ ([Value.bool i1] ++ (elC x2 ++ (elC y2 ++ ([Value.bool i2] ++ ([Value.slice KA kl kc] ++ [Value.slice MA ml mc]))))))))))), 29), ((g2.γ 6), ([Value.slice ((g2.δ 2).o 0) (wd (prm (2 * c - 1))).length ((g2.δ 2).n 0)] ++ ([Value.int .i64 (if c = 3 then 48 else 32)] ++ ([Value.slice ((g2.δ 2).o 1) (wd (cbN c)).length ((g2.δ 2).n 1)] ++ ([Value.slice none 0 0] ++ ([Value.slice ((g2.δ 2).o 2) (wd (prm (2 * c))).length ((g2.δ 2).n 2)] ++ ([Value.slice ((g2.δ 2).o 3) (wd (gxN c)).length ((g2.δ 2).n 3)] ++ ([Value.slice none 0 0] ++ ([Value.slice ((g2.δ 2).o 4) (wd (gyN c)).length ((g2.δ 2).n 4)] ++ ([Value.slice none 0 0] ++ ([Value.bool false] ++ [Value.bool false])))))))))), 39)]) (fun g2 => [fun w => CrA c (g2.δ 2) w])
    hF hI trivial (fun g => ⟨pv,
      lk1 0 0 rfl rfl,
      cx (fun l d w w1 hg h => CrA.grow hg rfl h) fun w hI hfa => ref8of_any c h1 h3,
      pv,
      pv,
      pv,
      nw,
      po (.agg (([Value.slice ((g.δ 2).o 0) (wd (prm (2 * c - 1))).length ((g.δ 2).n 0)] ++ ([Value.int .i64 (if c = 3 then 48 else 32)] ++ ([Value.slice ((g.δ 2).o 1) (wd (cbN c)).length ((g.δ 2).n 1)] ++ ([Value.slice none 0 0] ++ ([Value.slice ((g.δ 2).o 2) (wd (prm (2 * c))).length ((g.δ 2).n 2)] ++ ([Value.slice ((g.δ 2).o 3) (wd (gxN c)).length ((g.δ 2).n 3)] ++ ([Value.slice none 0 0] ++ ([Value.slice ((g.δ 2).o 4) (wd (gyN c)).length ((g.δ 2).n 4)] ++ ([Value.slice none 0 0] ++ ([Value.bool false] ++ [Value.bool false]))))))))))).toArray) (([Value.slice none 0 0] ++ ([Value.int .i64 0] ++ ([Value.slice none 0 0] ++ ([Value.slice none 0 0] ++ ([Value.slice none 0 0] ++ ([Value.slice none 0 0] ++ ([Value.slice none 0 0] ++ ([Value.slice none 0 0] ++ ([Value.slice none 0 0] ++ ([Value.bool false] ++ [Value.bool false]))))))))))) rfl,
      pv, trivial⟩) ?_
  intro g2 a2 w2 hF hI
  refine wp_seq ?_
  refine wp_seq ?_
  refine sy [] #[va (.bool true),
      va (.bool false),
      va (.bool false),
      va (pt (g1.γ 0)),
      va (.int .i64 (c : Nat)),
      va (.pointer (some ⟨(g1.γ 0), 1, none⟩)),
      va (.agg ((elC x0 ++ (elC y0 ++ [Value.bool false]))).toArray),
      va (.bool true),
      va (.bool false),
      va (.bool false),
      va (.bool false),
      va (pt (g1.γ 0)),
      va (.int .i64 (c : Nat)),
      va (.pointer (some ⟨(g1.γ 0), 14, none⟩)),
      va (.agg ((elC x1 ++ (elC y1 ++ [Value.bool i1]))).toArray),
      va (.bool true),
      va (.bool false),
      va (.bool false),
      va (.bool false),
      va (pt (g1.γ 0)),
      va (.int .i64 (c : Nat)),
      va (.pointer (some ⟨(g1.γ 0), 27, none⟩)),
      va (.agg ((elC x2 ++ (elC y2 ++ [Value.bool i2]))).toArray),
      va (.bool true),
      va (.bool false),
      va (.bool false)]
    (fun g3 => [(1, pt (g1.γ 0)), (2, .bool false), (3, pt (g2.γ 6)), (66, .bool false)]) (fun _ => [((g1.γ 0), ([Value.int .i64 (c : Nat)] ++ (elC x0 ++ (elC y0 ++ ([Value.bool false] ++ (elC x1 ++ (elC y1 ++ ([Value.bool i1] ++ (elC x2 ++ (elC y2 ++ ([Value.bool i2] ++ ([Value.slice KA kl kc] ++ [Value.slice MA ml mc]))))))))))), 29), ((g2.γ 6), ([Value.slice ((g2.δ 2).o 0) (wd (prm (2 * c - 1))).length ((g2.δ 2).n 0)] ++ ([Value.int .i64 (if c = 3 then 48 else 32)] ++ ([Value.slice ((g2.δ 2).o 1) (wd (cbN c)).length ((g2.δ 2).n 1)] ++ ([Value.slice none 0 0] ++ ([Value.slice ((g2.δ 2).o 2) (wd (prm (2 * c))).length ((g2.δ 2).n 2)] ++ ([Value.slice ((g2.δ 2).o 3) (wd (gxN c)).length ((g2.δ 2).n 3)] ++ ([Value.slice none 0 0] ++ ([Value.slice ((g2.δ 2).o 4) (wd (gyN c)).length ((g2.δ 2).n 4)] ++ ([Value.slice none 0 0] ++ ([Value.bool false] ++ [Value.bool false])))))))))), 39)]) (fun _ => [fun w => CrA c (g2.δ 2) w])
    hF hI ⟨(fun w w1 hg h => CrA.grow hg rfl h), trivial⟩ (fun g => ⟨pv,
      pv,
      pv,
      pv,
      lk1 0 0 rfl rfl,
      pv,
      lk 0 1 rfl rfl,
      cv fun w hI hfa => on_p h1 h3 hP,
      pv,
      pv,
      pv,
      pv,
      lk1 0 0 rfl rfl,
      pv,
      lk 0 14 rfl rfl,
      cv fun w hI hfa => on_p h1 h3 hQ,
      pv,
      pv,
      pv,
      pv,
      lk1 0 0 rfl rfl,
      pv,
      lk 0 27 rfl rfl,
      cv fun w hI hfa => on_p h1 h3 hR,
      pv,
      pv, trivial⟩) ?_
  intro g3 a3 w3 hF hI
  refine wp_cond_false (hF.eval rfl) ?_
  refine wp_skip ?_
  refine wp_seq ?_
  refine sy [] #[va (pt (g1.γ 0)),
      va (.int .i64 (c : Nat)),
      va (.int .i64 (c : Nat))]
    (fun g4 => [(1, pt (g1.γ 0)), (2, .bool false), (3, pt (g2.γ 6)), (5, .int .i64 (c : Nat))]) (fun _ => [((g1.γ 0), ([Value.int .i64 (c : Nat)] ++ (elC x0 ++ (elC y0 ++ ([Value.bool false] ++ (elC x1 ++ (elC y1 ++ ([Value.bool i1] ++ (elC x2 ++ (elC y2 ++ ([Value.bool i2] ++ ([Value.slice KA kl kc] ++ [Value.slice MA ml mc]))))))))))), 29), ((g2.γ 6), ([Value.slice ((g2.δ 2).o 0) (wd (prm (2 * c - 1))).length ((g2.δ 2).n 0)] ++ ([Value.int .i64 (if c = 3 then 48 else 32)] ++ ([Value.slice ((g2.δ 2).o 1) (wd (cbN c)).length ((g2.δ 2).n 1)] ++ ([Value.slice none 0 0] ++ ([Value.slice ((g2.δ 2).o 2) (wd (prm (2 * c))).length ((g2.δ 2).n 2)] ++ ([Value.slice ((g2.δ 2).o 3) (wd (gxN c)).length ((g2.δ 2).n 3)] ++ ([Value.slice none 0 0] ++ ([Value.slice ((g2.δ 2).o 4) (wd (gyN c)).length ((g2.δ 2).n 4)] ++ ([Value.slice none 0 0] ++ ([Value.bool false] ++ [Value.bool false])))))))))), 39)]) (fun _ => [fun w => CrA c (g2.δ 2) w])
    hF hI ⟨(fun w w1 hg h => CrA.grow hg rfl h), trivial⟩ (fun g => ⟨pv,
      lk1 0 0 rfl rfl,
      pv, trivial⟩) ?_
  intro g4 a4 w4 hF hI
  refine wp_seq ?_
  refine sy [26] #[va (.int .i64 (c : Nat)),
      va (.pointer (some ⟨(g1.γ 0), 1, none⟩)),
      va (.agg ((elC x0 ++ (elC y0 ++ [Value.bool false]))).toArray),
      va (.pointer (some ⟨(g1.γ 0), 14, none⟩)),
      va (.agg ((elC x1 ++ (elC y1 ++ [Value.bool i1]))).toArray),
      va (.tuple #[.agg ((elC ((gox S)) ++ (elC ((goy S)) ++ [Value.bool S.inf]))).toArray, .int .i64 0]),
      va (.tuple #[.agg ((elC ((gox S)) ++ (elC ((goy S)) ++ [Value.bool S.inf]))).toArray, .int .i64 0]),
      va (.agg ((elC ((gox S)) ++ (elC ((goy S)) ++ [Value.bool S.inf]))).toArray),
      va (.int .i64 0),
      .new [] (fun _ => ((Z6 ++ (Z6 ++ [Value.bool false]))).toArray) 26,
      .put 9 [] (fun _ => ((elC ((gox S)) ++ (elC ((goy S)) ++ [Value.bool S.inf]))).toArray),
      va (.int .i64 0)]
    (fun g5 => [(1, pt (g1.γ 0)), (2, .bool false), (3, pt (g2.γ 6)), (5, .int .i64 (c : Nat)), (6, pt (g5.γ 9))]) (fun g5 => [((g1.γ 0), ([Value.int .i64 (c : Nat)] ++ (elC x0 ++ (elC y0 ++ ([Value.bool false] ++ (elC x1 ++ (elC y1 ++ ([Value.bool i1] ++ (elC x2 ++ (elC y2 ++ ([Value.bool i2] ++ ([Value.slice KA kl kc] ++ [Value.slice MA ml mc]))))))))))), 29), ((g2.γ 6), ([Value.slice ((g2.δ 2).o 0) (wd (prm (2 * c - 1))).length ((g2.δ 2).n 0)] ++ ([Value.int .i64 (if c = 3 then 48 else 32)] ++ ([Value.slice ((g2.δ 2).o 1) (wd (cbN c)).length ((g2.δ 2).n 1)] ++ ([Value.slice none 0 0] ++ ([Value.slice ((g2.δ 2).o 2) (wd (prm (2 * c))).length ((g2.δ 2).n 2)] ++ ([Value.slice ((g2.δ 2).o 3) (wd (gxN c)).length ((g2.δ 2).n 3)] ++ ([Value.slice none 0 0] ++ ([Value.slice ((g2.δ 2).o 4) (wd (gyN c)).length ((g2.δ 2).n 4)] ++ ([Value.slice none 0 0] ++ ([Value.bool false] ++ [Value.bool false])))))))))), 39), ((g5.γ 9), (elC ((gox S)) ++ (elC ((goy S)) ++ [Value.bool S.inf])), 26)]) (fun _ => [fun w => CrA c (g2.δ 2) w])
    hF hI ⟨(fun w w1 hg h => CrA.grow hg rfl h), trivial⟩ (fun g => ⟨pv,
      pv,
      lk 0 1 rfl rfl,
      pv,
      lk 0 14 rfl rfl,
      cv fun w hI hfa => add_p h1 h3 hP hQ eS,
      pv,
      pv,
      pv,
      nw,
      po (.agg ((elC ((gox S)) ++ (elC ((goy S)) ++ [Value.bool S.inf]))).toArray) ((Z6 ++ (Z6 ++ [Value.bool false]))) rfl,
      pv, trivial⟩) ?_
  intro g5 a5 w5 hF hI
  refine wp_seq ?_
  refine sy [26] #[va (.int .i64 (c : Nat)),
      va (.pointer (some ⟨(g1.γ 0), 14, none⟩)),
      va (.agg ((elC x1 ++ (elC y1 ++ [Value.bool i1]))).toArray),
      va (.pointer (some ⟨(g1.γ 0), 1, none⟩)),
      va (.agg ((elC x0 ++ (elC y0 ++ [Value.bool false]))).toArray),
      va (.tuple #[.agg ((elC ((gox S)) ++ (elC ((goy S)) ++ [Value.bool S.inf]))).toArray, .int .i64 0]),
      va (.tuple #[.agg ((elC ((gox S)) ++ (elC ((goy S)) ++ [Value.bool S.inf]))).toArray, .int .i64 0]),
      va (.agg ((elC ((gox S)) ++ (elC ((goy S)) ++ [Value.bool S.inf]))).toArray),
      va (.int .i64 0),
      .new [] (fun _ => ((Z6 ++ (Z6 ++ [Value.bool false]))).toArray) 26,
      .put 9 [] (fun _ => ((elC ((gox S)) ++ (elC ((goy S)) ++ [Value.bool S.inf]))).toArray),
      va (.int .i64 0)]
    (fun g6 => [(1, pt (g1.γ 0)), (2, .bool false), (3, pt (g2.γ 6)), (5, .int .i64 (c : Nat)), (6, pt (g5.γ 9)), (8, pt (g6.γ 9))]) (fun g6 => [((g1.γ 0), ([Value.int .i64 (c : Nat)] ++ (elC x0 ++ (elC y0 ++ ([Value.bool false] ++ (elC x1 ++ (elC y1 ++ ([Value.bool i1] ++ (elC x2 ++ (elC y2 ++ ([Value.bool i2] ++ ([Value.slice KA kl kc] ++ [Value.slice MA ml mc]))))))))))), 29), ((g2.γ 6), ([Value.slice ((g2.δ 2).o 0) (wd (prm (2 * c - 1))).length ((g2.δ 2).n 0)] ++ ([Value.int .i64 (if c = 3 then 48 else 32)] ++ ([Value.slice ((g2.δ 2).o 1) (wd (cbN c)).length ((g2.δ 2).n 1)] ++ ([Value.slice none 0 0] ++ ([Value.slice ((g2.δ 2).o 2) (wd (prm (2 * c))).length ((g2.δ 2).n 2)] ++ ([Value.slice ((g2.δ 2).o 3) (wd (gxN c)).length ((g2.δ 2).n 3)] ++ ([Value.slice none 0 0] ++ ([Value.slice ((g2.δ 2).o 4) (wd (gyN c)).length ((g2.δ 2).n 4)] ++ ([Value.slice none 0 0] ++ ([Value.bool false] ++ [Value.bool false])))))))))), 39), ((g5.γ 9), (elC ((gox S)) ++ (elC ((goy S)) ++ [Value.bool S.inf])), 26), ((g6.γ 9), (elC ((gox S)) ++ (elC ((goy S)) ++ [Value.bool S.inf])), 26)]) (fun _ => [fun w => CrA c (g2.δ 2) w])
    hF hI ⟨(fun w w1 hg h => CrA.grow hg rfl h), trivial⟩ (fun g => ⟨pv,
      pv,
      lk 0 14 rfl rfl,
      pv,
      lk 0 1 rfl rfl,
      cv fun w hI hfa => add_p h1 h3 hQ hP eS2,
      pv,
      pv,
      pv,
      nw,
      po (.agg ((elC ((gox S)) ++ (elC ((goy S)) ++ [Value.bool S.inf]))).toArray) ((Z6 ++ (Z6 ++ [Value.bool false]))) rfl,
      pv, trivial⟩) ?_
  intro g6 a6 w6 hF hI
  refine wp_seq ?_
  refine sy [26] #[va (.int .i64 (c : Nat)),
      va (.agg ((elC ((gox S)) ++ (elC ((goy S)) ++ [Value.bool S.inf]))).toArray),
      va (.pointer (some ⟨(g1.γ 0), 27, none⟩)),
      va (.agg ((elC x2 ++ (elC y2 ++ [Value.bool i2]))).toArray),
      va (.tuple #[.agg ((elC ((gox A)) ++ (elC ((goy A)) ++ [Value.bool A.inf]))).toArray, .int .i64 0]),
      va (.tuple #[.agg ((elC ((gox A)) ++ (elC ((goy A)) ++ [Value.bool A.inf]))).toArray, .int .i64 0]),
      va (.agg ((elC ((gox A)) ++ (elC ((goy A)) ++ [Value.bool A.inf]))).toArray),
      va (.int .i64 0),
      .new [] (fun _ => ((Z6 ++ (Z6 ++ [Value.bool false]))).toArray) 26,
      .put 8 [] (fun _ => ((elC ((gox A)) ++ (elC ((goy A)) ++ [Value.bool A.inf]))).toArray),
      va (.int .i64 0)]
    (fun g7 => [(1, pt (g1.γ 0)), (2, .bool false), (3, pt (g2.γ 6)), (5, .int .i64 (c : Nat)), (6, pt (g5.γ 9)), (8, pt (g6.γ 9)), (10, pt (g7.γ 8))]) (fun g7 => [((g1.γ 0), ([Value.int .i64 (c : Nat)] ++ (elC x0 ++ (elC y0 ++ ([Value.bool false] ++ (elC x1 ++ (elC y1 ++ ([Value.bool i1] ++ (elC x2 ++ (elC y2 ++ ([Value.bool i2] ++ ([Value.slice KA kl kc] ++ [Value.slice MA ml mc]))))))))))), 29), ((g2.γ 6), ([Value.slice ((g2.δ 2).o 0) (wd (prm (2 * c - 1))).length ((g2.δ 2).n 0)] ++ ([Value.int .i64 (if c = 3 then 48 else 32)] ++ ([Value.slice ((g2.δ 2).o 1) (wd (cbN c)).length ((g2.δ 2).n 1)] ++ ([Value.slice none 0 0] ++ ([Value.slice ((g2.δ 2).o 2) (wd (prm (2 * c))).length ((g2.δ 2).n 2)] ++ ([Value.slice ((g2.δ 2).o 3) (wd (gxN c)).length ((g2.δ 2).n 3)] ++ ([Value.slice none 0 0] ++ ([Value.slice ((g2.δ 2).o 4) (wd (gyN c)).length ((g2.δ 2).n 4)] ++ ([Value.slice none 0 0] ++ ([Value.bool false] ++ [Value.bool false])))))))))), 39), ((g5.γ 9), (elC ((gox S)) ++ (elC ((goy S)) ++ [Value.bool S.inf])), 26), ((g6.γ 9), (elC ((gox S)) ++ (elC ((goy S)) ++ [Value.bool S.inf])), 26), ((g7.γ 8), (elC ((gox A)) ++ (elC ((goy A)) ++ [Value.bool A.inf])), 26)]) (fun _ => [fun w => CrA c (g2.δ 2) w])
    hF hI ⟨(fun w w1 hg h => CrA.grow hg rfl h), trivial⟩ (fun g => ⟨pv,
      lk 2 0 rfl rfl,
      pv,
      lk 0 27 rfl rfl,
      cv fun w hI hfa => add_p h1 h3 nS hR eA,
      pv,
      pv,
      pv,
      nw,
      po (.agg ((elC ((gox A)) ++ (elC ((goy A)) ++ [Value.bool A.inf]))).toArray) ((Z6 ++ (Z6 ++ [Value.bool false]))) rfl,
      pv, trivial⟩) ?_
  intro g7 a7 w7 hF hI
  refine wp_seq ?_
  refine sy [26] #[va (.int .i64 (c : Nat)),
      va (.pointer (some ⟨(g1.γ 0), 14, none⟩)),
      va (.agg ((elC x1 ++ (elC y1 ++ [Value.bool i1]))).toArray),
      va (.pointer (some ⟨(g1.γ 0), 27, none⟩)),
      va (.agg ((elC x2 ++ (elC y2 ++ [Value.bool i2]))).toArray),
      va (.tuple #[.agg ((elC ((gox B)) ++ (elC ((goy B)) ++ [Value.bool B.inf]))).toArray, .int .i64 0]),
      va (.tuple #[.agg ((elC ((gox B)) ++ (elC ((goy B)) ++ [Value.bool B.inf]))).toArray, .int .i64 0]),
      va (.agg ((elC ((gox B)) ++ (elC ((goy B)) ++ [Value.bool B.inf]))).toArray),
      va (.int .i64 0),
      .new [] (fun _ => ((Z6 ++ (Z6 ++ [Value.bool false]))).toArray) 26,
      .put 9 [] (fun _ => ((elC ((gox B)) ++ (elC ((goy B)) ++ [Value.bool B.inf]))).toArray),
      va (.int .i64 0)]
    (fun g8 => [(1, pt (g1.γ 0)), (2, .bool false), (3, pt (g2.γ 6)), (5, .int .i64 (c : Nat)), (6, pt (g5.γ 9)), (8, pt (g6.γ 9)), (10, pt (g7.γ 8)), (12, pt (g8.γ 9))]) (fun g8 => [((g1.γ 0), ([Value.int .i64 (c : Nat)] ++ (elC x0 ++ (elC y0 ++ ([Value.bool false] ++ (elC x1 ++ (elC y1 ++ ([Value.bool i1] ++ (elC x2 ++ (elC y2 ++ ([Value.bool i2] ++ ([Value.slice KA kl kc] ++ [Value.slice MA ml mc]))))))))))), 29), ((g2.γ 6), ([Value.slice ((g2.δ 2).o 0) (wd (prm (2 * c - 1))).length ((g2.δ 2).n 0)] ++ ([Value.int .i64 (if c = 3 then 48 else 32)] ++ ([Value.slice ((g2.δ 2).o 1) (wd (cbN c)).length ((g2.δ 2).n 1)] ++ ([Value.slice none 0 0] ++ ([Value.slice ((g2.δ 2).o 2) (wd (prm (2 * c))).length ((g2.δ 2).n 2)] ++ ([Value.slice ((g2.δ 2).o 3) (wd (gxN c)).length ((g2.δ 2).n 3)] ++ ([Value.slice none 0 0] ++ ([Value.slice ((g2.δ 2).o 4) (wd (gyN c)).length ((g2.δ 2).n 4)] ++ ([Value.slice none 0 0] ++ ([Value.bool false] ++ [Value.bool false])))))))))), 39), ((g5.γ 9), (elC ((gox S)) ++ (elC ((goy S)) ++ [Value.bool S.inf])), 26), ((g6.γ 9), (elC ((gox S)) ++ (elC ((goy S)) ++ [Value.bool S.inf])), 26), ((g7.γ 8), (elC ((gox A)) ++ (elC ((goy A)) ++ [Value.bool A.inf])), 26), ((g8.γ 9), (elC ((gox B)) ++ (elC ((goy B)) ++ [Value.bool B.inf])), 26)]) (fun _ => [fun w => CrA c (g2.δ 2) w])
    hF hI ⟨(fun w w1 hg h => CrA.grow hg rfl h), trivial⟩ (fun g => ⟨pv,
      pv,
      lk 0 14 rfl rfl,
      pv,
      lk 0 27 rfl rfl,
      cv fun w hI hfa => add_p h1 h3 hQ hR eB,
      pv,
      pv,
      pv,
      nw,
      po (.agg ((elC ((gox B)) ++ (elC ((goy B)) ++ [Value.bool B.inf]))).toArray) ((Z6 ++ (Z6 ++ [Value.bool false]))) rfl,
      pv, trivial⟩) ?_
  intro g8 a8 w8 hF hI
  refine wp_seq ?_
  refine sy [26] #[va (.int .i64 (c : Nat)),
      va (.pointer (some ⟨(g1.γ 0), 1, none⟩)),
      va (.agg ((elC x0 ++ (elC y0 ++ [Value.bool false]))).toArray),
      va (.agg ((elC ((gox B)) ++ (elC ((goy B)) ++ [Value.bool B.inf]))).toArray),
      va (.tuple #[.agg ((elC ((gox A)) ++ (elC ((goy A)) ++ [Value.bool A.inf]))).toArray, .int .i64 0]),
      va (.tuple #[.agg ((elC ((gox A)) ++ (elC ((goy A)) ++ [Value.bool A.inf]))).toArray, .int .i64 0]),
      va (.agg ((elC ((gox A)) ++ (elC ((goy A)) ++ [Value.bool A.inf]))).toArray),
      va (.int .i64 0),
      .new [] (fun _ => ((Z6 ++ (Z6 ++ [Value.bool false]))).toArray) 26,
      .put 8 [] (fun _ => ((elC ((gox A)) ++ (elC ((goy A)) ++ [Value.bool A.inf]))).toArray),
      va (.int .i64 0)]
    (fun g9 => [(1, pt (g1.γ 0)), (2, .bool false), (3, pt (g2.γ 6)), (5, .int .i64 (c : Nat)), (6, pt (g5.γ 9)), (8, pt (g6.γ 9)), (10, pt (g7.γ 8)), (14, pt (g9.γ 8))]) (fun g9 => [((g1.γ 0), ([Value.int .i64 (c : Nat)] ++ (elC x0 ++ (elC y0 ++ ([Value.bool false] ++ (elC x1 ++ (elC y1 ++ ([Value.bool i1] ++ (elC x2 ++ (elC y2 ++ ([Value.bool i2] ++ ([Value.slice KA kl kc] ++ [Value.slice MA ml mc]))))))))))), 29), ((g2.γ 6), ([Value.slice ((g2.δ 2).o 0) (wd (prm (2 * c - 1))).length ((g2.δ 2).n 0)] ++ ([Value.int .i64 (if c = 3 then 48 else 32)] ++ ([Value.slice ((g2.δ 2).o 1) (wd (cbN c)).length ((g2.δ 2).n 1)] ++ ([Value.slice none 0 0] ++ ([Value.slice ((g2.δ 2).o 2) (wd (prm (2 * c))).length ((g2.δ 2).n 2)] ++ ([Value.slice ((g2.δ 2).o 3) (wd (gxN c)).length ((g2.δ 2).n 3)] ++ ([Value.slice none 0 0] ++ ([Value.slice ((g2.δ 2).o 4) (wd (gyN c)).length ((g2.δ 2).n 4)] ++ ([Value.slice none 0 0] ++ ([Value.bool false] ++ [Value.bool false])))))))))), 39), ((g5.γ 9), (elC ((gox S)) ++ (elC ((goy S)) ++ [Value.bool S.inf])), 26), ((g6.γ 9), (elC ((gox S)) ++ (elC ((goy S)) ++ [Value.bool S.inf])), 26), ((g7.γ 8), (elC ((gox A)) ++ (elC ((goy A)) ++ [Value.bool A.inf])), 26), ((g8.γ 9), (elC ((gox B)) ++ (elC ((goy B)) ++ [Value.bool B.inf])), 26), ((g9.γ 8), (elC ((gox A)) ++ (elC ((goy A)) ++ [Value.bool A.inf])), 26)]) (fun _ => [fun w => CrA c (g2.δ 2) w])
    hF hI ⟨(fun w w1 hg h => CrA.grow hg rfl h), trivial⟩ (fun g => ⟨pv,
      pv,
      lk 0 1 rfl rfl,
      lk 5 0 rfl rfl,
      cv fun w hI hfa => add_p h1 h3 hP nB eA2,
      pv,
      pv,
      pv,
      nw,
      po (.agg ((elC ((gox A)) ++ (elC ((goy A)) ++ [Value.bool A.inf]))).toArray) ((Z6 ++ (Z6 ++ [Value.bool false]))) rfl,
      pv, trivial⟩) ?_
  intro g9 a9 w9 hF hI
  refine wp_seq ?_
  refine sy [26] #[va (.int .i64 (c : Nat)),
      va (.pointer (some ⟨(g1.γ 0), 1, none⟩)),
      va (.agg ((elC x0 ++ (elC y0 ++ [Value.bool false]))).toArray),
      va (.tuple #[.agg ((elC ((gox N)) ++ (elC ((goy N)) ++ [Value.bool N.inf]))).toArray, .int .i64 0]),
      va (.tuple #[.agg ((elC ((gox N)) ++ (elC ((goy N)) ++ [Value.bool N.inf]))).toArray, .int .i64 0]),
      va (.agg ((elC ((gox N)) ++ (elC ((goy N)) ++ [Value.bool N.inf]))).toArray),
      va (.int .i64 0),
      .new [] (fun _ => ((Z6 ++ (Z6 ++ [Value.bool false]))).toArray) 26,
      .put 7 [] (fun _ => ((elC ((gox N)) ++ (elC ((goy N)) ++ [Value.bool N.inf]))).toArray),
      va (.int .i64 0)]
    (fun g10 => [(1, pt (g1.γ 0)), (2, .bool false), (3, pt (g2.γ 6)), (5, .int .i64 (c : Nat)), (6, pt (g5.γ 9)), (8, pt (g6.γ 9)), (10, pt (g7.γ 8)), (14, pt (g9.γ 8)), (16, pt (g10.γ 7))]) (fun g10 => [((g1.γ 0), ([Value.int .i64 (c : Nat)] ++ (elC x0 ++ (elC y0 ++ ([Value.bool false] ++ (elC x1 ++ (elC y1 ++ ([Value.bool i1] ++ (elC x2 ++ (elC y2 ++ ([Value.bool i2] ++ ([Value.slice KA kl kc] ++ [Value.slice MA ml mc]))))))))))), 29), ((g2.γ 6), ([Value.slice ((g2.δ 2).o 0) (wd (prm (2 * c - 1))).length ((g2.δ 2).n 0)] ++ ([Value.int .i64 (if c = 3 then 48 else 32)] ++ ([Value.slice ((g2.δ 2).o 1) (wd (cbN c)).length ((g2.δ 2).n 1)] ++ ([Value.slice none 0 0] ++ ([Value.slice ((g2.δ 2).o 2) (wd (prm (2 * c))).length ((g2.δ 2).n 2)] ++ ([Value.slice ((g2.δ 2).o 3) (wd (gxN c)).length ((g2.δ 2).n 3)] ++ ([Value.slice none 0 0] ++ ([Value.slice ((g2.δ 2).o 4) (wd (gyN c)).length ((g2.δ 2).n 4)] ++ ([Value.slice none 0 0] ++ ([Value.bool false] ++ [Value.bool false])))))))))), 39), ((g5.γ 9), (elC ((gox S)) ++ (elC ((goy S)) ++ [Value.bool S.inf])), 26), ((g6.γ 9), (elC ((gox S)) ++ (elC ((goy S)) ++ [Value.bool S.inf])), 26), ((g7.γ 8), (elC ((gox A)) ++ (elC ((goy A)) ++ [Value.bool A.inf])), 26), ((g8.γ 9), (elC ((gox B)) ++ (elC ((goy B)) ++ [Value.bool B.inf])), 26), ((g9.γ 8), (elC ((gox A)) ++ (elC ((goy A)) ++ [Value.bool A.inf])), 26), ((g10.γ 7), (elC ((gox N)) ++ (elC ((goy N)) ++ [Value.bool N.inf])), 26)]) (fun _ => [fun w => CrA c (g2.δ 2) w])
    hF hI ⟨(fun w w1 hg h => CrA.grow hg rfl h), trivial⟩ (fun g => ⟨pv,
      pv,
      lk 0 1 rfl rfl,
      cv fun w hI hfa => neg_p h1 h3 hP eN,
      pv,
      pv,
      pv,
      nw,
      po (.agg ((elC ((gox N)) ++ (elC ((goy N)) ++ [Value.bool N.inf]))).toArray) ((Z6 ++ (Z6 ++ [Value.bool false]))) rfl,
      pv, trivial⟩) ?_
  intro g10 a10 w10 hF hI
  refine wp_seq ?_
  refine sy [26] #[va (.int .i64 (c : Nat)),
      va (.pointer (some ⟨(g1.γ 0), 1, none⟩)),
      va (.agg ((elC x0 ++ (elC y0 ++ [Value.bool false]))).toArray),
      va (.agg ((elC ((gox N)) ++ (elC ((goy N)) ++ [Value.bool N.inf]))).toArray),
      va (.tuple #[.agg ((Z6 ++ (Z6 ++ [Value.bool true]))).toArray, .int .i64 0]),
      va (.tuple #[.agg ((Z6 ++ (Z6 ++ [Value.bool true]))).toArray, .int .i64 0]),
      va (.agg ((Z6 ++ (Z6 ++ [Value.bool true]))).toArray),
      va (.int .i64 0),
      .new [] (fun _ => ((Z6 ++ (Z6 ++ [Value.bool false]))).toArray) 26,
      .put 8 [] (fun _ => ((Z6 ++ (Z6 ++ [Value.bool true]))).toArray),
      va (.int .i64 0)]
    (fun g11 => [(1, pt (g1.γ 0)), (2, .bool false), (3, pt (g2.γ 6)), (5, .int .i64 (c : Nat)), (6, pt (g5.γ 9)), (8, pt (g6.γ 9)), (10, pt (g7.γ 8)), (14, pt (g9.γ 8)), (18, pt (g11.γ 8))]) (fun g11 => [((g1.γ 0), ([Value.int .i64 (c : Nat)] ++ (elC x0 ++ (elC y0 ++ ([Value.bool false] ++ (elC x1 ++ (elC y1 ++ ([Value.bool i1] ++ (elC x2 ++ (elC y2 ++ ([Value.bool i2] ++ ([Value.slice KA kl kc] ++ [Value.slice MA ml mc]))))))))))), 29), ((g2.γ 6), ([Value.slice ((g2.δ 2).o 0) (wd (prm (2 * c - 1))).length ((g2.δ 2).n 0)] ++ ([Value.int .i64 (if c = 3 then 48 else 32)] ++ ([Value.slice ((g2.δ 2).o 1) (wd (cbN c)).length ((g2.δ 2).n 1)] ++ ([Value.slice none 0 0] ++ ([Value.slice ((g2.δ 2).o 2) (wd (prm (2 * c))).length ((g2.δ 2).n 2)] ++ ([Value.slice ((g2.δ 2).o 3) (wd (gxN c)).length ((g2.δ 2).n 3)] ++ ([Value.slice none 0 0] ++ ([Value.slice ((g2.δ 2).o 4) (wd (gyN c)).length ((g2.δ 2).n 4)] ++ ([Value.slice none 0 0] ++ ([Value.bool false] ++ [Value.bool false])))))))))), 39), ((g5.γ 9), (elC ((gox S)) ++ (elC ((goy S)) ++ [Value.bool S.inf])), 26), ((g6.γ 9), (elC ((gox S)) ++ (elC ((goy S)) ++ [Value.bool S.inf])), 26), ((g7.γ 8), (elC ((gox A)) ++ (elC ((goy A)) ++ [Value.bool A.inf])), 26), ((g8.γ 9), (elC ((gox B)) ++ (elC ((goy B)) ++ [Value.bool B.inf])), 26), ((g9.γ 8), (elC ((gox A)) ++ (elC ((goy A)) ++ [Value.bool A.inf])), 26), ((g10.γ 7), (elC ((gox N)) ++ (elC ((goy N)) ++ [Value.bool N.inf])), 26), ((g11.γ 8), (Z6 ++ (Z6 ++ [Value.bool true])), 26)]) (fun _ => [fun w => CrA c (g2.δ 2) w])
    hF hI ⟨(fun w w1 hg h => CrA.grow hg rfl h), trivial⟩ (fun g => ⟨pv,
      pv,
      lk 0 1 rfl rfl,
      lk 7 0 rfl rfl,
      cv fun w hI hfa => add_z h1 h3 hP nN eZ,
      pv,
      pv,
      pv,
      nw,
      po (.agg ((Z6 ++ (Z6 ++ [Value.bool true]))).toArray) ((Z6 ++ (Z6 ++ [Value.bool false]))) rfl,
      pv, trivial⟩) ?_
  intro g11 a11 w11 hF hI
  refine wp_seq ?_
  refine sy [26] #[va (.agg ((Z6 ++ (Z6 ++ [Value.bool true]))).toArray),
      .new [] (fun _ => ((Z6 ++ (Z6 ++ [Value.bool false]))).toArray) 26,
      .put 1 [] (fun _ => ((Z6 ++ (Z6 ++ [Value.bool true]))).toArray)]
    (fun g12 => [(1, pt (g1.γ 0)), (2, .bool false), (3, pt (g2.γ 6)), (5, .int .i64 (c : Nat)), (6, pt (g5.γ 9)), (8, pt (g6.γ 9)), (10, pt (g7.γ 8)), (14, pt (g9.γ 8)), (18, pt (g11.γ 8)), (20, pt (g12.γ 1))]) (fun g12 => [((g1.γ 0), ([Value.int .i64 (c : Nat)] ++ (elC x0 ++ (elC y0 ++ ([Value.bool false] ++ (elC x1 ++ (elC y1 ++ ([Value.bool i1] ++ (elC x2 ++ (elC y2 ++ ([Value.bool i2] ++ ([Value.slice KA kl kc] ++ [Value.slice MA ml mc]))))))))))), 29), ((g2.γ 6), ([Value.slice ((g2.δ 2).o 0) (wd (prm (2 * c - 1))).length ((g2.δ 2).n 0)] ++ ([Value.int .i64 (if c = 3 then 48 else 32)] ++ ([Value.slice ((g2.δ 2).o 1) (wd (cbN c)).length ((g2.δ 2).n 1)] ++ ([Value.slice none 0 0] ++ ([Value.slice ((g2.δ 2).o 2) (wd (prm (2 * c))).length ((g2.δ 2).n 2)] ++ ([Value.slice ((g2.δ 2).o 3) (wd (gxN c)).length ((g2.δ 2).n 3)] ++ ([Value.slice none 0 0] ++ ([Value.slice ((g2.δ 2).o 4) (wd (gyN c)).length ((g2.δ 2).n 4)] ++ ([Value.slice none 0 0] ++ ([Value.bool false] ++ [Value.bool false])))))))))), 39), ((g5.γ 9), (elC ((gox S)) ++ (elC ((goy S)) ++ [Value.bool S.inf])), 26), ((g6.γ 9), (elC ((gox S)) ++ (elC ((goy S)) ++ [Value.bool S.inf])), 26), ((g7.γ 8), (elC ((gox A)) ++ (elC ((goy A)) ++ [Value.bool A.inf])), 26), ((g8.γ 9), (elC ((gox B)) ++ (elC ((goy B)) ++ [Value.bool B.inf])), 26), ((g9.γ 8), (elC ((gox A)) ++ (elC ((goy A)) ++ [Value.bool A.inf])), 26), ((g10.γ 7), (elC ((gox N)) ++ (elC ((goy N)) ++ [Value.bool N.inf])), 26), ((g11.γ 8), (Z6 ++ (Z6 ++ [Value.bool true])), 26), ((g12.γ 1), (Z6 ++ (Z6 ++ [Value.bool true])), 26)]) (fun _ => [fun w => CrA c (g2.δ 2) w])
    hF hI ⟨(fun w w1 hg h => CrA.grow hg rfl h), trivial⟩ (fun g => ⟨pv,
      nw,
      po (.agg ((Z6 ++ (Z6 ++ [Value.bool true]))).toArray) ((Z6 ++ (Z6 ++ [Value.bool false]))) rfl, trivial⟩) ?_
  intro g12 a12 w12 hF hI
  refine wp_seq ?_
  refine wp_seq ?_
  refine sy [] #[va (.agg ((elC ((gox S)) ++ (elC ((goy S)) ++ [Value.bool S.inf]))).toArray),
      va (.agg ((elC ((gox S)) ++ (elC ((goy S)) ++ [Value.bool S.inf]))).toArray),
      va (.bool false),
      va (.bool false),
      va (.agg ((elC ((gox A)) ++ (elC ((goy A)) ++ [Value.bool A.inf]))).toArray),
      va (.agg ((elC ((gox A)) ++ (elC ((goy A)) ++ [Value.bool A.inf]))).toArray),
      va (.bool false),
      va (.bool false),
      va (.bool false),
      va (.agg ((Z6 ++ (Z6 ++ [Value.bool true]))).toArray),
      va (.agg ((Z6 ++ (Z6 ++ [Value.bool true]))).toArray),
      va (.bool false),
      va (.bool false),
      va (.bool false),
      va (.int .i64 (c : Nat)),
      va (.agg ((elC ((gox S)) ++ (elC ((goy S)) ++ [Value.bool S.inf]))).toArray),
      va (.bool true),
      va (.bool false),
      va (.bool false)]
    (fun g13 => [(1, pt (g1.γ 0)), (2, .bool false), (3, pt (g2.γ 6)), (5, .int .i64 (c : Nat)), (20, pt (g12.γ 1)), (147, .bool false)]) (fun _ => [((g1.γ 0), ([Value.int .i64 (c : Nat)] ++ (elC x0 ++ (elC y0 ++ ([Value.bool false] ++ (elC x1 ++ (elC y1 ++ ([Value.bool i1] ++ (elC x2 ++ (elC y2 ++ ([Value.bool i2] ++ ([Value.slice KA kl kc] ++ [Value.slice MA ml mc]))))))))))), 29), ((g2.γ 6), ([Value.slice ((g2.δ 2).o 0) (wd (prm (2 * c - 1))).length ((g2.δ 2).n 0)] ++ ([Value.int .i64 (if c = 3 then 48 else 32)] ++ ([Value.slice ((g2.δ 2).o 1) (wd (cbN c)).length ((g2.δ 2).n 1)] ++ ([Value.slice none 0 0] ++ ([Value.slice ((g2.δ 2).o 2) (wd (prm (2 * c))).length ((g2.δ 2).n 2)] ++ ([Value.slice ((g2.δ 2).o 3) (wd (gxN c)).length ((g2.δ 2).n 3)] ++ ([Value.slice none 0 0] ++ ([Value.slice ((g2.δ 2).o 4) (wd (gyN c)).length ((g2.δ 2).n 4)] ++ ([Value.slice none 0 0] ++ ([Value.bool false] ++ [Value.bool false])))))))))), 39), ((g5.γ 9), (elC ((gox S)) ++ (elC ((goy S)) ++ [Value.bool S.inf])), 26), ((g6.γ 9), (elC ((gox S)) ++ (elC ((goy S)) ++ [Value.bool S.inf])), 26), ((g7.γ 8), (elC ((gox A)) ++ (elC ((goy A)) ++ [Value.bool A.inf])), 26), ((g8.γ 9), (elC ((gox B)) ++ (elC ((goy B)) ++ [Value.bool B.inf])), 26), ((g9.γ 8), (elC ((gox A)) ++ (elC ((goy A)) ++ [Value.bool A.inf])), 26), ((g10.γ 7), (elC ((gox N)) ++ (elC ((goy N)) ++ [Value.bool N.inf])), 26), ((g11.γ 8), (Z6 ++ (Z6 ++ [Value.bool true])), 26), ((g12.γ 1), (Z6 ++ (Z6 ++ [Value.bool true])), 26)]) (fun _ => [fun w => CrA c (g2.δ 2) w])
    hF hI ⟨(fun w w1 hg h => CrA.grow hg rfl h), trivial⟩ (fun g => ⟨lk 2 0 rfl rfl,
      lk 3 0 rfl rfl,
      ov fun w hI hfa => pureU (eqPt ((gox S)) ((goy S)) S.inf false rfl (by kernel_rfl) (by kernel_rfl)),
      pv,
      lk 4 0 rfl rfl,
      lk 6 0 rfl rfl,
      ov fun w hI hfa => pureU (eqPt ((gox A)) ((goy A)) A.inf false rfl (by kernel_rfl) (by kernel_rfl)),
      pv,
      pv,
      lk 8 0 rfl rfl,
      lk 9 0 rfl rfl,
      ov fun w hI hfa => pureU (eqPt 0 0 true false rfl (by kernel_rfl) (by kernel_rfl)),
      pv,
      pv,
      pv,
      lk 2 0 rfl rfl,
      cv fun w hI hfa => on_p h1 h3 nS,
      pv,
      pv, trivial⟩) ?_
  intro g13 a13 w13 hF hI
  refine wp_cond_false (hF.eval rfl) ?_
  refine wp_skip ?_
  refine wp_seq ?_
  refine sy [26] #[va (.int .i64 (c : Nat)),
      va (.pointer (some ⟨(g1.γ 0), 1, none⟩)),
      va (.agg ((elC x0 ++ (elC y0 ++ [Value.bool false]))).toArray),
      va (.pointer (some ⟨(g1.γ 0), 40, none⟩)),
      va (.slice KA kl kc),
      .ex [] (fun d => .slice (d.o 0) kt.length (d.n 0)) (fun _ d => fun w => BA kt (d.o 0) (d.n 0) w),
      va (.tuple #[.agg ((elC ((gox K1)) ++ (elC ((goy K1)) ++ [Value.bool K1.inf]))).toArray, .int .i64 0]),
      va (.tuple #[.agg ((elC ((gox K1)) ++ (elC ((goy K1)) ++ [Value.bool K1.inf]))).toArray, .int .i64 0]),
      va (.agg ((elC ((gox K1)) ++ (elC ((goy K1)) ++ [Value.bool K1.inf]))).toArray),
      va (.int .i64 0),
      .new [] (fun _ => ((Z6 ++ (Z6 ++ [Value.bool false]))).toArray) 26,
      .put 10 [] (fun _ => ((elC ((gox K1)) ++ (elC ((goy K1)) ++ [Value.bool K1.inf]))).toArray),
      va (.int .i64 0)]
    (fun g14 => [(1, pt (g1.γ 0)), (2, .bool false), (3, pt (g2.γ 6)), (5, .int .i64 (c : Nat)), (20, pt (g12.γ 1)), (21, pt (g14.γ 10))]) (fun g14 => [((g1.γ 0), ([Value.int .i64 (c : Nat)] ++ (elC x0 ++ (elC y0 ++ ([Value.bool false] ++ (elC x1 ++ (elC y1 ++ ([Value.bool i1] ++ (elC x2 ++ (elC y2 ++ ([Value.bool i2] ++ ([Value.slice KA kl kc] ++ [Value.slice MA ml mc]))))))))))), 29), ((g2.γ 6), ([Value.slice ((g2.δ 2).o 0) (wd (prm (2 * c - 1))).length ((g2.δ 2).n 0)] ++ ([Value.int .i64 (if c = 3 then 48 else 32)] ++ ([Value.slice ((g2.δ 2).o 1) (wd (cbN c)).length ((g2.δ 2).n 1)] ++ ([Value.slice none 0 0] ++ ([Value.slice ((g2.δ 2).o 2) (wd (prm (2 * c))).length ((g2.δ 2).n 2)] ++ ([Value.slice ((g2.δ 2).o 3) (wd (gxN c)).length ((g2.δ 2).n 3)] ++ ([Value.slice none 0 0] ++ ([Value.slice ((g2.δ 2).o 4) (wd (gyN c)).length ((g2.δ 2).n 4)] ++ ([Value.slice none 0 0] ++ ([Value.bool false] ++ [Value.bool false])))))))))), 39), ((g5.γ 9), (elC ((gox S)) ++ (elC ((goy S)) ++ [Value.bool S.inf])), 26), ((g6.γ 9), (elC ((gox S)) ++ (elC ((goy S)) ++ [Value.bool S.inf])), 26), ((g7.γ 8), (elC ((gox A)) ++ (elC ((goy A)) ++ [Value.bool A.inf])), 26), ((g8.γ 9), (elC ((gox B)) ++ (elC ((goy B)) ++ [Value.bool B.inf])), 26), ((g9.γ 8), (elC ((gox A)) ++ (elC ((goy A)) ++ [Value.bool A.inf])), 26), ((g10.γ 7), (elC ((gox N)) ++ (elC ((goy N)) ++ [Value.bool N.inf])), 26), ((g11.γ 8), (Z6 ++ (Z6 ++ [Value.bool true])), 26), ((g12.γ 1), (Z6 ++ (Z6 ++ [Value.bool true])), 26), ((g14.γ 10), (elC ((gox K1)) ++ (elC ((goy K1)) ++ [Value.bool K1.inf])), 26)]) (fun g14 => [fun w => CrA c (g2.δ 2) w, fun w => BA kt ((g14.δ 5).o 0) ((g14.δ 5).n 0) w])
    hF hI ⟨(fun w w1 hg h => CrA.grow hg rfl h), trivial⟩ (fun g => ⟨pv,
      pv,
      lk 0 1 rfl rfl,
      pv,
      lk1 0 40 rfl rfl,
      cx (fun l d w w1 hg h => BA.grow hg rfl h) fun w hI hfa => few_n (hkr.below hI.below),
      cv fun w hI hfa => mul_p h1 h3 (hfa 5 _ _ _ (by kernel_rfl) rfl) hP eK,
      pv,
      pv,
      pv,
      nw,
      po (.agg ((elC ((gox K1)) ++ (elC ((goy K1)) ++ [Value.bool K1.inf]))).toArray) ((Z6 ++ (Z6 ++ [Value.bool false]))) rfl,
      pv, trivial⟩) ?_
  intro g14 a14 w14 hF hI
  refine wp_seq ?_
  refine sy [26] #[va (.int .i64 (c : Nat)),
      va (.pointer (some ⟨(g1.γ 0), 1, none⟩)),
      va (.agg ((elC x0 ++ (elC y0 ++ [Value.bool false]))).toArray),
      va (.pointer (some ⟨(g1.γ 0), 41, none⟩)),
      va (.slice MA ml mc),
      .ex [] (fun d => .slice (d.o 0) mt.length (d.n 0)) (fun _ d => fun w => BA mt (d.o 0) (d.n 0) w),
      va (.tuple #[.agg ((elC ((gox M1)) ++ (elC ((goy M1)) ++ [Value.bool M1.inf]))).toArray, .int .i64 0]),
      va (.tuple #[.agg ((elC ((gox M1)) ++ (elC ((goy M1)) ++ [Value.bool M1.inf]))).toArray, .int .i64 0]),
      va (.agg ((elC ((gox M1)) ++ (elC ((goy M1)) ++ [Value.bool M1.inf]))).toArray),
      va (.int .i64 0),
      .new [] (fun _ => ((Z6 ++ (Z6 ++ [Value.bool false]))).toArray) 26,
      .put 10 [] (fun _ => ((elC ((gox M1)) ++ (elC ((goy M1)) ++ [Value.bool M1.inf]))).toArray),
      va (.int .i64 0)]
    (fun g15 => [(1, pt (g1.γ 0)), (2, .bool false), (3, pt (g2.γ 6)), (5, .int .i64 (c : Nat)), (20, pt (g12.γ 1)), (21, pt (g14.γ 10)), (23, pt (g15.γ 10))]) (fun g15 => [((g1.γ 0), ([Value.int .i64 (c : Nat)] ++ (elC x0 ++ (elC y0 ++ ([Value.bool false] ++ (elC x1 ++ (elC y1 ++ ([Value.bool i1] ++ (elC x2 ++ (elC y2 ++ ([Value.bool i2] ++ ([Value.slice KA kl kc] ++ [Value.slice MA ml mc]))))))))))), 29), ((g2.γ 6), ([Value.slice ((g2.δ 2).o 0) (wd (prm (2 * c - 1))).length ((g2.δ 2).n 0)] ++ ([Value.int .i64 (if c = 3 then 48 else 32)] ++ ([Value.slice ((g2.δ 2).o 1) (wd (cbN c)).length ((g2.δ 2).n 1)] ++ ([Value.slice none 0 0] ++ ([Value.slice ((g2.δ 2).o 2) (wd (prm (2 * c))).length ((g2.δ 2).n 2)] ++ ([Value.slice ((g2.δ 2).o 3) (wd (gxN c)).length ((g2.δ 2).n 3)] ++ ([Value.slice none 0 0] ++ ([Value.slice ((g2.δ 2).o 4) (wd (gyN c)).length ((g2.δ 2).n 4)] ++ ([Value.slice none 0 0] ++ ([Value.bool false] ++ [Value.bool false])))))))))), 39), ((g5.γ 9), (elC ((gox S)) ++ (elC ((goy S)) ++ [Value.bool S.inf])), 26), ((g6.γ 9), (elC ((gox S)) ++ (elC ((goy S)) ++ [Value.bool S.inf])), 26), ((g7.γ 8), (elC ((gox A)) ++ (elC ((goy A)) ++ [Value.bool A.inf])), 26), ((g8.γ 9), (elC ((gox B)) ++ (elC ((goy B)) ++ [Value.bool B.inf])), 26), ((g9.γ 8), (elC ((gox A)) ++ (elC ((goy A)) ++ [Value.bool A.inf])), 26), ((g10.γ 7), (elC ((gox N)) ++ (elC ((goy N)) ++ [Value.bool N.inf])), 26), ((g11.γ 8), (Z6 ++ (Z6 ++ [Value.bool true])), 26), ((g12.γ 1), (Z6 ++ (Z6 ++ [Value.bool true])), 26), ((g14.γ 10), (elC ((gox K1)) ++ (elC ((goy K1)) ++ [Value.bool K1.inf])), 26), ((g15.γ 10), (elC ((gox M1)) ++ (elC ((goy M1)) ++ [Value.bool M1.inf])), 26)]) (fun g15 => [fun w => CrA c (g2.δ 2) w, fun w => BA kt ((g14.δ 5).o 0) ((g14.δ 5).n 0) w, fun w => BA mt ((g15.δ 5).o 0) ((g15.δ 5).n 0) w])
    hF hI ⟨(fun w w1 hg h => CrA.grow hg rfl h), (fun w w1 hg h => BA.grow hg rfl h), trivial⟩ (fun g => ⟨pv,
      pv,
      lk 0 1 rfl rfl,
      pv,
      lk1 0 41 rfl rfl,
      cx (fun l d w w1 hg h => BA.grow hg rfl h) fun w hI hfa => few_n (hmr.below hI.below),
      cv fun w hI hfa => mul_p h1 h3 (hfa 5 _ _ _ (by kernel_rfl) rfl) hP eM,
      pv,
      pv,
      pv,
      nw,
      po (.agg ((elC ((gox M1)) ++ (elC ((goy M1)) ++ [Value.bool M1.inf]))).toArray) ((Z6 ++ (Z6 ++ [Value.bool false]))) rfl,
      pv, trivial⟩) ?_
  intro g15 a15 w15 hF hI
  refine wp_seq ?_
  refine sy [26] #[va (.int .i64 (c : Nat)),
      va (.agg ((elC ((gox K1)) ++ (elC ((goy K1)) ++ [Value.bool K1.inf]))).toArray),
      va (.agg ((elC ((gox M1)) ++ (elC ((goy M1)) ++ [Value.bool M1.inf]))).toArray),
      va (.tuple #[.agg ((elC ((gox U)) ++ (elC ((goy U)) ++ [Value.bool U.inf]))).toArray, .int .i64 0]),
      va (.tuple #[.agg ((elC ((gox U)) ++ (elC ((goy U)) ++ [Value.bool U.inf]))).toArray, .int .i64 0]),
      va (.agg ((elC ((gox U)) ++ (elC ((goy U)) ++ [Value.bool U.inf]))).toArray),
      va (.int .i64 0),
      .new [] (fun _ => ((Z6 ++ (Z6 ++ [Value.bool false]))).toArray) 26,
      .put 7 [] (fun _ => ((elC ((gox U)) ++ (elC ((goy U)) ++ [Value.bool U.inf]))).toArray),
      va (.int .i64 0)]
    (fun g16 => [(1, pt (g1.γ 0)), (2, .bool false), (3, pt (g2.γ 6)), (5, .int .i64 (c : Nat)), (20, pt (g12.γ 1)), (25, pt (g16.γ 7))]) (fun g16 => [((g1.γ 0), ([Value.int .i64 (c : Nat)] ++ (elC x0 ++ (elC y0 ++ ([Value.bool false] ++ (elC x1 ++ (elC y1 ++ ([Value.bool i1] ++ (elC x2 ++ (elC y2 ++ ([Value.bool i2] ++ ([Value.slice KA kl kc] ++ [Value.slice MA ml mc]))))))))))), 29), ((g2.γ 6), ([Value.slice ((g2.δ 2).o 0) (wd (prm (2 * c - 1))).length ((g2.δ 2).n 0)] ++ ([Value.int .i64 (if c = 3 then 48 else 32)] ++ ([Value.slice ((g2.δ 2).o 1) (wd (cbN c)).length ((g2.δ 2).n 1)] ++ ([Value.slice none 0 0] ++ ([Value.slice ((g2.δ 2).o 2) (wd (prm (2 * c))).length ((g2.δ 2).n 2)] ++ ([Value.slice ((g2.δ 2).o 3) (wd (gxN c)).length ((g2.δ 2).n 3)] ++ ([Value.slice none 0 0] ++ ([Value.slice ((g2.δ 2).o 4) (wd (gyN c)).length ((g2.δ 2).n 4)] ++ ([Value.slice none 0 0] ++ ([Value.bool false] ++ [Value.bool false])))))))))), 39), ((g5.γ 9), (elC ((gox S)) ++ (elC ((goy S)) ++ [Value.bool S.inf])), 26), ((g6.γ 9), (elC ((gox S)) ++ (elC ((goy S)) ++ [Value.bool S.inf])), 26), ((g7.γ 8), (elC ((gox A)) ++ (elC ((goy A)) ++ [Value.bool A.inf])), 26), ((g8.γ 9), (elC ((gox B)) ++ (elC ((goy B)) ++ [Value.bool B.inf])), 26), ((g9.γ 8), (elC ((gox A)) ++ (elC ((goy A)) ++ [Value.bool A.inf])), 26), ((g10.γ 7), (elC ((gox N)) ++ (elC ((goy N)) ++ [Value.bool N.inf])), 26), ((g11.γ 8), (Z6 ++ (Z6 ++ [Value.bool true])), 26), ((g12.γ 1), (Z6 ++ (Z6 ++ [Value.bool true])), 26), ((g14.γ 10), (elC ((gox K1)) ++ (elC ((goy K1)) ++ [Value.bool K1.inf])), 26), ((g15.γ 10), (elC ((gox M1)) ++ (elC ((goy M1)) ++ [Value.bool M1.inf])), 26), ((g16.γ 7), (elC ((gox U)) ++ (elC ((goy U)) ++ [Value.bool U.inf])), 26)]) (fun _ => [fun w => CrA c (g2.δ 2) w, fun w => BA kt ((g14.δ 5).o 0) ((g14.δ 5).n 0) w, fun w => BA mt ((g15.δ 5).o 0) ((g15.δ 5).n 0) w])
    hF hI ⟨(fun w w1 hg h => CrA.grow hg rfl h), (fun w w1 hg h => BA.grow hg rfl h), (fun w w1 hg h => BA.grow hg rfl h), trivial⟩ (fun g => ⟨pv,
      lk 10 0 rfl rfl,
      lk 11 0 rfl rfl,
      cv fun w hI hfa => add_p h1 h3 nK1 nM1 eU,
      pv,
      pv,
      pv,
      nw,
      po (.agg ((elC ((gox U)) ++ (elC ((goy U)) ++ [Value.bool U.inf]))).toArray) ((Z6 ++ (Z6 ++ [Value.bool false]))) rfl,
      pv, trivial⟩) ?_
  intro g16 a16 w16 hF hI
  refine wp_seq ?_
  refine sy [26] #[va (.int .i64 (c : Nat)),
      va (.pointer (some ⟨(g1.γ 0), 1, none⟩)),
      va (.agg ((elC x0 ++ (elC y0 ++ [Value.bool false]))).toArray),
      va (.pointer (some ⟨(g1.γ 0), 40, none⟩)),
      va (.slice KA kl kc),
      .ex [] (fun d => .slice (d.o 0) kt.length (d.n 0)) (fun _ d => fun w => BA kt (d.o 0) (d.n 0) w),
      .ex [] (fun d => .slice (d.o 0) (wd (ofBE kt)).length (d.n 0)) (fun _ d => fun w => NA (ofBE kt) (d.o 0) (d.n 0) w),
      va (.pointer (some ⟨(g1.γ 0), 41, none⟩)),
      va (.slice MA ml mc),
      .ex [] (fun d => .slice (d.o 0) mt.length (d.n 0)) (fun _ d => fun w => BA mt (d.o 0) (d.n 0) w),
      .ex [] (fun d => .slice (d.o 0) (wd (ofBE mt)).length (d.n 0)) (fun _ d => fun w => NA (ofBE mt) (d.o 0) (d.n 0) w),
      .ex [] (fun d => .slice (d.o 0) (wd (ofBE kt + ofBE mt)).length (d.n 0)) (fun _ d => fun w => NA (ofBE kt + ofBE mt) (d.o 0) (d.n 0) w),
      .ex [] (fun d => .slice (d.o 0) (beb (ofBE kt + ofBE mt)).length (d.n 0)) (fun _ d => fun w => BA (beb (ofBE kt + ofBE mt)) (d.o 0) (d.n 0) w),
      va (.tuple #[.agg ((elC ((gox U)) ++ (elC ((goy U)) ++ [Value.bool U.inf]))).toArray, .int .i64 0]),
      va (.tuple #[.agg ((elC ((gox U)) ++ (elC ((goy U)) ++ [Value.bool U.inf]))).toArray, .int .i64 0]),
      va (.agg ((elC ((gox U)) ++ (elC ((goy U)) ++ [Value.bool U.inf]))).toArray),
      va (.int .i64 0),
      .new [] (fun _ => ((Z6 ++ (Z6 ++ [Value.bool false]))).toArray) 26,
      .put 17 [] (fun _ => ((elC ((gox U)) ++ (elC ((goy U)) ++ [Value.bool U.inf]))).toArray),
      va (.int .i64 0)]
    (fun g17 => [(1, pt (g1.γ 0)), (2, .bool false), (3, pt (g2.γ 6)), (5, .int .i64 (c : Nat)), (20, pt (g12.γ 1)), (25, pt (g16.γ 7)), (27, pt (g17.γ 17))]) (fun g17 => [((g1.γ 0), ([Value.int .i64 (c : Nat)] ++ (elC x0 ++ (elC y0 ++ ([Value.bool false] ++ (elC x1 ++ (elC y1 ++ ([Value.bool i1] ++ (elC x2 ++ (elC y2 ++ ([Value.bool i2] ++ ([Value.slice KA kl kc] ++ [Value.slice MA ml mc]))))))))))), 29), ((g2.γ 6), ([Value.slice ((g2.δ 2).o 0) (wd (prm (2 * c - 1))).length ((g2.δ 2).n 0)] ++ ([Value.int .i64 (if c = 3 then 48 else 32)] ++ ([Value.slice ((g2.δ 2).o 1) (wd (cbN c)).length ((g2.δ 2).n 1)] ++ ([Value.slice none 0 0] ++ ([Value.slice ((g2.δ 2).o 2) (wd (prm (2 * c))).length ((g2.δ 2).n 2)] ++ ([Value.slice ((g2.δ 2).o 3) (wd (gxN c)).length ((g2.δ 2).n 3)] ++ ([Value.slice none 0 0] ++ ([Value.slice ((g2.δ 2).o 4) (wd (gyN c)).length ((g2.δ 2).n 4)] ++ ([Value.slice none 0 0] ++ ([Value.bool false] ++ [Value.bool false])))))))))), 39), ((g5.γ 9), (elC ((gox S)) ++ (elC ((goy S)) ++ [Value.bool S.inf])), 26), ((g6.γ 9), (elC ((gox S)) ++ (elC ((goy S)) ++ [Value.bool S.inf])), 26), ((g7.γ 8), (elC ((gox A)) ++ (elC ((goy A)) ++ [Value.bool A.inf])), 26), ((g8.γ 9), (elC ((gox B)) ++ (elC ((goy B)) ++ [Value.bool B.inf])), 26), ((g9.γ 8), (elC ((gox A)) ++ (elC ((goy A)) ++ [Value.bool A.inf])), 26), ((g10.γ 7), (elC ((gox N)) ++ (elC ((goy N)) ++ [Value.bool N.inf])), 26), ((g11.γ 8), (Z6 ++ (Z6 ++ [Value.bool true])), 26), ((g12.γ 1), (Z6 ++ (Z6 ++ [Value.bool true])), 26), ((g14.γ 10), (elC ((gox K1)) ++ (elC ((goy K1)) ++ [Value.bool K1.inf])), 26), ((g15.γ 10), (elC ((gox M1)) ++ (elC ((goy M1)) ++ [Value.bool M1.inf])), 26), ((g16.γ 7), (elC ((gox U)) ++ (elC ((goy U)) ++ [Value.bool U.inf])), 26), ((g17.γ 17), (elC ((gox U)) ++ (elC ((goy U)) ++ [Value.bool U.inf])), 26)]) (fun g17 => [fun w => CrA c (g2.δ 2) w, fun w => BA kt ((g14.δ 5).o 0) ((g14.δ 5).n 0) w, fun w => BA mt ((g15.δ 5).o 0) ((g15.δ 5).n 0) w, fun w => BA kt ((g17.δ 5).o 0) ((g17.δ 5).n 0) w, fun w => NA (ofBE kt) ((g17.δ 6).o 0) ((g17.δ 6).n 0) w, fun w => BA mt ((g17.δ 9).o 0) ((g17.δ 9).n 0) w, fun w => NA (ofBE mt) ((g17.δ 10).o 0) ((g17.δ 10).n 0) w, fun w => NA (ofBE kt + ofBE mt) ((g17.δ 11).o 0) ((g17.δ 11).n 0) w, fun w => BA (beb (ofBE kt + ofBE mt)) ((g17.δ 12).o 0) ((g17.δ 12).n 0) w])
    hF hI ⟨(fun w w1 hg h => CrA.grow hg rfl h), (fun w w1 hg h => BA.grow hg rfl h), (fun w w1 hg h => BA.grow hg rfl h), trivial⟩ (fun g => ⟨pv,
      pv,
      lk 0 1 rfl rfl,
      pv,
      lk1 0 40 rfl rfl,
      cx (fun l d w w1 hg h => BA.grow hg rfl h) fun w hI hfa => few_n (hkr.below hI.below),
      cx (fun l d w w1 hg h => NA.grow hg rfl h) fun w hI hfa => from_n (c := ((g.δ 5).n 0)) (hfa 5 _ _ _ (by kernel_rfl) rfl).2.1 (hfa 5 _ _ _ (by kernel_rfl) rfl).2.2.2,
      pv,
      lk1 0 41 rfl rfl,
      cx (fun l d w w1 hg h => BA.grow hg rfl h) fun w hI hfa => few_n (hmr.below hI.below),
      cx (fun l d w w1 hg h => NA.grow hg rfl h) fun w hI hfa => from_n (c := ((g.δ 9).n 0)) (hfa 9 _ _ _ (by kernel_rfl) rfl).2.1 (hfa 9 _ _ _ (by kernel_rfl) rfl).2.2.2,
      cx (fun l d w w1 hg h => NA.grow hg rfl h) fun w hI hfa => add_n hK hM (hfa 6 _ _ _ (by kernel_rfl) rfl) (hfa 10 _ _ _ (by kernel_rfl) rfl),
      cx (fun l d w w1 hg h => BA.grow hg rfl h) fun w hI hfa => bytes_n hKM (hfa 11 _ _ _ (by kernel_rfl) rfl),
      cv fun w hI hfa => mul_p h1 h3 (hfa 12 _ _ _ (by kernel_rfl) rfl) hP eU2,
      pv,
      pv,
      pv,
      nw,
      po (.agg ((elC ((gox U)) ++ (elC ((goy U)) ++ [Value.bool U.inf]))).toArray) ((Z6 ++ (Z6 ++ [Value.bool false]))) rfl,
      pv, trivial⟩) ?_
  intro g17 a17 w17 hF hI
  refine wp_seq ?_
  refine sy [26] #[va (.int .i64 (c : Nat)),
      va (.tuple #[.agg ((elC ((gxN c)) ++ (elC ((gyN c)) ++ [Value.bool false]))).toArray, .int .i64 0]),
      va (.tuple #[.agg ((elC ((gxN c)) ++ (elC ((gyN c)) ++ [Value.bool false]))).toArray, .int .i64 0]),
      va (.agg ((elC ((gxN c)) ++ (elC ((gyN c)) ++ [Value.bool false]))).toArray),
      va (.int .i64 0),
      .new [] (fun _ => ((Z6 ++ (Z6 ++ [Value.bool false]))).toArray) 26,
      .put 5 [] (fun _ => ((elC ((gxN c)) ++ (elC ((gyN c)) ++ [Value.bool false]))).toArray),
      va (.int .i64 0)]
    (fun g18 => [(1, pt (g1.γ 0)), (2, .bool false), (3, pt (g2.γ 6)), (5, .int .i64 (c : Nat)), (20, pt (g12.γ 1)), (25, pt (g16.γ 7)), (27, pt (g17.γ 17)), (29, pt (g18.γ 5))]) (fun g18 => [((g1.γ 0), ([Value.int .i64 (c : Nat)] ++ (elC x0 ++ (elC y0 ++ ([Value.bool false] ++ (elC x1 ++ (elC y1 ++ ([Value.bool i1] ++ (elC x2 ++ (elC y2 ++ ([Value.bool i2] ++ ([Value.slice KA kl kc] ++ [Value.slice MA ml mc]))))))))))), 29), ((g2.γ 6), ([Value.slice ((g2.δ 2).o 0) (wd (prm (2 * c - 1))).length ((g2.δ 2).n 0)] ++ ([Value.int .i64 (if c = 3 then 48 else 32)] ++ ([Value.slice ((g2.δ 2).o 1) (wd (cbN c)).length ((g2.δ 2).n 1)] ++ ([Value.slice none 0 0] ++ ([Value.slice ((g2.δ 2).o 2) (wd (prm (2 * c))).length ((g2.δ 2).n 2)] ++ ([Value.slice ((g2.δ 2).o 3) (wd (gxN c)).length ((g2.δ 2).n 3)] ++ ([Value.slice none 0 0] ++ ([Value.slice ((g2.δ 2).o 4) (wd (gyN c)).length ((g2.δ 2).n 4)] ++ ([Value.slice none 0 0] ++ ([Value.bool false] ++ [Value.bool false])))))))))), 39), ((g5.γ 9), (elC ((gox S)) ++ (elC ((goy S)) ++ [Value.bool S.inf])), 26), ((g6.γ 9), (elC ((gox S)) ++ (elC ((goy S)) ++ [Value.bool S.inf])), 26), ((g7.γ 8), (elC ((gox A)) ++ (elC ((goy A)) ++ [Value.bool A.inf])), 26), ((g8.γ 9), (elC ((gox B)) ++ (elC ((goy B)) ++ [Value.bool B.inf])), 26), ((g9.γ 8), (elC ((gox A)) ++ (elC ((goy A)) ++ [Value.bool A.inf])), 26), ((g10.γ 7), (elC ((gox N)) ++ (elC ((goy N)) ++ [Value.bool N.inf])), 26), ((g11.γ 8), (Z6 ++ (Z6 ++ [Value.bool true])), 26), ((g12.γ 1), (Z6 ++ (Z6 ++ [Value.bool true])), 26), ((g14.γ 10), (elC ((gox K1)) ++ (elC ((goy K1)) ++ [Value.bool K1.inf])), 26), ((g15.γ 10), (elC ((gox M1)) ++ (elC ((goy M1)) ++ [Value.bool M1.inf])), 26), ((g16.γ 7), (elC ((gox U)) ++ (elC ((goy U)) ++ [Value.bool U.inf])), 26), ((g17.γ 17), (elC ((gox U)) ++ (elC ((goy U)) ++ [Value.bool U.inf])), 26), ((g18.γ 5), (elC ((gxN c)) ++ (elC ((gyN c)) ++ [Value.bool false])), 26)]) (fun _ => [fun w => CrA c (g2.δ 2) w, fun w => BA kt ((g14.δ 5).o 0) ((g14.δ 5).n 0) w, fun w => BA mt ((g15.δ 5).o 0) ((g15.δ 5).n 0) w, fun w => BA kt ((g17.δ 5).o 0) ((g17.δ 5).n 0) w, fun w => NA (ofBE kt) ((g17.δ 6).o 0) ((g17.δ 6).n 0) w, fun w => BA mt ((g17.δ 9).o 0) ((g17.δ 9).n 0) w, fun w => NA (ofBE mt) ((g17.δ 10).o 0) ((g17.δ 10).n 0) w, fun w => NA (ofBE kt + ofBE mt) ((g17.δ 11).o 0) ((g17.δ 11).n 0) w, fun w => BA (beb (ofBE kt + ofBE mt)) ((g17.δ 12).o 0) ((g17.δ 12).n 0) w])
    hF hI ⟨(fun w w1 hg h => CrA.grow hg rfl h), (fun w w1 hg h => BA.grow hg rfl h), (fun w w1 hg h => BA.grow hg rfl h), (fun w w1 hg h => BA.grow hg rfl h), (fun w w1 hg h => NA.grow hg rfl h), (fun w w1 hg h => BA.grow hg rfl h), (fun w w1 hg h => NA.grow hg rfl h), (fun w w1 hg h => NA.grow hg rfl h), (fun w w1 hg h => BA.grow hg rfl h), trivial⟩ (fun g => ⟨pv,
      cv fun w hI hfa => gen1_ok h1 h3,
      pv,
      pv,
      pv,
      nw,
      po (.agg ((elC ((gxN c)) ++ (elC ((gyN c)) ++ [Value.bool false]))).toArray) ((Z6 ++ (Z6 ++ [Value.bool false]))) rfl,
      pv, trivial⟩) ?_
  intro g18 a18 w18 hF hI
  refine wp_seq ?_
  refine sy [26] #[va (.int .i64 (c : Nat)),
      va (.agg ((elC ((gxN c)) ++ (elC ((gyN c)) ++ [Value.bool false]))).toArray),
      va (.pointer (some ⟨(g2.γ 6), 4, none⟩)),
      va (.slice ((g2.δ 2).o 2) (wd (prm (2 * c))).length ((g2.δ 2).n 2)),
      .ex [] (fun d => .slice (d.o 0) (beb (prm (2 * c))).length (d.n 0)) (fun _ d => fun w => BA (beb (prm (2 * c))) (d.o 0) (d.n 0) w),
      va (.tuple #[.agg ((Z6 ++ (Z6 ++ [Value.bool true]))).toArray, .int .i64 0]),
      va (.tuple #[.agg ((Z6 ++ (Z6 ++ [Value.bool true]))).toArray, .int .i64 0]),
      va (.agg ((Z6 ++ (Z6 ++ [Value.bool true]))).toArray),
      va (.int .i64 0),
      .new [] (fun _ => ((Z6 ++ (Z6 ++ [Value.bool false]))).toArray) 26,
      .put 9 [] (fun _ => ((Z6 ++ (Z6 ++ [Value.bool true]))).toArray),
      va (.int .i64 0)]
    (fun g19 => [(1, pt (g1.γ 0)), (2, .bool false), (5, .int .i64 (c : Nat)), (20, pt (g12.γ 1)), (25, pt (g16.γ 7)), (27, pt (g17.γ 17)), (29, pt (g18.γ 5)), (31, pt (g19.γ 9))]) (fun g19 => [((g1.γ 0), ([Value.int .i64 (c : Nat)] ++ (elC x0 ++ (elC y0 ++ ([Value.bool false] ++ (elC x1 ++ (elC y1 ++ ([Value.bool i1] ++ (elC x2 ++ (elC y2 ++ ([Value.bool i2] ++ ([Value.slice KA kl kc] ++ [Value.slice MA ml mc]))))))))))), 29), ((g2.γ 6), ([Value.slice ((g2.δ 2).o 0) (wd (prm (2 * c - 1))).length ((g2.δ 2).n 0)] ++ ([Value.int .i64 (if c = 3 then 48 else 32)] ++ ([Value.slice ((g2.δ 2).o 1) (wd (cbN c)).length ((g2.δ 2).n 1)] ++ ([Value.slice none 0 0] ++ ([Value.slice ((g2.δ 2).o 2) (wd (prm (2 * c))).length ((g2.δ 2).n 2)] ++ ([Value.slice ((g2.δ 2).o 3) (wd (gxN c)).length ((g2.δ 2).n 3)] ++ ([Value.slice none 0 0] ++ ([Value.slice ((g2.δ 2).o 4) (wd (gyN c)).length ((g2.δ 2).n 4)] ++ ([Value.slice none 0 0] ++ ([Value.bool false] ++ [Value.bool false])))))))))), 39), ((g5.γ 9), (elC ((gox S)) ++ (elC ((goy S)) ++ [Value.bool S.inf])), 26), ((g6.γ 9), (elC ((gox S)) ++ (elC ((goy S)) ++ [Value.bool S.inf])), 26), ((g7.γ 8), (elC ((gox A)) ++ (elC ((goy A)) ++ [Value.bool A.inf])), 26), ((g8.γ 9), (elC ((gox B)) ++ (elC ((goy B)) ++ [Value.bool B.inf])), 26), ((g9.γ 8), (elC ((gox A)) ++ (elC ((goy A)) ++ [Value.bool A.inf])), 26), ((g10.γ 7), (elC ((gox N)) ++ (elC ((goy N)) ++ [Value.bool N.inf])), 26), ((g11.γ 8), (Z6 ++ (Z6 ++ [Value.bool true])), 26), ((g12.γ 1), (Z6 ++ (Z6 ++ [Value.bool true])), 26), ((g14.γ 10), (elC ((gox K1)) ++ (elC ((goy K1)) ++ [Value.bool K1.inf])), 26), ((g15.γ 10), (elC ((gox M1)) ++ (elC ((goy M1)) ++ [Value.bool M1.inf])), 26), ((g16.γ 7), (elC ((gox U)) ++ (elC ((goy U)) ++ [Value.bool U.inf])), 26), ((g17.γ 17), (elC ((gox U)) ++ (elC ((goy U)) ++ [Value.bool U.inf])), 26), ((g18.γ 5), (elC ((gxN c)) ++ (elC ((gyN c)) ++ [Value.bool false])), 26), ((g19.γ 9), (Z6 ++ (Z6 ++ [Value.bool true])), 26)]) (fun g19 => [fun w => CrA c (g2.δ 2) w, fun w => BA kt ((g14.δ 5).o 0) ((g14.δ 5).n 0) w, fun w => BA mt ((g15.δ 5).o 0) ((g15.δ 5).n 0) w, fun w => BA kt ((g17.δ 5).o 0) ((g17.δ 5).n 0) w, fun w => NA (ofBE kt) ((g17.δ 6).o 0) ((g17.δ 6).n 0) w, fun w => BA mt ((g17.δ 9).o 0) ((g17.δ 9).n 0) w, fun w => NA (ofBE mt) ((g17.δ 10).o 0) ((g17.δ 10).n 0) w, fun w => NA (ofBE kt + ofBE mt) ((g17.δ 11).o 0) ((g17.δ 11).n 0) w, fun w => BA (beb (ofBE kt + ofBE mt)) ((g17.δ 12).o 0) ((g17.δ 12).n 0) w, fun w => BA (beb (prm (2 * c))) ((g19.δ 4).o 0) ((g19.δ 4).n 0) w])
    hF hI ⟨(fun w w1 hg h => CrA.grow hg rfl h), (fun w w1 hg h => BA.grow hg rfl h), (fun w w1 hg h => BA.grow hg rfl h), (fun w w1 hg h => BA.grow hg rfl h), (fun w w1 hg h => NA.grow hg rfl h), (fun w w1 hg h => BA.grow hg rfl h), (fun w w1 hg h => NA.grow hg rfl h), (fun w w1 hg h => NA.grow hg rfl h), (fun w w1 hg h => BA.grow hg rfl h), trivial⟩ (fun g => ⟨pv,
      lk 14 0 rfl rfl,
      pv,
      lk1 1 4 rfl rfl,
      cx (fun l d w w1 hg h => BA.grow hg rfl h) fun w hI hfa => bytes_n hO (hI.fact 0 rfl).2.2.1,
      cv fun w hI hfa => mul_z h1 h3 (hfa 4 _ _ _ (by kernel_rfl) rfl) hG eO,
      pv,
      pv,
      pv,
      nw,
      po (.agg ((Z6 ++ (Z6 ++ [Value.bool true]))).toArray) ((Z6 ++ (Z6 ++ [Value.bool false]))) rfl,
      pv, trivial⟩) ?_
  intro g19 a19 w19 hF hI
  refine wp_seq ?_
  refine sy [26] #[va (.int .i64 (c : Nat)),
      va (.pointer (some ⟨(g1.γ 0), 1, none⟩)),
      va (.agg ((elC x0 ++ (elC y0 ++ [Value.bool false]))).toArray),
      .ex [] (fun d => .slice (some ⟨d.n 0, 0, none⟩) 1 1) (fun _ d => fun w => w.heap[d.n 0]? = some (.cells ([Value.int .u8 1]).toArray 5 (0, 0))),
      va (.tuple #[.agg ((elC x0 ++ (elC y0 ++ [Value.bool false]))).toArray, .int .i64 0]),
      va (.tuple #[.agg ((elC x0 ++ (elC y0 ++ [Value.bool false]))).toArray, .int .i64 0]),
      va (.agg ((elC x0 ++ (elC y0 ++ [Value.bool false]))).toArray),
      va (.int .i64 0),
      .new [] (fun _ => ((Z6 ++ (Z6 ++ [Value.bool false]))).toArray) 26,
      .put 8 [] (fun _ => ((elC x0 ++ (elC y0 ++ [Value.bool false]))).toArray),
      va (.int .i64 0)]
    (fun g20 => [(1, pt (g1.γ 0)), (2, .bool false), (5, .int .i64 (c : Nat)), (20, pt (g12.γ 1)), (25, pt (g16.γ 7)), (27, pt (g17.γ 17)), (29, pt (g18.γ 5)), (31, pt (g19.γ 9)), (33, pt (g20.γ 8))]) (fun g20 => [((g1.γ 0), ([Value.int .i64 (c : Nat)] ++ (elC x0 ++ (elC y0 ++ ([Value.bool false] ++ (elC x1 ++ (elC y1 ++ ([Value.bool i1] ++ (elC x2 ++ (elC y2 ++ ([Value.bool i2] ++ ([Value.slice KA kl kc] ++ [Value.slice MA ml mc]))))))))))), 29), ((g2.γ 6), ([Value.slice ((g2.δ 2).o 0) (wd (prm (2 * c - 1))).length ((g2.δ 2).n 0)] ++ ([Value.int .i64 (if c = 3 then 48 else 32)] ++ ([Value.slice ((g2.δ 2).o 1) (wd (cbN c)).length ((g2.δ 2).n 1)] ++ ([Value.slice none 0 0] ++ ([Value.slice ((g2.δ 2).o 2) (wd (prm (2 * c))).length ((g2.δ 2).n 2)] ++ ([Value.slice ((g2.δ 2).o 3) (wd (gxN c)).length ((g2.δ 2).n 3)] ++ ([Value.slice none 0 0] ++ ([Value.slice ((g2.δ 2).o 4) (wd (gyN c)).length ((g2.δ 2).n 4)] ++ ([Value.slice none 0 0] ++ ([Value.bool false] ++ [Value.bool false])))))))))), 39), ((g5.γ 9), (elC ((gox S)) ++ (elC ((goy S)) ++ [Value.bool S.inf])), 26), ((g6.γ 9), (elC ((gox S)) ++ (elC ((goy S)) ++ [Value.bool S.inf])), 26), ((g7.γ 8), (elC ((gox A)) ++ (elC ((goy A)) ++ [Value.bool A.inf])), 26), ((g8.γ 9), (elC ((gox B)) ++ (elC ((goy B)) ++ [Value.bool B.inf])), 26), ((g9.γ 8), (elC ((gox A)) ++ (elC ((goy A)) ++ [Value.bool A.inf])), 26), ((g10.γ 7), (elC ((gox N)) ++ (elC ((goy N)) ++ [Value.bool N.inf])), 26), ((g11.γ 8), (Z6 ++ (Z6 ++ [Value.bool true])), 26), ((g12.γ 1), (Z6 ++ (Z6 ++ [Value.bool true])), 26), ((g14.γ 10), (elC ((gox K1)) ++ (elC ((goy K1)) ++ [Value.bool K1.inf])), 26), ((g15.γ 10), (elC ((gox M1)) ++ (elC ((goy M1)) ++ [Value.bool M1.inf])), 26), ((g16.γ 7), (elC ((gox U)) ++ (elC ((goy U)) ++ [Value.bool U.inf])), 26), ((g17.γ 17), (elC ((gox U)) ++ (elC ((goy U)) ++ [Value.bool U.inf])), 26), ((g18.γ 5), (elC ((gxN c)) ++ (elC ((gyN c)) ++ [Value.bool false])), 26), ((g19.γ 9), (Z6 ++ (Z6 ++ [Value.bool true])), 26), ((g20.γ 8), (elC x0 ++ (elC y0 ++ [Value.bool false])), 26)]) (fun g20 => [fun w => CrA c (g2.δ 2) w, fun w => BA kt ((g14.δ 5).o 0) ((g14.δ 5).n 0) w, fun w => BA mt ((g15.δ 5).o 0) ((g15.δ 5).n 0) w, fun w => BA kt ((g17.δ 5).o 0) ((g17.δ 5).n 0) w, fun w => NA (ofBE kt) ((g17.δ 6).o 0) ((g17.δ 6).n 0) w, fun w => BA mt ((g17.δ 9).o 0) ((g17.δ 9).n 0) w, fun w => NA (ofBE mt) ((g17.δ 10).o 0) ((g17.δ 10).n 0) w, fun w => NA (ofBE kt + ofBE mt) ((g17.δ 11).o 0) ((g17.δ 11).n 0) w, fun w => BA (beb (ofBE kt + ofBE mt)) ((g17.δ 12).o 0) ((g17.δ 12).n 0) w, fun w => BA (beb (prm (2 * c))) ((g19.δ 4).o 0) ((g19.δ 4).n 0) w, fun w => w.heap[(g20.δ 3).n 0]? = some (.cells ([Value.int .u8 1]).toArray 5 (0, 0))])
    hF hI ⟨(fun w w1 hg h => CrA.grow hg rfl h), (fun w w1 hg h => BA.grow hg rfl h), (fun w w1 hg h => BA.grow hg rfl h), (fun w w1 hg h => BA.grow hg rfl h), (fun w w1 hg h => NA.grow hg rfl h), (fun w w1 hg h => BA.grow hg rfl h), (fun w w1 hg h => NA.grow hg rfl h), (fun w w1 hg h => NA.grow hg rfl h), (fun w w1 hg h => BA.grow hg rfl h), (fun w w1 hg h => BA.grow hg rfl h), trivial⟩ (fun g => ⟨pv,
      pv,
      lk 0 1 rfl rfl,
      ⟨fun l d w w1 hg h => hg.block _ _ h fun C t fr e => by cases e; rfl, by kernel_rfl, fun w hI hfa => exU_slice (by kernel_rfl)⟩,
      cv fun w hI hfa => mul_s h1 h3 (BA.one (hfa 3 _ _ _ (by kernel_rfl) rfl)) hP e1,
      pv,
      pv,
      pv,
      nw,
      po (.agg ((elC x0 ++ (elC y0 ++ [Value.bool false]))).toArray) ((Z6 ++ (Z6 ++ [Value.bool false]))) rfl,
      pv, trivial⟩) ?_
  intro g20 a20 w20 hF hI
  refine wp_seq ?_
  refine wp_seq ?_
  refine sy [] #[va (.pointer (some ⟨(g1.γ 0), 1, none⟩)),
      va (.pointer (some ⟨(g1.γ 0), 13, none⟩)),
      va (.bool false)]
    (fun g21 => [(1, pt (g1.γ 0)), (2, .bool false), (5, .int .i64 (c : Nat)), (20, pt (g12.γ 1)), (25, pt (g16.γ 7)), (27, pt (g17.γ 17)), (29, pt (g18.γ 5)), (31, pt (g19.γ 9)), (33, pt (g20.γ 8)), (216, .bool false)]) (fun _ => [((g1.γ 0), ([Value.int .i64 (c : Nat)] ++ (elC x0 ++ (elC y0 ++ ([Value.bool false] ++ (elC x1 ++ (elC y1 ++ ([Value.bool i1] ++ (elC x2 ++ (elC y2 ++ ([Value.bool i2] ++ ([Value.slice KA kl kc] ++ [Value.slice MA ml mc]))))))))))), 29), ((g2.γ 6), ([Value.slice ((g2.δ 2).o 0) (wd (prm (2 * c - 1))).length ((g2.δ 2).n 0)] ++ ([Value.int .i64 (if c = 3 then 48 else 32)] ++ ([Value.slice ((g2.δ 2).o 1) (wd (cbN c)).length ((g2.δ 2).n 1)] ++ ([Value.slice none 0 0] ++ ([Value.slice ((g2.δ 2).o 2) (wd (prm (2 * c))).length ((g2.δ 2).n 2)] ++ ([Value.slice ((g2.δ 2).o 3) (wd (gxN c)).length ((g2.δ 2).n 3)] ++ ([Value.slice none 0 0] ++ ([Value.slice ((g2.δ 2).o 4) (wd (gyN c)).length ((g2.δ 2).n 4)] ++ ([Value.slice none 0 0] ++ ([Value.bool false] ++ [Value.bool false])))))))))), 39), ((g5.γ 9), (elC ((gox S)) ++ (elC ((goy S)) ++ [Value.bool S.inf])), 26), ((g6.γ 9), (elC ((gox S)) ++ (elC ((goy S)) ++ [Value.bool S.inf])), 26), ((g7.γ 8), (elC ((gox A)) ++ (elC ((goy A)) ++ [Value.bool A.inf])), 26), ((g8.γ 9), (elC ((gox B)) ++ (elC ((goy B)) ++ [Value.bool B.inf])), 26), ((g9.γ 8), (elC ((gox A)) ++ (elC ((goy A)) ++ [Value.bool A.inf])), 26), ((g10.γ 7), (elC ((gox N)) ++ (elC ((goy N)) ++ [Value.bool N.inf])), 26), ((g11.γ 8), (Z6 ++ (Z6 ++ [Value.bool true])), 26), ((g12.γ 1), (Z6 ++ (Z6 ++ [Value.bool true])), 26), ((g14.γ 10), (elC ((gox K1)) ++ (elC ((goy K1)) ++ [Value.bool K1.inf])), 26), ((g15.γ 10), (elC ((gox M1)) ++ (elC ((goy M1)) ++ [Value.bool M1.inf])), 26), ((g16.γ 7), (elC ((gox U)) ++ (elC ((goy U)) ++ [Value.bool U.inf])), 26), ((g17.γ 17), (elC ((gox U)) ++ (elC ((goy U)) ++ [Value.bool U.inf])), 26), ((g18.γ 5), (elC ((gxN c)) ++ (elC ((gyN c)) ++ [Value.bool false])), 26), ((g19.γ 9), (Z6 ++ (Z6 ++ [Value.bool true])), 26), ((g20.γ 8), (elC x0 ++ (elC y0 ++ [Value.bool false])), 26)]) (fun _ => [fun w => CrA c (g2.δ 2) w, fun w => BA kt ((g14.δ 5).o 0) ((g14.δ 5).n 0) w, fun w => BA mt ((g15.δ 5).o 0) ((g15.δ 5).n 0) w, fun w => BA kt ((g17.δ 5).o 0) ((g17.δ 5).n 0) w, fun w => NA (ofBE kt) ((g17.δ 6).o 0) ((g17.δ 6).n 0) w, fun w => BA mt ((g17.δ 9).o 0) ((g17.δ 9).n 0) w, fun w => NA (ofBE mt) ((g17.δ 10).o 0) ((g17.δ 10).n 0) w, fun w => NA (ofBE kt + ofBE mt) ((g17.δ 11).o 0) ((g17.δ 11).n 0) w, fun w => BA (beb (ofBE kt + ofBE mt)) ((g17.δ 12).o 0) ((g17.δ 12).n 0) w, fun w => BA (beb (prm (2 * c))) ((g19.δ 4).o 0) ((g19.δ 4).n 0) w, fun w => w.heap[(g20.δ 3).n 0]? = some (.cells ([Value.int .u8 1]).toArray 5 (0, 0))])
    hF hI ⟨(fun w w1 hg h => CrA.grow hg rfl h), (fun w w1 hg h => BA.grow hg rfl h), (fun w w1 hg h => BA.grow hg rfl h), (fun w w1 hg h => BA.grow hg rfl h), (fun w w1 hg h => NA.grow hg rfl h), (fun w w1 hg h => BA.grow hg rfl h), (fun w w1 hg h => NA.grow hg rfl h), (fun w w1 hg h => NA.grow hg rfl h), (fun w w1 hg h => BA.grow hg rfl h), (fun w w1 hg h => BA.grow hg rfl h), (fun w w1 hg h => hg.block _ _ h fun C t fr e => by cases e; rfl), trivial⟩ (fun g => ⟨pv,
      pv,
      lk1 0 13 rfl rfl, trivial⟩) ?_
  intro g21 a21 w21 hF hI
  refine wp_cond_false (hF.eval rfl) ?_
  refine wp_skip ?_
  refine wp_seq ?_
  refine sy [] #[va (.agg ((elC ((gox U)) ++ (elC ((goy U)) ++ [Value.bool U.inf]))).toArray),
      va (.agg ((elC ((gox U)) ++ (elC ((goy U)) ++ [Value.bool U.inf]))).toArray),
      va (.bool true),
      va (.bool true),
      va (.agg ((Z6 ++ (Z6 ++ [Value.bool true]))).toArray),
      va (.agg ((Z6 ++ (Z6 ++ [Value.bool true]))).toArray),
      va (.bool true),
      va (.bool true),
      va (.bool true),
      va (.agg ((elC x0 ++ (elC y0 ++ [Value.bool false]))).toArray),
      va (.pointer (some ⟨(g1.γ 0), 1, none⟩)),
      va (.agg ((elC x0 ++ (elC y0 ++ [Value.bool false]))).toArray),
      va (.bool true),
      va (.bool true),
      va (.bool true),
      va (.int .i64 (c : Nat)),
      va (.agg ((elC ((gxN c)) ++ (elC ((gyN c)) ++ [Value.bool false]))).toArray),
      va (.bool true),
      va (.bool true),
      va (.bool true),
      va (.bool true),
      va (.bool true),
      va (.bool true)]
    (fun g22 => [(2, .bool true)]) (fun _ => [((g1.γ 0), ([Value.int .i64 (c : Nat)] ++ (elC x0 ++ (elC y0 ++ ([Value.bool false] ++ (elC x1 ++ (elC y1 ++ ([Value.bool i1] ++ (elC x2 ++ (elC y2 ++ ([Value.bool i2] ++ ([Value.slice KA kl kc] ++ [Value.slice MA ml mc]))))))))))), 29), ((g2.γ 6), ([Value.slice ((g2.δ 2).o 0) (wd (prm (2 * c - 1))).length ((g2.δ 2).n 0)] ++ ([Value.int .i64 (if c = 3 then 48 else 32)] ++ ([Value.slice ((g2.δ 2).o 1) (wd (cbN c)).length ((g2.δ 2).n 1)] ++ ([Value.slice none 0 0] ++ ([Value.slice ((g2.δ 2).o 2) (wd (prm (2 * c))).length ((g2.δ 2).n 2)] ++ ([Value.slice ((g2.δ 2).o 3) (wd (gxN c)).length ((g2.δ 2).n 3)] ++ ([Value.slice none 0 0] ++ ([Value.slice ((g2.δ 2).o 4) (wd (gyN c)).length ((g2.δ 2).n 4)] ++ ([Value.slice none 0 0] ++ ([Value.bool false] ++ [Value.bool false])))))))))), 39), ((g5.γ 9), (elC ((gox S)) ++ (elC ((goy S)) ++ [Value.bool S.inf])), 26), ((g6.γ 9), (elC ((gox S)) ++ (elC ((goy S)) ++ [Value.bool S.inf])), 26), ((g7.γ 8), (elC ((gox A)) ++ (elC ((goy A)) ++ [Value.bool A.inf])), 26), ((g8.γ 9), (elC ((gox B)) ++ (elC ((goy B)) ++ [Value.bool B.inf])), 26), ((g9.γ 8), (elC ((gox A)) ++ (elC ((goy A)) ++ [Value.bool A.inf])), 26), ((g10.γ 7), (elC ((gox N)) ++ (elC ((goy N)) ++ [Value.bool N.inf])), 26), ((g11.γ 8), (Z6 ++ (Z6 ++ [Value.bool true])), 26), ((g12.γ 1), (Z6 ++ (Z6 ++ [Value.bool true])), 26), ((g14.γ 10), (elC ((gox K1)) ++ (elC ((goy K1)) ++ [Value.bool K1.inf])), 26), ((g15.γ 10), (elC ((gox M1)) ++ (elC ((goy M1)) ++ [Value.bool M1.inf])), 26), ((g16.γ 7), (elC ((gox U)) ++ (elC ((goy U)) ++ [Value.bool U.inf])), 26), ((g17.γ 17), (elC ((gox U)) ++ (elC ((goy U)) ++ [Value.bool U.inf])), 26), ((g18.γ 5), (elC ((gxN c)) ++ (elC ((gyN c)) ++ [Value.bool false])), 26), ((g19.γ 9), (Z6 ++ (Z6 ++ [Value.bool true])), 26), ((g20.γ 8), (elC x0 ++ (elC y0 ++ [Value.bool false])), 26)]) (fun _ => [fun w => CrA c (g2.δ 2) w, fun w => BA kt ((g14.δ 5).o 0) ((g14.δ 5).n 0) w, fun w => BA mt ((g15.δ 5).o 0) ((g15.δ 5).n 0) w, fun w => BA kt ((g17.δ 5).o 0) ((g17.δ 5).n 0) w, fun w => NA (ofBE kt) ((g17.δ 6).o 0) ((g17.δ 6).n 0) w, fun w => BA mt ((g17.δ 9).o 0) ((g17.δ 9).n 0) w, fun w => NA (ofBE mt) ((g17.δ 10).o 0) ((g17.δ 10).n 0) w, fun w => NA (ofBE kt + ofBE mt) ((g17.δ 11).o 0) ((g17.δ 11).n 0) w, fun w => BA (beb (ofBE kt + ofBE mt)) ((g17.δ 12).o 0) ((g17.δ 12).n 0) w, fun w => BA (beb (prm (2 * c))) ((g19.δ 4).o 0) ((g19.δ 4).n 0) w, fun w => w.heap[(g20.δ 3).n 0]? = some (.cells ([Value.int .u8 1]).toArray 5 (0, 0))])
    hF hI ⟨(fun w w1 hg h => CrA.grow hg rfl h), (fun w w1 hg h => BA.grow hg rfl h), (fun w w1 hg h => BA.grow hg rfl h), (fun w w1 hg h => BA.grow hg rfl h), (fun w w1 hg h => NA.grow hg rfl h), (fun w w1 hg h => BA.grow hg rfl h), (fun w w1 hg h => NA.grow hg rfl h), (fun w w1 hg h => NA.grow hg rfl h), (fun w w1 hg h => BA.grow hg rfl h), (fun w w1 hg h => BA.grow hg rfl h), (fun w w1 hg h => hg.block _ _ h fun C t fr e => by cases e; rfl), trivial⟩ (fun g => ⟨lk 12 0 rfl rfl,
      lk 13 0 rfl rfl,
      ov fun w hI hfa => pureU (eqPt ((gox U)) ((goy U)) U.inf true rfl (by kernel_rfl) (by kernel_rfl)),
      pv,
      lk 15 0 rfl rfl,
      lk 9 0 rfl rfl,
      ov fun w hI hfa => pureU (eqPt 0 0 true true rfl (by kernel_rfl) (by kernel_rfl)),
      pv,
      pv,
      lk 16 0 rfl rfl,
      pv,
      lk 0 1 rfl rfl,
      ov fun w hI hfa => pureU (eqPt x0 y0 false true rfl (by kernel_rfl) (by kernel_rfl)),
      pv,
      pv,
      pv,
      lk 14 0 rfl rfl,
      cv fun w hI hfa => in_p h1 h3 hG eG,
      pv,
      pv,
      cv fun w hI hfa => wakes_any,
      pv,
      pv, trivial⟩) ?_
  intro g22 a22 w22 hF hI
  refine wp_ret ?_
  show bodyPost Tryz.prog Tryz.f4 (Ret w (.bool true)) .ret _ _
  exact sym_ret rfl hF.df (rv_tmp hF rfl) ⟨rfl, hI.below⟩

end Go.Proofs.YtjokcbjahidckaaGreat
/-! What came in, opened: points, bytes, a statement's record. Condition: the arguments read. -/
namespace Go.Proofs.YtjokcbjahidckaaGreat
open Go.ChangeShapes Go.WideShapes Go.ChangeAt Go.RowKit

section
variable {H : Type} {enc : TypeId × Value → H} {w : World} {base : Nat} {spare : Nat → Bool} {held : Bool} {fuel : Nat} {cs : List Value} {x : DataW H × List MemPlace}
theorem field_of {t ft : TypeId} {fs : Array Field} {o : Nat} (ht : Tryz.prog.underlying t = some (.struct fs)) (h : DataW.trod enc Tryz.prog w base spare held fuel t cs = some x) (i : Nat) (f : Field) (hf : fs[i]? = some f) (h1 : f.type = ft) (h2 : f.offset = o) :
    ∃ n y, DataW.trod enc Tryz.prog w base spare held n ft ((cs.drop o).take (Tryz.prog.cellsOf ft)) = some y := by
  obtain ⟨xs, n, -, -, -, hxl, hff⟩ := DataW.trod_struct ht h
  subst h1; subst h2
  have := hff i f hf
  have hl : i < xs.length := by rw [hxl]; exact (Array.getElem?_eq_some_iff.1 hf).1
  rw [List.getElem?_eq_getElem hl] at this
  exact ⟨n, _, this⟩
theorem len_of {t : TypeId} {fs : Array Field} (ht : Tryz.prog.underlying t = some (.struct fs)) (h : DataW.trod enc Tryz.prog w base spare held fuel t cs = some x) : cs.length = Tryz.prog.cellsOf t := by
  obtain ⟨xs, n, -, -, hl, -, -⟩ := DataW.trod_struct ht h
  exact hl
theorem wf64 {n : Int} (h : (Lit.int .u64 n).wf = true) : ∃ m : Nat, n = m ∧ m < B64 := by
  have : 0 ≤ n ∧ n < 18446744073709551616 := by
    simp [Lit.wf, IntKind.min, IntKind.max, IntKind.signed, IntKind.bits] at h
    omega
  exact ⟨n.toNat, by omega, by rw [B64_eq]; omega⟩
theorem wf8 {n : Int} (h : (Lit.int .u8 n).wf = true) : ∃ m : Nat, n = m ∧ m < 256 := by
  have : 0 ≤ n ∧ n < 256 := by
    simp [Lit.wf, IntKind.min, IntKind.max, IntKind.signed, IntKind.bits] at h
    omega
  exact ⟨n.toNat, by omega, by omega⟩
/-- A number of six limbs. -/
theorem open_num (h : DataW.trod enc Tryz.prog w base spare held fuel 24 cs = some x) : ∃ n, n < B64 ^ 6 ∧ cs = elC n := by
  obtain ⟨xs, m, -, -, hl, hxl, hff⟩ := DataW.trod_array Tryz.underlying24 h
  have h6 : cs.length = 6 := hl.trans (by kernel_rfl)
  have hc : Tryz.prog.cellsOf 22 = 1 := by kernel_rfl
  have he : ∀ i, i < 6 → ∃ d : Nat, d < B64 ∧ cs[i]? = some (.int .u64 (d : Int)) := by
    intro i hi
    have h1 := hff i hi
    rw [hc, Nat.mul_one, List.getElem?_eq_getElem (by omega)] at h1
    obtain ⟨n, hn, -, hw⟩ := DataW.trod_int Tryz.underlying22 h1
    obtain ⟨d, rfl, hd⟩ := wf64 hw
    refine ⟨d, hd, ?_⟩
    have h2 := congrArg (·[0]?) hn
    simp only [List.getElem?_take, List.getElem?_drop] at h2
    simpa using h2
  obtain ⟨d0, l0, e0⟩ := he 0 (by decide)
  obtain ⟨d1, l1, e1⟩ := he 1 (by decide)
  obtain ⟨d2, l2, e2⟩ := he 2 (by decide)
  obtain ⟨d3, l3, e3⟩ := he 3 (by decide)
  obtain ⟨d4, l4, e4⟩ := he 4 (by decide)
  obtain ⟨d5, l5, e5⟩ := he 5 (by decide)
  have hd : Digs B64 [d0, d1, d2, d3, d4, d5] := Digs.cons l0 (Digs.cons l1 (Digs.cons l2 (Digs.cons l3 (Digs.cons l4 (Digs.cons l5 Digs.nil)))))
  refine ⟨ofD B64 [d0, d1, d2, d3, d4, d5], ofD_lt hd, ?_⟩
  have h3 : digs B64 6 (ofD B64 [d0, d1, d2, d3, d4, d5]) = [d0, d1, d2, d3, d4, d5] := digs_ofD (xs := [d0, d1, d2, d3, d4, d5]) (by decide) hd
  unfold elC
  rw [h3]
  apply List.ext_getElem?
  intro i
  rcases Nat.lt_or_ge i 6 with hi | hi
  · have : i = 0 ∨ i = 1 ∨ i = 2 ∨ i = 3 ∨ i = 4 ∨ i = 5 := by omega
    rcases this with rfl | rfl | rfl | rfl | rfl | rfl
    · exact e0
    · exact e1
    · exact e2
    · exact e3
    · exact e4
    · exact e5
  · rw [List.getElem?_eq_none (by omega), List.getElem?_eq_none (by simpa using hi)]
/-- A point over a prime field. -/
theorem open_p1 (h : DataW.trod enc Tryz.prog w base spare held fuel 26 cs = some x) : ∃ a b i, a < B64 ^ 6 ∧ b < B64 ^ 6 ∧ cs = elC a ++ (elC b ++ [Value.bool i]) := by
  have hl := (len_of Tryz.underlying26 h).trans (by kernel_rfl : Tryz.prog.cellsOf 26 = 13)
  obtain ⟨n0, y0, h0⟩ := field_of (ft := 24) (o := 0) Tryz.underlying26 h 0 _ rfl rfl rfl
  obtain ⟨n1, y1, h1⟩ := field_of (ft := 24) (o := 6) Tryz.underlying26 h 1 _ rfl rfl rfl
  obtain ⟨n2, y2, h2⟩ := field_of (ft := 4) (o := 12) Tryz.underlying26 h 2 _ rfl rfl rfl
  obtain ⟨a, ha, ea⟩ := open_num h0
  obtain ⟨b, hb, eb⟩ := open_num h1
  obtain ⟨i, ei, -⟩ := DataW.trod_bool Tryz.underlying4 h2
  refine ⟨a, b, i, ha, hb, ?_⟩
  have c24 : Tryz.prog.cellsOf 24 = 6 := by kernel_rfl
  have c4 : Tryz.prog.cellsOf 4 = 1 := by kernel_rfl
  rw [c24] at ea eb
  rw [c4] at ei
  rw [← ea, ← eb, ← ei, List.drop_zero]
  have e1 : (cs.drop 12).take 1 = (cs.drop 6).drop 6 := by rw [List.drop_drop]; exact List.take_of_length_le (by rw [List.length_drop]; omega)
  rw [e1, List.take_append_drop, List.take_append_drop]
/-- Bytes: of any length, the first m of them. -/
theorem open_bytes (m : Nat) (hm : m ≤ 1000000) (h : DataW.trod enc Tryz.prog w base spare held fuel 27 cs = some x) : ∃ A len cap ts, cs = [.slice A len cap] ∧ BIn m ts A len cap w := by
  rcases open_ints Tryz.underlying27 Tryz.underlying5 (by kernel_rfl) h with ⟨rfl, -⟩ | ⟨⟨b, off, sp⟩, len, cap, zs, rfl, -, hl, hmx, hz, -, hcell, hwf⟩
  · exact ⟨none, 0, 0, [], rfl, Nat.le_refl _, by simp, Rd.nil _ _ _, fun h => absurd rfl h, Digs.nil⟩
  · have hzl : len ≤ zs.length := by rw [hz]; split <;> omega
    refine ⟨some ⟨b, off, sp⟩, len, cap, (zs.take (min len m)).map Int.toNat, rfl, hl, by simp; omega, ⟨by simp; omega, ?_⟩, nofun, ?_⟩
    · by_cases h0 : min len m = 0
      · exact .inl (by rw [h0]; rfl)
      · refine .inr ⟨b, off, ?_, fun j hj => ?_⟩
        · have h1 := hcell 0 (by omega)
          have : sp = none := by simpa [Addr.add] using World.cell?_spot h1
          rw [this]
        · have hj2 : j < min len m := by simpa using Nat.lt_of_lt_of_le hj (by simp; omega)
          have h1 := hcell j (by omega)
          have h0' := hcell 0 (by omega)
          have : sp = none := by simpa [Addr.add] using World.cell?_spot h0'
          subst this
          have hmem : zs.getD j 0 ∈ zs := by rw [List.getD_eq_getElem?_getD, List.getElem?_eq_getElem (by omega)]; exact List.getElem_mem _
          obtain ⟨d, hd, _⟩ := wf8 (hwf _ hmem)
          have e : ((zs.take (min len m)).map Int.toNat).getD j 0 = d := by
            rw [List.getD_eq_getElem?_getD, List.getElem?_map, List.getElem?_take, if_pos hj2, List.getElem?_eq_getElem (by omega)]
            rw [List.getD_eq_getElem?_getD, List.getElem?_eq_getElem (by omega)] at hd
            simp only [Option.getD_some] at hd
            simp [hd]
          rw [e, ← hd]
          unfold Addr.add at h1
          split at h1
          · rename_i hz0; subst hz0; exact h1
          · exact h1
    · intro d hd
      obtain ⟨z, hz1, rfl⟩ := List.mem_map.1 hd
      obtain ⟨q, hq, hq2⟩ := wf8 (hwf z (List.mem_of_mem_take hz1))
      subst hq
      simpa using hq2
set_option maxRecDepth 10000 in
/-- The record of a statement over a prime field. -/
theorem open_one {v : Value} {d : DataW H} {ps : List MemPlace} {r : Reach} {b0 : Nat} (hval : Value.okWide Tryz.prog w r b0 29 v) (h : DataW.Trod enc Tryz.prog w base spare held 29 v d ps) :
    ∃ (k : Int) (x0 y0 x1 y1 x2 y2 : Nat) (i0 i1 i2 : Bool) (KA MA : Option Addr) (kt mt : List Nat) (kl ml kc mc : Nat),
      x0 < B64 ^ 6 ∧ y0 < B64 ^ 6 ∧ x1 < B64 ^ 6 ∧ y1 < B64 ^ 6 ∧ x2 < B64 ^ 6 ∧ y2 < B64 ^ 6 ∧ BIn 40 kt KA kl kc w ∧ BIn 40 mt MA ml mc w ∧
      v = .agg ([Value.int .i64 k] ++ (elC x0 ++ (elC y0 ++ ([Value.bool i0] ++ (elC x1 ++ (elC y1 ++ ([Value.bool i1] ++ (elC x2 ++ (elC y2 ++ ([Value.bool i2] ++ ([Value.slice KA kl kc] ++ [Value.slice MA ml mc]))))))))))).toArray := by
  obtain ⟨cs, rfl, hsz⟩ := okWide_struct Tryz.underlying29 hval
  obtain ⟨fuel, h⟩ := h
  simp only [Value.cells] at h
  have hl := (len_of Tryz.underlying29 h).trans (by kernel_rfl : Tryz.prog.cellsOf 29 = 42)
  obtain ⟨n0, z0, h0⟩ := field_of (ft := 3) (o := 0) Tryz.underlying29 h 0 _ rfl rfl rfl
  obtain ⟨n1, z1, h1⟩ := field_of (ft := 26) (o := 1) Tryz.underlying29 h 1 _ rfl rfl rfl
  obtain ⟨n2, z2, h2⟩ := field_of (ft := 26) (o := 14) Tryz.underlying29 h 2 _ rfl rfl rfl
  obtain ⟨n3, z3, h3⟩ := field_of (ft := 26) (o := 27) Tryz.underlying29 h 3 _ rfl rfl rfl
  obtain ⟨n4, z4, h4⟩ := field_of (ft := 27) (o := 40) Tryz.underlying29 h 4 _ rfl rfl rfl
  obtain ⟨n5, z5, h5⟩ := field_of (ft := 27) (o := 41) Tryz.underlying29 h 5 _ rfl rfl rfl
  obtain ⟨k, ek, -⟩ := DataW.trod_int Tryz.underlying3 h0
  obtain ⟨x0, y0, i0, hx0, hy0, e0⟩ := open_p1 h1
  obtain ⟨x1, y1, i1, hx1, hy1, e1⟩ := open_p1 h2
  obtain ⟨x2, y2, i2, hx2, hy2, e2⟩ := open_p1 h3
  obtain ⟨KA, kl, kc, kt, eK, bK⟩ := open_bytes 40 (by decide) h4
  obtain ⟨MA, ml, mc, mt, eM, bM⟩ := open_bytes 40 (by decide) h5
  refine ⟨k, x0, y0, x1, y1, x2, y2, i0, i1, i2, KA, MA, kt, mt, kl, ml, kc, mc, hx0, hy0, hx1, hy1, hx2, hy2, bK, bM, ?_⟩
  rw [show Tryz.prog.cellsOf 3 = 1 from by kernel_rfl] at ek
  rw [show Tryz.prog.cellsOf 26 = 13 from by kernel_rfl] at e0 e1 e2
  rw [show Tryz.prog.cellsOf 27 = 1 from by kernel_rfl] at eK eM
  congr 1
  apply Array.ext'
  show cs.toList = _
  have cut : ∀ (l : List Value) (a b c : Nat), c = a + b → l.drop a = (l.drop a).take b ++ l.drop c := fun l a b c h => by
    subst h
    rw [← List.drop_drop, List.take_append_drop]
  have c0 := cut cs.toList 0 1 1 rfl
  have c1 := cut cs.toList 1 13 14 rfl
  have c2 := cut cs.toList 14 13 27 rfl
  have c3 := cut cs.toList 27 13 40 rfl
  have c4 := cut cs.toList 40 1 41 rfl
  have c5 := cut cs.toList 41 1 42 rfl
  rw [List.drop_zero] at c0
  rw [List.drop_zero] at ek
  rw [ek] at c0
  rw [e0] at c1
  rw [e1] at c2
  rw [e2] at c3
  rw [eK] at c4
  rw [eM, show cs.toList.drop 42 = [] from List.drop_eq_nil_of_le (by omega), List.append_nil] at c5
  rw [c0, c1, c2, c3, c4, c5]
  simp only [List.append_assoc]
end
end Go.Proofs.YtjokcbjahidckaaGreat
/-! A row's closed facts, put together. Condition: each of them. -/
namespace Go.Proofs.YtjokcbjahidckaaGreat

/-- The row's facts, put together. -/
theorem joined_gen {P : Program} {f : FuncId} {fn : Func} {s : ChangeSpec} {c : OpenClaim} (k1 : c.wf (OpenSpec.ofChange s) = true) (k4 : fn.params.all (P.readableRec ·) = true) (k5 : namedTie P c.named s.vars = true)
    (k6 : ((c.stops == []) && (P.stops == []) && (c.knobs == []) && (P.stopKnobs == [])) = true) (k10 : P.inPlace f = c.inPlace) (k11 : P.unfollowed f = c.unfollowed) (k12 : P.recurses f = c.recurses) (k13 : P.varsNamed f = c.named)
    (k14 : ((c.maps == (fn.params.toList ++ s.plain.varTypes P).any (P.mapsRec ·)) && (c.ifaces == (fn.params.toList ++ s.plain.varTypes P).any (P.ifacesRec ·)) && (c.mapsOut == P.mapsAmong fn.resultTypes.toList) &&
      (c.loops == (fn.params.toList ++ s.plain.varTypes P).any (P.loopsFrom ·)) && (c.wideKeys == (fn.params.toList ++ s.plain.varTypes P ++ fn.resultTypes.toList).any (P.wideKeysFrom ·)) &&
      s.vars.all (P.varReadable ·) && fn.resultTypes.all (fun t => P.readableRec t && decide (t < P.types.size)) && (c.ifacesOut == fn.resultTypes.toList.any (P.ifacesRec ·)) && (c.loopsOut == fn.resultTypes.toList.any (P.loopsFrom ·))) = true)
    (k2 : laidOutB P = true) (k3 : mapsRowed P = true) (k22 : c.plainKeys = P.plainKeys) (k23b : P.stopsHeard = true) (kE : P.mayEnter = true) (k23 : c.shortTexts.isNone = true) (k24 : c.lifted = P.liftsFinal) (k24c : P.make = some c.make)
    (k25 : ((c.kinds == (if c.domain.isEmpty then [] else fn.params.toList.map fun t => match P.underlying t with | some (.int k) => some k | _ => none)) && (c.pinned == c.pinnedBy) &&
      (c.veiled == (fn.params.toList ++ s.plain.varTypes P ++ fn.resultTypes.toList).any (P.veiledRec ·)) && c.veiledFits P fn.params.toList (fn.params.toList ++ s.plain.varTypes P ++ fn.resultTypes.toList)) = true) : joinedFacts P f fn s c = true := by
  simp only [Bool.and_eq_true] at k6 k14 k25
  obtain ⟨⟨⟨k6, k7⟩, k8⟩, k9⟩ := k6
  obtain ⟨⟨⟨⟨⟨⟨⟨⟨k14, k15⟩, k16⟩, k17⟩, k17b⟩, k18⟩, k19⟩, k20⟩, k21⟩ := k14
  obtain ⟨⟨⟨k25, k26⟩, k27⟩, k28⟩ := k25
  unfold joinedFacts
  simp only [Bool.and_eq_true]
  exact ⟨⟨⟨⟨⟨⟨⟨⟨⟨⟨⟨⟨⟨⟨⟨⟨⟨⟨⟨⟨⟨⟨⟨⟨⟨⟨⟨⟨⟨⟨⟨k1, k2⟩, k3⟩, k4⟩, k5⟩, k6⟩, k7⟩, k8⟩, k9⟩, beq_iff_eq.2 k10.symm⟩, beq_iff_eq.2 k11.symm⟩, beq_iff_eq.2 k12.symm⟩, beq_iff_eq.2 k13.symm⟩, k14⟩, k15⟩, k16⟩, k17⟩, k17b⟩, k18⟩, k19⟩, k20⟩, k21⟩,
    beq_iff_eq.2 k22⟩, k23⟩, k23b⟩, kE⟩, beq_iff_eq.2 k24⟩, beq_iff_eq.2 k24c⟩, k25⟩, k26⟩, k27⟩, k28⟩
theorem joined_of {f : FuncId} {fn : Func} {s : ChangeSpec} {c : OpenClaim} (k1 : c.wf (OpenSpec.ofChange s) = true) (k4 : fn.params.all (Tryz.prog.readableRec ·) = true) (k5 : namedTie Tryz.prog c.named s.vars = true)
    (k6 : ((c.stops == []) && (Tryz.prog.stops == []) && (c.knobs == []) && (Tryz.prog.stopKnobs == [])) = true) (k10 : Tryz.prog.inPlace f = c.inPlace) (k11 : Tryz.prog.unfollowed f = c.unfollowed) (k12 : Tryz.prog.recurses f = c.recurses) (k13 : Tryz.prog.varsNamed f = c.named)
    (k14 : ((c.maps == (fn.params.toList ++ s.plain.varTypes Tryz.prog).any (Tryz.prog.mapsRec ·)) && (c.ifaces == (fn.params.toList ++ s.plain.varTypes Tryz.prog).any (Tryz.prog.ifacesRec ·)) && (c.mapsOut == Tryz.prog.mapsAmong fn.resultTypes.toList) &&
      (c.loops == (fn.params.toList ++ s.plain.varTypes Tryz.prog).any (Tryz.prog.loopsFrom ·)) && (c.wideKeys == (fn.params.toList ++ s.plain.varTypes Tryz.prog ++ fn.resultTypes.toList).any (Tryz.prog.wideKeysFrom ·)) &&
      s.vars.all (Tryz.prog.varReadable ·) && fn.resultTypes.all (fun t => Tryz.prog.readableRec t && decide (t < Tryz.prog.types.size)) && (c.ifacesOut == fn.resultTypes.toList.any (Tryz.prog.ifacesRec ·)) && (c.loopsOut == fn.resultTypes.toList.any (Tryz.prog.loopsFrom ·))) = true)
    (k22 : c.plainKeys = true) (k23 : c.shortTexts.isNone = true) (k24 : c.lifted = Rows.curveOneRow.lifted) (k24c : c.make = Rows.curveOneRow.make)
    (k25 : ((c.kinds == (if c.domain.isEmpty then [] else fn.params.toList.map fun t => match Tryz.prog.underlying t with | some (.int k) => some k | _ => none)) && (c.pinned == c.pinnedBy) &&
      (c.veiled == (fn.params.toList ++ s.plain.varTypes Tryz.prog ++ fn.resultTypes.toList).any (Tryz.prog.veiledRec ·)) && c.veiledFits Tryz.prog fn.params.toList (fn.params.toList ++ s.plain.varTypes Tryz.prog ++ fn.resultTypes.toList)) = true) : joinedFacts Tryz.prog f fn s c = true :=
  joined_gen k1 k4 k5 k6 k10 k11 k12 k13 k14 laidOut fRowed (k22.trans fKeys.symm) fHeard fEnter k23 (k24.trans fLifts.symm) (fMake.trans (congrArg some k24c.symm)) k25
end Go.Proofs.YtjokcbjahidckaaGreat
/-! quarrylaw08.CurveGroup answers true whatever the input, and leaves its argument as it was: the points on a curve are a commutative group, multiples add up, the order times the generator is zero. No condition. -/
namespace Go.Proofs.YtjokcbjahidckaaGreat
open Go.ChangeShapes Go.WideShapes Go.ChangeAt Go.RowKit
open Rg
open Go.Proofs.YtjokcbjahidckaaGreat.Fd

theorem ofBE_40 {ts : List Nat} {A : Option Addr} {len c : Nat} {w : World} (h : BIn 40 ts A len c w) : ofBE ts < 256 ^ 40 := by
  unfold ofBE
  have h1 := ofD_lt (B := 256) (xs := ts.reverse) fun d hd => h.2.2.2.2 d (List.mem_reverse.1 hd)
  refine Nat.lt_of_lt_of_le h1 (Nat.pow_le_pow_right (by decide) ?_)
  rw [List.length_reverse, h.2.1]
  exact Nat.min_le_right _ _
theorem bg_40 : 256 ^ 40 + 256 ^ 40 < Bg := by unfold Bg; decide +kernel
theorem prm_bg (k : Nat) (h1 : 1 ≤ k) (h6 : k ≤ 6) : prm k < Bg :=
  six_of (P := fun k => prm k < Bg) (by refine ⟨?_, ?_, ?_, ?_, ?_, ?_⟩ <;> (unfold Bg; decide +kernel)) k h1 h6
theorem cp_pr (c : Nat) (h1 : 1 ≤ c) (h3 : c ≤ 3) : Pr (cp c) := three_of (P := fun c => Pr (cp c)) pr_1 pr_3 pr_5 c h1 h3

theorem group_any {k : Int} {x0 y0 x1 y1 x2 y2 : Nat} {i0 i1 i2 : Bool} {KA MA : Option Addr} {kt mt : List Nat} {kl ml kc mc : Nat} {w : World}
    (hx0 : x0 < B64 ^ 6) (hy0 : y0 < B64 ^ 6) (hx1 : x1 < B64 ^ 6) (hy1 : y1 < B64 ^ 6) (hx2 : x2 < B64 ^ 6) (hy2 : y2 < B64 ^ 6) (hkr : BIn 40 kt KA kl kc w) (hmr : BIn 40 mt MA ml mc w) :
    Calls Tryz.prog 4 #[.agg ([Value.int .i64 k] ++ (elC x0 ++ (elC y0 ++ ([Value.bool i0] ++ (elC x1 ++ (elC y1 ++ ([Value.bool i1] ++ (elC x2 ++ (elC y2 ++ ([Value.bool i2] ++ ([Value.slice KA kl kc] ++ [Value.slice MA ml mc]))))))))))).toArray] w (Ret w (.bool true)) := by
  by_cases hc : ∃ c : Nat, 1 ≤ c ∧ c ≤ 3 ∧ k = (c : Int)
  · obtain ⟨c, h1, h3, rfl⟩ := hc
    have hp := cp_pr c h1 h3
    cases e0 : onc c x0 y0 i0 with
    | false => exact group_off0 h1 h3 hx0 hy0 e0
    | true =>
    have hP := Pn.inp hx0 hy0 e0
    cases e1 : onc c x1 y1 i1 with
    | false => exact group_off1 h1 h3 hP hx1 hy1 e1
    | true =>
    have hQ := Pn.inp hx1 hy1 e1
    cases e2 : onc c x2 y2 i2 with
    | false => exact group_off2 h1 h3 hP hQ hx2 hy2 e2
    | true =>
    have hR := Pn.inp hx2 hy2 e2
    have hG := gen_p h1 h3
    have t3 := three_ne c h1 h3
    have cb := cb_ne c h1 h3
    have oS := grp_on hP.nf hQ.nf hP.on hQ.on
    have oB := grp_on hQ.nf hR.nf hQ.on hR.on
    have oA := grp_on (gadd_nf _ _) hR.nf oS hR.on
    have oN := grp_neg_on hP.on
    have oK := grp_mul_on t3 cb hP.nf hP.on (ofBE kt)
    have oM := grp_mul_on t3 cb hP.nf hP.on (ofBE mt)
    have eU := grp_mul_add t3 cb hP.nf hP.on (ofBE kt) (ofBE mt)
    have oU := grp_mul_on t3 cb hP.nf hP.on (ofBE kt + ofBE mt)
    have lK := ofBE_40 hkr
    have lM := ofBE_40 hmr
    have lB := bg_40
    have nS := Pn.out h1 h3 (gadd_nf _ _) oS
    have nA := Pn.out h1 h3 (gadd_nf _ _) oA
    have nB := Pn.out h1 h3 (gadd_nf _ _) oB
    have nN := Pn.out h1 h3 (gneg_nf hP.nf) oN
    have nU := Pn.out h1 h3 (gmul_nf _ _) oU
    have nK := Pn.out h1 h3 (gmul_nf _ _) oK
    have nM := Pn.out h1 h3 (gmul_nf _ _) oM
    have eS2 := (grp_comm hP.nf hQ.nf hP.on hQ.on).symm
    have eA2 := (grp_assoc t3 cb hP.nf hQ.nf hR.nf hP.on hQ.on hR.on).symm
    have eZ := grp_neg hP.nf hP.on
    have eO : gmul Fd.finv (gI c (gxN c) (gyN c) false) (ofBE (beb (prm (2 * c)))) = ⟨0, 0, true⟩ := by rw [ofBE_beb]; exact gen_ord c h1 h3
    have eG : (gmul Fd.finv (gI c (gxN c) (gyN c) false) (prm (2 * c))).inf = true := by rw [gen_ord c h1 h3]
    have e11 : gmul Fd.finv (gI c x0 y0 i0) (ofBE [1]) = gI c x0 y0 i0 := grp_mul_one t3 cb hP.nf hP.on
    have hO := prm_bg (2 * c) (by omega) (by omega)
    have eU2 : gmul Fd.finv (gI c x0 y0 i0) (ofBE (beb (ofBE kt + ofBE mt))) = gmul Fd.finv (gI c x0 y0 i0) (ofBE kt + ofBE mt) := by rw [ofBE_beb]
    cases i0 with
    | true => exact group_t h1 h3 hP hQ hR hG nS nA nB nN nU nK nM rfl eS2 rfl rfl eA2 rfl eZ rfl rfl eU eU2 eO e11 eG (by omega) (by omega) (by omega) hO hkr hmr
    | false => exact group_f h1 h3 hP hQ hR hG nS nA nB nN nU nK nM rfl eS2 rfl rfl eA2 rfl eZ rfl rfl eU eU2 eO e11 eG (by omega) (by omega) (by omega) hO hkr hmr
  · exact group_bad (fun i h1 h3 e => hc ⟨i.toNat, by omega, by omega, by omega⟩)

theorem gf1 : Tryz.prog.inPlace 4 = Rows.curveGroupRow.inPlace := by kernel_rfl
theorem gf2 : Tryz.prog.unfollowed 4 = Rows.curveGroupRow.unfollowed := by kernel_rfl
theorem gf3 : Tryz.prog.recurses 4 = Rows.curveGroupRow.recurses := by kernel_rfl
theorem gf4 : Tryz.prog.varsNamed 4 = Rows.curveGroupRow.named := by kernel_rfl

set_option maxRecDepth 100000 in
theorem lifted (os : Os) (started : os.Started) (H : Type) (enc : TypeId × Value → H) :
    ReturnsInHanded {} Tryz.checked os 4 .any (Rows.curveGroupSpec.pre6 enc Tryz.prog Tryz.f4 Rows.curveGroupRow.domain false) (Rows.curveGroupSpec.post enc Tryz.prog Tryz.f4 false true false false) := by
  refine returnsInHanded_of_change (C := Tryz.checked) own started (by kernel_rfl) Tryz.func4
    (ChangeSpec.witness6 (enc := enc) (C := Tryz.checked) false ⟨#[], #[.agg ([Value.int .i64 0] ++ (List.replicate 12 (Value.int .u64 0) ++ ([Value.bool false] ++ (List.replicate 12 (Value.int .u64 0) ++ ([Value.bool false] ++ (List.replicate 12 (Value.int .u64 0) ++ ([Value.bool false] ++ [Value.slice none 0 0, Value.slice none 0 0]))))))).toArray], []⟩ 8 (by kernel_rfl) (by kernel_rfl) (by kernel_rfl) (by kernel_rfl)) ?_
  intro W base args ds gs before hval0 hW hcnd _
  have hval : ∀ (j : Nat) t v, Tryz.f4.params[j]? = some t → args[j]? = some v → Value.okWide Tryz.prog W .any base t v := hval0
  have hW' := hW
  obtain ⟨p, q, hA0, hV, rfl, hfz, hnd⟩ := hW
  have hA : DataW.TrodAll enc Tryz.prog W 0 (fun _ => true) true Tryz.f4.params.toList args.toList ds p := hA0
  rw [Tryz.params4] at hA hval
  obtain ⟨v0, vs0, d0, ds0, p0, q0, hargs, rfl, rfl, h0, r0⟩ := trodAll_cons hA
  obtain ⟨rfl, rfl, rfl⟩ := trodAll_nil r0
  obtain rfl : args = #[v0] := by cases args; simp_all
  obtain ⟨rfl, rfl⟩ := trodVars_none hV
  have k0 := h0
  have lt0 : ∀ x ∈ p0, x.block < W.heap.size := by obtain ⟨m, hm⟩ := k0; exact DataW.trod_lt m _ _ _ hm
  obtain ⟨k, x0, y0, x1, y1, x2, y2, i0, i1, i2, KA, MA, kt, mt, kl, ml, kc, mc, hx0, hy0, hx1, hy1, hx2, hy2, bK, bM, rfl⟩ := open_one (hval 0 29 v0 rfl rfl) h0
  clear hA0 hval0
  refine (group_any hx0 hy0 hx1 hy1 hx2 hy2 bK bM).mono fun e W' ⟨he, bel⟩ => ?_
  subst he
  exact ⟨_, rfl, _, _, _, [], _, [], hW', trodAll_mk1 (shut_bool Tryz.underlying4 _), (trodAll_cons_mk (Below.trod laidOut (by kernel_rfl) (of_decide_eq_true (by kernel_rfl)) k0 bel lt0) trodAll_mk0), rfl, bel.frame _, fun h => by cases h⟩

theorem over : Rows.curveGroupRow.holds Tryz.pinned (OpenSpec.ofChange Rows.curveGroupSpec) :=
  OpenClaim.holds_of_wide 4 Tryz.f4 rfl rfl rfl rfl rfl rfl rfl ⟨rfl, rfl, rfl, rfl, rfl⟩ rfl rfl rfl rfl rfl (by kernel_rfl) Tryz.func4
    (joined_of (by kernel_rfl) (by kernel_rfl) (by kernel_rfl) (by kernel_rfl) gf1 gf2 gf3 gf4 (by kernel_rfl) rfl rfl rfl rfl (by kernel_rfl)) (of_decide_eq_true (by kernel_rfl)) (by unfold Func.isWrapper; first | (rw [if_pos (by decide +kernel)]; kernel_rfl) | (rw [if_neg (by decide +kernel)]; exact ⟨rfl, rfl⟩))
    (fun os started H enc _ => lifted os started H enc)

/-- The statement. -/
theorem curveGroup_proved : Rows.CurveGroupSaid := over
#print axioms curveGroup_proved
end Go.Proofs.YtjokcbjahidckaaGreat
