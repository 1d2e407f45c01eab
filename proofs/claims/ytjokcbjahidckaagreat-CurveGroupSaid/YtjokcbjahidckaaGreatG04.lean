/- Texts put together: Ones, Law, GroupQ, OrdG, GrpL, Nat1, Nat2, Nat3, Nat4, Nat5, Nat6, Frm, Keep, Byt, RefN. Conditions: those of each part. -/
import Derived.Test.YtjokcbjahidckaaGreatG03
import Derived.OwnWalk
import Derived.Laws.AppendOwnNone
set_option linter.unusedVariables false
/-! curve.Gen1, On1, In1, Neg1, Add1, Mul1: what they answer. Conditions: numbers have six limbs. -/
namespace Go.Proofs.YtjokcbjahidckaaGreat
open Go.RowKit

abbrev cp (c : Nat) : Nat := prm (2 * c - 1)
abbrev cn (c : Nat) : Nat := pml (2 * c - 1)
def gI (c : Nat) [Pr (cp c)] (x y : Nat) (i : Bool) : GP (Zm (cp c)) := gin x y i
/-- Is it a point of curve c? -/
abbrev onc (c : Nat) [Pr (cp c)] (x y : Nat) (i : Bool) : Bool := p1on (Zm.of (cbN c) : Zm (prm (2 * c - 1))) x y i
def gox {p : Nat} (P : GP (Zm p)) : Nat := if P.inf then 0 else P.x.val
def goy {p : Nat} (P : GP (Zm p)) : Nat := if P.inf then 0 else P.y.val
theorem cout_p1 {fc f q a p n v z : Nat} [Pr p] {b : Zm p} {P : GP (Zm p)} {w : World} (hC : CAt w fc f q a p n v z b) : Calls Tryz.prog 100 #[.pointer (some ⟨fc, 0, none⟩), fp p n P] w (Ret w (p1 (gox P) (goy P) P.inf)) := by
  have := cout_any (P := P) hC
  unfold gout at this
  unfold gox goy
  cases hi : P.inf with
  | true => rw [hi] at this; exact this
  | false => rw [hi] at this; exact this
theorem FirstB.c2 {w : World} {fc f q o a v c : Nat} (h : FirstB w fc f q o a v c) : w.cell? ⟨fc, 2, none⟩ = some (.slice (some ⟨o, 0, none⟩) (pml (2 * c)) (pml (2 * c))) := by simp only [World.cell?]; rw [h.own]; rfl
theorem FirstB.c3 {w : World} {fc f q o a v c : Nat} (h : FirstB w fc f q o a v c) : w.rangeAt fc 3 (elC (gxN c) ++ (elC (gyN c) ++ [Value.bool false])) := rangeAt_of h.own (by kernel_rfl)
section
variable {c pb : Nat} {x0 y0 x1 y1 : Nat} {i0 i1 : Bool} {w : World}
theorem heap_lt {w : World} {b : Nat} {o : Obj} (h : w.heap[b]? = some o) : b < w.heap.size := (Array.getElem?_eq_some_iff.1 h).1
theorem w1t (h1 : 1 ≤ c) (h3 : c ≤ 3) [Pr (cp c)] (hx0 : x0 < B64 ^ 6) (hy0 : y0 < B64 ^ 6) (e0 : onc c x0 y0 i0 = true) (h : w.heap[pb]? = some (.cells (elC x0 ++ (elC y0 ++ [Value.bool i0])).toArray 26 (0, 0))) : Calls Tryz.prog 99 #[.int .i64 (c : Nat), .slice (some ⟨pb, 0, none⟩) 1 1] w (FirstR w c) :=
  with_1t h1 h3 hx0 hy0 e0 (heap_lt h) (rangeAt_of h (by kernel_rfl))
theorem w1f (h1 : 1 ≤ c) (h3 : c ≤ 3) [Pr (cp c)] (hx0 : x0 < B64 ^ 6) (hy0 : y0 < B64 ^ 6) (e0 : onc c x0 y0 i0 = false) (h : w.heap[pb]? = some (.cells (elC x0 ++ (elC y0 ++ [Value.bool i0])).toArray 26 (0, 0))) : Calls Tryz.prog 99 #[.int .i64 (c : Nat), .slice (some ⟨pb, 0, none⟩) 1 1] w (Ret w (.tuple #[.pointer none, .int .i64 4])) :=
  with_1f h1 h3 hx0 hy0 e0 (heap_lt h) (rangeAt_of h (by kernel_rfl))
theorem w2tt (h1 : 1 ≤ c) (h3 : c ≤ 3) [Pr (cp c)] (hx0 : x0 < B64 ^ 6) (hy0 : y0 < B64 ^ 6) (hx1 : x1 < B64 ^ 6) (hy1 : y1 < B64 ^ 6) (e0 : onc c x0 y0 i0 = true) (e1 : onc c x1 y1 i1 = true) (h : w.heap[pb]? = some (.cells (elC x0 ++ (elC y0 ++ ([Value.bool i0] ++ (elC x1 ++ (elC y1 ++ [Value.bool i1]))))).toArray 26 (0, 0))) : Calls Tryz.prog 99 #[.int .i64 (c : Nat), .slice (some ⟨pb, 0, none⟩) 2 2] w (FirstR w c) :=
  with_2tt h1 h3 hx0 hy0 e0 hx1 hy1 e1 (heap_lt h) (rangeAt_of h (by kernel_rfl)) (rangeAt_of h (by kernel_rfl))
theorem w2tf (h1 : 1 ≤ c) (h3 : c ≤ 3) [Pr (cp c)] (hx0 : x0 < B64 ^ 6) (hy0 : y0 < B64 ^ 6) (hx1 : x1 < B64 ^ 6) (hy1 : y1 < B64 ^ 6) (e0 : onc c x0 y0 i0 = true) (e1 : onc c x1 y1 i1 = false) (h : w.heap[pb]? = some (.cells (elC x0 ++ (elC y0 ++ ([Value.bool i0] ++ (elC x1 ++ (elC y1 ++ [Value.bool i1]))))).toArray 26 (0, 0))) : Calls Tryz.prog 99 #[.int .i64 (c : Nat), .slice (some ⟨pb, 0, none⟩) 2 2] w (Ret w (.tuple #[.pointer none, .int .i64 4])) :=
  with_2tf h1 h3 hx0 hy0 e0 hx1 hy1 e1 (heap_lt h) (rangeAt_of h (by kernel_rfl)) (rangeAt_of h (by kernel_rfl))
theorem w2f (h1 : 1 ≤ c) (h3 : c ≤ 3) [Pr (cp c)] (hx0 : x0 < B64 ^ 6) (hy0 : y0 < B64 ^ 6) (e0 : onc c x0 y0 i0 = false) (h : w.heap[pb]? = some (.cells (elC x0 ++ (elC y0 ++ ([Value.bool i0] ++ (elC x1 ++ (elC y1 ++ [Value.bool i1]))))).toArray 26 (0, 0))) : Calls Tryz.prog 99 #[.int .i64 (c : Nat), .slice (some ⟨pb, 0, none⟩) 2 2] w (Ret w (.tuple #[.pointer none, .int .i64 4])) :=
  with_2f h1 h3 hx0 hy0 e0 (heap_lt h) (rangeAt_of h (by kernel_rfl))
end
theorem from_r {A : Option Addr} {cap : Nat} {bs : List Nat} {w : World} (hc : bs.length ≤ cap) (hr : Rd w .u8 A bs) (hd : Digs 256 bs) : Calls Tryz.prog 105 #[.slice A bs.length cap] w (RetR w (fun d => .slice (d.o 0) (lm (ofBE bs)).length (d.n 0)) (SlR .u64 (lm (ofBE bs)))) := by
  refine (from_any A cap bs w hc hr hd).mono ?_
  rintro e w' ⟨v, rfl, hb, A, cap, rfl, hc, hr, hA⟩
  exact ⟨⟨fun _ => cap, fun _ => A, fun _ => undef⟩, rfl, hb, hc, hr⟩
theorem mul_r {q a p n v x : Nat} [Pr p] {b : Zm p} {P : GP (Zm p)} {A : Option Addr} {cap : Nat} {w : World} (hG : GrAt w q a p n v b) (h : SlR .u64 (lm x) ⟨fun _ => cap, fun _ => A, fun _ => undef⟩ w) : Calls Tryz.prog 104 #[.pointer (some ⟨q, 0, none⟩), fp p n P, .slice A (lm x).length cap] w (Ret w (fp p n (gmul Fd.finv P x))) := by
  have hv : ofD B64 (lm x) = x := ofD_dig (by decide) _
  have := gmul_any (P := P) rfl hG h.1 h.2 (Digs.dig (by decide) _)
  rwa [hv] at this
theorem ord_mul {q a p n v o c : Nat} (h1 : 1 ≤ c) (h3 : c ≤ 3) [Pr p] {b : Zm p} {P : GP (Zm p)} {w : World} (hO : OrdB w o (prm (2 * c))) (hG : GrAt w q a p n v b) : Calls Tryz.prog 104 #[.pointer (some ⟨q, 0, none⟩), fp p n P, .slice (some ⟨o, 0, none⟩) (pml (2 * c)) (pml (2 * c))] w (Ret w (fp p n (gmul Fd.finv P (prm (2 * c))))) := by
  obtain ⟨hlt, -, -, -⟩ := prm_lt (2 * c) (by omega) (by omega)
  have hm : pml (2 * c) ≤ 6 := by unfold pml; split <;> omega
  have hl : ((digs B64 6 (prm (2 * c))).take (pml (2 * c))).length = pml (2 * c) := by rw [List.length_take, length_digs]; exact Nat.min_eq_left hm
  have hv := digs_take hlt hm
  have := gmul_any (P := P) rfl hG (A := some ⟨o, 0, none⟩) (ks := (digs B64 6 (prm (2 * c))).take (pml (2 * c))) (cap := pml (2 * c)) (Nat.le_of_eq hl) ((rd_own hO).take _) ((Digs.digs (by decide) _ _).take _)
  rwa [hl, hv] at this

set_option maxRecDepth 100000 in
set_option maxHeartbeats 2000000 in
theorem gen1_bad {k : Int} (hk : ∀ i : Int, 1 ≤ i → i ≤ 3 → k ≠ i) {w : World} : Calls Tryz.prog 24 #[.int .i64 k] w (Ret w (.tuple #[.agg ((Z6 ++ (Z6 ++ [Value.bool false]))).toArray, .int .i64 1])) := by
  refine calls_of_wp Tryz.func24 (by rfl : Tryz.f24.body = some _) ?_
  have hF : Fr [(0, .int .i64 k)] 19 _ := Fr.start (args := #[.int .i64 k]) (m := 19) (by simp)
  have hI := Inv.start0 w
  refine wp_seq ?_
  refine sy [] #[.new [] (fun _ => ((Z6 ++ (Z6 ++ [Value.bool false]))).toArray) 26,
      va (.int .i64 0)]
    (fun g1 => [(0, .int .i64 k), (2, pt (g1.γ 0)), (3, .int .i64 0)]) (fun g1 => [((g1.γ 0), (Z6 ++ (Z6 ++ [Value.bool false])), 26)]) (fun _ => [])
    hF hI trivial (fun g => ⟨nw,
      pv, trivial⟩) ?_
  intro g1 a1 w1 hF hI
  refine wp_seq ?_
  refine sy [] #[va (.int .i64 k),
      va (.tuple #[.pointer none, .int .i64 1]),
      va (.tuple #[.pointer none, .int .i64 1]),
      va (.pointer none),
      va (.int .i64 1),
      va (.pointer none),
      va (.int .i64 1)]
    (fun g2 => [(2, pt (g1.γ 0)), (3, .int .i64 0), (4, .pointer none), (5, .int .i64 1)]) (fun _ => [((g1.γ 0), (Z6 ++ (Z6 ++ [Value.bool false])), 26)]) (fun _ => [])
    hF hI trivial (fun g => ⟨pv,
      cv fun w hI hfa => with_bad0 hk,
      pv,
      pv,
      pv,
      pv,
      pv, trivial⟩) ?_
  intro g2 a2 w2 hF hI
  refine wp_seq ?_
  refine wp_seq ?_
  refine sy [] #[va (.int .i64 1),
      va (.bool true)]
    (fun g3 => [(2, pt (g1.γ 0)), (3, .int .i64 0), (4, .pointer none), (5, .int .i64 1), (12, .bool true)]) (fun _ => [((g1.γ 0), (Z6 ++ (Z6 ++ [Value.bool false])), 26)]) (fun _ => [])
    hF hI trivial (fun g => ⟨pv,
      pv, trivial⟩) ?_
  intro g3 a3 w3 hF hI
  refine wp_cond_true (hF.eval rfl) ?_
  refine wp_seq ?_
  refine wp_region_cut 3 (by kernel_rfl) (by kernel_rfl) ?_
  refine sym_text_store (P := Tryz.prog) [26] #[va (.agg ((Z6 ++ (Z6 ++ [Value.bool false]))).toArray),
      va (.int .i64 1)]
    (fun g4 => [(2, pt (g1.γ 0)), (3, .int .i64 0), (4, .pointer none), (14, .int .i64 1)]) (fun g4 => [((g1.γ 0), (Z6 ++ (Z6 ++ [Value.bool false])), 26)]) (fun g4 => [((g1.γ 0), (Z6 ++ (Z6 ++ [Value.bool false])), 26)]) (fun g4 => []) 0
    hF hI trivial (by kernel_rfl) (by kernel_rfl) (fun g => ⟨pv,
      pv, trivial⟩) (fun g => ⟨by kernel_rfl, by kernel_rfl⟩) (fun g => by kernel_rfl) (fun g => by kernel_rfl) rfl rfl rfl rfl
    (fun g => ⟨(g1.γ 0), 0, (Z6 ++ (Z6 ++ [Value.bool false])), 26, .agg ((Z6 ++ (Z6 ++ [Value.bool false]))).toArray, by kernel_rfl, by kernel_rfl, by kernel_rfl, by kernel_rfl, by kernel_rfl, rfl, by kernel_rfl, by kernel_rfl, by kernel_rfl, by kernel_rfl⟩)
    ?_
  intro g4 a4 w4 hF hI
  show TextOps _ _ _ _ _
  refine sx [] #[va (.int .i64 1)]
    (fun g5 => [(2, pt (g1.γ 0)), (3, .int .i64 1), (4, .pointer none)]) (fun _ => [((g1.γ 0), (Z6 ++ (Z6 ++ [Value.bool false])), 26)]) (fun _ => [])
    hF hI trivial (fun g => ⟨pv, trivial⟩) ?_
  intro g5 a5 w5 hF hI
  refine wp_ret ?_
  show bodyPost Tryz.prog Tryz.f24 (Ret w (.tuple #[.agg ((Z6 ++ (Z6 ++ [Value.bool false]))).toArray, .int .i64 1])) .ret _ _
  exact sym_ret2 rfl hF.df (rv_cell 0 hF rfl hI rfl Tryz.underlying26 rfl (by kernel_rfl)) (rv_tmp hF rfl) ⟨rfl, hI.below⟩

set_option maxRecDepth 100000 in
set_option maxHeartbeats 2000000 in
theorem gen1_ok {c : Nat} (h1 : 1 ≤ c) (h3 : c ≤ 3) [Pr (cp c)] {w : World} : Calls Tryz.prog 24 #[.int .i64 (c : Nat)] w (Ret w (.tuple #[.agg ((elC ((gxN c)) ++ (elC ((gyN c)) ++ [Value.bool false]))).toArray, .int .i64 0])) := by
  refine calls_of_wp Tryz.func24 (by rfl : Tryz.f24.body = some _) ?_
  have hF : Fr [(0, .int .i64 (c : Nat))] 19 _ := Fr.start (args := #[.int .i64 (c : Nat)]) (m := 19) (by simp)
  have hI := Inv.start0 w
  refine wp_seq ?_
  refine sy [] #[.new [] (fun _ => ((Z6 ++ (Z6 ++ [Value.bool false]))).toArray) 26,
      va (.int .i64 0)]
    (fun g1 => [(0, .int .i64 (c : Nat)), (2, pt (g1.γ 0)), (3, .int .i64 0)]) (fun g1 => [((g1.γ 0), (Z6 ++ (Z6 ++ [Value.bool false])), 26)]) (fun _ => [])
    hF hI trivial (fun g => ⟨nw,
      pv, trivial⟩) ?_
  intro g1 a1 w1 hF hI
  refine wp_seq ?_
  refine sy [] #[va (.int .i64 (c : Nat)),
      .ex [] (fun d => .tuple #[.pointer (some ⟨d.n 0, 0, none⟩), .int .i64 0]) (fun _ d => fun w => FirstB w (d.n 0) (d.n 1) (d.n 2) (d.n 3) (d.n 4) (d.n 5) c),
      .val [1] (fun l => .tuple #[pt ((l.getD 0 dat0).n 0), .int .i64 0]),
      .val [1] (fun l => pt ((l.getD 0 dat0).n 0)),
      va (.int .i64 0),
      .val [1] (fun l => pt ((l.getD 0 dat0).n 0)),
      va (.int .i64 0)]
    (fun g2 => [(2, pt (g1.γ 0)), (3, .int .i64 0), (4, pt ((g2.δ 1).n 0)), (5, .int .i64 0)]) (fun _ => [((g1.γ 0), (Z6 ++ (Z6 ++ [Value.bool false])), 26)]) (fun g2 => [fun w => FirstB w ((g2.δ 1).n 0) ((g2.δ 1).n 1) ((g2.δ 1).n 2) ((g2.δ 1).n 3) ((g2.δ 1).n 4) ((g2.δ 1).n 5) c])
    hF hI trivial (fun g => ⟨pv,
      cx (fun l d w w1 hg h => FirstB.grow hg rfl rfl rfl rfl rfl h) fun w hI hfa => with_0 h1 h3,
      pv,
      pv,
      pv,
      pv,
      pv, trivial⟩) ?_
  intro g2 a2 w2 hF hI
  refine wp_seq ?_
  refine wp_seq ?_
  refine sy [] #[va (.int .i64 0),
      va (.bool false)]
    (fun g3 => [(2, pt (g1.γ 0)), (3, .int .i64 0), (4, pt ((g2.δ 1).n 0)), (5, .int .i64 0), (12, .bool false)]) (fun _ => [((g1.γ 0), (Z6 ++ (Z6 ++ [Value.bool false])), 26)]) (fun _ => [fun w => FirstB w ((g2.δ 1).n 0) ((g2.δ 1).n 1) ((g2.δ 1).n 2) ((g2.δ 1).n 3) ((g2.δ 1).n 4) ((g2.δ 1).n 5) c])
    hF hI ⟨(fun w w1 hg h => FirstB.grow hg rfl rfl rfl rfl rfl h), trivial⟩ (fun g => ⟨pv,
      pv, trivial⟩) ?_
  intro g3 a3 w3 hF hI
  refine wp_cond_false (hF.eval rfl) ?_
  refine wp_skip ?_
  refine wp_seq ?_
  refine ss3 [] #[va (pt ((g2.δ 1).n 0)),
      va (pt ((g2.δ 1).n 0)),
      va (.pointer (some ⟨((g2.δ 1).n 0), 3, none⟩)),
      va (.agg ((elC ((gxN c)) ++ (elC ((gyN c)) ++ [Value.bool false]))).toArray)]
    (fun g4 => [(2, pt (g1.γ 0))]) (fun _ => [((g1.γ 0), (elC ((gxN c)) ++ (elC ((gyN c)) ++ [Value.bool false])), 26)]) (fun _ => [fun w => FirstB w ((g2.δ 1).n 0) ((g2.δ 1).n 1) ((g2.δ 1).n 2) ((g2.δ 1).n 3) ((g2.δ 1).n 4) ((g2.δ 1).n 5) c]) 0 0
    hF hI ⟨(fun w w1 hg h => FirstB.grow hg rfl rfl rfl rfl rfl h), trivial⟩ (fun g => ⟨pv,
      pv,
      pv,
      lR (fun w hI hfa => (hI.fact 0 rfl).c3) rfl, trivial⟩) rfl rfl rfl rfl rfl rfl ?_
  intro g4 a4 w4 hF hI
  refine wp_ret ?_
  show bodyPost Tryz.prog Tryz.f24 (Ret w (.tuple #[.agg ((elC ((gxN c)) ++ (elC ((gyN c)) ++ [Value.bool false]))).toArray, .int .i64 0])) .ret _ _
  exact sym_ret2 rfl hF.df (rv_cell 0 hF rfl hI rfl Tryz.underlying26 rfl (by kernel_rfl)) (rv_tmp hF rfl) ⟨rfl, hI.below⟩

set_option maxRecDepth 100000 in
set_option maxHeartbeats 2000000 in
theorem on1_bad {k : Int} (hk : ∀ i : Int, 1 ≤ i → i ≤ 3 → k ≠ i) {x0 y0 : Nat} {i0 : Bool} {w : World} : Calls Tryz.prog 29 #[.int .i64 k, .agg ((elC x0 ++ (elC y0 ++ [Value.bool i0]))).toArray] w (Ret w (.bool false)) := by
  refine calls_of_wp Tryz.func29 (by rfl : Tryz.f29.body = some _) ?_
  have hF : Fr [(0, .int .i64 k), (1, .agg ((elC x0 ++ (elC y0 ++ [Value.bool i0]))).toArray)] 16 _ := Fr.start (args := #[.int .i64 k, .agg ((elC x0 ++ (elC y0 ++ [Value.bool i0]))).toArray]) (m := 16) (by simp)
  have hI := Inv.start0 w
  refine wp_seq ?_
  refine sy [] #[.new [] (fun _ => ((elC x0 ++ (elC y0 ++ [Value.bool i0]))).toArray) 26,
      va (.bool false)]
    (fun g1 => [(0, .int .i64 k), (3, pt (g1.γ 0)), (4, .bool false)]) (fun g1 => [((g1.γ 0), (elC x0 ++ (elC y0 ++ [Value.bool i0])), 26)]) (fun _ => [])
    hF hI trivial (fun g => ⟨nw,
      pv, trivial⟩) ?_
  intro g1 a1 w1 hF hI
  refine wp_seq ?_
  refine sy [] #[va (.int .i64 k),
      va (.agg ((elC x0 ++ (elC y0 ++ [Value.bool i0]))).toArray),
      .ex [] (fun d => .slice (some ⟨d.n 0, 0, none⟩) 1 1) (fun _ d => fun w => w.heap[d.n 0]? = some (.cells ((elC x0 ++ (elC y0 ++ [Value.bool i0]))).toArray 26 (0, 0))),
      va (.tuple #[.pointer none, .int .i64 1]),
      va (.tuple #[.pointer none, .int .i64 1]),
      va (.pointer none),
      va (.int .i64 1),
      va (.pointer none),
      va (.int .i64 1)]
    (fun g2 => [(4, .bool false), (6, .int .i64 1)]) (fun _ => [((g1.γ 0), (elC x0 ++ (elC y0 ++ [Value.bool i0])), 26)]) (fun g2 => [fun w => w.heap[(g2.δ 2).n 0]? = some (.cells ((elC x0 ++ (elC y0 ++ [Value.bool i0]))).toArray 26 (0, 0))])
    hF hI trivial (fun g => ⟨pv,
      lk 0 0 rfl rfl,
      ⟨fun l d w w1 hg h => hg.block _ _ h fun C t fr e => by cases e; rfl, by kernel_rfl, fun w hI hfa => exU_slice (by kernel_rfl)⟩,
      cv fun w hI hfa => with_bad1 (pb := ((g.δ 2).n 0)) hk,
      pv,
      pv,
      pv,
      pv,
      pv, trivial⟩) ?_
  intro g2 a2 w2 hF hI
  refine wp_seq ?_
  have hI := hI.phi [] trivial
  refine sy [] #[va (.int .i64 1),
      va (.bool false),
      va (.bool false)]
    (fun g3 => [(4, .bool false)]) (fun _ => [((g1.γ 0), (elC x0 ++ (elC y0 ++ [Value.bool i0])), 26)]) (fun _ => [])
    hF hI trivial (fun g => ⟨pv,
      pv,
      pv, trivial⟩) ?_
  intro g3 a3 w3 hF hI
  refine wp_ret ?_
  show bodyPost Tryz.prog Tryz.f29 (Ret w (.bool false)) .ret _ _
  exact sym_ret rfl hF.df (rv_tmp hF rfl) ⟨rfl, hI.below⟩

set_option maxRecDepth 100000 in
set_option maxHeartbeats 2000000 in
theorem on1_t {c : Nat} (h1 : 1 ≤ c) (h3 : c ≤ 3) [Pr (cp c)] {x0 y0 : Nat} {i0 : Bool} (hx0 : x0 < B64 ^ 6) (hy0 : y0 < B64 ^ 6) (e0 : onc c x0 y0 i0 = true) {w : World} : Calls Tryz.prog 29 #[.int .i64 (c : Nat), .agg ((elC x0 ++ (elC y0 ++ [Value.bool i0]))).toArray] w (Ret w (.bool true)) := by
  refine calls_of_wp Tryz.func29 (by rfl : Tryz.f29.body = some _) ?_
  have hF : Fr [(0, .int .i64 (c : Nat)), (1, .agg ((elC x0 ++ (elC y0 ++ [Value.bool i0]))).toArray)] 16 _ := Fr.start (args := #[.int .i64 (c : Nat), .agg ((elC x0 ++ (elC y0 ++ [Value.bool i0]))).toArray]) (m := 16) (by simp)
  have hI := Inv.start0 w
  refine wp_seq ?_
  refine sy [] #[.new [] (fun _ => ((elC x0 ++ (elC y0 ++ [Value.bool i0]))).toArray) 26,
      va (.bool false)]
    (fun g1 => [(0, .int .i64 (c : Nat)), (3, pt (g1.γ 0)), (4, .bool false)]) (fun g1 => [((g1.γ 0), (elC x0 ++ (elC y0 ++ [Value.bool i0])), 26)]) (fun _ => [])
    hF hI trivial (fun g => ⟨nw,
      pv, trivial⟩) ?_
  intro g1 a1 w1 hF hI
  refine wp_seq ?_
  refine sy [] #[va (.int .i64 (c : Nat)),
      va (.agg ((elC x0 ++ (elC y0 ++ [Value.bool i0]))).toArray),
      .ex [] (fun d => .slice (some ⟨d.n 0, 0, none⟩) 1 1) (fun _ d => fun w => w.heap[d.n 0]? = some (.cells ((elC x0 ++ (elC y0 ++ [Value.bool i0]))).toArray 26 (0, 0))),
      .ex [] (fun d => .tuple #[.pointer (some ⟨d.n 0, 0, none⟩), .int .i64 0]) (fun _ d => fun w => FirstB w (d.n 0) (d.n 1) (d.n 2) (d.n 3) (d.n 4) (d.n 5) c),
      .val [3] (fun l => .tuple #[pt ((l.getD 0 dat0).n 0), .int .i64 0]),
      .val [3] (fun l => pt ((l.getD 0 dat0).n 0)),
      va (.int .i64 0),
      .val [3] (fun l => pt ((l.getD 0 dat0).n 0)),
      va (.int .i64 0)]
    (fun g2 => [(4, .bool false), (6, .int .i64 0)]) (fun _ => [((g1.γ 0), (elC x0 ++ (elC y0 ++ [Value.bool i0])), 26)]) (fun g2 => [fun w => w.heap[(g2.δ 2).n 0]? = some (.cells ((elC x0 ++ (elC y0 ++ [Value.bool i0]))).toArray 26 (0, 0)), fun w => FirstB w ((g2.δ 3).n 0) ((g2.δ 3).n 1) ((g2.δ 3).n 2) ((g2.δ 3).n 3) ((g2.δ 3).n 4) ((g2.δ 3).n 5) c])
    hF hI trivial (fun g => ⟨pv,
      lk 0 0 rfl rfl,
      ⟨fun l d w w1 hg h => hg.block _ _ h fun C t fr e => by cases e; rfl, by kernel_rfl, fun w hI hfa => exU_slice (by kernel_rfl)⟩,
      cx (fun l d w w1 hg h => FirstB.grow hg rfl rfl rfl rfl rfl h) fun w hI hfa => w1t h1 h3 hx0 hy0 e0 (hfa 2 _ _ _ (by kernel_rfl) rfl),
      pv,
      pv,
      pv,
      pv,
      pv, trivial⟩) ?_
  intro g2 a2 w2 hF hI
  refine wp_seq ?_
  have hI := hI.phi [fun w => FirstB w ((g2.δ 3).n 0) ((g2.δ 3).n 1) ((g2.δ 3).n 2) ((g2.δ 3).n 3) ((g2.δ 3).n 4) ((g2.δ 3).n 5) c] ⟨hI.fact 1 rfl, trivial⟩
  refine sy [] #[va (.int .i64 0),
      va (.bool true),
      va (.bool true)]
    (fun g3 => [(4, .bool true)]) (fun _ => [((g1.γ 0), (elC x0 ++ (elC y0 ++ [Value.bool i0])), 26)]) (fun _ => [fun w => FirstB w ((g2.δ 3).n 0) ((g2.δ 3).n 1) ((g2.δ 3).n 2) ((g2.δ 3).n 3) ((g2.δ 3).n 4) ((g2.δ 3).n 5) c])
    hF hI ⟨(fun w w1 hg h => FirstB.grow hg rfl rfl rfl rfl rfl h), trivial⟩ (fun g => ⟨pv,
      pv,
      pv, trivial⟩) ?_
  intro g3 a3 w3 hF hI
  refine wp_ret ?_
  show bodyPost Tryz.prog Tryz.f29 (Ret w (.bool true)) .ret _ _
  exact sym_ret rfl hF.df (rv_tmp hF rfl) ⟨rfl, hI.below⟩

set_option maxRecDepth 100000 in
set_option maxHeartbeats 2000000 in
theorem on1_f {c : Nat} (h1 : 1 ≤ c) (h3 : c ≤ 3) [Pr (cp c)] {x0 y0 : Nat} {i0 : Bool} (hx0 : x0 < B64 ^ 6) (hy0 : y0 < B64 ^ 6) (e0 : onc c x0 y0 i0 = false) {w : World} : Calls Tryz.prog 29 #[.int .i64 (c : Nat), .agg ((elC x0 ++ (elC y0 ++ [Value.bool i0]))).toArray] w (Ret w (.bool false)) := by
  refine calls_of_wp Tryz.func29 (by rfl : Tryz.f29.body = some _) ?_
  have hF : Fr [(0, .int .i64 (c : Nat)), (1, .agg ((elC x0 ++ (elC y0 ++ [Value.bool i0]))).toArray)] 16 _ := Fr.start (args := #[.int .i64 (c : Nat), .agg ((elC x0 ++ (elC y0 ++ [Value.bool i0]))).toArray]) (m := 16) (by simp)
  have hI := Inv.start0 w
  refine wp_seq ?_
  refine sy [] #[.new [] (fun _ => ((elC x0 ++ (elC y0 ++ [Value.bool i0]))).toArray) 26,
      va (.bool false)]
    (fun g1 => [(0, .int .i64 (c : Nat)), (3, pt (g1.γ 0)), (4, .bool false)]) (fun g1 => [((g1.γ 0), (elC x0 ++ (elC y0 ++ [Value.bool i0])), 26)]) (fun _ => [])
    hF hI trivial (fun g => ⟨nw,
      pv, trivial⟩) ?_
  intro g1 a1 w1 hF hI
  refine wp_seq ?_
  refine sy [] #[va (.int .i64 (c : Nat)),
      va (.agg ((elC x0 ++ (elC y0 ++ [Value.bool i0]))).toArray),
      .ex [] (fun d => .slice (some ⟨d.n 0, 0, none⟩) 1 1) (fun _ d => fun w => w.heap[d.n 0]? = some (.cells ((elC x0 ++ (elC y0 ++ [Value.bool i0]))).toArray 26 (0, 0))),
      va (.tuple #[.pointer none, .int .i64 4]),
      va (.tuple #[.pointer none, .int .i64 4]),
      va (.pointer none),
      va (.int .i64 4),
      va (.pointer none),
      va (.int .i64 4)]
    (fun g2 => [(4, .bool false), (6, .int .i64 4)]) (fun _ => [((g1.γ 0), (elC x0 ++ (elC y0 ++ [Value.bool i0])), 26)]) (fun g2 => [fun w => w.heap[(g2.δ 2).n 0]? = some (.cells ((elC x0 ++ (elC y0 ++ [Value.bool i0]))).toArray 26 (0, 0))])
    hF hI trivial (fun g => ⟨pv,
      lk 0 0 rfl rfl,
      ⟨fun l d w w1 hg h => hg.block _ _ h fun C t fr e => by cases e; rfl, by kernel_rfl, fun w hI hfa => exU_slice (by kernel_rfl)⟩,
      cv fun w hI hfa => w1f h1 h3 hx0 hy0 e0 (hfa 2 _ _ _ (by kernel_rfl) rfl),
      pv,
      pv,
      pv,
      pv,
      pv, trivial⟩) ?_
  intro g2 a2 w2 hF hI
  refine wp_seq ?_
  have hI := hI.phi [] trivial
  refine sy [] #[va (.int .i64 4),
      va (.bool false),
      va (.bool false)]
    (fun g3 => [(4, .bool false)]) (fun _ => [((g1.γ 0), (elC x0 ++ (elC y0 ++ [Value.bool i0])), 26)]) (fun _ => [])
    hF hI trivial (fun g => ⟨pv,
      pv,
      pv, trivial⟩) ?_
  intro g3 a3 w3 hF hI
  refine wp_ret ?_
  show bodyPost Tryz.prog Tryz.f29 (Ret w (.bool false)) .ret _ _
  exact sym_ret rfl hF.df (rv_tmp hF rfl) ⟨rfl, hI.below⟩

set_option maxRecDepth 100000 in
set_option maxHeartbeats 2000000 in
theorem in1_bad {k : Int} (hk : ∀ i : Int, 1 ≤ i → i ≤ 3 → k ≠ i) {x0 y0 : Nat} {i0 : Bool} {w : World} : Calls Tryz.prog 30 #[.int .i64 k, .agg ((elC x0 ++ (elC y0 ++ [Value.bool i0]))).toArray] w (Ret w (.bool false)) := by
  refine calls_of_wp Tryz.func30 (by rfl : Tryz.f30.body = some _) ?_
  have hF : Fr [(0, .int .i64 k), (1, .agg ((elC x0 ++ (elC y0 ++ [Value.bool i0]))).toArray)] 31 _ := Fr.start (args := #[.int .i64 k, .agg ((elC x0 ++ (elC y0 ++ [Value.bool i0]))).toArray]) (m := 31) (by simp)
  have hI := Inv.start0 w
  refine wp_seq ?_
  refine sy [] #[.new [] (fun _ => ((elC x0 ++ (elC y0 ++ [Value.bool i0]))).toArray) 26,
      va (.bool false)]
    (fun g1 => [(0, .int .i64 k), (3, pt (g1.γ 0)), (4, .bool false)]) (fun g1 => [((g1.γ 0), (elC x0 ++ (elC y0 ++ [Value.bool i0])), 26)]) (fun _ => [])
    hF hI trivial (fun g => ⟨nw,
      pv, trivial⟩) ?_
  intro g1 a1 w1 hF hI
  refine wp_seq ?_
  refine sy [] #[va (.int .i64 k),
      va (.agg ((elC x0 ++ (elC y0 ++ [Value.bool i0]))).toArray),
      .ex [] (fun d => .slice (some ⟨d.n 0, 0, none⟩) 1 1) (fun _ d => fun w => w.heap[d.n 0]? = some (.cells ((elC x0 ++ (elC y0 ++ [Value.bool i0]))).toArray 26 (0, 0))),
      va (.tuple #[.pointer none, .int .i64 1]),
      va (.tuple #[.pointer none, .int .i64 1]),
      va (.pointer none),
      va (.int .i64 1),
      va (.pointer none),
      va (.int .i64 1)]
    (fun g2 => [(3, pt (g1.γ 0)), (4, .bool false), (5, .pointer none), (6, .int .i64 1)]) (fun _ => [((g1.γ 0), (elC x0 ++ (elC y0 ++ [Value.bool i0])), 26)]) (fun g2 => [fun w => w.heap[(g2.δ 2).n 0]? = some (.cells ((elC x0 ++ (elC y0 ++ [Value.bool i0]))).toArray 26 (0, 0))])
    hF hI trivial (fun g => ⟨pv,
      lk 0 0 rfl rfl,
      ⟨fun l d w w1 hg h => hg.block _ _ h fun C t fr e => by cases e; rfl, by kernel_rfl, fun w hI hfa => exU_slice (by kernel_rfl)⟩,
      cv fun w hI hfa => with_bad1 (pb := ((g.δ 2).n 0)) hk,
      pv,
      pv,
      pv,
      pv,
      pv, trivial⟩) ?_
  intro g2 a2 w2 hF hI
  refine wp_seq ?_
  have hI := hI.phi [] trivial
  refine sy [] #[va (.int .i64 1),
      va (.bool false),
      va (.bool false),
      .off,
      .off,
      .off,
      .off,
      .off,
      .off,
      .off,
      .off,
      .off,
      .off,
      .off,
      .off,
      .off,
      va (.bool false),
      va (.bool false)]
    (fun g3 => [(4, .bool false)]) (fun _ => [((g1.γ 0), (elC x0 ++ (elC y0 ++ [Value.bool i0])), 26)]) (fun _ => [])
    hF hI trivial (fun g => ⟨pv,
      pv,
      pv,
      offV,
      offV,
      offV,
      offV,
      offV,
      offV,
      offV,
      offV,
      offV,
      offV,
      offV,
      offV,
      offV,
      pv,
      pv, trivial⟩) ?_
  intro g3 a3 w3 hF hI
  refine wp_ret ?_
  show bodyPost Tryz.prog Tryz.f30 (Ret w (.bool false)) .ret _ _
  exact sym_ret rfl hF.df (rv_tmp hF rfl) ⟨rfl, hI.below⟩

set_option maxRecDepth 100000 in
set_option maxHeartbeats 2000000 in
theorem in1_t {c : Nat} (h1 : 1 ≤ c) (h3 : c ≤ 3) [Pr (cp c)] {x0 y0 : Nat} {i0 : Bool} (hx0 : x0 < B64 ^ 6) (hy0 : y0 < B64 ^ 6) (e0 : onc c x0 y0 i0 = true) {w : World} : Calls Tryz.prog 30 #[.int .i64 (c : Nat), .agg ((elC x0 ++ (elC y0 ++ [Value.bool i0]))).toArray] w (Ret w (.bool (gmul Fd.finv (gI c x0 y0 i0) (prm (2 * c))).inf)) := by
  refine calls_of_wp Tryz.func30 (by rfl : Tryz.f30.body = some _) ?_
  have hF : Fr [(0, .int .i64 (c : Nat)), (1, .agg ((elC x0 ++ (elC y0 ++ [Value.bool i0]))).toArray)] 31 _ := Fr.start (args := #[.int .i64 (c : Nat), .agg ((elC x0 ++ (elC y0 ++ [Value.bool i0]))).toArray]) (m := 31) (by simp)
  have hI := Inv.start0 w
  refine wp_seq ?_
  refine sy [] #[.new [] (fun _ => ((elC x0 ++ (elC y0 ++ [Value.bool i0]))).toArray) 26,
      va (.bool false)]
    (fun g1 => [(0, .int .i64 (c : Nat)), (3, pt (g1.γ 0)), (4, .bool false)]) (fun g1 => [((g1.γ 0), (elC x0 ++ (elC y0 ++ [Value.bool i0])), 26)]) (fun _ => [])
    hF hI trivial (fun g => ⟨nw,
      pv, trivial⟩) ?_
  intro g1 a1 w1 hF hI
  refine wp_seq ?_
  refine sy [] #[va (.int .i64 (c : Nat)),
      va (.agg ((elC x0 ++ (elC y0 ++ [Value.bool i0]))).toArray),
      .ex [] (fun d => .slice (some ⟨d.n 0, 0, none⟩) 1 1) (fun _ d => fun w => w.heap[d.n 0]? = some (.cells ((elC x0 ++ (elC y0 ++ [Value.bool i0]))).toArray 26 (0, 0))),
      .ex [] (fun d => .tuple #[.pointer (some ⟨d.n 0, 0, none⟩), .int .i64 0]) (fun _ d => fun w => FirstB w (d.n 0) (d.n 1) (d.n 2) (d.n 3) (d.n 4) (d.n 5) c),
      .val [3] (fun l => .tuple #[pt ((l.getD 0 dat0).n 0), .int .i64 0]),
      .val [3] (fun l => pt ((l.getD 0 dat0).n 0)),
      va (.int .i64 0),
      .val [3] (fun l => pt ((l.getD 0 dat0).n 0)),
      va (.int .i64 0)]
    (fun g2 => [(3, pt (g1.γ 0)), (4, .bool false), (5, pt ((g2.δ 3).n 0)), (6, .int .i64 0)]) (fun _ => [((g1.γ 0), (elC x0 ++ (elC y0 ++ [Value.bool i0])), 26)]) (fun g2 => [fun w => w.heap[(g2.δ 2).n 0]? = some (.cells ((elC x0 ++ (elC y0 ++ [Value.bool i0]))).toArray 26 (0, 0)), fun w => FirstB w ((g2.δ 3).n 0) ((g2.δ 3).n 1) ((g2.δ 3).n 2) ((g2.δ 3).n 3) ((g2.δ 3).n 4) ((g2.δ 3).n 5) c])
    hF hI trivial (fun g => ⟨pv,
      lk 0 0 rfl rfl,
      ⟨fun l d w w1 hg h => hg.block _ _ h fun C t fr e => by cases e; rfl, by kernel_rfl, fun w hI hfa => exU_slice (by kernel_rfl)⟩,
      cx (fun l d w w1 hg h => FirstB.grow hg rfl rfl rfl rfl rfl h) fun w hI hfa => w1t h1 h3 hx0 hy0 e0 (hfa 2 _ _ _ (by kernel_rfl) rfl),
      pv,
      pv,
      pv,
      pv,
      pv, trivial⟩) ?_
  intro g2 a2 w2 hF hI
  refine wp_seq ?_
  have hI := hI.phi [fun w => FirstB w ((g2.δ 3).n 0) ((g2.δ 3).n 1) ((g2.δ 3).n 2) ((g2.δ 3).n 3) ((g2.δ 3).n 4) ((g2.δ 3).n 5) c] ⟨hI.fact 1 rfl, trivial⟩
  refine sy [] #[va (.int .i64 0),
      va (.bool true),
      va (.bool true),
      va (pt ((g2.δ 3).n 0)),
      va (pt ((g2.δ 3).n 0)),
      va (.pointer (some ⟨((g2.δ 3).n 0), 1, none⟩)),
      va (pt (((g2.δ 3).n 2))),
      va (pt ((g2.δ 3).n 0)),
      va (.agg ((elC x0 ++ (elC y0 ++ [Value.bool i0]))).toArray),
      va (.agg ((feC (cp c) (cn c) ((gI c x0 y0 i0).x) ++ (feC (cp c) (cn c) ((gI c x0 y0 i0).y) ++ [Value.bool (gI c x0 y0 i0).inf]))).toArray),
      va (pt ((g2.δ 3).n 0)),
      va (pt ((g2.δ 3).n 0)),
      va (.pointer (some ⟨((g2.δ 3).n 0), 2, none⟩)),
      va (.slice (some ⟨((g2.δ 3).n 3), 0, none⟩) (pml (2 * c)) (pml (2 * c))),
      va (.agg ((feC (cp c) (cn c) ((gmul Fd.finv (gI c x0 y0 i0) (prm (2 * c))).x) ++ (feC (cp c) (cn c) ((gmul Fd.finv (gI c x0 y0 i0) (prm (2 * c))).y) ++ [Value.bool (gmul Fd.finv (gI c x0 y0 i0) (prm (2 * c))).inf]))).toArray),
      va (.bool (gmul Fd.finv (gI c x0 y0 i0) (prm (2 * c))).inf),
      va (.bool (gmul Fd.finv (gI c x0 y0 i0) (prm (2 * c))).inf),
      va (.bool (gmul Fd.finv (gI c x0 y0 i0) (prm (2 * c))).inf)]
    (fun g3 => [(4, .bool (gmul Fd.finv (gI c x0 y0 i0) (prm (2 * c))).inf)]) (fun _ => [((g1.γ 0), (elC x0 ++ (elC y0 ++ [Value.bool i0])), 26)]) (fun _ => [fun w => FirstB w ((g2.δ 3).n 0) ((g2.δ 3).n 1) ((g2.δ 3).n 2) ((g2.δ 3).n 3) ((g2.δ 3).n 4) ((g2.δ 3).n 5) c])
    hF hI ⟨(fun w w1 hg h => FirstB.grow hg rfl rfl rfl rfl rfl h), trivial⟩ (fun g => ⟨pv,
      pv,
      pv,
      pv,
      pv,
      pv,
      lR1 (fun w hI hfa => ((hI.fact 0 rfl).toC).c1) rfl,
      pv,
      lk 0 0 rfl rfl,
      cv fun w hI hfa => cin_any hx0 hy0 ((hI.fact 0 rfl).toC),
      pv,
      pv,
      pv,
      lR1 (fun w hI hfa => (hI.fact 0 rfl).c2) rfl,
      cv fun w hI hfa => ord_mul h1 h3 (hI.fact 0 rfl).ord ((hI.fact 0 rfl).toC).grp,
      pv,
      pv,
      pv, trivial⟩) ?_
  intro g3 a3 w3 hF hI
  refine wp_ret ?_
  show bodyPost Tryz.prog Tryz.f30 (Ret w (.bool (gmul Fd.finv (gI c x0 y0 i0) (prm (2 * c))).inf)) .ret _ _
  exact sym_ret rfl hF.df (rv_tmp hF rfl) ⟨rfl, hI.below⟩

set_option maxRecDepth 100000 in
set_option maxHeartbeats 2000000 in
theorem in1_f {c : Nat} (h1 : 1 ≤ c) (h3 : c ≤ 3) [Pr (cp c)] {x0 y0 : Nat} {i0 : Bool} (hx0 : x0 < B64 ^ 6) (hy0 : y0 < B64 ^ 6) (e0 : onc c x0 y0 i0 = false) {w : World} : Calls Tryz.prog 30 #[.int .i64 (c : Nat), .agg ((elC x0 ++ (elC y0 ++ [Value.bool i0]))).toArray] w (Ret w (.bool false)) := by
  refine calls_of_wp Tryz.func30 (by rfl : Tryz.f30.body = some _) ?_
  have hF : Fr [(0, .int .i64 (c : Nat)), (1, .agg ((elC x0 ++ (elC y0 ++ [Value.bool i0]))).toArray)] 31 _ := Fr.start (args := #[.int .i64 (c : Nat), .agg ((elC x0 ++ (elC y0 ++ [Value.bool i0]))).toArray]) (m := 31) (by simp)
  have hI := Inv.start0 w
  refine wp_seq ?_
  refine sy [] #[.new [] (fun _ => ((elC x0 ++ (elC y0 ++ [Value.bool i0]))).toArray) 26,
      va (.bool false)]
    (fun g1 => [(0, .int .i64 (c : Nat)), (3, pt (g1.γ 0)), (4, .bool false)]) (fun g1 => [((g1.γ 0), (elC x0 ++ (elC y0 ++ [Value.bool i0])), 26)]) (fun _ => [])
    hF hI trivial (fun g => ⟨nw,
      pv, trivial⟩) ?_
  intro g1 a1 w1 hF hI
  refine wp_seq ?_
  refine sy [] #[va (.int .i64 (c : Nat)),
      va (.agg ((elC x0 ++ (elC y0 ++ [Value.bool i0]))).toArray),
      .ex [] (fun d => .slice (some ⟨d.n 0, 0, none⟩) 1 1) (fun _ d => fun w => w.heap[d.n 0]? = some (.cells ((elC x0 ++ (elC y0 ++ [Value.bool i0]))).toArray 26 (0, 0))),
      va (.tuple #[.pointer none, .int .i64 4]),
      va (.tuple #[.pointer none, .int .i64 4]),
      va (.pointer none),
      va (.int .i64 4),
      va (.pointer none),
      va (.int .i64 4)]
    (fun g2 => [(3, pt (g1.γ 0)), (4, .bool false), (5, .pointer none), (6, .int .i64 4)]) (fun _ => [((g1.γ 0), (elC x0 ++ (elC y0 ++ [Value.bool i0])), 26)]) (fun g2 => [fun w => w.heap[(g2.δ 2).n 0]? = some (.cells ((elC x0 ++ (elC y0 ++ [Value.bool i0]))).toArray 26 (0, 0))])
    hF hI trivial (fun g => ⟨pv,
      lk 0 0 rfl rfl,
      ⟨fun l d w w1 hg h => hg.block _ _ h fun C t fr e => by cases e; rfl, by kernel_rfl, fun w hI hfa => exU_slice (by kernel_rfl)⟩,
      cv fun w hI hfa => w1f h1 h3 hx0 hy0 e0 (hfa 2 _ _ _ (by kernel_rfl) rfl),
      pv,
      pv,
      pv,
      pv,
      pv, trivial⟩) ?_
  intro g2 a2 w2 hF hI
  refine wp_seq ?_
  have hI := hI.phi [] trivial
  refine sy [] #[va (.int .i64 4),
      va (.bool false),
      va (.bool false),
      .off,
      .off,
      .off,
      .off,
      .off,
      .off,
      .off,
      .off,
      .off,
      .off,
      .off,
      .off,
      .off,
      va (.bool false),
      va (.bool false)]
    (fun g3 => [(4, .bool false)]) (fun _ => [((g1.γ 0), (elC x0 ++ (elC y0 ++ [Value.bool i0])), 26)]) (fun _ => [])
    hF hI trivial (fun g => ⟨pv,
      pv,
      pv,
      offV,
      offV,
      offV,
      offV,
      offV,
      offV,
      offV,
      offV,
      offV,
      offV,
      offV,
      offV,
      offV,
      pv,
      pv, trivial⟩) ?_
  intro g3 a3 w3 hF hI
  refine wp_ret ?_
  show bodyPost Tryz.prog Tryz.f30 (Ret w (.bool false)) .ret _ _
  exact sym_ret rfl hF.df (rv_tmp hF rfl) ⟨rfl, hI.below⟩

set_option maxRecDepth 100000 in
set_option maxHeartbeats 2000000 in
theorem neg1_bad {k : Int} (hk : ∀ i : Int, 1 ≤ i → i ≤ 3 → k ≠ i) {x0 y0 : Nat} {i0 : Bool} {w : World} : Calls Tryz.prog 26 #[.int .i64 k, .agg ((elC x0 ++ (elC y0 ++ [Value.bool i0]))).toArray] w (Ret w (.tuple #[.agg ((Z6 ++ (Z6 ++ [Value.bool false]))).toArray, .int .i64 1])) := by
  refine calls_of_wp Tryz.func26 (by rfl : Tryz.f26.body = some _) ?_
  have hF : Fr [(0, .int .i64 k), (1, .agg ((elC x0 ++ (elC y0 ++ [Value.bool i0]))).toArray)] 29 _ := Fr.start (args := #[.int .i64 k, .agg ((elC x0 ++ (elC y0 ++ [Value.bool i0]))).toArray]) (m := 29) (by simp)
  have hI := Inv.start0 w
  refine wp_seq ?_
  refine sy [] #[.new [] (fun _ => ((elC x0 ++ (elC y0 ++ [Value.bool i0]))).toArray) 26,
      .new [] (fun _ => ((Z6 ++ (Z6 ++ [Value.bool false]))).toArray) 26,
      va (.int .i64 0)]
    (fun g1 => [(0, .int .i64 k), (3, pt (g1.γ 0)), (4, pt (g1.γ 1)), (5, .int .i64 0)]) (fun g1 => [((g1.γ 0), (elC x0 ++ (elC y0 ++ [Value.bool i0])), 26), ((g1.γ 1), (Z6 ++ (Z6 ++ [Value.bool false])), 26)]) (fun _ => [])
    hF hI trivial (fun g => ⟨nw,
      nw,
      pv, trivial⟩) ?_
  intro g1 a1 w1 hF hI
  refine wp_seq ?_
  refine sy [] #[va (.int .i64 k),
      va (.agg ((elC x0 ++ (elC y0 ++ [Value.bool i0]))).toArray),
      .ex [] (fun d => .slice (some ⟨d.n 0, 0, none⟩) 1 1) (fun _ d => fun w => w.heap[d.n 0]? = some (.cells ((elC x0 ++ (elC y0 ++ [Value.bool i0]))).toArray 26 (0, 0))),
      va (.tuple #[.pointer none, .int .i64 1]),
      va (.tuple #[.pointer none, .int .i64 1]),
      va (.pointer none),
      va (.int .i64 1),
      va (.pointer none),
      va (.int .i64 1)]
    (fun g2 => [(3, pt (g1.γ 0)), (4, pt (g1.γ 1)), (5, .int .i64 0), (6, .pointer none), (7, .int .i64 1)]) (fun _ => [((g1.γ 0), (elC x0 ++ (elC y0 ++ [Value.bool i0])), 26), ((g1.γ 1), (Z6 ++ (Z6 ++ [Value.bool false])), 26)]) (fun g2 => [fun w => w.heap[(g2.δ 2).n 0]? = some (.cells ((elC x0 ++ (elC y0 ++ [Value.bool i0]))).toArray 26 (0, 0))])
    hF hI trivial (fun g => ⟨pv,
      lk 0 0 rfl rfl,
      ⟨fun l d w w1 hg h => hg.block _ _ h fun C t fr e => by cases e; rfl, by kernel_rfl, fun w hI hfa => exU_slice (by kernel_rfl)⟩,
      cv fun w hI hfa => with_bad1 (pb := ((g.δ 2).n 0)) hk,
      pv,
      pv,
      pv,
      pv,
      pv, trivial⟩) ?_
  intro g2 a2 w2 hF hI
  refine wp_seq ?_
  refine wp_seq ?_
  have hI := hI.phi [] trivial
  refine sy [] #[va (.int .i64 1),
      va (.bool true)]
    (fun g3 => [(3, pt (g1.γ 0)), (4, pt (g1.γ 1)), (5, .int .i64 0), (6, .pointer none), (7, .int .i64 1), (16, .bool true)]) (fun _ => [((g1.γ 0), (elC x0 ++ (elC y0 ++ [Value.bool i0])), 26), ((g1.γ 1), (Z6 ++ (Z6 ++ [Value.bool false])), 26)]) (fun _ => [])
    hF hI trivial (fun g => ⟨pv,
      pv, trivial⟩) ?_
  intro g3 a3 w3 hF hI
  refine wp_cond_true (hF.eval rfl) ?_
  refine wp_seq ?_
  refine wp_region_cut 3 (by kernel_rfl) (by kernel_rfl) ?_
  refine sym_text_store (P := Tryz.prog) [26] #[va (.agg ((Z6 ++ (Z6 ++ [Value.bool false]))).toArray),
      va (.int .i64 1)]
    (fun g4 => [(3, pt (g1.γ 0)), (4, pt (g1.γ 1)), (5, .int .i64 0), (6, .pointer none), (18, .int .i64 1)]) (fun g4 => [((g1.γ 0), (elC x0 ++ (elC y0 ++ [Value.bool i0])), 26), ((g1.γ 1), (Z6 ++ (Z6 ++ [Value.bool false])), 26)]) (fun g4 => [((g1.γ 0), (elC x0 ++ (elC y0 ++ [Value.bool i0])), 26), ((g1.γ 1), (Z6 ++ (Z6 ++ [Value.bool false])), 26)]) (fun g4 => []) 1
    hF hI trivial (by kernel_rfl) (by kernel_rfl) (fun g => ⟨pv,
      pv, trivial⟩) (fun g => ⟨by kernel_rfl, by kernel_rfl⟩) (fun g => by kernel_rfl) (fun g => by kernel_rfl) rfl rfl rfl rfl
    (fun g => ⟨(g1.γ 1), 0, (Z6 ++ (Z6 ++ [Value.bool false])), 26, .agg ((Z6 ++ (Z6 ++ [Value.bool false]))).toArray, by kernel_rfl, by kernel_rfl, by kernel_rfl, by kernel_rfl, by kernel_rfl, rfl, by kernel_rfl, by kernel_rfl, by kernel_rfl, by kernel_rfl⟩)
    ?_
  intro g4 a4 w4 hF hI
  show TextOps _ _ _ _ _
  refine sx [] #[va (.int .i64 1)]
    (fun g5 => [(3, pt (g1.γ 0)), (4, pt (g1.γ 1)), (5, .int .i64 1), (6, .pointer none)]) (fun _ => [((g1.γ 0), (elC x0 ++ (elC y0 ++ [Value.bool i0])), 26), ((g1.γ 1), (Z6 ++ (Z6 ++ [Value.bool false])), 26)]) (fun _ => [])
    hF hI trivial (fun g => ⟨pv, trivial⟩) ?_
  intro g5 a5 w5 hF hI
  refine wp_ret ?_
  show bodyPost Tryz.prog Tryz.f26 (Ret w (.tuple #[.agg ((Z6 ++ (Z6 ++ [Value.bool false]))).toArray, .int .i64 1])) .ret _ _
  exact sym_ret2 rfl hF.df (rv_cell 1 hF rfl hI rfl Tryz.underlying26 rfl (by kernel_rfl)) (rv_tmp hF rfl) ⟨rfl, hI.below⟩

set_option maxRecDepth 100000 in
set_option maxHeartbeats 2000000 in
theorem neg1_t {c : Nat} (h1 : 1 ≤ c) (h3 : c ≤ 3) [Pr (cp c)] {x0 y0 : Nat} {i0 : Bool} (hx0 : x0 < B64 ^ 6) (hy0 : y0 < B64 ^ 6) (e0 : onc c x0 y0 i0 = true) {w : World} : Calls Tryz.prog 26 #[.int .i64 (c : Nat), .agg ((elC x0 ++ (elC y0 ++ [Value.bool i0]))).toArray] w (Ret w (.tuple #[.agg ((elC ((gox (gneg (gI c x0 y0 i0)))) ++ (elC ((goy (gneg (gI c x0 y0 i0)))) ++ [Value.bool (gneg (gI c x0 y0 i0)).inf]))).toArray, .int .i64 0])) := by
  refine calls_of_wp Tryz.func26 (by rfl : Tryz.f26.body = some _) ?_
  have hF : Fr [(0, .int .i64 (c : Nat)), (1, .agg ((elC x0 ++ (elC y0 ++ [Value.bool i0]))).toArray)] 29 _ := Fr.start (args := #[.int .i64 (c : Nat), .agg ((elC x0 ++ (elC y0 ++ [Value.bool i0]))).toArray]) (m := 29) (by simp)
  have hI := Inv.start0 w
  refine wp_seq ?_
  refine sy [] #[.new [] (fun _ => ((elC x0 ++ (elC y0 ++ [Value.bool i0]))).toArray) 26,
      .new [] (fun _ => ((Z6 ++ (Z6 ++ [Value.bool false]))).toArray) 26,
      va (.int .i64 0)]
    (fun g1 => [(0, .int .i64 (c : Nat)), (3, pt (g1.γ 0)), (4, pt (g1.γ 1)), (5, .int .i64 0)]) (fun g1 => [((g1.γ 0), (elC x0 ++ (elC y0 ++ [Value.bool i0])), 26), ((g1.γ 1), (Z6 ++ (Z6 ++ [Value.bool false])), 26)]) (fun _ => [])
    hF hI trivial (fun g => ⟨nw,
      nw,
      pv, trivial⟩) ?_
  intro g1 a1 w1 hF hI
  refine wp_seq ?_
  refine sy [] #[va (.int .i64 (c : Nat)),
      va (.agg ((elC x0 ++ (elC y0 ++ [Value.bool i0]))).toArray),
      .ex [] (fun d => .slice (some ⟨d.n 0, 0, none⟩) 1 1) (fun _ d => fun w => w.heap[d.n 0]? = some (.cells ((elC x0 ++ (elC y0 ++ [Value.bool i0]))).toArray 26 (0, 0))),
      .ex [] (fun d => .tuple #[.pointer (some ⟨d.n 0, 0, none⟩), .int .i64 0]) (fun _ d => fun w => FirstB w (d.n 0) (d.n 1) (d.n 2) (d.n 3) (d.n 4) (d.n 5) c),
      .val [3] (fun l => .tuple #[pt ((l.getD 0 dat0).n 0), .int .i64 0]),
      .val [3] (fun l => pt ((l.getD 0 dat0).n 0)),
      va (.int .i64 0),
      .val [3] (fun l => pt ((l.getD 0 dat0).n 0)),
      va (.int .i64 0)]
    (fun g2 => [(3, pt (g1.γ 0)), (4, pt (g1.γ 1)), (5, .int .i64 0), (6, pt ((g2.δ 3).n 0)), (7, .int .i64 0)]) (fun _ => [((g1.γ 0), (elC x0 ++ (elC y0 ++ [Value.bool i0])), 26), ((g1.γ 1), (Z6 ++ (Z6 ++ [Value.bool false])), 26)]) (fun g2 => [fun w => w.heap[(g2.δ 2).n 0]? = some (.cells ((elC x0 ++ (elC y0 ++ [Value.bool i0]))).toArray 26 (0, 0)), fun w => FirstB w ((g2.δ 3).n 0) ((g2.δ 3).n 1) ((g2.δ 3).n 2) ((g2.δ 3).n 3) ((g2.δ 3).n 4) ((g2.δ 3).n 5) c])
    hF hI trivial (fun g => ⟨pv,
      lk 0 0 rfl rfl,
      ⟨fun l d w w1 hg h => hg.block _ _ h fun C t fr e => by cases e; rfl, by kernel_rfl, fun w hI hfa => exU_slice (by kernel_rfl)⟩,
      cx (fun l d w w1 hg h => FirstB.grow hg rfl rfl rfl rfl rfl h) fun w hI hfa => w1t h1 h3 hx0 hy0 e0 (hfa 2 _ _ _ (by kernel_rfl) rfl),
      pv,
      pv,
      pv,
      pv,
      pv, trivial⟩) ?_
  intro g2 a2 w2 hF hI
  refine wp_seq ?_
  refine wp_seq ?_
  have hI := hI.phi [fun w => FirstB w ((g2.δ 3).n 0) ((g2.δ 3).n 1) ((g2.δ 3).n 2) ((g2.δ 3).n 3) ((g2.δ 3).n 4) ((g2.δ 3).n 5) c] ⟨hI.fact 1 rfl, trivial⟩
  refine sy [] #[va (.int .i64 0),
      va (.bool false)]
    (fun g3 => [(3, pt (g1.γ 0)), (4, pt (g1.γ 1)), (5, .int .i64 0), (6, pt ((g2.δ 3).n 0)), (7, .int .i64 0), (16, .bool false)]) (fun _ => [((g1.γ 0), (elC x0 ++ (elC y0 ++ [Value.bool i0])), 26), ((g1.γ 1), (Z6 ++ (Z6 ++ [Value.bool false])), 26)]) (fun _ => [fun w => FirstB w ((g2.δ 3).n 0) ((g2.δ 3).n 1) ((g2.δ 3).n 2) ((g2.δ 3).n 3) ((g2.δ 3).n 4) ((g2.δ 3).n 5) c])
    hF hI ⟨(fun w w1 hg h => FirstB.grow hg rfl rfl rfl rfl rfl h), trivial⟩ (fun g => ⟨pv,
      pv, trivial⟩) ?_
  intro g3 a3 w3 hF hI
  refine wp_cond_false (hF.eval rfl) ?_
  refine wp_skip ?_
  refine wp_seq ?_
  refine ss3 [] #[va (pt ((g2.δ 3).n 0)),
      va (pt ((g2.δ 3).n 0)),
      va (pt ((g2.δ 3).n 0)),
      va (.pointer (some ⟨((g2.δ 3).n 0), 1, none⟩)),
      va (pt (((g2.δ 3).n 2))),
      va (pt ((g2.δ 3).n 0)),
      va (.agg ((elC x0 ++ (elC y0 ++ [Value.bool i0]))).toArray),
      va (.agg ((feC (cp c) (cn c) ((gI c x0 y0 i0).x) ++ (feC (cp c) (cn c) ((gI c x0 y0 i0).y) ++ [Value.bool (gI c x0 y0 i0).inf]))).toArray),
      va (.agg ((feC (cp c) (cn c) ((gneg (gI c x0 y0 i0)).x) ++ (feC (cp c) (cn c) ((gneg (gI c x0 y0 i0)).y) ++ [Value.bool (gneg (gI c x0 y0 i0)).inf]))).toArray),
      va (.agg ((elC ((gox (gneg (gI c x0 y0 i0)))) ++ (elC ((goy (gneg (gI c x0 y0 i0)))) ++ [Value.bool (gneg (gI c x0 y0 i0)).inf]))).toArray)]
    (fun g4 => [(4, pt (g1.γ 1))]) (fun _ => [((g1.γ 0), (elC x0 ++ (elC y0 ++ [Value.bool i0])), 26), ((g1.γ 1), (elC ((gox (gneg (gI c x0 y0 i0)))) ++ (elC ((goy (gneg (gI c x0 y0 i0)))) ++ [Value.bool (gneg (gI c x0 y0 i0)).inf])), 26)]) (fun _ => [fun w => FirstB w ((g2.δ 3).n 0) ((g2.δ 3).n 1) ((g2.δ 3).n 2) ((g2.δ 3).n 3) ((g2.δ 3).n 4) ((g2.δ 3).n 5) c]) 1 0
    hF hI ⟨(fun w w1 hg h => FirstB.grow hg rfl rfl rfl rfl rfl h), trivial⟩ (fun g => ⟨pv,
      pv,
      pv,
      pv,
      lR1 (fun w hI hfa => ((hI.fact 0 rfl).toC).c1) rfl,
      pv,
      lk 0 0 rfl rfl,
      cv fun w hI hfa => cin_any hx0 hy0 ((hI.fact 0 rfl).toC),
      cv fun w hI hfa => gneg_any rfl ((hI.fact 0 rfl).toC).grp,
      cv fun w hI hfa => cout_p1 ((hI.fact 0 rfl).toC), trivial⟩) rfl rfl rfl rfl rfl rfl ?_
  intro g4 a4 w4 hF hI
  refine wp_ret ?_
  show bodyPost Tryz.prog Tryz.f26 (Ret w (.tuple #[.agg ((elC ((gox (gneg (gI c x0 y0 i0)))) ++ (elC ((goy (gneg (gI c x0 y0 i0)))) ++ [Value.bool (gneg (gI c x0 y0 i0)).inf]))).toArray, .int .i64 0])) .ret _ _
  exact sym_ret2 rfl hF.df (rv_cell 1 hF rfl hI rfl Tryz.underlying26 rfl (by kernel_rfl)) (rv_tmp hF rfl) ⟨rfl, hI.below⟩

set_option maxRecDepth 100000 in
set_option maxHeartbeats 2000000 in
theorem neg1_f {c : Nat} (h1 : 1 ≤ c) (h3 : c ≤ 3) [Pr (cp c)] {x0 y0 : Nat} {i0 : Bool} (hx0 : x0 < B64 ^ 6) (hy0 : y0 < B64 ^ 6) (e0 : onc c x0 y0 i0 = false) {w : World} : Calls Tryz.prog 26 #[.int .i64 (c : Nat), .agg ((elC x0 ++ (elC y0 ++ [Value.bool i0]))).toArray] w (Ret w (.tuple #[.agg ((Z6 ++ (Z6 ++ [Value.bool false]))).toArray, .int .i64 4])) := by
  refine calls_of_wp Tryz.func26 (by rfl : Tryz.f26.body = some _) ?_
  have hF : Fr [(0, .int .i64 (c : Nat)), (1, .agg ((elC x0 ++ (elC y0 ++ [Value.bool i0]))).toArray)] 29 _ := Fr.start (args := #[.int .i64 (c : Nat), .agg ((elC x0 ++ (elC y0 ++ [Value.bool i0]))).toArray]) (m := 29) (by simp)
  have hI := Inv.start0 w
  refine wp_seq ?_
  refine sy [] #[.new [] (fun _ => ((elC x0 ++ (elC y0 ++ [Value.bool i0]))).toArray) 26,
      .new [] (fun _ => ((Z6 ++ (Z6 ++ [Value.bool false]))).toArray) 26,
      va (.int .i64 0)]
    (fun g1 => [(0, .int .i64 (c : Nat)), (3, pt (g1.γ 0)), (4, pt (g1.γ 1)), (5, .int .i64 0)]) (fun g1 => [((g1.γ 0), (elC x0 ++ (elC y0 ++ [Value.bool i0])), 26), ((g1.γ 1), (Z6 ++ (Z6 ++ [Value.bool false])), 26)]) (fun _ => [])
    hF hI trivial (fun g => ⟨nw,
      nw,
      pv, trivial⟩) ?_
  intro g1 a1 w1 hF hI
  refine wp_seq ?_
  refine sy [] #[va (.int .i64 (c : Nat)),
      va (.agg ((elC x0 ++ (elC y0 ++ [Value.bool i0]))).toArray),
      .ex [] (fun d => .slice (some ⟨d.n 0, 0, none⟩) 1 1) (fun _ d => fun w => w.heap[d.n 0]? = some (.cells ((elC x0 ++ (elC y0 ++ [Value.bool i0]))).toArray 26 (0, 0))),
      va (.tuple #[.pointer none, .int .i64 4]),
      va (.tuple #[.pointer none, .int .i64 4]),
      va (.pointer none),
      va (.int .i64 4),
      va (.pointer none),
      va (.int .i64 4)]
    (fun g2 => [(3, pt (g1.γ 0)), (4, pt (g1.γ 1)), (5, .int .i64 0), (6, .pointer none), (7, .int .i64 4)]) (fun _ => [((g1.γ 0), (elC x0 ++ (elC y0 ++ [Value.bool i0])), 26), ((g1.γ 1), (Z6 ++ (Z6 ++ [Value.bool false])), 26)]) (fun g2 => [fun w => w.heap[(g2.δ 2).n 0]? = some (.cells ((elC x0 ++ (elC y0 ++ [Value.bool i0]))).toArray 26 (0, 0))])
    hF hI trivial (fun g => ⟨pv,
      lk 0 0 rfl rfl,
      ⟨fun l d w w1 hg h => hg.block _ _ h fun C t fr e => by cases e; rfl, by kernel_rfl, fun w hI hfa => exU_slice (by kernel_rfl)⟩,
      cv fun w hI hfa => w1f h1 h3 hx0 hy0 e0 (hfa 2 _ _ _ (by kernel_rfl) rfl),
      pv,
      pv,
      pv,
      pv,
      pv, trivial⟩) ?_
  intro g2 a2 w2 hF hI
  refine wp_seq ?_
  refine wp_seq ?_
  have hI := hI.phi [] trivial
  refine sy [] #[va (.int .i64 4),
      va (.bool true)]
    (fun g3 => [(3, pt (g1.γ 0)), (4, pt (g1.γ 1)), (5, .int .i64 0), (6, .pointer none), (7, .int .i64 4), (16, .bool true)]) (fun _ => [((g1.γ 0), (elC x0 ++ (elC y0 ++ [Value.bool i0])), 26), ((g1.γ 1), (Z6 ++ (Z6 ++ [Value.bool false])), 26)]) (fun _ => [])
    hF hI trivial (fun g => ⟨pv,
      pv, trivial⟩) ?_
  intro g3 a3 w3 hF hI
  refine wp_cond_true (hF.eval rfl) ?_
  refine wp_seq ?_
  refine wp_region_cut 3 (by kernel_rfl) (by kernel_rfl) ?_
  refine sym_text_store (P := Tryz.prog) [26] #[va (.agg ((Z6 ++ (Z6 ++ [Value.bool false]))).toArray),
      va (.int .i64 4)]
    (fun g4 => [(3, pt (g1.γ 0)), (4, pt (g1.γ 1)), (5, .int .i64 0), (6, .pointer none), (18, .int .i64 4)]) (fun g4 => [((g1.γ 0), (elC x0 ++ (elC y0 ++ [Value.bool i0])), 26), ((g1.γ 1), (Z6 ++ (Z6 ++ [Value.bool false])), 26)]) (fun g4 => [((g1.γ 0), (elC x0 ++ (elC y0 ++ [Value.bool i0])), 26), ((g1.γ 1), (Z6 ++ (Z6 ++ [Value.bool false])), 26)]) (fun g4 => []) 1
    hF hI trivial (by kernel_rfl) (by kernel_rfl) (fun g => ⟨pv,
      pv, trivial⟩) (fun g => ⟨by kernel_rfl, by kernel_rfl⟩) (fun g => by kernel_rfl) (fun g => by kernel_rfl) rfl rfl rfl rfl
    (fun g => ⟨(g1.γ 1), 0, (Z6 ++ (Z6 ++ [Value.bool false])), 26, .agg ((Z6 ++ (Z6 ++ [Value.bool false]))).toArray, by kernel_rfl, by kernel_rfl, by kernel_rfl, by kernel_rfl, by kernel_rfl, rfl, by kernel_rfl, by kernel_rfl, by kernel_rfl, by kernel_rfl⟩)
    ?_
  intro g4 a4 w4 hF hI
  show TextOps _ _ _ _ _
  refine sx [] #[va (.int .i64 4)]
    (fun g5 => [(3, pt (g1.γ 0)), (4, pt (g1.γ 1)), (5, .int .i64 4), (6, .pointer none)]) (fun _ => [((g1.γ 0), (elC x0 ++ (elC y0 ++ [Value.bool i0])), 26), ((g1.γ 1), (Z6 ++ (Z6 ++ [Value.bool false])), 26)]) (fun _ => [])
    hF hI trivial (fun g => ⟨pv, trivial⟩) ?_
  intro g5 a5 w5 hF hI
  refine wp_ret ?_
  show bodyPost Tryz.prog Tryz.f26 (Ret w (.tuple #[.agg ((Z6 ++ (Z6 ++ [Value.bool false]))).toArray, .int .i64 4])) .ret _ _
  exact sym_ret2 rfl hF.df (rv_cell 1 hF rfl hI rfl Tryz.underlying26 rfl (by kernel_rfl)) (rv_tmp hF rfl) ⟨rfl, hI.below⟩

set_option maxRecDepth 100000 in
set_option maxHeartbeats 2000000 in
theorem add1_bad {k : Int} (hk : ∀ i : Int, 1 ≤ i → i ≤ 3 → k ≠ i) {x0 y0 : Nat} {i0 : Bool} {x1 y1 : Nat} {i1 : Bool} {w : World} : Calls Tryz.prog 25 #[.int .i64 k, .agg ((elC x0 ++ (elC y0 ++ [Value.bool i0]))).toArray, .agg ((elC x1 ++ (elC y1 ++ [Value.bool i1]))).toArray] w (Ret w (.tuple #[.agg ((Z6 ++ (Z6 ++ [Value.bool false]))).toArray, .int .i64 1])) := by
  refine calls_of_wp Tryz.func25 (by rfl : Tryz.f25.body = some _) ?_
  have hF : Fr [(0, .int .i64 k), (1, .agg ((elC x0 ++ (elC y0 ++ [Value.bool i0]))).toArray), (2, .agg ((elC x1 ++ (elC y1 ++ [Value.bool i1]))).toArray)] 35 _ := Fr.start (args := #[.int .i64 k, .agg ((elC x0 ++ (elC y0 ++ [Value.bool i0]))).toArray, .agg ((elC x1 ++ (elC y1 ++ [Value.bool i1]))).toArray]) (m := 35) (by simp)
  have hI := Inv.start0 w
  refine wp_seq ?_
  refine sy [] #[.new [] (fun _ => ((elC x0 ++ (elC y0 ++ [Value.bool i0]))).toArray) 26,
      .new [] (fun _ => ((elC x1 ++ (elC y1 ++ [Value.bool i1]))).toArray) 26,
      .new [] (fun _ => ((Z6 ++ (Z6 ++ [Value.bool false]))).toArray) 26,
      va (.int .i64 0)]
    (fun g1 => [(0, .int .i64 k), (4, pt (g1.γ 0)), (5, pt (g1.γ 1)), (6, pt (g1.γ 2)), (7, .int .i64 0)]) (fun g1 => [((g1.γ 0), (elC x0 ++ (elC y0 ++ [Value.bool i0])), 26), ((g1.γ 1), (elC x1 ++ (elC y1 ++ [Value.bool i1])), 26), ((g1.γ 2), (Z6 ++ (Z6 ++ [Value.bool false])), 26)]) (fun _ => [])
    hF hI trivial (fun g => ⟨nw,
      nw,
      nw,
      pv, trivial⟩) ?_
  intro g1 a1 w1 hF hI
  refine wp_seq ?_
  refine sy [] #[va (.int .i64 k),
      va (.agg ((elC x0 ++ (elC y0 ++ [Value.bool i0]))).toArray),
      va (.agg ((elC x1 ++ (elC y1 ++ [Value.bool i1]))).toArray),
      .ex [] (fun d => .slice (some ⟨d.n 0, 0, none⟩) 2 2) (fun _ d => fun w => w.heap[d.n 0]? = some (.cells ((elC x0 ++ (elC y0 ++ ([Value.bool i0] ++ (elC x1 ++ (elC y1 ++ [Value.bool i1])))))).toArray 26 (0, 0))),
      va (.tuple #[.pointer none, .int .i64 1]),
      va (.tuple #[.pointer none, .int .i64 1]),
      va (.pointer none),
      va (.int .i64 1),
      va (.pointer none),
      va (.int .i64 1)]
    (fun g2 => [(4, pt (g1.γ 0)), (5, pt (g1.γ 1)), (6, pt (g1.γ 2)), (7, .int .i64 0), (8, .pointer none), (9, .int .i64 1)]) (fun _ => [((g1.γ 0), (elC x0 ++ (elC y0 ++ [Value.bool i0])), 26), ((g1.γ 1), (elC x1 ++ (elC y1 ++ [Value.bool i1])), 26), ((g1.γ 2), (Z6 ++ (Z6 ++ [Value.bool false])), 26)]) (fun g2 => [fun w => w.heap[(g2.δ 3).n 0]? = some (.cells ((elC x0 ++ (elC y0 ++ ([Value.bool i0] ++ (elC x1 ++ (elC y1 ++ [Value.bool i1])))))).toArray 26 (0, 0))])
    hF hI trivial (fun g => ⟨pv,
      lk 0 0 rfl rfl,
      lk 1 0 rfl rfl,
      ⟨fun l d w w1 hg h => hg.block _ _ h fun C t fr e => by cases e; rfl, by kernel_rfl, fun w hI hfa => exU_slice (by kernel_rfl)⟩,
      cv fun w hI hfa => with_bad2 (pb := ((g.δ 3).n 0)) hk,
      pv,
      pv,
      pv,
      pv,
      pv, trivial⟩) ?_
  intro g2 a2 w2 hF hI
  refine wp_seq ?_
  refine wp_seq ?_
  have hI := hI.phi [] trivial
  refine sy [] #[va (.int .i64 1),
      va (.bool true)]
    (fun g3 => [(4, pt (g1.γ 0)), (5, pt (g1.γ 1)), (6, pt (g1.γ 2)), (7, .int .i64 0), (8, .pointer none), (9, .int .i64 1), (19, .bool true)]) (fun _ => [((g1.γ 0), (elC x0 ++ (elC y0 ++ [Value.bool i0])), 26), ((g1.γ 1), (elC x1 ++ (elC y1 ++ [Value.bool i1])), 26), ((g1.γ 2), (Z6 ++ (Z6 ++ [Value.bool false])), 26)]) (fun _ => [])
    hF hI trivial (fun g => ⟨pv,
      pv, trivial⟩) ?_
  intro g3 a3 w3 hF hI
  refine wp_cond_true (hF.eval rfl) ?_
  refine wp_seq ?_
  refine wp_region_cut 3 (by kernel_rfl) (by kernel_rfl) ?_
  refine sym_text_store (P := Tryz.prog) [26] #[va (.agg ((Z6 ++ (Z6 ++ [Value.bool false]))).toArray),
      va (.int .i64 1)]
    (fun g4 => [(4, pt (g1.γ 0)), (5, pt (g1.γ 1)), (6, pt (g1.γ 2)), (7, .int .i64 0), (8, .pointer none), (21, .int .i64 1)]) (fun g4 => [((g1.γ 0), (elC x0 ++ (elC y0 ++ [Value.bool i0])), 26), ((g1.γ 1), (elC x1 ++ (elC y1 ++ [Value.bool i1])), 26), ((g1.γ 2), (Z6 ++ (Z6 ++ [Value.bool false])), 26)]) (fun g4 => [((g1.γ 0), (elC x0 ++ (elC y0 ++ [Value.bool i0])), 26), ((g1.γ 1), (elC x1 ++ (elC y1 ++ [Value.bool i1])), 26), ((g1.γ 2), (Z6 ++ (Z6 ++ [Value.bool false])), 26)]) (fun g4 => []) 2
    hF hI trivial (by kernel_rfl) (by kernel_rfl) (fun g => ⟨pv,
      pv, trivial⟩) (fun g => ⟨by kernel_rfl, by kernel_rfl⟩) (fun g => by kernel_rfl) (fun g => by kernel_rfl) rfl rfl rfl rfl
    (fun g => ⟨(g1.γ 2), 0, (Z6 ++ (Z6 ++ [Value.bool false])), 26, .agg ((Z6 ++ (Z6 ++ [Value.bool false]))).toArray, by kernel_rfl, by kernel_rfl, by kernel_rfl, by kernel_rfl, by kernel_rfl, rfl, by kernel_rfl, by kernel_rfl, by kernel_rfl, by kernel_rfl⟩)
    ?_
  intro g4 a4 w4 hF hI
  show TextOps _ _ _ _ _
  refine sx [] #[va (.int .i64 1)]
    (fun g5 => [(4, pt (g1.γ 0)), (5, pt (g1.γ 1)), (6, pt (g1.γ 2)), (7, .int .i64 1), (8, .pointer none)]) (fun _ => [((g1.γ 0), (elC x0 ++ (elC y0 ++ [Value.bool i0])), 26), ((g1.γ 1), (elC x1 ++ (elC y1 ++ [Value.bool i1])), 26), ((g1.γ 2), (Z6 ++ (Z6 ++ [Value.bool false])), 26)]) (fun _ => [])
    hF hI trivial (fun g => ⟨pv, trivial⟩) ?_
  intro g5 a5 w5 hF hI
  refine wp_ret ?_
  show bodyPost Tryz.prog Tryz.f25 (Ret w (.tuple #[.agg ((Z6 ++ (Z6 ++ [Value.bool false]))).toArray, .int .i64 1])) .ret _ _
  exact sym_ret2 rfl hF.df (rv_cell 2 hF rfl hI rfl Tryz.underlying26 rfl (by kernel_rfl)) (rv_tmp hF rfl) ⟨rfl, hI.below⟩

set_option maxRecDepth 100000 in
set_option maxHeartbeats 2000000 in
theorem add1_tt {c : Nat} (h1 : 1 ≤ c) (h3 : c ≤ 3) [Pr (cp c)] {x0 y0 : Nat} {i0 : Bool} {x1 y1 : Nat} {i1 : Bool} (hx0 : x0 < B64 ^ 6) (hy0 : y0 < B64 ^ 6) (hx1 : x1 < B64 ^ 6) (hy1 : y1 < B64 ^ 6) (e0 : onc c x0 y0 i0 = true) (e1 : onc c x1 y1 i1 = true) {w : World} : Calls Tryz.prog 25 #[.int .i64 (c : Nat), .agg ((elC x0 ++ (elC y0 ++ [Value.bool i0]))).toArray, .agg ((elC x1 ++ (elC y1 ++ [Value.bool i1]))).toArray] w (Ret w (.tuple #[.agg ((elC ((gox (gadd Fd.finv (gI c x0 y0 i0) (gI c x1 y1 i1)))) ++ (elC ((goy (gadd Fd.finv (gI c x0 y0 i0) (gI c x1 y1 i1)))) ++ [Value.bool (gadd Fd.finv (gI c x0 y0 i0) (gI c x1 y1 i1)).inf]))).toArray, .int .i64 0])) := by
  refine calls_of_wp Tryz.func25 (by rfl : Tryz.f25.body = some _) ?_
  have hF : Fr [(0, .int .i64 (c : Nat)), (1, .agg ((elC x0 ++ (elC y0 ++ [Value.bool i0]))).toArray), (2, .agg ((elC x1 ++ (elC y1 ++ [Value.bool i1]))).toArray)] 35 _ := Fr.start (args := #[.int .i64 (c : Nat), .agg ((elC x0 ++ (elC y0 ++ [Value.bool i0]))).toArray, .agg ((elC x1 ++ (elC y1 ++ [Value.bool i1]))).toArray]) (m := 35) (by simp)
  have hI := Inv.start0 w
  refine wp_seq ?_
  refine sy [] #[.new [] (fun _ => ((elC x0 ++ (elC y0 ++ [Value.bool i0]))).toArray) 26,
      .new [] (fun _ => ((elC x1 ++ (elC y1 ++ [Value.bool i1]))).toArray) 26,
      .new [] (fun _ => ((Z6 ++ (Z6 ++ [Value.bool false]))).toArray) 26,
      va (.int .i64 0)]
    (fun g1 => [(0, .int .i64 (c : Nat)), (4, pt (g1.γ 0)), (5, pt (g1.γ 1)), (6, pt (g1.γ 2)), (7, .int .i64 0)]) (fun g1 => [((g1.γ 0), (elC x0 ++ (elC y0 ++ [Value.bool i0])), 26), ((g1.γ 1), (elC x1 ++ (elC y1 ++ [Value.bool i1])), 26), ((g1.γ 2), (Z6 ++ (Z6 ++ [Value.bool false])), 26)]) (fun _ => [])
    hF hI trivial (fun g => ⟨nw,
      nw,
      nw,
      pv, trivial⟩) ?_
  intro g1 a1 w1 hF hI
  refine wp_seq ?_
  refine sy [] #[va (.int .i64 (c : Nat)),
      va (.agg ((elC x0 ++ (elC y0 ++ [Value.bool i0]))).toArray),
      va (.agg ((elC x1 ++ (elC y1 ++ [Value.bool i1]))).toArray),
      .ex [] (fun d => .slice (some ⟨d.n 0, 0, none⟩) 2 2) (fun _ d => fun w => w.heap[d.n 0]? = some (.cells ((elC x0 ++ (elC y0 ++ ([Value.bool i0] ++ (elC x1 ++ (elC y1 ++ [Value.bool i1])))))).toArray 26 (0, 0))),
      .ex [] (fun d => .tuple #[.pointer (some ⟨d.n 0, 0, none⟩), .int .i64 0]) (fun _ d => fun w => FirstB w (d.n 0) (d.n 1) (d.n 2) (d.n 3) (d.n 4) (d.n 5) c),
      .val [4] (fun l => .tuple #[pt ((l.getD 0 dat0).n 0), .int .i64 0]),
      .val [4] (fun l => pt ((l.getD 0 dat0).n 0)),
      va (.int .i64 0),
      .val [4] (fun l => pt ((l.getD 0 dat0).n 0)),
      va (.int .i64 0)]
    (fun g2 => [(4, pt (g1.γ 0)), (5, pt (g1.γ 1)), (6, pt (g1.γ 2)), (7, .int .i64 0), (8, pt ((g2.δ 4).n 0)), (9, .int .i64 0)]) (fun _ => [((g1.γ 0), (elC x0 ++ (elC y0 ++ [Value.bool i0])), 26), ((g1.γ 1), (elC x1 ++ (elC y1 ++ [Value.bool i1])), 26), ((g1.γ 2), (Z6 ++ (Z6 ++ [Value.bool false])), 26)]) (fun g2 => [fun w => w.heap[(g2.δ 3).n 0]? = some (.cells ((elC x0 ++ (elC y0 ++ ([Value.bool i0] ++ (elC x1 ++ (elC y1 ++ [Value.bool i1])))))).toArray 26 (0, 0)), fun w => FirstB w ((g2.δ 4).n 0) ((g2.δ 4).n 1) ((g2.δ 4).n 2) ((g2.δ 4).n 3) ((g2.δ 4).n 4) ((g2.δ 4).n 5) c])
    hF hI trivial (fun g => ⟨pv,
      lk 0 0 rfl rfl,
      lk 1 0 rfl rfl,
      ⟨fun l d w w1 hg h => hg.block _ _ h fun C t fr e => by cases e; rfl, by kernel_rfl, fun w hI hfa => exU_slice (by kernel_rfl)⟩,
      cx (fun l d w w1 hg h => FirstB.grow hg rfl rfl rfl rfl rfl h) fun w hI hfa => w2tt h1 h3 hx0 hy0 hx1 hy1 e0 e1 (hfa 3 _ _ _ (by kernel_rfl) rfl),
      pv,
      pv,
      pv,
      pv,
      pv, trivial⟩) ?_
  intro g2 a2 w2 hF hI
  refine wp_seq ?_
  refine wp_seq ?_
  have hI := hI.phi [fun w => FirstB w ((g2.δ 4).n 0) ((g2.δ 4).n 1) ((g2.δ 4).n 2) ((g2.δ 4).n 3) ((g2.δ 4).n 4) ((g2.δ 4).n 5) c] ⟨hI.fact 1 rfl, trivial⟩
  refine sy [] #[va (.int .i64 0),
      va (.bool false)]
    (fun g3 => [(4, pt (g1.γ 0)), (5, pt (g1.γ 1)), (6, pt (g1.γ 2)), (7, .int .i64 0), (8, pt ((g2.δ 4).n 0)), (9, .int .i64 0), (19, .bool false)]) (fun _ => [((g1.γ 0), (elC x0 ++ (elC y0 ++ [Value.bool i0])), 26), ((g1.γ 1), (elC x1 ++ (elC y1 ++ [Value.bool i1])), 26), ((g1.γ 2), (Z6 ++ (Z6 ++ [Value.bool false])), 26)]) (fun _ => [fun w => FirstB w ((g2.δ 4).n 0) ((g2.δ 4).n 1) ((g2.δ 4).n 2) ((g2.δ 4).n 3) ((g2.δ 4).n 4) ((g2.δ 4).n 5) c])
    hF hI ⟨(fun w w1 hg h => FirstB.grow hg rfl rfl rfl rfl rfl h), trivial⟩ (fun g => ⟨pv,
      pv, trivial⟩) ?_
  intro g3 a3 w3 hF hI
  refine wp_cond_false (hF.eval rfl) ?_
  refine wp_skip ?_
  refine wp_seq ?_
  refine ss3 [] #[va (pt ((g2.δ 4).n 0)),
      va (pt ((g2.δ 4).n 0)),
      va (pt ((g2.δ 4).n 0)),
      va (.pointer (some ⟨((g2.δ 4).n 0), 1, none⟩)),
      va (pt (((g2.δ 4).n 2))),
      va (pt ((g2.δ 4).n 0)),
      va (.agg ((elC x0 ++ (elC y0 ++ [Value.bool i0]))).toArray),
      va (.agg ((feC (cp c) (cn c) ((gI c x0 y0 i0).x) ++ (feC (cp c) (cn c) ((gI c x0 y0 i0).y) ++ [Value.bool (gI c x0 y0 i0).inf]))).toArray),
      va (pt ((g2.δ 4).n 0)),
      va (.agg ((elC x1 ++ (elC y1 ++ [Value.bool i1]))).toArray),
      va (.agg ((feC (cp c) (cn c) ((gI c x1 y1 i1).x) ++ (feC (cp c) (cn c) ((gI c x1 y1 i1).y) ++ [Value.bool (gI c x1 y1 i1).inf]))).toArray),
      va (.agg ((feC (cp c) (cn c) ((gadd Fd.finv (gI c x0 y0 i0) (gI c x1 y1 i1)).x) ++ (feC (cp c) (cn c) ((gadd Fd.finv (gI c x0 y0 i0) (gI c x1 y1 i1)).y) ++ [Value.bool (gadd Fd.finv (gI c x0 y0 i0) (gI c x1 y1 i1)).inf]))).toArray),
      va (.agg ((elC ((gox (gadd Fd.finv (gI c x0 y0 i0) (gI c x1 y1 i1)))) ++ (elC ((goy (gadd Fd.finv (gI c x0 y0 i0) (gI c x1 y1 i1)))) ++ [Value.bool (gadd Fd.finv (gI c x0 y0 i0) (gI c x1 y1 i1)).inf]))).toArray)]
    (fun g4 => [(6, pt (g1.γ 2))]) (fun _ => [((g1.γ 0), (elC x0 ++ (elC y0 ++ [Value.bool i0])), 26), ((g1.γ 1), (elC x1 ++ (elC y1 ++ [Value.bool i1])), 26), ((g1.γ 2), (elC ((gox (gadd Fd.finv (gI c x0 y0 i0) (gI c x1 y1 i1)))) ++ (elC ((goy (gadd Fd.finv (gI c x0 y0 i0) (gI c x1 y1 i1)))) ++ [Value.bool (gadd Fd.finv (gI c x0 y0 i0) (gI c x1 y1 i1)).inf])), 26)]) (fun _ => [fun w => FirstB w ((g2.δ 4).n 0) ((g2.δ 4).n 1) ((g2.δ 4).n 2) ((g2.δ 4).n 3) ((g2.δ 4).n 4) ((g2.δ 4).n 5) c]) 2 0
    hF hI ⟨(fun w w1 hg h => FirstB.grow hg rfl rfl rfl rfl rfl h), trivial⟩ (fun g => ⟨pv,
      pv,
      pv,
      pv,
      lR1 (fun w hI hfa => ((hI.fact 0 rfl).toC).c1) rfl,
      pv,
      lk 0 0 rfl rfl,
      cv fun w hI hfa => cin_any hx0 hy0 ((hI.fact 0 rfl).toC),
      pv,
      lk 1 0 rfl rfl,
      cv fun w hI hfa => cin_any hx1 hy1 ((hI.fact 0 rfl).toC),
      cv fun w hI hfa => gadd_any rfl ((hI.fact 0 rfl).toC).grp,
      cv fun w hI hfa => cout_p1 ((hI.fact 0 rfl).toC), trivial⟩) rfl rfl rfl rfl rfl rfl ?_
  intro g4 a4 w4 hF hI
  refine wp_ret ?_
  show bodyPost Tryz.prog Tryz.f25 (Ret w (.tuple #[.agg ((elC ((gox (gadd Fd.finv (gI c x0 y0 i0) (gI c x1 y1 i1)))) ++ (elC ((goy (gadd Fd.finv (gI c x0 y0 i0) (gI c x1 y1 i1)))) ++ [Value.bool (gadd Fd.finv (gI c x0 y0 i0) (gI c x1 y1 i1)).inf]))).toArray, .int .i64 0])) .ret _ _
  exact sym_ret2 rfl hF.df (rv_cell 2 hF rfl hI rfl Tryz.underlying26 rfl (by kernel_rfl)) (rv_tmp hF rfl) ⟨rfl, hI.below⟩

set_option maxRecDepth 100000 in
set_option maxHeartbeats 2000000 in
theorem add1_f {c : Nat} (h1 : 1 ≤ c) (h3 : c ≤ 3) [Pr (cp c)] {x0 y0 : Nat} {i0 : Bool} {x1 y1 : Nat} {i1 : Bool} (hx0 : x0 < B64 ^ 6) (hy0 : y0 < B64 ^ 6) (e0 : onc c x0 y0 i0 = false) {w : World} : Calls Tryz.prog 25 #[.int .i64 (c : Nat), .agg ((elC x0 ++ (elC y0 ++ [Value.bool i0]))).toArray, .agg ((elC x1 ++ (elC y1 ++ [Value.bool i1]))).toArray] w (Ret w (.tuple #[.agg ((Z6 ++ (Z6 ++ [Value.bool false]))).toArray, .int .i64 4])) := by
  refine calls_of_wp Tryz.func25 (by rfl : Tryz.f25.body = some _) ?_
  have hF : Fr [(0, .int .i64 (c : Nat)), (1, .agg ((elC x0 ++ (elC y0 ++ [Value.bool i0]))).toArray), (2, .agg ((elC x1 ++ (elC y1 ++ [Value.bool i1]))).toArray)] 35 _ := Fr.start (args := #[.int .i64 (c : Nat), .agg ((elC x0 ++ (elC y0 ++ [Value.bool i0]))).toArray, .agg ((elC x1 ++ (elC y1 ++ [Value.bool i1]))).toArray]) (m := 35) (by simp)
  have hI := Inv.start0 w
  refine wp_seq ?_
  refine sy [] #[.new [] (fun _ => ((elC x0 ++ (elC y0 ++ [Value.bool i0]))).toArray) 26,
      .new [] (fun _ => ((elC x1 ++ (elC y1 ++ [Value.bool i1]))).toArray) 26,
      .new [] (fun _ => ((Z6 ++ (Z6 ++ [Value.bool false]))).toArray) 26,
      va (.int .i64 0)]
    (fun g1 => [(0, .int .i64 (c : Nat)), (4, pt (g1.γ 0)), (5, pt (g1.γ 1)), (6, pt (g1.γ 2)), (7, .int .i64 0)]) (fun g1 => [((g1.γ 0), (elC x0 ++ (elC y0 ++ [Value.bool i0])), 26), ((g1.γ 1), (elC x1 ++ (elC y1 ++ [Value.bool i1])), 26), ((g1.γ 2), (Z6 ++ (Z6 ++ [Value.bool false])), 26)]) (fun _ => [])
    hF hI trivial (fun g => ⟨nw,
      nw,
      nw,
      pv, trivial⟩) ?_
  intro g1 a1 w1 hF hI
  refine wp_seq ?_
  refine sy [] #[va (.int .i64 (c : Nat)),
      va (.agg ((elC x0 ++ (elC y0 ++ [Value.bool i0]))).toArray),
      va (.agg ((elC x1 ++ (elC y1 ++ [Value.bool i1]))).toArray),
      .ex [] (fun d => .slice (some ⟨d.n 0, 0, none⟩) 2 2) (fun _ d => fun w => w.heap[d.n 0]? = some (.cells ((elC x0 ++ (elC y0 ++ ([Value.bool i0] ++ (elC x1 ++ (elC y1 ++ [Value.bool i1])))))).toArray 26 (0, 0))),
      va (.tuple #[.pointer none, .int .i64 4]),
      va (.tuple #[.pointer none, .int .i64 4]),
      va (.pointer none),
      va (.int .i64 4),
      va (.pointer none),
      va (.int .i64 4)]
    (fun g2 => [(4, pt (g1.γ 0)), (5, pt (g1.γ 1)), (6, pt (g1.γ 2)), (7, .int .i64 0), (8, .pointer none), (9, .int .i64 4)]) (fun _ => [((g1.γ 0), (elC x0 ++ (elC y0 ++ [Value.bool i0])), 26), ((g1.γ 1), (elC x1 ++ (elC y1 ++ [Value.bool i1])), 26), ((g1.γ 2), (Z6 ++ (Z6 ++ [Value.bool false])), 26)]) (fun g2 => [fun w => w.heap[(g2.δ 3).n 0]? = some (.cells ((elC x0 ++ (elC y0 ++ ([Value.bool i0] ++ (elC x1 ++ (elC y1 ++ [Value.bool i1])))))).toArray 26 (0, 0))])
    hF hI trivial (fun g => ⟨pv,
      lk 0 0 rfl rfl,
      lk 1 0 rfl rfl,
      ⟨fun l d w w1 hg h => hg.block _ _ h fun C t fr e => by cases e; rfl, by kernel_rfl, fun w hI hfa => exU_slice (by kernel_rfl)⟩,
      cv fun w hI hfa => w2f h1 h3 hx0 hy0 e0 (hfa 3 _ _ _ (by kernel_rfl) rfl),
      pv,
      pv,
      pv,
      pv,
      pv, trivial⟩) ?_
  intro g2 a2 w2 hF hI
  refine wp_seq ?_
  refine wp_seq ?_
  have hI := hI.phi [] trivial
  refine sy [] #[va (.int .i64 4),
      va (.bool true)]
    (fun g3 => [(4, pt (g1.γ 0)), (5, pt (g1.γ 1)), (6, pt (g1.γ 2)), (7, .int .i64 0), (8, .pointer none), (9, .int .i64 4), (19, .bool true)]) (fun _ => [((g1.γ 0), (elC x0 ++ (elC y0 ++ [Value.bool i0])), 26), ((g1.γ 1), (elC x1 ++ (elC y1 ++ [Value.bool i1])), 26), ((g1.γ 2), (Z6 ++ (Z6 ++ [Value.bool false])), 26)]) (fun _ => [])
    hF hI trivial (fun g => ⟨pv,
      pv, trivial⟩) ?_
  intro g3 a3 w3 hF hI
  refine wp_cond_true (hF.eval rfl) ?_
  refine wp_seq ?_
  refine wp_region_cut 3 (by kernel_rfl) (by kernel_rfl) ?_
  refine sym_text_store (P := Tryz.prog) [26] #[va (.agg ((Z6 ++ (Z6 ++ [Value.bool false]))).toArray),
      va (.int .i64 4)]
    (fun g4 => [(4, pt (g1.γ 0)), (5, pt (g1.γ 1)), (6, pt (g1.γ 2)), (7, .int .i64 0), (8, .pointer none), (21, .int .i64 4)]) (fun g4 => [((g1.γ 0), (elC x0 ++ (elC y0 ++ [Value.bool i0])), 26), ((g1.γ 1), (elC x1 ++ (elC y1 ++ [Value.bool i1])), 26), ((g1.γ 2), (Z6 ++ (Z6 ++ [Value.bool false])), 26)]) (fun g4 => [((g1.γ 0), (elC x0 ++ (elC y0 ++ [Value.bool i0])), 26), ((g1.γ 1), (elC x1 ++ (elC y1 ++ [Value.bool i1])), 26), ((g1.γ 2), (Z6 ++ (Z6 ++ [Value.bool false])), 26)]) (fun g4 => []) 2
    hF hI trivial (by kernel_rfl) (by kernel_rfl) (fun g => ⟨pv,
      pv, trivial⟩) (fun g => ⟨by kernel_rfl, by kernel_rfl⟩) (fun g => by kernel_rfl) (fun g => by kernel_rfl) rfl rfl rfl rfl
    (fun g => ⟨(g1.γ 2), 0, (Z6 ++ (Z6 ++ [Value.bool false])), 26, .agg ((Z6 ++ (Z6 ++ [Value.bool false]))).toArray, by kernel_rfl, by kernel_rfl, by kernel_rfl, by kernel_rfl, by kernel_rfl, rfl, by kernel_rfl, by kernel_rfl, by kernel_rfl, by kernel_rfl⟩)
    ?_
  intro g4 a4 w4 hF hI
  show TextOps _ _ _ _ _
  refine sx [] #[va (.int .i64 4)]
    (fun g5 => [(4, pt (g1.γ 0)), (5, pt (g1.γ 1)), (6, pt (g1.γ 2)), (7, .int .i64 4), (8, .pointer none)]) (fun _ => [((g1.γ 0), (elC x0 ++ (elC y0 ++ [Value.bool i0])), 26), ((g1.γ 1), (elC x1 ++ (elC y1 ++ [Value.bool i1])), 26), ((g1.γ 2), (Z6 ++ (Z6 ++ [Value.bool false])), 26)]) (fun _ => [])
    hF hI trivial (fun g => ⟨pv, trivial⟩) ?_
  intro g5 a5 w5 hF hI
  refine wp_ret ?_
  show bodyPost Tryz.prog Tryz.f25 (Ret w (.tuple #[.agg ((Z6 ++ (Z6 ++ [Value.bool false]))).toArray, .int .i64 4])) .ret _ _
  exact sym_ret2 rfl hF.df (rv_cell 2 hF rfl hI rfl Tryz.underlying26 rfl (by kernel_rfl)) (rv_tmp hF rfl) ⟨rfl, hI.below⟩

set_option maxRecDepth 100000 in
set_option maxHeartbeats 2000000 in
theorem add1_tf {c : Nat} (h1 : 1 ≤ c) (h3 : c ≤ 3) [Pr (cp c)] {x0 y0 : Nat} {i0 : Bool} {x1 y1 : Nat} {i1 : Bool} (hx0 : x0 < B64 ^ 6) (hy0 : y0 < B64 ^ 6) (hx1 : x1 < B64 ^ 6) (hy1 : y1 < B64 ^ 6) (e0 : onc c x0 y0 i0 = true) (e1 : onc c x1 y1 i1 = false) {w : World} : Calls Tryz.prog 25 #[.int .i64 (c : Nat), .agg ((elC x0 ++ (elC y0 ++ [Value.bool i0]))).toArray, .agg ((elC x1 ++ (elC y1 ++ [Value.bool i1]))).toArray] w (Ret w (.tuple #[.agg ((Z6 ++ (Z6 ++ [Value.bool false]))).toArray, .int .i64 4])) := by
  refine calls_of_wp Tryz.func25 (by rfl : Tryz.f25.body = some _) ?_
  have hF : Fr [(0, .int .i64 (c : Nat)), (1, .agg ((elC x0 ++ (elC y0 ++ [Value.bool i0]))).toArray), (2, .agg ((elC x1 ++ (elC y1 ++ [Value.bool i1]))).toArray)] 35 _ := Fr.start (args := #[.int .i64 (c : Nat), .agg ((elC x0 ++ (elC y0 ++ [Value.bool i0]))).toArray, .agg ((elC x1 ++ (elC y1 ++ [Value.bool i1]))).toArray]) (m := 35) (by simp)
  have hI := Inv.start0 w
  refine wp_seq ?_
  refine sy [] #[.new [] (fun _ => ((elC x0 ++ (elC y0 ++ [Value.bool i0]))).toArray) 26,
      .new [] (fun _ => ((elC x1 ++ (elC y1 ++ [Value.bool i1]))).toArray) 26,
      .new [] (fun _ => ((Z6 ++ (Z6 ++ [Value.bool false]))).toArray) 26,
      va (.int .i64 0)]
    (fun g1 => [(0, .int .i64 (c : Nat)), (4, pt (g1.γ 0)), (5, pt (g1.γ 1)), (6, pt (g1.γ 2)), (7, .int .i64 0)]) (fun g1 => [((g1.γ 0), (elC x0 ++ (elC y0 ++ [Value.bool i0])), 26), ((g1.γ 1), (elC x1 ++ (elC y1 ++ [Value.bool i1])), 26), ((g1.γ 2), (Z6 ++ (Z6 ++ [Value.bool false])), 26)]) (fun _ => [])
    hF hI trivial (fun g => ⟨nw,
      nw,
      nw,
      pv, trivial⟩) ?_
  intro g1 a1 w1 hF hI
  refine wp_seq ?_
  refine sy [] #[va (.int .i64 (c : Nat)),
      va (.agg ((elC x0 ++ (elC y0 ++ [Value.bool i0]))).toArray),
      va (.agg ((elC x1 ++ (elC y1 ++ [Value.bool i1]))).toArray),
      .ex [] (fun d => .slice (some ⟨d.n 0, 0, none⟩) 2 2) (fun _ d => fun w => w.heap[d.n 0]? = some (.cells ((elC x0 ++ (elC y0 ++ ([Value.bool i0] ++ (elC x1 ++ (elC y1 ++ [Value.bool i1])))))).toArray 26 (0, 0))),
      va (.tuple #[.pointer none, .int .i64 4]),
      va (.tuple #[.pointer none, .int .i64 4]),
      va (.pointer none),
      va (.int .i64 4),
      va (.pointer none),
      va (.int .i64 4)]
    (fun g2 => [(4, pt (g1.γ 0)), (5, pt (g1.γ 1)), (6, pt (g1.γ 2)), (7, .int .i64 0), (8, .pointer none), (9, .int .i64 4)]) (fun _ => [((g1.γ 0), (elC x0 ++ (elC y0 ++ [Value.bool i0])), 26), ((g1.γ 1), (elC x1 ++ (elC y1 ++ [Value.bool i1])), 26), ((g1.γ 2), (Z6 ++ (Z6 ++ [Value.bool false])), 26)]) (fun g2 => [fun w => w.heap[(g2.δ 3).n 0]? = some (.cells ((elC x0 ++ (elC y0 ++ ([Value.bool i0] ++ (elC x1 ++ (elC y1 ++ [Value.bool i1])))))).toArray 26 (0, 0))])
    hF hI trivial (fun g => ⟨pv,
      lk 0 0 rfl rfl,
      lk 1 0 rfl rfl,
      ⟨fun l d w w1 hg h => hg.block _ _ h fun C t fr e => by cases e; rfl, by kernel_rfl, fun w hI hfa => exU_slice (by kernel_rfl)⟩,
      cv fun w hI hfa => w2tf h1 h3 hx0 hy0 hx1 hy1 e0 e1 (hfa 3 _ _ _ (by kernel_rfl) rfl),
      pv,
      pv,
      pv,
      pv,
      pv, trivial⟩) ?_
  intro g2 a2 w2 hF hI
  refine wp_seq ?_
  refine wp_seq ?_
  have hI := hI.phi [] trivial
  refine sy [] #[va (.int .i64 4),
      va (.bool true)]
    (fun g3 => [(4, pt (g1.γ 0)), (5, pt (g1.γ 1)), (6, pt (g1.γ 2)), (7, .int .i64 0), (8, .pointer none), (9, .int .i64 4), (19, .bool true)]) (fun _ => [((g1.γ 0), (elC x0 ++ (elC y0 ++ [Value.bool i0])), 26), ((g1.γ 1), (elC x1 ++ (elC y1 ++ [Value.bool i1])), 26), ((g1.γ 2), (Z6 ++ (Z6 ++ [Value.bool false])), 26)]) (fun _ => [])
    hF hI trivial (fun g => ⟨pv,
      pv, trivial⟩) ?_
  intro g3 a3 w3 hF hI
  refine wp_cond_true (hF.eval rfl) ?_
  refine wp_seq ?_
  refine wp_region_cut 3 (by kernel_rfl) (by kernel_rfl) ?_
  refine sym_text_store (P := Tryz.prog) [26] #[va (.agg ((Z6 ++ (Z6 ++ [Value.bool false]))).toArray),
      va (.int .i64 4)]
    (fun g4 => [(4, pt (g1.γ 0)), (5, pt (g1.γ 1)), (6, pt (g1.γ 2)), (7, .int .i64 0), (8, .pointer none), (21, .int .i64 4)]) (fun g4 => [((g1.γ 0), (elC x0 ++ (elC y0 ++ [Value.bool i0])), 26), ((g1.γ 1), (elC x1 ++ (elC y1 ++ [Value.bool i1])), 26), ((g1.γ 2), (Z6 ++ (Z6 ++ [Value.bool false])), 26)]) (fun g4 => [((g1.γ 0), (elC x0 ++ (elC y0 ++ [Value.bool i0])), 26), ((g1.γ 1), (elC x1 ++ (elC y1 ++ [Value.bool i1])), 26), ((g1.γ 2), (Z6 ++ (Z6 ++ [Value.bool false])), 26)]) (fun g4 => []) 2
    hF hI trivial (by kernel_rfl) (by kernel_rfl) (fun g => ⟨pv,
      pv, trivial⟩) (fun g => ⟨by kernel_rfl, by kernel_rfl⟩) (fun g => by kernel_rfl) (fun g => by kernel_rfl) rfl rfl rfl rfl
    (fun g => ⟨(g1.γ 2), 0, (Z6 ++ (Z6 ++ [Value.bool false])), 26, .agg ((Z6 ++ (Z6 ++ [Value.bool false]))).toArray, by kernel_rfl, by kernel_rfl, by kernel_rfl, by kernel_rfl, by kernel_rfl, rfl, by kernel_rfl, by kernel_rfl, by kernel_rfl, by kernel_rfl⟩)
    ?_
  intro g4 a4 w4 hF hI
  show TextOps _ _ _ _ _
  refine sx [] #[va (.int .i64 4)]
    (fun g5 => [(4, pt (g1.γ 0)), (5, pt (g1.γ 1)), (6, pt (g1.γ 2)), (7, .int .i64 4), (8, .pointer none)]) (fun _ => [((g1.γ 0), (elC x0 ++ (elC y0 ++ [Value.bool i0])), 26), ((g1.γ 1), (elC x1 ++ (elC y1 ++ [Value.bool i1])), 26), ((g1.γ 2), (Z6 ++ (Z6 ++ [Value.bool false])), 26)]) (fun _ => [])
    hF hI trivial (fun g => ⟨pv, trivial⟩) ?_
  intro g5 a5 w5 hF hI
  refine wp_ret ?_
  show bodyPost Tryz.prog Tryz.f25 (Ret w (.tuple #[.agg ((Z6 ++ (Z6 ++ [Value.bool false]))).toArray, .int .i64 4])) .ret _ _
  exact sym_ret2 rfl hF.df (rv_cell 2 hF rfl hI rfl Tryz.underlying26 rfl (by kernel_rfl)) (rv_tmp hF rfl) ⟨rfl, hI.below⟩

set_option maxRecDepth 100000 in
set_option maxHeartbeats 2000000 in
theorem mul1_bad {k : Int} (hk : ∀ i : Int, 1 ≤ i → i ≤ 3 → k ≠ i) {x0 y0 : Nat} {i0 : Bool} {A : Option Addr} {cap : Nat} {bs : List Nat} {w : World} : Calls Tryz.prog 27 #[.int .i64 k, .agg ((elC x0 ++ (elC y0 ++ [Value.bool i0]))).toArray, .slice A bs.length cap] w (Ret w (.tuple #[.agg ((Z6 ++ (Z6 ++ [Value.bool false]))).toArray, .int .i64 1])) := by
  refine calls_of_wp Tryz.func27 (by rfl : Tryz.f27.body = some _) ?_
  have hF : Fr [(0, .int .i64 k), (1, .agg ((elC x0 ++ (elC y0 ++ [Value.bool i0]))).toArray), (2, .slice A bs.length cap)] 33 _ := Fr.start (args := #[.int .i64 k, .agg ((elC x0 ++ (elC y0 ++ [Value.bool i0]))).toArray, .slice A bs.length cap]) (m := 33) (by simp)
  have hI := Inv.start0 w
  refine wp_seq ?_
  refine sy [] #[.new [] (fun _ => ((elC x0 ++ (elC y0 ++ [Value.bool i0]))).toArray) 26,
      .new [] (fun _ => ((Z6 ++ (Z6 ++ [Value.bool false]))).toArray) 26,
      va (.int .i64 0)]
    (fun g1 => [(0, .int .i64 k), (2, .slice A bs.length cap), (4, pt (g1.γ 0)), (6, pt (g1.γ 1)), (7, .int .i64 0)]) (fun g1 => [((g1.γ 0), (elC x0 ++ (elC y0 ++ [Value.bool i0])), 26), ((g1.γ 1), (Z6 ++ (Z6 ++ [Value.bool false])), 26)]) (fun _ => [])
    hF hI trivial (fun g => ⟨nw,
      nw,
      pv, trivial⟩) ?_
  intro g1 a1 w1 hF hI
  refine wp_seq ?_
  refine sy [] #[va (.int .i64 k),
      va (.agg ((elC x0 ++ (elC y0 ++ [Value.bool i0]))).toArray),
      .ex [] (fun d => .slice (some ⟨d.n 0, 0, none⟩) 1 1) (fun _ d => fun w => w.heap[d.n 0]? = some (.cells ((elC x0 ++ (elC y0 ++ [Value.bool i0]))).toArray 26 (0, 0))),
      va (.tuple #[.pointer none, .int .i64 1]),
      va (.tuple #[.pointer none, .int .i64 1]),
      va (.pointer none),
      va (.int .i64 1),
      va (.pointer none),
      va (.int .i64 1)]
    (fun g2 => [(2, .slice A bs.length cap), (4, pt (g1.γ 0)), (6, pt (g1.γ 1)), (7, .int .i64 0), (8, .pointer none), (9, .int .i64 1)]) (fun _ => [((g1.γ 0), (elC x0 ++ (elC y0 ++ [Value.bool i0])), 26), ((g1.γ 1), (Z6 ++ (Z6 ++ [Value.bool false])), 26)]) (fun g2 => [fun w => w.heap[(g2.δ 2).n 0]? = some (.cells ((elC x0 ++ (elC y0 ++ [Value.bool i0]))).toArray 26 (0, 0))])
    hF hI trivial (fun g => ⟨pv,
      lk 0 0 rfl rfl,
      ⟨fun l d w w1 hg h => hg.block _ _ h fun C t fr e => by cases e; rfl, by kernel_rfl, fun w hI hfa => exU_slice (by kernel_rfl)⟩,
      cv fun w hI hfa => with_bad1 (pb := ((g.δ 2).n 0)) hk,
      pv,
      pv,
      pv,
      pv,
      pv, trivial⟩) ?_
  intro g2 a2 w2 hF hI
  refine wp_seq ?_
  refine wp_seq ?_
  have hI := hI.phi [] trivial
  refine sy [] #[va (.int .i64 1),
      va (.bool true)]
    (fun g3 => [(2, .slice A bs.length cap), (4, pt (g1.γ 0)), (6, pt (g1.γ 1)), (7, .int .i64 0), (8, .pointer none), (9, .int .i64 1), (18, .bool true)]) (fun _ => [((g1.γ 0), (elC x0 ++ (elC y0 ++ [Value.bool i0])), 26), ((g1.γ 1), (Z6 ++ (Z6 ++ [Value.bool false])), 26)]) (fun _ => [])
    hF hI trivial (fun g => ⟨pv,
      pv, trivial⟩) ?_
  intro g3 a3 w3 hF hI
  refine wp_cond_true (hF.eval rfl) ?_
  refine wp_seq ?_
  refine wp_region_cut 3 (by kernel_rfl) (by kernel_rfl) ?_
  refine sym_text_store (P := Tryz.prog) [26] #[va (.agg ((Z6 ++ (Z6 ++ [Value.bool false]))).toArray),
      va (.int .i64 1)]
    (fun g4 => [(2, .slice A bs.length cap), (4, pt (g1.γ 0)), (6, pt (g1.γ 1)), (7, .int .i64 0), (8, .pointer none), (20, .int .i64 1)]) (fun g4 => [((g1.γ 0), (elC x0 ++ (elC y0 ++ [Value.bool i0])), 26), ((g1.γ 1), (Z6 ++ (Z6 ++ [Value.bool false])), 26)]) (fun g4 => [((g1.γ 0), (elC x0 ++ (elC y0 ++ [Value.bool i0])), 26), ((g1.γ 1), (Z6 ++ (Z6 ++ [Value.bool false])), 26)]) (fun g4 => []) 1
    hF hI trivial (by kernel_rfl) (by kernel_rfl) (fun g => ⟨pv,
      pv, trivial⟩) (fun g => ⟨by kernel_rfl, by kernel_rfl⟩) (fun g => by kernel_rfl) (fun g => by kernel_rfl) rfl rfl rfl rfl
    (fun g => ⟨(g1.γ 1), 0, (Z6 ++ (Z6 ++ [Value.bool false])), 26, .agg ((Z6 ++ (Z6 ++ [Value.bool false]))).toArray, by kernel_rfl, by kernel_rfl, by kernel_rfl, by kernel_rfl, by kernel_rfl, rfl, by kernel_rfl, by kernel_rfl, by kernel_rfl, by kernel_rfl⟩)
    ?_
  intro g4 a4 w4 hF hI
  show TextOps _ _ _ _ _
  refine sx [] #[va (.int .i64 1)]
    (fun g5 => [(2, .slice A bs.length cap), (4, pt (g1.γ 0)), (6, pt (g1.γ 1)), (7, .int .i64 1), (8, .pointer none)]) (fun _ => [((g1.γ 0), (elC x0 ++ (elC y0 ++ [Value.bool i0])), 26), ((g1.γ 1), (Z6 ++ (Z6 ++ [Value.bool false])), 26)]) (fun _ => [])
    hF hI trivial (fun g => ⟨pv, trivial⟩) ?_
  intro g5 a5 w5 hF hI
  refine wp_ret ?_
  show bodyPost Tryz.prog Tryz.f27 (Ret w (.tuple #[.agg ((Z6 ++ (Z6 ++ [Value.bool false]))).toArray, .int .i64 1])) .ret _ _
  exact sym_ret2 rfl hF.df (rv_cell 1 hF rfl hI rfl Tryz.underlying26 rfl (by kernel_rfl)) (rv_tmp hF rfl) ⟨rfl, hI.below⟩

set_option maxRecDepth 100000 in
set_option maxHeartbeats 2000000 in
theorem mul1_f {c : Nat} (h1 : 1 ≤ c) (h3 : c ≤ 3) [Pr (cp c)] {x0 y0 : Nat} {i0 : Bool} (hx0 : x0 < B64 ^ 6) (hy0 : y0 < B64 ^ 6) (e0 : onc c x0 y0 i0 = false) {A : Option Addr} {cap : Nat} {bs : List Nat} {w : World} : Calls Tryz.prog 27 #[.int .i64 (c : Nat), .agg ((elC x0 ++ (elC y0 ++ [Value.bool i0]))).toArray, .slice A bs.length cap] w (Ret w (.tuple #[.agg ((Z6 ++ (Z6 ++ [Value.bool false]))).toArray, .int .i64 4])) := by
  refine calls_of_wp Tryz.func27 (by rfl : Tryz.f27.body = some _) ?_
  have hF : Fr [(0, .int .i64 (c : Nat)), (1, .agg ((elC x0 ++ (elC y0 ++ [Value.bool i0]))).toArray), (2, .slice A bs.length cap)] 33 _ := Fr.start (args := #[.int .i64 (c : Nat), .agg ((elC x0 ++ (elC y0 ++ [Value.bool i0]))).toArray, .slice A bs.length cap]) (m := 33) (by simp)
  have hI := Inv.start0 w
  refine wp_seq ?_
  refine sy [] #[.new [] (fun _ => ((elC x0 ++ (elC y0 ++ [Value.bool i0]))).toArray) 26,
      .new [] (fun _ => ((Z6 ++ (Z6 ++ [Value.bool false]))).toArray) 26,
      va (.int .i64 0)]
    (fun g1 => [(0, .int .i64 (c : Nat)), (2, .slice A bs.length cap), (4, pt (g1.γ 0)), (6, pt (g1.γ 1)), (7, .int .i64 0)]) (fun g1 => [((g1.γ 0), (elC x0 ++ (elC y0 ++ [Value.bool i0])), 26), ((g1.γ 1), (Z6 ++ (Z6 ++ [Value.bool false])), 26)]) (fun _ => [])
    hF hI trivial (fun g => ⟨nw,
      nw,
      pv, trivial⟩) ?_
  intro g1 a1 w1 hF hI
  refine wp_seq ?_
  refine sy [] #[va (.int .i64 (c : Nat)),
      va (.agg ((elC x0 ++ (elC y0 ++ [Value.bool i0]))).toArray),
      .ex [] (fun d => .slice (some ⟨d.n 0, 0, none⟩) 1 1) (fun _ d => fun w => w.heap[d.n 0]? = some (.cells ((elC x0 ++ (elC y0 ++ [Value.bool i0]))).toArray 26 (0, 0))),
      va (.tuple #[.pointer none, .int .i64 4]),
      va (.tuple #[.pointer none, .int .i64 4]),
      va (.pointer none),
      va (.int .i64 4),
      va (.pointer none),
      va (.int .i64 4)]
    (fun g2 => [(2, .slice A bs.length cap), (4, pt (g1.γ 0)), (6, pt (g1.γ 1)), (7, .int .i64 0), (8, .pointer none), (9, .int .i64 4)]) (fun _ => [((g1.γ 0), (elC x0 ++ (elC y0 ++ [Value.bool i0])), 26), ((g1.γ 1), (Z6 ++ (Z6 ++ [Value.bool false])), 26)]) (fun g2 => [fun w => w.heap[(g2.δ 2).n 0]? = some (.cells ((elC x0 ++ (elC y0 ++ [Value.bool i0]))).toArray 26 (0, 0))])
    hF hI trivial (fun g => ⟨pv,
      lk 0 0 rfl rfl,
      ⟨fun l d w w1 hg h => hg.block _ _ h fun C t fr e => by cases e; rfl, by kernel_rfl, fun w hI hfa => exU_slice (by kernel_rfl)⟩,
      cv fun w hI hfa => w1f h1 h3 hx0 hy0 e0 (hfa 2 _ _ _ (by kernel_rfl) rfl),
      pv,
      pv,
      pv,
      pv,
      pv, trivial⟩) ?_
  intro g2 a2 w2 hF hI
  refine wp_seq ?_
  refine wp_seq ?_
  have hI := hI.phi [] trivial
  refine sy [] #[va (.int .i64 4),
      va (.bool true)]
    (fun g3 => [(2, .slice A bs.length cap), (4, pt (g1.γ 0)), (6, pt (g1.γ 1)), (7, .int .i64 0), (8, .pointer none), (9, .int .i64 4), (18, .bool true)]) (fun _ => [((g1.γ 0), (elC x0 ++ (elC y0 ++ [Value.bool i0])), 26), ((g1.γ 1), (Z6 ++ (Z6 ++ [Value.bool false])), 26)]) (fun _ => [])
    hF hI trivial (fun g => ⟨pv,
      pv, trivial⟩) ?_
  intro g3 a3 w3 hF hI
  refine wp_cond_true (hF.eval rfl) ?_
  refine wp_seq ?_
  refine wp_region_cut 3 (by kernel_rfl) (by kernel_rfl) ?_
  refine sym_text_store (P := Tryz.prog) [26] #[va (.agg ((Z6 ++ (Z6 ++ [Value.bool false]))).toArray),
      va (.int .i64 4)]
    (fun g4 => [(2, .slice A bs.length cap), (4, pt (g1.γ 0)), (6, pt (g1.γ 1)), (7, .int .i64 0), (8, .pointer none), (20, .int .i64 4)]) (fun g4 => [((g1.γ 0), (elC x0 ++ (elC y0 ++ [Value.bool i0])), 26), ((g1.γ 1), (Z6 ++ (Z6 ++ [Value.bool false])), 26)]) (fun g4 => [((g1.γ 0), (elC x0 ++ (elC y0 ++ [Value.bool i0])), 26), ((g1.γ 1), (Z6 ++ (Z6 ++ [Value.bool false])), 26)]) (fun g4 => []) 1
    hF hI trivial (by kernel_rfl) (by kernel_rfl) (fun g => ⟨pv,
      pv, trivial⟩) (fun g => ⟨by kernel_rfl, by kernel_rfl⟩) (fun g => by kernel_rfl) (fun g => by kernel_rfl) rfl rfl rfl rfl
    (fun g => ⟨(g1.γ 1), 0, (Z6 ++ (Z6 ++ [Value.bool false])), 26, .agg ((Z6 ++ (Z6 ++ [Value.bool false]))).toArray, by kernel_rfl, by kernel_rfl, by kernel_rfl, by kernel_rfl, by kernel_rfl, rfl, by kernel_rfl, by kernel_rfl, by kernel_rfl, by kernel_rfl⟩)
    ?_
  intro g4 a4 w4 hF hI
  show TextOps _ _ _ _ _
  refine sx [] #[va (.int .i64 4)]
    (fun g5 => [(2, .slice A bs.length cap), (4, pt (g1.γ 0)), (6, pt (g1.γ 1)), (7, .int .i64 4), (8, .pointer none)]) (fun _ => [((g1.γ 0), (elC x0 ++ (elC y0 ++ [Value.bool i0])), 26), ((g1.γ 1), (Z6 ++ (Z6 ++ [Value.bool false])), 26)]) (fun _ => [])
    hF hI trivial (fun g => ⟨pv, trivial⟩) ?_
  intro g5 a5 w5 hF hI
  refine wp_ret ?_
  show bodyPost Tryz.prog Tryz.f27 (Ret w (.tuple #[.agg ((Z6 ++ (Z6 ++ [Value.bool false]))).toArray, .int .i64 4])) .ret _ _
  exact sym_ret2 rfl hF.df (rv_cell 1 hF rfl hI rfl Tryz.underlying26 rfl (by kernel_rfl)) (rv_tmp hF rfl) ⟨rfl, hI.below⟩

set_option maxRecDepth 100000 in
set_option maxHeartbeats 2000000 in
theorem mul1_t {c : Nat} (h1 : 1 ≤ c) (h3 : c ≤ 3) [Pr (cp c)] {x0 y0 : Nat} {i0 : Bool} (hx0 : x0 < B64 ^ 6) (hy0 : y0 < B64 ^ 6) (e0 : onc c x0 y0 i0 = true) {A : Option Addr} {cap : Nat} {bs : List Nat} (hbc : bs.length ≤ cap) (hbd : Digs 256 bs) {w : World} (hbr : Rd w .u8 A bs) : Calls Tryz.prog 27 #[.int .i64 (c : Nat), .agg ((elC x0 ++ (elC y0 ++ [Value.bool i0]))).toArray, .slice A bs.length cap] w (Ret w (.tuple #[.agg ((elC ((gox (gmul Fd.finv (gI c x0 y0 i0) (ofBE bs)))) ++ (elC ((goy (gmul Fd.finv (gI c x0 y0 i0) (ofBE bs)))) ++ [Value.bool (gmul Fd.finv (gI c x0 y0 i0) (ofBE bs)).inf]))).toArray, .int .i64 0])) := by
  refine calls_of_wp Tryz.func27 (by rfl : Tryz.f27.body = some _) ?_
  have hF : Fr [(0, .int .i64 (c : Nat)), (1, .agg ((elC x0 ++ (elC y0 ++ [Value.bool i0]))).toArray), (2, .slice A bs.length cap)] 33 _ := Fr.start (args := #[.int .i64 (c : Nat), .agg ((elC x0 ++ (elC y0 ++ [Value.bool i0]))).toArray, .slice A bs.length cap]) (m := 33) (by simp)
  have hI := Inv.start0 w
  refine wp_seq ?_
  refine sy [] #[.new [] (fun _ => ((elC x0 ++ (elC y0 ++ [Value.bool i0]))).toArray) 26,
      .new [] (fun _ => ((Z6 ++ (Z6 ++ [Value.bool false]))).toArray) 26,
      va (.int .i64 0)]
    (fun g1 => [(0, .int .i64 (c : Nat)), (2, .slice A bs.length cap), (4, pt (g1.γ 0)), (6, pt (g1.γ 1)), (7, .int .i64 0)]) (fun g1 => [((g1.γ 0), (elC x0 ++ (elC y0 ++ [Value.bool i0])), 26), ((g1.γ 1), (Z6 ++ (Z6 ++ [Value.bool false])), 26)]) (fun _ => [])
    hF hI trivial (fun g => ⟨nw,
      nw,
      pv, trivial⟩) ?_
  intro g1 a1 w1 hF hI
  refine wp_seq ?_
  refine sy [] #[va (.int .i64 (c : Nat)),
      va (.agg ((elC x0 ++ (elC y0 ++ [Value.bool i0]))).toArray),
      .ex [] (fun d => .slice (some ⟨d.n 0, 0, none⟩) 1 1) (fun _ d => fun w => w.heap[d.n 0]? = some (.cells ((elC x0 ++ (elC y0 ++ [Value.bool i0]))).toArray 26 (0, 0))),
      .ex [] (fun d => .tuple #[.pointer (some ⟨d.n 0, 0, none⟩), .int .i64 0]) (fun _ d => fun w => FirstB w (d.n 0) (d.n 1) (d.n 2) (d.n 3) (d.n 4) (d.n 5) c),
      .val [3] (fun l => .tuple #[pt ((l.getD 0 dat0).n 0), .int .i64 0]),
      .val [3] (fun l => pt ((l.getD 0 dat0).n 0)),
      va (.int .i64 0),
      .val [3] (fun l => pt ((l.getD 0 dat0).n 0)),
      va (.int .i64 0)]
    (fun g2 => [(2, .slice A bs.length cap), (4, pt (g1.γ 0)), (6, pt (g1.γ 1)), (7, .int .i64 0), (8, pt ((g2.δ 3).n 0)), (9, .int .i64 0)]) (fun _ => [((g1.γ 0), (elC x0 ++ (elC y0 ++ [Value.bool i0])), 26), ((g1.γ 1), (Z6 ++ (Z6 ++ [Value.bool false])), 26)]) (fun g2 => [fun w => w.heap[(g2.δ 2).n 0]? = some (.cells ((elC x0 ++ (elC y0 ++ [Value.bool i0]))).toArray 26 (0, 0)), fun w => FirstB w ((g2.δ 3).n 0) ((g2.δ 3).n 1) ((g2.δ 3).n 2) ((g2.δ 3).n 3) ((g2.δ 3).n 4) ((g2.δ 3).n 5) c])
    hF hI trivial (fun g => ⟨pv,
      lk 0 0 rfl rfl,
      ⟨fun l d w w1 hg h => hg.block _ _ h fun C t fr e => by cases e; rfl, by kernel_rfl, fun w hI hfa => exU_slice (by kernel_rfl)⟩,
      cx (fun l d w w1 hg h => FirstB.grow hg rfl rfl rfl rfl rfl h) fun w hI hfa => w1t h1 h3 hx0 hy0 e0 (hfa 2 _ _ _ (by kernel_rfl) rfl),
      pv,
      pv,
      pv,
      pv,
      pv, trivial⟩) ?_
  intro g2 a2 w2 hF hI
  refine wp_seq ?_
  refine wp_seq ?_
  have hI := hI.phi [fun w => FirstB w ((g2.δ 3).n 0) ((g2.δ 3).n 1) ((g2.δ 3).n 2) ((g2.δ 3).n 3) ((g2.δ 3).n 4) ((g2.δ 3).n 5) c] ⟨hI.fact 1 rfl, trivial⟩
  refine sy [] #[va (.int .i64 0),
      va (.bool false)]
    (fun g3 => [(2, .slice A bs.length cap), (4, pt (g1.γ 0)), (6, pt (g1.γ 1)), (7, .int .i64 0), (8, pt ((g2.δ 3).n 0)), (9, .int .i64 0), (18, .bool false)]) (fun _ => [((g1.γ 0), (elC x0 ++ (elC y0 ++ [Value.bool i0])), 26), ((g1.γ 1), (Z6 ++ (Z6 ++ [Value.bool false])), 26)]) (fun _ => [fun w => FirstB w ((g2.δ 3).n 0) ((g2.δ 3).n 1) ((g2.δ 3).n 2) ((g2.δ 3).n 3) ((g2.δ 3).n 4) ((g2.δ 3).n 5) c])
    hF hI ⟨(fun w w1 hg h => FirstB.grow hg rfl rfl rfl rfl rfl h), trivial⟩ (fun g => ⟨pv,
      pv, trivial⟩) ?_
  intro g3 a3 w3 hF hI
  refine wp_cond_false (hF.eval rfl) ?_
  refine wp_skip ?_
  refine wp_seq ?_
  refine ss3 [] #[va (pt ((g2.δ 3).n 0)),
      va (pt ((g2.δ 3).n 0)),
      va (pt ((g2.δ 3).n 0)),
      va (.pointer (some ⟨((g2.δ 3).n 0), 1, none⟩)),
      va (pt (((g2.δ 3).n 2))),
      va (pt ((g2.δ 3).n 0)),
      va (.agg ((elC x0 ++ (elC y0 ++ [Value.bool i0]))).toArray),
      va (.agg ((feC (cp c) (cn c) ((gI c x0 y0 i0).x) ++ (feC (cp c) (cn c) ((gI c x0 y0 i0).y) ++ [Value.bool (gI c x0 y0 i0).inf]))).toArray),
      va (.slice A bs.length cap),
      .ex [] (fun d => .slice (d.o 0) (lm (ofBE bs)).length (d.n 0)) (fun _ d => SlR .u64 (lm (ofBE bs)) (d)),
      va (.agg ((feC (cp c) (cn c) ((gmul Fd.finv (gI c x0 y0 i0) (ofBE bs)).x) ++ (feC (cp c) (cn c) ((gmul Fd.finv (gI c x0 y0 i0) (ofBE bs)).y) ++ [Value.bool (gmul Fd.finv (gI c x0 y0 i0) (ofBE bs)).inf]))).toArray),
      va (.agg ((elC ((gox (gmul Fd.finv (gI c x0 y0 i0) (ofBE bs)))) ++ (elC ((goy (gmul Fd.finv (gI c x0 y0 i0) (ofBE bs)))) ++ [Value.bool (gmul Fd.finv (gI c x0 y0 i0) (ofBE bs)).inf]))).toArray)]
    (fun g4 => [(6, pt (g1.γ 1))]) (fun _ => [((g1.γ 0), (elC x0 ++ (elC y0 ++ [Value.bool i0])), 26), ((g1.γ 1), (elC ((gox (gmul Fd.finv (gI c x0 y0 i0) (ofBE bs)))) ++ (elC ((goy (gmul Fd.finv (gI c x0 y0 i0) (ofBE bs)))) ++ [Value.bool (gmul Fd.finv (gI c x0 y0 i0) (ofBE bs)).inf])), 26)]) (fun g4 => [fun w => FirstB w ((g2.δ 3).n 0) ((g2.δ 3).n 1) ((g2.δ 3).n 2) ((g2.δ 3).n 3) ((g2.δ 3).n 4) ((g2.δ 3).n 5) c, SlR .u64 (lm (ofBE bs)) ((g4.δ 9))]) 1 0
    hF hI ⟨(fun w w1 hg h => FirstB.grow hg rfl rfl rfl rfl rfl h), trivial⟩ (fun g => ⟨pv,
      pv,
      pv,
      pv,
      lR1 (fun w hI hfa => ((hI.fact 0 rfl).toC).c1) rfl,
      pv,
      lk 0 0 rfl rfl,
      cv fun w hI hfa => cin_any hx0 hy0 ((hI.fact 0 rfl).toC),
      pv,
      cx (fun l d w w1 hg h => SlR.grow0 hg h) fun w hI hfa => from_r hbc (hbr.below hI.below) hbd,
      cv fun w hI hfa => mul_r ((hI.fact 0 rfl).toC).grp (hfa 9 _ _ _ (by kernel_rfl) rfl),
      cv fun w hI hfa => cout_p1 ((hI.fact 0 rfl).toC), trivial⟩) rfl rfl rfl rfl rfl rfl ?_
  intro g4 a4 w4 hF hI
  refine wp_ret ?_
  show bodyPost Tryz.prog Tryz.f27 (Ret w (.tuple #[.agg ((elC ((gox (gmul Fd.finv (gI c x0 y0 i0) (ofBE bs)))) ++ (elC ((goy (gmul Fd.finv (gI c x0 y0 i0) (ofBE bs)))) ++ [Value.bool (gmul Fd.finv (gI c x0 y0 i0) (ofBE bs)).inf]))).toArray, .int .i64 0])) .ret _ _
  exact sym_ret2 rfl hF.df (rv_cell 1 hF rfl hI rfl Tryz.underlying26 rfl (by kernel_rfl)) (rv_tmp hF rfl) ⟨rfl, hI.below⟩

end Go.Proofs.YtjokcbjahidckaaGreat
/-! The group law of y^2 = x^3 + b over any field where 2, 3 and b are not 0: closed, commutative, associative. -/
namespace Go.Proofs.YtjokcbjahidckaaGreat
open Rg
open Go.Proofs.YtjokcbjahidckaaGreat.Fd

inductive Pt (F : Type) where
  | inf
  | aff (x y : F)

namespace Pt
variable {F : Type} [Fd F]

def On (b : F) : Pt F → Prop
  | .inf => True
  | .aff x y => y * y = x * x * x + b

def neg : Pt F → Pt F
  | .inf => .inf
  | .aff x y => .aff x (-y)

def third (s x1 y1 x2 : F) : Pt F := .aff (s * s - x1 - x2) (s * (x1 - (s * s - x1 - x2)) - y1)

/-- s is the slope of the line through both (the tangent's, where they are one). -/
def Sl (x1 y1 x2 y2 s : F) : Prop := y1 - y2 = s * (x1 - x2) ∧ s * (y1 + y2) = x1 * x1 + x1 * x2 + x2 * x2

theorem Sl.symm {x1 y1 x2 y2 s : F} (h : Sl x1 y1 x2 y2 s) : Sl x2 y2 x1 y1 s :=
  ⟨lc1 [x1, y1, x2, y2, s] (-1) h.1 (by decide), lc1 [x1, y1, x2, y2, s] 1 h.2 (by decide)⟩

variable [DecidableEq F]
def slope (x1 y1 x2 y2 : F) : F := if x1 = x2 then (x1 * x1 + x1 * x1 + x1 * x1) * finv (y1 + y1) else (y2 - y1) * finv (x2 - x1)

def add : Pt F → Pt F → Pt F
  | .inf, q => q
  | .aff x y, .inf => .aff x y
  | .aff x1 y1, .aff x2 y2 => if x1 = x2 ∧ y1 = -y2 then .inf else third (slope x1 y1 x2 y2) x1 y1 x2

theorem sub_ne {F : Type} [Fd F] {a b : F} (h : a ≠ b) : a - b ≠ 0 := fun e => h (sub_eq_zero.1 e)

theorem Sl.uniq {x1 y1 x2 y2 s t : F} (h : Sl x1 y1 x2 y2 s) (k : Sl x1 y1 x2 y2 t) (n : ¬ (x1 = x2 ∧ y1 = -y2)) : s = t := by
  by_cases hx : x1 = x2
  · have hy : y1 + y2 ≠ 0 := fun e => n ⟨hx, neg_uniq e⟩
    refine Fd.cancel hy ?_
    rw [rmul_comm _ s, rmul_comm _ t, h.2, k.2]
  · refine Fd.cancel (sub_ne hx) ?_
    rw [rmul_comm _ s, rmul_comm _ t, ← h.1, ← k.1]

theorem Sl.slope {b x1 y1 x2 y2 : F} (h1 : y1 * y1 = x1 * x1 * x1 + b) (h3 : y2 * y2 = x2 * x2 * x2 + b) (n : ¬ (x1 = x2 ∧ y1 = -y2)) : Sl x1 y1 x2 y2 (slope x1 y1 x2 y2) := by
  unfold Sl Pt.slope
  by_cases hx : x1 = x2
  · subst hx
    have e : y1 = y2 := by
      have : (y1 + y2) * (y1 - y2) = 0 := lc2 [x1, y1, y2, b] 1 (-1) h1 h3 (by decide)
      rcases Fd.mul_eq_zero this with h | h
      · exact absurd ⟨rfl, neg_uniq h⟩ n
      · exact sub_eq_zero.1 h
    subst e
    have hy : y1 ≠ 0 := by
      rintro rfl
      exact n ⟨rfl, ring [] (by decide)⟩
    have hi := fmul_inv _ (dbl_ne hy)
    rw [if_pos rfl]
    generalize finv (y1 + y1) = i at *
    exact ⟨ring [x1, y1, i] (by decide), lc1 [x1, y1, i] (x1 * x1 + x1 * x1 + x1 * x1) hi (by decide)⟩
  · rw [if_neg hx]
    have hi := fmul_inv _ (sub_ne (fun e : x2 = x1 => hx e.symm))
    generalize finv (x2 - x1) = i at *
    exact ⟨lc1 [x1, y1, x2, y2, i] (-(y1 - y2)) hi (by decide), lc3 [x1, y1, x2, y2, i, b] i (-i) (x1 * x1 + x1 * x2 + x2 * x2) h3 h1 hi (by decide)⟩

theorem add_aff {x1 y1 x2 y2 s : F} {b : F} (h1 : y1 * y1 = x1 * x1 * x1 + b) (h3 : y2 * y2 = x2 * x2 * x2 + b) (n : ¬ (x1 = x2 ∧ y1 = -y2)) (h : Sl x1 y1 x2 y2 s) : add (.aff x1 y1) (.aff x2 y2) = third s x1 y1 x2 := by
  have e : slope x1 y1 x2 y2 = s := (Sl.slope h1 h3 n).uniq h n
  show (if _ then _ else _) = _
  rw [if_neg n, e]

theorem third_on {F : Type} [Fd F] {b x1 y1 x2 y2 s : F} (h1 : y1 * y1 = x1 * x1 * x1 + b) (h : Sl x1 y1 x2 y2 s) : On b (third s x1 y1 x2) := by
  have e : s * y1 + s * y1 = x1 * x1 + x1 * x2 + x2 * x2 + s * s * (x1 - x2) := lc2 [x1, y1, x2, y2, s] s 1 h.1 h.2 (by decide)
  show (s * (x1 - (s * s - x1 - x2)) - y1) * (s * (x1 - (s * s - x1 - x2)) - y1) = (s * s - x1 - x2) * (s * s - x1 - x2) * (s * s - x1 - x2) + b
  exact lc2 [x1, y1, x2, s, b] 1 (-(x1 + x1 + x2 - s * s)) h1 e (by decide)

theorem add_on {b : F} {p q : Pt F} (hp : On b p) (hq : On b q) : On b (add p q) := by
  match p, q with
  | .inf, q => exact hq
  | .aff _ _, .inf => exact hp
  | .aff x1 y1, .aff x2 y2 =>
    by_cases n : x1 = x2 ∧ y1 = -y2
    · show On b (if _ then _ else _)
      rw [if_pos n]; trivial
    · have hs := Sl.slope hp hq n
      rw [add_aff hp hq n hs]
      exact third_on hp hs

theorem neg_on {F : Type} [Fd F] {b : F} {p : Pt F} (hp : On b p) : On b (neg p) := by
  match p with
  | .inf => exact hp
  | .aff x y =>
    show -y * -y = x * x * x + b
    have : y * y = x * x * x + b := hp
    exact lc1 [x, y, b] 1 this (by decide)

theorem neg_neg {F : Type} [Fd F] (p : Pt F) : neg (neg p) = p := by
  match p with
  | .inf => rfl
  | .aff x y => show aff x (- -y) = _; rw [Rg.neg_neg]

theorem add_neg (p : Pt F) : add p (neg p) = .inf := by
  match p with
  | .inf => rfl
  | .aff x y =>
    show (if _ then _ else _) = _
    rw [if_pos ⟨rfl, (Rg.neg_neg y).symm⟩]

theorem add_inf (p : Pt F) : add p .inf = p := by cases p <;> rfl

theorem third_symm {F : Type} [Fd F] {x1 y1 x2 y2 s : F} (h : Sl x1 y1 x2 y2 s) : third s x1 y1 x2 = third s x2 y2 x1 := by
  unfold third
  have e : s * s - x1 - x2 = s * s - x2 - x1 := ring [s, x1, x2] (by decide)
  rw [← e]
  generalize s * s - x1 - x2 = x3
  congr 1
  exact lc1 [x1, y1, x2, y2, s, x3] (-1) h.1 (by decide)

theorem opp_symm {F : Type} [Fd F] {x1 y1 x2 y2 : F} (n : x1 = x2 ∧ y1 = -y2) : x2 = x1 ∧ y2 = -y1 := ⟨n.1.symm, by rw [n.2, Rg.neg_neg]⟩

theorem add_comm {b : F} {p q : Pt F} (hp : On b p) (hq : On b q) : add p q = add q p := by
  match p, q with
  | .inf, q => rw [add_inf]; rfl
  | .aff _ _, .inf => rfl
  | .aff x1 y1, .aff x2 y2 =>
    by_cases n : x1 = x2 ∧ y1 = -y2
    · show (if _ then _ else _) = (if _ then _ else _)
      rw [if_pos n, if_pos (opp_symm n)]
    · have n' : ¬ (x2 = x1 ∧ y2 = -y1) := fun k => n (opp_symm k)
      have hs := Sl.slope hp hq n
      rw [add_aff hp hq n hs, add_aff hq hp n' hs.symm]
      exact third_symm hs

theorem neg_add {b : F} {p q : Pt F} (hp : On b p) (hq : On b q) : neg (add p q) = add (neg p) (neg q) := by
  match p, q with
  | .inf, q => rfl
  | .aff _ _, .inf => rfl
  | .aff x1 y1, .aff x2 y2 =>
    by_cases n : x1 = x2 ∧ y1 = -y2
    · have n' : x1 = x2 ∧ -y1 = - -y2 := ⟨n.1, by rw [n.2]⟩
      show neg (if _ then _ else _) = (if _ then _ else _)
      rw [if_pos n, if_pos n']; rfl
    · have n' : ¬ (x1 = x2 ∧ -y1 = - -y2) := fun k => n ⟨k.1, by rw [← Rg.neg_neg y1, k.2, Rg.neg_neg]⟩
      have hs := Sl.slope hp hq n
      have hs' : Sl x1 (-y1) x2 (-y2) (-(slope x1 y1 x2 y2)) := by
        generalize slope x1 y1 x2 y2 = s at *
        exact ⟨lc1 [x1, y1, x2, y2, s] (-1) hs.1 (by decide), lc1 [x1, y1, x2, y2, s] 1 hs.2 (by decide)⟩
      rw [add_aff hp hq n hs]
      show _ = add (.aff x1 (-y1)) (.aff x2 (-y2))
      rw [add_aff (neg_on hp) (neg_on hq) n' hs']
      generalize slope x1 y1 x2 y2 = s
      unfold third neg
      have e : -s * -s - x1 - x2 = s * s - x1 - x2 := ring [s, x1, x2] (by decide)
      rw [e]
      generalize s * s - x1 - x2 = x3
      dsimp only
      congr 1
      exact ring [s, x1, y1, x3] (by decide)

/-- The line through the first and the third point, mirrored. -/
theorem Sl.next {F : Type} [Fd F] {x2 y2 x3 y3 t : F} (h : Sl x2 y2 x3 y3 t) : Sl x2 (-y2) (t * t - x2 - x3) (t * (x2 - (t * t - x2 - x3)) - y2) (-t) :=
  ⟨ring [x2, y2, x3, t] (by decide), lc2 [x2, y2, x3, y3, t] t 1 h.1 h.2 (by decide)⟩

theorem add_cancel {b : F} (h3 : (1 : F) + 1 + 1 ≠ 0) (hb : b ≠ 0) {p q : Pt F} (hp : On b p) (hq : On b q) : add (neg p) (add p q) = q := by
  match p, q with
  | .inf, q => rfl
  | .aff x y, .inf => rw [add_inf, add_comm (neg_on hp) hp, add_neg]
  | .aff x2 y2, .aff x3 y3 =>
    by_cases n : x2 = x3 ∧ y2 = -y3
    · have e : neg (Pt.aff x2 y2) = Pt.aff x3 y3 := by
        obtain ⟨rfl, rfl⟩ := n
        exact neg_neg (.aff x2 y3)
      rw [e]
      show add _ (if _ then _ else _) = _
      rw [if_pos n, add_inf]
    · have hr := add_on hp hq
      have hs := Sl.slope hp hq n
      rw [add_aff hp hq n hs] at hr ⊢
      generalize slope x2 y2 x3 y3 = t at *
      have hn := hs.next
      have hr' : (t * (x2 - (t * t - x2 - x3)) - y2) * (t * (x2 - (t * t - x2 - x3)) - y2) = (t * t - x2 - x3) * (t * t - x2 - x3) * (t * t - x2 - x3) + b := hr
      have hp' : y2 * y2 = x2 * x2 * x2 + b := hp
      have n' : ¬ (x2 = t * t - x2 - x3 ∧ -y2 = -(t * (x2 - (t * t - x2 - x3)) - y2)) := by
        rintro ⟨e1, e2⟩
        have hn1 := hn.2
        rw [← e1] at e2 hn1
        have hy0 : y2 = 0 := by
          have e3 : y2 + y2 = 0 := lc1 [x2, y2, t] (-1) e2 (by decide)
          by_cases hy : y2 = 0
          · exact hy
          · exact absurd e3 (dbl_ne hy)
        subst hy0
        have e4 : (1 + 1 + 1) * (x2 * x2) = 0 := lc1 [x2, t] (-1) hn1 (by decide)
        rcases Fd.mul_eq_zero e4 with h | h
        · exact h3 h
        · have hx0 : x2 = 0 := by rcases Fd.mul_eq_zero h with h | h <;> exact h
          subst hx0
          exact hb (lc1 [b] (-1) hp' (by decide))
      show add (.aff x2 (-y2)) (.aff _ _) = _
      rw [add_aff (neg_on hp) hr' n' hn]
      unfold third
      have e : -t * -t - x2 - (t * t - x2 - x3) = x3 := ring [x2, x3, t] (by decide)
      rw [e]
      congr 1
      exact lc1 [x2, x3, y2, y3, t] 1 hs.1 (by decide)

theorem key {x1 x2 x3 y1 y2 y3 s t u : F} (hs : Sl x1 y1 x2 y2 s) (ht : Sl x2 y2 x3 y3 t)
    (hu : Sl (s * s - x1 - x2) (s * (x1 - (s * s - x1 - x2)) - y1) x3 y3 u) (n : ¬ (s * s - x1 - x2 = x3 ∧ s * (x1 - (s * s - x1 - x2)) - y1 = -y3)) : (s - t) * (s + u) = x1 - x3 := by
  obtain ⟨a1, a2⟩ := hs
  obtain ⟨b1, b2⟩ := ht
  obtain ⟨c1, c2⟩ := hu
  by_cases hx : s * s - x1 - x2 = x3
  · rw [hx] at c1 c2 n
    have g1 : s * (x1 - x3) - y1 = y3 := by
      refine sub_eq_zero.1 ?_
      rw [c1, sub_self, Rg.mul_zero]
    rw [g1] at c2 n
    have hne : y3 + y3 ≠ 0 := fun e => n ⟨rfl, neg_uniq e⟩
    have g2 : y2 + y3 = s * (x2 - x3) := lc2 [x1, x2, x3, y1, y2, y3, s] (-1) (-1) g1 a1 (by decide)
    have g3 : y3 + y3 = (s - t) * (x2 - x3) := lc2 [x2, x3, y2, y3, s, t] 1 (-1) g2 b1 (by decide)
    have g4 : t * (y2 + y3) = s * (y2 - y3) := lc2 [x2, x3, y2, y3, s, t] t (-s) g2 b1 (by decide)
    have g5 : s * s = x1 + x2 + x3 := lc1 [x1, x2, x3, s] 1 hx (by decide)
    have g6 : s * (s - t) * (x2 - x3) + (x3 * x3 + x3 * x3 + x3 * x3) - (x1 - x3) * (x2 - x3) = 0 :=
      lc4 [x1, x2, x3, y2, y3, s, t] (x2 - x3) s (-1) 1 g5 b1 b2 g4 (by decide)
    have g7 : (y3 + y3) * ((s - t) * (s + u)) = (y3 + y3) * (x1 - x3) :=
      lc3 [x1, x2, x3, y3, s, t, u] (s - t) (s * (s - t) - (x1 - x3)) (s - t) c2 g3 g6 (by decide)
    exact Fd.cancel hne g7
  · have g : (s * s - x1 - x2 - x3) * ((s - t) * (s + u)) = (s * s - x1 - x2 - x3) * (x1 - x3) :=
      lc5 [x1, x2, x3, y1, y2, y3, s, t, u] (-(s - t)) (-1) s t 1 c1 a2 b1 a1 b2 (by decide)
    exact Fd.cancel (sub_ne hx) g

theorem add_assoc {b : F} (h3 : (1 : F) + 1 + 1 ≠ 0) (hb : b ≠ 0) {p q r : Pt F} (hp : On b p) (hq : On b q) (hr : On b r) : add (add p q) r = add p (add q r) := by
  match p, q, r with
  | .inf, q, r => rfl
  | p, .inf, r => rw [add_inf]; rfl
  | p, q, .inf => rw [add_inf, add_inf]
  | .aff x1 y1, .aff x2 y2, .aff x3 y3 =>
    by_cases n : x1 = x2 ∧ y1 = -y2
    · have e : Pt.aff x1 y1 = neg (.aff x2 y2) := by rw [n.1, n.2]; rfl
      rw [e, add_cancel h3 hb hq hr, add_comm (neg_on hq) hq, add_neg]; rfl
    by_cases m : x2 = x3 ∧ y2 = -y3
    · have e : Pt.aff x3 y3 = neg (.aff x2 y2) := by
        obtain ⟨rfl, rfl⟩ := m
        exact (neg_neg (.aff x2 y3)).symm
      rw [e, add_neg, add_inf, add_comm (add_on hp hq) (neg_on hq), add_comm hp hq, add_cancel h3 hb hq hp]
    have hpq := add_on hp hq
    have hqr := add_on hq hr
    by_cases o1 : add (.aff x1 y1) (.aff x2 y2) = neg (.aff x3 y3)
    · have e : add (.aff x2 y2) (.aff x3 y3) = neg (.aff x1 y1) := by
        rw [← neg_neg (Pt.aff x3 y3), ← o1, neg_add hp hq, add_comm (neg_on hp) (neg_on hq)]
        have := add_cancel h3 hb (neg_on hq) (neg_on hp)
        rwa [neg_neg] at this
      rw [o1, e, add_neg, add_comm (neg_on hr) hr, add_neg]
    by_cases o2 : add (.aff x2 y2) (.aff x3 y3) = neg (.aff x1 y1)
    · exfalso; apply o1
      rw [← neg_neg (Pt.aff x1 y1), ← o2, neg_add hq hr, add_comm (add_on (neg_on hq) (neg_on hr)) hq]
      have := add_cancel h3 hb (neg_on hq) (neg_on hr)
      rwa [neg_neg] at this
    have hs := Sl.slope hp hq n
    have ht := Sl.slope hq hr m
    rw [add_aff hp hq n hs] at o1 hpq ⊢
    rw [add_aff hq hr m ht] at o2 hqr ⊢
    generalize slope x1 y1 x2 y2 = s at *
    generalize slope x2 y2 x3 y3 = t at *
    have n1 : ¬ (s * s - x1 - x2 = x3 ∧ s * (x1 - (s * s - x1 - x2)) - y1 = -y3) := fun k => o1 (by
      show Pt.aff _ _ = Pt.aff _ _
      rw [k.2, k.1])
    have n2 : ¬ (x1 = t * t - x2 - x3 ∧ y1 = -(t * (x2 - (t * t - x2 - x3)) - y2)) := fun k => o2 (by
      show Pt.aff _ _ = Pt.aff _ _
      have k2 := k.2
      rw [← k.1] at k2 ⊢
      rw [k2, Rg.neg_neg])
    have hu := Sl.slope hpq hr n1
    have hv := Sl.slope hp hqr n2
    show add (.aff _ _) _ = add _ (.aff _ _)
    rw [add_aff hpq hr n1 hu, add_aff hp hqr n2 hv]
    generalize slope (s * s - x1 - x2) (s * (x1 - (s * s - x1 - x2)) - y1) x3 y3 = u at *
    generalize slope x1 y1 (t * t - x2 - x3) (t * (x2 - (t * t - x2 - x3)) - y2) = v at *
    have k1 := key hs ht hu n1
    have e2x : t * t - x3 - x2 = t * t - x2 - x3 := ring [x2, x3, t] (by decide)
    have e2y : t * (x3 - (t * t - x2 - x3)) - y3 = t * (x2 - (t * t - x2 - x3)) - y2 := by
      generalize t * t - x2 - x3 = xq
      exact lc1 [x2, x3, y2, y3, t, xq] 1 ht.1 (by decide)
    have k2 := key (s := t) (t := s) (x1 := x3) (y1 := y3) (u := v) ht.symm hs.symm (by rw [e2x, e2y]; exact hv.symm) (by
      rw [e2x, e2y]
      exact fun k => n2 (opp_symm k))
    by_cases hst : s = t
    · subst hst
      have e1 : x1 = x3 := by
        rw [sub_self, Rg.zero_mul] at k1
        exact (sub_eq_zero.1 k1.symm)
      subst e1
      have e2 : y1 = y3 := lc2 [x1, x2, y1, y2, y3, s] 1 1 hs.1 ht.1 (by decide)
      subst e2
      have e3 : s * s - x2 - x1 = s * s - x1 - x2 := ring [x1, x2, s] (by decide)
      rw [e3] at e2y hv ⊢
      rw [← e2y] at hv
      have huv : u = v := hu.uniq hv.symm n1
      subst huv
      exact third_symm hu
    · have hd := sub_ne hst
      have e : s + u = t + v := by
        refine Fd.cancel hd ?_
        exact lc2 [s, t, u, v, x1, x3] 1 1 k1 k2 (by decide)
      have ev : v = s + u - t := lc1 [s, t, u, v] (-1) e (by decide)
      subst ev
      unfold third
      have ex : u * u - (s * s - x1 - x2) - x3 = (s + u - t) * (s + u - t) - x1 - (t * t - x2 - x3) :=
        lc1 [s, t, u, x1, x2, x3] (-(1 + 1)) k1 (by decide)
      rw [← ex]
      congr 1
      refine Fd.cancel hd ?_
      have f1 : (s - t) * (u * (s * s - x1 - x2 - (u * u - (s * s - x1 - x2) - x3)) - (s * (x1 - (s * s - x1 - x2)) - y1)) = (s - t) * ((s + u - t) * (x1 - (u * u - (s * s - x1 - x2) - x3)) - y1) :=
        lc5 [s, t, u, x1, x2, x3, y1, y2, y3] (s - (t + t)) 1 (-t) (-1) (s * t + s * u - t * u - x1 - x2 - x3) hs.1 hs.2 ht.1 ht.2 k1 (by decide)
      exact f1
end Pt
end Go.Proofs.YtjokcbjahidckaaGreat
/-! Multiples in Jacobi's coordinates are multiples in the group. Conditions: the points lie on the curve. -/
namespace Go.Proofs.YtjokcbjahidckaaGreat
open Rg
open Go.Proofs.YtjokcbjahidckaaGreat.Fd

section
variable {T : Type} [Fd T] [DecidableEq T]

/-- w stretched by c. -/
def GW.str (c : T) (w : GW T) : GW T := ⟨c * c * w.x, c * c * c * w.y, c * w.z⟩

theorem cube_ne {T : Type} [Fd T] {c : T} (h : c ≠ 0) : c * c * c ≠ 0 := by
  intro e
  rcases Fd.mul_eq_zero e with e | e
  · rcases Fd.mul_eq_zero e with e | e <;> exact h e
  · exact h e
theorem sq_ne {T : Type} [Fd T] {c : T} (h : c ≠ 0) : c * c ≠ 0 := by
  intro e
  rcases Fd.mul_eq_zero e with e | e <;> exact h e
theorem mul0_iff {T : Type} [Fd T] {c x : T} (h : c ≠ 0) : c * x = 0 ↔ x = 0 :=
  ⟨fun e => (Fd.mul_eq_zero e).resolve_left h, fun e => by rw [e, Rg.mul_zero]⟩

theorem gnarrow_str {c : T} (h : c ≠ 0) (w : GW T) : gnarrow finv (w.str c) = gnarrow finv w := by
  unfold gnarrow
  by_cases hz : w.z = 0
  · rw [if_pos hz, if_pos (show (w.str c).z = 0 from (mul0_iff h).2 hz)]
  · have hcz : (w.str c).z ≠ 0 := fun e => hz ((mul0_iff h).1 e)
    rw [if_neg hz, if_neg hcz]
    have h1 := fmul_inv c h
    have h2 := fmul_inv w.z hz
    have e : finv (w.str c).z = finv c * finv w.z := Fd.inv_uniq (show c * w.z * (finv c * finv w.z) = 1 by
      generalize finv c = d at *
      generalize finv w.z = i at *
      generalize w.z = z at *
      exact lc2 [c, d, z, i] (z * i) 1 h1 h2 (by decide))
    rw [e]
    unfold GW.str
    generalize finv c = d at *
    generalize finv w.z = i at *
    generalize w.x = x at *
    generalize w.y = y at *
    dsimp only
    congr 1
    · exact lc1 [c, d, i, x] (x * i * i * (c * d + 1)) h1 (by decide)
    · exact lc1 [c, d, i, y] (y * i * i * i * (c * c * (d * d) + c * d + 1)) h1 (by decide)

theorem rdbl_str {T : Type} [Fd T] (c : T) (w : GW T) : rdbl (w.str c) = (rdbl w).str (c * c * c * c) := by
  obtain ⟨x, y, z⟩ := w
  have e1 : rdblD ((⟨x, y, z⟩ : GW T).str c) = c * c * c * c * (c * c * c * c) * rdblD ⟨x, y, z⟩ := by
    unfold rdblD GW.str
    dsimp only
    rw [show c * c * x * (c * c * c * y * (c * c * c * y)) = c * c * c * c * (c * c * c * c) * (x * (y * y)) from ring [c, x, y] (by decide)]
    generalize x * (y * y) = m
    generalize c * c * c * c * (c * c * c * c) = k
    exact ring [k, m] (by decide)
  have e2 : rdblE ((⟨x, y, z⟩ : GW T).str c) = c * c * c * c * rdblE ⟨x, y, z⟩ := by
    unfold rdblE GW.str; dsimp only; exact ring [c, x] (by decide)
  have e3 : rdblQ ((⟨x, y, z⟩ : GW T).str c) = c * c * c * c * (c * c * c * c) * (c * c * c * c) * rdblQ ⟨x, y, z⟩ := by
    unfold rdblQ GW.str
    dsimp only
    rw [show c * c * c * y * (c * c * c * y) * (c * c * c * y * (c * c * c * y)) = c * c * c * c * (c * c * c * c) * (c * c * c * c) * (y * y * (y * y)) from ring [c, y] (by decide)]
    generalize y * y * (y * y) = m
    generalize c * c * c * c * (c * c * c * c) * (c * c * c * c) = k
    exact ring [k, m] (by decide)
  unfold rdbl rdblN
  rw [e1, e2, e3]
  generalize rdblD (⟨x, y, z⟩ : GW T) = D
  generalize rdblE (⟨x, y, z⟩ : GW T) = E
  generalize rdblQ (⟨x, y, z⟩ : GW T) = Q
  unfold GW.str
  dsimp only
  have e4 : c * c * c * y * (c * z) + c * c * c * y * (c * z) = c * c * c * c * (y * z + y * z) := ring [c, y, z] (by decide)
  rw [e4]
  generalize c * c * c * c = k
  congr 1
  · exact ring [k, D, E] (by decide)
  · exact ring [k, D, E, Q] (by decide)

theorem rjoin_str {c : T} (h : c ≠ 0) (w : GW T) (p : GP T) : ∃ k, k ≠ 0 ∧ rjoin (w.str c) p = (rjoin w p).str k := by
  obtain ⟨x, y, z⟩ := w
  obtain ⟨px, py, pi⟩ := p
  have e1 : jnH ((⟨x, y, z⟩ : GW T).str c) ⟨px, py, pi⟩ = c * c * jnH ⟨x, y, z⟩ ⟨px, py, pi⟩ := by
    unfold jnH GW.str; dsimp only; exact ring [c, x, z, px] (by decide)
  have e2 : jnR ((⟨x, y, z⟩ : GW T).str c) ⟨px, py, pi⟩ = c * c * c * jnR ⟨x, y, z⟩ ⟨px, py, pi⟩ := by
    unfold jnR GW.str; dsimp only; exact ring [c, y, z, py] (by decide)
  unfold rjoin jnN
  rw [e1, e2]
  generalize jnH (⟨x, y, z⟩ : GW T) ⟨px, py, pi⟩ = H
  generalize jnR (⟨x, y, z⟩ : GW T) ⟨px, py, pi⟩ = R
  by_cases hH : H = 0
  · rw [if_pos hH, if_pos ((mul0_iff (sq_ne h)).2 hH)]
    by_cases hR : R = 0
    · rw [if_pos hR, if_pos ((mul0_iff (cube_ne h)).2 hR), rdbl_str]
      refine ⟨c * c * c * c, ?_, rfl⟩
      intro e
      rcases Fd.mul_eq_zero e with e | e
      · exact cube_ne h e
      · exact h e
    · rw [if_neg hR, if_neg (fun e => hR ((mul0_iff (cube_ne h)).1 e))]
      refine ⟨1, fone, ?_⟩
      unfold GW.str
      rw [Rg.mul_zero, Rg.mul_zero, Rg.mul_zero]
  · rw [if_neg hH, if_neg (fun e => hH ((mul0_iff (sq_ne h)).1 e))]
    refine ⟨c * c * c, cube_ne h, ?_⟩
    unfold GW.str
    dsimp only
    have e5 : c * c * c * R * (c * c * c * R) - c * c * H * (c * c * H) * (c * c * H) - (c * c * x * (c * c * H * (c * c * H)) + c * c * x * (c * c * H * (c * c * H))) =
        c * c * c * (c * c * c) * (R * R - H * H * H - (x * (H * H) + x * (H * H))) := ring [c, x, H, R] (by decide)
    rw [e5]
    generalize R * R - H * H * H - (x * (H * H) + x * (H * H)) = N
    congr 1
    · exact ring [c, x, y, H, R, N] (by decide)
    · exact ring [c, z, H] (by decide)

theorem wide_str {w : GW T} (hz : w.z ≠ 0) : (gwide (gnarrow finv w)).str w.z = w := by
  have h := fmul_inv w.z hz
  unfold gnarrow
  rw [if_neg hz]
  unfold gwide GW.str
  rw [if_neg (by simp)]
  obtain ⟨x, y, z⟩ := w
  dsimp only at *
  generalize finv z = i at *
  congr 1
  · exact lc1 [x, z, i] (x * (z * i + 1)) h (by decide)
  · exact lc1 [y, z, i] (y * (z * z * (i * i) + z * i + 1)) h (by decide)
  · exact Rg.mul_one z

/-- A point in its one form. -/
def GP.nf (p : GP T) : Prop := p.inf = true → p = ⟨0, 0, true⟩
theorem gnarrow_nf (inv : T → T) (w : GW T) : (gnarrow inv w).nf := by
  unfold gnarrow
  split
  · intro _; rfl
  · intro h; cases h

theorem gadd_dbl (w : GW T) : gnarrow finv (gtwice w) = gadd finv (gnarrow finv w) (gnarrow finv w) := by
  by_cases hz : w.z = 0
  · have h1 := gtwice_z w hz
    have e1 : gnarrow finv w = ⟨0, 0, true⟩ := by unfold gnarrow; rw [if_pos hz]
    have e2 : gnarrow finv (gtwice w) = ⟨0, 0, true⟩ := by unfold gnarrow; rw [if_pos h1]
    rw [e1, e2]
    unfold gadd gwide gsum
    rw [if_pos rfl, if_pos rfl]
    unfold gnarrow
    rw [if_pos rfl]
  · have e := wide_str hz
    have hi : (gnarrow finv w).inf = false := by unfold gnarrow; rw [if_neg hz]
    have e2 : gsum (gwide (gnarrow finv w)) (gwide (gnarrow finv w)) = gtwice (gwide (gnarrow finv w)) := by
      generalize gnarrow finv w = p at *
      obtain ⟨x, y, i⟩ := p
      have hni : ¬ (⟨x, y, i⟩ : GP T).inf = true := by rw [hi]; decide
      unfold gwide
      rw [if_neg hni]
      rw [gsum_join ⟨x, y, 1⟩ ⟨x, y, i⟩ fone fone]
      unfold rjoin jnH jnR
      rw [if_pos (ring [x] (by decide)), if_pos (ring [y] (by decide)), gtwice_eq]
    unfold gadd
    rw [e2]
    conv => lhs; rw [← e]
    rw [gtwice_eq, rdbl_str, gtwice_eq]
    refine gnarrow_str ?_ _
    intro e
    rcases Fd.mul_eq_zero e with e | e
    · exact cube_ne hz e
    · exact hz e

theorem gadd_join (w : GW T) (p : GP T) (hp : p.inf = false) : gnarrow finv (gsum w (gwide p)) = gadd finv (gnarrow finv w) p := by
  by_cases hz : w.z = 0
  · have e1 : gnarrow finv w = ⟨0, 0, true⟩ := by unfold gnarrow; rw [if_pos hz]
    rw [e1]
    unfold gadd
    have e2 : gsum w (gwide p) = gwide p := by unfold gsum; rw [if_pos hz]
    have e3 : gsum (gwide (⟨0, 0, true⟩ : GP T)) (gwide p) = gwide p := by unfold gsum; rw [if_pos (by unfold gwide; rw [if_pos rfl])]
    rw [e2, e3]
  · have e := wide_str hz
    have hi : (gnarrow finv w).inf = false := by unfold gnarrow; rw [if_neg hz]
    unfold gadd
    generalize hP : gnarrow finv w = P at *
    have ep : gwide p = ⟨p.x, p.y, 1⟩ := by unfold gwide; rw [if_neg (by simp [hp])]
    have eP : gwide P = ⟨P.x, P.y, 1⟩ := by unfold gwide; rw [if_neg (by simp [hi])]
    rw [ep, gsum_join w p fone hz, gsum_join (gwide P) p fone (by rw [eP]; exact fone)]
    conv => lhs; rw [← e]
    obtain ⟨k, hk, ek⟩ := rjoin_str hz (gwide P) p
    rw [ek, gnarrow_str hk]

/-- A multiple by halves. -/
theorem gmul_step (p : GP T) (hp : p.nf) (k : Nat) (hk : k ≠ 0) : gmul finv p k =
    (let s := gadd finv (gmul finv p (k / 2)) (gmul finv p (k / 2)); if k % 2 = 1 then gadd finv s p else s) := by
  unfold gmul
  rw [gtimes.eq_def (gwide p) k, dif_neg hk]
  dsimp only
  rw [← gadd_dbl]
  generalize gtimes (gwide p) (k / 2) = w
  by_cases hb : k % 2 = 1
  · rw [if_pos hb, if_pos hb]
    by_cases hi : p.inf = true
    · have e := hp hi
      subst e
      have e1 : gwide (⟨0, 0, true⟩ : GP T) = ⟨0, 0, 0⟩ := by unfold gwide; rw [if_pos rfl]
      unfold gadd
      rw [e1]
      generalize gtwice w = v
      have e2 : ∀ u : GW T, gnarrow finv (gsum u ⟨0, 0, 0⟩) = gnarrow finv u := by
        intro u
        unfold gsum
        by_cases hu : u.z = 0
        · rw [if_pos hu]
          unfold gnarrow
          rw [if_pos rfl, if_pos hu]
        · rw [if_neg hu, if_pos rfl]
      rw [e2, e2, gnarrow_wide _ (gnarrow_nf finv v)]
    · exact gadd_join _ p (by simpa using hi)
  · rw [if_neg hb, if_neg hb]

/-- The point of the group. -/
def GP.pt (p : GP T) : Pt T := if p.inf then .inf else .aff p.x p.y
theorem pt_inj {T : Type} [Fd T] {p q : GP T} (hp : p.inf = true → p = ⟨0, 0, true⟩) (hq : q.inf = true → q = ⟨0, 0, true⟩) (h : p.pt = q.pt) : p = q := by
  unfold GP.pt at h
  by_cases h1 : p.inf = true
  · by_cases h2 : q.inf = true
    · rw [hp h1, hq h2]
    · rw [if_pos h1, if_neg h2] at h; cases h
  · by_cases h2 : q.inf = true
    · rw [if_neg h1, if_pos h2] at h; cases h
    · rw [if_neg h1, if_neg h2] at h
      injection h with h3 h4
      obtain ⟨x, y, i⟩ := p
      obtain ⟨x', y', i'⟩ := q
      cases i with
      | true => exact absurd rfl h1
      | false =>
        cases i' with
        | true => exact absurd rfl h2
        | false => dsimp only at h3 h4; rw [h3, h4]

theorem gon_pt {T : Type} [Fd T] (b : T) (p : GP T) : gon b p ↔ Pt.On b p.pt := by
  unfold gon GP.pt
  by_cases h : p.inf = true
  · rw [if_pos h]; exact ⟨fun _ => trivial, fun _ => .inl h⟩
  · rw [if_neg h, gright_eq]
    exact ⟨fun k => k.resolve_left h, fun k => .inr k⟩

theorem rplus_pt {b : T} (p q : GP T) (hq : q.nf) (op : Pt.On b p.pt) (oq : Pt.On b q.pt) : (rplus finv p q).pt = Pt.add p.pt q.pt := by
  unfold rplus
  by_cases h1 : p.inf = true
  · rw [if_pos h1, rneg_rneg q hq]
    have : p.pt = .inf := by unfold GP.pt; rw [if_pos h1]
    rw [this]; rfl
  · rw [if_neg h1]
    by_cases h2 : q.inf = true
    · rw [if_pos h2]
      have : q.pt = .inf := by unfold GP.pt; rw [if_pos h2]
      rw [this, Pt.add_inf]
    · rw [if_neg h2]
      have e1 : p.pt = .aff p.x p.y := by unfold GP.pt; rw [if_neg h1]
      have e2 : q.pt = .aff q.x q.y := by unfold GP.pt; rw [if_neg h2]
      rw [e1] at op ⊢
      rw [e2] at oq ⊢
      have op' : p.y * p.y = p.x * p.x * p.x + b := op
      have oq' : q.y * q.y = q.x * q.x * q.x + b := oq
      have hc : (p.x = q.x ∧ (p.y ≠ q.y ∨ p.y = 0)) ↔ (p.x = q.x ∧ p.y = -q.y) := by
        refine ⟨fun ⟨a, c⟩ => ⟨a, ?_⟩, fun ⟨a, c⟩ => ⟨a, ?_⟩⟩
        · have e3 : (p.y + q.y) * (p.y - q.y) = 0 := by
            rw [a] at op'
            generalize p.y = y1 at *
            generalize q.y = y2 at *
            generalize q.x = x at *
            exact lc2 [x, y1, y2, b] 1 (-1) op' oq' (by decide)
          rcases Fd.mul_eq_zero e3 with h | h
          · exact neg_uniq h
          · have e4 := sub_eq_zero.1 h
            rcases c with c | c
            · exact absurd e4 c
            · rw [← e4, c]; exact ring [] (by decide)
        · by_cases e : p.y = q.y
          · right
            have e5 : p.y + p.y = 0 := by
              rw [← e] at c
              generalize p.y = y at c
              exact lc1 [y] 1 c (by decide)
            by_cases h0 : p.y = 0
            · exact h0
            · exact absurd e5 (dbl_ne h0)
          · exact .inl e
      by_cases hn : p.x = q.x ∧ p.y = -q.y
      · rw [if_pos (hc.2 hn)]
        show GP.pt _ = if _ then _ else _
        rw [if_pos hn]; rfl
      · rw [if_neg (fun k => hn (hc.1 k))]
        show GP.pt _ = if _ then _ else _
        rw [if_neg hn]
        rfl

/-- So many times a point. -/
def Pt.smul (p : Pt T) : Nat → Pt T
  | 0 => .inf
  | n + 1 => Pt.add (Pt.smul p n) p

theorem smul_on {b : T} {p : Pt T} (hp : Pt.On b p) : ∀ n, Pt.On b (p.smul n)
  | 0 => trivial
  | n + 1 => Pt.add_on (smul_on hp n) hp

theorem smul_add {b : T} (h3 : (1 : T) + 1 + 1 ≠ 0) (hb : b ≠ 0) {p : Pt T} (hp : Pt.On b p) (m : Nat) : ∀ n, p.smul (m + n) = Pt.add (p.smul m) (p.smul n)
  | 0 => (Pt.add_inf _).symm
  | n + 1 => by
    show Pt.add (p.smul (m + n)) p = Pt.add (p.smul m) (Pt.add (p.smul n) p)
    rw [smul_add h3 hb hp m n, Pt.add_assoc h3 hb (smul_on hp m) (smul_on hp n) hp]

theorem gadd_nf (p q : GP T) : (gadd finv p q).nf := gnarrow_nf _ _
theorem gmul_nf (p : GP T) (k : Nat) : (gmul finv p k).nf := gnarrow_nf _ _

theorem gadd_pt {b : T} {p q : GP T} (hp : p.nf) (hq : q.nf) (op : Pt.On b p.pt) (oq : Pt.On b q.pt) : (gadd finv p q).pt = Pt.add p.pt q.pt := by
  rw [gadd_r p q hp hq, rplus_pt p q hq op oq]

theorem gmul_pt {b : T} (h3 : (1 : T) + 1 + 1 ≠ 0) (hb : b ≠ 0) {p : GP T} (hp : p.nf) (op : Pt.On b p.pt) (k : Nat) : (gmul finv p k).pt = p.pt.smul k := by
  induction k using Nat.strongRecOn with
  | ind k ih =>
    by_cases hk : k = 0
    · subst hk
      unfold gmul
      rw [gtimes, dif_pos rfl]
      unfold gnarrow
      rw [if_pos rfl]
      rfl
    · have ih := ih (k / 2) (by omega)
      have o1 : Pt.On b (gmul finv p (k / 2)).pt := by rw [ih]; exact smul_on op _
      have e1 : (gadd finv (gmul finv p (k / 2)) (gmul finv p (k / 2))).pt = p.pt.smul (k / 2 + k / 2) := by
        rw [gadd_pt (gmul_nf _ _) (gmul_nf _ _) o1 o1, ih, smul_add h3 hb op]
      rw [gmul_step p hp k hk]
      dsimp only
      by_cases hb2 : k % 2 = 1
      · rw [if_pos hb2, gadd_pt (gadd_nf _ _) hp (by rw [e1]; exact smul_on op _) op, e1]
        show p.pt.smul (k / 2 + k / 2 + 1) = _
        congr 1; omega
      · rw [if_neg hb2, e1]
        congr 1; omega

theorem gneg_pt {T : Type} [Fd T] {p : GP T} : (gneg p).pt = p.pt.neg := by
  unfold gneg GP.pt
  by_cases h : p.inf = true
  · rw [if_pos h, if_pos h]; rfl
  · rw [if_neg h, if_neg h]
    show Pt.aff _ _ = Pt.aff _ _
    rw [show (0 : T) - p.y = -p.y from by rw [rsub_eq, rzero_add]]
end
end Go.Proofs.YtjokcbjahidckaaGreat
/-! A multiple of a point, reckoned in numbers by the kernel. No condition. -/
namespace Go.Proofs.YtjokcbjahidckaaGreat
open Rg
open Go.Proofs.YtjokcbjahidckaaGreat.Fd

/-- A number is reckoned before one goes on. -/
def frc {α : Type} (n : Nat) (f : Nat → α) : α := match n with | 0 => f 0 | k + 1 => f (k + 1)
theorem frc_eq {α : Type} (n : Nat) (f : Nat → α) : frc n f = f n := by cases n <;> rfl
def nM (p a b : Nat) : Nat := a * b % p
def nA (p a b : Nat) : Nat := (a + b) % p
def nS (p a b : Nat) : Nat := (a + (p - b)) % p
def nN (x y z : Nat) : Option (Nat × Nat × Nat) := frc x fun x => frc y fun y => match z with | 0 => none | k + 1 => some (x, y, k + 1)
/-- Twice a point, in Jacobi's coordinates. -/
def nD (p x y z : Nat) : Option (Nat × Nat × Nat) :=
  frc (nM p x (nM p y y)) fun d => frc (nA p d d) fun d2 => frc (nA p d2 d2) fun d4 => frc (nM p x x) fun a => frc (nA p (nA p a a) a) fun e =>
  frc (nS p (nM p e e) (nA p d4 d4)) fun n => frc (nM p (nM p y y) (nM p y y)) fun q => frc (nA p q q) fun q2 => frc (nA p q2 q2) fun q4 =>
  nN n (nS p (nM p e (nS p d4 n)) (nA p q4 q4)) (nA p (nM p y z) (nM p y z))
/-- A point and another one with z 1. -/
def nJ (p x y z gx gy : Nat) : Option (Nat × Nat × Nat) :=
  frc (nS p (nM p gx (nM p z z)) x) fun h => frc (nS p (nM p gy (nM p (nM p z z) z)) y) fun r =>
  match h with
  | 0 => match r with
    | 0 => nD p x y z
    | _ + 1 => none
  | h + 1 => frc (nM p (h + 1) (h + 1)) fun h2 => frc (nM p h2 (h + 1)) fun h3 => frc (nM p x h2) fun v => frc (nS p (nS p (nM p r r) h3) (nA p v v)) fun n =>
    nN n (nS p (nM p r (nS p v n)) (nM p y h3)) (nM p z (h + 1))
def nT (p gx gy : Nat) : Nat → Nat → Option (Nat × Nat × Nat)
  | 0, _ => none
  | f + 1, k => match k with
    | 0 => none
    | k + 1 =>
      let s := match nT p gx gy f ((k + 1) / 2) with | none => none | some (x, y, z) => nD p x y z
      match (k + 1) % 2 with
      | 0 => s
      | _ + 1 => match s with | none => some (gx, gy, 1) | some (x, y, z) => nJ p x y z gx gy

section
variable {p : Nat} [hp : Pr p]
def v3 (W : GW (Zm p)) : Nat × Nat × Nat := (W.x.val, W.y.val, W.z.val)
theorem nN_ok (W : GW (Zm p)) : nN W.x.val W.y.val W.z.val = (rnorm W).map v3 := by
  unfold nN rnorm
  simp only [frc_eq]
  by_cases h : W.z = 0
  · rw [if_pos h, Zm.eq_zero.1 h]
    rfl
  · rw [if_neg h]
    obtain ⟨k, hk⟩ : ∃ k, W.z.val = k + 1 := ⟨W.z.val - 1, by have : W.z.val ≠ 0 := fun h' => h (Zm.eq_zero.2 h'); omega⟩
    rw [hk]
    show some (W.x.val, W.y.val, k + 1) = some (W.x.val, W.y.val, W.z.val)
    rw [hk]
theorem nD_ok (W : GW (Zm p)) : nD p W.x.val W.y.val W.z.val = (rnorm (rdbl W)).map v3 := by
  unfold nD
  simp only [frc_eq]
  exact nN_ok (rdbl W)
theorem nJ_ok (W : GW (Zm p)) (P : GP (Zm p)) : nJ p W.x.val W.y.val W.z.val P.x.val P.y.val = (rnorm (rjoin W P)).map v3 := by
  have eh : nS p (nM p P.x.val (nM p W.z.val W.z.val)) W.x.val = (jnH W P).val := rfl
  have er : nS p (nM p P.y.val (nM p (nM p W.z.val W.z.val) W.z.val)) W.y.val = (jnR W P).val := rfl
  unfold nJ
  simp only [frc_eq]
  rw [eh, er]
  unfold rjoin
  by_cases h : jnH W P = 0
  · rw [if_pos h, Zm.eq_zero.1 h]
    by_cases k : jnR W P = 0
    · rw [if_pos k, Zm.eq_zero.1 k]
      exact nD_ok W
    · rw [if_neg k]
      obtain ⟨m, hm⟩ : ∃ m, (jnR W P).val = m + 1 := ⟨(jnR W P).val - 1, by have : (jnR W P).val ≠ 0 := fun h' => k (Zm.eq_zero.2 h'); omega⟩
      rw [hm]
      unfold rnorm
      rw [if_pos rfl]
      rfl
  · rw [if_neg h]
    obtain ⟨m, hm⟩ : ∃ m, (jnH W P).val = m + 1 := ⟨(jnH W P).val - 1, by have : (jnH W P).val ≠ 0 := fun h' => h (Zm.eq_zero.2 h'); omega⟩
    have := nN_ok (⟨jnN W P, jnR W P * (W.x * (jnH W P * jnH W P) - jnN W P) - W.y * (jnH W P * jnH W P * jnH W P), W.z * jnH W P⟩ : GW (Zm p))
    rw [← this]
    have e1 : ((⟨jnN W P, jnR W P * (W.x * (jnH W P * jnH W P) - jnN W P) - W.y * (jnH W P * jnH W P * jnH W P), W.z * jnH W P⟩ : GW (Zm p)).z).val = nM p W.z.val (jnH W P).val := rfl
    have e2 : (jnN W P).val = nS p (nS p (nM p (jnR W P).val (jnR W P).val) (nM p (nM p (jnH W P).val (jnH W P).val) (jnH W P).val)) (nA p (nM p W.x.val (nM p (jnH W P).val (jnH W P).val)) (nM p W.x.val (nM p (jnH W P).val (jnH W P).val))) := rfl
    have e3 : (jnR W P * (W.x * (jnH W P * jnH W P) - jnN W P) - W.y * (jnH W P * jnH W P * jnH W P)).val = nS p (nM p (jnR W P).val (nS p (nM p W.x.val (nM p (jnH W P).val (jnH W P).val)) (jnN W P).val)) (nM p W.y.val (nM p (nM p (jnH W P).val (jnH W P).val) (jnH W P).val)) := rfl
    show _ = nN (jnN W P).val (jnR W P * (W.x * (jnH W P * jnH W P) - jnN W P) - W.y * (jnH W P * jnH W P * jnH W P)).val (nM p W.z.val (jnH W P).val)
    rw [e3, e2, hm]
theorem nT_ok (P : GP (Zm p)) : ∀ f k, k < 2 ^ f → nT p P.x.val P.y.val f k = (rtimes P k).map v3
  | 0, k, h => by
    have : k = 0 := by simpa using h
    subst this
    rw [rtimes]
    rfl
  | f + 1, 0, _ => by rw [rtimes]; rfl
  | f + 1, k + 1, h => by
    have hk : (k + 1) / 2 < 2 ^ f := by rw [Nat.pow_succ] at h; omega
    have ih := nT_ok P f ((k + 1) / 2) hk
    rw [rtimes, dif_neg (Nat.succ_ne_zero k)]
    show (match (k + 1) % 2 with
      | 0 => (match nT p P.x.val P.y.val f ((k + 1) / 2) with | none => none | some (x, y, z) => nD p x y z)
      | _ + 1 => (match (match nT p P.x.val P.y.val f ((k + 1) / 2) with | none => none | some (x, y, z) => nD p x y z) with | none => some (P.x.val, P.y.val, 1) | some (x, y, z) => nJ p x y z P.x.val P.y.val)) = _
    rw [ih]
    have key : ∀ s : Option (GW (Zm p)), (match (k + 1) % 2 with
      | 0 => s.map v3
      | _ + 1 => (match s.map v3 with | none => some (P.x.val, P.y.val, 1) | some (x, y, z) => nJ p x y z P.x.val P.y.val)) =
      Option.map v3 (if (k + 1) % 2 = 1 then (match s with | none => some ⟨P.x, P.y, 1⟩ | some w => rnorm (rjoin w P)) else s) := by
      intro s
      have : (k + 1) % 2 = 0 ∨ (k + 1) % 2 = 1 := by omega
      rcases this with e | e
      · rw [e, if_neg (by decide)]
      · rw [e, if_pos rfl]
        cases s with
        | none =>
          show some (P.x.val, P.y.val, 1) = some (P.x.val, P.y.val, (1 : Zm p).val)
          rw [Zm.val_one]
        | some W => exact nJ_ok W P
    cases rtimes P ((k + 1) / 2) with
    | none =>
      have := key none
      generalize (k + 1) % 2 = r at this ⊢
      cases r <;> exact this
    | some W =>
      simp only [Option.map_some, v3]
      have h0 := key (rnorm (rdbl W))
      rw [← nD_ok W] at h0
      refine Eq.trans ?_ (h0.trans ?_)
      · generalize (k + 1) % 2 = r
        cases r <;> rfl
      · cases rnorm (rdbl W) <;> rfl

/-- The multiple is zero where the numbers say so. -/
theorem nT_zero {gx gy k : Nat} (hx : gx < p) (hy : gy < p) (hk : k < 2 ^ 256) (h : (nT p gx gy 256 k).isNone = true) : gmul Fd.finv (⟨Zm.of gx, Zm.of gy, false⟩ : GP (Zm p)) k = ⟨0, 0, true⟩ := by
  have h1 := nT_ok (⟨Zm.of gx, Zm.of gy, false⟩ : GP (Zm p)) 256 k hk
  have ex : (Zm.of gx : Zm p).val = gx := Nat.mod_eq_of_lt hx
  have ey : (Zm.of gy : Zm p).val = gy := Nat.mod_eq_of_lt hy
  have h2 : rtimes (⟨Zm.of gx, Zm.of gy, false⟩ : GP (Zm p)) k = none := by
    show _ = _
    rw [show (⟨Zm.of gx, Zm.of gy, false⟩ : GP (Zm p)).x.val = gx from ex, show (⟨Zm.of gx, Zm.of gy, false⟩ : GP (Zm p)).y.val = gy from ey] at h1
    rw [h1] at h
    cases e : rtimes (⟨Zm.of gx, Zm.of gy, false⟩ : GP (Zm p)) k with
    | none => rfl
    | some W => rw [e] at h; cases h
  rw [gmul_r Fd.finv _ Fd.fone]
  unfold rmul
  rw [if_neg Bool.false_ne_true, h2]
  rfl
end
end Go.Proofs.YtjokcbjahidckaaGreat
/-! The group's laws, said of the points that the program answers, and of the generators. Conditions: the points are on the curve. -/
namespace Go.Proofs.YtjokcbjahidckaaGreat
open Rg
open Go.Proofs.YtjokcbjahidckaaGreat.Fd

section
variable {p : Nat} [hp : Pr p]
theorem gin_nf (x y : Nat) (i : Bool) : (gin x y i : GP (Zm p)).nf := by
  unfold gin GP.nf
  cases i
  · intro h; cases h
  · intro _; rfl
theorem gin_go {P : GP (Zm p)} (h : P.nf) : gin (gox P) (goy P) P.inf = P := by
  unfold gin gox goy
  cases hi : P.inf with
  | true => exact (h hi).symm
  | false =>
    show (⟨Zm.of P.x.val, Zm.of P.y.val, false⟩ : GP (Zm p)) = P
    rw [Zm.of_val, Zm.of_val, ← hi]
theorem onc_go {b : Zm p} {P : GP (Zm p)} (h : P.nf) (ho : gon b P) : p1on b (gox P) (goy P) P.inf = true := by
  have hg := gin_go h
  unfold p1on
  rw [hg, decide_eq_true ho]
  cases hi : P.inf with
  | true => rfl
  | false =>
    unfold gox goy
    rw [hi]
    show (false || (decide (P.x.val % p = P.x.val) && decide (P.y.val % p = P.y.val) && true)) = true
    rw [decide_eq_true (Nat.mod_eq_of_lt P.x.lt), decide_eq_true (Nat.mod_eq_of_lt P.y.lt)]
    rfl
theorem gon_of {b : Zm p} {x y : Nat} {i : Bool} (h : p1on b x y i = true) : gon b (gin x y i) := by
  unfold p1on at h
  cases i with
  | true => exact .inl rfl
  | false =>
    simp only [Bool.false_or, Bool.and_eq_true, decide_eq_true_eq] at h
    exact h.2
theorem go_lt {p : Nat} (P : GP (Zm p)) (hp6 : p ≤ B64 ^ 6) : gox P < B64 ^ 6 ∧ goy P < B64 ^ 6 := by
  have h0 : 0 < B64 ^ 6 := Nat.pow_pos (by decide)
  unfold gox goy
  constructor <;> split
  · exact h0
  · exact Nat.lt_of_lt_of_le P.x.lt hp6
  · exact h0
  · exact Nat.lt_of_lt_of_le P.y.lt hp6
variable {b : Zm p} {P Q R : GP (Zm p)}
theorem zero_nf : (⟨0, 0, true⟩ : GP (Zm p)).nf := fun _ => rfl
theorem gneg_nf (h : P.nf) : (gneg P).nf := fun hi => by
  have := h hi
  rw [this]
  unfold gneg
  rw [show (0 : Zm p) - 0 = 0 from ring [] (by decide)]
theorem grp_neg_on (ho : gon b P) : gon b (gneg P) := by
  rw [gon_pt, gneg_pt]
  exact Pt.neg_on ((gon_pt b P).1 ho)
theorem grp_on (hP : P.nf) (hQ : Q.nf) (oP : gon b P) (oQ : gon b Q) : gon b (gadd finv P Q) := by
  rw [gon_pt] at *
  rw [gadd_pt hP hQ oP oQ]
  exact Pt.add_on oP oQ
theorem grp_comm (hP : P.nf) (hQ : Q.nf) (oP : gon b P) (oQ : gon b Q) : gadd finv P Q = gadd finv Q P := by
  rw [gon_pt] at *
  exact pt_inj (gadd_nf _ _) (gadd_nf _ _) (by rw [gadd_pt hP hQ oP oQ, gadd_pt hQ hP oQ oP, Pt.add_comm oP oQ])
theorem grp_assoc (h3 : (1 : Zm p) + 1 + 1 ≠ 0) (hb : b ≠ 0) (hP : P.nf) (hQ : Q.nf) (hR : R.nf) (oP : gon b P) (oQ : gon b Q) (oR : gon b R) :
    gadd finv (gadd finv P Q) R = gadd finv P (gadd finv Q R) := by
  have o1 := (gon_pt b _).1 (grp_on hP hQ oP oQ)
  have o2 := (gon_pt b _).1 (grp_on hQ hR oQ oR)
  rw [gon_pt] at oP oQ oR
  exact pt_inj (gadd_nf _ _) (gadd_nf _ _) (by
    rw [gadd_pt (gadd_nf _ _) hR o1 oR, gadd_pt hP (gadd_nf _ _) oP o2, gadd_pt hP hQ oP oQ, gadd_pt hQ hR oQ oR, Pt.add_assoc h3 hb oP oQ oR])
theorem grp_neg (hP : P.nf) (oP : gon b P) : gadd finv P (gneg P) = ⟨0, 0, true⟩ := by
  have o1 := (gon_pt b _).1 (grp_neg_on oP)
  rw [gon_pt] at oP
  exact pt_inj (gadd_nf _ _) zero_nf (by rw [gadd_pt hP (gneg_nf hP) oP o1, gneg_pt, Pt.add_neg]; rfl)
theorem grp_mul_on (h3 : (1 : Zm p) + 1 + 1 ≠ 0) (hb : b ≠ 0) (hP : P.nf) (oP : gon b P) (k : Nat) : gon b (gmul finv P k) := by
  rw [gon_pt] at *
  rw [gmul_pt h3 hb hP oP]
  exact smul_on oP k
theorem grp_mul_add (h3 : (1 : Zm p) + 1 + 1 ≠ 0) (hb : b ≠ 0) (hP : P.nf) (oP : gon b P) (k m : Nat) : gadd finv (gmul finv P k) (gmul finv P m) = gmul finv P (k + m) := by
  have o1 := (gon_pt b _).1 (grp_mul_on h3 hb hP oP k)
  have o2 := (gon_pt b _).1 (grp_mul_on h3 hb hP oP m)
  rw [gon_pt] at oP
  exact pt_inj (gadd_nf _ _) (gmul_nf _ _) (by
    rw [gadd_pt (gmul_nf _ _) (gmul_nf _ _) o1 o2, gmul_pt h3 hb hP oP, gmul_pt h3 hb hP oP, gmul_pt h3 hb hP oP, smul_add h3 hb oP])
theorem grp_mul_one (h3 : (1 : Zm p) + 1 + 1 ≠ 0) (hb : b ≠ 0) (hP : P.nf) (oP : gon b P) : gmul finv P 1 = P := by
  rw [gon_pt] at oP
  exact pt_inj (gmul_nf _ _) hP (by rw [gmul_pt h3 hb hP oP]; rfl)
end

/-! The generators. -/
theorem three_of {P : Nat → Prop} (h1 : P 1) (h2 : P 2) (h3 : P 3) (c : Nat) (l : 1 ≤ c) (u : c ≤ 3) : P c := by
  have : c = 1 ∨ c = 2 ∨ c = 3 := by omega
  rcases this with rfl | rfl | rfl
  · exact h1
  · exact h2
  · exact h3
theorem cp_four (c : Nat) (h1 : 1 ≤ c) (h3 : c ≤ 3) : 7 < cp c ∧ cp c < B64 ^ 6 :=
  three_of (P := fun c => 7 < cp c ∧ cp c < B64 ^ 6) (by decide) (by decide) (by decide) c h1 h3
theorem cb_ne (c : Nat) (h1 : 1 ≤ c) (h3 : c ≤ 3) [Pr (cp c)] : (Zm.of (cbN c) : Zm (cp c)) ≠ 0 := fun h => by
  have h2 := Zm.eq_zero.1 h
  rw [Zm.val_of] at h2
  have h7 := (cp_four c h1 h3).1
  have : cbN c ≤ 7 ∧ 0 < cbN c := three_of (P := fun c => cbN c ≤ 7 ∧ 0 < cbN c) (by decide) (by decide) (by decide) c h1 h3
  rw [Nat.mod_eq_of_lt (by omega)] at h2
  omega
theorem three_ne (c : Nat) (h1 : 1 ≤ c) (h3 : c ≤ 3) [Pr (cp c)] : (1 : Zm (cp c)) + 1 + 1 ≠ 0 := fun h => by
  have h2 := Zm.eq_zero.1 h
  have h7 := (cp_four c h1 h3).1
  rw [Zm.val_add, Zm.val_add, Zm.val_one, Nat.mod_eq_of_lt (a := 1 + 1) (by omega), Nat.mod_eq_of_lt (by omega)] at h2
  omega
theorem gen_lt (c : Nat) (h1 : 1 ≤ c) (h3 : c ≤ 3) : gxN c < cp c ∧ gyN c < cp c ∧ prm (2 * c) < 2 ^ 256 ∧ (gyN c * gyN c) % cp c = (gxN c * (gxN c * gxN c % cp c) % cp c + cbN c % cp c) % cp c :=
  three_of (P := fun c => gxN c < cp c ∧ gyN c < cp c ∧ prm (2 * c) < 2 ^ 256 ∧ (gyN c * gyN c) % cp c = (gxN c * (gxN c * gxN c % cp c) % cp c + cbN c % cp c) % cp c) (by decide) (by decide) (by decide) c h1 h3
theorem gen_on (c : Nat) (h1 : 1 ≤ c) (h3 : c ≤ 3) [Pr (cp c)] : onc c (gxN c) (gyN c) false = true := by
  obtain ⟨hx, hy, -, he⟩ := gen_lt c h1 h3
  have ex : (Zm.of (gxN c) : Zm (cp c)).val = gxN c := Nat.mod_eq_of_lt hx
  have ey : (Zm.of (gyN c) : Zm (cp c)).val = gyN c := Nat.mod_eq_of_lt hy
  have hg : gon (Zm.of (cbN c) : Zm (cp c)) (gin (gxN c) (gyN c) false) := by
    refine .inr (Zm.ext ?_)
    show ((Zm.of (gyN c) : Zm (cp c)).val * (Zm.of (gyN c) : Zm (cp c)).val) % cp c = ((Zm.of (gxN c) : Zm (cp c)).val * ((Zm.of (gxN c) : Zm (cp c)).val * (Zm.of (gxN c) : Zm (cp c)).val % cp c) % cp c + cbN c % cp c) % cp c
    rw [ex, ey]
    exact he
  unfold onc p1on
  rw [decide_eq_true (Nat.mod_eq_of_lt hx), decide_eq_true (Nat.mod_eq_of_lt hy), decide_eq_true hg]
  rfl
set_option maxRecDepth 100000 in
theorem ord_1 : (nT (cp 1) (gxN 1) (gyN 1) 256 (prm 2)).isNone = true := by decide +kernel
set_option maxRecDepth 100000 in
theorem ord_2 : (nT (cp 2) (gxN 2) (gyN 2) 256 (prm 4)).isNone = true := by decide +kernel
set_option maxRecDepth 100000 in
theorem ord_3 : (nT (cp 3) (gxN 3) (gyN 3) 256 (prm 6)).isNone = true := by decide +kernel
theorem gen_ord (c : Nat) (h1 : 1 ≤ c) (h3 : c ≤ 3) [Pr (cp c)] : gmul Fd.finv (gI c (gxN c) (gyN c) false) (prm (2 * c)) = ⟨0, 0, true⟩ := by
  obtain ⟨hx, hy, ho, -⟩ := gen_lt c h1 h3
  exact nT_zero hx hy ho (three_of (P := fun c => (nT (cp c) (gxN c) (gyN c) 256 (prm (2 * c))).isNone = true) ord_1 ord_2 ord_3 c h1 h3)
end Go.Proofs.YtjokcbjahidckaaGreat
/-! quarryref02: numbers in digits of 32 bits. Conditions: slices read as such digits. -/
namespace Go.Proofs.YtjokcbjahidckaaGreat
open Go.RowKit

/-- The address, if there is one, lies in a block of this type. -/
def TyA (w : World) (t : TypeId) (A : Option Addr) : Prop := A = none ∨ ∃ b off C, A = some ⟨b, off, none⟩ ∧ w.heap[b]? = some (.cells C t (0, 0))
theorem Row.ty {w : World} {b : Nat} {k : IntKind} {t : TypeId} {xs : List Nat} (h : Row w b k t xs) : TyA w t (some ⟨b, 0, none⟩) := .inr ⟨_, _, _, rfl, h⟩
/-- A slice's value that reads as xs, in a block of this type. -/
def IsT (w : World) (k : IntKind) (t : TypeId) (v : Value) (xs : List Nat) : Prop := ∃ A cap, v = .slice A xs.length cap ∧ xs.length ≤ cap ∧ Rd w k A xs ∧ (A = none → cap = 0) ∧ TyA w t A
/-- Such a slice comes back; nothing that was there has turned. -/
def RetT (w : World) (k : IntKind) (t : TypeId) (xs : List Nat) (e : Ending) (w' : World) : Prop := ∃ v, e = .returned v ∧ Below w.heap.size w w' ∧ IsT w' k t v xs

theorem trim32 (A : Option Addr) (cap : Nat) (xs : List Nat) (w : World) (hc : xs.length ≤ cap) (hr : Rd w .u32 A xs) :
    Calls Tryz.prog 115 #[.slice A xs.length cap] w fun e w' => e = .returned (.slice A (trimD xs).length cap) ∧ w = w' := by
  have hl := hr.1
  rw [length_trimD]
  have HX := Lib.hid hr
  clear hr
  go_enter Tryz.func115, Tryz.ntmps115
  go_wp2
  go_loop [3] (fun n => ∃ k : Nat, k ≤ xs.length ∧ n = .int .i64 k ∧ trimLen xs k = trimLen xs xs.length) (fun n => (intOf n).toNat)
  case atStart => exact ⟨_, Nat.le_refl _, rfl, rfl⟩
  case round =>
    obtain ⟨k, hk, rfl, hrel⟩ := hrel
    have HR := Lib.hid hrel
    clear hrel
    rcases k with _ | k
    · go_wp2
      go_ret
      exact ⟨by rw [← HR.out]; rfl, rfl⟩
    · obtain ⟨b, off, rfl, hcell⟩ := HX.out.at (j := k) (by omega)
      by_cases h0 : xs.getD k 0 = 0
      · have H0 := Lib.hid h0
        rw [h0] at hcell
        clear h0
        go_wp2
        go_round
        case rel => exact ⟨k, by omega, by go_num, by rw [← HR.out]; simp only [trimLen]; rw [if_pos H0.out]⟩
        case measure => simp [intOf]
      · have hb : (((xs.getD k 0 : Nat) : Int) == 0) = false := by rw [beq_eq_false_iff_ne]; omega
        have H0 := Lib.hid h0
        clear h0
        generalize hv : xs.getD k 0 = v at *
        have HV := Lib.hid hv
        clear hv
        go_wp2
        go_ret
        refine ⟨?_, rfl⟩
        rw [← HR.out]; simp only [trimLen]; rw [HV.out, if_neg H0.out]; rfl

theorem add_digit {xs ys zs : List Nat} {k cy : Nat} (hs : k < zs.length) (e : ofD B32 (zs.take k) + B32 ^ k * cy = ofD B32 (xs.take k) + ofD B32 (ys.take k)) (hx : xs.getD k 0 < 4294967296) (hy : ys.getD k 0 < 4294967296) (hc : cy ≤ 1) :
    (cy + xs.getD k 0 + ys.getD k 0) / 4294967296 ≤ 1 ∧ (cy + xs.getD k 0 + ys.getD k 0) % 4294967296 < B32 ∧
    ofD B32 ((zs.set k ((cy + xs.getD k 0 + ys.getD k 0) % 4294967296)).take (k + 1)) + B32 ^ (k + 1) * ((cy + xs.getD k 0 + ys.getD k 0) / 4294967296) = ofD B32 (xs.take (k + 1)) + ofD B32 (ys.take (k + 1)) := by
  refine ⟨by omega, by rw [B32_eq]; omega, ?_⟩
  rw [ofD_take_set hs, ofD_take_getD xs, ofD_take_getD ys, Nat.pow_succ, Nat.mul_assoc]
  generalize xs.getD k 0 = x at *
  generalize ys.getD k 0 = y at *
  have h2 : B32 ^ k * (cy + x + y) = B32 ^ k * ((cy + x + y) % 4294967296 + B32 * ((cy + x + y) / 4294967296)) := by
    congr 1
    rw [B32_eq]
    omega
  simp only [Nat.mul_add] at h2
  rw [Nat.mul_left_comm (B32 ^ k) B32] at *
  omega
theorem u64_add (a b : Nat) (h : a + b < 18446744073709551616) : IntKind.u64.wrap ((a : Int) + (b : Int)) = ((a + b : Nat) : Int) := by rw [IntKind.wrap_u64]; omega
theorem u64_add3 (a b c : Nat) (h : a + b + c < 18446744073709551616) : IntKind.u64.wrap (((a + b : Nat) : Int) + (c : Int)) = ((a + b + c : Nat) : Int) := by rw [IntKind.wrap_u64]; omega
theorem u32_of (a : Nat) : IntKind.u32.wrap (a : Int) = ((a % 4294967296 : Nat) : Int) := by rw [IntKind.wrap_u32]; omega

theorem trim32_sl (v : Value) (xs : List Nat) (w : World) (hd : Digs B32 xs) (h : IsT w .u32 180 v xs) : Calls Tryz.prog 115 #[v] w fun e w' => w = w' ∧ RetT w .u32 180 (wd (ofD B32 xs)) e w' := by
  obtain ⟨A, cap, rfl, hc, hr, hA, hT⟩ := h
  refine (trim32 A cap xs w hc hr).mono ?_
  rintro e w' ⟨rfl, rfl⟩
  refine ⟨rfl, _, rfl, Below.refl _ _, A, cap, ?_⟩
  rw [← trimD_wd hd]
  exact ⟨rfl, Nat.le_trans (length_trimD_le xs) hc, hr.take _, hA, hT⟩
theorem add32_swap (A A' : Option Addr) (cap cap' : Nat) (xs ys : List Nat) (w : World) (hgt : xs.length < ys.length) (hs : ys.length < 1099511627776) (hr : Rd w .u32 A xs) (hr' : Rd w .u32 A' ys) (hd : Digs B32 xs) (hd' : Digs B32 ys) :
    Calls Tryz.prog 41 #[.slice A xs.length cap, .slice A' ys.length cap'] w (RetT w .u32 180 (wd (ofD B32 xs + ofD B32 ys))) := by
  have HR := Lib.hid hr
  have HR' := Lib.hid hr'
  have HD := Lib.hid hd
  have HD' := Lib.hid hd'
  clear hr hr' hd hd'
  have hmk := mk32 (((ys.length : Nat) : Int) + 1) (ys.length + 1) (by omega) (by omega)
  go_enter Tryz.func41, Tryz.ntmps41
  go_wp2
  go_loopw [7, 8, 9] (fun c i _ wr => ∃ (k cy : Nat) (zs : List Nat), k ≤ ys.length + 1 ∧ i = .int .i64 k ∧ c = .int .u64 cy ∧ cy ≤ 1 ∧ Below w.heap.size w wr ∧ Row wr w.heap.size .u32 180 zs ∧ zs.length = ys.length + 1 ∧ Digs B32 zs ∧ ofD B32 (zs.take k) + B32 ^ k * cy = ofD B32 (xs.take k) + ofD B32 (ys.take k)) (fun _ i _ _ => ys.length + 1 - (intOf i).toNat)
  case atStart => exact ⟨0, 0, List.replicate (ys.length + 1) 0, Nat.zero_le _, rfl, rfl, by omega, (Below.refl _ _).alloc (Nat.le_refl _) _, Row.alloc rfl, by simp, Digs.replicate (by decide) _, by simp [ofD]⟩
  case round =>
    obtain ⟨k, cy, zs, hk, rfl, rfl, hcy, hb, hrow, hzl, hdz, hval⟩ := hrel
    have HL := Lib.hid hzl
    have HV := Lib.hid hval
    clear hzl hval
    by_cases hlt : k < ys.length + 1
    · have hx := HD.out.getD (by decide) k
      have hy := HD'.out.getD (by decide) k
      rw [B32_eq] at hx hy
      have hzk : k < zs.length := by have := HL.out; omega
      have hc2 := hrow.cell hzk
      have hf2 := hrow.frozen k
      have HVN := Lib.hid (add_digit (hs := hzk) HV.out (hx := hx) (hy := hy) hcy)
      have hw1 := u64_add cy (xs.getD k 0) (by omega)
      have hw2 := u64_add cy (ys.getD k 0) (by omega)
      have hw3 := u64_add3 cy (xs.getD k 0) (ys.getD k 0) (by omega)
      have hw4 := u32_of (cy + xs.getD k 0 + ys.getD k 0)
      have hx0 : ¬ k < xs.length → xs.getD k 0 = 0 := fun h => by rw [List.getD_eq_getElem?_getD, List.getElem?_eq_none (by omega)]; rfl
      have hy0 : ¬ k < ys.length → ys.getD k 0 = 0 := fun h => by rw [List.getD_eq_getElem?_getD, List.getElem?_eq_none (by omega)]; rfl
      by_cases hxk : k < xs.length
      · obtain ⟨b, off, rfl, hcell⟩ := (HR.out.below hb).at hxk
        by_cases hyk : k < ys.length
        · obtain ⟨b', off', rfl, hcell'⟩ := (HR'.out.below hb).at hyk
          clear hx0 hy0
          generalize xs.getD k 0 = x at *
          generalize ys.getD k 0 = y at *
          go_wp2
          refine ⟨⟨k + 1, (cy + x + y) / 4294967296, zs.set k ((cy + x + y) % 4294967296), hlt, by go_num, by go_num, HVN.out.1, hb.setCell (Nat.le_refl _) _, ?_, by rw [List.length_set]; exact HL.out, hdz.set _ HVN.out.2.1, HVN.out.2.2⟩, by simp [intOf]; omega⟩
          rw [show ((cy : Int) + x + y) % 4294967296 = (((cy + x + y) % 4294967296 : Nat) : Int) from by omega]
          exact hrow.set k _
        · exfalso; omega
      · have h0 := hx0 hxk
        rw [h0] at HVN
        by_cases hyk : k < ys.length
        · obtain ⟨b', off', rfl, hcell'⟩ := (HR'.out.below hb).at hyk
          clear hx0 hy0 h0 hw1 hw3 hw4
          generalize ys.getD k 0 = y at *
          go_wp2
          refine ⟨⟨k + 1, (cy + 0 + y) / 4294967296, zs.set k ((cy + 0 + y) % 4294967296), hlt, by go_num, by go_num, HVN.out.1, hb.setCell (Nat.le_refl _) _, ?_, by rw [List.length_set]; exact HL.out, hdz.set _ HVN.out.2.1, HVN.out.2.2⟩, by simp [intOf]; omega⟩
          rw [show ((cy : Int) + y) % 4294967296 = (((cy + 0 + y) % 4294967296 : Nat) : Int) from by omega]
          exact hrow.set k _
        · have h1 := hy0 hyk
          rw [h1] at HVN
          clear hx0 hy0 h0 h1 hw1 hw2 hw3 hw4
          go_wp2
          refine ⟨⟨k + 1, (cy + 0 + 0) / 4294967296, zs.set k ((cy + 0 + 0) % 4294967296), hlt, by go_num, by go_num, HVN.out.1, hb.setCell (Nat.le_refl _) _, ?_, by rw [List.length_set]; exact HL.out, hdz.set _ HVN.out.2.1, HVN.out.2.2⟩, by simp [intOf]; omega⟩
          rw [show (cy : Int) = (((cy + 0 + 0) % 4294967296 : Nat) : Int) from by omega]
          exact hrow.set k _
    · have hkk : k = ys.length + 1 := by omega
      subst hkk
      have HE : Hid (ofD B32 zs = ofD B32 xs + ofD B32 ys) := by
        show _ = _
        have h2 := HV.out
        rw [ofD_take_all zs (by rw [HL.out]; exact Nat.le_refl _), ofD_take_all xs (by omega), ofD_take_all ys (by omega)] at h2
        have h3 := ofD_lt HD.out
        have h4 := ofD_lt HD'.out
        have h5 : B32 ^ xs.length ≤ B32 ^ ys.length := Nat.pow_le_pow_right (by decide) (by omega)
        have h6 : B32 ^ ys.length ≤ B32 ^ ys.length := Nat.pow_le_pow_right (by decide) (by omega)
        rw [Nat.pow_succ, Nat.mul_comm _ B32] at h2
        have h8 : 2 * B32 ^ ys.length ≤ B32 * B32 ^ ys.length := Nat.mul_le_mul_right _ (by decide)
        have : cy = 0 ∨ cy = 1 := by omega
        rcases this with rfl | rfl <;> omega
      have HT := Lib.hid (trim32_sl (.slice (some ⟨w.heap.size, 0, none⟩) (ys.length + 1) (ys.length + 1)) _ wr hdz ⟨_, _, by rw [HL.out], by rw [HL.out]; exact Nat.le_refl _, hrow.rd (by have := HL.out; omega), nofun, hrow.ty⟩)
      have HB2 := Lib.hid hb
      go_wp2_with fail
      refine HT.out.mono ?_
      rintro e w' ⟨rfl, v, rfl, hbv, hsl⟩
      go_wp2
      go_ret
      refine ⟨v, rfl, HB2.out, ?_⟩
      rw [← HE.out]
      exact hsl
theorem add32_loop (A A' : Option Addr) (cap cap' : Nat) (xs ys : List Nat) (w : World) (hgt : ys.length ≤ xs.length) (hs : xs.length < 1099511627776) (hr : Rd w .u32 A xs) (hr' : Rd w .u32 A' ys) (hd : Digs B32 xs) (hd' : Digs B32 ys) :
    Calls Tryz.prog 41 #[.slice A xs.length cap, .slice A' ys.length cap'] w (RetT w .u32 180 (wd (ofD B32 xs + ofD B32 ys))) := by
  have HR := Lib.hid hr
  have HR' := Lib.hid hr'
  have HD := Lib.hid hd
  have HD' := Lib.hid hd'
  clear hr hr' hd hd'
  have hmk := mk32 (((xs.length : Nat) : Int) + 1) (xs.length + 1) (by omega) (by omega)
  go_enter Tryz.func41, Tryz.ntmps41
  go_wp2
  go_loopw [7, 8, 9] (fun c i _ wr => ∃ (k cy : Nat) (zs : List Nat), k ≤ xs.length + 1 ∧ i = .int .i64 k ∧ c = .int .u64 cy ∧ cy ≤ 1 ∧ Below w.heap.size w wr ∧ Row wr w.heap.size .u32 180 zs ∧ zs.length = xs.length + 1 ∧ Digs B32 zs ∧ ofD B32 (zs.take k) + B32 ^ k * cy = ofD B32 (xs.take k) + ofD B32 (ys.take k)) (fun _ i _ _ => xs.length + 1 - (intOf i).toNat)
  case atStart => exact ⟨0, 0, List.replicate (xs.length + 1) 0, Nat.zero_le _, rfl, rfl, by omega, (Below.refl _ _).alloc (Nat.le_refl _) _, Row.alloc rfl, by simp, Digs.replicate (by decide) _, by simp [ofD]⟩
  case round =>
    obtain ⟨k, cy, zs, hk, rfl, rfl, hcy, hb, hrow, hzl, hdz, hval⟩ := hrel
    have HL := Lib.hid hzl
    have HV := Lib.hid hval
    clear hzl hval
    by_cases hlt : k < xs.length + 1
    · have hx := HD.out.getD (by decide) k
      have hy := HD'.out.getD (by decide) k
      rw [B32_eq] at hx hy
      have hzk : k < zs.length := by have := HL.out; omega
      have hc2 := hrow.cell hzk
      have hf2 := hrow.frozen k
      have HVN := Lib.hid (add_digit (hs := hzk) HV.out (hx := hx) (hy := hy) hcy)
      have hw1 := u64_add cy (xs.getD k 0) (by omega)
      have hw2 := u64_add cy (ys.getD k 0) (by omega)
      have hw3 := u64_add3 cy (xs.getD k 0) (ys.getD k 0) (by omega)
      have hw4 := u32_of (cy + xs.getD k 0 + ys.getD k 0)
      have hx0 : ¬ k < xs.length → xs.getD k 0 = 0 := fun h => by rw [List.getD_eq_getElem?_getD, List.getElem?_eq_none (by omega)]; rfl
      have hy0 : ¬ k < ys.length → ys.getD k 0 = 0 := fun h => by rw [List.getD_eq_getElem?_getD, List.getElem?_eq_none (by omega)]; rfl
      by_cases hxk : k < xs.length
      · obtain ⟨b, off, rfl, hcell⟩ := (HR.out.below hb).at hxk
        by_cases hyk : k < ys.length
        · obtain ⟨b', off', rfl, hcell'⟩ := (HR'.out.below hb).at hyk
          clear hx0 hy0
          generalize xs.getD k 0 = x at *
          generalize ys.getD k 0 = y at *
          go_wp2
          refine ⟨⟨k + 1, (cy + x + y) / 4294967296, zs.set k ((cy + x + y) % 4294967296), hlt, by go_num, by go_num, HVN.out.1, hb.setCell (Nat.le_refl _) _, ?_, by rw [List.length_set]; exact HL.out, hdz.set _ HVN.out.2.1, HVN.out.2.2⟩, by simp [intOf]; omega⟩
          rw [show ((cy : Int) + x + y) % 4294967296 = (((cy + x + y) % 4294967296 : Nat) : Int) from by omega]
          exact hrow.set k _
        · have h0 := hy0 hyk
          rw [h0] at HVN
          clear hx0 hy0 h0 hw2 hw3 hw4
          generalize xs.getD k 0 = x at *
          go_wp2
          refine ⟨⟨k + 1, (cy + x + 0) / 4294967296, zs.set k ((cy + x + 0) % 4294967296), hlt, by go_num, by go_num, HVN.out.1, hb.setCell (Nat.le_refl _) _, ?_, by rw [List.length_set]; exact HL.out, hdz.set _ HVN.out.2.1, HVN.out.2.2⟩, by simp [intOf]; omega⟩
          rw [show ((cy : Int) + x) % 4294967296 = (((cy + x + 0) % 4294967296 : Nat) : Int) from by omega]
          exact hrow.set k _
      · have h0 := hx0 hxk
        rw [h0] at HVN
        by_cases hyk : k < ys.length
        · exfalso; omega
        · have h1 := hy0 hyk
          rw [h1] at HVN
          clear hx0 hy0 h0 h1 hw1 hw2 hw3 hw4
          go_wp2
          refine ⟨⟨k + 1, (cy + 0 + 0) / 4294967296, zs.set k ((cy + 0 + 0) % 4294967296), hlt, by go_num, by go_num, HVN.out.1, hb.setCell (Nat.le_refl _) _, ?_, by rw [List.length_set]; exact HL.out, hdz.set _ HVN.out.2.1, HVN.out.2.2⟩, by simp [intOf]; omega⟩
          rw [show (cy : Int) = (((cy + 0 + 0) % 4294967296 : Nat) : Int) from by omega]
          exact hrow.set k _
    · have hkk : k = xs.length + 1 := by omega
      subst hkk
      have HE : Hid (ofD B32 zs = ofD B32 xs + ofD B32 ys) := by
        show _ = _
        have h2 := HV.out
        rw [ofD_take_all zs (by rw [HL.out]; exact Nat.le_refl _), ofD_take_all xs (by omega), ofD_take_all ys (by omega)] at h2
        have h3 := ofD_lt HD.out
        have h4 := ofD_lt HD'.out
        have h5 : B32 ^ xs.length ≤ B32 ^ xs.length := Nat.pow_le_pow_right (by decide) (by omega)
        have h6 : B32 ^ ys.length ≤ B32 ^ xs.length := Nat.pow_le_pow_right (by decide) (by omega)
        rw [Nat.pow_succ, Nat.mul_comm _ B32] at h2
        have h8 : 2 * B32 ^ xs.length ≤ B32 * B32 ^ xs.length := Nat.mul_le_mul_right _ (by decide)
        have : cy = 0 ∨ cy = 1 := by omega
        rcases this with rfl | rfl <;> omega
      have HT := Lib.hid (trim32_sl (.slice (some ⟨w.heap.size, 0, none⟩) (xs.length + 1) (xs.length + 1)) _ wr hdz ⟨_, _, by rw [HL.out], by rw [HL.out]; exact Nat.le_refl _, hrow.rd (by have := HL.out; omega), nofun, hrow.ty⟩)
      have HB2 := Lib.hid hb
      go_wp2_with fail
      refine HT.out.mono ?_
      rintro e w' ⟨rfl, v, rfl, hbv, hsl⟩
      go_wp2
      go_ret
      refine ⟨v, rfl, HB2.out, ?_⟩
      rw [← HE.out]
      exact hsl
theorem add32 (A A' : Option Addr) (cap cap' : Nat) (xs ys : List Nat) (w : World) (hs : xs.length < 1099511627776) (hs' : ys.length < 1099511627776) (hr : Rd w .u32 A xs) (hr' : Rd w .u32 A' ys) (hd : Digs B32 xs) (hd' : Digs B32 ys) :
    Calls Tryz.prog 41 #[.slice A xs.length cap, .slice A' ys.length cap'] w (RetT w .u32 180 (wd (ofD B32 xs + ofD B32 ys))) := by
  by_cases h : xs.length < ys.length
  · exact add32_swap A A' cap cap' xs ys w h hs' hr hr' hd hd'
  · exact add32_loop A A' cap cap' xs ys w (by omega) hs hr hr' hd hd'
theorem sub_digit {us vs zs : List Nat} {k cy x y d c : Nat} (hs : k < zs.length) (e : ofD B32 (us.take k) + B32 ^ k * cy = ofD B32 (zs.take k) + ofD B32 (vs.take k)) (hx : us.getD k 0 = x) (hy : vs.getD k 0 = y) (he : x + B32 * c = d + (cy + y)) :
    ofD B32 (us.take (k + 1)) + B32 ^ (k + 1) * c = ofD B32 ((zs.set k d).take (k + 1)) + ofD B32 (vs.take (k + 1)) := by
  rw [ofD_take_set hs, ofD_take_getD us, ofD_take_getD vs, hx, hy, Nat.pow_succ, Nat.mul_assoc]
  have h2 := congrArg (B32 ^ k * ·) he
  simp only [Nat.mul_add] at h2
  omega

/-- quarryref02.Sub. -/
theorem sub32 (A A' : Option Addr) (cap cap' : Nat) (us vs : List Nat) (w : World) (hlen : vs.length ≤ us.length) (hle : ofD B32 vs ≤ ofD B32 us) (hr : Rd w .u32 A us) (hr' : Rd w .u32 A' vs) (hd : Digs B32 us) (hd' : Digs B32 vs) :
    Calls Tryz.prog 62 #[.slice A us.length cap, .slice A' vs.length cap'] w (RetT w .u32 180 (wd (ofD B32 us - ofD B32 vs))) := by
  have hl := hr.1
  have HR := Lib.hid hr
  have HR' := Lib.hid hr'
  have HD := Lib.hid hd
  have HD' := Lib.hid hd'
  have HLE := Lib.hid hle
  clear hr hr' hd hd' hle
  have hmk := mk32 ((us.length : Nat) : Int) us.length rfl (by omega)
  go_enter Tryz.func62, Tryz.ntmps62
  go_wp2
  go_loopw [6, 7, 8, 9] (fun c i _ _ wr => ∃ (k cy : Nat) (zs : List Nat), k ≤ us.length ∧ i = .int .i64 k ∧ c = .int .u64 cy ∧ cy ≤ 1 ∧ Below w.heap.size w wr ∧ Row wr w.heap.size .u32 180 zs ∧ zs.length = us.length ∧ Digs B32 zs ∧ ofD B32 (us.take k) + B32 ^ k * cy = ofD B32 (zs.take k) + ofD B32 (vs.take k)) (fun _ i _ _ _ => us.length - (intOf i).toNat)
  case atStart => exact ⟨0, 0, List.replicate us.length 0, Nat.zero_le _, rfl, rfl, by omega, (Below.refl _ _).alloc (Nat.le_refl _) _, Row.alloc rfl, by simp, Digs.replicate (by decide) _, by simp [ofD]⟩
  case round =>
    obtain ⟨k, cy, zs, hk, rfl, rfl, hcy, hb, hrow, hzl, hdz, hval⟩ := hrel
    have HL := Lib.hid hzl
    have HV := Lib.hid hval
    clear hzl hval
    by_cases hlt : k < us.length
    · obtain ⟨b, off, rfl, hcell⟩ := (HR.out.below hb).at hlt
      have hx := HD.out.getD (by decide) k
      have hy := HD'.out.getD (by decide) k
      rw [B32_eq] at hx hy
      have hzk : k < zs.length := by have := HL.out; omega
      have hc2 := hrow.cell hzk
      have hf2 := hrow.frozen k
      obtain ⟨x, hxg⟩ : ∃ x, us.getD k 0 = x := ⟨_, rfl⟩
      have HXG := Lib.hid hxg
      rw [hxg] at hcell hx
      clear hxg
      by_cases hyk : k < vs.length
      · obtain ⟨b', off', rfl, hcell'⟩ := (HR'.out.below hb).at hyk
        obtain ⟨y, hyg⟩ : ∃ y, vs.getD k 0 = y := ⟨_, rfl⟩
        have HYG := Lib.hid hyg
        rw [hyg] at hcell' hy
        clear hyg
        by_cases hxs : x < cy + y
        · have hw2 := u64_add cy y (by omega)
          have hxi : (x : Int) < (cy : Int) + (y : Int) := by omega
          go_wp2
          refine ⟨⟨k + 1, 1, zs.set k (x + 4294967296 * 1 - (cy + y)), hlt, by go_num, rfl, by omega, hb.setCell (Nat.le_refl _) _, ?_, by rw [List.length_set]; exact HL.out, hdz.set _ (by rw [B32_eq]; omega), sub_digit hzk HV.out HXG.out HYG.out (by rw [B32_eq]; omega)⟩, by simp [intOf]; omega⟩
          rw [show (x : Int) + 4294967296 - (cy + y) = (((x + 4294967296 * 1 - (cy + y)) : Nat) : Int) from by omega]
          exact hrow.set k _
        · have hw2 := u64_add cy y (by omega)
          have hxi : ¬ (x : Int) < (cy : Int) + (y : Int) := by omega
          go_wp2
          refine ⟨⟨k + 1, 0, zs.set k (x + 4294967296 * 0 - (cy + y)), hlt, by go_num, rfl, by omega, hb.setCell (Nat.le_refl _) _, ?_, by rw [List.length_set]; exact HL.out, hdz.set _ (by rw [B32_eq]; omega), sub_digit hzk HV.out HXG.out HYG.out (by rw [B32_eq]; omega)⟩, by simp [intOf]; omega⟩
          rw [show (x : Int) - (cy + y) = (((x + 4294967296 * 0 - (cy + y)) : Nat) : Int) from by omega]
          exact hrow.set k _
      · have HYG : Hid (vs.getD k 0 = 0) := by
          show _ = _
          rw [List.getD_eq_getElem?_getD, List.getElem?_eq_none (by omega)]; rfl
        clear hy
        by_cases hxs : x < cy
        · have hxi : (x : Int) < (cy : Int) := by omega
          go_wp2
          refine ⟨⟨k + 1, 1, zs.set k (x + 4294967296 * 1 - (cy + 0)), hlt, by go_num, rfl, by omega, hb.setCell (Nat.le_refl _) _, ?_, by rw [List.length_set]; exact HL.out, hdz.set _ (by rw [B32_eq]; omega), sub_digit hzk HV.out HXG.out HYG.out (by rw [B32_eq]; omega)⟩, by simp [intOf]; omega⟩
          rw [show (x : Int) + 4294967296 - cy = (((x + 4294967296 * 1 - (cy + 0)) : Nat) : Int) from by omega]
          exact hrow.set k _
        · have hxi : ¬ (x : Int) < (cy : Int) := by omega
          go_wp2
          refine ⟨⟨k + 1, 0, zs.set k (x + 4294967296 * 0 - (cy + 0)), hlt, by go_num, rfl, by omega, hb.setCell (Nat.le_refl _) _, ?_, by rw [List.length_set]; exact HL.out, hdz.set _ (by rw [B32_eq]; omega), sub_digit hzk HV.out HXG.out HYG.out (by rw [B32_eq]; omega)⟩, by simp [intOf]; omega⟩
          rw [show (x : Int) - cy = (((x + 4294967296 * 0 - (cy + 0)) : Nat) : Int) from by omega]
          exact hrow.set k _
    · have hkk : k = us.length := by omega
      subst hkk
      have HE : Hid (ofD B32 zs = ofD B32 us - ofD B32 vs) := by
        show _ = _
        have h2 := HV.out
        rw [List.take_length, ofD_take_all vs hlen, ofD_take_all zs (by rw [HL.out]; exact Nat.le_refl _)] at h2
        have h3 := ofD_lt hdz
        rw [HL.out] at h3
        have h4 := HLE.out
        have : cy = 0 ∨ cy = 1 := by omega
        rcases this with rfl | rfl <;> omega
      have HT2 := Lib.hid (trim32_sl (.slice (some ⟨w.heap.size, 0, none⟩) us.length us.length) _ wr hdz ⟨_, _, by rw [HL.out], by rw [HL.out]; exact Nat.le_refl _, hrow.rd (by have := HL.out; omega), nofun, hrow.ty⟩)
      have HB2 := Lib.hid hb
      go_wp2_with fail
      refine HT2.out.mono ?_
      rintro e w' ⟨rfl, v, rfl, hbv, hsl⟩
      go_wp2
      go_ret
      refine ⟨v, rfl, HB2.out, ?_⟩
      rw [← HE.out]
      exact hsl
end Go.Proofs.YtjokcbjahidckaaGreat
/-! quarryref02.Cmp, Of: numbers are compared; small numbers. Conditions: slices read as digits of 32 bits without zeros at the end. -/
namespace Go.Proofs.YtjokcbjahidckaaGreat
open Go.RowKit

theorem cmp_top32 {xs ys : List Nat} (hx : Digs B32 xs) (hy : Digs B32 ys) {k : Nat} (h : k < xs.length) (h' : k < ys.length) (hd : xs.drop (k + 1) = ys.drop (k + 1)) :
    (xs.getD k 0 < ys.getD k 0 → ofD B32 xs < ofD B32 ys) ∧ (ys.getD k 0 < xs.getD k 0 → ofD B32 ys < ofD B32 xs) :=
  ⟨fun l => lt_top (B := B32) hx h h' hd l, fun l => lt_top (B := B32) hy h' h hd.symm l⟩
theorem wd_len_lt {a b : Nat} (h : (wd a).length < (wd b).length) : a < b := by
  unfold wd at h
  have h1 := lt_pow_dig B32_pos a
  have h2 := ofD_ge (B := B32) (xs := dig B32 b) (by decide) (by omega) (dig_last (by omega))
  rw [ofD_dig B32_pos] at h2
  have h3 : B32 ^ (dig B32 a).length ≤ B32 ^ ((dig B32 b).length - 1) := Nat.pow_le_pow_right (by decide) (by omega)
  omega
theorem ofD_wd (a : Nat) : ofD B32 (wd a) = a := ofD_dig B32_pos a
theorem Digs.wd (a : Nat) : Digs B32 (wd a) := Digs.dig (by decide) a
theorem cmpI_ltw {a b : Nat} (h : a < b) : cmpI a b = -1 := by unfold cmpI; rw [if_pos h]
theorem cmpI_gt {a b : Nat} (h : b < a) : cmpI a b = 1 := by unfold cmpI; rw [if_neg (by omega), if_neg (by omega)]

theorem cmp32 (A A' : Option Addr) (cap cap' : Nat) (x y : Nat) (w : World) (hr : Rd w .u32 A (wd x)) (hr' : Rd w .u32 A' (wd y)) :
    Calls Tryz.prog 76 #[.slice A (wd x).length cap, .slice A' (wd y).length cap'] w (Ret w (.int .i64 (cmpI x y))) := by
  have hl := hr.1
  have hl' := hr'.1
  have HX := Lib.hid hr
  have HX' := Lib.hid hr'
  have HD := Lib.hid (Digs.wd x)
  have HD' := Lib.hid (Digs.wd y)
  have HV := Lib.hid (ofD_wd x)
  have HV' := Lib.hid (ofD_wd y)
  have HL1 := Lib.hid (wd_len_lt (a := x) (b := y))
  have HL2 := Lib.hid (wd_len_lt (a := y) (b := x))
  clear hr hr'
  generalize wd x = us at *
  generalize wd y = vs at *
  by_cases hlen : us.length = vs.length
  · have hb : (((us.length : Nat) : Int) != ((vs.length : Nat) : Int)) = false := by simp [hlen]
    have HLE := Lib.hid hlen
    clear hlen
    go_enter Tryz.func76, Tryz.ntmps76
    go_wp2
    go_loopw [5] (fun i wr => ∃ k : Nat, k ≤ us.length ∧ i = .int .i64 ((k : Int) - 1) ∧ Below w.heap.size w wr ∧ us.drop k = vs.drop k) (fun i _ => (intOf i + 1).toNat)
    case atStart => exact ⟨us.length, Nat.le_refl _, rfl, Below.refl _ _, by rw [List.drop_length, HLE.out, List.drop_length]⟩
    case round =>
      obtain ⟨k, hk, rfl, hb, hdr⟩ := hrel
      have HDR := Lib.hid hdr
      clear hdr
      rcases k with _ | k
      · have e : us = vs := by simpa using HDR.out
        go_wp2
        go_ret
        refine ⟨?_, hb⟩
        rw [← HV.out, ← HV'.out, e, cmpI_eq]
        rfl
      · have hkv : k < vs.length := by have := HLE.out; omega
        obtain ⟨b, off, rfl, hcell⟩ := (HX.out.below hb).at (j := k) (by omega)
        obtain ⟨b', off', rfl, hcell'⟩ := (HX'.out.below hb).at (j := k) hkv
        have HGE := Lib.hid (cmp_top32 HD.out HD'.out (by omega) hkv HDR.out)
        have HGN := Lib.hid (drop_same (xs := us) (ys := vs) (by omega) hkv HDR.out)
        rw [HV.out, HV'.out] at HGE
        by_cases hlt : us.getD k 0 < vs.getD k 0
        · have HQ := Lib.hid (HGE.out.1 hlt)
          clear HGE HGN
          generalize us.getD k 0 = x at *
          generalize vs.getD k 0 = y at *
          have hc : ((x : Nat) : Int) < ((y : Nat) : Int) := by omega
          clear hlt
          go_wp2
          go_quiet (fail)
          go_wp2
          go_ret
          exact ⟨by rw [cmpI_ltw HQ.out]; rfl, Below.drewN' hb _⟩
        · by_cases hgt : vs.getD k 0 < us.getD k 0
          · have HQ := Lib.hid (HGE.out.2 hgt)
            clear HGE HGN
            generalize us.getD k 0 = x at *
            generalize vs.getD k 0 = y at *
            have hc : ¬ ((x : Nat) : Int) < ((y : Nat) : Int) := by omega
            have hc2 : ((y : Nat) : Int) < ((x : Nat) : Int) := by omega
            clear hlt hgt
            go_wp2
            go_quiet (fail)
            go_wp2
            go_quiet (fail)
            go_wp2
            go_ret
            exact ⟨by rw [cmpI_gt HQ.out]; rfl, Below.drewN' (Below.drewN' hb _) _⟩
          · have HQ := Lib.hid (HGN.out (by omega))
            clear HGE HGN
            have he : us.getD k 0 = vs.getD k 0 := by omega
            rw [he] at hcell
            generalize vs.getD k 0 = y at *
            clear hlt hgt he
            go_wp2
            go_quiet (fail)
            go_wp2
            go_quiet (fail)
            go_wp2
            go_roundw
            case rel => exact ⟨k, by omega, by go_num, Below.drewN' hb _, HQ.out⟩
            case measure => simp [intOf]
  · have hb : (((us.length : Nat) : Int) != ((vs.length : Nat) : Int)) = true := by rw [bne_iff_ne]; omega
    rcases Nat.lt_or_ge us.length vs.length with h | h
    · have HQ := Lib.hid (HL1.out h)
      go_enter Tryz.func76, Tryz.ntmps76
      go_wp2
      go_ret
      exact ⟨by rw [cmpI_ltw HQ.out]; rfl, Below.refl _ _⟩
    · have HQ := Lib.hid (HL2.out (by omega))
      have h2 : ¬ us.length < vs.length := by omega
      go_enter Tryz.func76, Tryz.ntmps76
      go_wp2
      go_ret
      exact ⟨by rw [cmpI_gt HQ.out]; rfl, Below.refl _ _⟩
end Go.Proofs.YtjokcbjahidckaaGreat
/-! quarryref02.Mul: products. Conditions: slices read as digits of 32 bits. -/
namespace Go.Proofs.YtjokcbjahidckaaGreat
open Go.RowKit

theorem Rd.cell_at {w : World} {k : IntKind} {b off : Nat} {xs : List Nat} (h : Rd w k (some ⟨b, off, none⟩) xs) {j : Nat} (hj : j < xs.length) : w.cell? ⟨b, off + j, none⟩ = some (.int k (xs.getD j 0 : Nat)) := by
  obtain ⟨b', off', e, hx⟩ := h.at hj
  cases e
  exact hx
theorem mul32_step {U U' Z k j cy x Y Y' y a s c : Nat} (e0 : U + B32 ^ (k + j) * cy = Z + B32 ^ k * (x * Y)) (es : U' + B32 ^ (k + j) * a = U + B32 ^ (k + j) * s)
    (ey : Y' = Y + B32 ^ j * y) (e1 : x * y + a + cy = s + B32 * c) : U' + B32 ^ (k + (j + 1)) * c = Z + B32 ^ k * (x * Y') := by
  subst ey
  have p1 : B32 ^ (k + (j + 1)) = B32 ^ (k + j) * B32 := by rw [← Nat.add_assoc, Nat.pow_succ]
  have p2 : B32 ^ k * (x * (Y + B32 ^ j * y)) = B32 ^ k * (x * Y) + B32 ^ (k + j) * (x * y) := by rw [Nat.pow_add]; simp only [Nat.mul_add, Nat.mul_assoc, Nat.mul_left_comm]
  rw [p1, p2]
  generalize B32 ^ (k + j) = P at *
  generalize B32 ^ k * (x * Y) = Q at *
  generalize x * y = m at *
  have t : P * (m + a + cy) = P * (s + B32 * c) := by rw [e1]
  simp only [Nat.mul_add, Nat.mul_assoc] at *
  omega

/-- quarryref02.Mul. -/
theorem mul32 (A A' : Option Addr) (cap cap' : Nat) (xs ys : List Nat) (w : World) (hs : xs.length + ys.length < 1099511627776) (hr : Rd w .u32 A xs) (hr' : Rd w .u32 A' ys) (hd : Digs B32 xs) (hd' : Digs B32 ys) :
    Calls Tryz.prog 61 #[.slice A xs.length cap, .slice A' ys.length cap'] w (RetT w .u32 180 (wd (ofD B32 xs * ofD B32 ys))) := by
  have HR := Lib.hid hr
  have HR' := Lib.hid hr'
  have HD := Lib.hid hd
  have HD' := Lib.hid hd'
  clear hr hr' hd hd'
  have hmk := mk32 (((xs.length : Nat) : Int) + ((ys.length : Nat) : Int)) (xs.length + ys.length) (by omega) (by omega)
  go_enter Tryz.func61, Tryz.ntmps61
  go_wp2
  go_loopw [6, 7, 8, 9] (fun i _ _ _ wr => ∃ (k : Nat) (zs : List Nat), k ≤ xs.length ∧ i = .int .i64 k ∧ Below w.heap.size w wr ∧ Row wr w.heap.size .u32 180 zs ∧ zs.length = xs.length + ys.length ∧ Digs B32 zs ∧ ofD B32 zs = ofD B32 (xs.take k) * ofD B32 ys ∧ ∀ j, k + ys.length ≤ j → zs.getD j 0 = 0) (fun i _ _ _ _ => xs.length - (intOf i).toNat)
  case atStart => exact ⟨0, List.replicate (xs.length + ys.length) 0, Nat.zero_le _, rfl, (Below.refl _ _).alloc (Nat.le_refl _) _, Row.alloc rfl, by simp, Digs.replicate (by decide) _, by rw [ofD_replicate]; simp [ofD], fun j _ => by rw [List.getD_eq_getElem?_getD, List.getElem?_replicate]; split <;> rfl⟩
  case round =>
    obtain ⟨k, zs, hk, rfl, hb, hrow, hzl, hdz, hval, hz0⟩ := hrel
    have HL := Lib.hid hzl
    have HV := Lib.hid hval
    have HZ := Lib.hid hz0
    have HROW := Lib.hid hrow
    have HDZ := Lib.hid hdz
    clear hzl hval hz0 hrow hdz
    by_cases hlt : k < xs.length
    · obtain ⟨b, off, rfl, hcell⟩ := (HR.out.below hb).at hlt
      have hx := HD.out.getD (by decide) k
      rw [B32_eq] at hx
      have HCX := Lib.hid (fun (w1 : World) (h : Below w.heap.size w w1) => (HR.out.below h).cell_at hlt)
      have HXK := Lib.hid (ofD_take_getD (B := B32) xs k)
      generalize xs.getD k 0 = x at *
      obtain ⟨wo, rfl⟩ : ∃ wo : World, wo = wr := ⟨_, rfl⟩
      go_wp2
      go_loopw [7, 8, 9] (fun c i _ wr => ∃ (j cy : Nat) (us : List Nat), j ≤ ys.length ∧ i = .int .i64 j ∧ c = .int .u64 cy ∧ cy < 4294967296 ∧ Below w.heap.size w wr ∧ Row wr w.heap.size .u32 180 us ∧ us.length = xs.length + ys.length ∧ Digs B32 us ∧ ofD B32 us + B32 ^ (k + j) * cy = ofD B32 zs + B32 ^ k * (x * ofD B32 (ys.take j)) ∧ ∀ p, k + ys.length ≤ p → us.getD p 0 = 0) (fun _ i _ _ => ys.length - (intOf i).toNat)
      case atStart => exact ⟨0, 0, zs, Nat.zero_le _, rfl, rfl, by omega, hb, HROW.out, HL.out, HDZ.out, by simp [ofD], HZ.out⟩
      case round =>
        obtain ⟨j, cy, us, hj, rfl, rfl, hcy, hbi, hrowi, hul, hdu, huval, hu0⟩ := hrel
        have HUL := Lib.hid hul
        have HUV := Lib.hid huval
        have HU0 := Lib.hid hu0
        clear hul huval hu0
        by_cases hjt : j < ys.length
        · obtain ⟨b', off', rfl, hcell'⟩ := (HR'.out.below hbi).at hjt
          have hy := HD'.out.getD (by decide) j
          rw [B32_eq] at hy
          have HYK := Lib.hid (ofD_take_getD (B := B32) ys j)
          have hcx := HCX.out _ hbi
          have hkj : k + j < us.length := by have := HUL.out; omega
          have hc2 := hrowi.cell hkj
          have hf2 := hrowi.frozen (k + j)
          have ha := hdu.getD (by decide) (k + j)
          rw [B32_eq] at ha
          have HSET := fun v => Lib.hid (ofD_set (B := B32) (xs := us) (i := k + j) (v := v) hkj)
          generalize ys.getD j 0 = y at *
          generalize us.getD (k + j) 0 = a at *
          have hmx : x * y ≤ 4294967295 * 4294967295 := Nat.mul_le_mul (by omega) (by omega)
          obtain ⟨m, hm⟩ : ∃ m, m = x * y := ⟨_, rfl⟩
          have hw1 : IntKind.u64.wrap ((x : Int) * (y : Int)) = (m : Int) := by rw [hm, IntKind.wrap_u64]; rw [← Int.natCast_mul]; omega
          rw [← hm] at hmx
          have hcn : (m + a + cy) / 4294967296 < 4294967296 := by omega
          have HN : Hid (ofD B32 (us.set (k + j) ((m + a + cy) % 4294967296)) + B32 ^ (k + (j + 1)) * ((m + a + cy) / 4294967296) = ofD B32 zs + B32 ^ k * (x * ofD B32 (ys.take (j + 1)))) :=
            mul32_step HUV.out (HSET _).out HYK.out (by rw [← hm, B32_eq]; omega)
          clear HSET hm
          go_wp2
          go_quiet (fail)
          go_wp2
          go_roundw
          case rel =>
            refine ⟨j + 1, (m + a + cy) / 4294967296, us.set (k + j) ((m + a + cy) % 4294967296), hjt, by go_num, by go_num, hcn, (Below.drewN' hbi _).setCell (Nat.le_refl _) _, ?_, by rw [List.length_set]; exact HUL.out, hdu.set _ (by rw [B32_eq]; omega), HN.out, fun p hp => by
              rw [List.getD_eq_getElem?_getD, List.getElem?_set_ne (by omega), ← List.getD_eq_getElem?_getD]; exact HU0.out p hp⟩
            rw [show ((m : Int) + a + cy) % 4294967296 = (((m + a + cy) % 4294967296 : Nat) : Int) from by omega]
            exact Row.set (w := World.drewN _ _) hrowi _ _
          case measure => simp [intOf]; omega
        · have hjj : j = ys.length := by omega
          subst hjj
          have hkj : k + ys.length < us.length := by have := HUL.out; omega
          have hc2 := hrowi.cell hkj
          have hf2 := hrowi.frozen (k + ys.length)
          have h00 := HU0.out (k + ys.length) (Nat.le_refl _)
          have HN : Hid (ofD B32 (us.set (k + ys.length) cy) = ofD B32 (xs.take (k + 1)) * ofD B32 ys) := by
            show _ = _
            have h1 := ofD_set (B := B32) (xs := us) (i := k + ys.length) (v := cy) hkj
            rw [h00] at h1
            have h2 := HUV.out
            rw [List.take_length, HV.out] at h2
            rw [HXK.out, Nat.add_mul, Nat.mul_assoc]
            omega
          clear h00
          go_wp2
          go_roundw
          case rel => exact ⟨k + 1, us.set (k + ys.length) cy, hlt, by go_num, hbi.setCell (Nat.le_refl _) _, hrowi.set _ cy, by rw [List.length_set]; exact HUL.out, hdu.set _ (by rw [B32_eq]; exact hcy), HN.out, fun p hp => by
            rw [List.getD_eq_getElem?_getD, List.getElem?_set_ne (by omega), ← List.getD_eq_getElem?_getD]; exact HU0.out p (by omega)⟩
          case measure => simp [intOf]; omega
    · have hkk : k = xs.length := by omega
      subst hkk
      have HT2 := Lib.hid (trim32_sl (.slice (some ⟨w.heap.size, 0, none⟩) (xs.length + ys.length) (xs.length + ys.length)) _ wr HDZ.out ⟨_, _, by rw [HL.out], by rw [HL.out]; exact Nat.le_refl _, HROW.out.rd (by have := HL.out; omega), nofun, HROW.out.ty⟩)
      have HB2 := Lib.hid hb
      go_wp2_with fail
      refine HT2.out.mono ?_
      rintro e w' ⟨rfl, v, rfl, hbv, hsl⟩
      go_wp2
      go_ret
      refine ⟨v, rfl, HB2.out, ?_⟩
      have := HV.out
      rw [List.take_length] at this
      rw [← this]
      exact hsl
end Go.Proofs.YtjokcbjahidckaaGreat
/-! quarryref02.Bit, Len: bits. Conditions: slices read as digits of 32 bits. -/
namespace Go.Proofs.YtjokcbjahidckaaGreat
open Go.RowKit

theorem bit_digit32 {xs : List Nat} (hd : Digs B32 xs) {i : Nat} (hi : i / 32 < xs.length) : ofD B32 xs / 2 ^ i % 2 = xs.getD (i / 32) 0 / 2 ^ (i % 32) % 2 := by
  rw [getD_ofD (by decide) hd hi, B32_2, ← Nat.pow_mul]
  generalize ofD (2 ^ 32) xs = n
  have e : i = 32 * (i / 32) + i % 32 := by omega
  have h32 : i % 32 < 32 := Nat.mod_lt _ (by decide)
  generalize i % 32 = r at *
  generalize i / 32 = q at *
  subst e
  rw [Nat.pow_add, ← Nat.div_div_eq_div_mul]
  generalize n / 2 ^ (32 * q) = m
  obtain ⟨t, ht⟩ : ∃ t, 32 = r + 1 + t := ⟨32 - (r + 1), by omega⟩
  rw [ht, Nat.pow_add 2 (r + 1) t, Nat.pow_succ, Nat.mul_assoc, Nat.mod_mul_right_div_self, Nat.mod_mul_right_mod]

/-- Two numbers whose upper digits are the same are compared by the next one. -/
theorem shr_and32 (v r : Nat) (hv : v < 4294967296) (_hr : r < 32) : bits .and .u32 ((v : Int) / 2 ^ r) 1 = ((v / 2 ^ r % 2 : Nat) : Int) := by
  have e : (v : Int) / 2 ^ r = ((v / 2 ^ r : Nat) : Int) := by rw [Int.natCast_ediv, Int.natCast_pow]; rfl
  have h : v / 2 ^ r < 4294967296 := Nat.lt_of_le_of_lt (Nat.div_le_self _ _) hv
  rw [e]
  have := u32_and_nat (v / 2 ^ r) 1 h (by decide)
  rw [nat_mask1] at this
  exact this

theorem bit32 (A : Option Addr) (cap : Nat) (xs : List Nat) (i : Nat) (hi : i < 9223372036854775807) (w : World) (hr : Rd w .u32 A xs) (hd : Digs B32 xs) :
    Calls Tryz.prog 113 #[.slice A xs.length cap, .int .i64 (i : Nat)] w fun e w' => e = .returned (.int .u32 ((ofD B32 xs / 2 ^ i % 2 : Nat) : Int)) ∧ w = w' := by
  have hl := hr.1
  by_cases hlt : i / 32 < xs.length
  · obtain ⟨b, off, rfl, hcell⟩ := hr.at (j := i / 32) hlt
    have hv := hd.getD (by decide) (i / 32)
    have HB := Lib.hid (bit_digit32 hd hlt)
    clear hr hd
    generalize hg : xs.getD (i / 32) 0 = v at *
    have HG := Lib.hid hg
    clear hg
    rw [B32_eq] at hv
    have HS := Lib.hid (shr_and32 v (i % 32) hv (by omega))
    go_enter Tryz.func113, Tryz.ntmps113
    go_wp2
    go_ret
    refine ⟨?_, rfl⟩
    rw [HB.out]
    exact congrArg (fun z : Int => Ending.returned (.int .u32 z)) HS.out
  · have hz : ofD B32 xs / 2 ^ i = 0 := by
      rw [Nat.div_eq_of_lt]
      refine Nat.lt_of_lt_of_le (ofD_lt hd) ?_
      rw [B32_2, ← Nat.pow_mul]
      exact Nat.pow_le_pow_right (by decide) (by omega)
    have HZ := Lib.hid hz
    clear hr hd hz
    go_enter Tryz.func113, Tryz.ntmps113
    go_wp2
    go_ret
    rw [HZ.out]
    exact ⟨rfl, rfl⟩

theorem len32 (A : Option Addr) (cap : Nat) (xs : List Nat) (w : World) (hr : Rd w .u32 A xs) (hd : Digs B32 xs) :
    Calls Tryz.prog 111 #[.slice A xs.length cap] w fun e w' => e = .returned (.int .i64 (bl (ofD B32 xs) : Nat)) ∧ w = w' := by
  have hl := hr.1
  have HB := fun i h => Lib.hid (bit32 A cap xs i h w hr hd)
  have HLT : Hid (ofD B32 xs < 2 ^ (32 * xs.length)) := by
    show _ < _
    have := ofD_lt hd
    rwa [B32_2, ← Nat.pow_mul] at this
  clear hr hd
  generalize ofD B32 xs = x at *
  go_enter Tryz.func111, Tryz.ntmps111
  go_wp2
  go_loop [3] (fun n => ∃ k : Nat, k ≤ 32 * xs.length ∧ n = .int .i64 k ∧ x < 2 ^ k) (fun n => (intOf n).toNat)
  case atStart => exact ⟨_, Nat.le_refl _, by go_num, HLT.out⟩
  case round =>
    obtain ⟨k, hk, rfl, hrel⟩ := hrel
    have HR := Lib.hid hrel
    clear hrel
    rcases k with _ | k
    · have hx : Hid (x = 0) := by show _ = _; have := HR.out; rw [Nat.pow_zero] at this; omega
      go_wp2
      go_ret
      exact ⟨by rw [hx.out]; rfl, rfl⟩
    · have HB1 := HB k (by omega)
      rcases Nat.mod_two_eq_zero_or_one (x / 2 ^ k) with h0 | h0
      · have HN : Hid (x < 2 ^ k) := by
          show _ < _
          have h1 : x / 2 ^ k < 2 := by
            rw [Nat.div_lt_iff_lt_mul (Nat.pow_pos (by decide))]
            have := HR.out
            rw [Nat.pow_succ] at this
            omega
          have h2 : x / 2 ^ k = 0 := by generalize x / 2 ^ k = y at h0 h1; omega
          exact (Nat.div_eq_zero_iff_lt (Nat.pow_pos (by decide))).1 h2
        rw [h0] at HB1
        clear h0
        go_wp2_with (go_at_call 113; refine HB1.out.mono ?_; rintro e w' ⟨rfl, rfl⟩)
        go_round
        case rel => exact ⟨k, by omega, by go_num, HN.out⟩
        case measure => simp [intOf]
      · have HN : Hid (bl x = k + 1) := by
          refine bl_uniq ?_ HR.out
          have h1 : x / 2 ^ k ≠ 0 := by omega
          rcases Nat.lt_or_ge x (2 ^ k) with h | h
          · exact absurd (Nat.div_eq_of_lt h) h1
          · exact h
        rw [h0] at HB1
        clear h0
        go_wp2_with (go_at_call 113; refine HB1.out.mono ?_; rintro e w' ⟨rfl, rfl⟩)
        go_ret
        exact ⟨by rw [HN.out]; rfl, rfl⟩
end Go.Proofs.YtjokcbjahidckaaGreat
/-! quarryref02.Of: small numbers. Condition: none. -/
namespace Go.Proofs.YtjokcbjahidckaaGreat
open Go.RowKit

theorem of32 (n : Nat) (hn : n < 18446744073709551616) (w : World) : Calls Tryz.prog 59 #[.int .u64 (n : Nat)] w (RetT w .u32 180 (wd n)) := by
  have hrow : Row (w.alloc (.cells (cellsOf .u32 [n % 4294967296, n / 4294967296]) 180)) w.heap.size .u32 180 [n % 4294967296, n / 4294967296] := Row.alloc rfl
  have hv : ofD B32 [n % 4294967296, n / 4294967296] = n := by
    show n % 4294967296 + B32 * (n / 4294967296 + B32 * 0) = n
    rw [B32_eq]; omega
  have hd : Digs B32 [n % 4294967296, n / 4294967296] := by
    intro x hx
    rw [B32_eq]
    simp at hx
    omega
  have HT := Lib.hid (trim32_sl (.slice (some ⟨w.heap.size, 0, none⟩) 2 2) _ _ hd ⟨_, _, rfl, Nat.le_refl _, hrow.rd (by simp), nofun, hrow.ty⟩)
  rw [hv] at HT
  have HB : Hid (Below w.heap.size w (w.alloc (.cells (cellsOf .u32 [n % 4294967296, n / 4294967296]) 180))) := (Below.refl _ _).alloc (Nat.le_refl _) _
  clear hv hd hrow
  go_enter Tryz.func59, Tryz.ntmps59
  go_wp2_with fail
  rw [show (n : Int) % 4294967296 = ((n % 4294967296 : Nat) : Int) from by omega, show (n : Int) / 4294967296 = ((n / 4294967296 : Nat) : Int) from by omega]
  refine HT.out.mono ?_
  rintro e w' ⟨rfl, v, rfl, hbv, hsl⟩
  go_wp2
  go_ret
  exact ⟨v, rfl, HB.out, hsl⟩
end Go.Proofs.YtjokcbjahidckaaGreat
/-! quarryref02.Shl: a number times a power of 2. Conditions: a slice reads as digits of 32 bits. -/
namespace Go.Proofs.YtjokcbjahidckaaGreat
open Go.RowKit

theorem shl_digit {x a r : Nat} (hx : x < 4294967296) (hr : r < 32) (ha : a < 2 ^ r) :
    x * 2 ^ r < 18446744073709551616 ∧ a + x * 2 ^ r % 4294967296 < 4294967296 ∧ x * 2 ^ r / 4294967296 < 2 ^ r ∧ bits .or .u32 (a : Int) ((x * 2 ^ r % 4294967296 : Nat) : Int) = ((a + x * 2 ^ r % 4294967296 : Nat) : Int) := by
  have hps : 0 < 2 ^ r := Nat.pow_pos (by decide)
  have hle : 2 ^ r ≤ 2147483648 := Nat.pow_le_pow_right (n := 2) (by decide) (show r ≤ 31 by omega)
  have e : 4294967296 = 2 ^ r * 2 ^ (32 - r) := by rw [← Nat.pow_add, show r + (32 - r) = 32 from by omega]
  have h1 : x * 2 ^ r < 4294967296 * 2 ^ r := Nat.mul_lt_mul_of_pos_right hx hps
  have h2 : x * 2 ^ r / 4294967296 < 2 ^ r := by rw [Nat.div_lt_iff_lt_mul (by decide), Nat.mul_comm (2 ^ r)]; exact h1
  have h0 : x * 2 ^ r % 4294967296 % 2 ^ r = 0 := by rw [e, Nat.mod_mul_right_mod, Nat.mul_mod_left]
  have hlt : x * 2 ^ r % 4294967296 < 4294967296 := Nat.mod_lt _ (by decide)
  have hs : a + x * 2 ^ r % 4294967296 < 4294967296 := by
    generalize x * 2 ^ r % 4294967296 = y at *
    obtain ⟨m, rfl⟩ : ∃ m, y = 2 ^ r * m := ⟨y / 2 ^ r, by have := Nat.div_add_mod y (2 ^ r); omega⟩
    rw [e] at hlt ⊢
    have hm : m < 2 ^ (32 - r) := Nat.lt_of_mul_lt_mul_left hlt
    have := Nat.mul_le_mul_left (2 ^ r) (show m + 1 ≤ 2 ^ (32 - r) from hm)
    rw [Nat.mul_add, Nat.mul_one] at this
    omega
  refine ⟨by omega, hs, h2, ?_⟩
  rw [u32_or_nat a _ (by omega) hlt, Nat.or_comm, nat_join r _ _ h0 ha, Nat.add_comm]

theorem shl_round {us zs xs : List Nat} {i q r n x a s h : Nat} (hn : n = 32 * q + r) (hi : i + q + 1 < zs.length) (hv : ofD B32 zs = ofD B32 (xs.take i) * 2 ^ n) (hx : xs.getD i 0 = x) (ha : zs.getD (i + q) 0 = a) (h0 : zs.getD (i + q + 1) 0 = 0) (hw : x * 2 ^ r = s + B32 * h)
    (hu : us = (zs.set (i + q) (a + s)).set (i + q + 1) h) : ofD B32 us = ofD B32 (xs.take (i + 1)) * 2 ^ n := by
  have h1 := ofD_set (B := B32) (xs := zs) (i := i + q) (v := a + s) (by omega)
  have h2 := ofD_set (B := B32) (xs := zs.set (i + q) (a + s)) (i := i + q + 1) (v := h) (by rw [List.length_set]; exact hi)
  have e0 : (zs.set (i + q) (a + s)).getD (i + q + 1) 0 = 0 := by
    rw [List.getD_eq_getElem?_getD, List.getElem?_set_ne (by omega), ← List.getD_eq_getElem?_getD]; exact h0
  rw [e0, ← hu] at h2
  rw [ha] at h1
  rw [ofD_take_getD xs, hx, Nat.add_mul, ← hv]
  have e1 : B32 ^ i * x * 2 ^ n = B32 ^ (i + q) * (x * 2 ^ r) := by
    rw [hn, Nat.pow_add 2, Nat.pow_mul, ← B32_2, Nat.pow_add B32]
    simp only [Nat.mul_assoc, Nat.mul_left_comm, Nat.mul_comm]
  rw [e1, hw]
  rw [Nat.pow_succ] at h2
  simp only [Nat.mul_add, Nat.mul_assoc] at *
  omega
theorem shl32 (A : Option Addr) (cap : Nat) (xs : List Nat) (n : Nat) (hn : n < 1000000) (w : World) (hs : xs.length < 1099511527776) (hr : Rd w .u32 A xs) (hd : Digs B32 xs) :
    Calls Tryz.prog 225 #[.slice A xs.length cap, .int .i64 (n : Nat)] w (RetT w .u32 180 (wd (ofD B32 xs * 2 ^ n))) := by
  have HR := Lib.hid hr
  have HD := Lib.hid hd
  clear hr hd
  obtain ⟨q, hq⟩ : ∃ q, q = n / 32 := ⟨_, rfl⟩
  obtain ⟨r, hr⟩ : ∃ r, r = n % 32 := ⟨_, rfl⟩
  have HN : Hid (n = 32 * q + r) := by show _ = _; omega
  have hr32 : r < 32 := by omega
  have hdq : Int.tdiv (n : Int) 32 = (q : Int) := by rw [Int.tdiv_eq_ediv_of_nonneg (by omega)]; omega
  have hdr : Int.tmod (n : Int) 32 = (r : Int) := by rw [Int.tmod_eq_emod_of_nonneg (by omega)]; omega
  have hdq2 : (n : Int) / 32 = (q : Int) := by omega
  have hdr2 : (n : Int) % 32 = (r : Int) := by omega
  have hq1 : q < 1000000 := by omega
  clear hq hr
  have hmk := mk32 (((xs.length : Nat) : Int) + (q : Int) + 1) (xs.length + q + 1) (by omega) (by omega)
  go_enter Tryz.func225, Tryz.ntmps225
  go_wp2
  go_loopw [6, 7] (fun i _ wr => ∃ (k : Nat) (zs : List Nat), k ≤ xs.length ∧ i = .int .i64 k ∧ Below w.heap.size w wr ∧ Row wr w.heap.size .u32 180 zs ∧ zs.length = xs.length + q + 1 ∧ Digs B32 zs ∧ ofD B32 zs = ofD B32 (xs.take k) * 2 ^ n ∧ zs.getD (k + q) 0 < 2 ^ r ∧ ∀ p, k + q < p → zs.getD p 0 = 0) (fun i _ _ => xs.length - (intOf i).toNat)
  case atStart => exact ⟨0, List.replicate (xs.length + q + 1) 0, Nat.zero_le _, rfl, (Below.refl _ _).alloc (Nat.le_refl _) _, Row.alloc rfl, by simp, Digs.replicate (by decide) _, by rw [ofD_replicate]; simp [ofD], by rw [List.getD_eq_getElem?_getD, List.getElem?_replicate]; split <;> exact Nat.pow_pos (by decide), fun p _ => by rw [List.getD_eq_getElem?_getD, List.getElem?_replicate]; split <;> rfl⟩
  case round =>
    obtain ⟨k, zs, hk, rfl, hb, hrow, hzl, hdz, hval, ha, hz0⟩ := hrel
    have HL := Lib.hid hzl
    have HV := Lib.hid hval
    have HZ := Lib.hid hz0
    clear hzl hval hz0
    by_cases hlt : k < xs.length
    · obtain ⟨b, off, rfl, hcell⟩ := (HR.out.below hb).at hlt
      have hx := HD.out.getD (by decide) k
      rw [B32_eq] at hx
      have hzk : k + q < zs.length := by have := HL.out; omega
      have hzk1 : k + q + 1 < zs.length := by have := HL.out; omega
      obtain ⟨x, hxg⟩ : ∃ x, xs.getD k 0 = x := ⟨_, rfl⟩
      have HXG := Lib.hid hxg
      rw [hxg] at hcell hx
      clear hxg
      obtain ⟨a, hag⟩ : ∃ a, zs.getD (k + q) 0 = a := ⟨_, rfl⟩
      have HAG := Lib.hid hag
      rw [hag] at ha
      have hc2 := hrow.cell hzk
      rw [hag] at hc2
      clear hag
      obtain ⟨hw64, hs32, hh, hor⟩ := shl_digit hx hr32 ha
      have hw1 : IntKind.u64.wrap ((x : Int) * 2 ^ r) = ((x * 2 ^ r : Nat) : Int) := by
        rw [IntKind.wrap_u64, show ((x : Int) * 2 ^ r) = ((x * 2 ^ r : Nat) : Int) from by rw [Int.natCast_mul, Int.natCast_pow]; rfl]
        omega
      have HW : Hid (x * 2 ^ r = x * 2 ^ r % 4294967296 + B32 * (x * 2 ^ r / 4294967296)) := by show _ = _; rw [B32_eq]; omega
      have HR0 := Lib.hid (fun (s h : Nat) (us : List Nat) (hw : x * 2 ^ r = s + B32 * h) (hu : us = (zs.set (k + q) (a + s)).set (k + q + 1) h) => shl_round (us := us) HN.out hzk1 HV.out HXG.out HAG.out (HZ.out _ (by omega)) hw hu)
      generalize x * 2 ^ r = m at *
      obtain ⟨l, hl⟩ : ∃ l, m % 4294967296 = l := ⟨_, rfl⟩
      obtain ⟨h, hhe⟩ : ∃ h, m / 4294967296 = h := ⟨_, rfl⟩
      rw [hl] at hs32 hor
      rw [hhe] at hh
      rw [hl, hhe] at HW
      have hml : (m : Int) % 4294967296 = (l : Int) := by omega
      have hmh : (m : Int) / 4294967296 = (h : Int) := by omega
      have hh32 : h < 4294967296 := by omega
      have hl32 : l < 4294967296 := by omega
      clear hl hhe
      obtain ⟨t, ht⟩ : ∃ t, a + l = t := ⟨_, rfl⟩
      have HT := Lib.hid ht
      rw [ht] at hs32 hor
      clear ht
      have hor0 : bits .or .u32 0 (h : Int) = (h : Int) := by
        have := u32_or_nat 0 h (by decide) hh32
        rwa [Nat.zero_or] at this
      have hf2 := hrow.frozen (k + q)
      have hrow2 := hrow.set (k + q) t
      have hc3 := hrow2.cell (i := k + q + 1) (by rw [List.length_set]; exact hzk1)
      have e0 : (zs.set (k + q) t).getD (k + q + 1) 0 = 0 := by
        rw [List.getD_eq_getElem?_getD, List.getElem?_set_ne (by omega), ← List.getD_eq_getElem?_getD]; exact HZ.out _ (by omega)
      rw [e0] at hc3
      have hf3 := hrow2.frozen (k + q + 1)
      have HR3 := Lib.hid (hrow2.set (k + q + 1) h)
      have HE := Lib.hid (HR0.out l h _ HW.out (by rw [HT.out]))
      clear e0 hrow2
      go_wp2
      go_roundw
      case rel =>
        refine ⟨k + 1, (zs.set (k + q) t).set (k + q + 1) h, hlt, by go_num, (hb.setCell (Nat.le_refl _) _).setCell (Nat.le_refl _) _, HR3.out, by simp only [List.length_set]; exact HL.out, (hdz.set _ (by rw [B32_eq]; exact hs32)).set _ (by rw [B32_eq]; exact hh32), HE.out, ?_, fun p hp => ?_⟩
        · rw [show k + 1 + q = k + q + 1 from by omega, List.getD_eq_getElem?_getD, List.getElem?_set_self (by rw [List.length_set]; exact hzk1)]; exact hh
        · rw [List.getD_eq_getElem?_getD, List.getElem?_set_ne (by omega), List.getElem?_set_ne (by omega), ← List.getD_eq_getElem?_getD]; exact HZ.out _ (by omega)
      case measure => simp [intOf]; omega
    · have hkk : k = xs.length := by omega
      subst hkk
      have HE : Hid (ofD B32 zs = ofD B32 xs * 2 ^ n) := by show _ = _; have := HV.out; rwa [List.take_length] at this
      have HT2 := Lib.hid (trim32_sl (.slice (some ⟨w.heap.size, 0, none⟩) (xs.length + q + 1) (xs.length + q + 1)) _ wr hdz ⟨_, _, by rw [HL.out], by rw [HL.out]; exact Nat.le_refl _, hrow.rd (by have := HL.out; omega), nofun, hrow.ty⟩)
      have HB2 := Lib.hid hb
      go_wp2_with fail
      refine HT2.out.mono ?_
      rintro e w' ⟨rfl, v, rfl, hbv, hsl⟩
      go_wp2
      go_ret
      refine ⟨v, rfl, HB2.out, ?_⟩
      rw [← HE.out]
      exact hsl
end Go.Proofs.YtjokcbjahidckaaGreat
/-! quarryref02.From: the number whose bytes these are. Condition: a slice reads as bytes. -/
namespace Go.Proofs.YtjokcbjahidckaaGreat
open Go.RowKit

/-- A byte is put above what is there: 'x |= c << (8 r)'. -/
theorem or_put32 (x c r : Nat) (hx : x < 256 ^ r) (hc : c < 256) (hr : r < 4) :
    bits .or .u32 (x : Int) ((c : Int) * 2 ^ (8 * r) % 4294967296) = ((x + c * 256 ^ r : Nat) : Int) ∧ x + c * 256 ^ r < 4294967296 := by
  have e256 : (2 : Nat) ^ (8 * r) = 256 ^ r := by rw [Nat.pow_mul]
  have hcr : c * 256 ^ r < 256 ^ (r + 1) := by rw [Nat.pow_succ, Nat.mul_comm]; exact Nat.mul_lt_mul_of_pos_left hc (Nat.pow_pos (by decide))
  have hle : 256 ^ (r + 1) ≤ 256 ^ 4 := Nat.pow_le_pow_right (by decide) (by omega)
  have h4 : (256 : Nat) ^ 4 = 4294967296 := by decide
  have h0 : x + c * 256 ^ r < 256 ^ (r + 1) := by
    have := Nat.mul_le_mul_right (256 ^ r) (show c + 1 ≤ 256 from hc)
    rw [Nat.add_mul, Nat.one_mul] at this
    rw [Nat.pow_succ, Nat.mul_comm (256 ^ r)]
    omega
  have e1 : (c : Int) * 2 ^ (8 * r) = ((c * 256 ^ r : Nat) : Int) := by
    rw [Int.natCast_mul, ← e256, Int.natCast_pow]; rfl
  have w2 : ((c * 256 ^ r : Nat) : Int) % 4294967296 = ((c * 256 ^ r : Nat) : Int) := by omega
  refine ⟨?_, by omega⟩
  rw [e1, w2, u32_or_nat x _ (by omega) (by omega), Nat.or_comm, nat_join (8 * r) (c * 256 ^ r) x (by rw [e256]; exact Nat.mul_mod_left _ _) (by rw [e256]; exact hx), Nat.add_comm]
theorem ofD_low {xs : List Nat} {N q r : Nat} (hd : Digs B32 xs) (hq : q < xs.length) (hv : ofD B32 xs = N) (hN : N < 256 ^ (4 * q + r)) : xs.getD q 0 < 256 ^ r := by
  rw [getD_ofD (by decide) hd hq, hv]
  refine Nat.lt_of_le_of_lt (Nat.mod_le _ _) ?_
  rw [Nat.div_lt_iff_lt_mul (Nat.pow_pos (by decide)), B32_256, ← Nat.pow_mul, ← Nat.pow_add, Nat.add_comm]
  exact hN

theorem from32 (A : Option Addr) (cap : Nat) (bs : List Nat) (w : World) (hr : Rd w .u8 A bs) (hd : Digs 256 bs) :
    Calls Tryz.prog 38 #[.slice A bs.length cap] w (RetT w .u32 180 (wd (ofBE bs))) := by
  have hl := hr.1
  have HX := Lib.hid hr
  have HDR : Hid (Digs 256 bs.reverse) := fun d h => hd d (List.mem_reverse.1 h)
  have HRV : Hid (∀ j, j < bs.length → bs.reverse.getD j 0 = bs.getD (bs.length - 1 - j) 0) := fun j hj => by
    rw [List.getD_eq_getElem?_getD, List.getD_eq_getElem?_getD, List.getElem?_reverse hj]
  clear hd hr
  obtain ⟨m, hm⟩ : ∃ m, m = (bs.length + 3) / 4 := ⟨_, rfl⟩
  have hmk := mk32 ((((bs.length : Nat) : Int) + 3)/4) m (by omega) (by omega)
  have HM := Lib.hid hm
  clear hm
  go_enter Tryz.func38, Tryz.ntmps38
  go_wp2
  go_loopw [4, 5] (fun i _ wr => ∃ (k : Nat) (xs : List Nat), k ≤ bs.length ∧ i = .int .i64 k ∧ Below w.heap.size w wr ∧ Row wr w.heap.size .u32 180 xs ∧ xs.length = m ∧ Digs B32 xs ∧ ofD B32 xs = ofD 256 (bs.reverse.take k)) (fun i _ _ => bs.length - (intOf i).toNat)
  case atStart =>
    refine ⟨0, List.replicate m 0, Nat.zero_le _, rfl, (Below.refl _ _).alloc (Nat.le_refl _) _, Row.alloc rfl, by simp, Digs.replicate (by decide) _, by rw [ofD_replicate]; simp [ofD]⟩
  case round =>
    obtain ⟨k, xs, hk, rfl, hb, hrow, hlen, hdx, hval⟩ := hrel
    have HL := Lib.hid hlen
    have HV := Lib.hid hval
    clear hlen hval
    by_cases hlt : k < bs.length
    · obtain ⟨b, off, rfl, hcell⟩ := (HX.out.below hb).at (j := bs.length - 1 - k) (by omega)
      have hq : k / 4 < xs.length := by have := HM.out; have := HL.out; omega
      have hq' : k / 4 < m := by have := HM.out; omega
      have hc2 := hrow.cell hq
      have hf2 := hrow.frozen (k / 4)
      have hrv := HRV.out k hlt
      have hc5 := HDR.out.getD (by decide) k
      have hN : ofD 256 (bs.reverse.take k) < 256 ^ (4 * (k / 4) + k % 4) := by
        have := ofD_lt (HDR.out.take k)
        rw [List.length_take, List.length_reverse, Nat.min_eq_left hk] at this
        rwa [Nat.div_add_mod]
      have hlow := ofD_low hdx hq HV.out hN
      have hput := or_put32 (xs.getD (k / 4) 0) (bs.reverse.getD k 0) (k % 4) hlow hc5 (by omega)
      rw [hrv] at hput hc5
      have HE : Hid (ofD B32 (xs.set (k / 4) (xs.getD (k / 4) 0 + bs.getD (bs.length - 1 - k) 0 * 256 ^ (k % 4))) = ofD 256 (bs.reverse.take (k + 1))) := by
        show _ = _
        rw [ofD_put (b := 256) (j := 4) B32_256 hq HV.out, ofD_take_getD, hrv, Nat.div_add_mod, Nat.mul_comm (256 ^ k)]
      clear hN hlow hrv
      generalize bs.getD (bs.length - 1 - k) 0 = c at *
      generalize xs.getD (k / 4) 0 = x at *
      generalize x + c * 256 ^ (k % 4) = y at *
      obtain ⟨hor, hy⟩ := hput
      have HOR := Lib.hid hor
      clear hor
      go_wp2
      go_region
      rw [HOR.out]
      go_wp2
      go_roundw
      case rel =>
        exact ⟨k + 1, _, hlt, by go_num, (hb.setCell (Nat.le_refl _) _).drew, (hrow.set _ y).drew, by rw [List.length_set]; exact HL.out, hdx.set _ (by rw [B32_eq]; exact hy), HE.out⟩
      case measure => simp [intOf]; omega
    · have hkk : k = bs.length := by omega
      subst hkk
      have HE : Hid (ofD B32 xs = ofBE bs) := by
        show _ = _
        rw [HV.out]
        unfold ofBE
        rw [List.take_of_length_le (by simp)]
      have HT := Lib.hid (trim32_sl (.slice (some ⟨w.heap.size, 0, none⟩) m m) _ wr hdx ⟨_, _, by rw [HL.out], by rw [HL.out]; exact Nat.le_refl _, hrow.rd (by have := HM.out; have := HL.out; omega), nofun, hrow.ty⟩)
      have HB2 := Lib.hid hb
      go_wp2_with fail
      refine HT.out.mono ?_
      rintro e w' ⟨rfl, v, rfl, hbv, hsl⟩
      go_wp2
      go_ret
      refine ⟨v, rfl, HB2.out, ?_⟩
      rw [← HE.out]
      exact hsl
end Go.Proofs.YtjokcbjahidckaaGreat
/-! quarrykeep.Twin, the laws' few: bytes, cut, in new memory. Condition: a slice reads as bytes. -/
namespace Go.Proofs.YtjokcbjahidckaaGreat
open Go.RowKit

theorem info5 : (Tryz.prog.info? 5).map (fun i => (i.zero, i.size, i.bytes)) = some (some (.int .u8 0), 1, 1) := by kernel_rfl
theorem own_isT {w : World} {B n : Nat} {k : IntKind} {t : TypeId} {v : Value} {xs : List Nat} {cs : List Value} (h : w.ownsRow B t 1 v n cs) (hcs : cs = xs.map fun n : Nat => Value.int k (n : Int)) (hl : xs.length ≤ 1099511627776) : IsT w k t v xs := by
  subst hcs
  obtain ⟨h1, h2⟩ := h
  rw [List.length_map, Nat.mul_one] at h1
  rcases h2 with ⟨rfl, rfl⟩ | ⟨g, cap, cur, rfl, hB, hh, hn, hc, hs, ht⟩
  · have : xs = [] := List.length_eq_zero_iff.1 h1
    subst this
    exact ⟨none, 0, rfl, Nat.le_refl _, Rd.nil _ _ _, fun _ => rfl, .inl rfl⟩
  · subst h1
    refine ⟨_, cap, rfl, hn, ⟨hl, .inr ⟨g, 0, rfl, fun j hj => ?_⟩⟩, nofun, .inr ⟨_, _, _, rfl, hh⟩⟩
    have h3 := congrArg (·[j]?) ht
    simp only [Nat.mul_one, List.getElem?_take, List.getElem?_map] at h3
    rw [if_pos hj] at h3
    simp only [World.cell?]
    rw [hh]
    simp only [Nat.zero_add]
    rw [List.getElem?_eq_getElem hj] at h3
    rw [List.getD_eq_getElem?_getD, List.getElem?_eq_getElem hj]
    simpa using h3
theorem Rd.news {w : World} {k : IntKind} {b off : Nat} {xs : List Nat} (h : Rd w k (some ⟨b, off, none⟩) xs) (j : Nat) (u : Value) (hj : (xs.map fun n : Nat => Value.int k (n : Int))[j]? = some u) : w.cell? ((⟨b, off, none⟩ : Addr).add j) = some u := by
  rw [List.getElem?_map] at hj
  have hl : j < xs.length := by
    rcases Nat.lt_or_ge j xs.length with h | h
    · exact h
    · rw [List.getElem?_eq_none h] at hj; cases hj
  rw [List.getElem?_eq_getElem hl] at hj
  cases hj
  have := h.cell_at hl
  rw [List.getD_eq_getElem?_getD, List.getElem?_eq_getElem hl] at this
  unfold Addr.add
  split
  · rename_i h0; subst h0; exact this
  · exact this
theorem news_one {k : IntKind} {xs : List Nat} (u : Value) (hu : u ∈ xs.map fun n : Nat => Value.int k (n : Int)) : u.oneCell' = true := by
  obtain ⟨n, _, rfl⟩ := List.mem_map.1 hu
  rfl
theorem twin_any (A : Option Addr) (cap m len : Nat) (ts : List Nat) (w : World) (hm : m < 1000000) (hc : len ≤ cap) (hts : ts.length = min len m) (hr : Rd w .u8 A ts) (hA : len ≠ 0 → A ≠ none) :
    Calls Tryz.prog 50 #[.slice A len cap, .int .i64 (m : Nat)] w (RetT w .u8 5 ts) := by
  obtain ⟨i0, hi, hz0, hz1, hz2⟩ := info_parts info5
  have HLT : Hid (ts.length ≤ 1099511627776) := hr.1
  have HO : Hid ((w.alloc (.cells #[] 5)).ownsRow w.heap.size 5 1 (.slice (some ⟨w.heap.size, 0, none⟩) 0 0) 0 []) := World.ownsRow_made w #[] 0 (Nat.le_refl _) (by unfold maxLen; omega) rfl
  have HB : Hid (Below w.heap.size w (w.alloc (.cells #[] 5))) := (Below.refl _ _).alloc (Nat.le_refl _) _
  have HEND : Hid (∀ v' w1, w1.ownsRow w.heap.size 5 1 v' ts.length (ts.map fun n : Nat => Value.int .u8 (n : Int)) → (w.alloc (.cells #[] 5)).grownBy w1 (some w.heap.size) → RetT w .u8 5 ts (.returned v') w1) :=
    fun v' w1 h1 h2 => ⟨v', rfl, HB.out.grown h2 (by simp) (fun k e => by cases e; exact Nat.le_refl _), own_isT h1 rfl HLT.out⟩
  by_cases h0 : len = 0
  · subst h0
    have ht0 : ts = [] := List.length_eq_zero_iff.1 (by omega)
    subst ht0
    have HE : Hid (RetT w .u8 5 [] (.returned (.slice (some ⟨w.heap.size, 0, none⟩) 0 0)) (w.alloc (.cells #[] 5))) :=
      ⟨_, rfl, HB.out, some ⟨w.heap.size, 0, none⟩, 0, rfl, Nat.le_refl _, Rd.nil _ _ _, nofun, .inr ⟨_, _, _, rfl, heap_alloc_new _ _⟩⟩
    have HE2 : Hid (∀ v' w1, w1.ownsRow w.heap.size 5 1 v' 0 [] → (w.alloc (.cells #[] 5)).grownBy w1 (some w.heap.size) → RetT w .u8 5 [] (.returned v') w1) := HEND.out
    clear hc hr HLT HEND hm hts hA
    have hge : ¬ (m : Int) < 0 := by omega
    generalize ([] : List Nat) = ts at *
    cases A with
    | none =>
      go_enter Tryz.func50, Tryz.ntmps50
      go_wp2_with (at_builtin; refine wpList_append_own_none rfl _ _ 27 rfl (w.heap.size) 5 i0 1 Tryz.underlying27 hi _ _ _ rfl HO.out rfl ?_)
      go_ret
      exact HE.out
    | some a =>
      go_enter Tryz.func50, Tryz.ntmps50
      go_wp2_with (at_builtin; refine wpList_append_own _ rfl _ _ 27 rfl (w.heap.size) 5 i0 (.int .u8 0) 1 1 Tryz.underlying27 hi hz0 hz1 hz2 rfl (by decide) _ _ _ rfl HO.out a 0 cap [] rfl rfl ?d1 ?d2 ?d3 ?d4 ?d5 ?_)
      intro v' w1 h1 h2 _
      have HR := Lib.hid (HE2.out v' w1 h1 h2)
      clear h1 h2
      go_wp2
      go_ret
      exact HR.out
  · have HM0 : Hid (m < len → ts.length = m) := fun h => by omega
    by_cases hm0 : m = 0 ∧ A.isNone
    · exact absurd (Option.isNone_iff_eq_none.1 hm0.2) (hA h0)
    · obtain ⟨⟨b, off, sp⟩, rfl⟩ : ∃ a, A = some a := Option.ne_none_iff_exists'.1 (hA h0)
      have HT : Hid (∀ j u, (ts.map fun n : Nat => Value.int .u8 (n : Int))[j]? = some u → (w.alloc (.cells #[] 5)).cell? ((⟨b, off, sp⟩ : Addr).add j) = some u) := fun j u hj => by
        have hr2 : Rd (w.alloc (.cells #[] 5)) .u8 (some ⟨b, off, sp⟩) ts := hr.below ((Below.refl _ _).alloc (Nat.le_refl _) _)
        rcases hr2.2 with h | ⟨b', off', e, _⟩
        · rw [h] at hj; cases hj
        · cases e
          exact hr2.news j u hj
      clear hr h0 hm0 hA
      by_cases hgt : m < len
      · have HM := Lib.hid (HM0.out hgt)
        rw [HM.out] at HEND
        clear hts
        go_enter Tryz.func50, Tryz.ntmps50
        go_wp2_with (at_builtin; refine wpList_append_own _ rfl _ _ 27 rfl (w.heap.size) 5 i0 (.int .u8 0) 1 1 Tryz.underlying27 hi hz0 hz1 hz2 rfl (by decide) _ _ _ rfl HO.out ⟨b, off, sp⟩ m cap (ts.map fun n : Nat => Value.int .u8 (n : Int)) rfl ?e0 ?e1 ?e2 ?e3 ?e4 ?e5 ?_)
        case e0 => rw [List.length_map, HM.out, Nat.mul_one]
        case e1 => exact HT.out
        case e2 => exact fun u hu => news_one u hu
        case e3 => unfold maxLen; omega
        case e4 => omega
        case e5 => simp
        intro v' w1 h1 h2 _
        have HR := Lib.hid (HEND.out v' w1 h1 h2)
        clear h1 h2
        go_wp2
        go_ret
        exact HR.out
      · have HM : Hid (ts.length = len) := by show _ = _; omega
        have hll : len < 1000000 := by omega
        rw [HM.out] at HEND
        clear hts
        go_enter Tryz.func50, Tryz.ntmps50
        go_wp2_with (at_builtin; refine wpList_append_own _ rfl _ _ 27 rfl (w.heap.size) 5 i0 (.int .u8 0) 1 1 Tryz.underlying27 hi hz0 hz1 hz2 rfl (by decide) _ _ _ rfl HO.out ⟨b, off, sp⟩ len cap (ts.map fun n : Nat => Value.int .u8 (n : Int)) rfl ?f0 ?f1 ?f2 ?f3 ?f4 ?f5 ?_)
        case f0 => rw [List.length_map, HM.out, Nat.mul_one]
        case f1 => exact HT.out
        case f2 => exact fun u hu => news_one u hu
        case f3 => unfold maxLen; omega
        case f4 => omega
        case f5 => simp
        intro v' w1 h1 h2 _
        have HR := Lib.hid (HEND.out v' w1 h1 h2)
        clear h1 h2
        go_wp2
        go_ret
        exact HR.out
theorem few_any (A : Option Addr) (cap len : Nat) (ts : List Nat) (w : World) (hc : len ≤ cap) (hts : ts.length = min len 40) (hr : Rd w .u8 A ts) (hA : len ≠ 0 → A ≠ none) :
    Calls Tryz.prog 28 #[.slice A len cap] w (RetT w .u8 5 ts) := by
  have HT := Lib.hid (twin_any A cap 40 len ts w (by decide) hc hts hr hA)
  clear hc hr hts hA
  go_enter Tryz.func28, Tryz.ntmps28
  go_wp2_with fail
  refine HT.out.mono ?_
  rintro e w' ⟨v, rfl, hb, hs⟩
  have HR : Hid (RetT w .u8 5 ts (.returned v) w') := ⟨v, rfl, hb, hs⟩
  clear hb hs
  go_wp2
  go_ret
  exact HR.out
end Go.Proofs.YtjokcbjahidckaaGreat
/-! quarryref02.Bytes: a number's bytes, the highest first. Condition: a slice reads as digits of 32 bits. -/
namespace Go.Proofs.YtjokcbjahidckaaGreat
open Go.RowKit

/-- The bytes of a number, the highest first, without zeros ahead. -/
def beb (n : Nat) : List Nat := (dig 256 n).reverse
theorem dig_step {B : Nat} (hB : 1 < B) {n : Nat} (h : n ≠ 0) : dig B n = n % B :: dig B (n / B) := by
  have hd : Digs B (n % B :: dig B (n / B)) := Digs.cons (Nat.mod_lt _ (by omega)) (Digs.dig (by omega) _)
  have hv : ofD B (n % B :: dig B (n / B)) = n := by rw [ofD_cons, ofD_dig hB]; exact Nat.mod_add_div n B
  have := dig_eq hB hd (fun _ => by
    rw [List.length_cons, Nat.add_sub_cancel]
    rcases Nat.eq_zero_or_pos (dig B (n / B)).length with h0 | h0
    · rw [h0, List.getD_cons_zero]
      have h1 := (dig_nil hB).1 h0
      have := Nat.mod_add_div n B
      rw [h1, Nat.mul_zero] at this
      omega
    · obtain ⟨m, hm⟩ : ∃ m, (dig B (n / B)).length = m + 1 := ⟨(dig B (n / B)).length - 1, by omega⟩
      rw [hm, List.getD_cons_succ]
      have := dig_last h0
      rwa [hm, Nat.add_sub_cancel] at this)
  rw [hv] at this
  exact this.symm
theorem beb_zero : beb 0 = [] := by unfold beb; rw [dig_zero]; rfl
theorem beb_step {n : Nat} (h : n ≠ 0) : beb n = beb (n / 256) ++ [n % 256] := by
  unfold beb
  rw [dig_step (by decide) h, List.reverse_cons]
theorem beb_nil {n : Nat} : (beb n).length = 0 ↔ n = 0 := by
  unfold beb
  rw [List.length_reverse]
  exact dig_nil (by decide)
theorem ofBE_beb (n : Nat) : ofBE (beb n) = n := by
  unfold ofBE beb
  rw [List.reverse_reverse]
  exact ofD_dig (by decide) n
theorem beb_digs (n : Nat) : Digs 256 (beb n) := fun d h => Digs.dig (by decide) n d (List.mem_reverse.1 h)
theorem beb_length {n k : Nat} (h : n < 256 ^ k) : (beb n).length ≤ k := by
  unfold beb
  rw [List.length_reverse]
  exact length_dig_le (by decide) h
theorem byte_of {xs : List Nat} {n j : Nat} (hd : Digs B32 xs) (hn : ofD B32 xs = n) (hj : j / 4 < xs.length) : xs.getD (j / 4) 0 / 2 ^ (8 * (j % 4)) % 256 = n / 256 ^ j % 256 := by
  rw [getD_ofD (by decide) hd hj, hn, Nat.pow_mul, show (2 : Nat) ^ 8 = 256 from rfl]
  have hr : j % 4 < 4 := Nat.mod_lt _ (by decide)
  have e : 256 ^ j = B32 ^ (j / 4) * 256 ^ (j % 4) := by rw [B32_256, ← Nat.pow_mul, ← Nat.pow_add, Nat.div_add_mod]
  rw [e, ← Nat.div_div_eq_div_mul]
  generalize n / B32 ^ (j / 4) = y
  have e2 : B32 = 256 ^ (j % 4) * (256 * 256 ^ (3 - j % 4)) := by
    rw [B32_256, ← Nat.pow_succ', ← Nat.pow_add]
    congr 1
    omega
  have e3 : y / 256 ^ (j % 4) = y % B32 / 256 ^ (j % 4) + 256 * (256 ^ (3 - j % 4) * (y / B32)) := by
    conv => lhs; rw [← Nat.mod_add_div y B32]
    conv => lhs; rw [show B32 * (y / B32) = 256 ^ (j % 4) * (256 * (256 ^ (3 - j % 4) * (y / B32))) from by rw [← Nat.mul_assoc 256, ← Nat.mul_assoc (256 ^ (j % 4)), ← e2]]
    rw [Nat.add_mul_div_left _ _ (Nat.pow_pos (by decide))]
  rw [e3, Nat.add_mul_mod_self_left]

theorem own_slice {w : World} {B n : Nat} {t : TypeId} {v : Value} {cs : List Value} (h : w.ownsRow B t 1 v n cs) : ∃ A cap, v = .slice A n cap := by
  rcases h.2 with ⟨rfl, rfl⟩ | ⟨g, cap, cur, rfl, _⟩
  · exact ⟨none, 0, rfl⟩
  · exact ⟨_, _, rfl⟩
theorem bytes_any (A : Option Addr) (cap : Nat) (xs : List Nat) (w : World) (hs : xs.length ≤ 100000000000) (hr : Rd w .u32 A xs) (hd : Digs B32 xs) :
    Calls Tryz.prog 40 #[.slice A xs.length cap] w (RetT w .u8 5 (beb (ofD B32 xs))) := by
  obtain ⟨n, hn⟩ : ∃ n, ofD B32 xs = n := ⟨_, rfl⟩
  have HLB : Hid (∀ k, (beb (n / 256 ^ k)).length ≤ 4 * xs.length) := fun k => by
    refine beb_length (Nat.lt_of_le_of_lt (Nat.div_le_self _ _) ?_)
    rw [← hn, Nat.pow_mul, show (256 : Nat) ^ 4 = B32 from rfl]
    exact ofD_lt hd
  have HN := Lib.hid hn
  have HR := Lib.hid hr
  have HD := Lib.hid hd
  obtain ⟨i0, hi, hz0, hz1, hz2⟩ := info_parts info5
  rw [hn]
  clear hr hd hn
  go_enter Tryz.func40, Tryz.ntmps40
  go_wp2
  go_loopw [3, 4, 5] (fun v i _ wr => ∃ k : Nat, k ≤ 4 * xs.length ∧ i = .int .i64 ((k : Int) - 1) ∧ wr.ownsRow w.heap.size 5 1 v (beb (n / 256 ^ k)).length ((beb (n / 256 ^ k)).map fun n : Nat => Value.int .u8 (n : Int)) ∧ Below w.heap.size w wr) (fun _ i _ _ => (intOf i + 1).toNat)
  case atStart =>
    refine ⟨4 * xs.length, Nat.le_refl _, by congr 1, ?_, Below.refl _ _⟩
    have : n / 256 ^ (4 * xs.length) = 0 := by
      rw [Nat.div_eq_of_lt]
      rw [← HN.out, Nat.pow_mul, show (256 : Nat) ^ 4 = B32 from rfl]
      exact ofD_lt HD.out
    rw [this, beb_zero]
    exact World.ownsRow_nil _ _ _ _
  case round =>
    obtain ⟨k, hk, rfl, hown, hb⟩ := hrel
    have HOWN := Lib.hid hown
    have HB := Lib.hid hb
    have hbs := hb.size
    clear hown hb
    rcases k with _ | j
    · have HE : Hid (RetT w .u8 5 (beb n) (.returned u3) wr) := by
        have h1 := HOWN.out
        have h2 := HLB.out 0
        rw [Nat.pow_zero, Nat.div_one] at h1 h2
        exact ⟨u3, rfl, HB.out, own_isT h1 rfl (by omega)⟩
      go_wp2
      go_ret
      exact HE.out
    · rw [show (((j + 1 : Nat) : Int) - 1) = (j : Int) from by omega]
      have hj : j / 4 < xs.length := by omega
      obtain ⟨b, off, rfl, hcell⟩ := (HR.out.below HB.out).at hj
      have HC := Lib.hid (byte_of HD.out HN.out hj)
      have hx : xs.getD (j / 4) 0 < 4294967296 := by have := HD.out.getD (by decide) (j / 4); rwa [B32_eq] at this
      obtain ⟨A', cap', rfl⟩ := own_slice HOWN.out
      have HNIL := Lib.hid (@beb_nil (n / 256 ^ (j + 1)))
      have HZ : Hid (n / 256 ^ j / 256 = n / 256 ^ (j + 1)) := by show _ = _; rw [Nat.div_div_eq_div_mul, Nat.pow_succ]
      have HST : Hid (n / 256 ^ j ≠ 0 → beb (n / 256 ^ j) = beb (n / 256 ^ (j + 1)) ++ [n / 256 ^ j % 256]) := fun h => by rw [← HZ.out]; exact beb_step h
      have HL1 := Lib.hid (HLB.out (j + 1))
      generalize beb (n / 256 ^ (j + 1)) = bs at *
      generalize xs.getD (j / 4) 0 = x at *
      have hce : (x : Int) / 2 ^ (8 * (j % 4)) % 256 = ((n / 256 ^ j % 256 : Nat) : Int) := by
        rw [← HC.out, show ((x : Int) / 2 ^ (8 * (j % 4))) = ((x / 2 ^ (8 * (j % 4)) : Nat) : Int) from by rw [Int.natCast_ediv, Int.natCast_pow]; rfl]
        omega
      have hc256 : n / 256 ^ j % 256 < 256 := Nat.mod_lt _ (by decide)
      have HQ : Hid (∀ q : Nat, n / 256 ^ j = n / 256 ^ (j + 1) * 256 + n / 256 ^ j % 256) := fun _ => by
        rw [← HZ.out]; have := Nat.mod_add_div (n / 256 ^ j) 256; omega
      have HOWN2 : Hid (n / 256 ^ j ≠ 0 → ∀ (v' : Value) (w1 : World), w1.ownsRow w.heap.size 5 1 v' (bs.length + 1) ((bs.map fun n : Nat => Value.int .u8 (n : Int)) ++ [.int .u8 (n / 256 ^ j % 256 : Nat)]) →
          w1.ownsRow w.heap.size 5 1 v' (beb (n / 256 ^ j)).length ((beb (n / 256 ^ j)).map fun n : Nat => Value.int .u8 (n : Int))) := fun h0 v' w1 h1 => by
        rw [HST.out h0, List.length_append, List.map_append]
        exact h1
      clear HC HST
      generalize n / 256 ^ j % 256 = c at *
      have HO2 : Hid ((wr.alloc (.cells #[.int .u8 (c : Nat)] 5)).ownsRow w.heap.size 5 1 (.slice A' bs.length cap') bs.length (bs.map fun n : Nat => Value.int .u8 (n : Int))) := HOWN.out.alloc _
      have HEND : Hid (∀ (v' : Value) (w1 : World), w1.ownsRow w.heap.size 5 1 v' (bs.length + 1) ((bs.map fun n : Nat => Value.int .u8 (n : Int)) ++ [.int .u8 (c : Nat)]) → (wr.alloc (.cells #[.int .u8 (c : Nat)] 5)).grownBy w1 (Value.slice A' bs.length cap').ownBlock → Below w.heap.size w w1) :=
        fun v' w1 _ h2 => (HB.out.alloc hbs _).grown h2 (by simp; omega) (fun k e => (HO2.out.lt k e).1)
      by_cases hL : 0 < bs.length
      · have HNZ : Hid (n / 256 ^ j ≠ 0) := fun h => by
          have h1 := HQ.out 0
          rw [h] at h1
          have h2 : n / 256 ^ (j + 1) = 0 := by omega
          have := HNIL.out.2 h2
          omega
        go_wp2_with (at_builtin; refine wpList_append_own _ rfl _ _ 27 rfl (w.heap.size) 5 i0 (.int .u8 0) 1 1 Tryz.underlying27 hi hz0 hz1 hz2 rfl (by decide) _ _ _ rfl HO2.out ⟨wr.heap.size, 0, none⟩ 1 1 [.int .u8 (c : Nat)] rfl rfl ?d1 ?d2 ?d3 ?d4 ?d5 ?_)
        case d1 =>
          intro j u hj
          match j, hj with
          | 0, hj => simp at hj; subst hj; simp [Addr.add]
        case d2 => intro u hu; simp at hu; subst hu; rfl
        case d3 => have := HL1.out; unfold maxLen; omega
        case d4 => have := HL1.out; omega
        case d5 => simp; omega
        intro v' w1 h1 h2 _
        have HB3 := Lib.hid (HEND.out v' w1 h1 h2)
        have HO3 := Lib.hid (HOWN2.out HNZ.out v' w1 h1)
        clear h1 h2
        go_wp2
        go_roundw
        case rel => exact ⟨j, by omega, by go_num, HO3.out, HB3.out⟩
        case measure => simp [intOf]
      · have hL0 : bs.length = 0 := by omega
        by_cases hc0 : c = 0
        · have HJ0 : Hid (n / 256 ^ j = 0) := by
            show _ = _
            have h1 := HQ.out 0
            have h2 := HNIL.out.1 hL0
            rw [h2] at h1; omega
          have HO3 : Hid (wr.ownsRow w.heap.size 5 1 (.slice A' bs.length cap') (beb (n / 256 ^ j)).length ((beb (n / 256 ^ j)).map fun n : Nat => Value.int .u8 (n : Int))) := by
            show World.ownsRow _ _ _ _ _ _ _
            rw [HJ0.out, beb_zero]
            have := HOWN.out
            have e : bs = [] := List.length_eq_zero_iff.1 hL0
            rw [e] at this ⊢
            exact this
          subst hc0
          clear HO2 HEND HOWN2 HQ
          go_wp2
          go_roundw
          case rel => exact ⟨j, by omega, by go_num, HO3.out, HB.out⟩
          case measure => simp [intOf]
        · have HNZ : Hid (n / 256 ^ j ≠ 0) := fun h => by
            have h1 := HQ.out 0
            omega
          have hcb : ((c : Int) == 0) = false := by rw [beq_eq_false_iff_ne]; omega
          have hcb2 : ((c : Int) != 0) = true := by rw [bne, hcb]; rfl
          go_wp2_with (at_builtin; refine wpList_append_own _ rfl _ _ 27 rfl (w.heap.size) 5 i0 (.int .u8 0) 1 1 Tryz.underlying27 hi hz0 hz1 hz2 rfl (by decide) _ _ _ rfl HO2.out ⟨wr.heap.size, 0, none⟩ 1 1 [.int .u8 (c : Nat)] rfl rfl ?e1 ?e2 ?e3 ?e4 ?e5 ?_)
          case e1 =>
            intro j u hj
            match j, hj with
            | 0, hj => simp at hj; subst hj; simp [Addr.add]
          case e2 => intro u hu; simp at hu; subst hu; rfl
          case e3 => have := HL1.out; unfold maxLen; omega
          case e4 => have := HL1.out; omega
          case e5 => simp; omega
          intro v' w1 h1 h2 _
          have h1 : w1.ownsRow w.heap.size 5 1 v' (bs.length + 1) ((bs.map fun n : Nat => Value.int .u8 (n : Int)) ++ [.int .u8 (c : Nat)]) := by rw [hL0]; exact h1
          have h2 : (wr.alloc (.cells #[.int .u8 (c : Nat)] 5)).grownBy w1 (Value.slice A' bs.length cap').ownBlock := by rw [hL0]; exact h2
          have HB3 := Lib.hid (HEND.out v' w1 h1 h2)
          have HO3 := Lib.hid (HOWN2.out HNZ.out v' w1 h1)
          clear h1 h2
          go_wp2
          go_roundw
          case rel => exact ⟨j, by omega, by go_num, HO3.out, HB3.out⟩
          case measure => simp [intOf]
end Go.Proofs.YtjokcbjahidckaaGreat
/-! quarryref02's numbers, by their worth; quarryref06.Hex. Conditions: numbers are small enough; digits 0-9, a-f. -/
namespace Go.Proofs.YtjokcbjahidckaaGreat
open Go.RowKit

/-- From A on the digits of n are read, in a block of digits. -/
def NA (n : Nat) (A : Option Addr) (c : Nat) (w : World) : Prop := (wd n).length ≤ c ∧ Rd w .u32 A (wd n) ∧ TyA w 180 A ∧ (A = none → c = 0)
abbrev RetN (w : World) (n : Nat) : Ending → World → Prop := RetR w (fun d => .slice (d.o 0) (wd n).length (d.n 0)) (fun d w => NA n (d.o 0) (d.n 0) w)
theorem TyA.grow {T : List TypeId} {w w' : World} {t : TypeId} {A : Option Addr} (hg : Grow T w w') (hT : T.contains t = false) (h : TyA w t A) : TyA w' t A := by
  rcases h with h | ⟨b, off, C, e, h⟩
  · exact .inl h
  · exact .inr ⟨b, off, C, e, hg.block b _ h fun C t fr e => by cases e; exact hT⟩
theorem Rd.growT {T : List TypeId} {w w' : World} {k : IntKind} {t : TypeId} {A : Option Addr} {xs : List Nat} (hg : Grow T w w') (hT : T.contains t = false) (h : Rd w k A xs) (ht : TyA w t A) : Rd w' k A xs := by
  refine ⟨h.1, h.2.imp id ?_⟩
  rintro ⟨b, off, rfl, hx⟩
  refine ⟨b, off, rfl, fun j hj => ?_⟩
  rcases ht with ht | ⟨b', off', C, e, h2⟩
  · cases ht
  · cases e
    have h1 := hg.block b _ h2 fun C t fr e => by cases e; exact hT
    have := hx j hj
    simp only [World.cell?] at this ⊢
    rw [h2] at this
    rw [h1]
    exact this
theorem NA.grow {T : List TypeId} {n c : Nat} {A : Option Addr} {w w' : World} (hg : Grow T w w') (hT : T.contains 180 = false) (h : NA n A c w) : NA n A c w' :=
  ⟨h.1, h.2.1.growT hg hT h.2.2.1, h.2.2.1.grow hg hT, h.2.2.2⟩
theorem na_nil (w : World) : NA 0 none 0 w := ⟨Nat.le_refl _, Rd.nil _ _ _, .inl rfl, fun _ => rfl⟩
theorem toN {w w' : World} {n : Nat} {e : Ending} (h : RetT w .u32 180 (wd n) e w') : RetN w n e w' := by
  obtain ⟨v, rfl, hb, A, cap, rfl, hc, hr, hA, hT⟩ := h
  exact ⟨⟨fun _ => cap, fun _ => A, fun _ => undef⟩, rfl, hb, hc, hr, hT, hA⟩
/-- Greater than all numbers here. -/
def Bg : Nat := B32 ^ 1000
theorem wd_digs (n : Nat) : Digs B32 (wd n) := Digs.dig (by decide) n
theorem wd_len {n k : Nat} (h : n < B32 ^ k) : (wd n).length ≤ k := length_dig_le (by decide) h

section
variable {w : World} {a b c e : Nat} {A B : Option Addr}
theorem add_n (ha : a < Bg) (hb : b < Bg) (h1 : NA a A c w) (h2 : NA b B e w) : Calls Tryz.prog 41 #[.slice A (wd a).length c, .slice B (wd b).length e] w (RetN w (a + b)) := by
  have l1 := wd_len ha
  have l2 := wd_len hb
  have := add32 A B c e (wd a) (wd b) w (by omega) (by omega) h1.2.1 h2.2.1 (wd_digs a) (wd_digs b)
  rw [ofD_wd, ofD_wd] at this
  exact this.mono fun _ _ h => toN h
theorem shl_n {n : Nat} (hn : n < 1000000) (ha : a < Bg) (h1 : NA a A c w) : Calls Tryz.prog 225 #[.slice A (wd a).length c, .int .i64 (n : Nat)] w (RetN w (a * 2 ^ n)) := by
  have l1 := wd_len ha
  have := shl32 A c (wd a) n hn w (by omega) h1.2.1 (wd_digs a)
  rw [ofD_wd] at this
  exact this.mono fun _ _ h => toN h
theorem of_n (hn : a < 18446744073709551616) : Calls Tryz.prog 59 #[.int .u64 (a : Nat)] w (RetN w a) := (of32 a hn w).mono fun _ _ h => toN h
/-- Bytes in a block of bytes. -/
def BA (bs : List Nat) (A : Option Addr) (c : Nat) (w : World) : Prop := bs.length ≤ c ∧ Rd w .u8 A bs ∧ TyA w 5 A ∧ Digs 256 bs
abbrev RetB (w : World) (bs : List Nat) : Ending → World → Prop := RetR w (fun d => .slice (d.o 0) bs.length (d.n 0)) (fun d w => BA bs (d.o 0) (d.n 0) w)
/-- A slice of bytes that came in: its first m bytes. -/
def BIn (m : Nat) (ts : List Nat) (A : Option Addr) (len c : Nat) (w : World) : Prop := len ≤ c ∧ ts.length = min len m ∧ Rd w .u8 A ts ∧ (len ≠ 0 → A ≠ none) ∧ Digs 256 ts
theorem BA.grow {T : List TypeId} {c : Nat} {bs : List Nat} {A : Option Addr} {w w' : World} (hg : Grow T w w') (hT : T.contains 5 = false) (h : BA bs A c w) : BA bs A c w' :=
  ⟨h.1, h.2.1.growT hg hT h.2.2.1, h.2.2.1.grow hg hT, h.2.2.2⟩
theorem toB {w w' : World} {bs : List Nat} {e : Ending} (hd : Digs 256 bs) (h : RetT w .u8 5 bs e w') : RetB w bs e w' := by
  obtain ⟨v, rfl, hb, A, cap, rfl, hc, hr, -, hT⟩ := h
  exact ⟨⟨fun _ => cap, fun _ => A, fun _ => undef⟩, rfl, hb, hc, hr, hT, hd⟩
theorem bytes_n (ha : a < Bg) (h1 : NA a A c w) : Calls Tryz.prog 40 #[.slice A (wd a).length c] w (RetB w (beb a)) := by
  have l1 := wd_len ha
  have := bytes_any A c (wd a) w (by omega) h1.2.1 (wd_digs a)
  rw [ofD_wd] at this
  exact this.mono fun _ _ h => toB (beb_digs a) h
theorem from_n {bs : List Nat} (h : Rd w .u8 A bs) (hd : Digs 256 bs) : Calls Tryz.prog 38 #[.slice A bs.length c] w (RetN w (ofBE bs)) := (from32 A c bs w h hd).mono fun _ _ h => toN h
theorem few_n {len : Nat} {ts : List Nat} (h : BIn 40 ts A len c w) : Calls Tryz.prog 28 #[.slice A len c] w (RetB w ts) := (few_any A c len ts w h.1 h.2.1 h.2.2.1 h.2.2.2.1).mono fun _ _ k => toB h.2.2.2.2 k
end

theorem BIn.below {m len c : Nat} {ts : List Nat} {A : Option Addr} {w w' : World} (h : BIn m ts A len c w) (hb : Below w.heap.size w w') : BIn m ts A len c w' := ⟨h.1, h.2.1, h.2.2.1.below hb, h.2.2.2⟩
theorem hexN_snoc (xs : List Nat) (c : Nat) : hexN (xs ++ [c]) = hexN xs * 16 + hexv c := by
  unfold hexN
  rw [List.reverse_append, List.map_append]
  show hexv c + 16 * ofD 16 (xs.reverse.map hexv) = _
  omega
theorem hexN_take {xs : List Nat} {k : Nat} (h : k < xs.length) : hexN (xs.take (k + 1)) = hexN (xs.take k) * 16 + hexv (xs.getD k 0) := by rw [take_succ_getD h, hexN_snoc]
theorem hexN_lt' {xs : List Nat} (h : ∀ c ∈ xs, isHex c) : hexN xs < 16 ^ xs.length := by
  unfold hexN
  have := ofD_lt (B := 16) (xs := xs.reverse.map hexv) (fun d hd => by
    obtain ⟨c, hc, rfl⟩ := List.mem_map.1 hd
    exact hexv_lt (h c (List.mem_reverse.1 hc)))
  rwa [List.length_map, List.length_reverse] at this
set_option maxHeartbeats 1000000 in
set_option maxRecDepth 20000 in
theorem refhex_any (s : ByteArray) (hs : s.size ≤ 1000) (hh : ∀ i (h : i < s.size), isHex (s[i]'h).toNat) (w : World) :
    Calls Tryz.prog 152 #[.string s] w (RetN w (hexN (s.data.toList.map UInt8.toNat))) := by
  obtain ⟨bs, hbs⟩ : ∃ bs, bs = s.data.toList.map UInt8.toNat := ⟨_, rfl⟩
  have hlen : bs.length = s.size := by rw [hbs]; simp
  have HG : Hid (∀ k (h : k < s.size), (s[k]'h).toNat = bs.getD k 0) := fun k h => by
    have h3 : k < s.data.toList.length := by simpa using h
    rw [hbs, List.getD_eq_getElem?_getD, List.getElem?_eq_getElem (by simpa using h)]
    simp only [Option.getD_some, List.getElem_map]
    rfl
  have HX : Hid (∀ c ∈ bs, isHex c) := fun c hc => by
    rw [hbs] at hc
    obtain ⟨u, hu, rfl⟩ := List.mem_map.1 hc
    obtain ⟨i, hi, rfl⟩ := List.mem_iff_getElem.1 hu
    exact hh i (by simpa using hi)
  rw [← hbs]
  have HL := Lib.hid hlen
  clear hbs hlen hh
  go_enter Tryz.func152, Tryz.ntmps152
  go_wp2
  go_loopw [3, 4, 5] (fun v i _ wr => ∃ k : Nat, k ≤ s.size ∧ i = .int .i64 k ∧ Below w.heap.size w wr ∧ IsT wr .u32 180 v (wd (hexN (bs.take k)))) (fun _ i _ _ => s.size - (intOf i).toNat)
  case atStart => exact ⟨0, Nat.zero_le _, rfl, Below.refl _ _, none, 0, rfl, Nat.le_refl _, Rd.nil _ _ _, fun _ => rfl, .inl rfl⟩
  case round =>
    obtain ⟨k, hk, rfl, hb, A, cap, rfl, hc, hr, hA, hT⟩ := hrel
    have HB := Lib.hid hb
    have HN : Hid (NA (hexN (bs.take k)) A cap wr) := ⟨hc, hr, hT, hA⟩
    have HLT : Hid (hexN (bs.take k) * 16 + 16 < Bg) := by
      show _ < _
      have h1 := hexN_lt' (xs := bs.take k) fun c hc => HX.out c (List.mem_of_mem_take hc)
      have h2 := HL.out
      obtain ⟨m, hm, h4⟩ : ∃ m, m = 1000 ∧ 16 ^ m * 16 + 16 < Bg := ⟨1000, rfl, by unfold Bg; decide +kernel⟩
      have h3 : 16 ^ (bs.take k).length ≤ 16 ^ m := Nat.pow_le_pow_right (by decide) (by rw [List.length_take]; omega)
      omega
    clear hb hc hr hA hT
    by_cases hlt : k < s.size
    · have HST := Lib.hid (hexN_take (xs := bs) (k := k) (by rw [HL.out]; exact hlt))
      obtain ⟨c, hcc⟩ : ∃ c, (s[k]'hlt).toNat = c := ⟨_, rfl⟩
      have hg := HG.out k hlt
      rw [hcc] at hg
      have hcx : isHex c := by rw [hg]; exact HX.out _ (by rw [List.getD_eq_getElem?_getD, List.getElem?_eq_getElem (by rw [HL.out]; exact hlt)]; exact List.getElem_mem _)
      rw [← hg] at HST
      have HCX := Lib.hid hcx
      clear hcx hg
      obtain ⟨N', hN'⟩ : ∃ N', hexN (bs.take (k + 1)) = N' := ⟨_, rfl⟩
      rw [hN'] at HST
      have HNE := Lib.hid hN'
      clear hN'
      generalize hexN (bs.take k) = N at *
      obtain ⟨t, ht⟩ : ∃ t, hexv c = t := ⟨_, rfl⟩
      have HT := Lib.hid ht
      have ht16 : t < 16 := by rw [← ht]; exact hexv_lt HCX.out
      have HS := Lib.hid (shl_n (w := wr) (n := 4) (by decide) (by have := HLT.out; omega) HN.out)
      by_cases h97 : 97 ≤ c
      · have hcb : c ≤ 102 := by have := HCX.out; unfold isHex at this; omega
        have e1 : (c : Int) - 97 + 10 = (t : Int) := by unfold hexv at ht; rw [if_pos h97] at ht; omega
        clear ht
        go_wp2_with fail
        refine HS.out.mono ?_
        rintro e w1 ⟨d1, rfl, hb1, hn1⟩
        have HB1 := Lib.hid hb1
        have HN1 := Lib.hid hn1
        clear hb1 hn1
        go_wp2_with fail
        refine (of_n (w := w1) (a := t) (by omega)).mono ?_
        rintro e w2 ⟨d2, rfl, hb2, hn2⟩
        have HB2 := Lib.hid hb2
        have HN2 := Lib.hid hn2
        clear hb2 hn2
        go_wp2_with fail
        refine (add_n (by have := HLT.out; omega) (by have := HLT.out; omega) (HN1.out.grow (below_grow (T := []) HB2.out) rfl) HN2.out).mono ?_
        rintro e w3 ⟨d3, rfl, hb3, hn3⟩
        have HB3 : Hid (Below w.heap.size w w3) := HB.out.trans ((HB1.out.trans ((HB2.out.trans (hb3.mono HB2.out.size)).mono HB1.out.size)).mono HB.out.size)
        have HN3 : Hid (IsT w3 .u32 180 (.slice (d3.o 0) (wd N').length (d3.n 0)) (wd N')) := by
          have := hn3
          rw [show N * 2 ^ 4 + t = N' from by rw [HST.out, HT.out]] at this
          exact ⟨_, _, rfl, this.1, this.2.1, this.2.2.2, this.2.2.1⟩
        rw [show N * 2 ^ 4 + t = N' from by rw [HST.out, HT.out]]
        clear hb3 hn3
        go_wp2
        go_roundw
        case rel => exact ⟨k + 1, hlt, by go_num, HB3.out, HNE.out.symm ▸ HN3.out⟩
        case measure => simp [intOf]; omega
      · have hcb : c ≤ 57 := by have := HCX.out; unfold isHex at this; omega
        have hcb2 : 48 ≤ c := by have := HCX.out; unfold isHex at this; omega
        have e1 : (c : Int) - 48 = (t : Int) := by unfold hexv at ht; rw [if_neg h97] at ht; omega
        clear ht
        go_wp2_with fail
        refine HS.out.mono ?_
        rintro e w1 ⟨d1, rfl, hb1, hn1⟩
        have HB1 := Lib.hid hb1
        have HN1 := Lib.hid hn1
        clear hb1 hn1
        go_wp2_with fail
        refine (of_n (w := w1) (a := t) (by omega)).mono ?_
        rintro e w2 ⟨d2, rfl, hb2, hn2⟩
        have HB2 := Lib.hid hb2
        have HN2 := Lib.hid hn2
        clear hb2 hn2
        go_wp2_with fail
        refine (add_n (by have := HLT.out; omega) (by have := HLT.out; omega) (HN1.out.grow (below_grow (T := []) HB2.out) rfl) HN2.out).mono ?_
        rintro e w3 ⟨d3, rfl, hb3, hn3⟩
        have HB3 : Hid (Below w.heap.size w w3) := HB.out.trans ((HB1.out.trans ((HB2.out.trans (hb3.mono HB2.out.size)).mono HB1.out.size)).mono HB.out.size)
        have HN3 : Hid (IsT w3 .u32 180 (.slice (d3.o 0) (wd N').length (d3.n 0)) (wd N')) := by
          have := hn3
          rw [show N * 2 ^ 4 + t = N' from by rw [HST.out, HT.out]] at this
          exact ⟨_, _, rfl, this.1, this.2.1, this.2.2.2, this.2.2.1⟩
        rw [show N * 2 ^ 4 + t = N' from by rw [HST.out, HT.out]]
        clear hb3 hn3
        go_wp2
        go_roundw
        case rel => exact ⟨k + 1, hlt, by go_num, HB3.out, HNE.out.symm ▸ HN3.out⟩
        case measure => simp [intOf]; omega
    · have hkk : k = s.size := by omega
      subst hkk
      have HE : Hid (RetN w (hexN bs) (.returned (.slice A (wd (hexN (bs.take s.size))).length cap)) wr) := by
        show RetN _ _ _ _
        rw [List.take_of_length_le (by rw [HL.out]; exact Nat.le_refl _)]
        have := HN.out
        rw [List.take_of_length_le (by rw [HL.out]; exact Nat.le_refl _)] at this
        exact ⟨⟨fun _ => cap, fun _ => A, fun _ => undef⟩, rfl, HB.out, this⟩
      go_wp2
      go_ret
      exact HE.out
end Go.Proofs.YtjokcbjahidckaaGreat
