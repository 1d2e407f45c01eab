/- Texts put together: Sym, Sym2, Sym3, Sym4, Prm, Sym5, Abb, Group1, Group2. Conditions: those of each part. -/
import Derived.Test.YtjokcbjahidckaaGreatG01
import Derived.Deep.MidRow
import Derived.IntWalk
set_option linter.unusedVariables false
/-! Straight code walked by what is known: of the frame (some temporaries), of memory (own blocks, whole). Condition: none but what is handed in. -/
namespace Go.Proofs.YtjokcbjahidckaaGreat
open Go.RowKit

/-- Of the frame these temporaries are known. -/
structure Fr (F : List (Nat × Value)) (n : Nat) (a : Act) : Prop where
  sz : a.tmps.size = n
  df : a.defers = []
  at_ : ∀ t v, F.lookup t = some v → a.tmps[t]? = some v

/-- Of memory these own blocks are known, whole. -/
structure Kn (N : Nat) (K : List (Nat × List Value × TypeId)) (w : World) : Prop where
  at_ : ∀ e ∈ K, N ≤ e.1 ∧ w.heap[e.1]? = some (.cells e.2.1.toArray e.2.2 (0, 0))
  ne : K.Pairwise fun x y => x.1 ≠ y.1

theorem Kn.lt {N : Nat} {K : List (Nat × List Value × TypeId)} {w : World} (h : Kn N K w) {e : Nat × List Value × TypeId} (he : e ∈ K) : e.1 < w.heap.size := (Array.getElem?_eq_some_iff.1 (h.at_ e he).2).1
theorem Kn.below {N : Nat} {K : List (Nat × List Value × TypeId)} {w w' : World} (h : Kn N K w) (hb : Below w.heap.size w w') : Kn N K w' :=
  ⟨fun e he => ⟨(h.at_ e he).1, by rw [hb.block _ (h.lt he)]; exact (h.at_ e he).2⟩, h.ne⟩
theorem Kn.nil (N : Nat) (w : World) : Kn N [] w := ⟨fun _ h => (by cases h), List.Pairwise.nil⟩

/-- Growth leaves it true (variables of the types T may be written). -/
def Stable (T : List TypeId) (φ : World → Prop) : Prop := ∀ w w', Grow T w w' → φ w → φ w'
def StabAll (T : List TypeId) : List (World → Prop) → Prop
  | [] => True
  | φ :: Φ => Stable T φ ∧ StabAll T Φ
theorem StabAll.at_ {T : List TypeId} : ∀ {Φ : List (World → Prop)}, StabAll T Φ → ∀ φ ∈ Φ, Stable T φ
  | [], _, _, h => by cases h
  | φ :: Φ, h, ψ, hm => by
    rcases List.mem_cons.1 hm with rfl | hm
    · exact h.1
    · exact StabAll.at_ h.2 ψ hm
def AllF (w : World) : List (World → Prop) → Prop
  | [] => True
  | φ :: Φ => φ w ∧ AllF w Φ
theorem AllF.at_ {w : World} : ∀ {Φ : List (World → Prop)}, AllF w Φ → ∀ φ ∈ Φ, φ w
  | [], _, _, h => by cases h
  | φ :: Φ, h, ψ, hm => by
    rcases List.mem_cons.1 hm with rfl | hm
    · exact h.1
    · exact AllF.at_ h.2 ψ hm

/-- What is known at a point: outer memory stands, own blocks, facts. -/
structure Inv (N : Nat) (w00 : World) (K : List (Nat × List Value × TypeId)) (Φ : List (World → Prop)) (w : World) : Prop where
  below : Below N w00 w
  kn : Kn N K w
  sz : N ≤ w.heap.size
  facts : ∀ φ ∈ Φ, φ w

theorem Inv.start (w : World) {Φ : List (World → Prop)} (hf : AllF w Φ) : Inv w.heap.size w [] Φ w := ⟨Below.refl _ _, Kn.nil _ _, Nat.le_refl _, hf.at_⟩
theorem Inv.start0 (w : World) : Inv w.heap.size w [] [] w := Inv.start w trivial
theorem Inv.phi {N : Nat} {w00 w : World} {K : List (Nat × List Value × TypeId)} {Φ : List (World → Prop)} (h : Inv N w00 K Φ w) (Φ' : List (World → Prop)) (hf : AllF w Φ') : Inv N w00 K Φ' w := ⟨h.below, h.kn, h.sz, hf.at_⟩
theorem Inv.grow {N : Nat} {T : List TypeId} {w00 w w' : World} {K : List (Nat × List Value × TypeId)} {Φ : List (World → Prop)} (h : Inv N w00 K Φ w) (hs : StabAll T Φ) (hb : Below w.heap.size w w') (hg : Grow T w w') : Inv N w00 K Φ w' :=
  ⟨h.below.trans (hb.mono h.sz), h.kn.below hb, Nat.le_trans h.sz hb.size, fun φ hφ => hs.at_ φ hφ _ _ hg (h.facts φ hφ)⟩
theorem Inv.drew {N : Nat} {T : List TypeId} {w00 w : World} {K : List (Nat × List Value × TypeId)} {Φ : List (World → Prop)} (h : Inv N w00 K Φ w) (hs : StabAll T Φ) : Inv N w00 K Φ w.drew :=
  ⟨h.below.drew, ⟨h.kn.at_, h.kn.ne⟩, h.sz, fun φ hφ => hs.at_ φ hφ _ _ (Grow.refl T w).drew (h.facts φ hφ)⟩
theorem Inv.fact {N : Nat} {w00 w : World} {K : List (Nat × List Value × TypeId)} {Φ : List (World → Prop)} (h : Inv N w00 K Φ w) (k : Nat) {φ : World → Prop} (hk : Φ[k]? = some φ) : φ w := h.facts φ (List.mem_of_getElem? hk)

/-- The new blocks; the new facts. -/
def Eff.news (E : Array Eff) (g : Got) : List (Nat × List Value × TypeId) :=
  (List.range E.size).filterMap fun i => match (E[i]? : Option Eff) with | some (Eff.new _ _ t) => some (g.γ i, (Eff.cont E g i).toList, t) | _ => none
def Eff.said (E : Array Eff) (g : Got) : List (World → Prop) :=
  (List.range E.size).filterMap fun i => match (E[i]? : Option Eff) with | some (Eff.ex ds _ R) => some (R (ds.map (Eff.env E g)) (g.δ i)) | _ => none

/-- What an operand is worth. -/
def rho (F : List (Nat × Value)) (ops : Array Oper) (E : Array Eff) (g : Got) (i : Nat) : Operand → Value
  | .tmp t => match ownOp ops t with | some j => if j < i then Eff.slot E g j else (F.lookup t).getD undef | none => (F.lookup t).getD undef
  | .const v => v
  | .global g => .pointer (some ⟨g, 0, none⟩)
  | .func f => .func (.func f) #[] #[]

/-- Is the temporary known? -/
def known (F : List (Nat × Value)) (ops : Array Oper) (m : Nat) (t : Nat) : Bool := (match ownOp ops t with | some j => decide (j < m) | none => false) || (F.lookup t).isSome

/-- Is the operation wanted? -/
def wantS (F : List (Nat × Value)) (ops : Array Oper) (E : Array Eff) (g : Got) (i : Nat) (o : Oper) : Bool :=
  match o.guard with
  | none => true
  | some (q, want) => match (ops[q]?).bind (·.dst) with
    | some t => match rho F ops E g i (.tmp t) with | .bool b => b == want | _ => false
    | none => false

/-- What is owed for one operation. -/
def Owe (P : Program) (N : Nat) (T : List TypeId) (w00 : World) (K : List (Nat × List Value × TypeId)) (Φ : List (World → Prop)) (F : List (Nat × Value)) (ops : Array Oper) (E : Array Eff) (g : Got) (i : Nat) (o : Oper) : Eff → Prop
  | .val ds v => wantS F ops E g i o = true ∧ ∀ w, Inv N w00 K Φ w → Facts E g o w → valU P w (v (ds.map (Eff.env E g))) ((execOp (rho F ops E g i) o).run P w)
  | .new ds cs t => ((putOp E i).isNone || T.contains t) = true ∧ wantS F ops E g i o = true ∧ ∀ w, newU w (cs (ds.map (Eff.env E g))) t ((execOp (rho F ops E g i) o).run P w)
  | .put j ds cs => wantS F ops E g i o = true ∧ ∀ w ds' cs' t, E[j]? = some (.new ds' cs' t) → w.heap[g.γ j]? = some (.cells (Eff.cs0 E g j) t (0, 0)) → putU w (g.γ j) (cs (ds.map (Eff.env E g))) t ((execOp (rho F ops E g i) o).run P w)
  | .ex ds sh R => (∀ l v w w', Grow T w w' → R l v w → R l v w') ∧ wantS F ops E g i o = true ∧ ∀ w, Inv N w00 K Φ w → Facts E g o w → exU P w sh (R (ds.map (Eff.env E g))) ((execOp (rho F ops E g i) o).run P w)
  | .off => wantS F ops E g i o = false

def OweAll (P : Program) (N : Nat) (T : List TypeId) (w00 : World) (K : List (Nat × List Value × TypeId)) (Φ : List (World → Prop)) (F : List (Nat × Value)) (ops : Array Oper) (E : Array Eff) (g : Got) : List Oper → List Eff → Nat → Prop
  | _, [], _ => True
  | [], _ :: _, _ => False
  | o :: os, e :: es, i => Owe P N T w00 K Φ F ops E g i o e ∧ OweAll P N T w00 K Φ F ops E g os es (i + 1)

theorem OweAll.at_ {P : Program} {N : Nat} {T : List TypeId} {w00 : World} {K : List (Nat × List Value × TypeId)} {Φ : List (World → Prop)} {F : List (Nat × Value)} {ops : Array Oper} {E : Array Eff} {g : Got} :
    ∀ {os : List Oper} {es : List Eff} {k : Nat}, OweAll P N T w00 K Φ F ops E g os es k → ∀ (i : Nat) e, es[i]? = some e → ∃ o, os[i]? = some o ∧ Owe P N T w00 K Φ F ops E g (k + i) o e
  | _, [], _, _, i, e, h => by simp at h
  | [], _ :: _, _, h, _, _, _ => h.elim
  | o :: os, e' :: es, k, h, 0, e, he => by
    simp at he
    subst he
    exact ⟨o, rfl, h.1⟩
  | o :: os, e' :: es, k, h, i + 1, e, he => by
    obtain ⟨o', h1, h2⟩ := OweAll.at_ h.2 i e (by simpa using he)
    exact ⟨o', by simpa using h1, by rw [show k + (i + 1) = k + 1 + i from by omega]; exact h2⟩

theorem rho_eval {F : List (Nat × Value)} {ops : Array Oper} {E : Array Eff} {g : Got} {n i : Nat} {a : Act} (hF : Fr F n a) (hn : ∀ d k, ownOp ops d = some k → k < i → d < n) (t : Nat) (hk : known F ops i t = true) :
    (layA ops (Eff.slot E g) (firstB ops.size i) a).tmps[t]? = some (rho F ops E g i (.tmp t)) := by
  unfold layA
  simp only [Array.getElem?_mapIdx]
  unfold known at hk
  unfold layT
  cases h : ownOp ops t with
  | none =>
    rw [h] at hk
    simp only [Bool.false_or] at hk
    obtain ⟨v, hv⟩ := Option.isSome_iff_exists.1 hk
    simp only [rho, h]
    rw [hF.at_ t v hv, hv]
    rfl
  | some j =>
    rw [h] at hk
    simp only [rho, h]
    have hjo := (ownOp_some h).1
    simp only [firstB_get hjo]
    by_cases hj : j < i
    · simp only [if_pos hj, decide_eq_true hj, if_true]
      have ht : t < a.tmps.size := by rw [hF.sz]; exact hn t j h hj
      rw [Array.getElem?_eq_getElem ht]
      rfl
    · simp only [if_neg hj, decide_eq_false hj, Bool.false_eq_true, if_false]
      simp only [hj, decide_false, Bool.false_or] at hk
      obtain ⟨v, hv⟩ := Option.isSome_iff_exists.1 hk
      rw [hF.at_ t v hv, hv]
      rfl

/-- Everything that the operations look at is known; what they write lies in the frame. -/
def symOk (F : List (Nat × Value)) (ops : Array Oper) (E : Array Eff) (n : Nat) : Bool :=
  Eff.ok ops E && (List.range E.size).all fun i => match ops[i]? with
    | some o => ((o.looksAt ops).all fun t => known F ops i t) && (match o.dst with | some d => decide (d < n) | none => true)
    | none => true

theorem symOk.out {F : List (Nat × Value)} {ops : Array Oper} {E : Array Eff} {n : Nat} (h : symOk F ops E n = true) :
    Eff.ok ops E = true ∧ (∀ (i : Nat) o, i < E.size → ops[i]? = some o → (∀ t, t ∈ o.looksAt ops → known F ops i t = true) ∧ ∀ d, o.dst = some d → d < n) ∧ (∀ d i, ownOp ops d = some i → i < E.size → d < n) := by
  simp only [symOk, Bool.and_eq_true, List.all_eq_true, List.mem_range] at h
  obtain ⟨h1, h2⟩ := h
  have h3 : ∀ (i : Nat) o, i < E.size → ops[i]? = some o → (∀ t, t ∈ o.looksAt ops → known F ops i t = true) ∧ ∀ d, o.dst = some d → d < n := by
    intro i o hi ho
    have h4 := h2 i hi
    rw [ho] at h4
    simp only [Bool.and_eq_true, List.all_eq_true] at h4
    refine ⟨h4.1, fun d hd => ?_⟩
    have g2 := h4.2
    rw [hd] at g2
    exact of_decide_eq_true g2
  refine ⟨h1, h3, fun d i hd hi => ?_⟩
  obtain ⟨hlt, hb⟩ := ownOp_some hd
  cases ho : ops[i]? with
  | none => rw [ho] at hb; cases hb
  | some o => rw [ho] at hb; exact (h3 i o hi ho).2 d hb

theorem Owe.owed {P : Program} {N : Nat} {T : List TypeId} {w00 w0 : World} {K : List (Nat × List Value × TypeId)} {Φ : List (World → Prop)} {F : List (Nat × Value)} {ops : Array Oper} {E : Array Eff} {n : Nat} {a : Act} (hF : Fr F n a) (hI : Inv N w00 K Φ w0) (hst : StabAll T Φ)
    (hok : symOk F ops E n = true) (hO : ∀ g, OweAll P N T w00 K Φ F ops E g ops.toList E.toList 0) (i : Nat) (hi : i < E.size) : Owed P T ops E a w0 i := by
  obtain ⟨h1, h2, h3⟩ := symOk.out hok
  have hE := EffOk.of h1
  have hfin : ∀ g, finA (Eff.slot E g) (ops.toList.take i) 0 a = layA ops (Eff.slot E g) (firstB ops.size i) a := fun g => finA_take (a := a) (fun i' o' d hi' => hE.hd i' o' d (by omega)) (by have := hE.le; omega)
  have hlt : i < ops.size := Nat.lt_of_lt_of_le hi hE.le
  have ho : ops[i]? = some ops[i] := Array.getElem?_eq_getElem hlt
  have heE : E[i]? = some E[i] := Array.getElem?_eq_getElem hi
  have hown : ∀ g, Owe P N T w00 K Φ F ops E g i ops[i] E[i] := fun g => by
    obtain ⟨o', g1, g2⟩ := (hO g).at_ i E[i] (by simp [hi])
    have : o' = ops[i] := by simpa [hlt] using g1.symm
    subst this
    rwa [Nat.zero_add] at g2
  obtain ⟨hk, _⟩ := h2 i _ hi ho
  have hev : ∀ g, execOp (finA (Eff.slot E g) (ops.toList.take i) 0 a).eval ops[i] = execOp (rho F ops E g i) ops[i] := by
    intro g
    rw [hfin]
    refine execOp_congr _ (hE.sel i _ hi ho) fun x hx => ?_
    cases x with
    | tmp t =>
      have ht : t ∈ ops[i].looksAt ops := List.mem_append_left _ (List.mem_filterMap.2 ⟨.tmp t, by simpa using hx, rfl⟩)
      have := rho_eval (E := E) (g := g) hF (fun d k hd hk => h3 d k hd (by omega)) t (hk t ht)
      show (layA ops (Eff.slot E g) (firstB ops.size i) a).tmps.getD t undef = _
      rw [Array.getD_eq_getD_getElem?, this]; rfl
    | const v => rfl
    | global q => rfl
    | func f => rfl
  have hw : ∀ g, Region.wanted ops[i] (yielded ops (finA (Eff.slot E g) (ops.toList.take i) 0 a).tmps) = wantS F ops E g i ops[i] := by
    intro g
    rw [hfin]
    unfold Region.wanted wantS
    cases hg : ops[i].guard with
    | none => rfl
    | some gw =>
      obtain ⟨q, want⟩ := gw
      simp only
      unfold yielded
      cases hd : (ops[q]?).bind (·.dst) with
      | none => rfl
      | some t =>
        have ht : t ∈ ops[i].looksAt ops := List.mem_append_right _ (by rw [hg]; simp [hd])
        simp only [Option.bind_some]
        rw [rho_eval (E := E) (g := g) hF (fun d k hd hk => h3 d k hd (by omega)) t (hk t ht)]
        cases rho F ops E g i (.tmp t) <;> simp
  unfold Owed
  rw [ho, heE]
  simp only
  intro g w hb hg hfa
  have hI' := hI.grow hst hb hg
  have h := hown g
  cases hEi : E[i] with
  | off =>
    rw [hEi] at h
    simp only
    rw [hw]
    exact h
  | val ds v =>
    rw [hEi] at h
    simp only
    rw [hw, hev]
    exact ⟨h.1, h.2 w hI' hfa⟩
  | ex ds sh R =>
    rw [hEi] at h
    simp only
    rw [hw, hev]
    exact ⟨h.2.1, h.2.2 w hI' hfa⟩
  | new ds cs t =>
    rw [hEi] at h
    simp only
    rw [hw, hev]
    exact ⟨h.2.1, h.2.2 w⟩
  | put j ds cs =>
    rw [hEi] at h
    simp only
    rw [hw, hev]
    exact ⟨h.1, fun ds' cs' t e hc => h.2 w ds' cs' t e hc⟩

theorem OweAll.effT {P : Program} {N : Nat} {T : List TypeId} {w00 : World} {K : List (Nat × List Value × TypeId)} {Φ : List (World → Prop)} {F : List (Nat × Value)} {ops : Array Oper} {E : Array Eff} (hO : ∀ g, OweAll P N T w00 K Φ F ops E g ops.toList E.toList 0) : EffT T E := by
  refine ⟨fun i ds sh R hE => ?_, fun i ds cs t k hE hp => ?_⟩
  · obtain ⟨o, _, h⟩ := (hO ⟨fun _ => 0, fun _ => dat0⟩).at_ i _ (by simpa using hE)
    exact h.1
  · obtain ⟨o, _, h⟩ := (hO ⟨fun _ => 0, fun _ => dat0⟩).at_ i _ (by simpa using hE)
    have h1 := h.1
    rw [Nat.zero_add, hp] at h1
    simpa using h1

theorem news_mem {E : Array Eff} {g : Got} {e : Nat × List Value × TypeId} (h : e ∈ Eff.news E g) : ∃ i ds cs t, E[i]? = some (.new ds cs t) ∧ e = (g.γ i, (Eff.cont E g i).toList, t) := by
  unfold Eff.news at h
  obtain ⟨i, _, hi⟩ := List.mem_filterMap.1 h
  cases hE : E[i]? with
  | none => rw [hE] at hi; cases hi
  | some x =>
    rw [hE] at hi
    cases x with
    | new ds cs t => exact ⟨i, ds, cs, t, hE, (Option.some.inj hi).symm⟩
    | val ds v => cases hi
    | put j ds c => cases hi
    | ex ds sh R => cases hi
    | off => cases hi
theorem said_mem {E : Array Eff} {g : Got} {φ : World → Prop} (h : φ ∈ Eff.said E g) : ∃ (i : Nat) (ds : List Nat) (sh : Dat → Value) (R : List Dat → Dat → World → Prop), E[i]? = some (Eff.ex ds sh R) ∧ φ = R (ds.map (Eff.env E g)) (g.δ i) := by
  unfold Eff.said at h
  obtain ⟨i, _, hi⟩ := List.mem_filterMap.1 h
  cases hE : E[i]? with
  | none => rw [hE] at hi; cases hi
  | some x =>
    rw [hE] at hi
    cases x with
    | ex ds sh R => exact ⟨i, ds, sh, R, hE, (Option.some.inj hi).symm⟩
    | val ds v => cases hi
    | put j ds c => cases hi
    | new ds cs t => cases hi
    | off => cases hi

theorem EffEnd.know {T : List TypeId} {ops : Array Oper} {E : Array Eff} {n N : Nat} {a a' : Act} {w00 w0 w' : World} {K : List (Nat × List Value × TypeId)} {Φ : List (World → Prop)} {F : List (Nat × Value)} (hF : Fr F n a) (hI : Inv N w00 K Φ w0) (hst : StabAll T Φ) (hT : EffT T E)
    (hok : symOk F ops E n = true) (h : EffEnd T ops E E.size a w0 a' w') :
    ∃ g, (∀ F', (∀ t v, F'.lookup t = some v → known F ops E.size t = true ∧ rho F ops E g E.size (.tmp t) = v) → Fr F' n a') ∧ Inv N w00 (K ++ Eff.news E g) (Φ ++ Eff.said E g) w' := by
  obtain ⟨h1, h2, h3⟩ := symOk.out hok
  have hE := EffOk.of h1
  obtain ⟨g, rfl, hb, hgr, hblk, hne, hfa⟩ := h
  have hfin : finA (Eff.slot E g) (ops.toList.take E.size) 0 a = layA ops (Eff.slot E g) (firstB ops.size E.size) a := finA_take (a := a) hE.hd hE.le
  have hI' := hI.grow hst hb hgr
  refine ⟨g, fun F' hF' => ⟨by rw [hfin]; simp [layA, hF.sz], by rw [hfin]; exact hF.df, fun t v ht => ?_⟩, hI'.below, ⟨fun e he => ?_, ?_⟩, hI'.sz, fun φ hφ => ?_⟩
  · obtain ⟨g1, g2⟩ := hF' t v ht
    rw [hfin, rho_eval (E := E) (g := g) hF h3 t g1, g2]
  · rcases List.mem_append.1 he with h | h
    · exact hI'.kn.at_ e h
    · obtain ⟨i, ds, cs, t, hEi, rfl⟩ := news_mem h
      obtain ⟨b1, b2, b3⟩ := hblk i ds cs t hEi
      exact ⟨Nat.le_trans hI.sz b1, b3⟩
  · rw [List.pairwise_append]
    refine ⟨hI'.kn.ne, ?_, fun x hx y hy => ?_⟩
    · unfold Eff.news
      rw [List.pairwise_filterMap]
      refine List.Pairwise.imp (R := fun i j => i ≠ j) ?_ (List.nodup_range (n := E.size))
      intro i j hij x hx y hy
      cases hEi : E[i]? with
      | none => rw [hEi] at hx; cases hx
      | some ei =>
        cases hEj : E[j]? with
        | none => rw [hEj] at hy; cases hy
        | some ej =>
          rw [hEi] at hx
          rw [hEj] at hy
          cases ei <;> first | (cases hx; done) | skip
          cases ej <;> first | (cases hy; done) | skip
          cases hx
          cases hy
          exact hne i j _ _ _ _ _ _ hEi hEj hij
    · obtain ⟨i, ds, cs, t, hEi, rfl⟩ := news_mem hy
      have := hI.kn.lt hx
      have := (hblk i ds cs t hEi).1
      show x.1 ≠ g.γ i
      omega
  · rcases List.mem_append.1 hφ with h | h
    · exact hI'.facts φ h
    · obtain ⟨i, ds, sh, R, hEi, rfl⟩ := said_mem h
      exact hfa i ds sh R hEi

theorem lookup_of {F : List (Nat × Value)} {p : Nat → Bool} {r : Nat → Value} (h1 : F.all (fun e => p e.1) = true) (h2 : F.map (fun e => r e.1) = F.map (·.2)) {t : Nat} {v : Value} (h : F.lookup t = some v) : p t = true ∧ r t = v := by
  induction F with
  | nil => cases h
  | cons e F ih =>
    obtain ⟨t', v'⟩ := e
    simp only [List.all_cons, Bool.and_eq_true] at h1
    simp only [List.map_cons, List.cons.injEq] at h2
    rw [List.lookup_cons] at h
    by_cases e : t == t'
    · rw [e] at h
      have : t = t' := by simpa using e
      subst this
      cases h
      exact ⟨h1.1, h2.1⟩
    · have e' : (t == t') = false := by simpa using e
      rw [e'] at h
      exact ih h1.2 h2.2 h

/-- THE LAW: a region. -/
theorem sym_region {P : Program} {N n : Nat} {w00 w : World} {K : List (Nat × List Value × TypeId)} {Φ : List (World → Prop)} {F : List (Nat × Value)} {ops : Array Oper} {Q : Exit → Act → World → Prop} {id : Nat} {d : Bool} {a : Act} (T : List TypeId) (E : Array Eff)
    (F' : Got → List (Nat × Value)) (K' : Got → List (Nat × List Value × TypeId)) (Φ' : Got → List (World → Prop))
    (hm : P.follows .mixedOrders = true) (hF : Fr F n a) (hI : Inv N w00 K Φ w) (hst : StabAll T Φ) (hok : symOk F ops E n = true) (hs : E.size = ops.size)
    (hO : ∀ g, OweAll P N T w00 K Φ F ops E g ops.toList E.toList 0)
    (hF' : ∀ g, (F' g).all (fun e => known F ops E.size e.1) = true ∧ (F' g).map (fun e => rho F ops E g E.size (.tmp e.1)) = (F' g).map (·.2)) (hK' : ∀ g, K ++ Eff.news E g = K' g) (hΦ' : ∀ g, Φ ++ Eff.said E g = Φ' g)
    (h : ∀ g a' w', Fr (F' g) n a' → Inv N w00 (K' g) (Φ' g) w' → Q .normal a' w') : (Code.region id ops d).wp P Q a w := by
  have hT := OweAll.effT hO
  have key : ∀ w0, Inv N w00 K Φ w0 → ∀ a' w', EffEnd T ops E E.size a w0 a' w' → Q .normal a' w' := by
    intro w0 hI a' w' he
    obtain ⟨g, h1, h2⟩ := he.know hF hI hst hT hok
    rw [hK', hΦ'] at h2
    refine h g a' w' (h1 _ fun t v ht => ?_) h2
    obtain ⟨g1, g2⟩ := hF' g
    exact lookup_of (p := fun t => known F ops E.size t) (r := fun t => rho F ops E g E.size (.tmp t)) g1 g2 ht
  cases d with
  | false => exact wp_region_text E hT (symOk.out hok).1 hs (fun i hi => Owe.owed hF hI hst hok hO i hi) (key w hI)
  | true => exact wp_region_eff E hT hm (symOk.out hok).1 hs (fun i hi => Owe.owed hF (hI.drew hst) hst hok hO i hi) (key w.drew (hI.drew hst))
end Go.Proofs.YtjokcbjahidckaaGreat
/-! Straight code: what single operations do; a store at a region's end; conditions, returns. Condition: none but what is handed in. -/
namespace Go.Proofs.YtjokcbjahidckaaGreat
open Go.RowKit

theorem pureU {P : Program} {w : World} {v : Value} {r : Result Next} (h : r = .ok (.value v) w) : valU P w v r := by rw [h]; exact ⟨rfl, rfl⟩
theorem callU {P : Program} {w : World} {v : Value} {r : Result Next} {f : FuncId} {args : Array Value} (h : r = .ok (.enter f args) w) (hc : Calls P f args w (Ret w v)) : valU P w v r := by rw [h]; exact ⟨rfl, hc⟩
theorem exU_call {P : Program} {w : World} {sh : Dat → Value} {R : Dat → World → Prop} {r : Result Next} {f : FuncId} {args : Array Value} (h : r = .ok (.enter f args) w) (hc : Calls P f args w (RetR w sh R)) : exU P w sh R r := by rw [h]; exact ⟨rfl, hc⟩
theorem newO {w : World} {cs : Array Value} {t : TypeId} {r : Result Next} (h : r = .ok (.value (.pointer (some ⟨w.heap.size, 0, none⟩))) (w.alloc (.cells cs t))) : newU w cs t r := by rw [h]; exact ⟨rfl, rfl⟩

theorem rangeAt_of {w : World} {b off : Nat} {C cs : List Value} {t : TypeId} (hb : w.heap[b]? = some (.cells C.toArray t (0, 0))) (hc : (C.drop off).take cs.length = cs) : w.rangeAt b off cs := by
  intro j v hv
  rw [cell_of_row w b (off + j) C.toArray t (0, 0) hb]
  rw [← hc] at hv
  rw [List.getElem?_take] at hv
  split at hv
  · rw [List.getElem?_drop] at hv
    simpa using hv
  · cases hv

theorem rangeAt_below {N : Nat} {w w' : World} {b off : Nat} {cs : List Value} (h : w.rangeAt b off cs) (hb : Below N w w') (hlt : b < N) : w'.rangeAt b off cs := fun j v hv => by
  rw [hb.cell hlt]; exact h j v hv

section
variable {P : Program} {N : Nat} {w00 w : World} {K : List (Nat × List Value × TypeId)} {Φ : List (World → Prop)} {ρ : Operand → Value} {o : Oper} {ty : TypeId} {x : Operand}

theorem loadR {b off : Nat} {cs : List Value} {d : TypeDesc} (hr : w.rangeAt b off cs) (ho : o.op = .load ty x) (hx : ρ x = .pointer (some ⟨b, off, none⟩)) (hd : P.underlying ty = some d) (hr2 : d.isRow = true) (hi : (P.info? ty).map (·.size) = some cs.length) :
    valU P w (.agg cs.toArray) ((execOp ρ o).run P w) := by
  apply pureU
  unfold execOp
  simp only [ho, hx, Instr.loadAt, Instr.sureAddr, Sem.run_bind, Sem.run_pure, Result.andThen_ok, run_loadVar_mid w b off ty cs d hr hd hr2 hi]

/-- A load out of an own block (number k of those known), from cell off on. -/
theorem loadK (k off : Nat) (cs : List Value) {b : Nat} {C : List Value} {t : TypeId} {d : TypeDesc} (hI : Inv N w00 K Φ w) (hk : K[k]? = some (b, C, t)) (hc : (C.drop off).take cs.length = cs) (ho : o.op = .load ty x) (hx : ρ x = .pointer (some ⟨b, off, none⟩))
    (hd : P.underlying ty = some d) (hr2 : d.isRow = true) (hi : (P.info? ty).map (·.size) = some cs.length) : valU P w (.agg cs.toArray) ((execOp ρ o).run P w) :=
  loadR (rangeAt_of (hI.kn.at_ _ (List.mem_of_getElem? hk)).2 hc) ho hx hd hr2 hi
/-- A load out of memory that was there. -/
theorem loadO (b off : Nat) (cs : List Value) {d : TypeDesc} (hI : Inv N w00 K Φ w) (hb : b < N) (hr : w00.rangeAt b off cs) (ho : o.op = .load ty x) (hx : ρ x = .pointer (some ⟨b, off, none⟩))
    (hd : P.underlying ty = some d) (hr2 : d.isRow = true) (hi : (P.info? ty).map (·.size) = some cs.length) : valU P w (.agg cs.toArray) ((execOp ρ o).run P w) :=
  loadR (rangeAt_below hr hI.below hb) ho hx hd hr2 hi

theorem run_load1 {b off : Nat} {v : Value} (hc : w.cell? ⟨b, off, none⟩ = some v) (ha : (isAgg ty).run P w = .ok false w) : (loadVar ty ⟨b, off, none⟩).run P w = .ok v w := by
  unfold loadVar
  rw [Sem.run_bind, ha]
  simp [Result.andThen, load, Sem.run, hc]
theorem load1 {b off : Nat} {v : Value} (hc : w.cell? ⟨b, off, none⟩ = some v) (ho : o.op = .load ty x) (hx : ρ x = .pointer (some ⟨b, off, none⟩)) (ha : (isAgg ty).run P w = .ok false w) : valU P w v ((execOp ρ o).run P w) := by
  apply pureU
  unfold execOp
  simp only [ho, hx, Instr.loadAt, Instr.sureAddr, Sem.run_bind, Sem.run_pure, Result.andThen_ok, run_load1 hc ha]
theorem load1K (k off : Nat) (v : Value) {b : Nat} {C : List Value} {t : TypeId} (hI : Inv N w00 K Φ w) (hk : K[k]? = some (b, C, t)) (hc : C[off]? = some v) (ho : o.op = .load ty x) (hx : ρ x = .pointer (some ⟨b, off, none⟩)) (ha : (isAgg ty).run P w = .ok false w) : valU P w v ((execOp ρ o).run P w) :=
  load1 (by rw [cell_of_row w b off C.toArray t (0, 0) (hI.kn.at_ _ (List.mem_of_getElem? hk)).2]; simpa using hc) ho hx ha
theorem load1O (b off : Nat) (v : Value) (hI : Inv N w00 K Φ w) (hb : b < N) (hc : w00.cell? ⟨b, off, none⟩ = some v) (ho : o.op = .load ty x) (hx : ρ x = .pointer (some ⟨b, off, none⟩)) (ha : (isAgg ty).run P w = .ok false w) : valU P w v ((execOp ρ o).run P w) :=
  load1 (by rw [hI.below.cell hb]; exact hc) ho hx ha
end

theorem offU {P : Program} {N : Nat} {T : List TypeId} {w00 : World} {K : List (Nat × List Value × TypeId)} {Φ : List (World → Prop)} {F : List (Nat × Value)} {ops : Array Oper} {E : Array Eff} {g : Got} {i : Nat} {o : Oper} (h : wantS F ops E g i o = false) : Owe P N T w00 K Φ F ops E g i o .off := h

/-! ### Stores -/
def putL (C : List Value) : Nat → List Value → List Value
  | _, [] => C
  | o, v :: r => putL (C.set o v) (o + 1) r

theorem heap_setCell {w : World} {b o : Nat} {C : List Value} {t : TypeId} (hb : w.heap[b]? = some (.cells C.toArray t (0, 0))) (v : Value) : (w.setCell ⟨b, o, none⟩ v).heap[b]? = some (.cells (C.set o v).toArray t (0, 0)) := by
  simp only [World.setCell, Array.getElem?_modify]
  rw [if_pos trivial, hb]
  simp
theorem heap_setCells : ∀ (vs : List Value) {w : World} {b o : Nat} {C : List Value} {t : TypeId}, w.heap[b]? = some (.cells C.toArray t (0, 0)) → (w.setCells b o vs).heap[b]? = some (.cells (putL C o vs).toArray t (0, 0))
  | [], _, _, _, _, _, h => h
  | v :: r, _, _, _, _, _, h => heap_setCells r (heap_setCell h v)
theorem onlyB_setCells : ∀ (vs : List Value) {w : World} {b o : Nat}, OnlyB b w (w.setCells b o vs)
  | [], w, b, _ => OnlyB.refl b w
  | v :: r, w, b, o => ((OnlyB.refl b w).setCell o v).trans (onlyB_setCells r)

theorem there_of {w : World} {b o n : Nat} {C : List Value} {t : TypeId} (hb : w.heap[b]? = some (.cells C.toArray t (0, 0))) (h : o + n ≤ C.length) : w.there b o n := fun j hj => by
  constructor
  · rw [cell_of_row w b (o + j) C.toArray t (0, 0) hb]
    simp; omega
  · simp only [World.frozen?]
    rw [hb]
    simp

theorem run_store {P : Program} {w : World} {b o : Nat} {ty t : TypeId} {v : Value} {C : List Value} (hb : w.heap[b]? = some (.cells C.toArray t (0, 0))) (hs : (P.info? ty).map (·.size) = some v.cells.size) (hl : o + v.cells.size ≤ C.length) (h1 : v.cells.all (·.oneCell') = true) :
    (Instr.storeAt ty (.pointer (some ⟨b, o, none⟩)) v).run P w = .ok () (w.setCells b o v.cells.toList) := by
  have ht := there_of (o := o) (n := v.cells.size) hb hl
  have := run_storeCells_cells (P := P) b o v.cells.toList 0 w (fun j hj => by simpa using (ht j (by simpa using hj)).1) (fun j hj => by simpa using (ht j (by simpa using hj)).2)
    (fun v hv => (Array.all_eq_true_iff_forall_mem.1 h1) v (by simpa using hv))
  simp only [Instr.storeAt, Instr.sureAddr, Sem.run_bind, Sem.run_pure, Result.andThen_ok]
  cases hq : P.info? ty with
  | none => simp [hq] at hs
  | some i =>
    have hs' : v.cells.size = i.size := by simp [hq] at hs; omega
    simp only [Nat.add_zero] at this
    simp [storeVar, sizeOf, typeInfo, hq, hs', this]

/-- A new block is written over, whole. -/
theorem putO {P : Program} {w : World} {g : Nat} {ty t : TypeId} {ρ : Operand → Value} {o : Oper} {x y : Operand} {v : Value} {C : List Value} (hb : w.heap[g]? = some (.cells C.toArray t (0, 0))) (ho : o.op = .store ty x y) (hx : ρ x = .pointer (some ⟨g, 0, none⟩)) (hy : ρ y = v)
    (hs : (P.info? ty).map (·.size) = some v.cells.size) (hl : C.length = v.cells.size) (h1 : v.cells.all (·.oneCell') = true) : putU w g v.cells t ((execOp ρ o).run P w) := by
  have hr := run_store (o := 0) hb hs (by omega) h1
  unfold execOp
  simp only [ho, hx, hy, Sem.run_bind, hr, Result.andThen_ok, Sem.run_pure]
  refine ⟨onlyB_setCells _, ?_⟩
  rw [heap_setCells _ hb]
  have : ∀ (vs D : List Value) (k : Nat), k + vs.length = D.length → putL D k vs = D.take k ++ vs := by
    intro vs
    induction vs with
    | nil => intro D k h; show D = _; rw [List.take_of_length_le (by simp at h; omega)]; simp
    | cons u r ih =>
      intro D k h
      show putL (D.set k u) (k + 1) r = _
      simp only [List.length_cons] at h
      rw [ih _ _ (by rw [List.length_set]; omega), List.take_set, List.take_succ_eq_append_getElem (by omega)]
      rw [List.set_append_right _ _ (by rw [List.length_take]; omega)]
      rw [show k - (List.take k D).length = 0 from by rw [List.length_take]; omega]
      simp
  rw [this _ _ 0 (by rw [hl]; simp)]
  simp

/-- Known memory behind a store. -/
theorem Kn.over {N : Nat} {K : List (Nat × List Value × TypeId)} {w w' : World} (h : Kn N K w) (k : Nat) {b : Nat} {C C' : List Value} {t : TypeId} (hk : K[k]? = some (b, C, t)) (ho : OnlyB b w w') (hn : w'.heap[b]? = some (.cells C'.toArray t (0, 0))) :
    Kn N (K.set k (b, C', t)) w' := by
  have hkl : k < K.length := (List.getElem?_eq_some_iff.1 hk).1
  have hfst : (K.set k (b, C', t)).map (·.1) = K.map (·.1) := by
    rw [List.map_set]
    apply List.ext_getElem?
    intro i
    rw [List.getElem?_set]
    split
    · rename_i e
      subst e
      have hkg : K[k] = (b, C, t) := by rw [List.getElem?_eq_getElem hkl] at hk; exact Option.some.inj hk
      simp [hkl, hkg]
    · rfl
  refine ⟨fun e he => ?_, ?_⟩
  · obtain ⟨i, hi, rfl⟩ := List.mem_iff_getElem.1 he
    rw [List.length_set] at hi
    rw [List.getElem_set]
    split
    · exact ⟨(h.at_ _ (List.mem_of_getElem? hk)).1, hn⟩
    · rename_i hne
      obtain ⟨h1, h2⟩ := h.at_ K[i] (List.getElem_mem hi)
      refine ⟨h1, ?_⟩
      have : K[i].1 ≠ b := by
        have hp := List.pairwise_iff_getElem.1 h.ne
        have hkg : K[k] = (b, C, t) := by rw [List.getElem?_eq_getElem hkl] at hk; exact Option.some.inj hk
        rcases Nat.lt_or_ge i k with hik | hik
        · have := hp i k hi hkl hik
          rw [hkg] at this
          exact this
        · have := hp k i hkl hi (by omega)
          rw [hkg] at this
          exact fun e => this e.symm
      rw [ho.block _ this]
      exact h2
  · have := h.ne
    rw [← List.pairwise_map (f := fun e : Nat × List Value × TypeId => e.1) (R := fun a b => a ≠ b)] at this ⊢
    rw [hfst]
    exact this

/-- THE LAW: a region that ends in a store into an own block. -/
theorem sym_store {P : Program} {N n : Nat} {w00 w : World} {K : List (Nat × List Value × TypeId)} {Φ : List (World → Prop)} {F : List (Nat × Value)} {ops : Array Oper} {Q : Exit → Act → World → Prop} {id : Nat} {d : Bool} {a : Act} (T : List TypeId) (E : Array Eff)
    (F' : Got → List (Nat × Value)) (K1 K' : Got → List (Nat × List Value × TypeId)) (Φ' : Got → List (World → Prop)) (k : Nat)
    (hm : P.follows .mixedOrders = true) (hF : Fr F n a) (hI : Inv N w00 K Φ w) (hst : StabAll T Φ) (hok : symOk F ops E n = true) (hs : E.size + 1 = ops.size)
    (hO : ∀ g, OweAll P N T w00 K Φ F ops E g ops.toList E.toList 0)
    (hF' : ∀ g, (F' g).all (fun e => known F ops E.size e.1) = true ∧ (F' g).map (fun e => rho F ops E g E.size (.tmp e.1)) = (F' g).map (·.2)) (hK' : ∀ g, K ++ Eff.news E g = K1 g) (hΦ' : ∀ g, Φ ++ Eff.said E g = Φ' g)
    {o : Oper} {ty : TypeId} {sx : Nat} {y : Operand} (hl : ops[E.size]? = some o) (hg : o.guard = none) (hdst : o.dst = none) (hop : o.op = .store ty (.tmp sx) y)
    (hsr : ∀ g, ∃ b off C t v, T.contains t = true ∧ known F ops E.size sx = true ∧ (match y with | .tmp s => known F ops E.size s | _ => true) = true ∧ rho F ops E g E.size (.tmp sx) = .pointer (some ⟨b, off, none⟩) ∧ rho F ops E g E.size y = v ∧ (K1 g)[k]? = some (b, C, t) ∧
      (P.info? ty).map (·.size) = some v.cells.size ∧ Nat.ble (off + v.cells.size) C.length = true ∧ v.cells.all (·.oneCell') = true ∧ (K1 g).set k (b, putL C off v.cells.toList, t) = K' g)
    (h : ∀ g a' w', Fr (F' g) n a' → Inv N w00 (K' g) (Φ' g) w' → Q .normal a' w') : (Code.region id ops d).wp P Q a w := by
  have hT := OweAll.effT hO
  have key : ∀ w0, Inv N w00 K Φ w0 → ∀ a' w', EffEnd T ops E E.size a w0 a' w' → wpOp P ops Q E.size (Q .normal) a' w' := by
    intro w0 hI a' w' he
    obtain ⟨g, h1, h2⟩ := he.know hF hI hst hT hok
    rw [hK', hΦ'] at h2
    obtain ⟨b, off, C, t, v, hty, p1, p2, hx, hy, hk, hsz, hle, h1c, hKs⟩ := hsr g
    have hFa : Fr (F' g) n a' := h1 _ fun t v ht => by
      obtain ⟨g1, g2⟩ := hF' g
      exact lookup_of (p := fun t => known F ops E.size t) (r := fun t => rho F ops E g E.size (.tmp t)) g1 g2 ht
    have hex : ∀ s u, known F ops E.size s = true → rho F ops E g E.size (.tmp s) = u → a'.eval (.tmp s) = u := by
      intro s u hs hu
      have hq := h1 [(s, u)] (fun t v ht => by
        rw [List.lookup_cons] at ht
        cases hb : (t == s) with
        | true =>
          rw [hb] at ht
          have : t = s := by simpa using hb
          subst this
          cases ht
          exact ⟨hs, hu⟩
        | false => rw [hb] at ht; cases ht)
      have := hq.at_ s u (by rw [List.lookup_cons]; simp)
      show a'.tmps.getD s undef = u
      rw [Array.getD_eq_getD_getElem?, this]; rfl
    have hey : a'.eval y = v := by
      cases y with
      | tmp s => exact hex s v p2 hy
      | const u => exact hy
      | global q => exact hy
      | func f => exact hy
    have hb := (h2.kn.at_ _ (List.mem_of_getElem? hk)).2
    have hr := run_store (P := P) (o := off) (ty := ty) hb hsz (Nat.le_of_ble_eq_true hle) h1c
    have ho1 := onlyB_setCells (w := w') (b := b) (o := off) v.cells.toList
    have hgr : Grow T w' (w'.setCells b off v.cells.toList) := ho1.toGrow hb hty
    unfold wpOp
    rw [hl]
    simp only [Region.wanted, hg, if_true]
    left
    unfold Oper.wp execOp
    simp only [hop, hex sx _ p1 hx, hey, Sem.run_bind, hr, Result.andThen_ok, Sem.run_pure, Oper.upon_skip, hdst, Act.put]
    refine h g a' _ hFa ⟨?_, ?_, ?_, fun φ hφ => ?_⟩
    · exact h2.below.trans (ho1.below (h2.kn.at_ _ (List.mem_of_getElem? hk)).1)
    · rw [← hKs]
      exact h2.kn.over k hk ho1 (heap_setCells _ hb)
    · rw [ho1.size]; exact h2.sz
    · rw [← hΦ'] at hφ
      rcases List.mem_append.1 hφ with h5 | h5
      · exact hst.at_ φ h5 _ _ hgr (h2.facts φ (by rw [← hΦ']; exact hφ))
      · obtain ⟨i, ds, sh, R, hEi, rfl⟩ := said_mem h5
        exact hT.st i ds sh R hEi _ _ _ _ hgr (h2.facts _ (by rw [← hΦ']; exact hφ))
  cases d with
  | false => exact wp_region_text_tail E hT (symOk.out hok).1 hs (fun i hi => Owe.owed hF hI hst hok hO i hi) (key w hI)
  | true => exact wp_region_eff_tail E hT hm (symOk.out hok).1 hs (fun i hi => Owe.owed hF (hI.drew hst) hst hok hO i hi) (key w.drew (hI.drew hst))

/-! ### What binds regions -/
theorem Fr.eval {F : List (Nat × Value)} {n : Nat} {a : Act} (h : Fr F n a) {t : Nat} {v : Value} (ht : F.lookup t = some v) : a.eval (.tmp t) = v := by
  show a.tmps.getD t undef = v
  rw [Array.getD_eq_getD_getElem?, h.at_ t v ht]; rfl

theorem Fr.start {args : Array Value} {m : Nat} (h : args.size ≤ m) : Fr ((List.range args.size).map fun i => (i, args.getD i undef)) m { tmps := args ++ Array.replicate (m - args.size) undef, defers := [] } := by
  refine ⟨by simp; omega, rfl, fun t v ht => ?_⟩
  have : ∀ (l : List Nat), (l.map fun i => (i, args.getD i undef)).lookup t = some v → t ∈ l ∧ v = args.getD t undef := by
    intro l
    induction l with
    | nil => intro h; cases h
    | cons i l ih =>
      intro h
      rw [List.map_cons, List.lookup_cons] at h
      cases hb : (t == i) with
      | true =>
        rw [hb] at h
        have : t = i := by simpa using hb
        subst this
        cases h
        exact ⟨List.mem_cons_self, rfl⟩
      | false =>
        rw [hb] at h
        exact ⟨List.mem_cons_of_mem _ (ih h).1, (ih h).2⟩
  obtain ⟨h1, h2⟩ := this _ ht
  have hlt : t < args.size := by simpa using h1
  rw [h2]
  simp [Array.getElem?_append, hlt]

/-- A result's variable is read. -/
def resG (tmps : Array Value) : ResultVar → Sem Value
  | .tmp t => pure (tmps.getD t undef)
  | .cell x t => do loadVar t (← asAddr (tmps.getD x undef))
theorem results_eq (fn : Func) (tmps : Array Value) : results fn tmps = (do let vs ← fn.results.mapM (resG tmps); pure (if h : vs.size = 1 then vs[0] else .tuple vs)) := rfl
/-- What a result's variable yields. -/
def RVal (P : Program) (a : Act) (w : World) (r : ResultVar) (v : Value) : Prop := (resG a.tmps r).run P w = .ok v w

section
variable {P : Program} {N n : Nat} {w00 w : World} {K : List (Nat × List Value × TypeId)} {Φ : List (World → Prop)} {F : List (Nat × Value)} {a : Act}
theorem rv_tmp {t : Nat} {v : Value} (hF : Fr F n a) (ht : F.lookup t = some v) : RVal P a w (.tmp t) v := by
  show (pure (a.eval (.tmp t)) : Sem Value).run P w = _
  rw [hF.eval ht, Sem.run_pure]
theorem rv_cell {t : Nat} {ty : TypeId} {b : Nat} {C : List Value} {tt : TypeId} {d : TypeDesc} (k : Nat) (hF : Fr F n a) (ht : F.lookup t = some (.pointer (some ⟨b, 0, none⟩))) (hI : Inv N w00 K Φ w) (hk : K[k]? = some (b, C, tt)) (hd : P.underlying ty = some d) (hr2 : d.isRow = true) (hi : (P.info? ty).map (·.size) = some C.length) :
    RVal P a w (.cell t ty) (.agg C.toArray) := by
  have hv := run_loadVar_mid (P := P) w b 0 ty C d (rangeAt_of (hI.kn.at_ _ (List.mem_of_getElem? hk)).2 (by simp)) hd hr2 hi
  show (do loadVar ty (← asAddr (a.eval (.tmp t)))).run P w = _
  rw [hF.eval ht]
  simp only [asAddr, Sem.run_bind, Sem.run_pure, Result.andThen_ok, hv]
theorem rv_cell1 {t : Nat} {ty : TypeId} {b : Nat} {v : Value} {tt : TypeId} (k : Nat) (hF : Fr F n a) (ht : F.lookup t = some (.pointer (some ⟨b, 0, none⟩))) (hI : Inv N w00 K Φ w) (hk : K[k]? = some (b, [v], tt)) (ha : (isAgg ty).run P w = .ok false w) :
    RVal P a w (.cell t ty) v := by
  have hc : w.cell? ⟨b, 0, none⟩ = some v := by rw [cell_of_row w b 0 [v].toArray tt (0, 0) (hI.kn.at_ _ (List.mem_of_getElem? hk)).2]; rfl
  show (do loadVar ty (← asAddr (a.eval (.tmp t)))).run P w = _
  rw [hF.eval ht]
  simp only [asAddr, Sem.run_bind, Sem.run_pure, Result.andThen_ok, run_load1 hc ha]
end

theorem sym_ret {P : Program} {fn : Func} {R : Ending → World → Prop} {w : World} {a : Act} {r : ResultVar} {v : Value} (hr : fn.results = #[r]) (hd : a.defers = []) (hv : RVal P a w r v) (h : R (.returned v) w) : bodyPost P fn R .ret a w := by
  refine ⟨hd, v, ?_, h⟩
  unfold RVal at hv
  rw [results_eq, hr]
  simp [hv]
theorem sym_ret2 {P : Program} {fn : Func} {R : Ending → World → Prop} {w : World} {a : Act} {r r2 : ResultVar} {v v2 : Value} (hr : fn.results = #[r, r2]) (hd : a.defers = []) (hv : RVal P a w r v) (hv2 : RVal P a w r2 v2) (h : R (.returned (.tuple #[v, v2])) w) : bodyPost P fn R .ret a w := by
  refine ⟨hd, .tuple #[v, v2], ?_, h⟩
  unfold RVal at hv hv2
  rw [results_eq, hr]
  simp [Sem.run_bind, hv, hv2]
theorem sym_ret3 {P : Program} {fn : Func} {R : Ending → World → Prop} {w : World} {a : Act} {r r2 r3 : ResultVar} {v v2 v3 : Value} (hr : fn.results = #[r, r2, r3]) (hd : a.defers = []) (hv : RVal P a w r v) (hv2 : RVal P a w r2 v2) (hv3 : RVal P a w r3 v3) (h : R (.returned (.tuple #[v, v2, v3])) w) : bodyPost P fn R .ret a w := by
  refine ⟨hd, .tuple #[v, v2, v3], ?_, h⟩
  unfold RVal at hv hv2 hv3
  rw [results_eq, hr]
  simp [Sem.run_bind, hv, hv2, hv3]
end Go.Proofs.YtjokcbjahidckaaGreat
/-! Loops by a number that goes down or up; whole numbers' operations. No condition. -/
namespace Go.Proofs.YtjokcbjahidckaaGreat
open Go.RowKit

/-- A loop whose rounds count down to 0, where it is left. -/
theorem wp_loop_down {P : Program} {Q : Exit → Act → World → Prop} {a : Act} {w : World} {c : Code} (S : Nat → Act → World → Prop) (m : Nat) (h0 : S m a w)
    (zero : ∀ a w, S 0 a w → c.wp P (Exit.then (fun _ _ => False) Q) a w) (succ : ∀ j a w, S (j + 1) a w → c.wp P (Exit.then (S j) Q) a w) : (Code.loop c).wp P Q a w := by
  have hmin : ∀ a w, (∃ m, S m a w) → ∃ m, S m a w ∧ ∀ j, S j a w → m ≤ j := by
    intro a w ⟨m, hm⟩
    induction m using Nat.strongRecOn with
    | ind m ih =>
      rcases Classical.em (∃ j, j < m ∧ S j a w) with ⟨j, hj, hS⟩ | hn
      · exact ih j hj hS
      · exact ⟨m, hm, fun j hj => Nat.le_of_not_lt fun h => hn ⟨j, h, hj⟩⟩
  obtain ⟨μ, hμ⟩ : ∃ μ : Act → World → Nat, ∀ a w, (∃ m, S m a w) → S (μ a w) a w ∧ ∀ j, S j a w → μ a w ≤ j :=
    ⟨fun a w => @dite _ (∃ m, S m a w) (Classical.propDecidable _) (fun h => (hmin a w h).choose) (fun _ => 0), fun a w h => by
      dsimp only; rw [dif_pos h]; exact (hmin a w h).choose_spec⟩
  refine wp_loop (fun a w => ∃ m, S m a w) μ ⟨m, h0⟩ fun a w hI => ?_
  obtain ⟨h1, h2⟩ := hμ a w hI
  cases hm : μ a w with
  | zero =>
    rw [hm] at h1
    refine wp_mono (zero a w h1) fun e a' w' h => ?_
    cases e <;> first | exact h | exact (h : False).elim
  | succ j =>
    rw [hm] at h1
    refine wp_mono (succ j a w h1) fun e a' w' h => ?_
    cases e <;> first | exact h | skip
    have hS : S j a' w' := h
    exact ⟨⟨j, hS⟩, Nat.lt_succ_of_le ((hμ a' w' ⟨j, hS⟩).2 j hS)⟩

/-- A loop whose rounds count up to m. -/
theorem wp_loop_up {P : Program} {Q : Exit → Act → World → Prop} {a : Act} {w : World} {c : Code} (S : Nat → Act → World → Prop) (m : Nat) (h0 : S 0 a w)
    (fin : ∀ a w, S m a w → c.wp P (Exit.then (fun _ _ => False) Q) a w) (step : ∀ k a w, k < m → S k a w → c.wp P (Exit.then (S (k + 1)) Q) a w) : (Code.loop c).wp P Q a w := by
  refine wp_loop_down (fun j a w => j ≤ m ∧ S (m - j) a w) m ⟨Nat.le_refl _, by rw [Nat.sub_self]; exact h0⟩ (fun a w h => fin a w h.2) fun j a w h => ?_
  refine wp_mono (step (m - (j + 1)) a w (by omega) h.2) fun e a' w' h2 => ?_
  cases e <;> first | exact h2 | skip
  have h3 : S (m - (j + 1) + 1) a' w' := h2
  rw [show m - (j + 1) + 1 = m - j from by omega] at h3
  exact ⟨by omega, h3⟩

theorem boolR {w : World} {r : Result Next} (b : Bool) {c : Bool} (h : r = .ok (.value (.bool b)) w) (e : b = c) : r = .ok (.value (.bool c)) w := by rw [← e]; exact h
theorem intR {w : World} {r : Result Next} {k : IntKind} (x : Int) {y : Int} (h : r = .ok (.value (.int k x)) w) (e : x = y) : r = .ok (.value (.int k y)) w := by rw [← e]; exact h
/-- A call that leaves memory as it is. -/
theorem calls_same {P : Program} {f : FuncId} {args : Array Value} {w : World} {v : Value} (h : Calls P f args w fun e w' => e = .returned v ∧ w = w') : Calls P f args w (Ret w v) :=
  h.mono fun _ _ ⟨h1, h2⟩ => ⟨h1, h2 ▸ Below.refl _ _⟩
end Go.Proofs.YtjokcbjahidckaaGreat
/-! Regions in the text's order, cut into parts. No condition but that nothing in them is guarded. -/
namespace Go.Proofs.YtjokcbjahidckaaGreat
open Go.RowKit

/-- Operations in the text's order. -/
def TextOps (P : Program) (ops : Array Oper) (Q : Exit → Act → World → Prop) (a : Act) (w : World) : Prop := wpOps P ops Q (List.range ops.size) a w

theorem lets_then {K : Act → World → Prop} {Q : Exit → Act → World → Prop} (h : LetsOut (Exit.then K Q)) : LetsOut Q := h

theorem Oper.wp_then {P : Program} {o : Oper} {a : Act} {w : World} {K X : Act → World → Prop} {Q : Exit → Act → World → Prop} (h : o.wp P a w K (Exit.then X Q)) : o.wp P a w K Q := by
  unfold Go.Oper.wp at *
  generalize (execOp a.eval o).run P w = r at *
  cases r with
  | ok n w' =>
    cases n <;> simp only [Oper.upon] at h ⊢ <;>
      first
        | exact h
        | exact Calls.mono h (fun e w'' he => by cases e <;> exact he)
  | halt x w' => cases x <;> simp only [Oper.upon] at h ⊢ <;> exact h

theorem wpOps_cut {P : Program} {A B : Array Oper} {Q : Exit → Act → World → Prop} (hA : A.all (·.guard.isNone) = true) (l2 : List Nat) : ∀ (l1 : List Nat) (a : Act) (w : World), (∀ i ∈ l1, i < A.size) →
    wpOps P A (Exit.then (fun a w => wpOps P (A ++ B) Q l2 a w) Q) l1 a w → wpOps P (A ++ B) Q (l1 ++ l2) a w
  | [], a, w, _, h => h
  | i :: l1, a, w, hl, h => by
    have hi := hl i List.mem_cons_self
    rw [List.cons_append, wpOps_cons]
    rw [wpOps_cons] at h
    unfold wpOp at h ⊢
    rw [Array.getElem?_append_left hi]
    have ih := fun a w => wpOps_cut (P := P) (Q := Q) (B := B) hA l2 l1 a w (fun j hj => hl j (List.mem_cons_of_mem _ hj))
    cases hq : A[i]? with
    | none => rw [Array.getElem?_eq_none_iff] at hq; omega
    | some o =>
      rw [hq] at h
      have hn : o.guard.isNone = true := by
        rw [Array.all_eq_true_iff_forall_mem] at hA
        exact hA o (Array.mem_of_getElem? hq)
      simp only [Region.wanted] at h ⊢
      have hg : o.guard = none := by simpa using hn
      simp only [hg, if_true] at h ⊢
      rcases h with h | h
      · exact .inl (Oper.wp_then (Oper.wp_mono (fun a w => ih a w) h))
      · exact .inr h

theorem wpOps_shift {P : Program} {A B : Array Oper} {Q : Exit → Act → World → Prop} (hB : B.all (·.guard.isNone) = true) : ∀ (l : List Nat) (a : Act) (w : World), wpOps P B Q l a w → wpOps P (A ++ B) Q (l.map (A.size + ·)) a w
  | [], a, w, h => h
  | i :: l, a, w, h => by
    rw [List.map_cons, wpOps_cons]
    rw [wpOps_cons] at h
    unfold wpOp at h ⊢
    rw [Array.getElem?_append_right (Nat.le_add_right _ _), Nat.add_sub_cancel_left]
    have ih := fun a w => wpOps_shift (P := P) (Q := Q) (A := A) hB l a w
    cases hq : B[i]? with
    | none => rw [hq] at h; exact ih _ _ h
    | some o =>
      rw [hq] at h
      have hn : o.guard.isNone = true := by
        rw [Array.all_eq_true_iff_forall_mem] at hB
        exact hB o (Array.mem_of_getElem? hq)
      simp only [Region.wanted] at h ⊢
      have hg : o.guard = none := by simpa using hn
      simp only [hg, if_true] at h ⊢
      rcases h with h | h
      · exact .inl (Oper.wp_mono (fun a w => ih a w) h)
      · exact .inr h

/-- THE LAW: what stands in two parts is carried out one behind the other. -/
theorem text_cut {P : Program} {ops : Array Oper} {Q : Exit → Act → World → Prop} {a : Act} {w : World} (A B : Array Oper) (hk : ops = A ++ B) (hA : A.all (·.guard.isNone) = true) (hB : B.all (·.guard.isNone) = true)
    (h : TextOps P A (Exit.then (TextOps P B Q) Q) a w) : TextOps P ops Q a w := by
  subst hk
  unfold TextOps
  rw [Array.size_append, List.range_add]
  refine wpOps_cut hA _ _ _ _ (fun i hi => List.mem_range.1 hi) ?_
  have : ∀ (l : List Nat) (a : Act) (w : World), wpOps P A (Exit.then (TextOps P B Q) Q) l a w → wpOps P A (Exit.then (fun a w => wpOps P (A ++ B) Q ((List.range B.size).map (A.size + ·)) a w) Q) l a w := by
    intro l
    induction l with
    | nil => intro a w h; exact wpOps_shift hB _ _ _ h
    | cons i l ih =>
      intro a w h
      rw [wpOps_cons] at h ⊢
      unfold wpOp at h ⊢
      cases hq : A[i]? with
      | none => rw [hq] at h; exact ih _ _ h
      | some o =>
        rw [hq] at h
        have hn : o.guard.isNone = true := by
          rw [Array.all_eq_true_iff_forall_mem] at hA
          exact hA o (Array.mem_of_getElem? hq)
        have hg : o.guard = none := by simpa using hn
        simp only [Region.wanted, hg, if_true] at h ⊢
        rcases h with h | h
        · left
          have := Oper.wp_mono (fun a w => ih a w) h
          unfold Go.Oper.wp at this ⊢
          generalize (execOp a.eval o).run P w = r at *
          cases r with
          | ok n w' =>
            cases n <;> simp only [Oper.upon] at this ⊢ <;>
              first
                | exact this
                | exact Calls.mono this (fun e w'' he => by cases e <;> exact he)
          | halt x w' => cases x <;> simp only [Oper.upon] at this ⊢ <;> exact this
        · exact .inr h
  exact this _ _ _ h
/-- Operations that differ in nothing but in what they wait for. -/
def noAfter (o : Oper) : Oper := { o with after := #[] }
def SameOps (A B : Array Oper) : Prop := A.toList.map noAfter = B.toList.map noAfter
theorem SameOps.size {A B : Array Oper} (h : SameOps A B) : A.size = B.size := by
  have := congrArg List.length h
  simpa using this
theorem wpOps_same {P : Program} {B B2 : Array Oper} {Q : Exit → Act → World → Prop} (hB : B.all (·.guard.isNone) = true) (hs : SameOps B2 B) : ∀ (l : List Nat) (a : Act) (w : World), wpOps P B2 Q l a w → wpOps P B Q l a w
  | [], a, w, h => h
  | i :: l, a, w, h => by
    rw [wpOps_cons] at h ⊢
    unfold wpOp at h ⊢
    have ih := fun a w => wpOps_same (P := P) (Q := Q) hB hs l a w
    have e : (B2[i]?).map noAfter = (B[i]?).map noAfter := by
      have := congrArg (fun l : List Oper => l[i]?) hs
      simpa using this
    cases hq : B[i]? with
    | none =>
      rw [hq] at e
      cases hq2 : B2[i]? with
      | none => rw [hq2] at h; exact ih _ _ h
      | some o2 => rw [hq2] at e; cases e
    | some o =>
      rw [hq] at e
      cases hq2 : B2[i]? with
      | none => rw [hq2] at e; cases e
      | some o2 =>
        rw [hq2] at e h
        have e2 : noAfter o2 = noAfter o := Option.some.inj e
        have hn : o.guard.isNone = true := by
          rw [Array.all_eq_true_iff_forall_mem] at hB
          exact hB o (Array.mem_of_getElem? hq)
        have hg : o.guard = none := by simpa using hn
        have hg2 : o2.guard = none := by
          have := congrArg Oper.guard e2
          exact this.trans hg
        simp only [Region.wanted, hg, hg2, if_true] at h ⊢
        have hw : ∀ K, Oper.wp P o2 a w K Q → Oper.wp P o a w K Q := by
          intro K hK
          have h1 : Oper.wp P (noAfter o2) a w K Q := hK
          rw [e2] at h1
          exact h1
        have ha : o2.asks P a w → o.asks P a w := by
          intro hK
          have h1 : (noAfter o2).asks P a w := hK
          rw [e2] at h1
          exact h1
        rcases h with h | h
        · exact .inl (Oper.wp_mono (fun a w => ih a w) (hw _ h))
        · exact .inr ⟨ha h.1, h.2⟩
theorem then_same {P : Program} {A B B2 : Array Oper} {Q : Exit → Act → World → Prop} (hA : A.all (·.guard.isNone) = true) (hB : B.all (·.guard.isNone) = true) (hs : SameOps B2 B) {a : Act} {w : World}
    (h : TextOps P A (Exit.then (TextOps P (B2) Q) Q) a w) : TextOps P A (Exit.then (TextOps P B Q) Q) a w := by
  unfold TextOps at h ⊢
  have hsz : B2.size = B.size := hs.size
  rw [hsz] at h
  revert h
  generalize List.range A.size = l
  revert a w
  induction l with
  | nil => intro a w h; exact wpOps_same hB hs _ _ _ h
  | cons i l ih =>
    intro a w h
    rw [wpOps_cons] at h ⊢
    unfold wpOp at h ⊢
    cases hq : A[i]? with
    | none => rw [hq] at h; exact ih h
    | some o =>
      rw [hq] at h
      have hn : o.guard.isNone = true := by
        rw [Array.all_eq_true_iff_forall_mem] at hA
        exact hA o (Array.mem_of_getElem? hq)
      have hg : o.guard = none := by simpa using hn
      simp only [Region.wanted, hg, if_true] at h ⊢
      rcases h with h | h
      · left
        have := Oper.wp_mono (fun a w => ih (a := a) (w := w)) h
        unfold Go.Oper.wp at this ⊢
        generalize (execOp a.eval o).run P w = r at *
        cases r with
        | ok n w' =>
          cases n <;> simp only [Oper.upon] at this ⊢ <;>
            first
              | exact this
              | exact Calls.mono this (fun e w'' he => by cases e <;> exact he)
        | halt x w' => cases x <;> simp only [Oper.upon] at this ⊢ <;> exact this
      · exact .inr h
/-- Each waits for all that stand ahead of it. -/
def chainE : Nat → List Oper → List Oper
  | _, [] => []
  | i, o :: r => { o with after := ((List.range i).map fun j => ({ on := j, ground := .data } : Edge)).toArray } :: chainE (i + 1) r
theorem chain_same : ∀ (i : Nat) (l : List Oper), (chainE i l).map noAfter = l.map noAfter
  | _, [] => rfl
  | i, o :: r => by
    show noAfter _ :: (chainE (i + 1) r).map noAfter = _
    rw [chain_same (i + 1) r]
    rfl
theorem text_cutn {P : Program} {ops : Array Oper} {Q : Exit → Act → World → Prop} {a : Act} {w : World} (n : Nat) (hA : (ops.toList.take n).toArray.all (·.guard.isNone) = true) (hB : (ops.toList.drop n).toArray.all (·.guard.isNone) = true)
    (h : TextOps P (chainE 0 (ops.toList.take n)).toArray (Exit.then (TextOps P (chainE 0 (ops.toList.drop n)).toArray Q) Q) a w) : TextOps P ops Q a w := by
  refine text_cut _ _ (by simp) hA hB (then_same (B2 := (chainE 0 (ops.toList.drop n)).toArray) hA hB (chain_same 0 _) ?_)
  unfold TextOps at h ⊢
  have hs : SameOps (chainE 0 (ops.toList.take n)).toArray (ops.toList.take n).toArray := chain_same 0 _
  have := wpOps_same hA hs _ _ _ h
  rwa [hs.size] at this
theorem wp_region_cut {P : Program} {ops : Array Oper} {Q : Exit → Act → World → Prop} {id : Nat} {a : Act} {w : World} (n : Nat) (hA : (ops.toList.take n).toArray.all (·.guard.isNone) = true) (hB : (ops.toList.drop n).toArray.all (·.guard.isNone) = true)
    (h : TextOps P (chainE 0 (ops.toList.take n)).toArray (Exit.then (TextOps P (chainE 0 (ops.toList.drop n)).toArray Q) Q) a w) : (Code.region id ops false).wp P Q a w :=
  wp_region (text_cutn n hA hB h)

theorem sym_text {P : Program} {N n : Nat} {w00 w : World} {K : List (Nat × List Value × TypeId)} {Φ : List (World → Prop)} {F : List (Nat × Value)} {ops : Array Oper} {Q : Exit → Act → World → Prop} {a : Act} (T : List TypeId) (E : Array Eff)
    (F' : Got → List (Nat × Value)) (K' : Got → List (Nat × List Value × TypeId)) (Φ' : Got → List (World → Prop))
    (hF : Fr F n a) (hI : Inv N w00 K Φ w) (hst : StabAll T Φ) (hok : symOk F ops E n = true) (hs : E.size = ops.size)
    (hO : ∀ g, OweAll P N T w00 K Φ F ops E g ops.toList E.toList 0)
    (hF' : ∀ g, (F' g).all (fun e => known F ops E.size e.1) = true ∧ (F' g).map (fun e => rho F ops E g E.size (.tmp e.1)) = (F' g).map (·.2)) (hK' : ∀ g, K ++ Eff.news E g = K' g) (hΦ' : ∀ g, Φ ++ Eff.said E g = Φ' g)
    (h : ∀ g a' w', Fr (F' g) n a' → Inv N w00 (K' g) (Φ' g) w' → Q .normal a' w') : TextOps P ops Q a w := by
  have hT := OweAll.effT hO
  have key : ∀ w0, Inv N w00 K Φ w0 → ∀ a' w', EffEnd T ops E E.size a w0 a' w' → Q .normal a' w' := by
    intro w0 hI a' w' he
    obtain ⟨g, h1, h2⟩ := he.know hF hI hst hT hok
    rw [hK', hΦ'] at h2
    refine h g a' w' (h1 _ fun t v ht => ?_) h2
    obtain ⟨g1, g2⟩ := hF' g
    exact lookup_of (p := fun t => known F ops E.size t) (r := fun t => rho F ops E g E.size (.tmp t)) g1 g2 ht
  refine wpOps_eff hT (EffOk.of (symOk.out hok).1) (fun i hi => Owe.owed hF hI hst hok hO i hi) fun a' w' h => ?_
  rw [hs, Nat.sub_self]
  exact key w hI a' w' h

/-- THE LAW: a region that ends in a store into an own block. -/
theorem sym_text_store {P : Program} {N n : Nat} {w00 w : World} {K : List (Nat × List Value × TypeId)} {Φ : List (World → Prop)} {F : List (Nat × Value)} {ops : Array Oper} {Q : Exit → Act → World → Prop} {a : Act} (T : List TypeId) (E : Array Eff)
    (F' : Got → List (Nat × Value)) (K1 K' : Got → List (Nat × List Value × TypeId)) (Φ' : Got → List (World → Prop)) (k : Nat)
    (hF : Fr F n a) (hI : Inv N w00 K Φ w) (hst : StabAll T Φ) (hok : symOk F ops E n = true) (hs : E.size + 1 = ops.size)
    (hO : ∀ g, OweAll P N T w00 K Φ F ops E g ops.toList E.toList 0)
    (hF' : ∀ g, (F' g).all (fun e => known F ops E.size e.1) = true ∧ (F' g).map (fun e => rho F ops E g E.size (.tmp e.1)) = (F' g).map (·.2)) (hK' : ∀ g, K ++ Eff.news E g = K1 g) (hΦ' : ∀ g, Φ ++ Eff.said E g = Φ' g)
    {o : Oper} {ty : TypeId} {sx : Nat} {y : Operand} (hl : ops[E.size]? = some o) (hg : o.guard = none) (hdst : o.dst = none) (hop : o.op = .store ty (.tmp sx) y)
    (hsr : ∀ g, ∃ b off C t v, T.contains t = true ∧ known F ops E.size sx = true ∧ (match y with | .tmp s => known F ops E.size s | _ => true) = true ∧ rho F ops E g E.size (.tmp sx) = .pointer (some ⟨b, off, none⟩) ∧ rho F ops E g E.size y = v ∧ (K1 g)[k]? = some (b, C, t) ∧
      (P.info? ty).map (·.size) = some v.cells.size ∧ Nat.ble (off + v.cells.size) C.length = true ∧ v.cells.all (·.oneCell') = true ∧ (K1 g).set k (b, putL C off v.cells.toList, t) = K' g)
    (h : ∀ g a' w', Fr (F' g) n a' → Inv N w00 (K' g) (Φ' g) w' → Q .normal a' w') : TextOps P ops Q a w := by
  have hT := OweAll.effT hO
  have key : ∀ w0, Inv N w00 K Φ w0 → ∀ a' w', EffEnd T ops E E.size a w0 a' w' → wpOp P ops Q E.size (Q .normal) a' w' := by
    intro w0 hI a' w' he
    obtain ⟨g, h1, h2⟩ := he.know hF hI hst hT hok
    rw [hK', hΦ'] at h2
    obtain ⟨b, off, C, t, v, hty, p1, p2, hx, hy, hk, hsz, hle, h1c, hKs⟩ := hsr g
    have hFa : Fr (F' g) n a' := h1 _ fun t v ht => by
      obtain ⟨g1, g2⟩ := hF' g
      exact lookup_of (p := fun t => known F ops E.size t) (r := fun t => rho F ops E g E.size (.tmp t)) g1 g2 ht
    have hex : ∀ s u, known F ops E.size s = true → rho F ops E g E.size (.tmp s) = u → a'.eval (.tmp s) = u := by
      intro s u hs hu
      have hq := h1 [(s, u)] (fun t v ht => by
        rw [List.lookup_cons] at ht
        cases hb : (t == s) with
        | true =>
          rw [hb] at ht
          have : t = s := by simpa using hb
          subst this
          cases ht
          exact ⟨hs, hu⟩
        | false => rw [hb] at ht; cases ht)
      have := hq.at_ s u (by rw [List.lookup_cons]; simp)
      show a'.tmps.getD s undef = u
      rw [Array.getD_eq_getD_getElem?, this]; rfl
    have hey : a'.eval y = v := by
      cases y with
      | tmp s => exact hex s v p2 hy
      | const u => exact hy
      | global q => exact hy
      | func f => exact hy
    have hb := (h2.kn.at_ _ (List.mem_of_getElem? hk)).2
    have hr := run_store (P := P) (o := off) (ty := ty) hb hsz (Nat.le_of_ble_eq_true hle) h1c
    have ho1 := onlyB_setCells (w := w') (b := b) (o := off) v.cells.toList
    have hgr : Grow T w' (w'.setCells b off v.cells.toList) := ho1.toGrow hb hty
    unfold wpOp
    rw [hl]
    simp only [Region.wanted, hg, if_true]
    left
    unfold Oper.wp execOp
    simp only [hop, hex sx _ p1 hx, hey, Sem.run_bind, hr, Result.andThen_ok, Sem.run_pure, Oper.upon_skip, hdst, Act.put]
    refine h g a' _ hFa ⟨?_, ?_, ?_, fun φ hφ => ?_⟩
    · exact h2.below.trans (ho1.below (h2.kn.at_ _ (List.mem_of_getElem? hk)).1)
    · rw [← hKs]
      exact h2.kn.over k hk ho1 (heap_setCells _ hb)
    · rw [ho1.size]; exact h2.sz
    · rw [← hΦ'] at hφ
      rcases List.mem_append.1 hφ with h5 | h5
      · exact hst.at_ φ h5 _ _ hgr (h2.facts φ (by rw [← hΦ']; exact hφ))
      · obtain ⟨i, ds, sh, R, hEi, rfl⟩ := said_mem h5
        exact hT.st i ds sh R hEi _ _ _ _ hgr (h2.facts _ (by rw [← hΦ']; exact hφ))
  refine wpOps_eff hT (EffOk.of (symOk.out hok).1) (fun i hi => Owe.owed hF hI hst hok hO i hi) fun a' w' h => ?_
  rw [← hs, show E.size + 1 - E.size = 1 from by omega]
  show wpOps P ops Q [E.size] a' w'
  rw [wpOps_cons]
  exact wpOp_mono (fun _ _ h => h) (key w hI a' w' h)
end Go.Proofs.YtjokcbjahidckaaGreat
/-! The six primes, their digits; the generators' digits. No condition. -/
namespace Go.Proofs.YtjokcbjahidckaaGreat
open Go.RowKit

/-- The digits of number k's prime, 16 m of them. -/
def hexS : Nat → ByteArray
  | 1 => ⟨#[102, 102, 102, 102, 102, 102, 102, 102, 102, 102, 102, 102, 102, 102, 102, 102, 102, 102, 102, 102, 102, 102, 102, 102, 102, 102, 102, 102, 102, 102, 102, 102, 102, 102, 102, 102, 102, 102, 102, 102, 102, 102, 102, 102, 102, 102, 102, 102, 102, 102, 102, 102, 102, 102, 102, 101, 102, 102, 102, 102, 102, 99, 50, 102]⟩
  | 2 => ⟨#[102, 102, 102, 102, 102, 102, 102, 102, 102, 102, 102, 102, 102, 102, 102, 102, 102, 102, 102, 102, 102, 102, 102, 102, 102, 102, 102, 102, 102, 102, 102, 101, 98, 97, 97, 101, 100, 99, 101, 54, 97, 102, 52, 56, 97, 48, 51, 98, 98, 102, 100, 50, 53, 101, 56, 99, 100, 48, 51, 54, 52, 49, 52, 49]⟩
  | 3 => ⟨#[51, 48, 54, 52, 52, 101, 55, 50, 101, 49, 51, 49, 97, 48, 50, 57, 98, 56, 53, 48, 52, 53, 98, 54, 56, 49, 56, 49, 53, 56, 53, 100, 57, 55, 56, 49, 54, 97, 57, 49, 54, 56, 55, 49, 99, 97, 56, 100, 51, 99, 50, 48, 56, 99, 49, 54, 100, 56, 55, 99, 102, 100, 52, 55]⟩
  | 4 => ⟨#[51, 48, 54, 52, 52, 101, 55, 50, 101, 49, 51, 49, 97, 48, 50, 57, 98, 56, 53, 48, 52, 53, 98, 54, 56, 49, 56, 49, 53, 56, 53, 100, 50, 56, 51, 51, 101, 56, 52, 56, 55, 57, 98, 57, 55, 48, 57, 49, 52, 51, 101, 49, 102, 53, 57, 51, 102, 48, 48, 48, 48, 48, 48, 49]⟩
  | 5 => ⟨#[49, 97, 48, 49, 49, 49, 101, 97, 51, 57, 55, 102, 101, 54, 57, 97, 52, 98, 49, 98, 97, 55, 98, 54, 52, 51, 52, 98, 97, 99, 100, 55, 54, 52, 55, 55, 52, 98, 56, 52, 102, 51, 56, 53, 49, 50, 98, 102, 54, 55, 51, 48, 100, 50, 97, 48, 102, 54, 98, 48, 102, 54, 50, 52, 49, 101, 97, 98, 102, 102, 102, 101, 98, 49, 53, 51, 102, 102, 102, 102, 98, 57, 102, 101, 102, 102, 102, 102, 102, 102, 102, 102, 97, 97, 97, 98]⟩
  | 6 => ⟨#[55, 51, 101, 100, 97, 55, 53, 51, 50, 57, 57, 100, 55, 100, 52, 56, 51, 51, 51, 57, 100, 56, 48, 56, 48, 57, 97, 49, 100, 56, 48, 53, 53, 51, 98, 100, 97, 52, 48, 50, 102, 102, 102, 101, 53, 98, 102, 101, 102, 102, 102, 102, 102, 102, 102, 102, 48, 48, 48, 48, 48, 48, 48, 49]⟩
  | _ => ⟨#[]⟩
def prm : Nat → Nat
  | 1 => 115792089237316195423570985008687907853269984665640564039457584007908834671663
  | 2 => 115792089237316195423570985008687907852837564279074904382605163141518161494337
  | 3 => 21888242871839275222246405745257275088696311157297823662689037894645226208583
  | 4 => 21888242871839275222246405745257275088548364400416034343698204186575808495617
  | 5 => 4002409555221667393417789825735904156556882819939007885332058136124031650490837864442687629129015664037894272559787
  | 6 => 52435875175126190479447740508185965837690552500527637822603658699938581184513
  | _ => 0
def pml : Nat → Nat
  | 5 => 6
  | _ => 4
def genS : Nat → ByteArray
  | 1 => ⟨#[55, 57, 98, 101, 54, 54, 55, 101, 102, 57, 100, 99, 98, 98, 97, 99, 53, 53, 97, 48, 54, 50, 57, 53, 99, 101, 56, 55, 48, 98, 48, 55, 48, 50, 57, 98, 102, 99, 100, 98, 50, 100, 99, 101, 50, 56, 100, 57, 53, 57, 102, 50, 56, 49, 53, 98, 49, 54, 102, 56, 49, 55, 57, 56]⟩
  | 2 => ⟨#[52, 56, 51, 97, 100, 97, 55, 55, 50, 54, 97, 51, 99, 52, 54, 53, 53, 100, 97, 52, 102, 98, 102, 99, 48, 101, 49, 49, 48, 56, 97, 56, 102, 100, 49, 55, 98, 52, 52, 56, 97, 54, 56, 53, 53, 52, 49, 57, 57, 99, 52, 55, 100, 48, 56, 102, 102, 98, 49, 48, 100, 52, 98, 56]⟩
  | 3 => ⟨#[49, 55, 102, 49, 100, 51, 97, 55, 51, 49, 57, 55, 100, 55, 57, 52, 50, 54, 57, 53, 54, 51, 56, 99, 52, 102, 97, 57, 97, 99, 48, 102, 99, 51, 54, 56, 56, 99, 52, 102, 57, 55, 55, 52, 98, 57, 48, 53, 97, 49, 52, 101, 51, 97, 51, 102, 49, 55, 49, 98, 97, 99, 53, 56, 54, 99, 53, 53, 101, 56, 51, 102, 102, 57, 55, 97, 49, 97, 101, 102, 102, 98, 51, 97, 102, 48, 48, 97, 100, 98, 50, 50, 99, 54, 98, 98]⟩
  | 4 => ⟨#[48, 56, 98, 51, 102, 52, 56, 49, 101, 51, 97, 97, 97, 48, 102, 49, 97, 48, 57, 101, 51, 48, 101, 100, 55, 52, 49, 100, 56, 97, 101, 52, 102, 99, 102, 53, 101, 48, 57, 53, 100, 53, 100, 48, 48, 97, 102, 54, 48, 48, 100, 98, 49, 56, 99, 98, 50, 99, 48, 52, 98, 51, 101, 100, 100, 48, 51, 99, 99, 55, 52, 52, 97, 50, 56, 56, 56, 97, 101, 52, 48, 99, 97, 97, 50, 51, 50, 57, 52, 54, 99, 53, 101, 55, 101, 49]⟩
  | _ => ⟨#[]⟩
def genN : Nat → Nat
  | 1 => 55066263022277343669578718895168534326250603453777594175500187360389116729240
  | 2 => 32670510020758816978083085130507043184471273380659243275938904335757337482424
  | 3 => 3685416753713387016781088315183077757961620795782546409894578378688607592378376318836054947676345821548104185464507
  | 4 => 1339506544944476473020471379941921221584933875938349620426543736416511423956333506472724655353366534992391756441569
  | _ => 0
def gml (k : Nat) : Nat := if k < 3 then 4 else 6

theorem six_of {P : Nat → Prop} (h : P 1 ∧ P 2 ∧ P 3 ∧ P 4 ∧ P 5 ∧ P 6) (k : Nat) (h1 : 1 ≤ k) (h6 : k ≤ 6) : P k := by
  obtain ⟨a1, a2, a3, a4, a5, a6⟩ := h
  obtain rfl | rfl | rfl | rfl | rfl | rfl : k = 1 ∨ k = 2 ∨ k = 3 ∨ k = 4 ∨ k = 5 ∨ k = 6 := by omega
  all_goals assumption

/-- Are they hex digits, so many, of that number? -/
def hexOk (s : ByteArray) (m n : Nat) : Bool := s.size == 16 * m && (s.data.toList.all fun c => (decide (48 ≤ c.toNat) && decide (c.toNat ≤ 57)) || (decide (97 ≤ c.toNat) && decide (c.toNat ≤ 102))) && hexN (s.data.toList.map UInt8.toNat) == n
theorem hexOk.out {s : ByteArray} {m n : Nat} (h : hexOk s m n = true) : s.size = 16 * m ∧ (∀ i (h : i < s.size), isHex (s[i]'h).toNat) ∧ hexN (s.data.toList.map UInt8.toNat) = n := by
  unfold hexOk at h
  rw [Bool.and_eq_true, Bool.and_eq_true, beq_iff_eq, beq_iff_eq, List.all_eq_true] at h
  refine ⟨h.1.1, fun i hi => ?_, h.2⟩
  have := h.1.2 (s[i]'hi) (by
    show s.data[i] ∈ s.data.toList
    simp)
  unfold isHex
  simpa using this
theorem hexS_ok (k : Nat) (h1 : 1 ≤ k) (h6 : k ≤ 6) : hexOk (hexS k) (pml k) (prm k) = true := by
  refine six_of (P := fun k => hexOk (hexS k) (pml k) (prm k) = true) ?_ k h1 h6
  refine ⟨?_, ?_, ?_, ?_, ?_, ?_⟩ <;> kernel_rfl
theorem genS_ok (k : Nat) (h1 : 1 ≤ k) (h4 : k ≤ 4) : hexOk (genS k) (gml k) (genN k) = true := by
  obtain rfl | rfl | rfl | rfl : k = 1 ∨ k = 2 ∨ k = 3 ∨ k = 4 := by omega
  all_goals kernel_rfl
theorem gen_any (k : Nat) (h1 : 1 ≤ k) (h4 : k ≤ 4) (w : World) : Calls Tryz.prog 207 #[.string (genS k)] w (Ret w (elv (genN k))) := by
  obtain ⟨hs, hh, hn⟩ := hexOk.out (genS_ok k h1 h4)
  have := number_any (genS k) (gml k) hs (by unfold gml; split <;> omega) hh w
  rwa [hn] at this

/-- Whole numbers as what a call says. -/
def datN (l : List Nat) : Dat := ⟨fun i => l.getD i 0, fun _ => none, fun _ => undef⟩
/-- A slice that reads as xs. -/
def SlR (k : IntKind) (xs : List Nat) (d : Dat) (w : World) : Prop := xs.length ≤ d.n 0 ∧ Rd w k (d.o 0) xs
theorem hexS_any (k : Nat) (h1 : 1 ≤ k) (h6 : k ≤ 6) (w : World) : Calls Tryz.prog 244 #[.string (hexS k)] w (RetR w (fun d => .slice (d.o 0) (pml k) (d.n 0)) (SlR .u64 (digs B64 (pml k) (prm k)))) := by
  obtain ⟨hs, hh, hn⟩ := hexOk.out (hexS_ok k h1 h6)
  have := hex_any (hexS k) (pml k) hs (by unfold pml; split <;> omega) hh w
  rw [hn] at this
  refine this.mono ?_
  rintro e w' ⟨v, rfl, hb, A, cap, rfl, hc, hr, hA⟩
  refine ⟨⟨fun _ => cap, fun _ => A, fun _ => undef⟩, ?_, hb, hc, hr⟩
  rw [length_digs]

theorem lm_length {m x : Nat} (h1 : B64 ^ m ≤ x) (h2 : x < B64 ^ (m + 1)) : (lm x).length = m + 1 := by
  have a := length_dig_le (B := B64) (by decide) h2
  have b := lt_pow_dig (B := B64) (by decide) x
  rcases Nat.lt_or_ge m (lm x).length with h | h
  · exact Nat.le_antisymm a h
  · exact absurd (Nat.lt_of_lt_of_le b (Nat.pow_le_pow_right (by decide) h)) (Nat.not_lt.2 h1)
theorem prm_lt (k : Nat) (h1 : 1 ≤ k) (h6 : k ≤ 6) : prm k < B64 ^ (pml k) ∧ prm k % 2 = 1 ∧ 1 < prm k ∧ (lm (prm k)).length = pml k := by
  refine six_of (P := fun k => prm k < B64 ^ (pml k) ∧ prm k % 2 = 1 ∧ 1 < prm k ∧ (lm (prm k)).length = pml k) ?_ k h1 h6
  refine ⟨?_, ?_, ?_, ?_, ?_, ?_⟩ <;> exact ⟨by decide, by decide, by decide, lm_length (by decide) (by decide)⟩
theorem prime_of_1 : IsPrime (prm 1) := prime_secp_p
theorem prime_of_2 : IsPrime (prm 2) := prime_secp_n
theorem prime_of_3 : IsPrime (prm 3) := prime_bn_p
theorem prime_of_4 : IsPrime (prm 4) := prime_bn_r
theorem prime_of_5 : IsPrime (prm 5) := prime_bls_p
theorem prime_of_6 : IsPrime (prm 6) := prime_bls_r
theorem prm_prime (k : Nat) (h1 : 1 ≤ k) (h6 : k ≤ 6) : IsPrime (prm k) := six_of (P := fun k => IsPrime (prm k)) ⟨prime_of_1, prime_of_2, prime_of_3, prime_of_4, prime_of_5, prime_of_6⟩ k h1 h6
theorem pr_1 : Pr (prm 1) := ⟨prime_of_1, by decide⟩
theorem pr_3 : Pr (prm 3) := ⟨prime_of_3, by decide⟩
theorem pr_5 : Pr (prm 5) := ⟨prime_of_5, by decide⟩

/-- A call of mont.New, as what it says. -/
theorem mont_new_any (k : Nat) (h1 : 1 ≤ k) (h6 : k ≤ 6) {A : Option Addr} {cap : Nat} {w : World} (h : SlR .u64 (digs B64 (pml k) (prm k)) ⟨fun _ => cap, fun _ => A, fun _ => undef⟩ w) :
    Calls Tryz.prog 289 #[.slice A (pml k) cap] w (RetR w (fun d => .pointer (some ⟨d.n 0, 0, none⟩)) (fun d w => FldB w (d.n 0) (prm k) (pml k) (d.n 1))) := by
  obtain ⟨hlt, hodd, hgt, hlen⟩ := prm_lt k h1 h6
  have hv : ofD B64 (digs B64 (pml k) (prm k)) = prm k := by rw [ofD_digs, Nat.mod_eq_of_lt hlt]
  have := mont_new A cap (digs B64 (pml k) (prm k)) w h.1 h.2 (Digs.digs (by decide) _ _) (by rw [hv]; exact hodd) (by rw [hv]; exact hgt) (by rw [hv, hlen]; unfold pml; split <;> omega)
  rw [hv, length_digs, hlen] at this
  refine this.mono ?_
  rintro e w' ⟨a, v, rfl, hb, _, hf⟩
  exact ⟨datN [a, v], rfl, hb, hf⟩
end Go.Proofs.YtjokcbjahidckaaGreat
/-! A region that ends in a store and an assignment; a slice of new memory. No condition. -/
namespace Go.Proofs.YtjokcbjahidckaaGreat
open Go.RowKit

/-- A literal slice: its row is new. -/
theorem exU_slice {P : Program} {w : World} {m : Nat} {C : List Value} {t : TypeId} {r : Result Next} (h : r = .ok (.value (.slice (some ⟨w.heap.size, 0, none⟩) m m)) (w.alloc (.cells C.toArray t))) :
    exU P w (fun d => .slice (some ⟨d.n 0, 0, none⟩) m m) (fun d w => w.heap[d.n 0]? = some (.cells C.toArray t (0, 0))) r := by
  rw [h]
  refine ⟨⟨fun _ => w.heap.size, fun _ => none, fun _ => undef⟩, rfl, ?_, ?_⟩
  · first | exact (Below.refl _ _).alloc (Nat.le_refl _) _ | exact heap_alloc_new _ _
  · first | exact heap_alloc_new _ _ | exact (Below.refl _ _).alloc (Nat.le_refl _) _

theorem wp_region_eff_tail2 {P : Program} {T : List TypeId} {ops : Array Oper} {Q : Exit → Act → World → Prop} {id : Nat} {a : Act} {w : World} (E : Array Eff) (hT : EffT T E) (hm : P.follows .mixedOrders = true) (hok : Eff.ok ops E = true) (hs : E.size + 2 = ops.size) {o2 : Oper} (hl2 : ops[E.size + 1]? = some o2) (hw2 : waitsFor o2 E.size = true)
    (hO : ∀ i, i < E.size → Owed P T ops E a w.drew i) (hfin : ∀ a' w', EffEnd T ops E E.size a w.drew a' w' → wpOp P ops Q E.size (wpOp P ops Q (E.size + 1) (Q .normal)) a' w') :
    (Code.region id ops true).wp P Q a w := by
  obtain ⟨o1, hl1⟩ : ∃ o1, ops[E.size]? = some o1 := ⟨_, Array.getElem?_eq_getElem (by omega)⟩
  have hd1 := (EffOk.of hok).down E.size o1 hl1
  have hd2 := (EffOk.of hok).down (E.size + 1) o2 hl2
  generalize hm' : E.size = m at *
  refine wp_region_any hm (wpAny_eff (w0 := w.drew) hT (hm' ▸ EffOk.of hok) (fun i hi => hO i hi) fun a' w' h => ?_)
  rw [← hs, show m + 2 - m = 0 + 1 + 1 from by omega]
  have hr0 : Region.ready .any ops (firstB (m + 2) (m + 2)) = [] := by
    cases hr : Region.ready .any ops (firstB (m + 2) (m + 2)) with
    | nil => rfl
    | cons i rs =>
      exfalso
      have : i ∈ Region.ready .any ops (firstB (m + 2) (m + 2)) := by rw [hr]; exact List.mem_cons_self
      obtain ⟨h1, o, ho, _⟩ := mem_ready.1 this
      have hi : i < ops.size := (Array.getElem?_eq_some_iff.1 ho).1
      rw [firstB_get (by omega)] at h1
      simp at h1
      omega
  have hmem : m ∈ Region.ready .any ops (firstB (m + 2) m) := by
    refine mem_ready.2 ⟨by rw [firstB_get (by omega)]; simp, o1, hl1, fun e he hb => ?_⟩
    have h2 := hd1 e he hb
    rw [firstB_get (by omega)]
    exact decide_eq_true h2
  have hmem2 : m + 1 ∈ Region.ready .any ops (firstB (m + 2) (m + 1)) := by
    refine mem_ready.2 ⟨by rw [firstB_get (by omega)]; simp, o2, hl2, fun e he hb => ?_⟩
    have h2 := hd2 e he hb
    rw [firstB_get (by omega)]
    exact decide_eq_true h2
  refine ⟨fun hr => (by rw [hr] at hmem; cases hmem), fun i hi => ?_⟩
  obtain ⟨hun, o, ho, hdeps⟩ := mem_ready.1 hi
  have hlt : i < ops.size := (Array.getElem?_eq_some_iff.1 ho).1
  have hi : i = m := by
    rcases Nat.lt_or_ge i m with h1 | h1
    · rw [firstB_get (by omega)] at hun
      simp at hun
      omega
    · rcases Nat.lt_or_ge m i with h2 | h2
      · exfalso
        obtain rfl : i = m + 1 := by omega
        rw [hl2] at ho
        cases ho
        unfold waitsFor at hw2
        rw [Array.any_eq_true] at hw2
        obtain ⟨k, hk, hq⟩ := hw2
        simp only [Bool.and_eq_true, beq_iff_eq] at hq
        have := hdeps _ (Array.getElem_mem hk) hq.1
        rw [hq.2, firstB_get (by omega)] at this
        simp at this
      · omega
  subst hi
  refine wpOp_mono (fun a'' w'' h2 => ?_) (hfin a' w' h)
  rw [firstB_set (by omega)]
  refine ⟨fun hr => (by rw [hr] at hmem2; cases hmem2), fun j hj => ?_⟩
  obtain ⟨hun, o, ho, hdeps⟩ := mem_ready.1 hj
  have hlt : j < ops.size := (Array.getElem?_eq_some_iff.1 ho).1
  have hj : j = i + 1 := by
    rw [firstB_get (by omega)] at hun
    simp at hun
    omega
  subst hj
  refine wpOp_mono (fun a3 w3 h3 => ?_) h2
  rw [firstB_set (by omega)]
  exact ⟨hr0, h3⟩
theorem wp_region_text_tail2 {P : Program} {T : List TypeId} {ops : Array Oper} {Q : Exit → Act → World → Prop} {id : Nat} {a : Act} {w : World} (E : Array Eff) (hT : EffT T E) (hok : Eff.ok ops E = true) (hs : E.size + 2 = ops.size)
    (hO : ∀ i, i < E.size → Owed P T ops E a w i) (hfin : ∀ a' w', EffEnd T ops E E.size a w a' w' → wpOp P ops Q E.size (wpOp P ops Q (E.size + 1) (Q .normal)) a' w') :
    (Code.region id ops false).wp P Q a w := by
  refine wp_region (wpOps_eff hT (EffOk.of hok) hO fun a' w' h => ?_)
  rw [← hs, show E.size + 2 - E.size = 2 from by omega]
  show wpOps P ops Q [E.size, E.size + 1] a' w'
  rw [wpOps_cons]
  refine wpOp_mono (fun _ _ h => ?_) (hfin a' w' h)
  rw [wpOps_cons]
  exact wpOp_mono (fun _ _ h => h) h

theorem Fr.putc {F : List (Nat × Value)} {n : Nat} {a : Act} (h : Fr F n a) {d : Nat} (hd : d < n) {v : Value} : Fr ((d, v) :: F) n (a.put (some d) v) := by
  refine ⟨?_, ?_, fun t u ht => ?_⟩
  · simp [Act.put, h.sz]
  · exact h.df
  · rw [List.lookup_cons] at ht
    simp only [Act.put, Array.getElem?_setIfInBounds]
    by_cases e : d = t
    · subst e
      simp at ht
      subst ht
      rw [if_pos rfl, if_pos (by rw [h.sz]; exact hd)]
    · rw [if_neg e]
      have : (t == d) = false := by simpa using fun e2 => e e2.symm
      rw [this] at ht
      exact h.at_ t u ht

/-- THE LAW: a region that ends in a store into an own block and then lays a constant into a temporary. -/
theorem sym_store2 {P : Program} {N n : Nat} {w00 w : World} {K : List (Nat × List Value × TypeId)} {Φ : List (World → Prop)} {F : List (Nat × Value)} {ops : Array Oper} {Q : Exit → Act → World → Prop} {id : Nat} {d : Bool} {a : Act} (T : List TypeId) (E : Array Eff)
    (F' : Got → List (Nat × Value)) (K1 K' : Got → List (Nat × List Value × TypeId)) (Φ' : Got → List (World → Prop)) (k : Nat)
    (hm : P.follows .mixedOrders = true) (hF : Fr F n a) (hI : Inv N w00 K Φ w) (hst : StabAll T Φ) (hok : symOk F ops E n = true) (hs : E.size + 2 = ops.size)
    (hO : ∀ g, OweAll P N T w00 K Φ F ops E g ops.toList E.toList 0)
    (hF' : ∀ g, (F' g).all (fun e => known F ops E.size e.1) = true ∧ (F' g).map (fun e => rho F ops E g E.size (.tmp e.1)) = (F' g).map (·.2)) (hK' : ∀ g, K ++ Eff.news E g = K1 g) (hΦ' : ∀ g, Φ ++ Eff.said E g = Φ' g)
    {o : Oper} {ty : TypeId} {sx : Nat} {y : Operand} (hl : ops[E.size]? = some o) (hg : o.guard = none) (hdst : o.dst = none) (hop : o.op = .store ty (.tmp sx) y)
    (hsr : ∀ g, ∃ b off C t v, T.contains t = true ∧ known F ops E.size sx = true ∧ (match y with | .tmp s => known F ops E.size s | _ => true) = true ∧ rho F ops E g E.size (.tmp sx) = .pointer (some ⟨b, off, none⟩) ∧ rho F ops E g E.size y = v ∧ (K1 g)[k]? = some (b, C, t) ∧
      (P.info? ty).map (·.size) = some v.cells.size ∧ Nat.ble (off + v.cells.size) C.length = true ∧ v.cells.all (·.oneCell') = true ∧ (K1 g).set k (b, putL C off v.cells.toList, t) = K' g)
    {o2 : Oper} {d2 : Nat} {v2 : Value} (hl2 : ops[E.size + 1]? = some o2) (hg2 : o2.guard = none) (hdst2 : o2.dst = some d2) (hop2 : o2.op = .assign (.const v2)) (hd2 : d2 < n) (hw2 : waitsFor o2 E.size = true)
    (h : ∀ g a' w', Fr ((d2, v2) :: F' g) n a' → Inv N w00 (K' g) (Φ' g) w' → Q .normal a' w') : (Code.region id ops d).wp P Q a w := by
  have hT := OweAll.effT hO
  have key : ∀ w0, Inv N w00 K Φ w0 → ∀ a' w', EffEnd T ops E E.size a w0 a' w' → wpOp P ops Q E.size (wpOp P ops Q (E.size + 1) (Q .normal)) a' w' := by
    intro w0 hI a' w' he
    obtain ⟨g, h1, h2⟩ := he.know hF hI hst hT hok
    rw [hK', hΦ'] at h2
    obtain ⟨b, off, C, t, v, hty, p1, p2, hx, hy, hk, hsz, hle, h1c, hKs⟩ := hsr g
    have hFa : Fr (F' g) n a' := h1 _ fun t v ht => by
      obtain ⟨g1, g2⟩ := hF' g
      exact lookup_of (p := fun t => known F ops E.size t) (r := fun t => rho F ops E g E.size (.tmp t)) g1 g2 ht
    have hex : ∀ s u, known F ops E.size s = true → rho F ops E g E.size (.tmp s) = u → a'.eval (.tmp s) = u := by
      intro s u hs hu
      have hq := h1 [(s, u)] (fun t v ht => by
        rw [List.lookup_cons] at ht
        cases hb : (t == s) with
        | true =>
          rw [hb] at ht
          have : t = s := by simpa using hb
          subst this
          cases ht
          exact ⟨hs, hu⟩
        | false => rw [hb] at ht; cases ht)
      have := hq.at_ s u (by rw [List.lookup_cons]; simp)
      show a'.tmps.getD s undef = u
      rw [Array.getD_eq_getD_getElem?, this]; rfl
    have hey : a'.eval y = v := by
      cases y with
      | tmp s => exact hex s v p2 hy
      | const u => exact hy
      | global q => exact hy
      | func f => exact hy
    have hb := (h2.kn.at_ _ (List.mem_of_getElem? hk)).2
    have hr := run_store (P := P) (o := off) (ty := ty) hb hsz (Nat.le_of_ble_eq_true hle) h1c
    have ho1 := onlyB_setCells (w := w') (b := b) (o := off) v.cells.toList
    have hgr : Grow T w' (w'.setCells b off v.cells.toList) := ho1.toGrow hb hty
    unfold wpOp
    rw [hl]
    simp only [Region.wanted, hg, if_true]
    left
    unfold Oper.wp execOp
    simp only [hop, hex sx _ p1 hx, hey, Sem.run_bind, hr, Result.andThen_ok, Sem.run_pure, Oper.upon_skip, hdst, Act.put]
    rw [hl2]
    simp only [hg2, if_true]
    left
    simp only [hop2, Sem.run_pure, Oper.upon_value, hdst2]
    refine h g _ _ (hFa.putc hd2) ⟨?_, ?_, ?_, fun φ hφ => ?_⟩
    · exact h2.below.trans (ho1.below (h2.kn.at_ _ (List.mem_of_getElem? hk)).1)
    · rw [← hKs]
      exact h2.kn.over k hk ho1 (heap_setCells _ hb)
    · rw [ho1.size]; exact h2.sz
    · rw [← hΦ'] at hφ
      rcases List.mem_append.1 hφ with h5 | h5
      · exact hst.at_ φ h5 _ _ hgr (h2.facts φ (by rw [← hΦ']; exact hφ))
      · obtain ⟨i, ds, sh, R, hEi, rfl⟩ := said_mem h5
        exact hT.st i ds sh R hEi _ _ _ _ hgr (h2.facts _ (by rw [← hΦ']; exact hφ))
  cases d with
  | false => exact wp_region_text_tail2 E hT (symOk.out hok).1 hs (fun i hi => Owe.owed hF hI hst hok hO i hi) (key w hI)
  | true => exact wp_region_eff_tail2 E hT hm (symOk.out hok).1 hs hl2 hw2 (fun i hi => Owe.owed hF (hI.drew hst) hst hok hO i hi) (key w.drew (hI.drew hst))

/-- THE LAW, where nothing is to be known behind: a region that ends in a store into an own block then lays a constant into a temporary. -/
theorem sym_store3 {P : Program} {N n : Nat} {w00 w : World} {K : List (Nat × List Value × TypeId)} {Φ : List (World → Prop)} {F : List (Nat × Value)} {ops : Array Oper} {Q : Exit → Act → World → Prop} {id : Nat} {d : Bool} {a : Act} (T : List TypeId) (E : Array Eff)
    (F' : Got → List (Nat × Value)) (K1 K' : Got → List (Nat × List Value × TypeId)) (Φ' : Got → List (World → Prop)) (k : Nat)
    (hm : P.follows .mixedOrders = true) (hF : Fr F n a) (hI : Inv N w00 K Φ w) (hst : StabAll T Φ) (hok : symOk F ops E n = true) (hs : E.size + 2 = ops.size)
    (hO : ∀ g, OweAll P N T w00 K Φ F ops E g ops.toList E.toList 0)
    (hF' : ∀ g, (F' g).all (fun e => known F ops E.size e.1) = true ∧ (F' g).map (fun e => rho F ops E g E.size (.tmp e.1)) = (F' g).map (·.2)) (hK' : ∀ g, K ++ Eff.news E g = K1 g) (hΦ' : ∀ g, Φ ++ Eff.said E g = Φ' g)
    {o : Oper} {ty : TypeId} {sx : Nat} {y : Operand} (hl : ops[E.size]? = some o) (hg : o.guard = none) (hdst : o.dst = none) (hop : o.op = .store ty (.tmp sx) y)
    (hsr : ∀ g, ∃ b off C t v, known F ops E.size sx = true ∧ (match y with | .tmp s => known F ops E.size s | _ => true) = true ∧ rho F ops E g E.size (.tmp sx) = .pointer (some ⟨b, off, none⟩) ∧ rho F ops E g E.size y = v ∧ (K1 g)[k]? = some (b, C, t) ∧
      (P.info? ty).map (·.size) = some v.cells.size ∧ Nat.ble (off + v.cells.size) C.length = true ∧ v.cells.all (·.oneCell') = true ∧ (K1 g).set k (b, putL C off v.cells.toList, t) = K' g)
    {o2 : Oper} {d2 : Nat} {v2 : Value} (hl2 : ops[E.size + 1]? = some o2) (hg2 : o2.guard = none) (hdst2 : o2.dst = some d2) (hop2 : o2.op = .assign (.const v2)) (hd2 : d2 < n) (hw2 : waitsFor o2 E.size = true)
    (h : ∀ g a' w', Fr ((d2, v2) :: F' g) n a' → Inv N w00 (K' g) [] w' → Q .normal a' w') : (Code.region id ops d).wp P Q a w := by
  have hT := OweAll.effT hO
  have key : ∀ w0, Inv N w00 K Φ w0 → ∀ a' w', EffEnd T ops E E.size a w0 a' w' → wpOp P ops Q E.size (wpOp P ops Q (E.size + 1) (Q .normal)) a' w' := by
    intro w0 hI a' w' he
    obtain ⟨g, h1, h2⟩ := he.know hF hI hst hT hok
    rw [hK', hΦ'] at h2
    obtain ⟨b, off, C, t, v, p1, p2, hx, hy, hk, hsz, hle, h1c, hKs⟩ := hsr g
    have hFa : Fr (F' g) n a' := h1 _ fun t v ht => by
      obtain ⟨g1, g2⟩ := hF' g
      exact lookup_of (p := fun t => known F ops E.size t) (r := fun t => rho F ops E g E.size (.tmp t)) g1 g2 ht
    have hex : ∀ s u, known F ops E.size s = true → rho F ops E g E.size (.tmp s) = u → a'.eval (.tmp s) = u := by
      intro s u hs hu
      have hq := h1 [(s, u)] (fun t v ht => by
        rw [List.lookup_cons] at ht
        cases hb : (t == s) with
        | true =>
          rw [hb] at ht
          have : t = s := by simpa using hb
          subst this
          cases ht
          exact ⟨hs, hu⟩
        | false => rw [hb] at ht; cases ht)
      have := hq.at_ s u (by rw [List.lookup_cons]; simp)
      show a'.tmps.getD s undef = u
      rw [Array.getD_eq_getD_getElem?, this]; rfl
    have hey : a'.eval y = v := by
      cases y with
      | tmp s => exact hex s v p2 hy
      | const u => exact hy
      | global q => exact hy
      | func f => exact hy
    have hb := (h2.kn.at_ _ (List.mem_of_getElem? hk)).2
    have hr := run_store (P := P) (o := off) (ty := ty) hb hsz (Nat.le_of_ble_eq_true hle) h1c
    have ho1 := onlyB_setCells (w := w') (b := b) (o := off) v.cells.toList
    unfold wpOp
    rw [hl]
    simp only [Region.wanted, hg, if_true]
    left
    unfold Oper.wp execOp
    simp only [hop, hex sx _ p1 hx, hey, Sem.run_bind, hr, Result.andThen_ok, Sem.run_pure, Oper.upon_skip, hdst, Act.put]
    rw [hl2]
    simp only [hg2, if_true]
    left
    simp only [hop2, Sem.run_pure, Oper.upon_value, hdst2]
    refine h g _ _ (hFa.putc hd2) ⟨?_, ?_, ?_, fun φ hφ => ?_⟩
    · exact h2.below.trans (ho1.below (h2.kn.at_ _ (List.mem_of_getElem? hk)).1)
    · rw [← hKs]
      exact h2.kn.over k hk ho1 (heap_setCells _ hb)
    · rw [ho1.size]; exact h2.sz
    · cases hφ
  cases d with
  | false => exact wp_region_text_tail2 E hT (symOk.out hok).1 hs (fun i hi => Owe.owed hF hI hst hok hO i hi) (key w hI)
  | true => exact wp_region_eff_tail2 E hT hm (symOk.out hok).1 hs hl2 hw2 (fun i hi => Owe.owed hF (hI.drew hst) hst hok hO i hi) (key w.drew (hI.drew hst))

end Go.Proofs.YtjokcbjahidckaaGreat
/-! Short words of the printed texts. Condition: none but what is handed in. -/
namespace Go.Proofs.YtjokcbjahidckaaGreat
open Go.RowKit

abbrev Z6 : List Value := List.replicate 6 (Value.int .u64 0)
abbrev pt (b : Nat) : Value := .pointer (some ⟨b, 0, none⟩)
abbrev va (v : Value) : Eff := .val [] fun _ => v
theorem mixed : Tryz.prog.follows .mixedOrders = true := by kernel_rfl
/-- A row's type, asked by its number. -/
def rowB (P : Program) (ty : TypeId) : Bool := match P.underlying ty with | some d => d.isRow | none => false
theorem rowB.out {P : Program} {ty : TypeId} (h : rowB P ty = true) : ∃ d, P.underlying ty = some d ∧ d.isRow = true := by
  unfold rowB at h
  cases hd : P.underlying ty with
  | none => rw [hd] at h; cases h
  | some d => rw [hd] at h; exact ⟨d, rfl, h⟩

section
variable {P : Program} {N : Nat} {T : List TypeId} {w00 : World} {K : List (Nat × List Value × TypeId)} {Φ : List (World → Prop)} {F : List (Nat × Value)} {ops : Array Oper} {E : Array Eff} {g : Got} {i : Nat} {o : Oper}
theorem pv {ds : List Nat} {v : List Dat → Value} (h1 : wantS F ops E g i o = true := by kernel_rfl) (h2 : ∀ w, (execOp (rho F ops E g i) o).run P w = .ok (.value (v (ds.map (Eff.env E g)))) w := by intro w; kernel_rfl) : Owe P N T w00 K Φ F ops E g i o (.val ds v) :=
  ⟨h1, fun w _ _ => pureU (h2 w)⟩
theorem ov {ds : List Nat} {v : List Dat → Value} (h : ∀ w, Inv N w00 K Φ w → Facts E g o w → valU P w (v (ds.map (Eff.env E g))) ((execOp (rho F ops E g i) o).run P w)) (h1 : wantS F ops E g i o = true := by kernel_rfl) : Owe P N T w00 K Φ F ops E g i o (.val ds v) := ⟨h1, h⟩
theorem cv {ds : List Nat} {v : List Dat → Value} {f : FuncId} {args : Array Value} (h : ∀ w, Inv N w00 K Φ w → Facts E g o w → Calls P f args w (Ret w (v (ds.map (Eff.env E g)))))
    (h1 : wantS F ops E g i o = true := by kernel_rfl) (h2 : ∀ w, (execOp (rho F ops E g i) o).run P w = .ok (.enter f args) w := by intro w; kernel_rfl) : Owe P N T w00 K Φ F ops E g i o (.val ds v) :=
  ⟨h1, fun w hI hf => callU (h2 w) (h w hI hf)⟩
theorem cx {ds : List Nat} {sh : Dat → Value} {R : List Dat → Dat → World → Prop} {f : FuncId} {args : Array Value} (hs : ∀ l v w w', Grow T w w' → R l v w → R l v w') (h : ∀ w, Inv N w00 K Φ w → Facts E g o w → Calls P f args w (RetR w sh (R (ds.map (Eff.env E g)))))
    (h1 : wantS F ops E g i o = true := by kernel_rfl) (h2 : ∀ w, (execOp (rho F ops E g i) o).run P w = .ok (.enter f args) w := by intro w; kernel_rfl) : Owe P N T w00 K Φ F ops E g i o (.ex ds sh R) :=
  ⟨hs, h1, fun w hI hf => exU_call (h2 w) (h w hI hf)⟩
theorem nw {ds : List Nat} {cs : List Dat → Array Value} {t : TypeId} (h0 : ((putOp E i).isNone || T.contains t) = true := by kernel_rfl) (h1 : wantS F ops E g i o = true := by kernel_rfl)
    (h2 : ∀ w, (execOp (rho F ops E g i) o).run P w = .ok (.value (.pointer (some ⟨w.heap.size, 0, none⟩))) (w.alloc (.cells (cs (ds.map (Eff.env E g))) t)) := by intro w; kernel_rfl) : Owe P N T w00 K Φ F ops E g i o (.new ds cs t) :=
  ⟨h0, h1, fun w => newO (h2 w)⟩
theorem po {j : Nat} {ds : List Nat} {cs : List Dat → Array Value} {ty : TypeId} {x y : Operand} (v : Value) (C : List Value) (ho : o.op = .store ty x y) (h1 : wantS F ops E g i o = true := by kernel_rfl)
    (hC : Eff.cs0 E g j = C.toArray := by kernel_rfl) (hv : v.cells = cs (ds.map (Eff.env E g)) := by kernel_rfl) (hx : rho F ops E g i x = .pointer (some ⟨g.γ j, 0, none⟩) := by kernel_rfl) (hy : rho F ops E g i y = v := by kernel_rfl)
    (hs : (P.info? ty).map (·.size) = some v.cells.size := by kernel_rfl) (hl : C.length = v.cells.size := by kernel_rfl) (hc : v.cells.all (·.oneCell') = true := by kernel_rfl) : Owe P N T w00 K Φ F ops E g i o (.put j ds cs) :=
  ⟨h1, fun w _ _ t _ hb => by rw [← hv]; rw [hC] at hb; exact putO hb ho hx hy hs hl hc⟩
theorem offV (h1 : wantS F ops E g i o = false := by kernel_rfl) : Owe P N T w00 K Φ F ops E g i o .off := h1
variable {ρ : Operand → Value} {ty : TypeId} {x : Operand} {w : World}
/-- Loads: out of an own block, a row or a single cell; out of memory that was there; by a fact. -/
theorem lk (k off : Nat) {cs : List Value} {b : Nat} {C : List Value} {t : TypeId} {ds : List Nat} {v : List Dat → Value} (hk : K[k]? = some (b, C, t)) (ho : o.op = .load ty x) (hv : v (ds.map (Eff.env E g)) = .agg cs.toArray := by rfl) (h1 : wantS F ops E g i o = true := by kernel_rfl) (hc : (C.drop off).take cs.length = cs := by kernel_rfl)
    (hx : rho F ops E g i x = .pointer (some ⟨b, off, none⟩) := by kernel_rfl) (hd : rowB P ty = true := by kernel_rfl) (hi : (P.info? ty).map (·.size) = some cs.length := by kernel_rfl) : Owe P N T w00 K Φ F ops E g i o (.val ds v) :=
  ⟨h1, fun w hI _ => by obtain ⟨d, hd1, hd2⟩ := rowB.out hd; rw [hv]; exact loadK k off cs hI hk hc ho hx hd1 hd2 hi⟩
theorem lk1 (k off : Nat) {b : Nat} {C : List Value} {t : TypeId} {ds : List Nat} {v : List Dat → Value} (hk : K[k]? = some (b, C, t)) (ho : o.op = .load ty x) (h1 : wantS F ops E g i o = true := by kernel_rfl) (hc : C[off]? = some (v (ds.map (Eff.env E g))) := by kernel_rfl)
    (hx : rho F ops E g i x = .pointer (some ⟨b, off, none⟩) := by kernel_rfl) (ha : ∀ w, (isAgg ty).run P w = .ok false w := by intro w; kernel_rfl) : Owe P N T w00 K Φ F ops E g i o (.val ds v) :=
  ⟨h1, fun w hI _ => load1K k off _ hI hk hc ho hx (ha w)⟩
theorem lO (b off : Nat) {cs : List Value} {ds : List Nat} {v : List Dat → Value} (hb : b < N) (hr : w00.rangeAt b off cs) (ho : o.op = .load ty x) (hv : v (ds.map (Eff.env E g)) = .agg cs.toArray := by rfl) (h1 : wantS F ops E g i o = true := by kernel_rfl)
    (hx : rho F ops E g i x = .pointer (some ⟨b, off, none⟩) := by kernel_rfl) (hd : rowB P ty = true := by kernel_rfl) (hi : (P.info? ty).map (·.size) = some cs.length := by kernel_rfl) : Owe P N T w00 K Φ F ops E g i o (.val ds v) :=
  ⟨h1, fun w hI _ => by obtain ⟨d, hd1, hd2⟩ := rowB.out hd; rw [hv]; exact loadO b off cs hI hb hr ho hx hd1 hd2 hi⟩
theorem lO1 (b off : Nat) {ds : List Nat} {v : List Dat → Value} (hb : b < N) (hc : w00.cell? ⟨b, off, none⟩ = some (v (ds.map (Eff.env E g)))) (ho : o.op = .load ty x) (h1 : wantS F ops E g i o = true := by kernel_rfl)
    (hx : rho F ops E g i x = .pointer (some ⟨b, off, none⟩) := by kernel_rfl) (ha : ∀ w, (isAgg ty).run P w = .ok false w := by intro w; kernel_rfl) : Owe P N T w00 K Φ F ops E g i o (.val ds v) :=
  ⟨h1, fun w hI _ => load1O b off _ hI hb hc ho hx (ha w)⟩
theorem lR {b off : Nat} {cs : List Value} {ds : List Nat} {v : List Dat → Value} (hr : ∀ w, Inv N w00 K Φ w → Facts E g o w → w.rangeAt b off cs) (ho : o.op = .load ty x) (hv : v (ds.map (Eff.env E g)) = .agg cs.toArray := by rfl) (h1 : wantS F ops E g i o = true := by kernel_rfl)
    (hx : rho F ops E g i x = .pointer (some ⟨b, off, none⟩) := by kernel_rfl) (hd : rowB P ty = true := by kernel_rfl) (hi : (P.info? ty).map (·.size) = some cs.length := by kernel_rfl) : Owe P N T w00 K Φ F ops E g i o (.val ds v) :=
  ⟨h1, fun w hI hf => by obtain ⟨d, hd1, hd2⟩ := rowB.out hd; rw [hv]; exact loadR (hr w hI hf) ho hx hd1 hd2 hi⟩
theorem lR1 {b off : Nat} {ds : List Nat} {v : List Dat → Value} (hc : ∀ w, Inv N w00 K Φ w → Facts E g o w → w.cell? ⟨b, off, none⟩ = some (v (ds.map (Eff.env E g)))) (ho : o.op = .load ty x) (h1 : wantS F ops E g i o = true := by kernel_rfl)
    (hx : rho F ops E g i x = .pointer (some ⟨b, off, none⟩) := by kernel_rfl) (ha : ∀ w, (isAgg ty).run P w = .ok false w := by intro w; kernel_rfl) : Owe P N T w00 K Φ F ops E g i o (.val ds v) :=
  ⟨h1, fun w hI hf => load1 (hc w hI hf) ho hx (ha w)⟩
end

section
variable {P : Program} {N n : Nat} {w00 w : World} {K : List (Nat × List Value × TypeId)} {Φ : List (World → Prop)} {F : List (Nat × Value)} {ops : Array Oper} {Q : Exit → Act → World → Prop} {a : Act}
/-- Regions, in short. -/
theorem sy {id : Nat} {d : Bool} (T : List TypeId) (E : Array Eff) (F' : Got → List (Nat × Value)) (K' : Got → List (Nat × List Value × TypeId)) (Φ' : Got → List (World → Prop)) (hF : Fr F n a) (hI : Inv N w00 K Φ w) (hst : StabAll T Φ)
    (hO : ∀ g, OweAll P N T w00 K Φ F ops E g ops.toList E.toList 0) (h : ∀ g a' w', Fr (F' g) n a' → Inv N w00 (K' g) (Φ' g) w' → Q .normal a' w')
    (hm : P.follows .mixedOrders = true := by kernel_rfl) (hok : symOk F ops E n = true := by kernel_rfl) (hs : E.size = ops.size := by kernel_rfl)
    (hF1 : ∀ g, (F' g).all (fun e => known F ops E.size e.1) = true := by intro g; kernel_rfl) (hF2 : ∀ g, (F' g).map (fun e => rho F ops E g E.size (.tmp e.1)) = (F' g).map (·.2) := by intro g; kernel_rfl)
    (hK' : ∀ g, K ++ Eff.news E g = K' g := by intro g; kernel_rfl) (hΦ' : ∀ g, Φ ++ Eff.said E g = Φ' g := by intro g; kernel_rfl) : (Code.region id ops d).wp P Q a w :=
  sym_region T E F' K' Φ' hm hF hI hst hok hs hO (fun g => ⟨hF1 g, hF2 g⟩) hK' hΦ' h
theorem sx (T : List TypeId) (E : Array Eff) (F' : Got → List (Nat × Value)) (K' : Got → List (Nat × List Value × TypeId)) (Φ' : Got → List (World → Prop)) (hF : Fr F n a) (hI : Inv N w00 K Φ w) (hst : StabAll T Φ)
    (hO : ∀ g, OweAll P N T w00 K Φ F ops E g ops.toList E.toList 0) (h : ∀ g a' w', Fr (F' g) n a' → Inv N w00 (K' g) (Φ' g) w' → Q .normal a' w')
    (hok : symOk F ops E n = true := by kernel_rfl) (hs : E.size = ops.size := by kernel_rfl)
    (hF1 : ∀ g, (F' g).all (fun e => known F ops E.size e.1) = true := by intro g; kernel_rfl) (hF2 : ∀ g, (F' g).map (fun e => rho F ops E g E.size (.tmp e.1)) = (F' g).map (·.2) := by intro g; kernel_rfl)
    (hK' : ∀ g, K ++ Eff.news E g = K' g := by intro g; kernel_rfl) (hΦ' : ∀ g, Φ ++ Eff.said E g = Φ' g := by intro g; kernel_rfl) : TextOps P ops Q a w :=
  sym_text T E F' K' Φ' hF hI hst hok hs hO (fun g => ⟨hF1 g, hF2 g⟩) hK' hΦ' h
def opK (F : List (Nat × Value)) (ops : Array Oper) (m : Nat) : Operand → Bool
  | .tmp s => known F ops m s
  | _ => true
theorem opK_out {F : List (Nat × Value)} {ops : Array Oper} {m : Nat} {y : Operand} : opK F ops m y = true → (match y with | .tmp s => known F ops m s | _ => true) = true := by
  cases y <;> exact id
/-- A region that ends in a store into an own block that was there; one more constant behind it. -/
theorem ss {id : Nat} {d : Bool} {b : Nat} {C : List Value} {t : TypeId} {o : Oper} {ty : TypeId} {sx : Nat} {y : Operand} (T : List TypeId) (E : Array Eff) (F' : Got → List (Nat × Value)) (K' : Got → List (Nat × List Value × TypeId)) (Φ' : Got → List (World → Prop)) (k off : Nat)
    (hF : Fr F n a) (hI : Inv N w00 K Φ w) (hst : StabAll T Φ) (hO : ∀ g, OweAll P N T w00 K Φ F ops E g ops.toList E.toList 0) (hk : K[k]? = some (b, C, t)) (hl : ops[E.size]? = some o) (hop : o.op = .store ty (.tmp sx) y)
    (h : ∀ g a' w', Fr (F' g) n a' → Inv N w00 (K' g) (Φ' g) w' → Q .normal a' w')
    (hm : P.follows .mixedOrders = true := by kernel_rfl) (hok : symOk F ops E n = true := by kernel_rfl) (hs : E.size + 1 = ops.size := by kernel_rfl)
    (hF1 : ∀ g, (F' g).all (fun e => known F ops E.size e.1) = true := by intro g; kernel_rfl) (hF2 : ∀ g, (F' g).map (fun e => rho F ops E g E.size (.tmp e.1)) = (F' g).map (·.2) := by intro g; kernel_rfl)
    (hΦ' : ∀ g, Φ ++ Eff.said E g = Φ' g := by intro g; kernel_rfl) (hg : o.guard = none := by kernel_rfl) (hdst : o.dst = none := by kernel_rfl)
    (q1 : T.contains t = true := by kernel_rfl) (q2 : known F ops E.size sx = true := by kernel_rfl) (q3 : opK F ops E.size y = true := by kernel_rfl)
    (q4 : ∀ g, rho F ops E g E.size (.tmp sx) = .pointer (some ⟨b, off, none⟩) := by intro g; kernel_rfl) (q5 : ∀ g, (P.info? ty).map (·.size) = some (rho F ops E g E.size y).cells.size := by intro g; kernel_rfl)
    (q6 : ∀ g, Nat.ble (off + (rho F ops E g E.size y).cells.size) C.length = true := by intro g; kernel_rfl) (q7 : ∀ g, (rho F ops E g E.size y).cells.all (·.oneCell') = true := by intro g; kernel_rfl)
    (q8 : ∀ g, (K ++ Eff.news E g).set k (b, putL C off (rho F ops E g E.size y).cells.toList, t) = K' g := by intro g; kernel_rfl) : (Code.region id ops d).wp P Q a w :=
  sym_store T E F' (fun g => K ++ Eff.news E g) K' Φ' k hm hF hI hst hok hs hO (fun g => ⟨hF1 g, hF2 g⟩) (fun _ => rfl) hΦ' hl hg hdst hop
    (fun g => ⟨b, off, C, t, _, q1, q2, opK_out q3, q4 g, rfl, by rw [List.getElem?_append_left (List.getElem?_eq_some_iff.1 hk).1]; exact hk, q5 g, q6 g, q7 g, q8 g⟩) h
theorem ss2 {id : Nat} {d : Bool} {b : Nat} {C : List Value} {t : TypeId} {o : Oper} {ty : TypeId} {sx : Nat} {y : Operand} {o2 : Oper} {d2 : Nat} {v2 : Value} (T : List TypeId) (E : Array Eff) (F' : Got → List (Nat × Value)) (K' : Got → List (Nat × List Value × TypeId)) (Φ' : Got → List (World → Prop)) (k off : Nat)
    (hF : Fr F n a) (hI : Inv N w00 K Φ w) (hst : StabAll T Φ) (hO : ∀ g, OweAll P N T w00 K Φ F ops E g ops.toList E.toList 0) (hk : K[k]? = some (b, C, t)) (hl : ops[E.size]? = some o) (hop : o.op = .store ty (.tmp sx) y)
    (hl2 : ops[E.size + 1]? = some o2) (hdst2 : o2.dst = some d2) (hop2 : o2.op = .assign (.const v2))
    (h : ∀ g a' w', Fr ((d2, v2) :: F' g) n a' → Inv N w00 (K' g) (Φ' g) w' → Q .normal a' w')
    (hm : P.follows .mixedOrders = true := by kernel_rfl) (hok : symOk F ops E n = true := by kernel_rfl) (hs : E.size + 2 = ops.size := by kernel_rfl)
    (hF1 : ∀ g, (F' g).all (fun e => known F ops E.size e.1) = true := by intro g; kernel_rfl) (hF2 : ∀ g, (F' g).map (fun e => rho F ops E g E.size (.tmp e.1)) = (F' g).map (·.2) := by intro g; kernel_rfl)
    (hΦ' : ∀ g, Φ ++ Eff.said E g = Φ' g := by intro g; kernel_rfl) (hg : o.guard = none := by kernel_rfl) (hdst : o.dst = none := by kernel_rfl) (hg2 : o2.guard = none := by kernel_rfl) (hd2 : d2 < n := by decide) (hw2 : waitsFor o2 E.size = true := by kernel_rfl)
    (q1 : T.contains t = true := by kernel_rfl) (q2 : known F ops E.size sx = true := by kernel_rfl) (q3 : opK F ops E.size y = true := by kernel_rfl)
    (q4 : ∀ g, rho F ops E g E.size (.tmp sx) = .pointer (some ⟨b, off, none⟩) := by intro g; kernel_rfl) (q5 : ∀ g, (P.info? ty).map (·.size) = some (rho F ops E g E.size y).cells.size := by intro g; kernel_rfl)
    (q6 : ∀ g, Nat.ble (off + (rho F ops E g E.size y).cells.size) C.length = true := by intro g; kernel_rfl) (q7 : ∀ g, (rho F ops E g E.size y).cells.all (·.oneCell') = true := by intro g; kernel_rfl)
    (q8 : ∀ g, (K ++ Eff.news E g).set k (b, putL C off (rho F ops E g E.size y).cells.toList, t) = K' g := by intro g; kernel_rfl) : (Code.region id ops d).wp P Q a w :=
  sym_store2 T E F' (fun g => K ++ Eff.news E g) K' Φ' k hm hF hI hst hok hs hO (fun g => ⟨hF1 g, hF2 g⟩) (fun _ => rfl) hΦ' hl hg hdst hop
    (fun g => ⟨b, off, C, t, _, q1, q2, opK_out q3, q4 g, rfl, by rw [List.getElem?_append_left (List.getElem?_eq_some_iff.1 hk).1]; exact hk, q5 g, q6 g, q7 g, q8 g⟩) hl2 hg2 hdst2 hop2 hd2 hw2 h
theorem ss3 {id : Nat} {d : Bool} {b : Nat} {C : List Value} {t : TypeId} {o : Oper} {ty : TypeId} {sx : Nat} {y : Operand} {o2 : Oper} {d2 : Nat} {v2 : Value} (T : List TypeId) (E : Array Eff) (F' : Got → List (Nat × Value)) (K' : Got → List (Nat × List Value × TypeId)) (Φ' : Got → List (World → Prop)) (k off : Nat)
    (hF : Fr F n a) (hI : Inv N w00 K Φ w) (hst : StabAll T Φ) (hO : ∀ g, OweAll P N T w00 K Φ F ops E g ops.toList E.toList 0) (hk : K[k]? = some (b, C, t)) (hl : ops[E.size]? = some o) (hop : o.op = .store ty (.tmp sx) y)
    (hl2 : ops[E.size + 1]? = some o2) (hdst2 : o2.dst = some d2) (hop2 : o2.op = .assign (.const v2))
    (h : ∀ g a' w', Fr ((d2, v2) :: F' g) n a' → Inv N w00 (K' g) [] w' → Q .normal a' w')
    (hm : P.follows .mixedOrders = true := by kernel_rfl) (hok : symOk F ops E n = true := by kernel_rfl) (hs : E.size + 2 = ops.size := by kernel_rfl)
    (hF1 : ∀ g, (F' g).all (fun e => known F ops E.size e.1) = true := by intro g; kernel_rfl) (hF2 : ∀ g, (F' g).map (fun e => rho F ops E g E.size (.tmp e.1)) = (F' g).map (·.2) := by intro g; kernel_rfl)
    (hΦ' : ∀ g, Φ ++ Eff.said E g = Φ' g := by intro g; kernel_rfl) (hg : o.guard = none := by kernel_rfl) (hdst : o.dst = none := by kernel_rfl) (hg2 : o2.guard = none := by kernel_rfl) (hd2 : d2 < n := by decide) (hw2 : waitsFor o2 E.size = true := by kernel_rfl)
    (q2 : known F ops E.size sx = true := by kernel_rfl) (q3 : opK F ops E.size y = true := by kernel_rfl)
    (q4 : ∀ g, rho F ops E g E.size (.tmp sx) = .pointer (some ⟨b, off, none⟩) := by intro g; kernel_rfl) (q5 : ∀ g, (P.info? ty).map (·.size) = some (rho F ops E g E.size y).cells.size := by intro g; kernel_rfl)
    (q6 : ∀ g, Nat.ble (off + (rho F ops E g E.size y).cells.size) C.length = true := by intro g; kernel_rfl) (q7 : ∀ g, (rho F ops E g E.size y).cells.all (·.oneCell') = true := by intro g; kernel_rfl)
    (q8 : ∀ g, (K ++ Eff.news E g).set k (b, putL C off (rho F ops E g E.size y).cells.toList, t) = K' g := by intro g; kernel_rfl) : (Code.region id ops d).wp P Q a w :=
  sym_store3 T E F' (fun g => K ++ Eff.news E g) K' Φ' k hm hF hI hst hok hs hO (fun g => ⟨hF1 g, hF2 g⟩) (fun _ => rfl) hΦ' hl hg hdst hop
    (fun g => ⟨b, off, C, t, _, q2, opK_out q3, q4 g, rfl, by rw [List.getElem?_append_left (List.getElem?_eq_some_iff.1 hk).1]; exact hk, q5 g, q6 g, q7 g, q8 g⟩) hl2 hg2 hdst2 hop2 hd2 hw2 h
end
end Go.Proofs.YtjokcbjahidckaaGreat
/-! The group over mont's elements: what its functions compute. Conditions: a group over a field lies there. -/
namespace Go.Proofs.YtjokcbjahidckaaGreat
open Go.RowKit
set_option maxRecDepth 100000
set_option maxHeartbeats 8000000
def feC (p n : Nat) (x : Zm p) : List Value := (digs B64 6 (x.val * B64 ^ n % p)).map fun n : Nat => Value.int .u64 (n : Int)
def fe (p n : Nat) (x : Zm p) : Value := .agg (feC p n x).toArray
/-- The block of a pointer. -/
def blkOf : Value → Nat
  | .pointer (some a) => a.block
  | _ => 0
theorem fe_me (p n : Nat) (x : Zm p) : fe p n x = me p n x.val := rfl

/-- A group of points over mont lies in block q. -/
structure GrAt (w : World) (q a p n v : Nat) (b : Zm p) : Prop where
  ring : w.cell? ⟨q, 0, none⟩ = some (.iface 288 (.pointer (some ⟨a, 0, none⟩)))
  b : w.rangeAt q 1 (feC p n b)
  fld : FldAt w a p n v
theorem GrAt.lt {w : World} {q a p n v : Nat} {b : Zm p} (h : GrAt w q a p n v b) : q < w.heap.size := World.block_lt_of_cell? w _ h.ring

theorem fe_mul {a p n v : Nat} [Pr p] {x y z : Zm p} (hz : z = x * y) {w : World} (h : FldAt w a p n v) : Calls Tryz.prog 307 #[.pointer (some ⟨a, 0, none⟩), fe p n x, fe p n y] w (Ret w (fe p n z)) := by
  subst hz
  have := me_mul a p n v x.val y.val w h
  rw [← me_mod p n (x.val * y.val)] at this
  exact this
theorem fe_add {a p n v : Nat} [Pr p] {x y z : Zm p} (hz : z = x + y) {w : World} (h : FldAt w a p n v) : Calls Tryz.prog 310 #[.pointer (some ⟨a, 0, none⟩), fe p n x, fe p n y] w (Ret w (fe p n z)) := by
  subst hz
  have := me_add a p n v x.val y.val w h
  rw [← me_mod p n (x.val + y.val)] at this
  exact this
theorem fe_sub {a p n v : Nat} [Pr p] {x y z : Zm p} (hz : z = x - y) {w : World} (h : FldAt w a p n v) : Calls Tryz.prog 313 #[.pointer (some ⟨a, 0, none⟩), fe p n x, fe p n y] w (Ret w (fe p n z)) := by
  subst hz
  have := me_sub a p n v x.val y.val w h
  rw [Nat.mod_eq_of_lt y.lt, ← me_mod p n (x.val + _)] at this
  exact this
theorem fe_inv {a p n v : Nat} [Pr p] {x z : Zm p} (hz : z = Fd.finv x) {w : World} (h : FldAt w a p n v) : Calls Tryz.prog 315 #[.pointer (some ⟨a, 0, none⟩), fe p n x] w (Ret w (fe p n z)) := by
  subst hz
  have := me_inv a p n v x.val w h
  rw [← me_mod p n (x.val ^ (p - 2))] at this
  exact this
theorem GrAt.below {w w' : World} {q a p n v : Nat} {b : Zm p} (h : GrAt w q a p n v b) (hb : Below w.heap.size w w') : GrAt w' q a p n v b := ⟨cell_below hb h.ring, rangeAt_below h.b hb h.lt, h.fld.below hb⟩

theorem fe_zero (p n : Nat) [Pr p] : fe p n 0 = .agg (List.replicate 6 (Value.int .u64 0)).toArray := by
  unfold fe feC
  rw [Zm.val_zero, Nat.zero_mul, Nat.zero_mod]
  rfl
theorem feC_zero (p n : Nat) [Pr p] : feC p n 0 = List.replicate 6 (Value.int .u64 0) := by
  unfold feC
  rw [Zm.val_zero, Nat.zero_mul, Nat.zero_mod]
  rfl
theorem fe_sub0 {a p n v : Nat} [Pr p] {y z : Zm p} (hz : z = 0 - y) {w : World} (h : FldAt w a p n v) : Calls Tryz.prog 313 #[.pointer (some ⟨a, 0, none⟩), .agg (List.replicate 6 (Value.int .u64 0)).toArray, fe p n y] w (Ret w (fe p n z)) := by
  rw [← fe_zero p n]
  exact fe_sub hz h
theorem fe_inj {w : World} {a p n v : Nat} [Pr p] (h : FldAt w a p n v) {x y : Zm p} : fe p n x = fe p n y ↔ x = y := by
  rw [fe_me, fe_me, me_inj h.pv h.n6 h.pn (by have := h.p1; omega), Nat.mod_eq_of_lt x.lt, Nat.mod_eq_of_lt y.lt]
  exact ⟨fun e => Zm.ext e, fun e => by rw [e]⟩
/-- mont.One. -/
theorem one_any {w : World} {a p n v : Nat} (h : FldAt w a p n v) : Calls Tryz.prog 296 #[.pointer (some ⟨a, 0, none⟩)] w (Ret w (elv (B64 ^ n % p))) := by
  have hal := h.lt
  have h1 : w.rangeAt a 8 ((digs B64 6 (B64 ^ n % p)).map fun n : Nat => Value.int .u64 (n : Int)) := by
    intro j v hv
    have hj : j < 6 := by
      have := (List.getElem?_eq_some_iff.1 hv).1
      rwa [List.length_map, length_digs] at this
    rw [h.h1 j hj, ← hv, List.getElem?_map]
    have : j < (digs B64 6 (B64 ^ n % p)).length := by rw [length_digs]; exact hj
    rw [List.getElem?_eq_getElem this, List.getD_eq_getElem?_getD, List.getElem?_eq_getElem this]
    rfl
  refine calls_of_wp Tryz.func296 (by rfl : Tryz.f296.body = some _) ?_
  have hF : Fr [(0, pt a)] 7 _ := Fr.start (args := #[pt a]) (m := 7) (by simp)
  have hI := Inv.start0 w
  refine wp_seq ?_
  refine sy [] #[.new [] (fun _ => (Z6).toArray) 166]
    (fun g1 => [(0, pt a), (2, pt (g1.γ 0))]) (fun g1 => [((g1.γ 0), Z6, 166)]) (fun _ => [])
    hF hI trivial (fun g => ⟨nw, trivial⟩) ?_
  intro g1 a1 w1 hF hI
  refine wp_seq ?_
  refine ss [166] #[va (pt a),
      va (pt a),
      va (.pointer (some ⟨a, 8, none⟩)),
      va (.agg ((digs B64 6 (B64 ^ n % p)).map fun n : Nat => Value.int .u64 (n : Int)).toArray)]
    (fun g2 => [(2, pt (g1.γ 0))]) (fun _ => [((g1.γ 0), ((digs B64 6 (B64 ^ n % p)).map fun n : Nat => Value.int .u64 (n : Int)), 166)]) (fun _ => []) 0 0
    hF hI trivial (fun g => ⟨pv,
      pv,
      pv,
      lO a 8 hal h1 rfl, trivial⟩) rfl rfl rfl ?_
  intro g2 a2 w2 hF hI
  refine wp_ret ?_
  show bodyPost Tryz.prog Tryz.f296 (Ret w (.agg ((digs B64 6 (B64 ^ n % p)).map fun n : Nat => Value.int .u64 (n : Int)).toArray)) .ret _ _
  exact sym_ret rfl hF.df (rv_cell 0 hF rfl hI rfl Tryz.underlying166 rfl (by kernel_rfl)) ⟨rfl, hI.below⟩

theorem fe_one {a p n v : Nat} [Pr p] {w : World} (h : FldAt w a p n v) : Calls Tryz.prog 296 #[.pointer (some ⟨a, 0, none⟩)] w (Ret w (fe p n 1)) := by
  have := one_any h
  unfold fe feC
  rw [Zm.val_one, Nat.one_mul]
  exact this

theorem all_range_eqN : ∀ (xs ys : List Nat), xs.length = ys.length → ((List.range xs.length).all fun i => xs.getD i 0 == ys.getD i 0) = (xs == ys)
  | [], [], _ => rfl
  | x :: xs, y :: ys, h => by
    have ih := all_range_eqN xs ys (by simpa using h)
    rw [List.length_cons, List.range_succ_eq_map, List.all_cons, List.all_map]
    simp only [List.getD_cons_zero, Function.comp_def, List.getD_cons_succ, ih]
    simp [List.cons_beq_cons]
  | [], _ :: _, h => by simp at h
  | _ :: _, [], h => by simp at h

theorem run_equalIn_ints {P : Program} (w : World) (k : IntKind) (d : Nat) (t e : TypeId) (n : Nat) (ht : P.underlying t = some (.array n e)) (he : P.underlying e = some (.int k)) (hsz : ∀ w, (sizeOf e).run P w = .ok 1 w)
    (xs ys : List Nat) (hx : xs.length = n) (hy : ys.length = n) :
    (Op.equalIn (d + 2) t (.agg (xs.map fun n : Nat => Value.int k (n : Int)).toArray) (.agg (ys.map fun n : Nat => Value.int k (n : Int)).toArray)).run P w = .ok (xs == ys) w := by
  rw [← all_range_eqN xs ys (hx.trans hy.symm), hx, List.range_eq_range', Op.equalIn]
  simp only [Sem.run_bind, run_underlying ht, Result.andThen_ok, hsz, Std.Legacy.Range.forIn_eq_forIn_range', Std.Legacy.Range.size, Nat.sub_zero, Nat.add_sub_cancel, Nat.div_one]
  have hl : ∀ i ∈ List.range' 0 n 1, i < n := fun i hi => by simpa using (List.mem_range'_1.1 hi).2
  generalize List.range' 0 n 1 = l at hl ⊢
  induction l with
  | nil => simp
  | cons i l ih =>
    have hi : i < n := hl i (by simp)
    have px : (part e (xs.map fun n : Nat => Value.int k (n : Int)).toArray (i * 1)).run P w = .ok (.int k ((xs.getD i 0 : Nat) : Int)) w := by
      simp [part, isAgg, run_underlying he, List.getD, List.getElem?_eq_getElem (show i < xs.length by omega)]
    have py : (part e (ys.map fun n : Nat => Value.int k (n : Int)).toArray (i * 1)).run P w = .ok (.int k ((ys.getD i 0 : Nat) : Int)) w := by
      simp [part, isAgg, run_underlying he, List.getD, List.getElem?_eq_getElem (show i < ys.length by omega)]
    have pe : (Op.equalIn (d + 1) e (.int k ((xs.getD i 0 : Nat) : Int)) (.int k ((ys.getD i 0 : Nat) : Int))).run P w = .ok (xs.getD i 0 == ys.getD i 0) w := by
      rw [run_equalIn_int w d e k k _ _ he]
      congr 1
      rw [Bool.eq_iff_iff]
      simp
      omega
    simp only [List.forIn_cons, Sem.run_bind, px, py, pe, Result.andThen_ok, List.all_cons]
    cases hb : (xs.getD i 0 == ys.getD i 0)
    · simp
    · simp only [Bool.not_true, Bool.false_eq_true, if_false, Sem.run_pure, Result.andThen_ok, Bool.true_and]
      exact ih fun j hj => hl j (by simp [hj])

/-- Two rows of six limbs are compared. -/
theorem run_eql166 (w : World) (xs ys : List Nat) (hx : xs.length = 6) (hy : ys.length = 6) :
    (binOp .eql 166 (.agg (xs.map fun n : Nat => Value.int .u64 (n : Int)).toArray) (.agg (ys.map fun n : Nat => Value.int .u64 (n : Int)).toArray)).run Tryz.prog w = .ok (.bool (xs == ys)) w := by
  have := run_equalIn_ints (P := Tryz.prog) w .u64 9998 166 22 6 Tryz.underlying166 Tryz.underlying22 Tryz.sizeOf22 xs ys hx hy
  rw [run_eql_struct, this]
  rfl

theorem eqE {ρ : Operand → Value} {o : Oper} {x' y' : Operand} {w : World} {a p n v : Nat} [Pr p] {x y : Zm p} (h : FldAt w a p n v) (ho : o.op = .binOp .eql 166 x' y' 166) (hx : ρ x' = fe p n x) (hy : ρ y' = fe p n y) :
    (execOp ρ o).run Tryz.prog w = .ok (.value (.bool (decide (x = y)))) w := by
  have hg : (eqGuard .eql 166 x' y' (fe p n x) (fe p n y)).run Tryz.prog w = .ok () w := run_eqGuard_agg w .eql 166 x' y' _ _ (by kernel_rfl)
  have hb := run_eql166 w (digs B64 6 (x.val * B64 ^ n % p)) (digs B64 6 (y.val * B64 ^ n % p)) (length_digs ..) (length_digs ..)
  have he : (digs B64 6 (x.val * B64 ^ n % p) == digs B64 6 (y.val * B64 ^ n % p)) = decide (x = y) := by
    rw [Bool.eq_iff_iff, beq_iff_eq, decide_eq_true_eq, ← fe_inj h]
    constructor
    · intro e; unfold fe feC; rw [e]
    · intro e
      unfold fe feC at e
      injection e with e
      have := List.toArray_inj e
      refine (List.map_inj_right ?_).1 this
      intro a b hab
      injection hab with _ hab
      exact Int.ofNat.inj hab
  rw [he] at hb
  unfold execOp
  simp only [ho, hx, hy, Sem.run_bind, hg, Result.andThen_ok]
  unfold fe feC
  rw [hb]
  rfl
theorem eqEt {ρ : Operand → Value} {o : Oper} {x' y' : Operand} {w : World} {a p n v : Nat} [Pr p] {x y : Zm p} (h : FldAt w a p n v) (e : x = y) (ho : o.op = .binOp .eql 166 x' y' 166) (hx : ρ x' = fe p n x) (hy : ρ y' = fe p n y) :
    (execOp ρ o).run Tryz.prog w = .ok (.value (.bool true)) w := by rw [eqE h ho hx hy, decide_eq_true e]
theorem eqEf {ρ : Operand → Value} {o : Oper} {x' y' : Operand} {w : World} {a p n v : Nat} [Pr p] {x y : Zm p} (h : FldAt w a p n v) (e : x ≠ y) (ho : o.op = .binOp .eql 166 x' y' 166) (hx : ρ x' = fe p n x) (hy : ρ y' = fe p n y) :
    (execOp ρ o).run Tryz.prog w = .ok (.value (.bool false)) w := by rw [eqE h ho hx hy, decide_eq_false e]
theorem eqZt {ρ : Operand → Value} {o : Oper} {x' y' : Operand} {w : World} {a p n v : Nat} [Pr p] {x : Zm p} (h : FldAt w a p n v) (e : x = 0) (ho : o.op = .binOp .eql 166 x' y' 166) (hx : ρ x' = fe p n x) (hy : ρ y' = .agg (List.replicate 6 (Value.int .u64 0)).toArray) :
    (execOp ρ o).run Tryz.prog w = .ok (.value (.bool true)) w := eqEt h e ho hx (by rw [hy, fe_zero])
theorem eqZf {ρ : Operand → Value} {o : Oper} {x' y' : Operand} {w : World} {a p n v : Nat} [Pr p] {x : Zm p} (h : FldAt w a p n v) (e : x ≠ 0) (ho : o.op = .binOp .eql 166 x' y' 166) (hx : ρ x' = fe p n x) (hy : ρ y' = .agg (List.replicate 6 (Value.int .u64 0)).toArray) :
    (execOp ρ o).run Tryz.prog w = .ok (.value (.bool false)) w := eqEf h e ho hx (by rw [hy, fe_zero])

/-- A point in Jacobi's coordinates, as a value; a point. -/
def fw (p n : Nat) (P : GW (Zm p)) : Value := .agg (feC p n P.x ++ (feC p n P.y ++ feC p n P.z)).toArray
def fp (p n : Nat) (P : GP (Zm p)) : Value := .agg (feC p n P.x ++ (feC p n P.y ++ [Value.bool P.inf])).toArray
theorem raw_right {q a p n v : Nat} [Pr p] {b : Zm p} {x : Zm p} {y1 : Zm p} (hy1 : y1 = x * x) {y2 : Zm p} (hy2 : y2 = x * y1) {y3 : Zm p} (hy3 : y3 = y2 + b) {w : World} (hG : GrAt w q a p n v b) : Calls Tryz.prog 138 #[.pointer (some ⟨q, 0, none⟩), fe p n x] w (Ret w (fe p n y3)) := by
  have hql := hG.lt
  refine calls_of_wp Tryz.func138 (by rfl : Tryz.f138.body = some _) ?_
  have hF : Fr [(0, pt q), (1, fe p n x)] 29 _ := Fr.start (args := #[pt q, fe p n x]) (m := 29) (by simp)
  have hI := Inv.start0 w
  refine wp_seq ?_
  refine sy [] #[.new [] (fun _ => (feC p n x).toArray) 166,
      .new [] (fun _ => (Z6).toArray) 166]
    (fun g1 => [(0, pt q), (3, pt (g1.γ 0)), (4, pt (g1.γ 1))]) (fun g1 => [((g1.γ 0), feC p n x, 166), ((g1.γ 1), Z6, 166)]) (fun _ => [])
    hF hI trivial (fun g => ⟨nw,
      nw, trivial⟩) ?_
  intro g1 a1 w1 hF hI
  refine wp_seq ?_
  refine sy [] #[va (pt q),
      va (pt q),
      va (pt q),
      va (.iface 288 (.pointer (some ⟨a, 0, none⟩))),
      va (.iface 288 (.pointer (some ⟨a, 0, none⟩)))]
    (fun g2 => [(0, pt q), (3, pt (g1.γ 0)), (4, pt (g1.γ 1)), (5, .iface 288 (.pointer (some ⟨a, 0, none⟩)))]) (fun _ => [((g1.γ 0), feC p n x, 166), ((g1.γ 1), Z6, 166)]) (fun _ => [])
    hF hI trivial (fun g => ⟨pv,
      pv,
      pv,
      lO1 q 0 hql hG.ring rfl,
      pv, trivial⟩) ?_
  intro g2 a2 w2 hF hI
  refine wp_seq ?_
  refine ss [166] #[va (.iface 288 (.pointer (some ⟨a, 0, none⟩))),
      va (.iface 288 (.pointer (some ⟨a, 0, none⟩))),
      va (fe p n x),
      va (.iface 288 (.pointer (some ⟨a, 0, none⟩))),
      va (fe p n x),
      va (fe p n x),
      va (fe p n y1),
      va (.func (.method "Mul") #[.iface 288 (.pointer (some ⟨a, 0, none⟩))] #[]),
      va (.func (.method "Mul") #[.iface 288 (.pointer (some ⟨a, 0, none⟩))] #[]),
      va (.iface 288 (.pointer (some ⟨a, 0, none⟩))),
      va (fe p n y2),
      va (pt q),
      va (pt q),
      va (.pointer (some ⟨q, 1, none⟩)),
      va (fe p n b),
      va (.func (.method "Add") #[.iface 288 (.pointer (some ⟨a, 0, none⟩))] #[]),
      va (.func (.method "Add") #[.iface 288 (.pointer (some ⟨a, 0, none⟩))] #[]),
      va (.iface 288 (.pointer (some ⟨a, 0, none⟩))),
      va (fe p n y3)]
    (fun g3 => [(4, pt (g1.γ 1))]) (fun _ => [((g1.γ 0), feC p n x, 166), ((g1.γ 1), feC p n y3, 166)]) (fun _ => []) 1 0
    hF hI trivial (fun g => ⟨pv,
      pv,
      lk 0 0 rfl rfl,
      pv,
      lk 0 0 rfl rfl,
      lk 0 0 rfl rfl,
      cv fun w hI hfa => fe_mul hy1 (hG.fld.below hI.below),
      pv,
      pv,
      pv,
      cv fun w hI hfa => fe_mul hy2 (hG.fld.below hI.below),
      pv,
      pv,
      pv,
      lO q 1 hql hG.b rfl,
      pv,
      pv,
      pv,
      cv fun w hI hfa => fe_add hy3 (hG.fld.below hI.below), trivial⟩) rfl rfl rfl ?_
  intro g3 a3 w3 hF hI
  refine wp_ret ?_
  show bodyPost Tryz.prog Tryz.f138 (Ret w (fe p n y3)) .ret _ _
  exact sym_ret rfl hF.df (rv_cell 1 hF rfl hI rfl Tryz.underlying166 rfl (by kernel_rfl)) ⟨rfl, hI.below⟩

theorem right_any {q a p n v : Nat} [Pr p] {b x z : Zm p} (hz : z = gright b x) {w : World} (hG : GrAt w q a p n v b) : Calls Tryz.prog 138 #[.pointer (some ⟨q, 0, none⟩), fe p n x] w (Ret w (fe p n z)) := by
  subst hz
  exact raw_right rfl rfl rfl hG

theorem raw_twice {q a p n v : Nat} [Pr p] {b : Zm p} {P : GW (Zm p)} {y1 : Zm p} (hy1 : y1 = P.x * P.x) {y2 : Zm p} (hy2 : y2 = P.y * P.y) {y3 : Zm p} (hy3 : y3 = y2 * y2) {y4 : Zm p} (hy4 : y4 = P.x + y2) {y5 : Zm p} (hy5 : y5 = y4 * y4) {y6 : Zm p} (hy6 : y6 = y5 - y1) {y7 : Zm p} (hy7 : y7 = y6 - y3) {y8 : Zm p} (hy8 : y8 = y7 + y7) {y9 : Zm p} (hy9 : y9 = y1 + y1) {y10 : Zm p} (hy10 : y10 = y1 + y9) {y11 : Zm p} (hy11 : y11 = y10 * y10) {y12 : Zm p} (hy12 : y12 = y8 + y8) {y13 : Zm p} (hy13 : y13 = y11 - y12) {y14 : Zm p} (hy14 : y14 = y3 + y3) {y15 : Zm p} (hy15 : y15 = y14 + y14) {y16 : Zm p} (hy16 : y16 = y8 - y13) {y17 : Zm p} (hy17 : y17 = y10 * y16) {y18 : Zm p} (hy18 : y18 = y15 + y15) {y19 : Zm p} (hy19 : y19 = y17 - y18) {y20 : Zm p} (hy20 : y20 = P.y * P.z) {y21 : Zm p} (hy21 : y21 = y20 + y20) {w : World} (hG : GrAt w q a p n v b) : Calls Tryz.prog 284 #[.pointer (some ⟨q, 0, none⟩), .agg ((feC p n P.x ++ (feC p n P.y ++ feC p n P.z))).toArray] w (Ret w (.agg ((feC p n y13 ++ (feC p n y19 ++ feC p n y21))).toArray)) := by
  have hql := hG.lt
  refine calls_of_wp Tryz.func284 (by rfl : Tryz.f284.body = some _) ?_
  have hF : Fr [(0, pt q), (1, .agg ((feC p n P.x ++ (feC p n P.y ++ feC p n P.z))).toArray)] 123 _ := Fr.start (args := #[pt q, .agg ((feC p n P.x ++ (feC p n P.y ++ feC p n P.z))).toArray]) (m := 123) (by simp)
  have hI := Inv.start0 w
  refine wp_seq ?_
  refine sy [] #[.new [] (fun _ => ((feC p n P.x ++ (feC p n P.y ++ feC p n P.z))).toArray) 264,
      .new [] (fun _ => ((Z6 ++ (Z6 ++ Z6))).toArray) 264]
    (fun g1 => [(0, pt q), (3, pt (g1.γ 0)), (4, pt (g1.γ 1))]) (fun g1 => [((g1.γ 0), (feC p n P.x ++ (feC p n P.y ++ feC p n P.z)), 264), ((g1.γ 1), (Z6 ++ (Z6 ++ Z6)), 264)]) (fun _ => [])
    hF hI trivial (fun g => ⟨nw,
      nw, trivial⟩) ?_
  intro g1 a1 w1 hF hI
  refine wp_seq ?_
  refine sy [] #[va (pt q),
      va (pt q),
      va (pt q),
      va (.iface 288 (.pointer (some ⟨a, 0, none⟩))),
      va (.iface 288 (.pointer (some ⟨a, 0, none⟩)))]
    (fun g2 => [(3, pt (g1.γ 0)), (4, pt (g1.γ 1)), (5, .iface 288 (.pointer (some ⟨a, 0, none⟩)))]) (fun _ => [((g1.γ 0), (feC p n P.x ++ (feC p n P.y ++ feC p n P.z)), 264), ((g1.γ 1), (Z6 ++ (Z6 ++ Z6)), 264)]) (fun _ => [])
    hF hI trivial (fun g => ⟨pv,
      pv,
      pv,
      lO1 q 0 hql hG.ring rfl,
      pv, trivial⟩) ?_
  intro g2 a2 w2 hF hI
  refine wp_seq ?_
  refine sy [166] #[va (.iface 288 (.pointer (some ⟨a, 0, none⟩))),
      va (pt (g1.γ 0)),
      va (fe p n P.x),
      va (pt (g1.γ 0)),
      va (fe p n P.x),
      va (fe p n y1),
      va (.iface 288 (.pointer (some ⟨a, 0, none⟩))),
      va (.pointer (some ⟨(g1.γ 0), 6, none⟩)),
      va (fe p n P.y),
      va (.pointer (some ⟨(g1.γ 0), 6, none⟩)),
      va (fe p n P.y),
      va (fe p n y2),
      .new [] (fun _ => (Z6).toArray) 166,
      .new [] (fun _ => (Z6).toArray) 166,
      .put 12 [] (fun _ => (feC p n y1).toArray),
      .put 13 [] (fun _ => (feC p n y2).toArray)]
    (fun g3 => [(3, pt (g1.γ 0)), (4, pt (g1.γ 1)), (5, .iface 288 (.pointer (some ⟨a, 0, none⟩))), (6, pt (g3.γ 12)), (7, pt (g3.γ 13))]) (fun g3 => [((g1.γ 0), (feC p n P.x ++ (feC p n P.y ++ feC p n P.z)), 264), ((g1.γ 1), (Z6 ++ (Z6 ++ Z6)), 264), ((g3.γ 12), feC p n y1, 166), ((g3.γ 13), feC p n y2, 166)]) (fun _ => [])
    hF hI trivial (fun g => ⟨pv,
      pv,
      lk 0 0 rfl rfl,
      pv,
      lk 0 0 rfl rfl,
      cv fun w hI hfa => fe_mul hy1 (hG.fld.below hI.below),
      pv,
      pv,
      lk 0 6 rfl rfl,
      pv,
      lk 0 6 rfl rfl,
      cv fun w hI hfa => fe_mul hy2 (hG.fld.below hI.below),
      nw,
      nw,
      po (fe p n y1) (Z6) rfl,
      po (fe p n y2) (Z6) rfl, trivial⟩) ?_
  intro g3 a3 w3 hF hI
  refine wp_seq ?_
  refine sy [166] #[va (.iface 288 (.pointer (some ⟨a, 0, none⟩))),
      va (fe p n y2),
      va (fe p n y2),
      va (fe p n y3),
      va (.iface 288 (.pointer (some ⟨a, 0, none⟩))),
      va (pt (g1.γ 0)),
      va (fe p n P.x),
      va (fe p n y2),
      va (fe p n y4),
      .new [] (fun _ => (Z6).toArray) 166,
      .new [] (fun _ => (Z6).toArray) 166,
      .put 9 [] (fun _ => (feC p n y3).toArray),
      .put 10 [] (fun _ => (feC p n y4).toArray)]
    (fun g4 => [(3, pt (g1.γ 0)), (4, pt (g1.γ 1)), (5, .iface 288 (.pointer (some ⟨a, 0, none⟩))), (6, pt (g3.γ 12)), (8, pt (g4.γ 9)), (9, pt (g4.γ 10))]) (fun g4 => [((g1.γ 0), (feC p n P.x ++ (feC p n P.y ++ feC p n P.z)), 264), ((g1.γ 1), (Z6 ++ (Z6 ++ Z6)), 264), ((g3.γ 12), feC p n y1, 166), ((g3.γ 13), feC p n y2, 166), ((g4.γ 9), feC p n y3, 166), ((g4.γ 10), feC p n y4, 166)]) (fun _ => [])
    hF hI trivial (fun g => ⟨pv,
      lk 3 0 rfl rfl,
      lk 3 0 rfl rfl,
      cv fun w hI hfa => fe_mul hy3 (hG.fld.below hI.below),
      pv,
      pv,
      lk 0 0 rfl rfl,
      lk 3 0 rfl rfl,
      cv fun w hI hfa => fe_add hy4 (hG.fld.below hI.below),
      nw,
      nw,
      po (fe p n y3) (Z6) rfl,
      po (fe p n y4) (Z6) rfl, trivial⟩) ?_
  intro g4 a4 w4 hF hI
  refine wp_seq ?_
  refine sy [166] #[va (.iface 288 (.pointer (some ⟨a, 0, none⟩))),
      va (.iface 288 (.pointer (some ⟨a, 0, none⟩))),
      va (.iface 288 (.pointer (some ⟨a, 0, none⟩))),
      va (fe p n y4),
      va (fe p n y4),
      va (fe p n y5),
      va (fe p n y1),
      va (.func (.method "Sub") #[.iface 288 (.pointer (some ⟨a, 0, none⟩))] #[]),
      va (.func (.method "Sub") #[.iface 288 (.pointer (some ⟨a, 0, none⟩))] #[]),
      va (.iface 288 (.pointer (some ⟨a, 0, none⟩))),
      va (fe p n y6),
      va (fe p n y3),
      va (.func (.method "Sub") #[.iface 288 (.pointer (some ⟨a, 0, none⟩))] #[]),
      va (.func (.method "Sub") #[.iface 288 (.pointer (some ⟨a, 0, none⟩))] #[]),
      va (.iface 288 (.pointer (some ⟨a, 0, none⟩))),
      va (fe p n y7),
      .new [] (fun _ => (Z6).toArray) 166,
      .put 16 [] (fun _ => (feC p n y7).toArray)]
    (fun g5 => [(3, pt (g1.γ 0)), (4, pt (g1.γ 1)), (5, .iface 288 (.pointer (some ⟨a, 0, none⟩))), (6, pt (g3.γ 12)), (8, pt (g4.γ 9)), (10, pt (g5.γ 16))]) (fun g5 => [((g1.γ 0), (feC p n P.x ++ (feC p n P.y ++ feC p n P.z)), 264), ((g1.γ 1), (Z6 ++ (Z6 ++ Z6)), 264), ((g3.γ 12), feC p n y1, 166), ((g3.γ 13), feC p n y2, 166), ((g4.γ 9), feC p n y3, 166), ((g4.γ 10), feC p n y4, 166), ((g5.γ 16), feC p n y7, 166)]) (fun _ => [])
    hF hI trivial (fun g => ⟨pv,
      pv,
      pv,
      lk 5 0 rfl rfl,
      lk 5 0 rfl rfl,
      cv fun w hI hfa => fe_mul hy5 (hG.fld.below hI.below),
      lk 2 0 rfl rfl,
      pv,
      pv,
      pv,
      cv fun w hI hfa => fe_sub hy6 (hG.fld.below hI.below),
      lk 4 0 rfl rfl,
      pv,
      pv,
      pv,
      cv fun w hI hfa => fe_sub hy7 (hG.fld.below hI.below),
      nw,
      po (fe p n y7) (Z6) rfl, trivial⟩) ?_
  intro g5 a5 w5 hF hI
  refine wp_seq ?_
  refine ss [166] #[va (.iface 288 (.pointer (some ⟨a, 0, none⟩))),
      va (fe p n y7),
      va (fe p n y7),
      va (fe p n y8)]
    (fun g6 => [(3, pt (g1.γ 0)), (4, pt (g1.γ 1)), (5, .iface 288 (.pointer (some ⟨a, 0, none⟩))), (6, pt (g3.γ 12)), (8, pt (g4.γ 9)), (10, pt (g5.γ 16))]) (fun _ => [((g1.γ 0), (feC p n P.x ++ (feC p n P.y ++ feC p n P.z)), 264), ((g1.γ 1), (Z6 ++ (Z6 ++ Z6)), 264), ((g3.γ 12), feC p n y1, 166), ((g3.γ 13), feC p n y2, 166), ((g4.γ 9), feC p n y3, 166), ((g4.γ 10), feC p n y4, 166), ((g5.γ 16), feC p n y8, 166)]) (fun _ => []) 6 0
    hF hI trivial (fun g => ⟨pv,
      lk 6 0 rfl rfl,
      lk 6 0 rfl rfl,
      cv fun w hI hfa => fe_add hy8 (hG.fld.below hI.below), trivial⟩) rfl rfl rfl ?_
  intro g6 a6 w6 hF hI
  refine wp_seq ?_
  refine sy [166] #[va (.iface 288 (.pointer (some ⟨a, 0, none⟩))),
      va (fe p n y1),
      va (.iface 288 (.pointer (some ⟨a, 0, none⟩))),
      va (fe p n y1),
      va (fe p n y1),
      va (fe p n y9),
      va (.func (.method "Add") #[.iface 288 (.pointer (some ⟨a, 0, none⟩))] #[]),
      va (.func (.method "Add") #[.iface 288 (.pointer (some ⟨a, 0, none⟩))] #[]),
      va (.iface 288 (.pointer (some ⟨a, 0, none⟩))),
      va (fe p n y10),
      .new [] (fun _ => (Z6).toArray) 166,
      .put 10 [] (fun _ => (feC p n y10).toArray)]
    (fun g7 => [(3, pt (g1.γ 0)), (4, pt (g1.γ 1)), (5, .iface 288 (.pointer (some ⟨a, 0, none⟩))), (8, pt (g4.γ 9)), (10, pt (g5.γ 16)), (11, pt (g7.γ 10))]) (fun g7 => [((g1.γ 0), (feC p n P.x ++ (feC p n P.y ++ feC p n P.z)), 264), ((g1.γ 1), (Z6 ++ (Z6 ++ Z6)), 264), ((g3.γ 12), feC p n y1, 166), ((g3.γ 13), feC p n y2, 166), ((g4.γ 9), feC p n y3, 166), ((g4.γ 10), feC p n y4, 166), ((g5.γ 16), feC p n y8, 166), ((g7.γ 10), feC p n y10, 166)]) (fun _ => [])
    hF hI trivial (fun g => ⟨pv,
      lk 2 0 rfl rfl,
      pv,
      lk 2 0 rfl rfl,
      lk 2 0 rfl rfl,
      cv fun w hI hfa => fe_add hy9 (hG.fld.below hI.below),
      pv,
      pv,
      pv,
      cv fun w hI hfa => fe_add hy10 (hG.fld.below hI.below),
      nw,
      po (fe p n y10) (Z6) rfl, trivial⟩) ?_
  intro g7 a7 w7 hF hI
  refine wp_seq ?_
  refine sy [166] #[va (.iface 288 (.pointer (some ⟨a, 0, none⟩))),
      va (.iface 288 (.pointer (some ⟨a, 0, none⟩))),
      va (fe p n y10),
      va (fe p n y10),
      va (fe p n y11),
      va (.iface 288 (.pointer (some ⟨a, 0, none⟩))),
      va (fe p n y8),
      va (fe p n y8),
      va (fe p n y12),
      va (.func (.method "Sub") #[.iface 288 (.pointer (some ⟨a, 0, none⟩))] #[]),
      va (.func (.method "Sub") #[.iface 288 (.pointer (some ⟨a, 0, none⟩))] #[]),
      va (.iface 288 (.pointer (some ⟨a, 0, none⟩))),
      va (fe p n y13),
      .new [] (fun _ => (Z6).toArray) 166,
      .put 13 [] (fun _ => (feC p n y13).toArray)]
    (fun g8 => [(3, pt (g1.γ 0)), (4, pt (g1.γ 1)), (5, .iface 288 (.pointer (some ⟨a, 0, none⟩))), (8, pt (g4.γ 9)), (10, pt (g5.γ 16)), (11, pt (g7.γ 10)), (12, pt (g8.γ 13))]) (fun g8 => [((g1.γ 0), (feC p n P.x ++ (feC p n P.y ++ feC p n P.z)), 264), ((g1.γ 1), (Z6 ++ (Z6 ++ Z6)), 264), ((g3.γ 12), feC p n y1, 166), ((g3.γ 13), feC p n y2, 166), ((g4.γ 9), feC p n y3, 166), ((g4.γ 10), feC p n y4, 166), ((g5.γ 16), feC p n y8, 166), ((g7.γ 10), feC p n y10, 166), ((g8.γ 13), feC p n y13, 166)]) (fun _ => [])
    hF hI trivial (fun g => ⟨pv,
      pv,
      lk 7 0 rfl rfl,
      lk 7 0 rfl rfl,
      cv fun w hI hfa => fe_mul hy11 (hG.fld.below hI.below),
      pv,
      lk 6 0 rfl rfl,
      lk 6 0 rfl rfl,
      cv fun w hI hfa => fe_add hy12 (hG.fld.below hI.below),
      pv,
      pv,
      pv,
      cv fun w hI hfa => fe_sub hy13 (hG.fld.below hI.below),
      nw,
      po (fe p n y13) (Z6) rfl, trivial⟩) ?_
  intro g8 a8 w8 hF hI
  refine wp_seq ?_
  refine ss [166] #[va (.iface 288 (.pointer (some ⟨a, 0, none⟩))),
      va (fe p n y3),
      va (fe p n y3),
      va (fe p n y14)]
    (fun g9 => [(3, pt (g1.γ 0)), (4, pt (g1.γ 1)), (5, .iface 288 (.pointer (some ⟨a, 0, none⟩))), (8, pt (g4.γ 9)), (10, pt (g5.γ 16)), (11, pt (g7.γ 10)), (12, pt (g8.γ 13))]) (fun _ => [((g1.γ 0), (feC p n P.x ++ (feC p n P.y ++ feC p n P.z)), 264), ((g1.γ 1), (Z6 ++ (Z6 ++ Z6)), 264), ((g3.γ 12), feC p n y1, 166), ((g3.γ 13), feC p n y2, 166), ((g4.γ 9), feC p n y14, 166), ((g4.γ 10), feC p n y4, 166), ((g5.γ 16), feC p n y8, 166), ((g7.γ 10), feC p n y10, 166), ((g8.γ 13), feC p n y13, 166)]) (fun _ => []) 4 0
    hF hI trivial (fun g => ⟨pv,
      lk 4 0 rfl rfl,
      lk 4 0 rfl rfl,
      cv fun w hI hfa => fe_add hy14 (hG.fld.below hI.below), trivial⟩) rfl rfl rfl ?_
  intro g9 a9 w9 hF hI
  refine wp_seq ?_
  refine ss [166] #[va (.iface 288 (.pointer (some ⟨a, 0, none⟩))),
      va (fe p n y14),
      va (fe p n y14),
      va (fe p n y15)]
    (fun g10 => [(3, pt (g1.γ 0)), (4, pt (g1.γ 1)), (5, .iface 288 (.pointer (some ⟨a, 0, none⟩))), (8, pt (g4.γ 9)), (10, pt (g5.γ 16)), (11, pt (g7.γ 10)), (12, pt (g8.γ 13))]) (fun _ => [((g1.γ 0), (feC p n P.x ++ (feC p n P.y ++ feC p n P.z)), 264), ((g1.γ 1), (Z6 ++ (Z6 ++ Z6)), 264), ((g3.γ 12), feC p n y1, 166), ((g3.γ 13), feC p n y2, 166), ((g4.γ 9), feC p n y15, 166), ((g4.γ 10), feC p n y4, 166), ((g5.γ 16), feC p n y8, 166), ((g7.γ 10), feC p n y10, 166), ((g8.γ 13), feC p n y13, 166)]) (fun _ => []) 4 0
    hF hI trivial (fun g => ⟨pv,
      lk 4 0 rfl rfl,
      lk 4 0 rfl rfl,
      cv fun w hI hfa => fe_add hy15 (hG.fld.below hI.below), trivial⟩) rfl rfl rfl ?_
  intro g10 a10 w10 hF hI
  refine wp_seq ?_
  refine sy [166] #[va (.iface 288 (.pointer (some ⟨a, 0, none⟩))),
      va (.iface 288 (.pointer (some ⟨a, 0, none⟩))),
      va (fe p n y10),
      va (.iface 288 (.pointer (some ⟨a, 0, none⟩))),
      va (fe p n y8),
      va (fe p n y13),
      va (fe p n y16),
      va (.func (.method "Mul") #[.iface 288 (.pointer (some ⟨a, 0, none⟩))] #[]),
      va (.func (.method "Mul") #[.iface 288 (.pointer (some ⟨a, 0, none⟩))] #[]),
      va (.iface 288 (.pointer (some ⟨a, 0, none⟩))),
      va (fe p n y17),
      va (.iface 288 (.pointer (some ⟨a, 0, none⟩))),
      va (fe p n y15),
      va (fe p n y15),
      va (fe p n y18),
      va (.func (.method "Sub") #[.iface 288 (.pointer (some ⟨a, 0, none⟩))] #[]),
      va (.func (.method "Sub") #[.iface 288 (.pointer (some ⟨a, 0, none⟩))] #[]),
      va (.iface 288 (.pointer (some ⟨a, 0, none⟩))),
      va (fe p n y19),
      .new [] (fun _ => (Z6).toArray) 166,
      .put 19 [] (fun _ => (feC p n y19).toArray)]
    (fun g11 => [(3, pt (g1.γ 0)), (4, pt (g1.γ 1)), (5, .iface 288 (.pointer (some ⟨a, 0, none⟩))), (12, pt (g8.γ 13)), (13, pt (g11.γ 19))]) (fun g11 => [((g1.γ 0), (feC p n P.x ++ (feC p n P.y ++ feC p n P.z)), 264), ((g1.γ 1), (Z6 ++ (Z6 ++ Z6)), 264), ((g3.γ 12), feC p n y1, 166), ((g3.γ 13), feC p n y2, 166), ((g4.γ 9), feC p n y15, 166), ((g4.γ 10), feC p n y4, 166), ((g5.γ 16), feC p n y8, 166), ((g7.γ 10), feC p n y10, 166), ((g8.γ 13), feC p n y13, 166), ((g11.γ 19), feC p n y19, 166)]) (fun _ => [])
    hF hI trivial (fun g => ⟨pv,
      pv,
      lk 7 0 rfl rfl,
      pv,
      lk 6 0 rfl rfl,
      lk 8 0 rfl rfl,
      cv fun w hI hfa => fe_sub hy16 (hG.fld.below hI.below),
      pv,
      pv,
      pv,
      cv fun w hI hfa => fe_mul hy17 (hG.fld.below hI.below),
      pv,
      lk 4 0 rfl rfl,
      lk 4 0 rfl rfl,
      cv fun w hI hfa => fe_add hy18 (hG.fld.below hI.below),
      pv,
      pv,
      pv,
      cv fun w hI hfa => fe_sub hy19 (hG.fld.below hI.below),
      nw,
      po (fe p n y19) (Z6) rfl, trivial⟩) ?_
  intro g11 a11 w11 hF hI
  refine wp_seq ?_
  refine sy [166] #[va (.iface 288 (.pointer (some ⟨a, 0, none⟩))),
      va (.pointer (some ⟨(g1.γ 0), 6, none⟩)),
      va (fe p n P.y),
      va (.pointer (some ⟨(g1.γ 0), 12, none⟩)),
      va (fe p n P.z),
      va (fe p n y20),
      .new [] (fun _ => (Z6).toArray) 166,
      .put 6 [] (fun _ => (feC p n y20).toArray)]
    (fun g12 => [(4, pt (g1.γ 1)), (5, .iface 288 (.pointer (some ⟨a, 0, none⟩))), (12, pt (g8.γ 13)), (13, pt (g11.γ 19)), (14, pt (g12.γ 6))]) (fun g12 => [((g1.γ 0), (feC p n P.x ++ (feC p n P.y ++ feC p n P.z)), 264), ((g1.γ 1), (Z6 ++ (Z6 ++ Z6)), 264), ((g3.γ 12), feC p n y1, 166), ((g3.γ 13), feC p n y2, 166), ((g4.γ 9), feC p n y15, 166), ((g4.γ 10), feC p n y4, 166), ((g5.γ 16), feC p n y8, 166), ((g7.γ 10), feC p n y10, 166), ((g8.γ 13), feC p n y13, 166), ((g11.γ 19), feC p n y19, 166), ((g12.γ 6), feC p n y20, 166)]) (fun _ => [])
    hF hI trivial (fun g => ⟨pv,
      pv,
      lk 0 6 rfl rfl,
      pv,
      lk 0 12 rfl rfl,
      cv fun w hI hfa => fe_mul hy20 (hG.fld.below hI.below),
      nw,
      po (fe p n y20) (Z6) rfl, trivial⟩) ?_
  intro g12 a12 w12 hF hI
  refine wp_seq ?_
  refine ss [264] #[va (fe p n y13),
      va (fe p n y19),
      va (.iface 288 (.pointer (some ⟨a, 0, none⟩))),
      va (fe p n y20),
      va (fe p n y20),
      va (fe p n y21),
      va (.agg ((feC p n y13 ++ (feC p n y19 ++ feC p n y21))).toArray)]
    (fun g13 => [(4, pt (g1.γ 1))]) (fun _ => [((g1.γ 0), (feC p n P.x ++ (feC p n P.y ++ feC p n P.z)), 264), ((g1.γ 1), (feC p n y13 ++ (feC p n y19 ++ feC p n y21)), 264), ((g3.γ 12), feC p n y1, 166), ((g3.γ 13), feC p n y2, 166), ((g4.γ 9), feC p n y15, 166), ((g4.γ 10), feC p n y4, 166), ((g5.γ 16), feC p n y8, 166), ((g7.γ 10), feC p n y10, 166), ((g8.γ 13), feC p n y13, 166), ((g11.γ 19), feC p n y19, 166), ((g12.γ 6), feC p n y20, 166)]) (fun _ => []) 1 0
    hF hI trivial (fun g => ⟨lk 8 0 rfl rfl,
      lk 9 0 rfl rfl,
      pv,
      lk 10 0 rfl rfl,
      lk 10 0 rfl rfl,
      cv fun w hI hfa => fe_add hy21 (hG.fld.below hI.below),
      pv, trivial⟩) rfl rfl rfl ?_
  intro g13 a13 w13 hF hI
  refine wp_ret ?_
  show bodyPost Tryz.prog Tryz.f284 (Ret w (.agg ((feC p n y13 ++ (feC p n y19 ++ feC p n y21))).toArray)) .ret _ _
  exact sym_ret rfl hF.df (rv_cell 1 hF rfl hI rfl Tryz.underlying264 rfl (by kernel_rfl)) ⟨rfl, hI.below⟩

theorem twice_any {q a p n v : Nat} [Pr p] {b : Zm p} {P z : GW (Zm p)} (hz : z = gtwice P) {w : World} (hG : GrAt w q a p n v b) : Calls Tryz.prog 284 #[.pointer (some ⟨q, 0, none⟩), fw p n P] w (Ret w (fw p n z)) := by
  subst hz
  exact raw_twice rfl rfl rfl rfl rfl rfl rfl rfl rfl rfl rfl rfl rfl rfl rfl rfl rfl rfl rfl rfl rfl hG

theorem raw_sum1 {q a p n v : Nat} [Pr p] {b : Zm p} {P Q : GW (Zm p)} (e1 : P.z = 0) {w : World} (hG : GrAt w q a p n v b) : Calls Tryz.prog 199 #[.pointer (some ⟨q, 0, none⟩), .agg ((feC p n P.x ++ (feC p n P.y ++ feC p n P.z))).toArray, .agg ((feC p n Q.x ++ (feC p n Q.y ++ feC p n Q.z))).toArray] w (Ret w (.agg ((feC p n Q.x ++ (feC p n Q.y ++ feC p n Q.z))).toArray)) := by
  have hql := hG.lt
  refine calls_of_wp Tryz.func199 (by rfl : Tryz.f199.body = some _) ?_
  have hF : Fr [(0, pt q), (1, .agg ((feC p n P.x ++ (feC p n P.y ++ feC p n P.z))).toArray), (2, .agg ((feC p n Q.x ++ (feC p n Q.y ++ feC p n Q.z))).toArray)] 169 _ := Fr.start (args := #[pt q, .agg ((feC p n P.x ++ (feC p n P.y ++ feC p n P.z))).toArray, .agg ((feC p n Q.x ++ (feC p n Q.y ++ feC p n Q.z))).toArray]) (m := 169) (by simp)
  have hI := Inv.start0 w
  refine wp_seq ?_
  refine sy [] #[.new [] (fun _ => ((feC p n P.x ++ (feC p n P.y ++ feC p n P.z))).toArray) 264,
      .new [] (fun _ => ((feC p n Q.x ++ (feC p n Q.y ++ feC p n Q.z))).toArray) 264,
      .new [] (fun _ => ((Z6 ++ (Z6 ++ Z6))).toArray) 264]
    (fun g1 => [(0, pt q), (4, pt (g1.γ 0)), (5, pt (g1.γ 1)), (6, pt (g1.γ 2))]) (fun g1 => [((g1.γ 0), (feC p n P.x ++ (feC p n P.y ++ feC p n P.z)), 264), ((g1.γ 1), (feC p n Q.x ++ (feC p n Q.y ++ feC p n Q.z)), 264), ((g1.γ 2), (Z6 ++ (Z6 ++ Z6)), 264)]) (fun _ => [])
    hF hI trivial (fun g => ⟨nw,
      nw,
      nw, trivial⟩) ?_
  intro g1 a1 w1 hF hI
  refine wp_seq ?_
  refine sy [] #[.new [] (fun _ => (Z6).toArray) 166]
    (fun g2 => [(0, pt q), (4, pt (g1.γ 0)), (5, pt (g1.γ 1)), (6, pt (g1.γ 2)), (7, pt (g2.γ 0))]) (fun g2 => [((g1.γ 0), (feC p n P.x ++ (feC p n P.y ++ feC p n P.z)), 264), ((g1.γ 1), (feC p n Q.x ++ (feC p n Q.y ++ feC p n Q.z)), 264), ((g1.γ 2), (Z6 ++ (Z6 ++ Z6)), 264), ((g2.γ 0), Z6, 166)]) (fun _ => [])
    hF hI trivial (fun g => ⟨nw, trivial⟩) ?_
  intro g2 a2 w2 hF hI
  refine wp_seq ?_
  refine wp_block ?_
  refine wp_seq ?_
  refine sy [] #[va (.pointer (some ⟨(g1.γ 0), 12, none⟩)),
      va (fe p n P.z),
      va (.agg Z6.toArray),
      va (.bool true),
      va (.bool true)]
    (fun g3 => [(0, pt q), (4, pt (g1.γ 0)), (5, pt (g1.γ 1)), (6, pt (g1.γ 2)), (7, pt (g2.γ 0)), (20, .bool true)]) (fun _ => [((g1.γ 0), (feC p n P.x ++ (feC p n P.y ++ feC p n P.z)), 264), ((g1.γ 1), (feC p n Q.x ++ (feC p n Q.y ++ feC p n Q.z)), 264), ((g1.γ 2), (Z6 ++ (Z6 ++ Z6)), 264), ((g2.γ 0), Z6, 166)]) (fun _ => [])
    hF hI trivial (fun g => ⟨pv,
      lk 0 12 rfl rfl,
      lk 3 0 rfl rfl,
      ov fun w hI hfa => pureU (eqZt (hG.fld.below hI.below) e1 rfl (by kernel_rfl) (by kernel_rfl)),
      pv, trivial⟩) ?_
  intro g3 a3 w3 hF hI
  refine wp_cond_true (hF.eval rfl) ?_
  refine wp_seq ?_
  refine ss [264] #[va (.agg ((feC p n Q.x ++ (feC p n Q.y ++ feC p n Q.z))).toArray)]
    (fun g4 => [(0, pt q), (4, pt (g1.γ 0)), (5, pt (g1.γ 1)), (6, pt (g1.γ 2)), (7, pt (g2.γ 0))]) (fun _ => [((g1.γ 0), (feC p n P.x ++ (feC p n P.y ++ feC p n P.z)), 264), ((g1.γ 1), (feC p n Q.x ++ (feC p n Q.y ++ feC p n Q.z)), 264), ((g1.γ 2), (feC p n Q.x ++ (feC p n Q.y ++ feC p n Q.z)), 264), ((g2.γ 0), Z6, 166)]) (fun _ => []) 2 0
    hF hI trivial (fun g => ⟨lk 1 0 rfl rfl, trivial⟩) rfl rfl rfl ?_
  intro g4 a4 w4 hF hI
  refine wp_ret ?_
  show bodyPost Tryz.prog Tryz.f199 (Ret w (.agg ((feC p n Q.x ++ (feC p n Q.y ++ feC p n Q.z))).toArray)) .ret _ _
  exact sym_ret rfl hF.df (rv_cell 2 hF rfl hI rfl Tryz.underlying264 rfl (by kernel_rfl)) ⟨rfl, hI.below⟩

theorem raw_sum2 {q a p n v : Nat} [Pr p] {b : Zm p} {P Q : GW (Zm p)} (e1 : P.z ≠ 0) (e2 : Q.z = 0) {w : World} (hG : GrAt w q a p n v b) : Calls Tryz.prog 199 #[.pointer (some ⟨q, 0, none⟩), .agg ((feC p n P.x ++ (feC p n P.y ++ feC p n P.z))).toArray, .agg ((feC p n Q.x ++ (feC p n Q.y ++ feC p n Q.z))).toArray] w (Ret w (.agg ((feC p n P.x ++ (feC p n P.y ++ feC p n P.z))).toArray)) := by
  have hql := hG.lt
  refine calls_of_wp Tryz.func199 (by rfl : Tryz.f199.body = some _) ?_
  have hF : Fr [(0, pt q), (1, .agg ((feC p n P.x ++ (feC p n P.y ++ feC p n P.z))).toArray), (2, .agg ((feC p n Q.x ++ (feC p n Q.y ++ feC p n Q.z))).toArray)] 169 _ := Fr.start (args := #[pt q, .agg ((feC p n P.x ++ (feC p n P.y ++ feC p n P.z))).toArray, .agg ((feC p n Q.x ++ (feC p n Q.y ++ feC p n Q.z))).toArray]) (m := 169) (by simp)
  have hI := Inv.start0 w
  refine wp_seq ?_
  refine sy [] #[.new [] (fun _ => ((feC p n P.x ++ (feC p n P.y ++ feC p n P.z))).toArray) 264,
      .new [] (fun _ => ((feC p n Q.x ++ (feC p n Q.y ++ feC p n Q.z))).toArray) 264,
      .new [] (fun _ => ((Z6 ++ (Z6 ++ Z6))).toArray) 264]
    (fun g1 => [(0, pt q), (4, pt (g1.γ 0)), (5, pt (g1.γ 1)), (6, pt (g1.γ 2))]) (fun g1 => [((g1.γ 0), (feC p n P.x ++ (feC p n P.y ++ feC p n P.z)), 264), ((g1.γ 1), (feC p n Q.x ++ (feC p n Q.y ++ feC p n Q.z)), 264), ((g1.γ 2), (Z6 ++ (Z6 ++ Z6)), 264)]) (fun _ => [])
    hF hI trivial (fun g => ⟨nw,
      nw,
      nw, trivial⟩) ?_
  intro g1 a1 w1 hF hI
  refine wp_seq ?_
  refine sy [] #[.new [] (fun _ => (Z6).toArray) 166]
    (fun g2 => [(0, pt q), (4, pt (g1.γ 0)), (5, pt (g1.γ 1)), (6, pt (g1.γ 2)), (7, pt (g2.γ 0))]) (fun g2 => [((g1.γ 0), (feC p n P.x ++ (feC p n P.y ++ feC p n P.z)), 264), ((g1.γ 1), (feC p n Q.x ++ (feC p n Q.y ++ feC p n Q.z)), 264), ((g1.γ 2), (Z6 ++ (Z6 ++ Z6)), 264), ((g2.γ 0), Z6, 166)]) (fun _ => [])
    hF hI trivial (fun g => ⟨nw, trivial⟩) ?_
  intro g2 a2 w2 hF hI
  refine wp_seq ?_
  refine wp_block ?_
  refine wp_seq ?_
  refine sy [] #[va (.pointer (some ⟨(g1.γ 0), 12, none⟩)),
      va (fe p n P.z),
      va (.agg Z6.toArray),
      va (.bool false),
      va (.bool false)]
    (fun g3 => [(0, pt q), (4, pt (g1.γ 0)), (5, pt (g1.γ 1)), (6, pt (g1.γ 2)), (7, pt (g2.γ 0)), (20, .bool false)]) (fun _ => [((g1.γ 0), (feC p n P.x ++ (feC p n P.y ++ feC p n P.z)), 264), ((g1.γ 1), (feC p n Q.x ++ (feC p n Q.y ++ feC p n Q.z)), 264), ((g1.γ 2), (Z6 ++ (Z6 ++ Z6)), 264), ((g2.γ 0), Z6, 166)]) (fun _ => [])
    hF hI trivial (fun g => ⟨pv,
      lk 0 12 rfl rfl,
      lk 3 0 rfl rfl,
      ov fun w hI hfa => pureU (eqZf (hG.fld.below hI.below) e1 rfl (by kernel_rfl) (by kernel_rfl)),
      pv, trivial⟩) ?_
  intro g3 a3 w3 hF hI
  refine wp_cond_false (hF.eval rfl) ?_
  refine wp_seq ?_
  refine sy [] #[va (.pointer (some ⟨(g1.γ 1), 12, none⟩)),
      va (fe p n Q.z),
      va (.agg Z6.toArray),
      va (.bool true),
      va (.bool true)]
    (fun g4 => [(0, pt q), (4, pt (g1.γ 0)), (5, pt (g1.γ 1)), (6, pt (g1.γ 2)), (7, pt (g2.γ 0)), (26, .bool true)]) (fun _ => [((g1.γ 0), (feC p n P.x ++ (feC p n P.y ++ feC p n P.z)), 264), ((g1.γ 1), (feC p n Q.x ++ (feC p n Q.y ++ feC p n Q.z)), 264), ((g1.γ 2), (Z6 ++ (Z6 ++ Z6)), 264), ((g2.γ 0), Z6, 166)]) (fun _ => [])
    hF hI trivial (fun g => ⟨pv,
      lk 1 12 rfl rfl,
      lk 3 0 rfl rfl,
      ov fun w hI hfa => pureU (eqZt (hG.fld.below hI.below) e2 rfl (by kernel_rfl) (by kernel_rfl)),
      pv, trivial⟩) ?_
  intro g4 a4 w4 hF hI
  refine wp_cond_true (hF.eval rfl) ?_
  refine wp_seq ?_
  refine ss [264] #[va (.agg ((feC p n P.x ++ (feC p n P.y ++ feC p n P.z))).toArray)]
    (fun g5 => [(0, pt q), (4, pt (g1.γ 0)), (5, pt (g1.γ 1)), (6, pt (g1.γ 2)), (7, pt (g2.γ 0))]) (fun _ => [((g1.γ 0), (feC p n P.x ++ (feC p n P.y ++ feC p n P.z)), 264), ((g1.γ 1), (feC p n Q.x ++ (feC p n Q.y ++ feC p n Q.z)), 264), ((g1.γ 2), (feC p n P.x ++ (feC p n P.y ++ feC p n P.z)), 264), ((g2.γ 0), Z6, 166)]) (fun _ => []) 2 0
    hF hI trivial (fun g => ⟨lk 0 0 rfl rfl, trivial⟩) rfl rfl rfl ?_
  intro g5 a5 w5 hF hI
  refine wp_ret ?_
  show bodyPost Tryz.prog Tryz.f199 (Ret w (.agg ((feC p n P.x ++ (feC p n P.y ++ feC p n P.z))).toArray)) .ret _ _
  exact sym_ret rfl hF.df (rv_cell 2 hF rfl hI rfl Tryz.underlying264 rfl (by kernel_rfl)) ⟨rfl, hI.below⟩

theorem raw_sum3 {q a p n v : Nat} [Pr p] {b : Zm p} {P Q : GW (Zm p)} {y1 : Zm p} (hy1 : y1 = P.z * P.z) {y2 : Zm p} (hy2 : y2 = Q.z * Q.z) {y3 : Zm p} (hy3 : y3 = P.x * y2) {y4 : Zm p} (hy4 : y4 = Q.z * y2) {y5 : Zm p} (hy5 : y5 = P.y * y4) {y6 : Zm p} (hy6 : y6 = Q.x * y1) {y7 : Zm p} (hy7 : y7 = y6 - y3) {y8 : Zm p} (hy8 : y8 = P.z * y1) {y9 : Zm p} (hy9 : y9 = Q.y * y8) {y10 : Zm p} (hy10 : y10 = y9 - y5) {y11 : GW (Zm p)} (hy11 : y11 = gtwice P) (e1 : P.z ≠ 0) (e2 : Q.z ≠ 0) (e3 : y7 = 0) (e4 : y10 = 0) {w : World} (hG : GrAt w q a p n v b) : Calls Tryz.prog 199 #[.pointer (some ⟨q, 0, none⟩), .agg ((feC p n P.x ++ (feC p n P.y ++ feC p n P.z))).toArray, .agg ((feC p n Q.x ++ (feC p n Q.y ++ feC p n Q.z))).toArray] w (Ret w (.agg ((feC p n y11.x ++ (feC p n y11.y ++ feC p n y11.z))).toArray)) := by
  have hql := hG.lt
  refine calls_of_wp Tryz.func199 (by rfl : Tryz.f199.body = some _) ?_
  have hF : Fr [(0, pt q), (1, .agg ((feC p n P.x ++ (feC p n P.y ++ feC p n P.z))).toArray), (2, .agg ((feC p n Q.x ++ (feC p n Q.y ++ feC p n Q.z))).toArray)] 169 _ := Fr.start (args := #[pt q, .agg ((feC p n P.x ++ (feC p n P.y ++ feC p n P.z))).toArray, .agg ((feC p n Q.x ++ (feC p n Q.y ++ feC p n Q.z))).toArray]) (m := 169) (by simp)
  have hI := Inv.start0 w
  refine wp_seq ?_
  refine sy [] #[.new [] (fun _ => ((feC p n P.x ++ (feC p n P.y ++ feC p n P.z))).toArray) 264,
      .new [] (fun _ => ((feC p n Q.x ++ (feC p n Q.y ++ feC p n Q.z))).toArray) 264,
      .new [] (fun _ => ((Z6 ++ (Z6 ++ Z6))).toArray) 264]
    (fun g1 => [(0, pt q), (4, pt (g1.γ 0)), (5, pt (g1.γ 1)), (6, pt (g1.γ 2))]) (fun g1 => [((g1.γ 0), (feC p n P.x ++ (feC p n P.y ++ feC p n P.z)), 264), ((g1.γ 1), (feC p n Q.x ++ (feC p n Q.y ++ feC p n Q.z)), 264), ((g1.γ 2), (Z6 ++ (Z6 ++ Z6)), 264)]) (fun _ => [])
    hF hI trivial (fun g => ⟨nw,
      nw,
      nw, trivial⟩) ?_
  intro g1 a1 w1 hF hI
  refine wp_seq ?_
  refine sy [] #[.new [] (fun _ => (Z6).toArray) 166]
    (fun g2 => [(0, pt q), (4, pt (g1.γ 0)), (5, pt (g1.γ 1)), (6, pt (g1.γ 2)), (7, pt (g2.γ 0))]) (fun g2 => [((g1.γ 0), (feC p n P.x ++ (feC p n P.y ++ feC p n P.z)), 264), ((g1.γ 1), (feC p n Q.x ++ (feC p n Q.y ++ feC p n Q.z)), 264), ((g1.γ 2), (Z6 ++ (Z6 ++ Z6)), 264), ((g2.γ 0), Z6, 166)]) (fun _ => [])
    hF hI trivial (fun g => ⟨nw, trivial⟩) ?_
  intro g2 a2 w2 hF hI
  refine wp_seq ?_
  refine wp_block ?_
  refine wp_seq ?_
  refine sy [] #[va (.pointer (some ⟨(g1.γ 0), 12, none⟩)),
      va (fe p n P.z),
      va (.agg Z6.toArray),
      va (.bool false),
      va (.bool false)]
    (fun g3 => [(0, pt q), (4, pt (g1.γ 0)), (5, pt (g1.γ 1)), (6, pt (g1.γ 2)), (7, pt (g2.γ 0)), (20, .bool false)]) (fun _ => [((g1.γ 0), (feC p n P.x ++ (feC p n P.y ++ feC p n P.z)), 264), ((g1.γ 1), (feC p n Q.x ++ (feC p n Q.y ++ feC p n Q.z)), 264), ((g1.γ 2), (Z6 ++ (Z6 ++ Z6)), 264), ((g2.γ 0), Z6, 166)]) (fun _ => [])
    hF hI trivial (fun g => ⟨pv,
      lk 0 12 rfl rfl,
      lk 3 0 rfl rfl,
      ov fun w hI hfa => pureU (eqZf (hG.fld.below hI.below) e1 rfl (by kernel_rfl) (by kernel_rfl)),
      pv, trivial⟩) ?_
  intro g3 a3 w3 hF hI
  refine wp_cond_false (hF.eval rfl) ?_
  refine wp_seq ?_
  refine sy [] #[va (.pointer (some ⟨(g1.γ 1), 12, none⟩)),
      va (fe p n Q.z),
      va (.agg Z6.toArray),
      va (.bool false),
      va (.bool false)]
    (fun g4 => [(0, pt q), (4, pt (g1.γ 0)), (5, pt (g1.γ 1)), (6, pt (g1.γ 2)), (7, pt (g2.γ 0)), (26, .bool false)]) (fun _ => [((g1.γ 0), (feC p n P.x ++ (feC p n P.y ++ feC p n P.z)), 264), ((g1.γ 1), (feC p n Q.x ++ (feC p n Q.y ++ feC p n Q.z)), 264), ((g1.γ 2), (Z6 ++ (Z6 ++ Z6)), 264), ((g2.γ 0), Z6, 166)]) (fun _ => [])
    hF hI trivial (fun g => ⟨pv,
      lk 1 12 rfl rfl,
      lk 3 0 rfl rfl,
      ov fun w hI hfa => pureU (eqZf (hG.fld.below hI.below) e2 rfl (by kernel_rfl) (by kernel_rfl)),
      pv, trivial⟩) ?_
  intro g4 a4 w4 hF hI
  refine wp_cond_false (hF.eval rfl) ?_
  refine wp_skip ?_
  refine wp_seq ?_
  refine sy [] #[va (pt q),
      va (pt q),
      va (pt q),
      va (.iface 288 (.pointer (some ⟨a, 0, none⟩))),
      va (.iface 288 (.pointer (some ⟨a, 0, none⟩)))]
    (fun g5 => [(0, pt q), (4, pt (g1.γ 0)), (5, pt (g1.γ 1)), (6, pt (g1.γ 2)), (7, pt (g2.γ 0)), (8, .iface 288 (.pointer (some ⟨a, 0, none⟩)))]) (fun _ => [((g1.γ 0), (feC p n P.x ++ (feC p n P.y ++ feC p n P.z)), 264), ((g1.γ 1), (feC p n Q.x ++ (feC p n Q.y ++ feC p n Q.z)), 264), ((g1.γ 2), (Z6 ++ (Z6 ++ Z6)), 264), ((g2.γ 0), Z6, 166)]) (fun _ => [])
    hF hI trivial (fun g => ⟨pv,
      pv,
      pv,
      lO1 q 0 hql hG.ring rfl,
      pv, trivial⟩) ?_
  intro g5 a5 w5 hF hI
  refine wp_seq ?_
  refine sy [166] #[va (.iface 288 (.pointer (some ⟨a, 0, none⟩))),
      va (.pointer (some ⟨(g1.γ 0), 12, none⟩)),
      va (fe p n P.z),
      va (.pointer (some ⟨(g1.γ 0), 12, none⟩)),
      va (fe p n P.z),
      va (fe p n y1),
      va (.iface 288 (.pointer (some ⟨a, 0, none⟩))),
      va (.pointer (some ⟨(g1.γ 1), 12, none⟩)),
      va (fe p n Q.z),
      va (.pointer (some ⟨(g1.γ 1), 12, none⟩)),
      va (fe p n Q.z),
      va (fe p n y2),
      .new [] (fun _ => (Z6).toArray) 166,
      .new [] (fun _ => (Z6).toArray) 166,
      .put 12 [] (fun _ => (feC p n y1).toArray),
      .put 13 [] (fun _ => (feC p n y2).toArray)]
    (fun g6 => [(0, pt q), (4, pt (g1.γ 0)), (5, pt (g1.γ 1)), (6, pt (g1.γ 2)), (7, pt (g2.γ 0)), (8, .iface 288 (.pointer (some ⟨a, 0, none⟩))), (9, pt (g6.γ 12)), (10, pt (g6.γ 13))]) (fun g6 => [((g1.γ 0), (feC p n P.x ++ (feC p n P.y ++ feC p n P.z)), 264), ((g1.γ 1), (feC p n Q.x ++ (feC p n Q.y ++ feC p n Q.z)), 264), ((g1.γ 2), (Z6 ++ (Z6 ++ Z6)), 264), ((g2.γ 0), Z6, 166), ((g6.γ 12), feC p n y1, 166), ((g6.γ 13), feC p n y2, 166)]) (fun _ => [])
    hF hI trivial (fun g => ⟨pv,
      pv,
      lk 0 12 rfl rfl,
      pv,
      lk 0 12 rfl rfl,
      cv fun w hI hfa => fe_mul hy1 (hG.fld.below hI.below),
      pv,
      pv,
      lk 1 12 rfl rfl,
      pv,
      lk 1 12 rfl rfl,
      cv fun w hI hfa => fe_mul hy2 (hG.fld.below hI.below),
      nw,
      nw,
      po (fe p n y1) (Z6) rfl,
      po (fe p n y2) (Z6) rfl, trivial⟩) ?_
  intro g6 a6 w6 hF hI
  refine wp_seq ?_
  refine sy [166] #[va (.iface 288 (.pointer (some ⟨a, 0, none⟩))),
      va (pt (g1.γ 0)),
      va (fe p n P.x),
      va (fe p n y2),
      va (fe p n y3),
      va (.iface 288 (.pointer (some ⟨a, 0, none⟩))),
      va (.pointer (some ⟨(g1.γ 0), 6, none⟩)),
      va (fe p n P.y),
      va (.iface 288 (.pointer (some ⟨a, 0, none⟩))),
      va (.pointer (some ⟨(g1.γ 1), 12, none⟩)),
      va (fe p n Q.z),
      va (fe p n y2),
      va (fe p n y4),
      va (.func (.method "Mul") #[.iface 288 (.pointer (some ⟨a, 0, none⟩))] #[]),
      va (.func (.method "Mul") #[.iface 288 (.pointer (some ⟨a, 0, none⟩))] #[]),
      va (.iface 288 (.pointer (some ⟨a, 0, none⟩))),
      va (fe p n y5),
      .new [] (fun _ => (Z6).toArray) 166,
      .new [] (fun _ => (Z6).toArray) 166,
      .put 17 [] (fun _ => (feC p n y3).toArray),
      .put 18 [] (fun _ => (feC p n y5).toArray)]
    (fun g7 => [(0, pt q), (4, pt (g1.γ 0)), (5, pt (g1.γ 1)), (6, pt (g1.γ 2)), (7, pt (g2.γ 0)), (8, .iface 288 (.pointer (some ⟨a, 0, none⟩))), (9, pt (g6.γ 12)), (11, pt (g7.γ 17)), (12, pt (g7.γ 18))]) (fun g7 => [((g1.γ 0), (feC p n P.x ++ (feC p n P.y ++ feC p n P.z)), 264), ((g1.γ 1), (feC p n Q.x ++ (feC p n Q.y ++ feC p n Q.z)), 264), ((g1.γ 2), (Z6 ++ (Z6 ++ Z6)), 264), ((g2.γ 0), Z6, 166), ((g6.γ 12), feC p n y1, 166), ((g6.γ 13), feC p n y2, 166), ((g7.γ 17), feC p n y3, 166), ((g7.γ 18), feC p n y5, 166)]) (fun _ => [])
    hF hI trivial (fun g => ⟨pv,
      pv,
      lk 0 0 rfl rfl,
      lk 5 0 rfl rfl,
      cv fun w hI hfa => fe_mul hy3 (hG.fld.below hI.below),
      pv,
      pv,
      lk 0 6 rfl rfl,
      pv,
      pv,
      lk 1 12 rfl rfl,
      lk 5 0 rfl rfl,
      cv fun w hI hfa => fe_mul hy4 (hG.fld.below hI.below),
      pv,
      pv,
      pv,
      cv fun w hI hfa => fe_mul hy5 (hG.fld.below hI.below),
      nw,
      nw,
      po (fe p n y3) (Z6) rfl,
      po (fe p n y5) (Z6) rfl, trivial⟩) ?_
  intro g7 a7 w7 hF hI
  refine wp_seq ?_
  refine sy [166] #[va (.iface 288 (.pointer (some ⟨a, 0, none⟩))),
      va (.iface 288 (.pointer (some ⟨a, 0, none⟩))),
      va (pt (g1.γ 1)),
      va (fe p n Q.x),
      va (fe p n y1),
      va (fe p n y6),
      va (fe p n y3),
      va (.func (.method "Sub") #[.iface 288 (.pointer (some ⟨a, 0, none⟩))] #[]),
      va (.func (.method "Sub") #[.iface 288 (.pointer (some ⟨a, 0, none⟩))] #[]),
      va (.iface 288 (.pointer (some ⟨a, 0, none⟩))),
      va (fe p n y7),
      va (.iface 288 (.pointer (some ⟨a, 0, none⟩))),
      va (.iface 288 (.pointer (some ⟨a, 0, none⟩))),
      va (.pointer (some ⟨(g1.γ 1), 6, none⟩)),
      va (fe p n Q.y),
      va (.iface 288 (.pointer (some ⟨a, 0, none⟩))),
      va (.pointer (some ⟨(g1.γ 0), 12, none⟩)),
      va (fe p n P.z),
      va (fe p n y1),
      va (fe p n y8),
      va (.func (.method "Mul") #[.iface 288 (.pointer (some ⟨a, 0, none⟩))] #[]),
      va (.func (.method "Mul") #[.iface 288 (.pointer (some ⟨a, 0, none⟩))] #[]),
      va (.iface 288 (.pointer (some ⟨a, 0, none⟩))),
      va (fe p n y9),
      va (fe p n y5),
      va (.func (.method "Sub") #[.iface 288 (.pointer (some ⟨a, 0, none⟩))] #[]),
      va (.func (.method "Sub") #[.iface 288 (.pointer (some ⟨a, 0, none⟩))] #[]),
      va (.iface 288 (.pointer (some ⟨a, 0, none⟩))),
      va (fe p n y10),
      .new [] (fun _ => (Z6).toArray) 166,
      .new [] (fun _ => (Z6).toArray) 166,
      .put 29 [] (fun _ => (feC p n y7).toArray),
      .put 30 [] (fun _ => (feC p n y10).toArray)]
    (fun g8 => [(0, pt q), (4, pt (g1.γ 0)), (5, pt (g1.γ 1)), (6, pt (g1.γ 2)), (7, pt (g2.γ 0)), (8, .iface 288 (.pointer (some ⟨a, 0, none⟩))), (11, pt (g7.γ 17)), (12, pt (g7.γ 18)), (13, pt (g8.γ 29)), (14, pt (g8.γ 30))]) (fun g8 => [((g1.γ 0), (feC p n P.x ++ (feC p n P.y ++ feC p n P.z)), 264), ((g1.γ 1), (feC p n Q.x ++ (feC p n Q.y ++ feC p n Q.z)), 264), ((g1.γ 2), (Z6 ++ (Z6 ++ Z6)), 264), ((g2.γ 0), Z6, 166), ((g6.γ 12), feC p n y1, 166), ((g6.γ 13), feC p n y2, 166), ((g7.γ 17), feC p n y3, 166), ((g7.γ 18), feC p n y5, 166), ((g8.γ 29), feC p n y7, 166), ((g8.γ 30), feC p n y10, 166)]) (fun _ => [])
    hF hI trivial (fun g => ⟨pv,
      pv,
      pv,
      lk 1 0 rfl rfl,
      lk 4 0 rfl rfl,
      cv fun w hI hfa => fe_mul hy6 (hG.fld.below hI.below),
      lk 6 0 rfl rfl,
      pv,
      pv,
      pv,
      cv fun w hI hfa => fe_sub hy7 (hG.fld.below hI.below),
      pv,
      pv,
      pv,
      lk 1 6 rfl rfl,
      pv,
      pv,
      lk 0 12 rfl rfl,
      lk 4 0 rfl rfl,
      cv fun w hI hfa => fe_mul hy8 (hG.fld.below hI.below),
      pv,
      pv,
      pv,
      cv fun w hI hfa => fe_mul hy9 (hG.fld.below hI.below),
      lk 7 0 rfl rfl,
      pv,
      pv,
      pv,
      cv fun w hI hfa => fe_sub hy10 (hG.fld.below hI.below),
      nw,
      nw,
      po (fe p n y7) (Z6) rfl,
      po (fe p n y10) (Z6) rfl, trivial⟩) ?_
  intro g8 a8 w8 hF hI
  refine wp_seq ?_
  refine wp_seq ?_
  refine sy [] #[va (fe p n y7),
      va (.agg Z6.toArray),
      va (.bool true)]
    (fun g9 => [(0, pt q), (4, pt (g1.γ 0)), (5, pt (g1.γ 1)), (6, pt (g1.γ 2)), (7, pt (g2.γ 0)), (8, .iface 288 (.pointer (some ⟨a, 0, none⟩))), (11, pt (g7.γ 17)), (12, pt (g7.γ 18)), (13, pt (g8.γ 29)), (14, pt (g8.γ 30)), (96, .bool true)]) (fun _ => [((g1.γ 0), (feC p n P.x ++ (feC p n P.y ++ feC p n P.z)), 264), ((g1.γ 1), (feC p n Q.x ++ (feC p n Q.y ++ feC p n Q.z)), 264), ((g1.γ 2), (Z6 ++ (Z6 ++ Z6)), 264), ((g2.γ 0), Z6, 166), ((g6.γ 12), feC p n y1, 166), ((g6.γ 13), feC p n y2, 166), ((g7.γ 17), feC p n y3, 166), ((g7.γ 18), feC p n y5, 166), ((g8.γ 29), feC p n y7, 166), ((g8.γ 30), feC p n y10, 166)]) (fun _ => [])
    hF hI trivial (fun g => ⟨lk 8 0 rfl rfl,
      lk 3 0 rfl rfl,
      ov fun w hI hfa => pureU (eqZt (hG.fld.below hI.below) e3 rfl (by kernel_rfl) (by kernel_rfl)), trivial⟩) ?_
  intro g9 a9 w9 hF hI
  refine wp_cond_true (hF.eval rfl) ?_
  refine wp_seq ?_
  refine wp_seq ?_
  refine sy [] #[va (fe p n y10),
      va (.agg Z6.toArray),
      va (.bool true)]
    (fun g10 => [(0, pt q), (4, pt (g1.γ 0)), (5, pt (g1.γ 1)), (6, pt (g1.γ 2)), (8, .iface 288 (.pointer (some ⟨a, 0, none⟩))), (11, pt (g7.γ 17)), (12, pt (g7.γ 18)), (13, pt (g8.γ 29)), (14, pt (g8.γ 30)), (99, .bool true)]) (fun _ => [((g1.γ 0), (feC p n P.x ++ (feC p n P.y ++ feC p n P.z)), 264), ((g1.γ 1), (feC p n Q.x ++ (feC p n Q.y ++ feC p n Q.z)), 264), ((g1.γ 2), (Z6 ++ (Z6 ++ Z6)), 264), ((g2.γ 0), Z6, 166), ((g6.γ 12), feC p n y1, 166), ((g6.γ 13), feC p n y2, 166), ((g7.γ 17), feC p n y3, 166), ((g7.γ 18), feC p n y5, 166), ((g8.γ 29), feC p n y7, 166), ((g8.γ 30), feC p n y10, 166)]) (fun _ => [])
    hF hI trivial (fun g => ⟨lk 9 0 rfl rfl,
      lk 3 0 rfl rfl,
      ov fun w hI hfa => pureU (eqZt (hG.fld.below hI.below) e4 rfl (by kernel_rfl) (by kernel_rfl)), trivial⟩) ?_
  intro g10 a10 w10 hF hI
  refine wp_cond_true (hF.eval rfl) ?_
  refine wp_seq ?_
  refine ss [264] #[va (pt q),
      va (.agg ((feC p n P.x ++ (feC p n P.y ++ feC p n P.z))).toArray),
      va (.agg ((feC p n y11.x ++ (feC p n y11.y ++ feC p n y11.z))).toArray)]
    (fun g11 => [(4, pt (g1.γ 0)), (5, pt (g1.γ 1)), (6, pt (g1.γ 2)), (8, .iface 288 (.pointer (some ⟨a, 0, none⟩))), (11, pt (g7.γ 17)), (12, pt (g7.γ 18)), (13, pt (g8.γ 29)), (14, pt (g8.γ 30))]) (fun _ => [((g1.γ 0), (feC p n P.x ++ (feC p n P.y ++ feC p n P.z)), 264), ((g1.γ 1), (feC p n Q.x ++ (feC p n Q.y ++ feC p n Q.z)), 264), ((g1.γ 2), (feC p n y11.x ++ (feC p n y11.y ++ feC p n y11.z)), 264), ((g2.γ 0), Z6, 166), ((g6.γ 12), feC p n y1, 166), ((g6.γ 13), feC p n y2, 166), ((g7.γ 17), feC p n y3, 166), ((g7.γ 18), feC p n y5, 166), ((g8.γ 29), feC p n y7, 166), ((g8.γ 30), feC p n y10, 166)]) (fun _ => []) 2 0
    hF hI trivial (fun g => ⟨pv,
      lk 0 0 rfl rfl,
      cv fun w hI hfa => twice_any hy11 (hG.below hI.below), trivial⟩) rfl rfl rfl ?_
  intro g11 a11 w11 hF hI
  refine wp_ret ?_
  show bodyPost Tryz.prog Tryz.f199 (Ret w (.agg ((feC p n y11.x ++ (feC p n y11.y ++ feC p n y11.z))).toArray)) .ret _ _
  exact sym_ret rfl hF.df (rv_cell 2 hF rfl hI rfl Tryz.underlying264 rfl (by kernel_rfl)) ⟨rfl, hI.below⟩

theorem raw_sum4 {q a p n v : Nat} [Pr p] {b : Zm p} {P Q : GW (Zm p)} {y1 : Zm p} (hy1 : y1 = P.z * P.z) {y2 : Zm p} (hy2 : y2 = Q.z * Q.z) {y3 : Zm p} (hy3 : y3 = P.x * y2) {y4 : Zm p} (hy4 : y4 = Q.z * y2) {y5 : Zm p} (hy5 : y5 = P.y * y4) {y6 : Zm p} (hy6 : y6 = Q.x * y1) {y7 : Zm p} (hy7 : y7 = y6 - y3) {y8 : Zm p} (hy8 : y8 = P.z * y1) {y9 : Zm p} (hy9 : y9 = Q.y * y8) {y10 : Zm p} (hy10 : y10 = y9 - y5) (e1 : P.z ≠ 0) (e2 : Q.z ≠ 0) (e3 : y7 = 0) (e4 : y10 ≠ 0) {w : World} (hG : GrAt w q a p n v b) : Calls Tryz.prog 199 #[.pointer (some ⟨q, 0, none⟩), .agg ((feC p n P.x ++ (feC p n P.y ++ feC p n P.z))).toArray, .agg ((feC p n Q.x ++ (feC p n Q.y ++ feC p n Q.z))).toArray] w (Ret w (.agg ((Z6 ++ (Z6 ++ Z6))).toArray)) := by
  have hql := hG.lt
  refine calls_of_wp Tryz.func199 (by rfl : Tryz.f199.body = some _) ?_
  have hF : Fr [(0, pt q), (1, .agg ((feC p n P.x ++ (feC p n P.y ++ feC p n P.z))).toArray), (2, .agg ((feC p n Q.x ++ (feC p n Q.y ++ feC p n Q.z))).toArray)] 169 _ := Fr.start (args := #[pt q, .agg ((feC p n P.x ++ (feC p n P.y ++ feC p n P.z))).toArray, .agg ((feC p n Q.x ++ (feC p n Q.y ++ feC p n Q.z))).toArray]) (m := 169) (by simp)
  have hI := Inv.start0 w
  refine wp_seq ?_
  refine sy [] #[.new [] (fun _ => ((feC p n P.x ++ (feC p n P.y ++ feC p n P.z))).toArray) 264,
      .new [] (fun _ => ((feC p n Q.x ++ (feC p n Q.y ++ feC p n Q.z))).toArray) 264,
      .new [] (fun _ => ((Z6 ++ (Z6 ++ Z6))).toArray) 264]
    (fun g1 => [(0, pt q), (4, pt (g1.γ 0)), (5, pt (g1.γ 1)), (6, pt (g1.γ 2))]) (fun g1 => [((g1.γ 0), (feC p n P.x ++ (feC p n P.y ++ feC p n P.z)), 264), ((g1.γ 1), (feC p n Q.x ++ (feC p n Q.y ++ feC p n Q.z)), 264), ((g1.γ 2), (Z6 ++ (Z6 ++ Z6)), 264)]) (fun _ => [])
    hF hI trivial (fun g => ⟨nw,
      nw,
      nw, trivial⟩) ?_
  intro g1 a1 w1 hF hI
  refine wp_seq ?_
  refine sy [] #[.new [] (fun _ => (Z6).toArray) 166]
    (fun g2 => [(0, pt q), (4, pt (g1.γ 0)), (5, pt (g1.γ 1)), (6, pt (g1.γ 2)), (7, pt (g2.γ 0))]) (fun g2 => [((g1.γ 0), (feC p n P.x ++ (feC p n P.y ++ feC p n P.z)), 264), ((g1.γ 1), (feC p n Q.x ++ (feC p n Q.y ++ feC p n Q.z)), 264), ((g1.γ 2), (Z6 ++ (Z6 ++ Z6)), 264), ((g2.γ 0), Z6, 166)]) (fun _ => [])
    hF hI trivial (fun g => ⟨nw, trivial⟩) ?_
  intro g2 a2 w2 hF hI
  refine wp_seq ?_
  refine wp_block ?_
  refine wp_seq ?_
  refine sy [] #[va (.pointer (some ⟨(g1.γ 0), 12, none⟩)),
      va (fe p n P.z),
      va (.agg Z6.toArray),
      va (.bool false),
      va (.bool false)]
    (fun g3 => [(0, pt q), (4, pt (g1.γ 0)), (5, pt (g1.γ 1)), (6, pt (g1.γ 2)), (7, pt (g2.γ 0)), (20, .bool false)]) (fun _ => [((g1.γ 0), (feC p n P.x ++ (feC p n P.y ++ feC p n P.z)), 264), ((g1.γ 1), (feC p n Q.x ++ (feC p n Q.y ++ feC p n Q.z)), 264), ((g1.γ 2), (Z6 ++ (Z6 ++ Z6)), 264), ((g2.γ 0), Z6, 166)]) (fun _ => [])
    hF hI trivial (fun g => ⟨pv,
      lk 0 12 rfl rfl,
      lk 3 0 rfl rfl,
      ov fun w hI hfa => pureU (eqZf (hG.fld.below hI.below) e1 rfl (by kernel_rfl) (by kernel_rfl)),
      pv, trivial⟩) ?_
  intro g3 a3 w3 hF hI
  refine wp_cond_false (hF.eval rfl) ?_
  refine wp_seq ?_
  refine sy [] #[va (.pointer (some ⟨(g1.γ 1), 12, none⟩)),
      va (fe p n Q.z),
      va (.agg Z6.toArray),
      va (.bool false),
      va (.bool false)]
    (fun g4 => [(0, pt q), (4, pt (g1.γ 0)), (5, pt (g1.γ 1)), (6, pt (g1.γ 2)), (7, pt (g2.γ 0)), (26, .bool false)]) (fun _ => [((g1.γ 0), (feC p n P.x ++ (feC p n P.y ++ feC p n P.z)), 264), ((g1.γ 1), (feC p n Q.x ++ (feC p n Q.y ++ feC p n Q.z)), 264), ((g1.γ 2), (Z6 ++ (Z6 ++ Z6)), 264), ((g2.γ 0), Z6, 166)]) (fun _ => [])
    hF hI trivial (fun g => ⟨pv,
      lk 1 12 rfl rfl,
      lk 3 0 rfl rfl,
      ov fun w hI hfa => pureU (eqZf (hG.fld.below hI.below) e2 rfl (by kernel_rfl) (by kernel_rfl)),
      pv, trivial⟩) ?_
  intro g4 a4 w4 hF hI
  refine wp_cond_false (hF.eval rfl) ?_
  refine wp_skip ?_
  refine wp_seq ?_
  refine sy [] #[va (pt q),
      va (pt q),
      va (pt q),
      va (.iface 288 (.pointer (some ⟨a, 0, none⟩))),
      va (.iface 288 (.pointer (some ⟨a, 0, none⟩)))]
    (fun g5 => [(0, pt q), (4, pt (g1.γ 0)), (5, pt (g1.γ 1)), (6, pt (g1.γ 2)), (7, pt (g2.γ 0)), (8, .iface 288 (.pointer (some ⟨a, 0, none⟩)))]) (fun _ => [((g1.γ 0), (feC p n P.x ++ (feC p n P.y ++ feC p n P.z)), 264), ((g1.γ 1), (feC p n Q.x ++ (feC p n Q.y ++ feC p n Q.z)), 264), ((g1.γ 2), (Z6 ++ (Z6 ++ Z6)), 264), ((g2.γ 0), Z6, 166)]) (fun _ => [])
    hF hI trivial (fun g => ⟨pv,
      pv,
      pv,
      lO1 q 0 hql hG.ring rfl,
      pv, trivial⟩) ?_
  intro g5 a5 w5 hF hI
  refine wp_seq ?_
  refine sy [166] #[va (.iface 288 (.pointer (some ⟨a, 0, none⟩))),
      va (.pointer (some ⟨(g1.γ 0), 12, none⟩)),
      va (fe p n P.z),
      va (.pointer (some ⟨(g1.γ 0), 12, none⟩)),
      va (fe p n P.z),
      va (fe p n y1),
      va (.iface 288 (.pointer (some ⟨a, 0, none⟩))),
      va (.pointer (some ⟨(g1.γ 1), 12, none⟩)),
      va (fe p n Q.z),
      va (.pointer (some ⟨(g1.γ 1), 12, none⟩)),
      va (fe p n Q.z),
      va (fe p n y2),
      .new [] (fun _ => (Z6).toArray) 166,
      .new [] (fun _ => (Z6).toArray) 166,
      .put 12 [] (fun _ => (feC p n y1).toArray),
      .put 13 [] (fun _ => (feC p n y2).toArray)]
    (fun g6 => [(0, pt q), (4, pt (g1.γ 0)), (5, pt (g1.γ 1)), (6, pt (g1.γ 2)), (7, pt (g2.γ 0)), (8, .iface 288 (.pointer (some ⟨a, 0, none⟩))), (9, pt (g6.γ 12)), (10, pt (g6.γ 13))]) (fun g6 => [((g1.γ 0), (feC p n P.x ++ (feC p n P.y ++ feC p n P.z)), 264), ((g1.γ 1), (feC p n Q.x ++ (feC p n Q.y ++ feC p n Q.z)), 264), ((g1.γ 2), (Z6 ++ (Z6 ++ Z6)), 264), ((g2.γ 0), Z6, 166), ((g6.γ 12), feC p n y1, 166), ((g6.γ 13), feC p n y2, 166)]) (fun _ => [])
    hF hI trivial (fun g => ⟨pv,
      pv,
      lk 0 12 rfl rfl,
      pv,
      lk 0 12 rfl rfl,
      cv fun w hI hfa => fe_mul hy1 (hG.fld.below hI.below),
      pv,
      pv,
      lk 1 12 rfl rfl,
      pv,
      lk 1 12 rfl rfl,
      cv fun w hI hfa => fe_mul hy2 (hG.fld.below hI.below),
      nw,
      nw,
      po (fe p n y1) (Z6) rfl,
      po (fe p n y2) (Z6) rfl, trivial⟩) ?_
  intro g6 a6 w6 hF hI
  refine wp_seq ?_
  refine sy [166] #[va (.iface 288 (.pointer (some ⟨a, 0, none⟩))),
      va (pt (g1.γ 0)),
      va (fe p n P.x),
      va (fe p n y2),
      va (fe p n y3),
      va (.iface 288 (.pointer (some ⟨a, 0, none⟩))),
      va (.pointer (some ⟨(g1.γ 0), 6, none⟩)),
      va (fe p n P.y),
      va (.iface 288 (.pointer (some ⟨a, 0, none⟩))),
      va (.pointer (some ⟨(g1.γ 1), 12, none⟩)),
      va (fe p n Q.z),
      va (fe p n y2),
      va (fe p n y4),
      va (.func (.method "Mul") #[.iface 288 (.pointer (some ⟨a, 0, none⟩))] #[]),
      va (.func (.method "Mul") #[.iface 288 (.pointer (some ⟨a, 0, none⟩))] #[]),
      va (.iface 288 (.pointer (some ⟨a, 0, none⟩))),
      va (fe p n y5),
      .new [] (fun _ => (Z6).toArray) 166,
      .new [] (fun _ => (Z6).toArray) 166,
      .put 17 [] (fun _ => (feC p n y3).toArray),
      .put 18 [] (fun _ => (feC p n y5).toArray)]
    (fun g7 => [(0, pt q), (4, pt (g1.γ 0)), (5, pt (g1.γ 1)), (6, pt (g1.γ 2)), (7, pt (g2.γ 0)), (8, .iface 288 (.pointer (some ⟨a, 0, none⟩))), (9, pt (g6.γ 12)), (11, pt (g7.γ 17)), (12, pt (g7.γ 18))]) (fun g7 => [((g1.γ 0), (feC p n P.x ++ (feC p n P.y ++ feC p n P.z)), 264), ((g1.γ 1), (feC p n Q.x ++ (feC p n Q.y ++ feC p n Q.z)), 264), ((g1.γ 2), (Z6 ++ (Z6 ++ Z6)), 264), ((g2.γ 0), Z6, 166), ((g6.γ 12), feC p n y1, 166), ((g6.γ 13), feC p n y2, 166), ((g7.γ 17), feC p n y3, 166), ((g7.γ 18), feC p n y5, 166)]) (fun _ => [])
    hF hI trivial (fun g => ⟨pv,
      pv,
      lk 0 0 rfl rfl,
      lk 5 0 rfl rfl,
      cv fun w hI hfa => fe_mul hy3 (hG.fld.below hI.below),
      pv,
      pv,
      lk 0 6 rfl rfl,
      pv,
      pv,
      lk 1 12 rfl rfl,
      lk 5 0 rfl rfl,
      cv fun w hI hfa => fe_mul hy4 (hG.fld.below hI.below),
      pv,
      pv,
      pv,
      cv fun w hI hfa => fe_mul hy5 (hG.fld.below hI.below),
      nw,
      nw,
      po (fe p n y3) (Z6) rfl,
      po (fe p n y5) (Z6) rfl, trivial⟩) ?_
  intro g7 a7 w7 hF hI
  refine wp_seq ?_
  refine sy [166] #[va (.iface 288 (.pointer (some ⟨a, 0, none⟩))),
      va (.iface 288 (.pointer (some ⟨a, 0, none⟩))),
      va (pt (g1.γ 1)),
      va (fe p n Q.x),
      va (fe p n y1),
      va (fe p n y6),
      va (fe p n y3),
      va (.func (.method "Sub") #[.iface 288 (.pointer (some ⟨a, 0, none⟩))] #[]),
      va (.func (.method "Sub") #[.iface 288 (.pointer (some ⟨a, 0, none⟩))] #[]),
      va (.iface 288 (.pointer (some ⟨a, 0, none⟩))),
      va (fe p n y7),
      va (.iface 288 (.pointer (some ⟨a, 0, none⟩))),
      va (.iface 288 (.pointer (some ⟨a, 0, none⟩))),
      va (.pointer (some ⟨(g1.γ 1), 6, none⟩)),
      va (fe p n Q.y),
      va (.iface 288 (.pointer (some ⟨a, 0, none⟩))),
      va (.pointer (some ⟨(g1.γ 0), 12, none⟩)),
      va (fe p n P.z),
      va (fe p n y1),
      va (fe p n y8),
      va (.func (.method "Mul") #[.iface 288 (.pointer (some ⟨a, 0, none⟩))] #[]),
      va (.func (.method "Mul") #[.iface 288 (.pointer (some ⟨a, 0, none⟩))] #[]),
      va (.iface 288 (.pointer (some ⟨a, 0, none⟩))),
      va (fe p n y9),
      va (fe p n y5),
      va (.func (.method "Sub") #[.iface 288 (.pointer (some ⟨a, 0, none⟩))] #[]),
      va (.func (.method "Sub") #[.iface 288 (.pointer (some ⟨a, 0, none⟩))] #[]),
      va (.iface 288 (.pointer (some ⟨a, 0, none⟩))),
      va (fe p n y10),
      .new [] (fun _ => (Z6).toArray) 166,
      .new [] (fun _ => (Z6).toArray) 166,
      .put 29 [] (fun _ => (feC p n y7).toArray),
      .put 30 [] (fun _ => (feC p n y10).toArray)]
    (fun g8 => [(0, pt q), (4, pt (g1.γ 0)), (5, pt (g1.γ 1)), (6, pt (g1.γ 2)), (7, pt (g2.γ 0)), (8, .iface 288 (.pointer (some ⟨a, 0, none⟩))), (11, pt (g7.γ 17)), (12, pt (g7.γ 18)), (13, pt (g8.γ 29)), (14, pt (g8.γ 30))]) (fun g8 => [((g1.γ 0), (feC p n P.x ++ (feC p n P.y ++ feC p n P.z)), 264), ((g1.γ 1), (feC p n Q.x ++ (feC p n Q.y ++ feC p n Q.z)), 264), ((g1.γ 2), (Z6 ++ (Z6 ++ Z6)), 264), ((g2.γ 0), Z6, 166), ((g6.γ 12), feC p n y1, 166), ((g6.γ 13), feC p n y2, 166), ((g7.γ 17), feC p n y3, 166), ((g7.γ 18), feC p n y5, 166), ((g8.γ 29), feC p n y7, 166), ((g8.γ 30), feC p n y10, 166)]) (fun _ => [])
    hF hI trivial (fun g => ⟨pv,
      pv,
      pv,
      lk 1 0 rfl rfl,
      lk 4 0 rfl rfl,
      cv fun w hI hfa => fe_mul hy6 (hG.fld.below hI.below),
      lk 6 0 rfl rfl,
      pv,
      pv,
      pv,
      cv fun w hI hfa => fe_sub hy7 (hG.fld.below hI.below),
      pv,
      pv,
      pv,
      lk 1 6 rfl rfl,
      pv,
      pv,
      lk 0 12 rfl rfl,
      lk 4 0 rfl rfl,
      cv fun w hI hfa => fe_mul hy8 (hG.fld.below hI.below),
      pv,
      pv,
      pv,
      cv fun w hI hfa => fe_mul hy9 (hG.fld.below hI.below),
      lk 7 0 rfl rfl,
      pv,
      pv,
      pv,
      cv fun w hI hfa => fe_sub hy10 (hG.fld.below hI.below),
      nw,
      nw,
      po (fe p n y7) (Z6) rfl,
      po (fe p n y10) (Z6) rfl, trivial⟩) ?_
  intro g8 a8 w8 hF hI
  refine wp_seq ?_
  refine wp_seq ?_
  refine sy [] #[va (fe p n y7),
      va (.agg Z6.toArray),
      va (.bool true)]
    (fun g9 => [(0, pt q), (4, pt (g1.γ 0)), (5, pt (g1.γ 1)), (6, pt (g1.γ 2)), (7, pt (g2.γ 0)), (8, .iface 288 (.pointer (some ⟨a, 0, none⟩))), (11, pt (g7.γ 17)), (12, pt (g7.γ 18)), (13, pt (g8.γ 29)), (14, pt (g8.γ 30)), (96, .bool true)]) (fun _ => [((g1.γ 0), (feC p n P.x ++ (feC p n P.y ++ feC p n P.z)), 264), ((g1.γ 1), (feC p n Q.x ++ (feC p n Q.y ++ feC p n Q.z)), 264), ((g1.γ 2), (Z6 ++ (Z6 ++ Z6)), 264), ((g2.γ 0), Z6, 166), ((g6.γ 12), feC p n y1, 166), ((g6.γ 13), feC p n y2, 166), ((g7.γ 17), feC p n y3, 166), ((g7.γ 18), feC p n y5, 166), ((g8.γ 29), feC p n y7, 166), ((g8.γ 30), feC p n y10, 166)]) (fun _ => [])
    hF hI trivial (fun g => ⟨lk 8 0 rfl rfl,
      lk 3 0 rfl rfl,
      ov fun w hI hfa => pureU (eqZt (hG.fld.below hI.below) e3 rfl (by kernel_rfl) (by kernel_rfl)), trivial⟩) ?_
  intro g9 a9 w9 hF hI
  refine wp_cond_true (hF.eval rfl) ?_
  refine wp_seq ?_
  refine wp_seq ?_
  refine sy [] #[va (fe p n y10),
      va (.agg Z6.toArray),
      va (.bool false)]
    (fun g10 => [(0, pt q), (4, pt (g1.γ 0)), (5, pt (g1.γ 1)), (6, pt (g1.γ 2)), (8, .iface 288 (.pointer (some ⟨a, 0, none⟩))), (11, pt (g7.γ 17)), (12, pt (g7.γ 18)), (13, pt (g8.γ 29)), (14, pt (g8.γ 30)), (99, .bool false)]) (fun _ => [((g1.γ 0), (feC p n P.x ++ (feC p n P.y ++ feC p n P.z)), 264), ((g1.γ 1), (feC p n Q.x ++ (feC p n Q.y ++ feC p n Q.z)), 264), ((g1.γ 2), (Z6 ++ (Z6 ++ Z6)), 264), ((g2.γ 0), Z6, 166), ((g6.γ 12), feC p n y1, 166), ((g6.γ 13), feC p n y2, 166), ((g7.γ 17), feC p n y3, 166), ((g7.γ 18), feC p n y5, 166), ((g8.γ 29), feC p n y7, 166), ((g8.γ 30), feC p n y10, 166)]) (fun _ => [])
    hF hI trivial (fun g => ⟨lk 9 0 rfl rfl,
      lk 3 0 rfl rfl,
      ov fun w hI hfa => pureU (eqZf (hG.fld.below hI.below) e4 rfl (by kernel_rfl) (by kernel_rfl)), trivial⟩) ?_
  intro g10 a10 w10 hF hI
  refine wp_cond_false (hF.eval rfl) ?_
  refine wp_skip ?_
  refine wp_seq ?_
  refine ss [264] #[va (.agg ((Z6 ++ (Z6 ++ Z6))).toArray)]
    (fun g11 => [(4, pt (g1.γ 0)), (5, pt (g1.γ 1)), (6, pt (g1.γ 2)), (8, .iface 288 (.pointer (some ⟨a, 0, none⟩))), (11, pt (g7.γ 17)), (12, pt (g7.γ 18)), (13, pt (g8.γ 29)), (14, pt (g8.γ 30))]) (fun _ => [((g1.γ 0), (feC p n P.x ++ (feC p n P.y ++ feC p n P.z)), 264), ((g1.γ 1), (feC p n Q.x ++ (feC p n Q.y ++ feC p n Q.z)), 264), ((g1.γ 2), (Z6 ++ (Z6 ++ Z6)), 264), ((g2.γ 0), Z6, 166), ((g6.γ 12), feC p n y1, 166), ((g6.γ 13), feC p n y2, 166), ((g7.γ 17), feC p n y3, 166), ((g7.γ 18), feC p n y5, 166), ((g8.γ 29), feC p n y7, 166), ((g8.γ 30), feC p n y10, 166)]) (fun _ => []) 2 0
    hF hI trivial (fun g => ⟨pv, trivial⟩) rfl rfl rfl ?_
  intro g11 a11 w11 hF hI
  refine wp_ret ?_
  show bodyPost Tryz.prog Tryz.f199 (Ret w (.agg ((Z6 ++ (Z6 ++ Z6))).toArray)) .ret _ _
  exact sym_ret rfl hF.df (rv_cell 2 hF rfl hI rfl Tryz.underlying264 rfl (by kernel_rfl)) ⟨rfl, hI.below⟩

theorem raw_sum5 {q a p n v : Nat} [Pr p] {b : Zm p} {P Q : GW (Zm p)} {y1 : Zm p} (hy1 : y1 = P.z * P.z) {y2 : Zm p} (hy2 : y2 = Q.z * Q.z) {y3 : Zm p} (hy3 : y3 = P.x * y2) {y4 : Zm p} (hy4 : y4 = Q.z * y2) {y5 : Zm p} (hy5 : y5 = P.y * y4) {y6 : Zm p} (hy6 : y6 = Q.x * y1) {y7 : Zm p} (hy7 : y7 = y6 - y3) {y8 : Zm p} (hy8 : y8 = P.z * y1) {y9 : Zm p} (hy9 : y9 = Q.y * y8) {y10 : Zm p} (hy10 : y10 = y9 - y5) {y11 : Zm p} (hy11 : y11 = y7 * y7) {y12 : Zm p} (hy12 : y12 = y7 * y11) {y13 : Zm p} (hy13 : y13 = y3 * y11) {y14 : Zm p} (hy14 : y14 = y10 * y10) {y15 : Zm p} (hy15 : y15 = y14 - y12) {y16 : Zm p} (hy16 : y16 = y13 + y13) {y17 : Zm p} (hy17 : y17 = y15 - y16) {y18 : Zm p} (hy18 : y18 = y13 - y17) {y19 : Zm p} (hy19 : y19 = y10 * y18) {y20 : Zm p} (hy20 : y20 = y5 * y12) {y21 : Zm p} (hy21 : y21 = y19 - y20) {y22 : Zm p} (hy22 : y22 = P.z * Q.z) {y23 : Zm p} (hy23 : y23 = y7 * y22) (e1 : P.z ≠ 0) (e2 : Q.z ≠ 0) (e3 : y7 ≠ 0) {w : World} (hG : GrAt w q a p n v b) : Calls Tryz.prog 199 #[.pointer (some ⟨q, 0, none⟩), .agg ((feC p n P.x ++ (feC p n P.y ++ feC p n P.z))).toArray, .agg ((feC p n Q.x ++ (feC p n Q.y ++ feC p n Q.z))).toArray] w (Ret w (.agg ((feC p n y17 ++ (feC p n y21 ++ feC p n y23))).toArray)) := by
  have hql := hG.lt
  refine calls_of_wp Tryz.func199 (by rfl : Tryz.f199.body = some _) ?_
  have hF : Fr [(0, pt q), (1, .agg ((feC p n P.x ++ (feC p n P.y ++ feC p n P.z))).toArray), (2, .agg ((feC p n Q.x ++ (feC p n Q.y ++ feC p n Q.z))).toArray)] 169 _ := Fr.start (args := #[pt q, .agg ((feC p n P.x ++ (feC p n P.y ++ feC p n P.z))).toArray, .agg ((feC p n Q.x ++ (feC p n Q.y ++ feC p n Q.z))).toArray]) (m := 169) (by simp)
  have hI := Inv.start0 w
  refine wp_seq ?_
  refine sy [] #[.new [] (fun _ => ((feC p n P.x ++ (feC p n P.y ++ feC p n P.z))).toArray) 264,
      .new [] (fun _ => ((feC p n Q.x ++ (feC p n Q.y ++ feC p n Q.z))).toArray) 264,
      .new [] (fun _ => ((Z6 ++ (Z6 ++ Z6))).toArray) 264]
    (fun g1 => [(0, pt q), (4, pt (g1.γ 0)), (5, pt (g1.γ 1)), (6, pt (g1.γ 2))]) (fun g1 => [((g1.γ 0), (feC p n P.x ++ (feC p n P.y ++ feC p n P.z)), 264), ((g1.γ 1), (feC p n Q.x ++ (feC p n Q.y ++ feC p n Q.z)), 264), ((g1.γ 2), (Z6 ++ (Z6 ++ Z6)), 264)]) (fun _ => [])
    hF hI trivial (fun g => ⟨nw,
      nw,
      nw, trivial⟩) ?_
  intro g1 a1 w1 hF hI
  refine wp_seq ?_
  refine sy [] #[.new [] (fun _ => (Z6).toArray) 166]
    (fun g2 => [(0, pt q), (4, pt (g1.γ 0)), (5, pt (g1.γ 1)), (6, pt (g1.γ 2)), (7, pt (g2.γ 0))]) (fun g2 => [((g1.γ 0), (feC p n P.x ++ (feC p n P.y ++ feC p n P.z)), 264), ((g1.γ 1), (feC p n Q.x ++ (feC p n Q.y ++ feC p n Q.z)), 264), ((g1.γ 2), (Z6 ++ (Z6 ++ Z6)), 264), ((g2.γ 0), Z6, 166)]) (fun _ => [])
    hF hI trivial (fun g => ⟨nw, trivial⟩) ?_
  intro g2 a2 w2 hF hI
  refine wp_seq ?_
  refine wp_block ?_
  refine wp_seq ?_
  refine sy [] #[va (.pointer (some ⟨(g1.γ 0), 12, none⟩)),
      va (fe p n P.z),
      va (.agg Z6.toArray),
      va (.bool false),
      va (.bool false)]
    (fun g3 => [(0, pt q), (4, pt (g1.γ 0)), (5, pt (g1.γ 1)), (6, pt (g1.γ 2)), (7, pt (g2.γ 0)), (20, .bool false)]) (fun _ => [((g1.γ 0), (feC p n P.x ++ (feC p n P.y ++ feC p n P.z)), 264), ((g1.γ 1), (feC p n Q.x ++ (feC p n Q.y ++ feC p n Q.z)), 264), ((g1.γ 2), (Z6 ++ (Z6 ++ Z6)), 264), ((g2.γ 0), Z6, 166)]) (fun _ => [])
    hF hI trivial (fun g => ⟨pv,
      lk 0 12 rfl rfl,
      lk 3 0 rfl rfl,
      ov fun w hI hfa => pureU (eqZf (hG.fld.below hI.below) e1 rfl (by kernel_rfl) (by kernel_rfl)),
      pv, trivial⟩) ?_
  intro g3 a3 w3 hF hI
  refine wp_cond_false (hF.eval rfl) ?_
  refine wp_seq ?_
  refine sy [] #[va (.pointer (some ⟨(g1.γ 1), 12, none⟩)),
      va (fe p n Q.z),
      va (.agg Z6.toArray),
      va (.bool false),
      va (.bool false)]
    (fun g4 => [(0, pt q), (4, pt (g1.γ 0)), (5, pt (g1.γ 1)), (6, pt (g1.γ 2)), (7, pt (g2.γ 0)), (26, .bool false)]) (fun _ => [((g1.γ 0), (feC p n P.x ++ (feC p n P.y ++ feC p n P.z)), 264), ((g1.γ 1), (feC p n Q.x ++ (feC p n Q.y ++ feC p n Q.z)), 264), ((g1.γ 2), (Z6 ++ (Z6 ++ Z6)), 264), ((g2.γ 0), Z6, 166)]) (fun _ => [])
    hF hI trivial (fun g => ⟨pv,
      lk 1 12 rfl rfl,
      lk 3 0 rfl rfl,
      ov fun w hI hfa => pureU (eqZf (hG.fld.below hI.below) e2 rfl (by kernel_rfl) (by kernel_rfl)),
      pv, trivial⟩) ?_
  intro g4 a4 w4 hF hI
  refine wp_cond_false (hF.eval rfl) ?_
  refine wp_skip ?_
  refine wp_seq ?_
  refine sy [] #[va (pt q),
      va (pt q),
      va (pt q),
      va (.iface 288 (.pointer (some ⟨a, 0, none⟩))),
      va (.iface 288 (.pointer (some ⟨a, 0, none⟩)))]
    (fun g5 => [(0, pt q), (4, pt (g1.γ 0)), (5, pt (g1.γ 1)), (6, pt (g1.γ 2)), (7, pt (g2.γ 0)), (8, .iface 288 (.pointer (some ⟨a, 0, none⟩)))]) (fun _ => [((g1.γ 0), (feC p n P.x ++ (feC p n P.y ++ feC p n P.z)), 264), ((g1.γ 1), (feC p n Q.x ++ (feC p n Q.y ++ feC p n Q.z)), 264), ((g1.γ 2), (Z6 ++ (Z6 ++ Z6)), 264), ((g2.γ 0), Z6, 166)]) (fun _ => [])
    hF hI trivial (fun g => ⟨pv,
      pv,
      pv,
      lO1 q 0 hql hG.ring rfl,
      pv, trivial⟩) ?_
  intro g5 a5 w5 hF hI
  refine wp_seq ?_
  refine sy [166] #[va (.iface 288 (.pointer (some ⟨a, 0, none⟩))),
      va (.pointer (some ⟨(g1.γ 0), 12, none⟩)),
      va (fe p n P.z),
      va (.pointer (some ⟨(g1.γ 0), 12, none⟩)),
      va (fe p n P.z),
      va (fe p n y1),
      va (.iface 288 (.pointer (some ⟨a, 0, none⟩))),
      va (.pointer (some ⟨(g1.γ 1), 12, none⟩)),
      va (fe p n Q.z),
      va (.pointer (some ⟨(g1.γ 1), 12, none⟩)),
      va (fe p n Q.z),
      va (fe p n y2),
      .new [] (fun _ => (Z6).toArray) 166,
      .new [] (fun _ => (Z6).toArray) 166,
      .put 12 [] (fun _ => (feC p n y1).toArray),
      .put 13 [] (fun _ => (feC p n y2).toArray)]
    (fun g6 => [(0, pt q), (4, pt (g1.γ 0)), (5, pt (g1.γ 1)), (6, pt (g1.γ 2)), (7, pt (g2.γ 0)), (8, .iface 288 (.pointer (some ⟨a, 0, none⟩))), (9, pt (g6.γ 12)), (10, pt (g6.γ 13))]) (fun g6 => [((g1.γ 0), (feC p n P.x ++ (feC p n P.y ++ feC p n P.z)), 264), ((g1.γ 1), (feC p n Q.x ++ (feC p n Q.y ++ feC p n Q.z)), 264), ((g1.γ 2), (Z6 ++ (Z6 ++ Z6)), 264), ((g2.γ 0), Z6, 166), ((g6.γ 12), feC p n y1, 166), ((g6.γ 13), feC p n y2, 166)]) (fun _ => [])
    hF hI trivial (fun g => ⟨pv,
      pv,
      lk 0 12 rfl rfl,
      pv,
      lk 0 12 rfl rfl,
      cv fun w hI hfa => fe_mul hy1 (hG.fld.below hI.below),
      pv,
      pv,
      lk 1 12 rfl rfl,
      pv,
      lk 1 12 rfl rfl,
      cv fun w hI hfa => fe_mul hy2 (hG.fld.below hI.below),
      nw,
      nw,
      po (fe p n y1) (Z6) rfl,
      po (fe p n y2) (Z6) rfl, trivial⟩) ?_
  intro g6 a6 w6 hF hI
  refine wp_seq ?_
  refine sy [166] #[va (.iface 288 (.pointer (some ⟨a, 0, none⟩))),
      va (pt (g1.γ 0)),
      va (fe p n P.x),
      va (fe p n y2),
      va (fe p n y3),
      va (.iface 288 (.pointer (some ⟨a, 0, none⟩))),
      va (.pointer (some ⟨(g1.γ 0), 6, none⟩)),
      va (fe p n P.y),
      va (.iface 288 (.pointer (some ⟨a, 0, none⟩))),
      va (.pointer (some ⟨(g1.γ 1), 12, none⟩)),
      va (fe p n Q.z),
      va (fe p n y2),
      va (fe p n y4),
      va (.func (.method "Mul") #[.iface 288 (.pointer (some ⟨a, 0, none⟩))] #[]),
      va (.func (.method "Mul") #[.iface 288 (.pointer (some ⟨a, 0, none⟩))] #[]),
      va (.iface 288 (.pointer (some ⟨a, 0, none⟩))),
      va (fe p n y5),
      .new [] (fun _ => (Z6).toArray) 166,
      .new [] (fun _ => (Z6).toArray) 166,
      .put 17 [] (fun _ => (feC p n y3).toArray),
      .put 18 [] (fun _ => (feC p n y5).toArray)]
    (fun g7 => [(0, pt q), (4, pt (g1.γ 0)), (5, pt (g1.γ 1)), (6, pt (g1.γ 2)), (7, pt (g2.γ 0)), (8, .iface 288 (.pointer (some ⟨a, 0, none⟩))), (9, pt (g6.γ 12)), (11, pt (g7.γ 17)), (12, pt (g7.γ 18))]) (fun g7 => [((g1.γ 0), (feC p n P.x ++ (feC p n P.y ++ feC p n P.z)), 264), ((g1.γ 1), (feC p n Q.x ++ (feC p n Q.y ++ feC p n Q.z)), 264), ((g1.γ 2), (Z6 ++ (Z6 ++ Z6)), 264), ((g2.γ 0), Z6, 166), ((g6.γ 12), feC p n y1, 166), ((g6.γ 13), feC p n y2, 166), ((g7.γ 17), feC p n y3, 166), ((g7.γ 18), feC p n y5, 166)]) (fun _ => [])
    hF hI trivial (fun g => ⟨pv,
      pv,
      lk 0 0 rfl rfl,
      lk 5 0 rfl rfl,
      cv fun w hI hfa => fe_mul hy3 (hG.fld.below hI.below),
      pv,
      pv,
      lk 0 6 rfl rfl,
      pv,
      pv,
      lk 1 12 rfl rfl,
      lk 5 0 rfl rfl,
      cv fun w hI hfa => fe_mul hy4 (hG.fld.below hI.below),
      pv,
      pv,
      pv,
      cv fun w hI hfa => fe_mul hy5 (hG.fld.below hI.below),
      nw,
      nw,
      po (fe p n y3) (Z6) rfl,
      po (fe p n y5) (Z6) rfl, trivial⟩) ?_
  intro g7 a7 w7 hF hI
  refine wp_seq ?_
  refine sy [166] #[va (.iface 288 (.pointer (some ⟨a, 0, none⟩))),
      va (.iface 288 (.pointer (some ⟨a, 0, none⟩))),
      va (pt (g1.γ 1)),
      va (fe p n Q.x),
      va (fe p n y1),
      va (fe p n y6),
      va (fe p n y3),
      va (.func (.method "Sub") #[.iface 288 (.pointer (some ⟨a, 0, none⟩))] #[]),
      va (.func (.method "Sub") #[.iface 288 (.pointer (some ⟨a, 0, none⟩))] #[]),
      va (.iface 288 (.pointer (some ⟨a, 0, none⟩))),
      va (fe p n y7),
      va (.iface 288 (.pointer (some ⟨a, 0, none⟩))),
      va (.iface 288 (.pointer (some ⟨a, 0, none⟩))),
      va (.pointer (some ⟨(g1.γ 1), 6, none⟩)),
      va (fe p n Q.y),
      va (.iface 288 (.pointer (some ⟨a, 0, none⟩))),
      va (.pointer (some ⟨(g1.γ 0), 12, none⟩)),
      va (fe p n P.z),
      va (fe p n y1),
      va (fe p n y8),
      va (.func (.method "Mul") #[.iface 288 (.pointer (some ⟨a, 0, none⟩))] #[]),
      va (.func (.method "Mul") #[.iface 288 (.pointer (some ⟨a, 0, none⟩))] #[]),
      va (.iface 288 (.pointer (some ⟨a, 0, none⟩))),
      va (fe p n y9),
      va (fe p n y5),
      va (.func (.method "Sub") #[.iface 288 (.pointer (some ⟨a, 0, none⟩))] #[]),
      va (.func (.method "Sub") #[.iface 288 (.pointer (some ⟨a, 0, none⟩))] #[]),
      va (.iface 288 (.pointer (some ⟨a, 0, none⟩))),
      va (fe p n y10),
      .new [] (fun _ => (Z6).toArray) 166,
      .new [] (fun _ => (Z6).toArray) 166,
      .put 29 [] (fun _ => (feC p n y7).toArray),
      .put 30 [] (fun _ => (feC p n y10).toArray)]
    (fun g8 => [(0, pt q), (4, pt (g1.γ 0)), (5, pt (g1.γ 1)), (6, pt (g1.γ 2)), (7, pt (g2.γ 0)), (8, .iface 288 (.pointer (some ⟨a, 0, none⟩))), (11, pt (g7.γ 17)), (12, pt (g7.γ 18)), (13, pt (g8.γ 29)), (14, pt (g8.γ 30))]) (fun g8 => [((g1.γ 0), (feC p n P.x ++ (feC p n P.y ++ feC p n P.z)), 264), ((g1.γ 1), (feC p n Q.x ++ (feC p n Q.y ++ feC p n Q.z)), 264), ((g1.γ 2), (Z6 ++ (Z6 ++ Z6)), 264), ((g2.γ 0), Z6, 166), ((g6.γ 12), feC p n y1, 166), ((g6.γ 13), feC p n y2, 166), ((g7.γ 17), feC p n y3, 166), ((g7.γ 18), feC p n y5, 166), ((g8.γ 29), feC p n y7, 166), ((g8.γ 30), feC p n y10, 166)]) (fun _ => [])
    hF hI trivial (fun g => ⟨pv,
      pv,
      pv,
      lk 1 0 rfl rfl,
      lk 4 0 rfl rfl,
      cv fun w hI hfa => fe_mul hy6 (hG.fld.below hI.below),
      lk 6 0 rfl rfl,
      pv,
      pv,
      pv,
      cv fun w hI hfa => fe_sub hy7 (hG.fld.below hI.below),
      pv,
      pv,
      pv,
      lk 1 6 rfl rfl,
      pv,
      pv,
      lk 0 12 rfl rfl,
      lk 4 0 rfl rfl,
      cv fun w hI hfa => fe_mul hy8 (hG.fld.below hI.below),
      pv,
      pv,
      pv,
      cv fun w hI hfa => fe_mul hy9 (hG.fld.below hI.below),
      lk 7 0 rfl rfl,
      pv,
      pv,
      pv,
      cv fun w hI hfa => fe_sub hy10 (hG.fld.below hI.below),
      nw,
      nw,
      po (fe p n y7) (Z6) rfl,
      po (fe p n y10) (Z6) rfl, trivial⟩) ?_
  intro g8 a8 w8 hF hI
  refine wp_seq ?_
  refine wp_seq ?_
  refine sy [] #[va (fe p n y7),
      va (.agg Z6.toArray),
      va (.bool false)]
    (fun g9 => [(0, pt q), (4, pt (g1.γ 0)), (5, pt (g1.γ 1)), (6, pt (g1.γ 2)), (7, pt (g2.γ 0)), (8, .iface 288 (.pointer (some ⟨a, 0, none⟩))), (11, pt (g7.γ 17)), (12, pt (g7.γ 18)), (13, pt (g8.γ 29)), (14, pt (g8.γ 30)), (96, .bool false)]) (fun _ => [((g1.γ 0), (feC p n P.x ++ (feC p n P.y ++ feC p n P.z)), 264), ((g1.γ 1), (feC p n Q.x ++ (feC p n Q.y ++ feC p n Q.z)), 264), ((g1.γ 2), (Z6 ++ (Z6 ++ Z6)), 264), ((g2.γ 0), Z6, 166), ((g6.γ 12), feC p n y1, 166), ((g6.γ 13), feC p n y2, 166), ((g7.γ 17), feC p n y3, 166), ((g7.γ 18), feC p n y5, 166), ((g8.γ 29), feC p n y7, 166), ((g8.γ 30), feC p n y10, 166)]) (fun _ => [])
    hF hI trivial (fun g => ⟨lk 8 0 rfl rfl,
      lk 3 0 rfl rfl,
      ov fun w hI hfa => pureU (eqZf (hG.fld.below hI.below) e3 rfl (by kernel_rfl) (by kernel_rfl)), trivial⟩) ?_
  intro g9 a9 w9 hF hI
  refine wp_cond_false (hF.eval rfl) ?_
  refine wp_skip ?_
  refine wp_seq ?_
  refine sy [166] #[va (.iface 288 (.pointer (some ⟨a, 0, none⟩))),
      va (fe p n y7),
      va (fe p n y7),
      va (fe p n y11),
      .new [] (fun _ => (Z6).toArray) 166,
      .put 4 [] (fun _ => (feC p n y11).toArray)]
    (fun g10 => [(4, pt (g1.γ 0)), (5, pt (g1.γ 1)), (6, pt (g1.γ 2)), (8, .iface 288 (.pointer (some ⟨a, 0, none⟩))), (11, pt (g7.γ 17)), (12, pt (g7.γ 18)), (13, pt (g8.γ 29)), (14, pt (g8.γ 30)), (15, pt (g10.γ 4))]) (fun g10 => [((g1.γ 0), (feC p n P.x ++ (feC p n P.y ++ feC p n P.z)), 264), ((g1.γ 1), (feC p n Q.x ++ (feC p n Q.y ++ feC p n Q.z)), 264), ((g1.γ 2), (Z6 ++ (Z6 ++ Z6)), 264), ((g2.γ 0), Z6, 166), ((g6.γ 12), feC p n y1, 166), ((g6.γ 13), feC p n y2, 166), ((g7.γ 17), feC p n y3, 166), ((g7.γ 18), feC p n y5, 166), ((g8.γ 29), feC p n y7, 166), ((g8.γ 30), feC p n y10, 166), ((g10.γ 4), feC p n y11, 166)]) (fun _ => [])
    hF hI trivial (fun g => ⟨pv,
      lk 8 0 rfl rfl,
      lk 8 0 rfl rfl,
      cv fun w hI hfa => fe_mul hy11 (hG.fld.below hI.below),
      nw,
      po (fe p n y11) (Z6) rfl, trivial⟩) ?_
  intro g10 a10 w10 hF hI
  refine wp_seq ?_
  refine sy [166] #[va (.iface 288 (.pointer (some ⟨a, 0, none⟩))),
      va (fe p n y7),
      va (fe p n y11),
      va (fe p n y12),
      va (.iface 288 (.pointer (some ⟨a, 0, none⟩))),
      va (fe p n y3),
      va (fe p n y11),
      va (fe p n y13),
      .new [] (fun _ => (Z6).toArray) 166,
      .new [] (fun _ => (Z6).toArray) 166,
      .put 8 [] (fun _ => (feC p n y12).toArray),
      .put 9 [] (fun _ => (feC p n y13).toArray)]
    (fun g11 => [(4, pt (g1.γ 0)), (5, pt (g1.γ 1)), (6, pt (g1.γ 2)), (8, .iface 288 (.pointer (some ⟨a, 0, none⟩))), (12, pt (g7.γ 18)), (13, pt (g8.γ 29)), (14, pt (g8.γ 30)), (16, pt (g11.γ 8)), (17, pt (g11.γ 9))]) (fun g11 => [((g1.γ 0), (feC p n P.x ++ (feC p n P.y ++ feC p n P.z)), 264), ((g1.γ 1), (feC p n Q.x ++ (feC p n Q.y ++ feC p n Q.z)), 264), ((g1.γ 2), (Z6 ++ (Z6 ++ Z6)), 264), ((g2.γ 0), Z6, 166), ((g6.γ 12), feC p n y1, 166), ((g6.γ 13), feC p n y2, 166), ((g7.γ 17), feC p n y3, 166), ((g7.γ 18), feC p n y5, 166), ((g8.γ 29), feC p n y7, 166), ((g8.γ 30), feC p n y10, 166), ((g10.γ 4), feC p n y11, 166), ((g11.γ 8), feC p n y12, 166), ((g11.γ 9), feC p n y13, 166)]) (fun _ => [])
    hF hI trivial (fun g => ⟨pv,
      lk 8 0 rfl rfl,
      lk 10 0 rfl rfl,
      cv fun w hI hfa => fe_mul hy12 (hG.fld.below hI.below),
      pv,
      lk 6 0 rfl rfl,
      lk 10 0 rfl rfl,
      cv fun w hI hfa => fe_mul hy13 (hG.fld.below hI.below),
      nw,
      nw,
      po (fe p n y12) (Z6) rfl,
      po (fe p n y13) (Z6) rfl, trivial⟩) ?_
  intro g11 a11 w11 hF hI
  refine wp_seq ?_
  refine sy [166] #[va (.iface 288 (.pointer (some ⟨a, 0, none⟩))),
      va (.iface 288 (.pointer (some ⟨a, 0, none⟩))),
      va (.iface 288 (.pointer (some ⟨a, 0, none⟩))),
      va (fe p n y10),
      va (fe p n y10),
      va (fe p n y14),
      va (fe p n y12),
      va (.func (.method "Sub") #[.iface 288 (.pointer (some ⟨a, 0, none⟩))] #[]),
      va (.func (.method "Sub") #[.iface 288 (.pointer (some ⟨a, 0, none⟩))] #[]),
      va (.iface 288 (.pointer (some ⟨a, 0, none⟩))),
      va (fe p n y15),
      va (.iface 288 (.pointer (some ⟨a, 0, none⟩))),
      va (fe p n y13),
      va (fe p n y13),
      va (fe p n y16),
      va (.func (.method "Sub") #[.iface 288 (.pointer (some ⟨a, 0, none⟩))] #[]),
      va (.func (.method "Sub") #[.iface 288 (.pointer (some ⟨a, 0, none⟩))] #[]),
      va (.iface 288 (.pointer (some ⟨a, 0, none⟩))),
      va (fe p n y17),
      .new [] (fun _ => (Z6).toArray) 166,
      .put 19 [] (fun _ => (feC p n y17).toArray)]
    (fun g12 => [(4, pt (g1.γ 0)), (5, pt (g1.γ 1)), (6, pt (g1.γ 2)), (8, .iface 288 (.pointer (some ⟨a, 0, none⟩))), (12, pt (g7.γ 18)), (13, pt (g8.γ 29)), (14, pt (g8.γ 30)), (16, pt (g11.γ 8)), (17, pt (g11.γ 9)), (18, pt (g12.γ 19))]) (fun g12 => [((g1.γ 0), (feC p n P.x ++ (feC p n P.y ++ feC p n P.z)), 264), ((g1.γ 1), (feC p n Q.x ++ (feC p n Q.y ++ feC p n Q.z)), 264), ((g1.γ 2), (Z6 ++ (Z6 ++ Z6)), 264), ((g2.γ 0), Z6, 166), ((g6.γ 12), feC p n y1, 166), ((g6.γ 13), feC p n y2, 166), ((g7.γ 17), feC p n y3, 166), ((g7.γ 18), feC p n y5, 166), ((g8.γ 29), feC p n y7, 166), ((g8.γ 30), feC p n y10, 166), ((g10.γ 4), feC p n y11, 166), ((g11.γ 8), feC p n y12, 166), ((g11.γ 9), feC p n y13, 166), ((g12.γ 19), feC p n y17, 166)]) (fun _ => [])
    hF hI trivial (fun g => ⟨pv,
      pv,
      pv,
      lk 9 0 rfl rfl,
      lk 9 0 rfl rfl,
      cv fun w hI hfa => fe_mul hy14 (hG.fld.below hI.below),
      lk 11 0 rfl rfl,
      pv,
      pv,
      pv,
      cv fun w hI hfa => fe_sub hy15 (hG.fld.below hI.below),
      pv,
      lk 12 0 rfl rfl,
      lk 12 0 rfl rfl,
      cv fun w hI hfa => fe_add hy16 (hG.fld.below hI.below),
      pv,
      pv,
      pv,
      cv fun w hI hfa => fe_sub hy17 (hG.fld.below hI.below),
      nw,
      po (fe p n y17) (Z6) rfl, trivial⟩) ?_
  intro g12 a12 w12 hF hI
  refine wp_seq ?_
  refine sy [166] #[va (.iface 288 (.pointer (some ⟨a, 0, none⟩))),
      va (.iface 288 (.pointer (some ⟨a, 0, none⟩))),
      va (fe p n y10),
      va (.iface 288 (.pointer (some ⟨a, 0, none⟩))),
      va (fe p n y13),
      va (fe p n y17),
      va (fe p n y18),
      va (.func (.method "Mul") #[.iface 288 (.pointer (some ⟨a, 0, none⟩))] #[]),
      va (.func (.method "Mul") #[.iface 288 (.pointer (some ⟨a, 0, none⟩))] #[]),
      va (.iface 288 (.pointer (some ⟨a, 0, none⟩))),
      va (fe p n y19),
      va (.iface 288 (.pointer (some ⟨a, 0, none⟩))),
      va (fe p n y5),
      va (fe p n y12),
      va (fe p n y20),
      va (.func (.method "Sub") #[.iface 288 (.pointer (some ⟨a, 0, none⟩))] #[]),
      va (.func (.method "Sub") #[.iface 288 (.pointer (some ⟨a, 0, none⟩))] #[]),
      va (.iface 288 (.pointer (some ⟨a, 0, none⟩))),
      va (fe p n y21),
      .new [] (fun _ => (Z6).toArray) 166,
      .put 19 [] (fun _ => (feC p n y21).toArray)]
    (fun g13 => [(4, pt (g1.γ 0)), (5, pt (g1.γ 1)), (6, pt (g1.γ 2)), (8, .iface 288 (.pointer (some ⟨a, 0, none⟩))), (13, pt (g8.γ 29)), (18, pt (g12.γ 19)), (19, pt (g13.γ 19))]) (fun g13 => [((g1.γ 0), (feC p n P.x ++ (feC p n P.y ++ feC p n P.z)), 264), ((g1.γ 1), (feC p n Q.x ++ (feC p n Q.y ++ feC p n Q.z)), 264), ((g1.γ 2), (Z6 ++ (Z6 ++ Z6)), 264), ((g2.γ 0), Z6, 166), ((g6.γ 12), feC p n y1, 166), ((g6.γ 13), feC p n y2, 166), ((g7.γ 17), feC p n y3, 166), ((g7.γ 18), feC p n y5, 166), ((g8.γ 29), feC p n y7, 166), ((g8.γ 30), feC p n y10, 166), ((g10.γ 4), feC p n y11, 166), ((g11.γ 8), feC p n y12, 166), ((g11.γ 9), feC p n y13, 166), ((g12.γ 19), feC p n y17, 166), ((g13.γ 19), feC p n y21, 166)]) (fun _ => [])
    hF hI trivial (fun g => ⟨pv,
      pv,
      lk 9 0 rfl rfl,
      pv,
      lk 12 0 rfl rfl,
      lk 13 0 rfl rfl,
      cv fun w hI hfa => fe_sub hy18 (hG.fld.below hI.below),
      pv,
      pv,
      pv,
      cv fun w hI hfa => fe_mul hy19 (hG.fld.below hI.below),
      pv,
      lk 7 0 rfl rfl,
      lk 11 0 rfl rfl,
      cv fun w hI hfa => fe_mul hy20 (hG.fld.below hI.below),
      pv,
      pv,
      pv,
      cv fun w hI hfa => fe_sub hy21 (hG.fld.below hI.below),
      nw,
      po (fe p n y21) (Z6) rfl, trivial⟩) ?_
  intro g13 a13 w13 hF hI
  refine wp_seq ?_
  refine ss [264] #[va (fe p n y17),
      va (fe p n y21),
      va (.iface 288 (.pointer (some ⟨a, 0, none⟩))),
      va (fe p n y7),
      va (.iface 288 (.pointer (some ⟨a, 0, none⟩))),
      va (.pointer (some ⟨(g1.γ 0), 12, none⟩)),
      va (fe p n P.z),
      va (.pointer (some ⟨(g1.γ 1), 12, none⟩)),
      va (fe p n Q.z),
      va (fe p n y22),
      va (.func (.method "Mul") #[.iface 288 (.pointer (some ⟨a, 0, none⟩))] #[]),
      va (.func (.method "Mul") #[.iface 288 (.pointer (some ⟨a, 0, none⟩))] #[]),
      va (.iface 288 (.pointer (some ⟨a, 0, none⟩))),
      va (fe p n y23),
      va (.agg ((feC p n y17 ++ (feC p n y21 ++ feC p n y23))).toArray)]
    (fun g14 => [(6, pt (g1.γ 2))]) (fun _ => [((g1.γ 0), (feC p n P.x ++ (feC p n P.y ++ feC p n P.z)), 264), ((g1.γ 1), (feC p n Q.x ++ (feC p n Q.y ++ feC p n Q.z)), 264), ((g1.γ 2), (feC p n y17 ++ (feC p n y21 ++ feC p n y23)), 264), ((g2.γ 0), Z6, 166), ((g6.γ 12), feC p n y1, 166), ((g6.γ 13), feC p n y2, 166), ((g7.γ 17), feC p n y3, 166), ((g7.γ 18), feC p n y5, 166), ((g8.γ 29), feC p n y7, 166), ((g8.γ 30), feC p n y10, 166), ((g10.γ 4), feC p n y11, 166), ((g11.γ 8), feC p n y12, 166), ((g11.γ 9), feC p n y13, 166), ((g12.γ 19), feC p n y17, 166), ((g13.γ 19), feC p n y21, 166)]) (fun _ => []) 2 0
    hF hI trivial (fun g => ⟨lk 13 0 rfl rfl,
      lk 14 0 rfl rfl,
      pv,
      lk 8 0 rfl rfl,
      pv,
      pv,
      lk 0 12 rfl rfl,
      pv,
      lk 1 12 rfl rfl,
      cv fun w hI hfa => fe_mul hy22 (hG.fld.below hI.below),
      pv,
      pv,
      pv,
      cv fun w hI hfa => fe_mul hy23 (hG.fld.below hI.below),
      pv, trivial⟩) rfl rfl rfl ?_
  intro g14 a14 w14 hF hI
  refine wp_ret ?_
  show bodyPost Tryz.prog Tryz.f199 (Ret w (.agg ((feC p n y17 ++ (feC p n y21 ++ feC p n y23))).toArray)) .ret _ _
  exact sym_ret rfl hF.df (rv_cell 2 hF rfl hI rfl Tryz.underlying264 rfl (by kernel_rfl)) ⟨rfl, hI.below⟩

theorem sum_any {q a p n v : Nat} [Pr p] {b : Zm p} {P Q z : GW (Zm p)} (hz : z = gsum P Q) {w : World} (hG : GrAt w q a p n v b) : Calls Tryz.prog 199 #[.pointer (some ⟨q, 0, none⟩), fw p n P, fw p n Q] w (Ret w (fw p n z)) := by
  subst hz
  by_cases h1 : P.z = 0
  · have e : gsum P Q = Q := by unfold gsum; rw [if_pos h1]
    rw [e]
    exact raw_sum1 h1 hG
  · by_cases h2 : Q.z = 0
    · have e : gsum P Q = P := by unfold gsum; rw [if_neg h1, if_pos h2]
      rw [e]
      exact raw_sum2 h1 h2 hG
    · by_cases h3 : sumH P Q = 0
      · by_cases h4 : sumD P Q = 0
        · have e : gsum P Q = gtwice P := by unfold gsum; rw [if_neg h1, if_neg h2, if_pos h3, if_pos h4]
          rw [e]
          exact raw_sum3 rfl rfl rfl rfl rfl rfl rfl rfl rfl rfl rfl h1 h2 h3 h4 hG
        · have e : gsum P Q = ⟨0, 0, 0⟩ := by unfold gsum; rw [if_neg h1, if_neg h2, if_pos h3, if_neg h4]
          rw [e]
          have := raw_sum4 rfl rfl rfl rfl rfl rfl rfl rfl rfl rfl h1 h2 h3 h4 hG
          unfold fw
          simp only [feC_zero]
          exact this
      · have e : gsum P Q = ⟨sumX P Q, sumD P Q * (sumU P Q * (sumH P Q * sumH P Q) - sumX P Q) - sumS P Q * (sumH P Q * (sumH P Q * sumH P Q)), sumH P Q * (P.z * Q.z)⟩ := by unfold gsum; rw [if_neg h1, if_neg h2, if_neg h3]
        rw [e]
        exact raw_sum5 rfl rfl rfl rfl rfl rfl rfl rfl rfl rfl rfl rfl rfl rfl rfl rfl rfl rfl rfl rfl rfl rfl rfl h1 h2 h3 hG
end Go.Proofs.YtjokcbjahidckaaGreat
/-! The group over mont's elements: points in and out. Conditions: a group over a field lies there. -/
namespace Go.Proofs.YtjokcbjahidckaaGreat
open Go.RowKit
set_option maxRecDepth 100000
set_option maxHeartbeats 8000000
theorem raw_wide1 {q a p n v : Nat} [Pr p] {b : Zm p} {P : GP (Zm p)} {w : World} (hG : GrAt w q a p n v b) : Calls Tryz.prog 200 #[.pointer (some ⟨q, 0, none⟩), .agg ((feC p n P.x ++ (feC p n P.y ++ [Value.bool true]))).toArray] w (Ret w (.agg ((Z6 ++ (Z6 ++ Z6))).toArray)) := by
  have hql := hG.lt
  refine calls_of_wp Tryz.func200 (by rfl : Tryz.f200.body = some _) ?_
  have hF : Fr [(0, pt q), (1, .agg ((feC p n P.x ++ (feC p n P.y ++ [Value.bool true]))).toArray)] 18 _ := Fr.start (args := #[pt q, .agg ((feC p n P.x ++ (feC p n P.y ++ [Value.bool true]))).toArray]) (m := 18) (by simp)
  have hI := Inv.start0 w
  refine wp_seq ?_
  refine sy [] #[.new [] (fun _ => ((feC p n P.x ++ (feC p n P.y ++ [Value.bool true]))).toArray) 168,
      .new [] (fun _ => ((Z6 ++ (Z6 ++ Z6))).toArray) 264]
    (fun g1 => [(0, pt q), (3, pt (g1.γ 0)), (4, pt (g1.γ 1))]) (fun g1 => [((g1.γ 0), (feC p n P.x ++ (feC p n P.y ++ [Value.bool true])), 168), ((g1.γ 1), (Z6 ++ (Z6 ++ Z6)), 264)]) (fun _ => [])
    hF hI trivial (fun g => ⟨nw,
      nw, trivial⟩) ?_
  intro g1 a1 w1 hF hI
  refine wp_seq ?_
  refine wp_seq ?_
  refine sy [] #[va (.pointer (some ⟨(g1.γ 0), 12, none⟩)),
      va (.bool true)]
    (fun g2 => [(0, pt q), (3, pt (g1.γ 0)), (4, pt (g1.γ 1)), (6, .bool true)]) (fun _ => [((g1.γ 0), (feC p n P.x ++ (feC p n P.y ++ [Value.bool true])), 168), ((g1.γ 1), (Z6 ++ (Z6 ++ Z6)), 264)]) (fun _ => [])
    hF hI trivial (fun g => ⟨pv,
      lk1 0 12 rfl rfl, trivial⟩) ?_
  intro g2 a2 w2 hF hI
  refine wp_cond_true (hF.eval rfl) ?_
  refine wp_seq ?_
  refine ss [264] #[va (.agg ((Z6 ++ (Z6 ++ Z6))).toArray)]
    (fun g3 => [(0, pt q), (3, pt (g1.γ 0)), (4, pt (g1.γ 1))]) (fun _ => [((g1.γ 0), (feC p n P.x ++ (feC p n P.y ++ [Value.bool true])), 168), ((g1.γ 1), (Z6 ++ (Z6 ++ Z6)), 264)]) (fun _ => []) 1 0
    hF hI trivial (fun g => ⟨pv, trivial⟩) rfl rfl rfl ?_
  intro g3 a3 w3 hF hI
  refine wp_ret ?_
  show bodyPost Tryz.prog Tryz.f200 (Ret w (.agg ((Z6 ++ (Z6 ++ Z6))).toArray)) .ret _ _
  exact sym_ret rfl hF.df (rv_cell 1 hF rfl hI rfl Tryz.underlying264 rfl (by kernel_rfl)) ⟨rfl, hI.below⟩

theorem raw_wide2 {q a p n v : Nat} [Pr p] {b : Zm p} {P : GP (Zm p)} {w : World} (hG : GrAt w q a p n v b) : Calls Tryz.prog 200 #[.pointer (some ⟨q, 0, none⟩), .agg ((feC p n P.x ++ (feC p n P.y ++ [Value.bool false]))).toArray] w (Ret w (.agg ((feC p n P.x ++ (feC p n P.y ++ feC p n 1))).toArray)) := by
  have hql := hG.lt
  refine calls_of_wp Tryz.func200 (by rfl : Tryz.f200.body = some _) ?_
  have hF : Fr [(0, pt q), (1, .agg ((feC p n P.x ++ (feC p n P.y ++ [Value.bool false]))).toArray)] 18 _ := Fr.start (args := #[pt q, .agg ((feC p n P.x ++ (feC p n P.y ++ [Value.bool false]))).toArray]) (m := 18) (by simp)
  have hI := Inv.start0 w
  refine wp_seq ?_
  refine sy [] #[.new [] (fun _ => ((feC p n P.x ++ (feC p n P.y ++ [Value.bool false]))).toArray) 168,
      .new [] (fun _ => ((Z6 ++ (Z6 ++ Z6))).toArray) 264]
    (fun g1 => [(0, pt q), (3, pt (g1.γ 0)), (4, pt (g1.γ 1))]) (fun g1 => [((g1.γ 0), (feC p n P.x ++ (feC p n P.y ++ [Value.bool false])), 168), ((g1.γ 1), (Z6 ++ (Z6 ++ Z6)), 264)]) (fun _ => [])
    hF hI trivial (fun g => ⟨nw,
      nw, trivial⟩) ?_
  intro g1 a1 w1 hF hI
  refine wp_seq ?_
  refine wp_seq ?_
  refine sy [] #[va (.pointer (some ⟨(g1.γ 0), 12, none⟩)),
      va (.bool false)]
    (fun g2 => [(0, pt q), (3, pt (g1.γ 0)), (4, pt (g1.γ 1)), (6, .bool false)]) (fun _ => [((g1.γ 0), (feC p n P.x ++ (feC p n P.y ++ [Value.bool false])), 168), ((g1.γ 1), (Z6 ++ (Z6 ++ Z6)), 264)]) (fun _ => [])
    hF hI trivial (fun g => ⟨pv,
      lk1 0 12 rfl rfl, trivial⟩) ?_
  intro g2 a2 w2 hF hI
  refine wp_cond_false (hF.eval rfl) ?_
  refine wp_skip ?_
  refine wp_seq ?_
  refine ss [264] #[va (pt (g1.γ 0)),
      va (fe p n P.x),
      va (.pointer (some ⟨(g1.γ 0), 6, none⟩)),
      va (fe p n P.y),
      va (pt q),
      va (pt q),
      va (pt q),
      va (.iface 288 (.pointer (some ⟨a, 0, none⟩))),
      va (fe p n 1),
      va (.agg ((feC p n P.x ++ (feC p n P.y ++ feC p n 1))).toArray)]
    (fun g3 => [(4, pt (g1.γ 1))]) (fun _ => [((g1.γ 0), (feC p n P.x ++ (feC p n P.y ++ [Value.bool false])), 168), ((g1.γ 1), (feC p n P.x ++ (feC p n P.y ++ feC p n 1)), 264)]) (fun _ => []) 1 0
    hF hI trivial (fun g => ⟨pv,
      lk 0 0 rfl rfl,
      pv,
      lk 0 6 rfl rfl,
      pv,
      pv,
      pv,
      lO1 q 0 hql hG.ring rfl,
      cv fun w hI hfa => fe_one (hG.fld.below hI.below),
      pv, trivial⟩) rfl rfl rfl ?_
  intro g3 a3 w3 hF hI
  refine wp_ret ?_
  show bodyPost Tryz.prog Tryz.f200 (Ret w (.agg ((feC p n P.x ++ (feC p n P.y ++ feC p n 1))).toArray)) .ret _ _
  exact sym_ret rfl hF.df (rv_cell 1 hF rfl hI rfl Tryz.underlying264 rfl (by kernel_rfl)) ⟨rfl, hI.below⟩

theorem widened_any {q a p n v : Nat} [Pr p] {b : Zm p} {P : GP (Zm p)} {z : GW (Zm p)} (hz : z = gwide P) {w : World} (hG : GrAt w q a p n v b) : Calls Tryz.prog 200 #[.pointer (some ⟨q, 0, none⟩), fp p n P] w (Ret w (fw p n z)) := by
  subst hz
  unfold fp
  cases h : P.inf with
  | true =>
    have e : gwide P = ⟨0, 0, 0⟩ := by unfold gwide; rw [h]; rfl
    rw [e]
    have := raw_wide1 (P := P) hG
    unfold fw
    simp only [feC_zero]
    exact this
  | false =>
    have e : gwide P = ⟨P.x, P.y, 1⟩ := by unfold gwide; rw [h]; rfl
    rw [e]
    exact raw_wide2 hG

theorem raw_narrow1 {q a p n v : Nat} [Pr p] {b : Zm p} {P : GW (Zm p)} (e1 : P.z = 0) {w : World} (hG : GrAt w q a p n v b) : Calls Tryz.prog 198 #[.pointer (some ⟨q, 0, none⟩), .agg ((feC p n P.x ++ (feC p n P.y ++ feC p n P.z))).toArray] w (Ret w (.agg ((Z6 ++ (Z6 ++ [Value.bool true]))).toArray)) := by
  have hql := hG.lt
  refine calls_of_wp Tryz.func198 (by rfl : Tryz.f198.body = some _) ?_
  have hF : Fr [(0, pt q), (1, .agg ((feC p n P.x ++ (feC p n P.y ++ feC p n P.z))).toArray)] 43 _ := Fr.start (args := #[pt q, .agg ((feC p n P.x ++ (feC p n P.y ++ feC p n P.z))).toArray]) (m := 43) (by simp)
  have hI := Inv.start0 w
  refine wp_seq ?_
  refine sy [] #[.new [] (fun _ => ((feC p n P.x ++ (feC p n P.y ++ feC p n P.z))).toArray) 264,
      .new [] (fun _ => ((Z6 ++ (Z6 ++ [Value.bool false]))).toArray) 168]
    (fun g1 => [(0, pt q), (3, pt (g1.γ 0)), (4, pt (g1.γ 1))]) (fun g1 => [((g1.γ 0), (feC p n P.x ++ (feC p n P.y ++ feC p n P.z)), 264), ((g1.γ 1), (Z6 ++ (Z6 ++ [Value.bool false])), 168)]) (fun _ => [])
    hF hI trivial (fun g => ⟨nw,
      nw, trivial⟩) ?_
  intro g1 a1 w1 hF hI
  refine wp_seq ?_
  refine sy [] #[.new [] (fun _ => (Z6).toArray) 166]
    (fun g2 => [(0, pt q), (3, pt (g1.γ 0)), (4, pt (g1.γ 1)), (5, pt (g2.γ 0))]) (fun g2 => [((g1.γ 0), (feC p n P.x ++ (feC p n P.y ++ feC p n P.z)), 264), ((g1.γ 1), (Z6 ++ (Z6 ++ [Value.bool false])), 168), ((g2.γ 0), Z6, 166)]) (fun _ => [])
    hF hI trivial (fun g => ⟨nw, trivial⟩) ?_
  intro g2 a2 w2 hF hI
  refine wp_seq ?_
  refine wp_seq ?_
  refine sy [] #[va (.pointer (some ⟨(g1.γ 0), 12, none⟩)),
      va (fe p n P.z),
      va (.agg Z6.toArray),
      va (.bool true)]
    (fun g3 => [(0, pt q), (3, pt (g1.γ 0)), (4, pt (g1.γ 1)), (12, .bool true)]) (fun _ => [((g1.γ 0), (feC p n P.x ++ (feC p n P.y ++ feC p n P.z)), 264), ((g1.γ 1), (Z6 ++ (Z6 ++ [Value.bool false])), 168), ((g2.γ 0), Z6, 166)]) (fun _ => [])
    hF hI trivial (fun g => ⟨pv,
      lk 0 12 rfl rfl,
      lk 2 0 rfl rfl,
      ov fun w hI hfa => pureU (eqZt (hG.fld.below hI.below) e1 rfl (by kernel_rfl) (by kernel_rfl)), trivial⟩) ?_
  intro g3 a3 w3 hF hI
  refine wp_cond_true (hF.eval rfl) ?_
  refine wp_seq ?_
  refine ss [168] #[va (.agg ((Z6 ++ (Z6 ++ [Value.bool true]))).toArray)]
    (fun g4 => [(0, pt q), (3, pt (g1.γ 0)), (4, pt (g1.γ 1))]) (fun _ => [((g1.γ 0), (feC p n P.x ++ (feC p n P.y ++ feC p n P.z)), 264), ((g1.γ 1), (Z6 ++ (Z6 ++ [Value.bool true])), 168), ((g2.γ 0), Z6, 166)]) (fun _ => []) 1 0
    hF hI trivial (fun g => ⟨pv, trivial⟩) rfl rfl rfl ?_
  intro g4 a4 w4 hF hI
  refine wp_ret ?_
  show bodyPost Tryz.prog Tryz.f198 (Ret w (.agg ((Z6 ++ (Z6 ++ [Value.bool true]))).toArray)) .ret _ _
  exact sym_ret rfl hF.df (rv_cell 1 hF rfl hI rfl Tryz.underlying168 rfl (by kernel_rfl)) ⟨rfl, hI.below⟩

theorem raw_narrow2 {q a p n v : Nat} [Pr p] {b : Zm p} {P : GW (Zm p)} {y1 : Zm p} (hy1 : y1 = Fd.finv P.z) {y2 : Zm p} (hy2 : y2 = y1 * y1) {y3 : Zm p} (hy3 : y3 = P.x * y2) {y4 : Zm p} (hy4 : y4 = y1 * y2) {y5 : Zm p} (hy5 : y5 = P.y * y4) (e1 : P.z ≠ 0) {w : World} (hG : GrAt w q a p n v b) : Calls Tryz.prog 198 #[.pointer (some ⟨q, 0, none⟩), .agg ((feC p n P.x ++ (feC p n P.y ++ feC p n P.z))).toArray] w (Ret w (.agg ((feC p n y3 ++ (feC p n y5 ++ [Value.bool false]))).toArray)) := by
  have hql := hG.lt
  refine calls_of_wp Tryz.func198 (by rfl : Tryz.f198.body = some _) ?_
  have hF : Fr [(0, pt q), (1, .agg ((feC p n P.x ++ (feC p n P.y ++ feC p n P.z))).toArray)] 43 _ := Fr.start (args := #[pt q, .agg ((feC p n P.x ++ (feC p n P.y ++ feC p n P.z))).toArray]) (m := 43) (by simp)
  have hI := Inv.start0 w
  refine wp_seq ?_
  refine sy [] #[.new [] (fun _ => ((feC p n P.x ++ (feC p n P.y ++ feC p n P.z))).toArray) 264,
      .new [] (fun _ => ((Z6 ++ (Z6 ++ [Value.bool false]))).toArray) 168]
    (fun g1 => [(0, pt q), (3, pt (g1.γ 0)), (4, pt (g1.γ 1))]) (fun g1 => [((g1.γ 0), (feC p n P.x ++ (feC p n P.y ++ feC p n P.z)), 264), ((g1.γ 1), (Z6 ++ (Z6 ++ [Value.bool false])), 168)]) (fun _ => [])
    hF hI trivial (fun g => ⟨nw,
      nw, trivial⟩) ?_
  intro g1 a1 w1 hF hI
  refine wp_seq ?_
  refine sy [] #[.new [] (fun _ => (Z6).toArray) 166]
    (fun g2 => [(0, pt q), (3, pt (g1.γ 0)), (4, pt (g1.γ 1)), (5, pt (g2.γ 0))]) (fun g2 => [((g1.γ 0), (feC p n P.x ++ (feC p n P.y ++ feC p n P.z)), 264), ((g1.γ 1), (Z6 ++ (Z6 ++ [Value.bool false])), 168), ((g2.γ 0), Z6, 166)]) (fun _ => [])
    hF hI trivial (fun g => ⟨nw, trivial⟩) ?_
  intro g2 a2 w2 hF hI
  refine wp_seq ?_
  refine wp_seq ?_
  refine sy [] #[va (.pointer (some ⟨(g1.γ 0), 12, none⟩)),
      va (fe p n P.z),
      va (.agg Z6.toArray),
      va (.bool false)]
    (fun g3 => [(0, pt q), (3, pt (g1.γ 0)), (4, pt (g1.γ 1)), (12, .bool false)]) (fun _ => [((g1.γ 0), (feC p n P.x ++ (feC p n P.y ++ feC p n P.z)), 264), ((g1.γ 1), (Z6 ++ (Z6 ++ [Value.bool false])), 168), ((g2.γ 0), Z6, 166)]) (fun _ => [])
    hF hI trivial (fun g => ⟨pv,
      lk 0 12 rfl rfl,
      lk 2 0 rfl rfl,
      ov fun w hI hfa => pureU (eqZf (hG.fld.below hI.below) e1 rfl (by kernel_rfl) (by kernel_rfl)), trivial⟩) ?_
  intro g3 a3 w3 hF hI
  refine wp_cond_false (hF.eval rfl) ?_
  refine wp_skip ?_
  refine wp_seq ?_
  refine sy [] #[va (pt q),
      va (pt q),
      va (pt q),
      va (.iface 288 (.pointer (some ⟨a, 0, none⟩))),
      va (.iface 288 (.pointer (some ⟨a, 0, none⟩)))]
    (fun g4 => [(3, pt (g1.γ 0)), (4, pt (g1.γ 1)), (6, .iface 288 (.pointer (some ⟨a, 0, none⟩)))]) (fun _ => [((g1.γ 0), (feC p n P.x ++ (feC p n P.y ++ feC p n P.z)), 264), ((g1.γ 1), (Z6 ++ (Z6 ++ [Value.bool false])), 168), ((g2.γ 0), Z6, 166)]) (fun _ => [])
    hF hI trivial (fun g => ⟨pv,
      pv,
      pv,
      lO1 q 0 hql hG.ring rfl,
      pv, trivial⟩) ?_
  intro g4 a4 w4 hF hI
  refine wp_seq ?_
  refine sy [166] #[va (.iface 288 (.pointer (some ⟨a, 0, none⟩))),
      va (.pointer (some ⟨(g1.γ 0), 12, none⟩)),
      va (fe p n P.z),
      va (fe p n y1),
      .new [] (fun _ => (Z6).toArray) 166,
      .put 4 [] (fun _ => (feC p n y1).toArray)]
    (fun g5 => [(3, pt (g1.γ 0)), (4, pt (g1.γ 1)), (6, .iface 288 (.pointer (some ⟨a, 0, none⟩))), (7, pt (g5.γ 4))]) (fun g5 => [((g1.γ 0), (feC p n P.x ++ (feC p n P.y ++ feC p n P.z)), 264), ((g1.γ 1), (Z6 ++ (Z6 ++ [Value.bool false])), 168), ((g2.γ 0), Z6, 166), ((g5.γ 4), feC p n y1, 166)]) (fun _ => [])
    hF hI trivial (fun g => ⟨pv,
      pv,
      lk 0 12 rfl rfl,
      cv fun w hI hfa => fe_inv hy1 (hG.fld.below hI.below),
      nw,
      po (fe p n y1) (Z6) rfl, trivial⟩) ?_
  intro g5 a5 w5 hF hI
  refine wp_seq ?_
  refine sy [166] #[va (.iface 288 (.pointer (some ⟨a, 0, none⟩))),
      va (fe p n y1),
      va (fe p n y1),
      va (fe p n y2),
      .new [] (fun _ => (Z6).toArray) 166,
      .put 4 [] (fun _ => (feC p n y2).toArray)]
    (fun g6 => [(3, pt (g1.γ 0)), (4, pt (g1.γ 1)), (6, .iface 288 (.pointer (some ⟨a, 0, none⟩))), (7, pt (g5.γ 4)), (8, pt (g6.γ 4))]) (fun g6 => [((g1.γ 0), (feC p n P.x ++ (feC p n P.y ++ feC p n P.z)), 264), ((g1.γ 1), (Z6 ++ (Z6 ++ [Value.bool false])), 168), ((g2.γ 0), Z6, 166), ((g5.γ 4), feC p n y1, 166), ((g6.γ 4), feC p n y2, 166)]) (fun _ => [])
    hF hI trivial (fun g => ⟨pv,
      lk 3 0 rfl rfl,
      lk 3 0 rfl rfl,
      cv fun w hI hfa => fe_mul hy2 (hG.fld.below hI.below),
      nw,
      po (fe p n y2) (Z6) rfl, trivial⟩) ?_
  intro g6 a6 w6 hF hI
  refine wp_seq ?_
  refine ss [168] #[va (.iface 288 (.pointer (some ⟨a, 0, none⟩))),
      va (pt (g1.γ 0)),
      va (fe p n P.x),
      va (fe p n y2),
      va (fe p n y3),
      va (.iface 288 (.pointer (some ⟨a, 0, none⟩))),
      va (.pointer (some ⟨(g1.γ 0), 6, none⟩)),
      va (fe p n P.y),
      va (.iface 288 (.pointer (some ⟨a, 0, none⟩))),
      va (fe p n y1),
      va (fe p n y2),
      va (fe p n y4),
      va (.func (.method "Mul") #[.iface 288 (.pointer (some ⟨a, 0, none⟩))] #[]),
      va (.func (.method "Mul") #[.iface 288 (.pointer (some ⟨a, 0, none⟩))] #[]),
      va (.iface 288 (.pointer (some ⟨a, 0, none⟩))),
      va (fe p n y5),
      va (.agg ((feC p n y3 ++ (feC p n y5 ++ [Value.bool false]))).toArray)]
    (fun g7 => [(4, pt (g1.γ 1))]) (fun _ => [((g1.γ 0), (feC p n P.x ++ (feC p n P.y ++ feC p n P.z)), 264), ((g1.γ 1), (feC p n y3 ++ (feC p n y5 ++ [Value.bool false])), 168), ((g2.γ 0), Z6, 166), ((g5.γ 4), feC p n y1, 166), ((g6.γ 4), feC p n y2, 166)]) (fun _ => []) 1 0
    hF hI trivial (fun g => ⟨pv,
      pv,
      lk 0 0 rfl rfl,
      lk 4 0 rfl rfl,
      cv fun w hI hfa => fe_mul hy3 (hG.fld.below hI.below),
      pv,
      pv,
      lk 0 6 rfl rfl,
      pv,
      lk 3 0 rfl rfl,
      lk 4 0 rfl rfl,
      cv fun w hI hfa => fe_mul hy4 (hG.fld.below hI.below),
      pv,
      pv,
      pv,
      cv fun w hI hfa => fe_mul hy5 (hG.fld.below hI.below),
      pv, trivial⟩) rfl rfl rfl ?_
  intro g7 a7 w7 hF hI
  refine wp_ret ?_
  show bodyPost Tryz.prog Tryz.f198 (Ret w (.agg ((feC p n y3 ++ (feC p n y5 ++ [Value.bool false]))).toArray)) .ret _ _
  exact sym_ret rfl hF.df (rv_cell 1 hF rfl hI rfl Tryz.underlying168 rfl (by kernel_rfl)) ⟨rfl, hI.below⟩

theorem narrowed_any {q a p n v : Nat} [Pr p] {b : Zm p} {P : GW (Zm p)} {z : GP (Zm p)} (hz : z = gnarrow Fd.finv P) {w : World} (hG : GrAt w q a p n v b) : Calls Tryz.prog 198 #[.pointer (some ⟨q, 0, none⟩), fw p n P] w (Ret w (fp p n z)) := by
  subst hz
  by_cases h1 : P.z = 0
  · have e : gnarrow Fd.finv P = ⟨0, 0, true⟩ := by unfold gnarrow; rw [if_pos h1]
    rw [e]
    have := raw_narrow1 h1 hG
    unfold fp
    simp only [feC_zero]
    exact this
  · have e : gnarrow Fd.finv P = ⟨P.x * (Fd.finv P.z * Fd.finv P.z), P.y * (Fd.finv P.z * (Fd.finv P.z * Fd.finv P.z)), false⟩ := by unfold gnarrow; rw [if_neg h1]
    rw [e]
    exact raw_narrow2 rfl rfl rfl rfl rfl h1 hG

theorem raw_neg {q a p n v : Nat} [Pr p] {b : Zm p} {P : GP (Zm p)} {y1 : Zm p} (hy1 : y1 = 0 - P.y) {w : World} (hG : GrAt w q a p n v b) : Calls Tryz.prog 103 #[.pointer (some ⟨q, 0, none⟩), .agg ((feC p n P.x ++ (feC p n P.y ++ [Value.bool P.inf]))).toArray] w (Ret w (.agg ((feC p n P.x ++ (feC p n y1 ++ [Value.bool P.inf]))).toArray)) := by
  have hql := hG.lt
  refine calls_of_wp Tryz.func103 (by rfl : Tryz.f103.body = some _) ?_
  have hF : Fr [(0, pt q), (1, .agg ((feC p n P.x ++ (feC p n P.y ++ [Value.bool P.inf]))).toArray)] 16 _ := Fr.start (args := #[pt q, .agg ((feC p n P.x ++ (feC p n P.y ++ [Value.bool P.inf]))).toArray]) (m := 16) (by simp)
  have hI := Inv.start0 w
  refine wp_seq ?_
  refine sy [] #[.new [] (fun _ => ((feC p n P.x ++ (feC p n P.y ++ [Value.bool P.inf]))).toArray) 168,
      .new [] (fun _ => ((Z6 ++ (Z6 ++ [Value.bool false]))).toArray) 168]
    (fun g1 => [(0, pt q), (3, pt (g1.γ 0)), (4, pt (g1.γ 1))]) (fun g1 => [((g1.γ 0), (feC p n P.x ++ (feC p n P.y ++ [Value.bool P.inf])), 168), ((g1.γ 1), (Z6 ++ (Z6 ++ [Value.bool false])), 168)]) (fun _ => [])
    hF hI trivial (fun g => ⟨nw,
      nw, trivial⟩) ?_
  intro g1 a1 w1 hF hI
  refine wp_seq ?_
  refine sy [] #[.new [] (fun _ => (Z6).toArray) 166]
    (fun g2 => [(0, pt q), (3, pt (g1.γ 0)), (4, pt (g1.γ 1)), (5, pt (g2.γ 0))]) (fun g2 => [((g1.γ 0), (feC p n P.x ++ (feC p n P.y ++ [Value.bool P.inf])), 168), ((g1.γ 1), (Z6 ++ (Z6 ++ [Value.bool false])), 168), ((g2.γ 0), Z6, 166)]) (fun _ => [])
    hF hI trivial (fun g => ⟨nw, trivial⟩) ?_
  intro g2 a2 w2 hF hI
  refine wp_seq ?_
  refine ss [168] #[va (pt q),
      va (pt q),
      va (pt q),
      va (.iface 288 (.pointer (some ⟨a, 0, none⟩))),
      va (.agg Z6.toArray),
      va (.pointer (some ⟨(g1.γ 0), 6, none⟩)),
      va (fe p n P.y),
      va (fe p n y1),
      va (.pointer (some ⟨(g1.γ 0), 6, none⟩))]
    (fun g3 => [(3, pt (g1.γ 0)), (4, pt (g1.γ 1))]) (fun _ => [((g1.γ 0), (feC p n P.x ++ (feC p n y1 ++ [Value.bool P.inf])), 168), ((g1.γ 1), (Z6 ++ (Z6 ++ [Value.bool false])), 168), ((g2.γ 0), Z6, 166)]) (fun _ => []) 0 6
    hF hI trivial (fun g => ⟨pv,
      pv,
      pv,
      lO1 q 0 hql hG.ring rfl,
      lk 2 0 rfl rfl,
      pv,
      lk 0 6 rfl rfl,
      cv fun w hI hfa => fe_sub0 hy1 (hG.fld.below hI.below),
      pv, trivial⟩) rfl rfl rfl ?_
  intro g3 a3 w3 hF hI
  refine wp_seq ?_
  refine ss [168] #[va (.agg ((feC p n P.x ++ (feC p n y1 ++ [Value.bool P.inf]))).toArray)]
    (fun g4 => [(4, pt (g1.γ 1))]) (fun _ => [((g1.γ 0), (feC p n P.x ++ (feC p n y1 ++ [Value.bool P.inf])), 168), ((g1.γ 1), (feC p n P.x ++ (feC p n y1 ++ [Value.bool P.inf])), 168), ((g2.γ 0), Z6, 166)]) (fun _ => []) 1 0
    hF hI trivial (fun g => ⟨lk 0 0 rfl rfl, trivial⟩) rfl rfl rfl ?_
  intro g4 a4 w4 hF hI
  refine wp_ret ?_
  show bodyPost Tryz.prog Tryz.f103 (Ret w (.agg ((feC p n P.x ++ (feC p n y1 ++ [Value.bool P.inf]))).toArray)) .ret _ _
  exact sym_ret rfl hF.df (rv_cell 1 hF rfl hI rfl Tryz.underlying168 rfl (by kernel_rfl)) ⟨rfl, hI.below⟩

theorem gneg_any {q a p n v : Nat} [Pr p] {b : Zm p} {P z : GP (Zm p)} (hz : z = gneg P) {w : World} (hG : GrAt w q a p n v b) : Calls Tryz.prog 103 #[.pointer (some ⟨q, 0, none⟩), fp p n P] w (Ret w (fp p n z)) := by
  subst hz
  exact raw_neg rfl hG

theorem raw_on1 {q a p n v : Nat} [Pr p] {b : Zm p} {P : GP (Zm p)} {w : World} (hG : GrAt w q a p n v b) : Calls Tryz.prog 214 #[.pointer (some ⟨q, 0, none⟩), .agg ((feC p n P.x ++ (feC p n P.y ++ [Value.bool true]))).toArray] w (Ret w (.bool true)) := by
  have hql := hG.lt
  refine calls_of_wp Tryz.func214 (by rfl : Tryz.f214.body = some _) ?_
  have hF : Fr [(0, pt q), (1, .agg ((feC p n P.x ++ (feC p n P.y ++ [Value.bool true]))).toArray)] 23 _ := Fr.start (args := #[pt q, .agg ((feC p n P.x ++ (feC p n P.y ++ [Value.bool true]))).toArray]) (m := 23) (by simp)
  have hI := Inv.start0 w
  refine wp_seq ?_
  refine sy [] #[.new [] (fun _ => ((feC p n P.x ++ (feC p n P.y ++ [Value.bool true]))).toArray) 168,
      va (.bool false)]
    (fun g1 => [(0, pt q), (3, pt (g1.γ 0)), (4, .bool false)]) (fun g1 => [((g1.γ 0), (feC p n P.x ++ (feC p n P.y ++ [Value.bool true])), 168)]) (fun _ => [])
    hF hI trivial (fun g => ⟨nw,
      pv, trivial⟩) ?_
  intro g1 a1 w1 hF hI
  refine wp_seq ?_
  refine sy [] #[va (.pointer (some ⟨(g1.γ 0), 12, none⟩)),
      va (.bool true),
      va (.bool true),
      .off,
      .off,
      .off,
      .off,
      .off,
      .off,
      .off,
      .off,
      .off,
      .off,
      .off,
      .off,
      .off,
      .off,
      va (.bool true),
      va (.bool true)]
    (fun g2 => [(4, .bool true)]) (fun _ => [((g1.γ 0), (feC p n P.x ++ (feC p n P.y ++ [Value.bool true])), 168)]) (fun _ => [])
    hF hI trivial (fun g => ⟨pv,
      lk1 0 12 rfl rfl,
      pv,
      offV,
      offV,
      offV,
      offV,
      offV,
      offV,
      offV,
      offV,
      offV,
      offV,
      offV,
      offV,
      offV,
      offV,
      pv,
      pv, trivial⟩) ?_
  intro g2 a2 w2 hF hI
  refine wp_ret ?_
  show bodyPost Tryz.prog Tryz.f214 (Ret w (.bool true)) .ret _ _
  exact sym_ret rfl hF.df (rv_tmp hF rfl) ⟨rfl, hI.below⟩

theorem raw_on2 {q a p n v : Nat} [Pr p] {b : Zm p} {P : GP (Zm p)} {y1 : Zm p} (hy1 : y1 = P.y * P.y) {y2 : Zm p} (hy2 : y2 = gright b P.x) (e1 : y1 = y2) {w : World} (hG : GrAt w q a p n v b) : Calls Tryz.prog 214 #[.pointer (some ⟨q, 0, none⟩), .agg ((feC p n P.x ++ (feC p n P.y ++ [Value.bool false]))).toArray] w (Ret w (.bool true)) := by
  have hql := hG.lt
  refine calls_of_wp Tryz.func214 (by rfl : Tryz.f214.body = some _) ?_
  have hF : Fr [(0, pt q), (1, .agg ((feC p n P.x ++ (feC p n P.y ++ [Value.bool false]))).toArray)] 23 _ := Fr.start (args := #[pt q, .agg ((feC p n P.x ++ (feC p n P.y ++ [Value.bool false]))).toArray]) (m := 23) (by simp)
  have hI := Inv.start0 w
  refine wp_seq ?_
  refine sy [] #[.new [] (fun _ => ((feC p n P.x ++ (feC p n P.y ++ [Value.bool false]))).toArray) 168,
      va (.bool false)]
    (fun g1 => [(0, pt q), (3, pt (g1.γ 0)), (4, .bool false)]) (fun g1 => [((g1.γ 0), (feC p n P.x ++ (feC p n P.y ++ [Value.bool false])), 168)]) (fun _ => [])
    hF hI trivial (fun g => ⟨nw,
      pv, trivial⟩) ?_
  intro g1 a1 w1 hF hI
  refine wp_seq ?_
  refine sy [] #[va (.pointer (some ⟨(g1.γ 0), 12, none⟩)),
      va (.bool false),
      va (.bool false),
      va (pt q),
      va (pt q),
      va (pt q),
      va (.iface 288 (.pointer (some ⟨a, 0, none⟩))),
      va (.pointer (some ⟨(g1.γ 0), 6, none⟩)),
      va (fe p n P.y),
      va (.pointer (some ⟨(g1.γ 0), 6, none⟩)),
      va (fe p n P.y),
      va (fe p n y1),
      va (pt q),
      va (pt (g1.γ 0)),
      va (fe p n P.x),
      va (fe p n y2),
      va (.bool true),
      va (.bool true),
      va (.bool true)]
    (fun g2 => [(4, .bool true)]) (fun _ => [((g1.γ 0), (feC p n P.x ++ (feC p n P.y ++ [Value.bool false])), 168)]) (fun _ => [])
    hF hI trivial (fun g => ⟨pv,
      lk1 0 12 rfl rfl,
      pv,
      pv,
      pv,
      pv,
      lO1 q 0 hql hG.ring rfl,
      pv,
      lk 0 6 rfl rfl,
      pv,
      lk 0 6 rfl rfl,
      cv fun w hI hfa => fe_mul hy1 (hG.fld.below hI.below),
      pv,
      pv,
      lk 0 0 rfl rfl,
      cv fun w hI hfa => right_any hy2 (hG.below hI.below),
      ov fun w hI hfa => pureU (eqEt (hG.fld.below hI.below) e1 rfl (by kernel_rfl) (by kernel_rfl)),
      pv,
      pv, trivial⟩) ?_
  intro g2 a2 w2 hF hI
  refine wp_ret ?_
  show bodyPost Tryz.prog Tryz.f214 (Ret w (.bool true)) .ret _ _
  exact sym_ret rfl hF.df (rv_tmp hF rfl) ⟨rfl, hI.below⟩

theorem raw_on3 {q a p n v : Nat} [Pr p] {b : Zm p} {P : GP (Zm p)} {y1 : Zm p} (hy1 : y1 = P.y * P.y) {y2 : Zm p} (hy2 : y2 = gright b P.x) (e1 : y1 ≠ y2) {w : World} (hG : GrAt w q a p n v b) : Calls Tryz.prog 214 #[.pointer (some ⟨q, 0, none⟩), .agg ((feC p n P.x ++ (feC p n P.y ++ [Value.bool false]))).toArray] w (Ret w (.bool false)) := by
  have hql := hG.lt
  refine calls_of_wp Tryz.func214 (by rfl : Tryz.f214.body = some _) ?_
  have hF : Fr [(0, pt q), (1, .agg ((feC p n P.x ++ (feC p n P.y ++ [Value.bool false]))).toArray)] 23 _ := Fr.start (args := #[pt q, .agg ((feC p n P.x ++ (feC p n P.y ++ [Value.bool false]))).toArray]) (m := 23) (by simp)
  have hI := Inv.start0 w
  refine wp_seq ?_
  refine sy [] #[.new [] (fun _ => ((feC p n P.x ++ (feC p n P.y ++ [Value.bool false]))).toArray) 168,
      va (.bool false)]
    (fun g1 => [(0, pt q), (3, pt (g1.γ 0)), (4, .bool false)]) (fun g1 => [((g1.γ 0), (feC p n P.x ++ (feC p n P.y ++ [Value.bool false])), 168)]) (fun _ => [])
    hF hI trivial (fun g => ⟨nw,
      pv, trivial⟩) ?_
  intro g1 a1 w1 hF hI
  refine wp_seq ?_
  refine sy [] #[va (.pointer (some ⟨(g1.γ 0), 12, none⟩)),
      va (.bool false),
      va (.bool false),
      va (pt q),
      va (pt q),
      va (pt q),
      va (.iface 288 (.pointer (some ⟨a, 0, none⟩))),
      va (.pointer (some ⟨(g1.γ 0), 6, none⟩)),
      va (fe p n P.y),
      va (.pointer (some ⟨(g1.γ 0), 6, none⟩)),
      va (fe p n P.y),
      va (fe p n y1),
      va (pt q),
      va (pt (g1.γ 0)),
      va (fe p n P.x),
      va (fe p n y2),
      va (.bool false),
      va (.bool false),
      va (.bool false)]
    (fun g2 => [(4, .bool false)]) (fun _ => [((g1.γ 0), (feC p n P.x ++ (feC p n P.y ++ [Value.bool false])), 168)]) (fun _ => [])
    hF hI trivial (fun g => ⟨pv,
      lk1 0 12 rfl rfl,
      pv,
      pv,
      pv,
      pv,
      lO1 q 0 hql hG.ring rfl,
      pv,
      lk 0 6 rfl rfl,
      pv,
      lk 0 6 rfl rfl,
      cv fun w hI hfa => fe_mul hy1 (hG.fld.below hI.below),
      pv,
      pv,
      lk 0 0 rfl rfl,
      cv fun w hI hfa => right_any hy2 (hG.below hI.below),
      ov fun w hI hfa => pureU (eqEf (hG.fld.below hI.below) e1 rfl (by kernel_rfl) (by kernel_rfl)),
      pv,
      pv, trivial⟩) ?_
  intro g2 a2 w2 hF hI
  refine wp_ret ?_
  show bodyPost Tryz.prog Tryz.f214 (Ret w (.bool false)) .ret _ _
  exact sym_ret rfl hF.df (rv_tmp hF rfl) ⟨rfl, hI.below⟩

theorem on_any {q a p n v : Nat} [Pr p] {b : Zm p} {P : GP (Zm p)} {z : Bool} (hz : z = decide (gon b P)) {w : World} (hG : GrAt w q a p n v b) : Calls Tryz.prog 214 #[.pointer (some ⟨q, 0, none⟩), fp p n P] w (Ret w (.bool z)) := by
  subst hz
  unfold fp
  cases h : P.inf with
  | true =>
    rw [decide_eq_true (show gon b P from .inl h)]
    exact raw_on1 (P := P) hG
  | false =>
    by_cases h1 : P.y * P.y = gright b P.x
    · rw [decide_eq_true (show gon b P from .inr h1)]
      exact raw_on2 rfl rfl h1 hG
    · rw [decide_eq_false (show ¬ gon b P from fun e => e.elim (fun e => by rw [h] at e; cases e) h1)]
      exact raw_on3 rfl rfl h1 hG

theorem raw_add {q a p n v : Nat} [Pr p] {b : Zm p} {P Q : GP (Zm p)} {y1 : GW (Zm p)} (hy1 : y1 = gwide P) {y2 : GW (Zm p)} (hy2 : y2 = gwide Q) {y3 : GW (Zm p)} (hy3 : y3 = gsum y1 y2) {y4 : GP (Zm p)} (hy4 : y4 = gnarrow Fd.finv y3) {w : World} (hG : GrAt w q a p n v b) : Calls Tryz.prog 101 #[.pointer (some ⟨q, 0, none⟩), .agg ((feC p n P.x ++ (feC p n P.y ++ [Value.bool P.inf]))).toArray, .agg ((feC p n Q.x ++ (feC p n Q.y ++ [Value.bool Q.inf]))).toArray] w (Ret w (.agg ((feC p n y4.x ++ (feC p n y4.y ++ [Value.bool y4.inf]))).toArray)) := by
  have hql := hG.lt
  refine calls_of_wp Tryz.func101 (by rfl : Tryz.f101.body = some _) ?_
  have hF : Fr [(0, pt q), (1, .agg ((feC p n P.x ++ (feC p n P.y ++ [Value.bool P.inf]))).toArray), (2, .agg ((feC p n Q.x ++ (feC p n Q.y ++ [Value.bool Q.inf]))).toArray)] 17 _ := Fr.start (args := #[pt q, .agg ((feC p n P.x ++ (feC p n P.y ++ [Value.bool P.inf]))).toArray, .agg ((feC p n Q.x ++ (feC p n Q.y ++ [Value.bool Q.inf]))).toArray]) (m := 17) (by simp)
  have hI := Inv.start0 w
  refine wp_seq ?_
  refine sy [] #[.new [] (fun _ => ((feC p n P.x ++ (feC p n P.y ++ [Value.bool P.inf]))).toArray) 168,
      .new [] (fun _ => ((feC p n Q.x ++ (feC p n Q.y ++ [Value.bool Q.inf]))).toArray) 168,
      .new [] (fun _ => ((Z6 ++ (Z6 ++ [Value.bool false]))).toArray) 168]
    (fun g1 => [(0, pt q), (4, pt (g1.γ 0)), (5, pt (g1.γ 1)), (6, pt (g1.γ 2))]) (fun g1 => [((g1.γ 0), (feC p n P.x ++ (feC p n P.y ++ [Value.bool P.inf])), 168), ((g1.γ 1), (feC p n Q.x ++ (feC p n Q.y ++ [Value.bool Q.inf])), 168), ((g1.γ 2), (Z6 ++ (Z6 ++ [Value.bool false])), 168)]) (fun _ => [])
    hF hI trivial (fun g => ⟨nw,
      nw,
      nw, trivial⟩) ?_
  intro g1 a1 w1 hF hI
  refine wp_seq ?_
  refine ss [168] #[va (pt q),
      va (pt q),
      va (pt q),
      va (.agg ((feC p n P.x ++ (feC p n P.y ++ [Value.bool P.inf]))).toArray),
      va (.agg ((feC p n y1.x ++ (feC p n y1.y ++ feC p n y1.z))).toArray),
      va (pt q),
      va (.agg ((feC p n Q.x ++ (feC p n Q.y ++ [Value.bool Q.inf]))).toArray),
      va (.agg ((feC p n y2.x ++ (feC p n y2.y ++ feC p n y2.z))).toArray),
      va (.agg ((feC p n y3.x ++ (feC p n y3.y ++ feC p n y3.z))).toArray),
      va (.agg ((feC p n y4.x ++ (feC p n y4.y ++ [Value.bool y4.inf]))).toArray)]
    (fun g2 => [(6, pt (g1.γ 2))]) (fun _ => [((g1.γ 0), (feC p n P.x ++ (feC p n P.y ++ [Value.bool P.inf])), 168), ((g1.γ 1), (feC p n Q.x ++ (feC p n Q.y ++ [Value.bool Q.inf])), 168), ((g1.γ 2), (feC p n y4.x ++ (feC p n y4.y ++ [Value.bool y4.inf])), 168)]) (fun _ => []) 2 0
    hF hI trivial (fun g => ⟨pv,
      pv,
      pv,
      lk 0 0 rfl rfl,
      cv fun w hI hfa => widened_any hy1 (hG.below hI.below),
      pv,
      lk 1 0 rfl rfl,
      cv fun w hI hfa => widened_any hy2 (hG.below hI.below),
      cv fun w hI hfa => sum_any hy3 (hG.below hI.below),
      cv fun w hI hfa => narrowed_any hy4 (hG.below hI.below), trivial⟩) rfl rfl rfl ?_
  intro g2 a2 w2 hF hI
  refine wp_ret ?_
  show bodyPost Tryz.prog Tryz.f101 (Ret w (.agg ((feC p n y4.x ++ (feC p n y4.y ++ [Value.bool y4.inf]))).toArray)) .ret _ _
  exact sym_ret rfl hF.df (rv_cell 2 hF rfl hI rfl Tryz.underlying168 rfl (by kernel_rfl)) ⟨rfl, hI.below⟩

theorem gadd_any {q a p n v : Nat} [Pr p] {b : Zm p} {P Q z : GP (Zm p)} (hz : z = gadd Fd.finv P Q) {w : World} (hG : GrAt w q a p n v b) : Calls Tryz.prog 101 #[.pointer (some ⟨q, 0, none⟩), fp p n P, fp p n Q] w (Ret w (fp p n z)) := by
  subst hz
  exact raw_add rfl rfl rfl rfl hG

theorem bit_t {k j : Nat} (h : k / 2 ^ j % 2 = 1) : (((k / 2 ^ j % 2 : Nat) : Int) == 1) = true := by rw [h]; rfl
theorem bit_f {k j : Nat} (h : ¬ k / 2 ^ j % 2 = 1) : (((k / 2 ^ j % 2 : Nat) : Int) == 1) = false := by
  rw [show k / 2 ^ j % 2 = 0 from by omega]; rfl
theorem times_odd {p : Nat} [Pr p] {W : GW (Zm p)} {k j : Nat} (h : k / 2 ^ j % 2 = 1) : gtimes W (k / 2 ^ j) = gsum (gtwice (gtimes W (k / 2 ^ (j + 1)))) W := by
  have h0 : k / 2 ^ j ≠ 0 := by intro e; rw [e] at h; exact absurd h (by decide)
  rw [gtimes.eq_def W (k / 2 ^ j), dif_neg h0]
  dsimp only
  rw [if_pos h, Nat.pow_succ, ← Nat.div_div_eq_div_mul]
theorem times_even {p : Nat} [Pr p] {W : GW (Zm p)} {k j : Nat} (h : ¬ k / 2 ^ j % 2 = 1) : gtimes W (k / 2 ^ j) = gtwice (gtimes W (k / 2 ^ (j + 1))) := by
  rw [Nat.pow_succ, ← Nat.div_div_eq_div_mul]
  generalize k / 2 ^ j = m at *
  by_cases h0 : m = 0
  · subst h0
    rw [show 0 / 2 = 0 from rfl, gtimes, dif_pos rfl]
    unfold gtwice twX twE twD twC
    simp only [Rg.mul_zero, Rg.add_zero, Rg.sub_self]
  · rw [gtimes.eq_def W m, dif_neg h0]
    dsimp only
    rw [if_neg h]
theorem raw_times {q a p n v k : Nat} [Pr p] {b : Zm p} {P : GP (Zm p)} {A : Option Addr} {ks : List Nat} {cap : Nat} {y1 : GW (Zm p)} (hy1 : y1 = gwide P) {w : World} (hG : GrAt w q a p n v b) (hbl : bl k ≤ 9223372036854775807)
    (hBI : ∀ w1, Below w.heap.size w w1 → Calls Tryz.prog 285 #[.slice A ks.length cap] w1 fun e w' => e = .returned (.int .i64 (bl k : Nat)) ∧ w1 = w')
    (hBT : ∀ i, i < 9223372036854775807 → ∀ w1, Below w.heap.size w w1 → Calls Tryz.prog 286 #[.slice A ks.length cap, .int .i64 (i : Nat)] w1 fun e w' => e = .returned (.int .u64 ((k / 2 ^ i % 2 : Nat) : Int)) ∧ w1 = w') :
    Calls Tryz.prog 201 #[.pointer (some ⟨q, 0, none⟩), .agg ((feC p n P.x ++ (feC p n P.y ++ [Value.bool P.inf]))).toArray, .slice A ks.length cap] w (Ret w (.agg ((feC p n ((gtimes y1 (k / 2 ^ 0)).x) ++ (feC p n ((gtimes y1 (k / 2 ^ 0)).y) ++ feC p n ((gtimes y1 (k / 2 ^ 0)).z)))).toArray)) := by
  have hql := hG.lt
  refine calls_of_wp Tryz.func201 (by rfl : Tryz.f201.body = some _) ?_
  have hF : Fr [(0, pt q), (1, .agg ((feC p n P.x ++ (feC p n P.y ++ [Value.bool P.inf]))).toArray), (2, .slice A ks.length cap)] 32 _ := Fr.start (args := #[pt q, .agg ((feC p n P.x ++ (feC p n P.y ++ [Value.bool P.inf]))).toArray, .slice A ks.length cap]) (m := 32) (by simp)
  have hI := Inv.start0 w
  refine wp_seq ?_
  refine sy [] #[.new [] (fun _ => ((feC p n P.x ++ (feC p n P.y ++ [Value.bool P.inf]))).toArray) 168,
      .new [] (fun _ => ((Z6 ++ (Z6 ++ Z6))).toArray) 264]
    (fun g1 => [(0, pt q), (2, .slice A ks.length cap), (4, pt (g1.γ 0)), (6, pt (g1.γ 1))]) (fun g1 => [((g1.γ 0), (feC p n P.x ++ (feC p n P.y ++ [Value.bool P.inf])), 168), ((g1.γ 1), (Z6 ++ (Z6 ++ Z6)), 264)]) (fun _ => [])
    hF hI trivial (fun g => ⟨nw,
      nw, trivial⟩) ?_
  intro g1 a1 w1 hF hI
  refine wp_seq ?_
  refine sy [] #[.new [] (fun _ => ((Z6 ++ (Z6 ++ Z6))).toArray) 264]
    (fun g2 => [(0, pt q), (2, .slice A ks.length cap), (4, pt (g1.γ 0)), (6, pt (g1.γ 1)), (7, pt (g2.γ 0))]) (fun g2 => [((g1.γ 0), (feC p n P.x ++ (feC p n P.y ++ [Value.bool P.inf])), 168), ((g1.γ 1), (Z6 ++ (Z6 ++ Z6)), 264), ((g2.γ 0), (Z6 ++ (Z6 ++ Z6)), 264)]) (fun _ => [])
    hF hI trivial (fun g => ⟨nw, trivial⟩) ?_
  intro g2 a2 w2 hF hI
  refine wp_seq ?_
  refine sy [264] #[va (pt q),
      va (.agg ((feC p n P.x ++ (feC p n P.y ++ [Value.bool P.inf]))).toArray),
      va (.agg ((feC p n y1.x ++ (feC p n y1.y ++ feC p n y1.z))).toArray),
      .new [] (fun _ => ((Z6 ++ (Z6 ++ Z6))).toArray) 264,
      .put 3 [] (fun _ => ((feC p n y1.x ++ (feC p n y1.y ++ feC p n y1.z))).toArray)]
    (fun g3 => [(0, pt q), (2, .slice A ks.length cap), (6, pt (g1.γ 1)), (7, pt (g2.γ 0)), (8, pt (g3.γ 3))]) (fun g3 => [((g1.γ 0), (feC p n P.x ++ (feC p n P.y ++ [Value.bool P.inf])), 168), ((g1.γ 1), (Z6 ++ (Z6 ++ Z6)), 264), ((g2.γ 0), (Z6 ++ (Z6 ++ Z6)), 264), ((g3.γ 3), (feC p n y1.x ++ (feC p n y1.y ++ feC p n y1.z)), 264)]) (fun _ => [])
    hF hI trivial (fun g => ⟨pv,
      lk 0 0 rfl rfl,
      cv fun w hI hfa => widened_any hy1 (hG.below hI.below),
      nw,
      po (.agg ((feC p n y1.x ++ (feC p n y1.y ++ feC p n y1.z))).toArray) ((Z6 ++ (Z6 ++ Z6))) rfl, trivial⟩) ?_
  intro g3 a3 w3 hF hI
  refine wp_seq ?_
  refine wp_seq ?_
  refine sy [] #[va (.slice A ks.length cap),
      va (.int .i64 (bl k : Nat)),
      va (.int .i64 (((bl k : Int)) - 1)),
      va (.int .i64 (((bl k : Int)) - 1))]
    (fun g4 => [(0, pt q), (2, .slice A ks.length cap), (6, pt (g1.γ 1)), (7, pt (g2.γ 0)), (8, pt (g3.γ 3)), (9, .int .i64 (((bl k : Int)) - 1))]) (fun _ => [((g1.γ 0), (feC p n P.x ++ (feC p n P.y ++ [Value.bool P.inf])), 168), ((g1.γ 1), (Z6 ++ (Z6 ++ Z6)), 264), ((g2.γ 0), (Z6 ++ (Z6 ++ Z6)), 264), ((g3.γ 3), (feC p n y1.x ++ (feC p n y1.y ++ feC p n y1.z)), 264)]) (fun _ => [])
    hF hI trivial (fun g => ⟨pv,
      cv fun w hI hfa => calls_same (hBI _ hI.below),
      ov fun w hI hfa => pureU (intR _ (by kernel_rfl) (IntWalk.i64_in (((bl k : Int)) - 1) (by omega))),
      pv, trivial⟩) ?_
  intro g4 a4 w4 hF hI
  refine wp_block ?_
  have e0 : gtimes y1 (k / 2 ^ bl k) = ⟨0, 0, 0⟩ := by rw [Nat.div_eq_of_lt (lt_pow_bl k), gtimes, dif_pos rfl]
  refine wp_loop_down (fun m a' w' => m ≤ bl k ∧ Fr [(0, pt q), (2, .slice A ks.length cap), (6, pt (g1.γ 1)), (7, pt (g2.γ 0)), (8, pt (g3.γ 3)), (9, .int .i64 ((m : Int) - 1))] 32 a' ∧ Inv w.heap.size w [((g1.γ 0), (feC p n P.x ++ (feC p n P.y ++ [Value.bool P.inf])), 168), ((g1.γ 1), (Z6 ++ (Z6 ++ Z6)), 264), ((g2.γ 0), (feC p n ((gtimes y1 (k / 2 ^ m)).x) ++ (feC p n ((gtimes y1 (k / 2 ^ m)).y) ++ feC p n ((gtimes y1 (k / 2 ^ m)).z))), 264), ((g3.γ 3), (feC p n y1.x ++ (feC p n y1.y ++ feC p n y1.z)), 264)] [] w') (bl k) ⟨Nat.le_refl _, hF, ?_⟩ (fun a8 w8 h => ?_) (fun j a8 w8 h => ?_)
  · rw [e0]
    simp only [feC_zero]
    exact hI
  · obtain ⟨-, hF, hI⟩ := h
    rw [show (((0 : Nat) : Int) - 1) = -1 from rfl] at hF
    refine wp_seq ?_
    refine wp_seq ?_
    refine sy [] #[va (.int .i64 (-1)),
      va (.bool false)]
      (fun g5 => [(0, pt q), (2, .slice A ks.length cap), (6, pt (g1.γ 1)), (7, pt (g2.γ 0)), (8, pt (g3.γ 3)), (9, .int .i64 (-1)), (17, .bool false)]) (fun _ => [((g1.γ 0), (feC p n P.x ++ (feC p n P.y ++ [Value.bool P.inf])), 168), ((g1.γ 1), (Z6 ++ (Z6 ++ Z6)), 264), ((g2.γ 0), (feC p n ((gtimes y1 (k / 2 ^ 0)).x) ++ (feC p n ((gtimes y1 (k / 2 ^ 0)).y) ++ feC p n ((gtimes y1 (k / 2 ^ 0)).z))), 264), ((g3.γ 3), (feC p n y1.x ++ (feC p n y1.y ++ feC p n y1.z)), 264)]) (fun _ => [])
      hF hI trivial (fun g => ⟨pv,
      ov fun w hI hfa => pureU (boolR (decide ((0 : Int) ≤ -1)) (by kernel_rfl) (decide_eq_false (by omega))), trivial⟩) ?_
    intro g5 a5 w5 hF hI
    refine wp_cond_false (hF.eval rfl) ?_
    refine wp_exit ?_
    refine wp_seq ?_
    refine ss [264] #[va (.agg ((feC p n ((gtimes y1 (k / 2 ^ 0)).x) ++ (feC p n ((gtimes y1 (k / 2 ^ 0)).y) ++ feC p n ((gtimes y1 (k / 2 ^ 0)).z)))).toArray)]
      (fun g6 => [(6, pt (g1.γ 1))]) (fun _ => [((g1.γ 0), (feC p n P.x ++ (feC p n P.y ++ [Value.bool P.inf])), 168), ((g1.γ 1), (feC p n ((gtimes y1 (k / 2 ^ 0)).x) ++ (feC p n ((gtimes y1 (k / 2 ^ 0)).y) ++ feC p n ((gtimes y1 (k / 2 ^ 0)).z))), 264), ((g2.γ 0), (feC p n ((gtimes y1 (k / 2 ^ 0)).x) ++ (feC p n ((gtimes y1 (k / 2 ^ 0)).y) ++ feC p n ((gtimes y1 (k / 2 ^ 0)).z))), 264), ((g3.γ 3), (feC p n y1.x ++ (feC p n y1.y ++ feC p n y1.z)), 264)]) (fun _ => []) 1 0
      hF hI trivial (fun g => ⟨lk 2 0 rfl rfl, trivial⟩) rfl rfl rfl ?_
    intro g6 a6 w6 hF hI
    refine wp_ret ?_
    show bodyPost Tryz.prog Tryz.f201 (Ret w (.agg ((feC p n ((gtimes y1 (k / 2 ^ 0)).x) ++ (feC p n ((gtimes y1 (k / 2 ^ 0)).y) ++ feC p n ((gtimes y1 (k / 2 ^ 0)).z)))).toArray)) .ret _ _
    exact sym_ret rfl hF.df (rv_cell 1 hF rfl hI rfl Tryz.underlying264 rfl (by kernel_rfl)) ⟨rfl, hI.below⟩
  · obtain ⟨hj, hF, hI⟩ := h
    rw [show (((j + 1 : Nat) : Int) - 1) = (j : Int) from by omega] at hF
    have hj9 : j < 9223372036854775807 := by omega
    by_cases hb : k / 2 ^ j % 2 = 1
    · obtain ⟨y2, hy2⟩ : ∃ y, y = gtwice (⟨(gtimes y1 (k / 2 ^ (j + 1))).x, (gtimes y1 (k / 2 ^ (j + 1))).y, (gtimes y1 (k / 2 ^ (j + 1))).z⟩ : GW (Zm p)) := ⟨_, rfl⟩
      obtain ⟨y3, hy3⟩ : ∃ y, y = gsum y2 y1 := ⟨_, rfl⟩
      refine wp_seq ?_
      refine wp_seq ?_
      refine sy [] #[va (.int .i64 ((j : Int))),
      va (.bool true)]
        (fun g5 => [(0, pt q), (2, .slice A ks.length cap), (6, pt (g1.γ 1)), (7, pt (g2.γ 0)), (8, pt (g3.γ 3)), (9, .int .i64 ((j : Int))), (17, .bool true)]) (fun _ => [((g1.γ 0), (feC p n P.x ++ (feC p n P.y ++ [Value.bool P.inf])), 168), ((g1.γ 1), (Z6 ++ (Z6 ++ Z6)), 264), ((g2.γ 0), (feC p n ((gtimes y1 (k / 2 ^ (j + 1))).x) ++ (feC p n ((gtimes y1 (k / 2 ^ (j + 1))).y) ++ feC p n ((gtimes y1 (k / 2 ^ (j + 1))).z))), 264), ((g3.γ 3), (feC p n y1.x ++ (feC p n y1.y ++ feC p n y1.z)), 264)]) (fun _ => [])
        hF hI trivial (fun g => ⟨pv,
      ov fun w hI hfa => pureU (boolR (decide ((0 : Int) ≤ (j : Int))) (by kernel_rfl) (decide_eq_true (by omega))), trivial⟩) ?_
      intro g5 a5 w5 hF hI
      refine wp_cond_true (hF.eval rfl) ?_
      refine wp_skip ?_
      refine wp_seq ?_
      refine wp_block ?_
      refine wp_seq ?_
      refine ss [264] #[va (pt q),
      va (.agg ((feC p n ((gtimes y1 (k / 2 ^ (j + 1))).x) ++ (feC p n ((gtimes y1 (k / 2 ^ (j + 1))).y) ++ feC p n ((gtimes y1 (k / 2 ^ (j + 1))).z)))).toArray),
      va (.agg ((feC p n y2.x ++ (feC p n y2.y ++ feC p n y2.z))).toArray)]
        (fun g6 => [(0, pt q), (2, .slice A ks.length cap), (6, pt (g1.γ 1)), (7, pt (g2.γ 0)), (8, pt (g3.γ 3)), (9, .int .i64 ((j : Int)))]) (fun _ => [((g1.γ 0), (feC p n P.x ++ (feC p n P.y ++ [Value.bool P.inf])), 168), ((g1.γ 1), (Z6 ++ (Z6 ++ Z6)), 264), ((g2.γ 0), (feC p n y2.x ++ (feC p n y2.y ++ feC p n y2.z)), 264), ((g3.γ 3), (feC p n y1.x ++ (feC p n y1.y ++ feC p n y1.z)), 264)]) (fun _ => []) 2 0
        hF hI trivial (fun g => ⟨pv,
      lk 2 0 rfl rfl,
      cv fun w hI hfa => twice_any hy2 (hG.below hI.below), trivial⟩) rfl rfl rfl ?_
      intro g6 a6 w6 hF hI
      refine wp_seq ?_
      refine sy [] #[va (.slice A ks.length cap),
      va (.int .i64 ((j : Int))),
      va (.int .u64 (k / 2 ^ j % 2 : Nat)),
      va (.bool true)]
        (fun g7 => [(0, pt q), (2, .slice A ks.length cap), (6, pt (g1.γ 1)), (7, pt (g2.γ 0)), (8, pt (g3.γ 3)), (9, .int .i64 ((j : Int))), (26, .bool true)]) (fun _ => [((g1.γ 0), (feC p n P.x ++ (feC p n P.y ++ [Value.bool P.inf])), 168), ((g1.γ 1), (Z6 ++ (Z6 ++ Z6)), 264), ((g2.γ 0), (feC p n y2.x ++ (feC p n y2.y ++ feC p n y2.z)), 264), ((g3.γ 3), (feC p n y1.x ++ (feC p n y1.y ++ feC p n y1.z)), 264)]) (fun _ => [])
        hF hI trivial (fun g => ⟨pv,
      pv,
      cv fun w hI hfa => calls_same (hBT j hj9 _ hI.below),
      ov fun w hI hfa => pureU (boolR (((k / 2 ^ j % 2 : Nat) : Int) == 1) (by kernel_rfl) (bit_t hb)), trivial⟩) ?_
      intro g7 a7 w7 hF hI
      refine wp_cond_true (hF.eval rfl) ?_
      refine ss [264] #[va (pt q),
      va (.agg ((feC p n y2.x ++ (feC p n y2.y ++ feC p n y2.z))).toArray),
      va (.agg ((feC p n y1.x ++ (feC p n y1.y ++ feC p n y1.z))).toArray),
      va (.agg ((feC p n y3.x ++ (feC p n y3.y ++ feC p n y3.z))).toArray)]
        (fun g8 => [(0, pt q), (2, .slice A ks.length cap), (6, pt (g1.γ 1)), (7, pt (g2.γ 0)), (8, pt (g3.γ 3)), (9, .int .i64 ((j : Int)))]) (fun _ => [((g1.γ 0), (feC p n P.x ++ (feC p n P.y ++ [Value.bool P.inf])), 168), ((g1.γ 1), (Z6 ++ (Z6 ++ Z6)), 264), ((g2.γ 0), (feC p n y3.x ++ (feC p n y3.y ++ feC p n y3.z)), 264), ((g3.γ 3), (feC p n y1.x ++ (feC p n y1.y ++ feC p n y1.z)), 264)]) (fun _ => []) 2 0
        hF hI trivial (fun g => ⟨pv,
      lk 2 0 rfl rfl,
      lk 3 0 rfl rfl,
      cv fun w hI hfa => sum_any hy3 (hG.below hI.below), trivial⟩) rfl rfl rfl ?_
      intro g8 a8 w8 hF hI
      refine sy [] #[va (.int .i64 ((j : Int))),
      va (.int .i64 (((j : Int)) - 1)),
      va (.int .i64 (((j : Int)) - 1))]
        (fun g9 => [(0, pt q), (2, .slice A ks.length cap), (6, pt (g1.γ 1)), (7, pt (g2.γ 0)), (8, pt (g3.γ 3)), (9, .int .i64 (((j : Int)) - 1))]) (fun _ => [((g1.γ 0), (feC p n P.x ++ (feC p n P.y ++ [Value.bool P.inf])), 168), ((g1.γ 1), (Z6 ++ (Z6 ++ Z6)), 264), ((g2.γ 0), (feC p n y3.x ++ (feC p n y3.y ++ feC p n y3.z)), 264), ((g3.γ 3), (feC p n y1.x ++ (feC p n y1.y ++ feC p n y1.z)), 264)]) (fun _ => [])
        hF hI trivial (fun g => ⟨pv,
      ov fun w hI hfa => pureU (intR _ (by kernel_rfl) (IntWalk.i64_in (((j : Int)) - 1) (by omega))),
      pv, trivial⟩) ?_
      intro g9 a9 w9 hF hI
      refine ⟨by omega, hF, ?_⟩
      subst hy3
      subst hy2
      rw [times_odd hb]
      exact hI
    · obtain ⟨y2, hy2⟩ : ∃ y, y = gtwice (⟨(gtimes y1 (k / 2 ^ (j + 1))).x, (gtimes y1 (k / 2 ^ (j + 1))).y, (gtimes y1 (k / 2 ^ (j + 1))).z⟩ : GW (Zm p)) := ⟨_, rfl⟩
      refine wp_seq ?_
      refine wp_seq ?_
      refine sy [] #[va (.int .i64 ((j : Int))),
      va (.bool true)]
        (fun g5 => [(0, pt q), (2, .slice A ks.length cap), (6, pt (g1.γ 1)), (7, pt (g2.γ 0)), (8, pt (g3.γ 3)), (9, .int .i64 ((j : Int))), (17, .bool true)]) (fun _ => [((g1.γ 0), (feC p n P.x ++ (feC p n P.y ++ [Value.bool P.inf])), 168), ((g1.γ 1), (Z6 ++ (Z6 ++ Z6)), 264), ((g2.γ 0), (feC p n ((gtimes y1 (k / 2 ^ (j + 1))).x) ++ (feC p n ((gtimes y1 (k / 2 ^ (j + 1))).y) ++ feC p n ((gtimes y1 (k / 2 ^ (j + 1))).z))), 264), ((g3.γ 3), (feC p n y1.x ++ (feC p n y1.y ++ feC p n y1.z)), 264)]) (fun _ => [])
        hF hI trivial (fun g => ⟨pv,
      ov fun w hI hfa => pureU (boolR (decide ((0 : Int) ≤ (j : Int))) (by kernel_rfl) (decide_eq_true (by omega))), trivial⟩) ?_
      intro g5 a5 w5 hF hI
      refine wp_cond_true (hF.eval rfl) ?_
      refine wp_skip ?_
      refine wp_seq ?_
      refine wp_block ?_
      refine wp_seq ?_
      refine ss [264] #[va (pt q),
      va (.agg ((feC p n ((gtimes y1 (k / 2 ^ (j + 1))).x) ++ (feC p n ((gtimes y1 (k / 2 ^ (j + 1))).y) ++ feC p n ((gtimes y1 (k / 2 ^ (j + 1))).z)))).toArray),
      va (.agg ((feC p n y2.x ++ (feC p n y2.y ++ feC p n y2.z))).toArray)]
        (fun g6 => [(0, pt q), (2, .slice A ks.length cap), (6, pt (g1.γ 1)), (7, pt (g2.γ 0)), (8, pt (g3.γ 3)), (9, .int .i64 ((j : Int)))]) (fun _ => [((g1.γ 0), (feC p n P.x ++ (feC p n P.y ++ [Value.bool P.inf])), 168), ((g1.γ 1), (Z6 ++ (Z6 ++ Z6)), 264), ((g2.γ 0), (feC p n y2.x ++ (feC p n y2.y ++ feC p n y2.z)), 264), ((g3.γ 3), (feC p n y1.x ++ (feC p n y1.y ++ feC p n y1.z)), 264)]) (fun _ => []) 2 0
        hF hI trivial (fun g => ⟨pv,
      lk 2 0 rfl rfl,
      cv fun w hI hfa => twice_any hy2 (hG.below hI.below), trivial⟩) rfl rfl rfl ?_
      intro g6 a6 w6 hF hI
      refine wp_seq ?_
      refine sy [] #[va (.slice A ks.length cap),
      va (.int .i64 ((j : Int))),
      va (.int .u64 (k / 2 ^ j % 2 : Nat)),
      va (.bool false)]
        (fun g7 => [(0, pt q), (2, .slice A ks.length cap), (6, pt (g1.γ 1)), (7, pt (g2.γ 0)), (8, pt (g3.γ 3)), (9, .int .i64 ((j : Int))), (26, .bool false)]) (fun _ => [((g1.γ 0), (feC p n P.x ++ (feC p n P.y ++ [Value.bool P.inf])), 168), ((g1.γ 1), (Z6 ++ (Z6 ++ Z6)), 264), ((g2.γ 0), (feC p n y2.x ++ (feC p n y2.y ++ feC p n y2.z)), 264), ((g3.γ 3), (feC p n y1.x ++ (feC p n y1.y ++ feC p n y1.z)), 264)]) (fun _ => [])
        hF hI trivial (fun g => ⟨pv,
      pv,
      cv fun w hI hfa => calls_same (hBT j hj9 _ hI.below),
      ov fun w hI hfa => pureU (boolR (((k / 2 ^ j % 2 : Nat) : Int) == 1) (by kernel_rfl) (bit_f hb)), trivial⟩) ?_
      intro g7 a7 w7 hF hI
      refine wp_cond_false (hF.eval rfl) ?_
      refine wp_skip ?_
      refine sy [] #[va (.int .i64 ((j : Int))),
      va (.int .i64 (((j : Int)) - 1)),
      va (.int .i64 (((j : Int)) - 1))]
        (fun g8 => [(0, pt q), (2, .slice A ks.length cap), (6, pt (g1.γ 1)), (7, pt (g2.γ 0)), (8, pt (g3.γ 3)), (9, .int .i64 (((j : Int)) - 1))]) (fun _ => [((g1.γ 0), (feC p n P.x ++ (feC p n P.y ++ [Value.bool P.inf])), 168), ((g1.γ 1), (Z6 ++ (Z6 ++ Z6)), 264), ((g2.γ 0), (feC p n y2.x ++ (feC p n y2.y ++ feC p n y2.z)), 264), ((g3.γ 3), (feC p n y1.x ++ (feC p n y1.y ++ feC p n y1.z)), 264)]) (fun _ => [])
        hF hI trivial (fun g => ⟨pv,
      ov fun w hI hfa => pureU (intR _ (by kernel_rfl) (IntWalk.i64_in (((j : Int)) - 1) (by omega))),
      pv, trivial⟩) ?_
      intro g8 a8 w8 hF hI
      refine ⟨by omega, hF, ?_⟩
      subst hy2
      rw [times_even hb]
      exact hI
theorem gtimes_any {q a p n v : Nat} [Pr p] {b : Zm p} {P : GP (Zm p)} {A : Option Addr} {ks : List Nat} {cap : Nat} {z : GW (Zm p)} (hz : z = gtimes (gwide P) (ofD B64 ks)) {w : World} (hG : GrAt w q a p n v b) (hc : ks.length ≤ cap) (hr : Rd w .u64 A ks) (hd : Digs B64 ks) :
    Calls Tryz.prog 201 #[.pointer (some ⟨q, 0, none⟩), fp p n P, .slice A ks.length cap] w (Ret w (fw p n z)) := by
  subst hz
  have hl := hr.1
  have hb : bl (ofD B64 ks) ≤ 64 * ks.length := bl_le (by rw [Nat.pow_mul]; exact ofD_lt hd)
  have := raw_times (k := ofD B64 ks) (P := P) (A := A) (ks := ks) (cap := cap) rfl hG (by omega) (fun w1 h => bits_any A cap ks w1 hc (hr.below h) hd) (fun i hi w1 h => bit_any A cap ks i hi w1 (hr.below h) hd)
  rw [Nat.pow_zero, Nat.div_one] at this
  exact this

theorem raw_mul {q a p n v : Nat} [Pr p] {b : Zm p} {P : GP (Zm p)} {A : Option Addr} {ks : List Nat} {cap : Nat} {y1 : GW (Zm p)} (hy1 : y1 = gtimes (gwide P) (ofD B64 ks)) {y2 : GP (Zm p)} (hy2 : y2 = gnarrow Fd.finv y1) {w : World} (hc : ks.length ≤ cap) (hr : Rd w .u64 A ks) (hd : Digs B64 ks) (hG : GrAt w q a p n v b) : Calls Tryz.prog 104 #[.pointer (some ⟨q, 0, none⟩), .agg ((feC p n P.x ++ (feC p n P.y ++ [Value.bool P.inf]))).toArray, .slice A ks.length cap] w (Ret w (.agg ((feC p n y2.x ++ (feC p n y2.y ++ [Value.bool y2.inf]))).toArray)) := by
  have hql := hG.lt
  refine calls_of_wp Tryz.func104 (by rfl : Tryz.f104.body = some _) ?_
  have hF : Fr [(0, pt q), (1, .agg ((feC p n P.x ++ (feC p n P.y ++ [Value.bool P.inf]))).toArray), (2, .slice A ks.length cap)] 13 _ := Fr.start (args := #[pt q, .agg ((feC p n P.x ++ (feC p n P.y ++ [Value.bool P.inf]))).toArray, .slice A ks.length cap]) (m := 13) (by simp)
  have hI := Inv.start0 w
  refine wp_seq ?_
  refine sy [] #[.new [] (fun _ => ((feC p n P.x ++ (feC p n P.y ++ [Value.bool P.inf]))).toArray) 168,
      .new [] (fun _ => ((Z6 ++ (Z6 ++ [Value.bool false]))).toArray) 168]
    (fun g1 => [(0, pt q), (2, .slice A ks.length cap), (4, pt (g1.γ 0)), (6, pt (g1.γ 1))]) (fun g1 => [((g1.γ 0), (feC p n P.x ++ (feC p n P.y ++ [Value.bool P.inf])), 168), ((g1.γ 1), (Z6 ++ (Z6 ++ [Value.bool false])), 168)]) (fun _ => [])
    hF hI trivial (fun g => ⟨nw,
      nw, trivial⟩) ?_
  intro g1 a1 w1 hF hI
  refine wp_seq ?_
  refine ss [168] #[va (pt q),
      va (pt q),
      va (.agg ((feC p n P.x ++ (feC p n P.y ++ [Value.bool P.inf]))).toArray),
      va (.slice A ks.length cap),
      va (.agg ((feC p n y1.x ++ (feC p n y1.y ++ feC p n y1.z))).toArray),
      va (.agg ((feC p n y2.x ++ (feC p n y2.y ++ [Value.bool y2.inf]))).toArray)]
    (fun g2 => [(6, pt (g1.γ 1))]) (fun _ => [((g1.γ 0), (feC p n P.x ++ (feC p n P.y ++ [Value.bool P.inf])), 168), ((g1.γ 1), (feC p n y2.x ++ (feC p n y2.y ++ [Value.bool y2.inf])), 168)]) (fun _ => []) 1 0
    hF hI trivial (fun g => ⟨pv,
      pv,
      lk 0 0 rfl rfl,
      pv,
      cv fun w hI hfa => gtimes_any hy1 (hG.below hI.below) hc (hr.below hI.below) hd,
      cv fun w hI hfa => narrowed_any hy2 (hG.below hI.below), trivial⟩) rfl rfl rfl ?_
  intro g2 a2 w2 hF hI
  refine wp_ret ?_
  show bodyPost Tryz.prog Tryz.f104 (Ret w (.agg ((feC p n y2.x ++ (feC p n y2.y ++ [Value.bool y2.inf]))).toArray)) .ret _ _
  exact sym_ret rfl hF.df (rv_cell 1 hF rfl hI rfl Tryz.underlying168 rfl (by kernel_rfl)) ⟨rfl, hI.below⟩

theorem gmul_any {q a p n v : Nat} [Pr p] {b : Zm p} {P : GP (Zm p)} {A : Option Addr} {ks : List Nat} {cap : Nat} {z : GP (Zm p)} (hz : z = gmul Fd.finv P (ofD B64 ks)) {w : World} (hG : GrAt w q a p n v b) (hc : ks.length ≤ cap) (hr : Rd w .u64 A ks) (hd : Digs B64 ks) :
    Calls Tryz.prog 104 #[.pointer (some ⟨q, 0, none⟩), fp p n P, .slice A ks.length cap] w (Ret w (fp p n z)) := by
  subst hz
  exact raw_mul rfl rfl hc hr hd hG
end Go.Proofs.YtjokcbjahidckaaGreat
