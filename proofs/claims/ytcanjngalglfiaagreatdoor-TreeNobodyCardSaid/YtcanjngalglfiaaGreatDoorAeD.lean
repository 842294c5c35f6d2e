/- The evaluator: drawn regions; what it says of a closed call holds in the model. -/
import Derived.Test.YtcanjngalglfiaaGreatDoorAeC
import Derived.Test.YtcanjngalglfiaaGreatDoorAeA
import Derived.CallsIn
import Derived.LoopNIn
section
/- A region's run in the order of its text, as the evaluator makes it. -/
set_option linter.unusedSimpArgs false
namespace Go.AE

theorem clsOf_le (E : Env) (op : Op) : clsOf E op ≤ 3 := by
  unfold clsOf
  repeat' split
  all_goals decide

section
variable {E : Env} {rec : Code → St → Out}

/-- One step, looked at. -/
theorem stepOp_cases (rs : RecSyn rec) {ops : Array Oper} {base k : Nat} {o : Oper} {st st' : St} {r : Rec} (h : stepOp E rec ops base k o st = some (st', r)) :
    (∃ v, st'.fr = putA st.fr o.dst v) ∧ (r.cls ≤ 1 → st'.hp = st.hp ∧ st'.nx = st.nx) ∧ (r.cls = 2 → st'.nx = st.nx ∧ ∃ ob, fresh ob ∧ st'.hp = st.hp.set (base + k) (some ob)) ∧
      (∀ id, r.spares id = true → id < st.nx → id ≠ base + k → st'.hp id = st.hp id) ∧ r.cls ≤ 3 := by
  unfold stepOp at h
  rw [cond_eq_ite] at h
  split at h
  · split at h
    · rename_i v h' nx lo r' ho
      cases h
      refine ⟨⟨v, rfl⟩, ?_⟩
      unfold opV at ho
      split at ho
      · split at ho
        · split at ho
          · rename_i hc
            cases ho
            refine ⟨fun h => by simp at h, fun h => by simp at h, fun id hl h1 h2 => ?_, Nat.le_refl _⟩
            have hl' : (Nat.blt id _ || sameO (st.hp id) (_ : Option AObj)) = true := hl
            rw [Bool.or_eq_true] at hl'
            rcases hl' with hl' | hl'
            · exact (callC_hp rs hc).hp id h1 (by simpa [Nat.blt_eq] using hl')
            · exact (sameO_eq hl').symm
          · cases ho
        · cases ho
      · split at ho
        · rename_i ts hc
          cases ho
          refine ⟨fun h => ?_, fun h => ?_, fun id hl _ h2 => ?_, clsOf_le _ _⟩
          · have hcl : clsOf E o.op = 0 ∨ clsOf E o.op = 1 := by simp only at h; omega
            rcases hcl with hcl | hcl
            · exact ⟨(opA_cls0 hcl hc).1, rfl⟩
            · exact ⟨(opA_cls1 hcl hc).1, rfl⟩
          · obtain ⟨_, ob, f1, f2, _⟩ := opA_cls2 h hc
            exact ⟨rfl, ob, f1, f2⟩
          · refine (opA_hp hc).hp id h2 fun hm => ?_
            have hl' : (!List.any _ (Nat.beq id)) = true := hl
            rw [Bool.not_eq_true', List.any_eq_false] at hl'
            exact hl' id hm (by simp)
        · cases ho
    · cases h
  · cases h
    exact ⟨⟨_, rfl⟩, fun _ => ⟨rfl, rfl⟩, fun h => by simp [Rec.none] at h, fun _ _ _ _ => rfl, by simp [Rec.none]⟩

theorem trace_of {ops : Array Oper} {base : Nat} : ∀ (l : List Oper) (i : Nat) (st st' : St) (rs : List Rec), runOps E rec ops base i l st = some (st', rs) →
    ∃ T : Nat → St, T 0 = st ∧ T l.length = st' ∧ rs.length = l.length ∧ ∀ k o, l[k]? = some o → stepOp E rec ops base (i + k) o (T k) = some (T (k + 1), rs.getD k Rec.none)
  | [], i, st, st', rs, h => by
    unfold runOps at h; cases h
    exact ⟨fun _ => st, rfl, rfl, rfl, fun k o hk => by simp at hk⟩
  | o :: l, i, st, st', rs, h => by
    simp only [runOps] at h
    split at h
    · rename_i st1 r h1
      split at h
      · rename_i st2 rs2 h2
        cases h
        obtain ⟨T, t1, t2, t3, t4⟩ := trace_of l (i + 1) st1 st' rs2 h2
        refine ⟨fun k => match k with | 0 => st | k + 1 => T k, rfl, by simpa using t2, by simp [t3], fun k o' hk => ?_⟩
        cases k with
        | zero => simp at hk; subst hk; simp only [Nat.add_zero, t1]; simpa using h1
        | succ k =>
          have := t4 k o' (by simpa using hk)
          rw [show i + (k + 1) = i + 1 + k from by omega]
          simpa using this
      · cases h
    · cases h
end

/-- A region's run. -/
structure TC (E : Env) (rec : Code → St → Out) (ops : Array Oper) (base : Nat) (T : Nat → St) (R : Nat → Rec) : Prop where
  step : ∀ k o, ops[k]? = some o → stepOp E rec ops base k o (T k) = some (T (k + 1), R k)
  syn : RecSyn rec
  ral : RecAl rec
  b0 : base + ops.size ≤ (T 0).nx
  f0 : ∀ id, base ≤ id → (T 0).hp id = none
  a0 : AlOk (T 0).hp (fun id => id < base)

/-- Does it turn the object? -/
def wr (T : Nat → St) (i id : Nat) : Prop := (T (i + 1)).hp id ≠ (T i).hp id

theorem seg_hp {T : Nat → St} {id : Nat} {m : Nat} : ∀ {k}, m ≤ k → (∀ i, m ≤ i → i < k → ¬ wr T i id) → (T k).hp id = (T m).hp id := by
  intro k hk
  induction hk with
  | refl => intro _; rfl
  | step hk ih =>
    intro h
    rename_i k
    have h1 := h k hk (Nat.lt_succ_self k)
    have : (T (k + 1)).hp id = (T k).hp id := Classical.not_not.1 h1
    exact this.trans (ih fun i a b => h i a (by omega))

section
variable {E : Env} {rec : Code → St → Out} {ops : Array Oper} {base : Nat} {T : Nat → St} {R : Nat → Rec} (C : TC E rec ops base T R)
include C

theorem TC.cases {k : Nat} (hk : k < ops.size) : (∃ v, (T (k + 1)).fr = putA (T k).fr ops[k].dst v) ∧ ((R k).cls ≤ 1 → (T (k + 1)).hp = (T k).hp ∧ (T (k + 1)).nx = (T k).nx) ∧
    ((R k).cls = 2 → (T (k + 1)).nx = (T k).nx ∧ ∃ ob, fresh ob ∧ (T (k + 1)).hp = (T k).hp.set (base + k) (some ob)) ∧
      (∀ id, (R k).spares id = true → id < (T k).nx → id ≠ base + k → (T (k + 1)).hp id = (T k).hp id) ∧ (R k).cls ≤ 3 :=
  stepOp_cases C.syn (C.step k ops[k] (Array.getElem?_eq_getElem hk))

theorem TC.hpA {k : Nat} (hk : k < ops.size) : HpA (T k).hp (T k).nx (base + k) (T (k + 1)).hp (T (k + 1)).nx (T (k + 1)).low ∧ (T (k + 1)).low ≤ (T k).low :=
  stepOp_hp C.syn (C.step k ops[k] (Array.getElem?_eq_getElem hk))

theorem TC.nx_le {m : Nat} : ∀ {k}, m ≤ k → k ≤ ops.size → (T m).nx ≤ (T k).nx := by
  intro k hk
  induction hk with
  | refl => intro _; exact Nat.le_refl _
  | step hk ih => intro h; exact Nat.le_trans (ih (by omega)) (C.hpA (by omega)).1.nxle

theorem TC.low_le {m : Nat} : ∀ {k}, m ≤ k → k ≤ ops.size → (T k).low ≤ (T m).low := by
  intro k hk
  induction hk with
  | refl => intro _; exact Nat.le_refl _
  | step hk ih => intro h; exact Nat.le_trans (C.hpA (by omega)).2 (ih (by omega))

theorem TC.base_lt {k x : Nat} (hk : k ≤ ops.size) (hx : x < ops.size) : base + x < (T k).nx := by
  have := C.nx_le (Nat.zero_le k) hk
  have := C.b0
  omega

theorem TC.none0 {x : Nat} (hx : x < ops.size) : ∀ {k}, k ≤ x → (T k).hp (base + x) = none := by
  intro k
  induction k with
  | zero => intro _; exact C.f0 _ (by omega)
  | succ k ih => intro h; exact (C.hpA (by omega)).1.gone _ (C.base_lt (by omega) hx) (by omega) (ih (by omega))

theorem TC.fresh : ∀ {k}, k ≤ ops.size → ∀ id, (T k).nx ≤ id → (T k).hp id = none := by
  intro k
  induction k with
  | zero => intro _ id hid; exact C.f0 id (by have := C.b0; omega)
  | succ k ih => intro h; exact (C.hpA (by omega)).1.fresh (C.base_lt (by omega) (by omega)) (ih (by omega))

theorem TC.al : ∀ {k}, k ≤ ops.size → AlOk (T k).hp (fun id => id < base ∨ (∃ i, i < k ∧ id = base + i) ∨ base + ops.size ≤ id) := by
  intro k
  induction k with
  | zero => intro _; exact C.a0.sub fun id h => .inl h
  | succ k ih =>
    intro h
    refine stepOp_al C.syn C.ral (fun id hid => ?_) ?_ ((ih (by omega)).sub ?_) (C.step k ops[k] (Array.getElem?_eq_getElem (by omega)))
    · have := C.nx_le (Nat.zero_le k) (by omega)
      have := C.b0
      exact .inr (.inr (by omega))
    · exact .inr (.inl ⟨k, by omega, rfl⟩)
    · rintro id (h | ⟨i, h1, h2⟩ | h)
      · exact .inl h
      · exact .inr (.inl ⟨i, by omega, h2⟩)
      · exact .inr (.inr h)

theorem TC.wr_cls {i id : Nat} (hi : i < ops.size) (h : wr T i id) : (R i).cls = 2 ∨ (R i).cls = 3 := by
  obtain ⟨_, c1, _, _, c4⟩ := C.cases hi
  rcases Nat.lt_or_ge 1 (R i).cls with h' | h'
  · omega
  · exact absurd (by rw [(c1 h').1]) h

theorem TC.wr2 {i id : Nat} (hi : i < ops.size) (hc : (R i).cls = 2) (h : wr T i id) : id = base + i := by
  obtain ⟨_, _, c2, _⟩ := C.cases hi
  obtain ⟨_, ob, _, e⟩ := c2 hc
  by_cases hid : id = base + i
  · exact hid
  · exact absurd (by rw [e, Heap.set_get, if_neg hid]) h

theorem TC.made {i : Nat} (hi : i < ops.size) (hc : (R i).cls = 2) : ∃ ob, AE.fresh ob ∧ (T (i + 1)).hp (base + i) = some ob ∧ wr T i (base + i) := by
  obtain ⟨_, _, c2, _⟩ := C.cases hi
  obtain ⟨_, ob, f, e⟩ := c2 hc
  have e1 : (T (i + 1)).hp (base + i) = some ob := by rw [e, Heap.set_get, if_pos rfl]
  exact ⟨ob, f, e1, by unfold wr; rw [e1, C.none0 hi (Nat.le_refl i)]; simp⟩

theorem TC.wr_new {i x : Nat} (_hi : i < ops.size) (hx : x < ops.size) (h : wr T i (base + x)) : x ≤ i := by
  rcases Nat.lt_or_ge i x with h' | h'
  · exact absurd (by rw [C.none0 hx (show i + 1 ≤ x by omega), C.none0 hx (show i ≤ x by omega)]) h
  · exact h'

theorem TC.nx_eq {m : Nat} : ∀ {k}, m ≤ k → k ≤ ops.size → (∀ i, m ≤ i → i < k → (R i).cls ≠ 3) → (T k).nx = (T m).nx := by
  intro k hk
  induction hk with
  | refl => intro _ _; rfl
  | step hk ih =>
    intro h h3
    rename_i k
    have e := ih (by omega) (fun i a b => h3 i a (by omega))
    obtain ⟨_, c1, c2, _, c4⟩ := C.cases (show k < ops.size by omega)
    have := h3 k hk (Nat.lt_succ_self k)
    rcases Nat.lt_or_ge 1 (R k).cls with h' | h'
    · exact (c2 (by omega)).1.trans e
    · exact (c1 h').2.trans e

theorem TC.seg_fr {n : Nat} (hn : n < 1048575) (hd : DstOk n ops) {t m : Nat} : ∀ {k}, m ≤ k → k ≤ ops.size → (∀ i o, m ≤ i → i < k → ops[i]? = some o → o.dst ≠ some t) → (T k).fr.get t = (T m).fr.get t := by
  intro k hk
  induction hk with
  | refl => intro _ _; rfl
  | step hk ih =>
    intro h hh
    rename_i k
    have e := ih (by omega) (fun i o a b => hh i o a (by omega))
    have hks : k < ops.size := by omega
    obtain ⟨⟨v, hv⟩, _⟩ := C.cases hks
    have hko := Array.getElem?_eq_getElem hks
    have hne := hh k ops[k] hk (Nat.lt_succ_self k) hko
    rw [hv, ← e]
    unfold putA
    split
    · rename_i d hd'
      have hlt : @LT.lt Nat _ d n := hd k ops[k] d hko hd'
      rw [Tr.get_set _ _ _ _ (by omega), if_neg (fun e => hne (by rw [hd', e]))]
    · rfl
end
end Go.AE
end

section
/- A region whose order is drawn: what holds when some of it has run. -/
set_option linter.unusedSimpArgs false
set_option linter.unusedVariables false
namespace Go.AE
variable {F : Nat → Prop}

theorem put_get (a : Act) (dst : Option Tmp) (v : Value) (t : Nat) : (a.put dst v).tmps.getD t undef = if dst = some t ∧ t < a.tmps.size then v else a.tmps.getD t undef := by
  cases dst with
  | none => simp [Act.put]
  | some d =>
    simp only [Act.put, Array.getD_eq_getD_getElem?, Array.getElem?_setIfInBounds, Option.some.injEq]
    by_cases e : d = t
    · subst e
      by_cases hlt : @LT.lt Nat _ d a.tmps.size
      · rw [if_pos rfl, if_pos hlt, if_pos ⟨rfl, hlt⟩]; rfl
      · rw [if_pos rfl, if_neg hlt, if_neg (fun h => hlt h.2), Array.getElem?_eq_none (Nat.not_lt.1 hlt)]
    · rw [if_neg e, if_neg (fun h => e h.1)]
theorem put_size (a : Act) (dst : Option Tmp) (v : Value) : (a.put dst v).tmps.size = a.tmps.size := by cases dst <;> simp [Act.put]

/-- What the region's text says of the order. -/
structure OD (ops : Array Oper) (n : Nat) (R : Nat → Rec) : Prop where
  dst : DstOk n ops
  edge : ∀ j o, ops[j]? = some o → ∀ e ∈ o.after, Region.binds .any e = true → e.on < j
  conf : ∀ i j oi oj, i < j → ops[i]? = some oi → ops[j]? = some oj → confl ops oi oj = true → Bef ops j i
  ord : ∀ i j, i < j → j < ops.size → (R i).cls ≠ 0 → (R j).cls ≠ 0 → Bef ops j i ∨ apartA (R i) (R j) = true

theorem confl_l {ops : Array Oper} {oi oj : Oper} {t : Nat} (hd : oi.dst = some t) (ht : t ∈ looksAt ops oj) : confl ops oi oj = true := by
  unfold confl
  rw [hd, Bool.or_eq_true]
  left
  rw [List.any_eq_true]
  exact ⟨t, ht, by simp⟩
theorem confl_r {ops : Array Oper} {oi oj : Oper} {t : Nat} (hd : oj.dst = some t) (ht : t ∈ looksAt ops oi) : confl ops oi oj = true := by
  unfold confl
  rw [hd, Bool.or_eq_true]
  right
  rw [List.any_eq_true]
  exact ⟨t, ht, by simp⟩
theorem own_dst {ops : Array Oper} {o : Oper} {t : Nat} (h : o.dst = some t) : t ∈ looksAt ops o := by simp [looksAt, h]

structure Inv (E : Env) (F : Nat → Prop) (ops : Array Oper) (base n : Nat) (T : Nat → St) (R : Nat → Rec) (σ0 : Sg) (h0 : Heap) (w0 : World) (ds : List Deferred)
    (L : Nat → Prop) (a : Act) (w : World) (σ : Sg) (hL : Heap) (M : Nat) : Prop where
  sim : Sim E F σ hL w
  Mle : M ≤ ops.size
  sz : a.tmps.size = n
  fr : ∀ t, ∃ m, m ≤ ops.size ∧ V σ (own F σ hL) w ((T m).fr.get t) (a.tmps.getD t undef) ∧ ∀ i o, ops[i]? = some o → o.dst = some t → (L i ↔ i < m)
  hp : ∀ id, ∃ m, m ≤ ops.size ∧ hL id = (T m).hp id ∧ ∀ i, i < ops.size → wr T i id → (L i ↔ i < m)
  c3 : ∀ i, i < ops.size → (R i).cls = 3 → (L i ↔ i < M)
  f1 : ∀ id, (T M).nx ≤ id → σ id = none ∧ hL id = none
  f2 : ∀ i, i < ops.size → ¬ L i → σ (base + i) = none
  tr : Tr0 F σ0 h0 base w0 σ hL (T M).nx w (T ops.size).low
  df : a.defers = ds

section
variable {E : Env} {P : Program} {rec : Code → St → Out} {ops : Array Oper} {base n : Nat} {T : Nat → St} {R : Nat → Rec} {σ0 : Sg} {h0 : Heap} {w0 : World} {ds : List Deferred}
  {L : Nat → Prop} {a : Act} {w : World} {σ : Sg} {hL : Heap} {M : Nat}

/-- What an operation looks at is as in the text's order. -/
theorem Inv.look (I : Inv E F ops base n T R σ0 h0 w0 ds L a w σ hL M) (C : TC E rec ops base T R) (D : OD ops n R) (hn : n < 1048575) {j : Nat} {o : Oper} (ho : ops[j]? = some o) (hj : ¬ L j)
    (down : ∀ x i, L x → Bef ops x i → L i) (deps : ∀ i, Bef ops j i → L i) {t : Nat} (ht : t ∈ looksAt ops o) : V σ (own F σ hL) w ((T j).fr.get t) (a.tmps.getD t undef) := by
  obtain ⟨m, hm, hv, hw⟩ := I.fr t
  have hjs : j < ops.size := (Array.getElem?_eq_some_iff.1 ho).1
  have e : (T m).fr.get t = (T j).fr.get t := by
    rcases Nat.le_total m j with h | h
    · refine (C.seg_fr hn D.dst h (by omega) fun i oi h1 h2 h3 h4 => ?_).symm
      have := (hw i oi h3 h4).1 (deps i (D.conf i j oi o h2 h3 ho (confl_l h4 ht)))
      omega
    · refine C.seg_fr hn D.dst h hm fun i oi h1 h2 h3 h4 => ?_
      have hLi := (hw i oi h3 h4).2 h2
      rcases Nat.eq_or_lt_of_le h1 with h5 | h5
      · exact hj (h5 ▸ hLi)
      · exact hj (down i j hLi (D.conf j i o oi h5 ho h3 (confl_r h4 ht)))
  rw [← e]; exact hv

/-- The slots after it. -/
theorem Inv.put (I : Inv E F ops base n T R σ0 h0 w0 ds L a w σ hL M) (C : TC E rec ops base T R) (D : OD ops n R) (hn : n < 1048575) {j : Nat} {o : Oper} (ho : ops[j]? = some o) (hj : ¬ L j)
    (down : ∀ x i, L x → Bef ops x i → L i) (deps : ∀ i, Bef ops j i → L i) {σ' : Sg} {O' : Nat → Prop} {w' : World} (k : Kept σ (own F σ hL) w σ' O' w') {v : AV} {val : Value}
    (hv : V σ' O' w' v val) (hT : (T (j + 1)).fr = putA (T j).fr o.dst v) (t : Nat) :
    ∃ m, m ≤ ops.size ∧ V σ' O' w' ((T m).fr.get t) ((a.put o.dst val).tmps.getD t undef) ∧ ∀ i o, ops[i]? = some o → o.dst = some t → ((L i ∨ i = j) ↔ i < m) := by
  have hjs : j < ops.size := (Array.getElem?_eq_some_iff.1 ho).1
  by_cases hd : o.dst = some t
  · have hlt : @LT.lt Nat _ t n := D.dst j o t ho hd
    refine ⟨j + 1, hjs, ?_, fun i oi h1 h2 => ⟨fun h => ?_, fun h => ?_⟩⟩
    · rw [put_get, if_pos ⟨hd, by rw [I.sz]; exact hlt⟩, hT, hd]
      unfold putA
      simp only
      rw [Tr.get_set _ _ _ _ (by omega), if_pos rfl]; exact hv
    · rcases h with h | h
      · rcases Nat.lt_or_ge j i with h' | h'
        · exact absurd (down i j h (D.conf j i o oi h' ho h1 (confl_l hd (own_dst h2)))) hj
        · omega
      · omega
    · rcases Nat.eq_or_lt_of_le (Nat.le_of_lt_succ h) with h' | h'
      · exact .inr h'
      · exact .inl (deps i (D.conf i j oi o h' h1 ho (confl_l h2 (own_dst hd))))
  · obtain ⟨m, hm, h1, h2⟩ := I.fr t
    refine ⟨m, hm, ?_, fun i oi h3 h4 => ?_⟩
    · rw [put_get, if_neg (fun e => hd e.1)]; exact V.mono k _ _ h1
    · have hne : i ≠ j := fun e => by subst e; rw [ho] at h3; obtain rfl := Option.some.inj h3; exact hd h4
      rw [← h2 i oi h3 h4]
      exact ⟨fun h => h.resolve_right hne, .inl⟩

theorem apart_x3 {a b : Rec} (h1 : a.cls = 2 ∨ a.cls = 3) (h2 : b.cls = 3) : apartA a b = false := by
  obtain ⟨ac, ar, ad⟩ := a; obtain ⟨bc, br, bd⟩ := b; simp only at h1 h2; subst h2; rcases h1 with rfl | rfl <;> rfl

/-- Whoever turns memory ahead of one that acts has run. -/
theorem OD.before3 (D : OD ops n R) (C : TC E rec ops base T R) {i j : Nat} (h : i < j) (hj : j < ops.size) (hc : (R j).cls = 3) (hi : (R i).cls = 2 ∨ (R i).cls = 3) : Bef ops j i := by
  rcases D.ord i j h hj (by rcases hi with h | h <;> omega) (by omega) with h' | h'
  · exact h'
  · rw [apart_x3 hi hc] at h'; cases h'

theorem operands_look {o : Oper} {t : Tmp} (h : Operand.tmp t ∈ o.op.operands.toList) : t ∈ looksAt ops o := by
  unfold looksAt
  simp only [List.mem_append, List.mem_filterMap]
  exact .inl (.inr ⟨_, h, rfl⟩)

/-- Operands. -/
theorem Inv.oa (I : Inv E F ops base n T R σ0 h0 w0 ds L a w σ hL M) (C : TC E rec ops base T R) (D : OD ops n R) (hn : n < 1048575) {j : Nat} {o : Oper} (ho : ops[j]? = some o) (hj : ¬ L j)
    (down : ∀ x i, L x → Bef ops x i → L i) (deps : ∀ i, Bef ops j i → L i) : OA σ (own F σ hL) w (T j).fr a o.op.operands.toList := by
  intro x hx v hv
  cases x with
  | tmp t =>
    obtain rfl := Option.some.inj hv
    exact I.look C D hn ho hj down deps (operands_look hx)
  | const v => exact ofVal_V hv
  | global g => obtain rfl := Option.some.inj hv; rw [V]; rfl
  | func f => obtain rfl := Option.some.inj hv; rw [V]; exact ⟨#[], #[], rfl, by rw [VL], by rw [VL]⟩

theorem Inv.wanted (I : Inv E F ops base n T R σ0 h0 w0 ds L a w σ hL M) (C : TC E rec ops base T R) (D : OD ops n R) (hn : n < 1048575) {j : Nat} {o : Oper} (ho : ops[j]? = some o) (hj : ¬ L j)
    (down : ∀ x i, L x → Bef ops x i → L i) (deps : ∀ i, Bef ops j i → L i) : Region.wanted o (yielded ops a.tmps) = wantedA ops (T j).fr o := by
  refine wanted_sound (σ := σ) (w := w) (O := own F σ hL) I.sz D.dst fun g w' p d hg hp hd => I.look C D hn ho hj down deps ?_
  unfold looksAt
  simp only [List.mem_append]
  right
  rw [hg]; simp only [hp, hd]; simp

/-- Memory that nobody turned in between. -/
theorem Inv.hp_same (I : Inv E F ops base n T R σ0 h0 w0 ds L a w σ hL M) {j : Nat} (hj : ¬ L j) (hw : ∀ id, ¬ wr T j id) : ∀ id, ∃ m, m ≤ ops.size ∧ hL id = (T m).hp id ∧ ∀ i, i < ops.size → wr T i id → ((L i ∨ i = j) ↔ i < m) := by
  intro id
  obtain ⟨m, h1, h2, h3⟩ := I.hp id
  refine ⟨m, h1, h2, fun i hi hwi => ?_⟩
  have hne : i ≠ j := fun e => hw id (e ▸ hwi)
  rw [← h3 i hi hwi]
  exact ⟨fun h => h.resolve_right hne, .inl⟩

theorem Inv.none_of (I : Inv E F ops base n T R σ0 h0 w0 ds L a w σ hL M) {id : Nat} (h : σ id = none) : hL id = none := by
  cases hh : hL id with
  | none => rfl
  | some o => obtain ⟨s, h1, _⟩ := I.sim.obj id o hh; rw [h] at h1; cases h1
end
end Go.AE
end

section
/- A region whose order is drawn: one more operation. -/
set_option linter.unusedSimpArgs false
set_option linter.unusedVariables false
namespace Go.AE
variable {F : Nat → Prop}
section
variable {E : Env} {P : Program} {rec : Code → St → Out} {ops : Array Oper} {base n : Nat} {T : Nat → St} {R : Nat → Rec} {σ0 : Sg} {h0 : Heap} {w0 : World} {ds : List Deferred}
  {L : Nat → Prop} {a : Act} {w : World} {σ : Sg} {hL : Heap} {M : Nat}

/-- A step that leaves the numbers alone and turns at most its own object. -/
theorem Inv.light (I : Inv E F ops base n T R σ0 h0 w0 ds L a w σ hL M) (C : TC E rec ops base T R) (D : OD ops n R) (hn : n < 1048575) {j : Nat} {o : Oper} (ho : ops[j]? = some o) (hj : ¬ L j)
    (down : ∀ x i, L x → Bef ops x i → L i) (deps : ∀ i, Bef ops j i → L i) (hc : (R j).cls ≠ 3) {σ' : Sg} {hL' : Heap} {w' : World} {v : AV} {val : Value} (hT : (T (j + 1)).fr = putA (T j).fr o.dst v)
    (S' : Sim E F σ' hL' w') (f' : ∀ id, (T M).nx ≤ id → σ' id = none ∧ hL' id = none) (hv : V σ' (own F σ' hL') w' v val) (T1 : Tr1 F σ hL (T M).nx (base + j) w σ' hL' (T M).nx w' (T M).nx)
    (hhp : ∀ id, ∃ m, m ≤ ops.size ∧ hL' id = (T m).hp id ∧ ∀ i, i < ops.size → wr T i id → ((L i ∨ i = j) ↔ i < m)) :
    Inv E F ops base n T R σ0 h0 w0 ds (fun i => L i ∨ i = j) (a.put o.dst val) w' σ' hL' M := by
  have hjs : j < ops.size := (Array.getElem?_eq_some_iff.1 ho).1
  refine ⟨S', I.Mle, by rw [put_size]; exact I.sz, I.put C D hn ho hj down deps T1.kept hv hT, hhp, fun i hi h3 => ?_, f', fun i hi hni => ?_, ?_, by rw [put_defers]; exact I.df⟩
  · have hne : i ≠ j := fun e => hc (e ▸ h3)
    rw [← I.c3 i hi h3]
    exact ⟨fun h => h.resolve_right hne, .inl⟩
  · have h1 : ¬ L i := fun h => hni (.inl h)
    have h2 : i ≠ j := fun h => hni (.inr h)
    rw [T1.sg _ (C.base_lt I.Mle hi) (by omega)]
    exact I.f2 i hi h1
  · have := C.base_lt I.Mle hjs
    exact I.tr.then T1 (by omega) (Nat.le_refl _) (fun id h _ => by omega)

theorem opV_plain {fr : Tr} {h : Heap} {nx aid : Nat} {op : Op} (hic : isCall op = none) {v : AV} {h' : Heap} (ho : opA E fr h aid op = some (v, h', [])) :
    opV E rec fr h nx aid op = some (v, h', nx, [], ⟨clsOf E op, ridOf fr op, fun id => !List.any [] (Nat.beq id)⟩) := by
  unfold opV; rw [hic]; simp only; rw [ho]

theorem opV_parts {fr : Tr} {h h' : Heap} {nx aid nx' : Nat} {los : List Nat} {op : Op} {v : AV} {r : Rec} (ho : opV E rec fr h nx aid op = some (v, h', nx', los, r)) (hc : r.cls ≠ 3) :
    isCall op = none ∧ ∃ ts, opA E fr h aid op = some (v, h', ts) ∧ nx' = nx ∧ r = ⟨clsOf E op, ridOf fr op, fun id => !ts.any (Nat.beq id)⟩ := by
  unfold opV at ho
  split at ho
  · split at ho
    · split at ho
      · cases ho; exact absurd rfl hc
      · cases ho
    · cases ho
  · rename_i hic
    split at ho
    · rename_i ts hx
      cases ho
      exact ⟨hic, _, hx, rfl, rfl⟩
    · cases ho

theorem idOf_sg {O : Nat → Prop} {x : AV} {id : Nat} {v : Value} (h : idOf x = some id) (hv : V σ O w x v) : σ id ≠ none := by
  rcases idOf_some h with ⟨o, rfl⟩ | ⟨i, o, rfl⟩ | ⟨o, l, m, rfl⟩
  · rw [V] at hv; obtain ⟨s, hs, _⟩ := hv; rw [hs]; simp
  · rw [V] at hv; obtain ⟨s, hs, _⟩ := hv; rw [hs]; simp
  · rw [V] at hv; obtain ⟨s, _, _, hs, _⟩ := hv; rw [hs]; simp

theorem apart_31 {a b : Rec} (h1 : a.cls = 3) (h2 : b.cls = 1) (h : apartA a b = true) : ∀ id, b.rid = some id → a.spares id = true := by
  obtain ⟨ac, ar, ad⟩ := a; obtain ⟨bc, br, bd⟩ := b; simp only at h1 h2; subst h1 h2
  intro id hid
  simp only at hid; subst hid
  exact h
theorem apart_13 {a b : Rec} (h1 : a.cls = 1) (h2 : b.cls = 3) (h : apartA a b = true) : ∀ id, a.rid = some id → b.spares id = true := by
  obtain ⟨ac, ar, ad⟩ := a; obtain ⟨bc, br, bd⟩ := b; simp only at h1 h2; subst h1 h2
  intro id hid
  simp only at hid; subst hid
  exact h

theorem rid_operand {fr : Tr} {op : Op} {id : Nat} (h : ridOf fr op = some id) : ∃ x y, x ∈ op.operands.toList ∧ opnd fr x = some y ∧ idOf y = some id := by
  unfold ridOf at h
  split at h
  all_goals first
    | (cases h; done)
    | (rw [Option.bind_eq_some_iff] at h; obtain ⟨y, h1, h2⟩ := h; exact ⟨_, y, by simp [Op.operands], h1, h2⟩)

/-- What it reads is as in the text's order. -/
theorem Inv.reads (I : Inv E F ops base n T R σ0 h0 w0 ds L a w σ hL M) (C : TC E rec ops base T R) (D : OD ops n R) (hn : n < 1048575) {j : Nat} {o : Oper} (ho : ops[j]? = some o) (hj : ¬ L j)
    (down : ∀ x i, L x → Bef ops x i → L i) (deps : ∀ i, Bef ops j i → L i) (hc : (R j).cls = 1) (hrid : (R j).rid = ridOf (T j).fr o.op) :
    ∀ id ob, ridOf (T j).fr o.op = some id → (T j).hp id = some ob → hL id = some ob := by
  intro id ob hr hob
  have hjs : j < ops.size := (Array.getElem?_eq_some_iff.1 ho).1
  have hsg : σ id ≠ none := by
    obtain ⟨x, y, h1, h2, h3⟩ := rid_operand hr
    exact idOf_sg h3 (I.oa C D hn ho hj down deps x h1 y h2)
  obtain ⟨m, hm, h1, h2⟩ := I.hp id
  rw [h1]
  -- one that acts and has not run, or has
  have new3 : ∀ i, i < ops.size → (R i).cls = 3 → ¬ L i → id < (T i).nx ∧ id ≠ base + i := by
    intro i hi h3 hni
    have hMi : M ≤ i := by
      rcases Nat.lt_or_ge i M with h | h
      · exact absurd ((I.c3 i hi h3).2 h) hni
      · exact h
    refine ⟨?_, fun e => hsg (by rw [e]; exact I.f2 i hi hni)⟩
    rcases Nat.lt_or_ge id (T M).nx with h | h
    · exact Nat.lt_of_lt_of_le h (C.nx_le hMi (by omega))
    · exact absurd (I.f1 id h).1 hsg
  have e : (T m).hp id = (T j).hp id := by
    rcases Nat.le_total m j with h | h
    · refine (seg_hp h fun i a b hw => ?_).symm
      have hi : i < ops.size := by omega
      have hni : ¬ L i := fun hl => by have := (h2 i hi hw).1 hl; omega
      rcases C.wr_cls hi hw with hc' | hc'
      · exact hsg (by rw [C.wr2 hi hc' hw]; exact I.f2 i hi hni)
      · rcases D.ord i j b hjs (by omega) (by omega) with h' | h'
        · exact hni (deps i h')
        · have k1 := apart_31 hc' hc h' id (by rw [hrid]; exact hr)
          obtain ⟨n1, n2⟩ := new3 i hi hc' hni
          exact hw ((C.cases hi).2.2.2.1 id k1 n1 n2)
    · refine seg_hp h fun i a b hw => ?_
      have hi : i < ops.size := by omega
      have hLi : L i := (h2 i hi hw).2 b
      have hne : j ≠ i := fun e => hj (e ▸ hLi)
      have hji : j < i := by omega
      rcases C.wr_cls hi hw with hc' | hc'
      · have := C.wr2 hi hc' hw
        rw [this, C.none0 hi (by omega)] at hob; cases hob
      · rcases D.ord j i hji hi (by omega) (by omega) with h' | h'
        · exact hj (down i j hLi h')
        · have k1 := apart_13 hc hc' h' id (by rw [hrid]; exact hr)
          have n1 : id < (T i).nx := by
            rcases Nat.lt_or_ge id (T i).nx with h | h
            · exact h
            · have := C.fresh (show j ≤ ops.size by omega) id (Nat.le_trans (C.nx_le a (by omega)) h)
              rw [this] at hob; cases hob
          have n2 : id ≠ base + i := fun e => by rw [e, C.none0 hi (by omega)] at hob; cases hob
          exact hw ((C.cases hi).2.2.2.1 id k1 n1 n2)
  rw [e, hob]
end
end Go.AE
end

section
/- A region whose order is drawn: an operation that acts; and the step. -/
set_option linter.unusedSimpArgs false
set_option linter.unusedVariables false
namespace Go.AE
variable {F : Nat → Prop}
section
variable {E : Env} {P : Program} {rec : Code → St → Out} {ops : Array Oper} {base n : Nat} {T : Nat → St} {R : Nat → Rec} {σ0 : Sg} {h0 : Heap} {w0 : World} {ds : List Deferred}
  {L : Nat → Prop} {a : Act} {w : World} {σ : Sg} {hL : Heap} {M : Nat}

/-- Ahead of one that acts: memory is there. -/
theorem Inv.below (I : Inv E F ops base n T R σ0 h0 w0 ds L a w σ hL M) (C : TC E rec ops base T R) (D : OD ops n R) {j : Nat} (hjs : j < ops.size) (hj : ¬ L j)
    (down : ∀ x i, L x → Bef ops x i → L i) (deps : ∀ i, Bef ops j i → L i) (hc : (R j).cls = 3) :
    (∀ id ob, (T j).hp id = some ob → hL id = some ob) ∧
    (∀ id ob, (T j).hp id = none → hL id = some ob → fresh ob ∧ ∃ x, j < x ∧ x < ops.size ∧ id = base + x) ∧
    (∀ i, j < i → i < ops.size → L i → (R i).cls = 2 → hL (base + i) ≠ none) ∧ (T j).nx = (T M).nx := by
  have no3 : ∀ i, j < i → i < ops.size → (R i).cls = 3 → ¬ L i := fun i a b c hl => hj (down i j hl (D.before3 C a b c (.inr hc)))
  have lo : ∀ i, i < j → ((R i).cls = 2 ∨ (R i).cls = 3) → L i := fun i a c => deps i (D.before3 C a hjs hc c)
  have left : ∀ id m, (∀ i, i < ops.size → wr T i id → (L i ↔ i < m)) → m ≤ j → (T m).hp id = (T j).hp id := fun id m h2 h => by
    refine (seg_hp h fun i a b hw => ?_).symm
    have := (h2 i (by omega) hw).1 (lo i b (C.wr_cls (by omega) hw))
    omega
  refine ⟨fun id ob hob => ?_, fun id ob hn hob => ?_, fun i a b hl h2 => ?_, ?_⟩
  · obtain ⟨m, hm, h1, h2⟩ := I.hp id
    rw [h1]
    rcases Nat.le_total m j with h | h
    · rw [left id m h2 h]; exact hob
    · rw [seg_hp h fun i a b hw => ?_]; exact hob
      have hi : i < ops.size := by omega
      have hLi := (h2 i hi hw).2 b
      have hji : j < i := by
        rcases Nat.eq_or_lt_of_le a with e | e
        · exact absurd (e ▸ hLi) hj
        · exact e
      rcases C.wr_cls hi hw with h2' | h3'
      · rw [C.wr2 hi h2' hw, C.none0 hi (by omega)] at hob; cases hob
      · exact no3 i hji hi h3' hLi
  · obtain ⟨m, hm, h1, h2⟩ := I.hp id
    rw [h1] at hob
    have hjm : j < m := by
      rcases Nat.lt_or_ge j m with h | h
      · exact h
      · rw [left id m h2 h, hn] at hob; cases hob
    have hex : ∃ i, j ≤ i ∧ i < m ∧ wr T i id := Classical.byContradiction fun hne => by
      have := seg_hp (T := T) (id := id) (Nat.le_of_lt hjm) fun i a b hw => hne ⟨i, a, b, hw⟩
      rw [this, hn] at hob; cases hob
    obtain ⟨i, a, b, hw⟩ := hex
    have hi : i < ops.size := by omega
    have hLi := (h2 i hi hw).2 b
    have hji : j < i := by
      rcases Nat.eq_or_lt_of_le a with e | e
      · exact absurd (e ▸ hLi) hj
      · exact e
    rcases C.wr_cls hi hw with h2' | h3'
    · have e := C.wr2 hi h2' hw
      obtain ⟨ob', f, k1, _⟩ := C.made hi h2'
      have : (T m).hp id = (T (i + 1)).hp id := seg_hp b fun x c d hx => by
        have hxs : x < ops.size := by omega
        have hLx := (h2 x hxs hx).2 d
        rcases C.wr_cls hxs hx with g | g
        · have := C.wr2 hxs g hx; omega
        · exact no3 x (by omega) hxs g hLx
      rw [this, e, k1] at hob
      obtain rfl := Option.some.inj hob
      exact ⟨f, i, hji, hi, e⟩
    · exact absurd hLi (no3 i hji hi h3')
  · obtain ⟨ob, f, k1, k2⟩ := C.made b h2
    obtain ⟨m, hm, h1, h3⟩ := I.hp (base + i)
    have him := (h3 i b k2).1 hl
    have : (T m).hp (base + i) = (T (i + 1)).hp (base + i) := seg_hp him fun x c d hx => by
      have hxs : x < ops.size := by omega
      have hLx := (h3 x hxs hx).2 d
      rcases C.wr_cls hxs hx with g | g
      · have := C.wr2 hxs g hx; omega
      · exact no3 x (by omega) hxs g hLx
    rw [h1, this, k1]; simp
  · rcases Nat.le_total M j with h | h
    · refine C.nx_eq h (by omega) fun i a b h3 => ?_
      have := (I.c3 i (by omega) h3).1 (lo i b (.inr h3))
      omega
    · refine (C.nx_eq h I.Mle fun i a b h3 => ?_).symm
      have hLi := (I.c3 i (by have := I.Mle; omega) h3).2 b
      rcases Nat.eq_or_lt_of_le a with e | e
      · exact hj (e ▸ hLi)
      · exact no3 i e (by have := I.Mle; omega) h3 hLi

/-- One more operation. -/
theorem inv_step (EO : EnvOk E P) (RO : RecOk E P rec) {ro : Option Nat} (I : Inv E F ops base n T R σ0 h0 w0 ds L a w σ hL M) (C : TC E rec ops base T R) (D : OD ops n R) (hn : n < 1048575) {j : Nat} {o : Oper} (ho : ops[j]? = some o) (hj : ¬ L j)
    (down : ∀ x i, L x → Bef ops x i → L i) (deps : ∀ i, Bef ops j i → L i) {K : Act → World → Prop} {Q : Exit → Act → World → Prop}
    (hK : ∀ a' w' σ' hL' M', Inv E F ops base n T R σ0 h0 w0 ds (fun i => L i ∨ i = j) a' w' σ' hL' M' → K a' w') : wpOpIn (GF ro) 0 P ops Q j K a w := by
  have hjs : j < ops.size := (Array.getElem?_eq_some_iff.1 ho).1
  have hstep := C.step j o ho
  unfold wpOpIn
  simp only [ho]
  rw [I.wanted C D hn ho hj down deps]
  unfold stepOp at hstep
  rw [cond_eq_ite] at hstep
  split at hstep
  · rename_i hwt
    rw [if_pos hwt]
    split at hstep
    · rename_i v h' nx' los r hov
      have hTR := Option.some.inj hstep
      have hT : (⟨putA (T j).fr o.dst v, h', nx', lowest (T j).low los⟩ : St) = T (j + 1) := congrArg Prod.fst hTR
      have hR : r = R j := congrArg Prod.snd hTR
      have hTf : (T (j + 1)).fr = putA (T j).fr o.dst v := by rw [← hT]
      have hTh : (T (j + 1)).hp = h' := by rw [← hT]
      have hTn : (T (j + 1)).nx = nx' := by rw [← hT]
      have hTl : (T (j + 1)).low = lowest (T j).low los := by rw [← hT]
      have oa := I.oa C D hn ho hj down deps
      have blt := C.base_lt I.Mle hjs
      have sn := I.f2 j hjs hj
      have hnn := I.none_of sn
      by_cases hc3 : r.cls = 3
      · have hc : (R j).cls = 3 := by rw [← hR]; exact hc3
        obtain ⟨b1, b2, b3, b4⟩ := I.below C D hjs hj down deps hc
        have S1 := I.sim.hide b1 fun id ob h1 h2 => (b2 id ob h1 h2).1
        have eo := own_hid (F := F) (σ := σ) b1
        refine opV_sound EO RO C.syn hov S1 (fun id hid => ⟨(I.f1 id (by rw [← b4]; exact hid)).1, C.fresh (by omega) id hid⟩) sn (C.none0 hjs (Nat.le_refl j)) (C.base_lt (by omega) hjs) (by rw [eo]; exact oa) ?_
        intro σ' val w' S' f' hv T1
        have hidd : ∀ id, (T j).hp id = none → hL id ≠ none → id < (T j).nx ∧ id ≠ base + j := fun id h1 h2 => by
          cases hh : hL id with
          | none => exact absurd hh h2
          | some ob =>
            obtain ⟨_, x, x1, x2, rfl⟩ := b2 id ob h1 hh
            exact ⟨C.base_lt (by omega) x2, by omega⟩
        obtain ⟨S2, eo2, T2⟩ := I.sim.unhide b1 (fun id ob h1 h2 => (b2 id ob h1 h2).1) S' T1 hidd (fun jj oj k h1 h2 h3 => by
          cases hh : hL k with
          | none => exact h3.2 hh
          | some ob =>
            obtain ⟨_, x, x1, x2, rfl⟩ := b2 k ob h3.1 hh
            have := (C.al (k := j + 1) hjs).al jj oj (base + x) (by rw [hTh]; exact h1) h2
            rcases this with h | ⟨i, i1, i2⟩ | h <;> omega)
        refine hK _ _ σ' (back hL (T j).hp h') (j + 1) ⟨S2, hjs, by rw [put_size]; exact I.sz, I.put C D hn ho hj down deps T2.kept (by rw [eo2]; exact hv) hTf, fun id => ?_, fun i hi h3 => ?_, fun id hid => ?_, fun i hi hni => ?_, ?_, by rw [put_defers]; exact I.df⟩
        · by_cases e : (T j).hp id = none ∧ hL id ≠ none
          · obtain ⟨m, h1, h2, h3⟩ := I.hp id
            refine ⟨m, h1, by rw [back_hid e.1 e.2]; exact h2, fun i hi hw => ?_⟩
            have hne : i ≠ j := fun e2 => by
              subst e2
              cases hh : hL id with
              | none => exact e.2 hh
              | some ob =>
                obtain ⟨_, x, x1, x2, rfl⟩ := b2 id ob e.1 hh
                have := C.wr_new hjs x2 hw
                omega
            rw [← h3 i hi hw]
            exact ⟨fun h => h.resolve_right hne, .inl⟩
          · refine ⟨j + 1, hjs, by rw [back_not e, hTh], fun i hi hw => ⟨fun h => ?_, fun h => ?_⟩⟩
            · rcases h with h | h
              · rcases Nat.lt_or_ge j i with h' | h'
                · rcases C.wr_cls hi hw with g | g
                  · have e2 := C.wr2 hi g hw
                    subst e2
                    exact absurd ⟨C.none0 hi (by omega), b3 i h' hi h g⟩ e
                  · exact absurd (down i j h (D.before3 C h' hi g (.inr hc))) hj
                · omega
              · omega
            · rcases Nat.eq_or_lt_of_le (Nat.le_of_lt_succ h) with h' | h'
              · exact .inr h'
              · exact .inl (deps i (D.before3 C h' hjs hc (C.wr_cls hi hw)))
        · constructor
          · rintro (h | h)
            · rcases Nat.lt_or_ge j i with h' | h'
              · exact absurd (down i j h (D.before3 C h' hi h3 (.inr hc))) hj
              · omega
            · omega
          · intro h
            rcases Nat.eq_or_lt_of_le (Nat.le_of_lt_succ h) with h' | h'
            · exact .inr h'
            · exact .inl (deps i (D.before3 C h' hjs hc (.inr h3)))
        · rw [hTn] at hid
          refine ⟨(f' id hid).1, ?_⟩
          rw [back_not (fun e => by have := (hidd id e.1 e.2).1; have := T1.nxle; omega)]
          exact (f' id hid).2
        · have h1 : ¬ L i := fun h => hni (.inl h)
          have h2 : i ≠ j := fun h => hni (.inr h)
          rw [T2.sg _ (C.base_lt (by omega) hi) (by omega)]
          exact I.f2 i hi h1
        · have t0 := I.tr
          rw [← b4] at t0
          rw [hTn]
          exact t0.then T2 (by omega) (Nat.le_refl _) (fun id h0 h => low_of (by have := C.base_lt (show j ≤ ops.size by omega) hjs; omega) (by rw [← hTl]; exact Nat.lt_of_lt_of_le h (C.low_le (show j + 1 ≤ ops.size by omega) (Nat.le_refl _))))
      · obtain ⟨hic, ts, hop, rfl, hre⟩ := opV_parts hov hc3
        have hcR : (R j).cls = clsOf E o.op := by rw [← hR, hre]
        have hridR : (R j).rid = ridOf (T j).fr o.op := by rw [← hR, hre]
        have hn3 : (R j).cls ≠ 3 := by rw [← hR]; exact hc3
        have hcl : clsOf E o.op = 0 ∨ clsOf E o.op = 1 ∨ clsOf E o.op = 2 := by have := clsOf_le E o.op; omega
        have same : (R j).cls ≤ 1 → opA E (T j).fr hL (base + j) o.op = some (v, hL, []) → o.wpIn (GF ro) 0 P a w K Q := fun hle hop' => by
          refine opV_sound EO RO C.syn (opV_plain (rec := rec) (nx := (T M).nx) hic hop') I.sim I.f1 sn hnn blt oa ?_
          intro σ' val w' S' f' hv T1
          refine hK _ _ σ' hL M (I.light C D hn ho hj down deps hn3 hTf S' f' hv T1 (I.hp_same hj fun id hw => ?_))
          rcases C.wr_cls hjs hw with g | g <;> omega
        rcases hcl with h | h | h
        · exact same (by omega) ((opA_cls0 h hop).2.2 hL)
        · exact same (by omega) ((opA_cls1 h hop).2.2 hL (I.reads C D hn ho hj down deps (by omega) hridR))
        · obtain ⟨_, ob, fr, e1, e2⟩ := opA_cls2 h hop
          have hc2 : (R j).cls = 2 := by omega
          refine opV_sound EO RO C.syn (opV_plain (rec := rec) (nx := (T M).nx) hic (e2 hL)) I.sim I.f1 sn hnn blt oa ?_
          intro σ' val w' S' f' hv T1
          refine hK _ _ σ' (hL.set (base + j) (some ob)) M (I.light C D hn ho hj down deps hn3 hTf S' f' hv T1 fun id => ?_)
          by_cases e : id = base + j
          · subst e
            refine ⟨j + 1, hjs, by rw [hTh, e1, Heap.set_get, Heap.set_get, if_pos rfl, if_pos rfl], fun i hi hw => ?_⟩
            have hji := C.wr_new hi hjs hw
            rcases Nat.eq_or_lt_of_le hji with e3 | e3
            · exact ⟨fun _ => by omega, fun _ => .inr e3.symm⟩
            · have hnl : ¬ L i := fun hl => by
                rcases C.wr_cls hi hw with g | g
                · have := C.wr2 hi g hw; omega
                · exact hj (down i j hl (D.before3 C e3 hi g (.inl hc2)))
              exact ⟨fun h => (h.elim (fun h => absurd h hnl) (fun h => by omega)), fun h => by omega⟩
          · obtain ⟨m, h1, h2, h3⟩ := I.hp id
            refine ⟨m, h1, by rw [Heap.set_get, if_neg e]; exact h2, fun i hi hw => ?_⟩
            have hne : i ≠ j := fun e2 => by
              subst e2
              exact e (C.wr2 hi hc2 hw)
            rw [← h3 i hi hw]
            exact ⟨fun h => h.resolve_right hne, .inl⟩
    · cases hstep
  · rename_i hwt
    rw [if_neg hwt]
    refine ⟨fun _ _ => trivial, ?_⟩
    have hTR := Option.some.inj hstep
    have hT : (⟨putA (T j).fr o.dst undefA, (T j).hp, (T j).nx, (T j).low⟩ : St) = T (j + 1) := congrArg Prod.fst hTR
    have hR : Rec.none = R j := congrArg Prod.snd hTR
    refine hK _ _ σ hL M (I.light C D hn ho hj down deps (by rw [← hR]; simp [Rec.none]) (by rw [← hT]) I.sim I.f1 V.undef Tr1.refl (I.hp_same hj fun id hw => ?_))
    exact hw (by rw [← hT])
end
end Go.AE
end

section
/- A region whose order is drawn comes to what its text's order comes to. -/
set_option linter.unusedSimpArgs false
set_option linter.unusedVariables false
namespace Go.AE
variable {F : Nat → Prop}

theorem zip_mem {α β γ : Type} {as : List α} {bs : List β} {cs : List γ} {i : Nat} {a : α} {b : β} {c : γ} (ha : as[i]? = some a) (hb : bs[i]? = some b) (hc : cs[i]? = some c) : (a, b, c) ∈ as.zip (bs.zip cs) := by
  refine List.mem_iff_getElem?.2 ⟨i, ?_⟩
  rw [List.getElem?_zip_eq_some]
  exact ⟨ha, by rw [List.getElem?_zip_eq_some]; exact ⟨hb, hc⟩⟩

theorem befs_some {ops : Array Oper} {j : Nat} (hj : j < ops.size) : ∃ b, (befs ops.toList [])[j]? = some b := by
  have : j < (befs ops.toList []).length := by rw [befs_len]; simpa using hj
  exact ⟨_, List.getElem?_eq_getElem this⟩

theorem ord_of {ops : Array Oper} {rs : List Rec} (hl : rs.length = ops.size) (hle : ∀ i, i < ops.size → (rs.getD i Rec.none).cls ≤ 3) (h : openPairs ops rs = true) :
    ∀ i j, i < j → j < ops.size → (rs.getD i Rec.none).cls ≠ 0 → (rs.getD j Rec.none).cls ≠ 0 → Bef ops j i ∨ apartA (rs.getD i Rec.none) (rs.getD j Rec.none) = true := by
  intro i j hij hj hi0 hj0
  have get : ∀ k, k < ops.size → rs[k]? = some (rs.getD k Rec.none) := fun k hk => by
    rw [List.getD_eq_getElem?_getD, List.getElem?_eq_getElem (by omega)]; rfl
  unfold openPairs at h
  rw [Bool.or_eq_true] at h
  rcases h with h | h
  · rw [List.all_eq_true] at h
    have h1 := Nat.le_of_ble_eq_true (h _ (List.mem_of_getElem? (get i (by omega))))
    have h2 := Nat.le_of_ble_eq_true (h _ (List.mem_of_getElem? (get j hj)))
    right
    generalize rs.getD i Rec.none = a at *
    generalize rs.getD j Rec.none = b at *
    have e1 : a.cls = 1 := by omega
    have e2 : b.cls = 1 := by omega
    obtain ⟨ac, ar, ad⟩ := a; obtain ⟨bc, br, bd⟩ := b; simp only at e1 e2; subst e1 e2; rfl
  · simp only [List.all_eq_true] at h
    obtain ⟨bj, hbj⟩ := befs_some hj
    obtain ⟨bi, hbi⟩ := befs_some (show i < ops.size by omega)
    have h1 := h (j, bj, rs.getD j Rec.none) (zip_mem (by simp [hj]) hbj (get j hj))
    simp only [Bool.or_eq_true] at h1
    rcases h1 with h1 | h1
    · exact absurd (Nat.eq_of_beq_eq_true h1) hj0
    · rw [List.all_eq_true] at h1
      have h2 := h1 (i, bi, rs.getD i Rec.none) (zip_mem (List.getElem?_range (by omega)) hbi (get i (by omega)))
      simp only [Bool.or_eq_true] at h2
      rcases h2 with ((h2 | h2) | h2) | h2
      · exact absurd (Nat.le_of_ble_eq_true h2) (by omega)
      · exact absurd (Nat.eq_of_beq_eq_true h2) hi0
      · exact .inl ⟨bj, hbj, h2⟩
      · exact .inr h2

theorem regionOk_draw {n : Nat} {ops : Array Oper} (h : regionOk n ops true = true) :
    (∀ j o, ops[j]? = some o → ∀ e ∈ o.after, Region.binds .any e = true → e.on < j) ∧ (∀ i j oi oj, i < j → ops[i]? = some oi → ops[j]? = some oj → confl ops oi oj = true → Bef ops j i) := by
  unfold regionOk at h
  simp only [Bool.and_eq_true, Bool.not_true, Bool.false_or, List.all_eq_true] at h
  have row : ∀ j o, ops[j]? = some o → ∃ b, (befs ops.toList [])[j]? = some b ∧ (j, b, o) ∈ (List.range ops.size).zip ((befs ops.toList []).zip ops.toList) := fun j o ho => by
    have hj : j < ops.size := (Array.getElem?_eq_some_iff.1 ho).1
    obtain ⟨b, hb⟩ := befs_some hj
    exact ⟨b, hb, zip_mem (by simp [hj]) hb (by simpa using ho)⟩
  refine ⟨fun j o ho e he hb => ?_, fun i j oi oj hij hi hj hc => ?_⟩
  · obtain ⟨b, _, hm⟩ := row j o ho
    have := (h.2 _ hm).1 e (by simpa using he)
    rw [hb] at this
    simpa [Nat.blt_eq] using this
  · obtain ⟨b, hb, hm⟩ := row j oj hj
    obtain ⟨b2, _, hm2⟩ := row i oi hi
    have := (h.2 _ hm).2 _ hm2
    simp only [Bool.or_eq_true] at this
    rcases this with (h1 | h1) | h1
    · exact absurd (Nat.le_of_ble_eq_true h1) (by omega)
    · exact ⟨b, hb, h1⟩
    · rw [hc] at h1; cases h1

section
variable {E : Env} {P : Program} {rec : Code → St → Out} {ops : Array Oper} {base n : Nat} {T : Nat → St} {R : Nat → Rec} {σ0 : Sg} {h0 : Heap} {w0 : World} {ds : List Deferred}

theorem getD_set {l : Array Bool} {i j : Nat} (hi : i < l.size) : (l.setIfInBounds i true).getD j false = true ↔ (l.getD j false = true ∨ j = i) := by
  simp only [Array.getD_eq_getD_getElem?, Array.getElem?_setIfInBounds]
  by_cases e : i = j
  · subst e; simp [hi]
  · rw [if_neg e]; exact ⟨.inl, fun h => h.resolve_right (fun h => e h.symm)⟩

theorem any_sound (EO : EnvOk E P) (RO : RecOk E P rec) {ro : Option Nat} (C : TC E rec ops base T R) (D : OD ops n R) (hn : n < 1048575) {Q : Exit → Act → World → Prop}
    (hQ : ∀ a w σ hL M L, Inv E F ops base n T R σ0 h0 w0 ds L a w σ hL M → (∀ i, i < ops.size → L i) → Q .normal a w) :
    ∀ (fuel : Nat) (listed : Array Bool) (U : List Nat) (a : Act) (w : World) (σ : Sg) (hL : Heap) (M : Nat), listed.size = ops.size → U.length ≤ fuel → (∀ i, i < ops.size → listed.getD i false = false → i ∈ U) →
      (∀ j o, listed.getD j false = true → ops[j]? = some o → ∀ e ∈ o.after, Region.binds .any e = true → listed.getD e.on false = true) →
      Inv E F ops base n T R σ0 h0 w0 ds (fun i => listed.getD i false = true) a w σ hL M → wpAnyIn (GF ro) 0 P .any ops Q fuel listed a w := by
  have same : ∀ (listed : Array Bool) (j : Nat), j < listed.size → (listed.getD j true = false ↔ ¬ listed.getD j false = true) := fun listed j hj => by
    simp only [Array.getD_eq_getD_getElem?, Array.getElem?_eq_getElem hj, Option.getD_some]
    cases listed[j] <;> simp
  have all : ∀ (listed : Array Bool), listed.size = ops.size → Region.ready .any ops listed = [] → ∀ j, j < ops.size → listed.getD j false = true := by
    intro listed hsz hr j
    induction j using Nat.strongRecOn with
    | _ j ih =>
      intro hj
      apply Classical.byContradiction
      intro hn'
      have : j ∈ Region.ready .any ops listed := mem_ready.2 ⟨(same listed j (by omega)).2 hn', ops[j], Array.getElem?_eq_getElem hj, fun e he hb => by
        have := D.edge j ops[j] (Array.getElem?_eq_getElem hj) e he hb
        exact ih e.on this (by omega)⟩
      rw [hr] at this; cases this
  intro fuel
  induction fuel with
  | zero =>
    intro listed U a w σ hL M hsz hU hUn hcl I
    have hU0 : U = [] := List.length_eq_zero_iff.1 (by omega)
    subst hU0
    have hall : ∀ i, i < ops.size → listed.getD i false = true := fun i hi => by
      apply Classical.byContradiction
      intro h
      exact absurd (hUn i hi (by simpa using h)) (by simp)
    refine ⟨?_, hQ a w σ hL M _ I hall⟩
    apply List.eq_nil_iff_forall_not_mem.2
    intro j hj
    obtain ⟨h1, o, ho, _⟩ := mem_ready.1 hj
    have hjs : j < ops.size := (Array.getElem?_eq_some_iff.1 ho).1
    exact (same listed j (by omega)).1 h1 (hall j hjs)
  | succ fuel ih =>
    intro listed U a w σ hL M hsz hU hUn hcl I
    refine ⟨fun hr => hQ a w σ hL M _ I (all listed hsz hr), fun j hj => ?_⟩
    obtain ⟨h1, o, ho, h2⟩ := mem_ready.1 hj
    have hjs : j < ops.size := (Array.getElem?_eq_some_iff.1 ho).1
    have hnj := (same listed j (by omega)).1 h1
    have down : ∀ x i, listed.getD x false = true → Bef ops x i → listed.getD i false = true := fun x i hx hb => by
      obtain ⟨b, hb1, hb2⟩ := hb
      have hxs : x < ops.size := by
        have := (List.getElem?_eq_some_iff.1 hb1).1
        rw [befs_len] at this; simpa using this
      exact Bef.closed (L := fun i => listed.getD i false = true) (fun j o h1 h2 e he hb => hcl j o h1 h2 e he hb) x ops[x] (Array.getElem?_eq_getElem hxs) (fun e he hb => hcl x _ hx (Array.getElem?_eq_getElem hxs) e he hb) i ⟨b, hb1, hb2⟩
    have deps : ∀ i, Bef ops j i → listed.getD i false = true := fun i hb =>
      Bef.closed (L := fun i => listed.getD i false = true) (fun j o h1 h2 e he hb => hcl j o h1 h2 e he hb) j o ho (fun e he hb => h2 e he hb) i hb
    refine inv_step EO RO I C D hn ho hnj down deps fun a' w' σ' hL' M' I' => ?_
    have eL : (fun i => (listed.setIfInBounds j true).getD i false = true) = (fun i => listed.getD i false = true ∨ i = j) := by
      funext i; exact propext (getD_set (by omega))
    refine ih (listed.setIfInBounds j true) (U.erase j) a' w' σ' hL' M' (by simp [hsz]) ?_ (fun i hi hni => ?_) (fun x ox hx hox e he hb => ?_) (by rw [eL]; exact I')
    · have hjU := hUn j hjs (by simpa using hnj)
      rw [List.length_erase_of_mem hjU]; omega
    · have : ¬ (listed.getD i false = true ∨ i = j) := fun h => by rw [(getD_set (by omega)).2 h] at hni; cases hni
      have hne : i ≠ j := fun h => this (.inr h)
      refine (List.mem_erase_of_ne hne).2 (hUn i hi ?_)
      cases hh : listed.getD i false with
      | false => rfl
      | true => exact absurd (.inl hh) this
    · refine (getD_set (by omega)).2 (.inl ?_)
      rcases (getD_set (by omega)).1 hx with h | h
      · exact hcl x ox h hox e he hb
      · subst h
        rw [ho] at hox; obtain rfl := Option.some.inj hox
        exact h2 e he hb

/-- A drawn region. -/
theorem draw_sound (EO : EnvOk E P) (RO : RecOk E P rec) {ro : Option Nat} (rsy : RecSyn rec) (ral : RecAl rec) (hn : n < 1048575) (hok : regionOk n ops true = true) {st st' : St} {rs : List Rec}
    (hr : runOps E rec ops st.nx 0 ops.toList ⟨st.fr, st.hp, st.nx + ops.size, st.low⟩ = some (st', rs)) (hop : openPairs ops rs = true) {σ : Sg} {a : Act} {w : World} (S : SR E F σ n st a w) (id : Nat)
    {Q : Exit → Act → World → Prop} (hQ : ∀ σ' a' w', SR E F σ' n st' a' w' → a'.defers = a.defers → Tr0 F σ st.hp st.nx w σ' st'.hp st'.nx w' st'.low → Q .normal a' w') :
    (Code.region id ops true).wpIn (GF ro) 0 P Q a w := by
  obtain ⟨T, t0, t1, t2, t3⟩ := trace_of _ _ _ _ _ hr
  simp only [Array.length_toList, Nat.zero_add] at t1 t2 t3
  have C : TC E rec ops st.nx T (fun k => rs.getD k Rec.none) := by
    refine ⟨fun k o ho => t3 k o (by simpa using ho), rsy, ral, by rw [t0]; exact Nat.le_refl _, fun id hid => by rw [t0]; exact (S.fresh id hid).2, ?_⟩
    rw [t0]
    refine ⟨fun id h => ?_, fun id o k h1 h2 => ?_⟩
    · rcases Nat.lt_or_ge id st.nx with h' | h'
      · exact h'
      · exact absurd (S.fresh id h').2 h
    · rcases Nat.lt_or_ge k st.nx with h' | h'
      · exact h'
      · exact absurd (S.fresh k h').1 (S.sim.ali id o k h1 h2).1
  obtain ⟨e1, e2⟩ := regionOk_draw hok
  have D : OD ops n (fun k => rs.getD k Rec.none) := ⟨regionOk_dst hok, e1, e2, ord_of t2 (fun i hi => (C.cases hi).2.2.2.2) hop⟩
  refine wpIn_region_any EO.mixed ?_
  have hsame : Same0 w { w with drawn := w.drawn + 1 } := ⟨Nat.le_refl _, fun _ _ => rfl, rfl, rfl, rfl⟩
  have S1 := S.sim.grown hsame
  have tr1 : Tr0 F σ st.hp st.nx w σ st.hp (T 0).nx { w with drawn := w.drawn + 1 } (T ops.size).low := by
    have := hsame.tr S.sim st.nx (T ops.size).low
    exact ⟨this.kept, this.os, this.tape, this.output, by rw [t0]; simp, this.still, this.sg, this.hp, this.gone, this.fo⟩
  have I0 : Inv E F ops st.nx n T (fun k => rs.getD k Rec.none) σ st.hp w a.defers (fun i => (Array.replicate ops.size false).getD i false = true) a { w with drawn := w.drawn + 1 } σ st.hp 0 := by
    have hno : ∀ i, ¬ (Array.replicate ops.size false).getD i false = true := fun i h => by
      rw [Array.getD_eq_getD_getElem?, Array.getElem?_replicate] at h
      split at h <;> simp at h
    refine ⟨S1, Nat.zero_le _, S.fr.size, fun t => ⟨0, Nat.zero_le _, ?_, fun i o _ _ => ⟨fun h => absurd h (hno i), fun h => by omega⟩⟩, fun id => ⟨0, Nat.zero_le _, by rw [t0], fun i _ _ => ⟨fun h => absurd h (hno i), fun h => by omega⟩⟩,
      fun i _ _ => ⟨fun h => absurd h (hno i), fun h => by omega⟩, fun id hid => ?_, fun i _ _ => (S.fresh _ (by omega)).1, tr1, rfl⟩
    · rw [t0]; exact V.mono (hsame.kept σ _) _ _ (S.fr.get t)
    · rw [t0] at hid; simp only at hid; exact S.fresh id (by omega)
  refine any_sound EO RO C D hn (fun a' w' σ' hL M L I hall => ?_) ops.size _ (List.range ops.size) a _ σ st.hp 0 (by simp) (by simp) (fun i hi _ => by simpa using hi) (fun j o h => ?_) I0
  · have eh : hL = st'.hp := by
      funext id
      obtain ⟨m, hm, h1, h2⟩ := I.hp id
      rw [h1, ← t1]
      refine (seg_hp hm fun i a b hw => ?_).symm
      have := (h2 i b hw).1 (hall i b)
      omega
    have en : (T M).nx = st'.nx := by
      rw [← t1]
      refine (C.nx_eq I.Mle (Nat.le_refl _) fun i a b h3 => ?_).symm
      have := (I.c3 i b h3).1 (hall i b)
      omega
    have tr := I.tr
    have f1 := I.f1
    rw [en, eh] at tr
    rw [en, eh] at f1
    rw [t1] at tr
    refine hQ σ' a' w' ⟨eh ▸ I.sim, f1, I.sz, fun t => ?_⟩ I.df tr
    obtain ⟨m, hm, h1, h2⟩ := I.fr t
    have : (T ops.size).fr.get t = (T m).fr.get t := C.seg_fr hn D.dst hm (Nat.le_refl _) fun i o a b c d => by
      have := (h2 i o c d).1 (hall i b)
      omega
    rw [← t1, this, t1, ← eh]; exact h1
  · rw [Array.getD_eq_getD_getElem?, Array.getElem?_replicate] at h
    split at h <;> simp at h
end
end Go.AE
end

section
/- A scope in which the run jumps. -/
namespace Go.AE

theorem stepR_scope {P : Program} {b : Frame} {a : Act} {k : List Item} {cs : List Frame} {w : World} {c : Code} : Go.step P (lone (b.atR a (.code (.scope c) :: k)) cs w) = .next (lone (b.atR a (.code c :: .inScope c :: k)) cs w) :=
  step_lone_go (by simp [stepG, stepG.exec, Frame.atR])
theorem stepR_inScope {P : Program} {b : Frame} {a : Act} {k : List Item} {cs : List Frame} {w : World} {c : Code} : Go.step P (lone (b.atR a (.inScope c :: k)) cs w) = .next (lone (b.atR a k) cs w) :=
  step_lone_go (by simp [stepG, stepG.exec, Frame.atR])

/-- What holds when a scope's rest is run, jumps counted. -/
def Scoped (F : Fence) (n : Nat) (P : Program) (b : Code) (Q : Exit → Act → World → Prop) : Nat → Code → Act → World → Prop
  | 0, _, _, _ => False
  | m + 1, c, a, w => c.wpIn F n P (fun e a' w' => match e with
      | .goto l => ∃ rest, findLabel b l = some rest ∧ Scoped F n P b Q m rest a' w'
      | e => Q e a' w') a w

theorem wp_scoped {F : Fence} {n : Nat} {P : Program} {b : Code} {Q : Exit → Act → World → Prop} {m : Nat} {a : Act} {w : World} (h : Scoped F n P b Q m b a w) : (Code.scope b).wpIn F n P Q a w := by
  intro fr k cs hro hb hr
  have key : ∀ m c a w, Scoped F n P b Q m c a w → ∃ e a' w', Q e a' w' ∧ ArrivesIn (Machine.fenced P F) P (lone (fr.atR a (.code c :: .inScope b :: k)) cs w) fr k cs e a' w' := by
    intro m
    induction m with
    | zero => intro c a w h; exact h.elim
    | succ m ih =>
      intro c a w h
      obtain ⟨e, a₁, w₁, hq, harr⟩ := h fr (.inScope b :: k) cs hro hb hr
      cases e with
      | normal => exact ⟨.normal, a₁, w₁, hq, StepsIn.trans harr (.one (fenced_calm (fr := fr.atR a₁ (.inScope b :: k)) hb hr rfl) stepR_inScope)⟩
      | exit id => exact ⟨.exit id, a₁, w₁, hq, fun k' hk => harr.1 k' (by simp [exitTo, hk]), fun hr' hk => harr.2 hr' (by simp [exitTo, hk])⟩
      | goto l =>
        obtain ⟨rest, hf, hs⟩ := hq
        obtain ⟨e₂, a₂, w₂, hq₂, harr₂⟩ := ih rest a₁ w₁ hs
        have hg : gotoIn l (.inScope b :: k) = some (.code rest :: .inScope b :: k) := by simp [gotoIn, hf]
        exact ⟨e₂, a₂, w₂, hq₂, .of_steps (harr.1 _ hg) harr₂⟩
      | ret => exact ⟨_, a₁, w₁, hq, harr⟩
      | panic ch => exact ⟨_, a₁, w₁, hq, harr⟩
      | outgrown => exact ⟨_, a₁, w₁, hq, harr⟩
  obtain ⟨e, a₁, w₁, hq, harr⟩ := key m b a w h
  exact ⟨e, a₁, w₁, hq, .of_steps (.one (fenced_calm (fr := fr.atR a (.code (.scope b) :: k)) hb hr rfl) stepR_scope) harr⟩
end Go.AE
end

section
/- Code comes to what the evaluator says; and a whole call. -/
set_option linter.unusedSimpArgs false
set_option linter.unusedVariables false
namespace Go.AE
variable {F : Nat → Prop}

/-- What code leaves. -/
def After (E : Env) (B : Nat) (F : Nat → Prop) (σ : Sg) (n : Nat) (st : St) (w : World) (e : AExit) (st' : St) (ex : Exit) (a' : Act) (w' : World) : Prop :=
  ex = exitOf e ∧ ∃ σ', SR E F σ' n st' a' w' ∧ DfOk B (own F σ' st'.hp) w' a'.defers ∧ Tr0 F σ st.hp st.nx w σ' st'.hp st'.nx w' st'.low

/-- A loop's rounds. -/
def RecLoop (E : Env) (P : Program) (rec : Code → St → Out) (m : Nat) : Prop :=
  ∀ b st e st', rec (.loop b) st = some (e, st') → ∀ (r : Option Nat) (B : Nat) (F : Nat → Prop) (σ : Sg) (n : Nat) (a : Act) (w : World), SR E F σ n st a w → DfOk B (own F σ st.hp) w a.defers → B ≤ w.heap.size → n < 1048575 → codeOk n b = true →
    (r.isSome = true → noRange b = true) → Code.roundsIn (GF r) 0 P b (After E B F σ n st w e st') m a w

theorem rounds_mono {G : Fence} {P : Program} {c : Code} {Q Q' : Exit → Act → World → Prop} (h : ∀ e a w, Q e a w → Q' e a w) : ∀ (m : Nat) (a : Act) (w : World), Code.roundsIn G 0 P c Q m a w → Code.roundsIn G 0 P c Q' m a w
  | 0, _, _, hr => hr.elim
  | m + 1, a, w, hr => by
    rw [roundsIn_succ] at hr ⊢
    refine wpIn_mono hr fun e a' w' h' => ?_
    cases e with
    | normal => exact rounds_mono h m a' w' h'
    | _ => exact h _ _ _ h'

section
variable {E : Env} {P : Program} {rec : Code → St → Out}

theorem After.trans {B : Nat} {σ σ1 : Sg} {n : Nat} {st st1 st2 : St} {w w1 : World} {e : AExit} (hl : st2.low ≤ st1.low) (T : Tr0 F σ st.hp st.nx w σ1 st1.hp st1.nx w1 st1.low)
    (ex : Exit) (a' : Act) (w' : World) (h : After E B F σ1 n st1 w1 e st2 ex a' w') : After E B F σ n st w e st2 ex a' w' := by
  obtain ⟨h1, σ', h3, hd, h4⟩ := h
  exact ⟨h1, σ', h3, hd, T.trans h4 hl⟩

theorem SR.self {B : Nat} {σ : Sg} {n : Nat} {st : St} {a : Act} {w : World} (S : SR E F σ n st a w) (hd : DfOk B (own F σ st.hp) w a.defers) (e : AExit) : After E B F σ n st w e st (exitOf e) a w :=
  ⟨rfl, σ, S, hd, Tr0.refl σ st.hp st.nx w st.low⟩

theorem step_loop_sound (RO : RecOk E P rec) (rsy : RecSyn rec) {m : Nat} (RL : RecLoop E P rec m) : RecLoop E P (step E rec) (m + 1) := by
  intro b st e st' hr r B F σ n a w S hd hB hn hok hng
  simp only [step] at hr
  rw [roundsIn_succ]
  split at hr
  · rename_i st1 h1
    refine wpIn_mono (RO _ _ _ _ h1 r B F σ n a w S hd hB hn hok hng).1 ?_
    rintro ex a1 w1 ⟨rfl, σ1, S1, hd1, T1⟩
    exact rounds_mono (fun ex a' w' h => After.trans (rsy _ _ _ _ hr).2 T1 ex a' w' h) m a1 w1 (RL b st1 e st' hr r B F σ1 n a1 w1 S1 hd1 (Nat.le_trans hB T1.kept.size) hn hok hng)
  · rename_i rr hne
    cases hb : rec b st with
    | none => rw [hb] at hr; cases hr
    | some p =>
      obtain ⟨e1, st1⟩ := p
      rw [hb] at hr
      cases hr
      refine wpIn_mono (RO _ _ _ _ hb r B F σ n a w S hd hB hn hok hng).1 ?_
      rintro ex a1 w1 ⟨rfl, σ1, S1, hd1, T1⟩
      cases e with
      | normal => exact absurd hb (hne st')
      | _ => exact ⟨rfl, σ1, S1, hd1, T1⟩

theorem findLabel_ok {n : Nat} {l : Nat} : ∀ (b rest : Code), findLabel b l = some rest → codeOk n b = true → codeOk n rest = true := by
  intro b
  induction b with
  | seq x y ihx ihy =>
    intro rest h hok
    have hok' : (codeOk n x && codeOk n y) = true := hok
    rw [Bool.and_eq_true] at hok'
    rw [findLabel] at h
    split at h
    · rename_i r hr
      cases h
      change (codeOk n r && codeOk n y) = true
      rw [ihx r hr hok'.1, hok'.2]; rfl
    · exact ihy rest h hok'.2
  | label l' =>
    intro rest h hok
    rw [findLabel] at h
    split at h
    · cases h; rfl
    · cases h
  | _ => intro rest h hok; simp [findLabel] at h

theorem findLabel_nr {l : Nat} : ∀ (b rest : Code), findLabel b l = some rest → noRange b = true → noRange rest = true := by
  intro b
  induction b with
  | seq x y ihx ihy =>
    intro rest h hok
    have hok' : (noRange x && noRange y) = true := hok
    rw [Bool.and_eq_true] at hok'
    rw [findLabel] at h
    split at h
    · rename_i r hr
      cases h
      change (noRange r && noRange y) = true
      rw [ihx r hr hok'.1, hok'.2]; rfl
    · exact ihy rest h hok'.2
  | label l' =>
    intro rest h hok
    rw [findLabel] at h
    split at h
    · cases h; rfl
    · cases h
  | _ => intro rest h hok; simp [findLabel] at h

theorem Scoped.mono {G : Fence} {b : Code} {Q Q' : Exit → Act → World → Prop} (h : ∀ e a w, Q e a w → Q' e a w) : ∀ (m : Nat) (c : Code) (a : Act) (w : World), Scoped G 0 P b Q m c a w → Scoped G 0 P b Q' m c a w
  | 0, _, _, _, hr => hr.elim
  | m + 1, c, a, w, hr => by
    rw [Scoped] at hr ⊢
    refine wpIn_mono hr fun e a' w' h' => ?_
    cases e with
    | goto l => obtain ⟨rest, h1, h2⟩ := h'; exact ⟨rest, h1, Scoped.mono h m rest a' w' h2⟩
    | _ => exact h _ _ _ h'

theorem scopeA_sound (RO : RecOk E P rec) (rsy : RecSyn rec) (b : Code) {n : Nat} (hb : codeOk n b = true) {r : Option Nat} (hbr : r.isSome = true → noRange b = true) : ∀ (m : Nat) (c : Code) (st : St) (e : AExit) (st' : St), scopeA rec b m c st = some (e, st') →
    ∀ (B : Nat) (F : Nat → Prop) (σ : Sg) (n' : Nat) (a : Act) (w : World), SR E F σ n st a w → DfOk B (own F σ st.hp) w a.defers → B ≤ w.heap.size → n < 1048575 → codeOk n c = true → (r.isSome = true → noRange c = true) →
      Scoped (GF r) 0 P b (After E B F σ n st w e st') m c a w := by
  intro m
  induction m with
  | zero => intro c st e st' hr; simp [scopeA] at hr
  | succ m ih =>
    intro c st e st' hr B F σ _ a w S hd hB hn hok hng
    rw [scopeA] at hr
    rw [Scoped]
    split at hr
    · rename_i l st1 h1
      split at hr
      · rename_i rest hf
        refine wpIn_mono (RO _ _ _ _ h1 r B F σ n a w S hd hB hn hok hng).1 ?_
        rintro ex a1 w1 ⟨rfl, σ1, S1, hd1, T1⟩
        exact ⟨rest, hf, Scoped.mono (fun ex a' w' h => After.trans (scopeA_hp rsy b m _ _ _ _ hr).2 T1 ex a' w' h) m rest a1 w1
          (ih rest st1 e st' hr B F σ1 n a1 w1 S1 hd1 (Nat.le_trans hB T1.kept.size) hn (findLabel_ok b rest hf hb) (fun h => findLabel_nr b rest hf (hbr h)))⟩
      · cases hr
    · rename_i rr hne
      refine wpIn_mono (RO _ _ _ _ hr r B F σ n a w S hd hB hn hok hng).1 ?_
      rintro ex a1 w1 ⟨rfl, σ1, S1, hd1, T1⟩
      cases e with
      | goto l => exact absurd hr (hne l st')
      | _ => exact ⟨rfl, σ1, S1, hd1, T1⟩

theorem isJump_ok {n : Nat} {c : Code} (h : isJump c = true) : codeOk n c = true := by
  cases c <;> first | rfl | cases h

theorem rangeA_sound (EO : EnvOk E P) (RO : RecOk E P rec) (rsy : RecSyn rec) {f : Operand} {ps : Array Tmp} {asg body : Code} {st st' : St} {e : AExit} (hr : rangeA E rec f ps.toList asg body st = some (e, st'))
    {B : Nat} {σ : Sg} {n : Nat} {a : Act} {w : World} (S : SR E F σ n st a w) (hd : DfOk B (own F σ st.hp) w a.defers) (hB : B ≤ w.heap.size) (hn : n < 1048575) (hok : codeOk n (.rangeFunc f ps asg body) = true) :
    (Code.rangeFunc f ps asg body).wpIn (GF none) 0 P (After E B F σ n st w e st') a w := by
  unfold rangeA at hr
  split at hr
  · rename_i g first captured hfv
    split at hr
    · rename_i v h2 nx2 low hcall
      have hfe := opnd_V S.fr hfv
      rw [V] at hfe
      obtain ⟨A, C, hfe, hA, hC⟩ := hfe
      -- the block of the mark, and the record
      have hsame : Same0 w (w.alloc (.deferred (some []))) := by
        refine ⟨by simp, fun b hb => ?_, rfl, rfl, rfl⟩
        show (w.heap.push _)[b]? = _
        rw [Array.getElem?_push, if_neg (by omega)]
      have Sa := S.sim.grown hsame
      simp only [codeOk, Bool.and_eq_true] at hok
      obtain ⟨⟨⟨⟨c1, c2⟩, c3⟩, c4⟩, c5⟩ := hok
      have lok : LoopOk a.tmps.size ps.toList asg body := by
        rw [S.fr.size]
        exact ⟨hn, fun p hp => by have := List.all_eq_true.1 c1 p hp; simpa [Nat.blt_eq] using this, c2, c3, c4, c5⟩
      obtain ⟨s1, s2⟩ := S.fresh st.nx (Nat.le_refl _)
      refine wpIn_rangeFunc (F := GF none) (n := 0) fun fn _ => ?_
      have hst := alloc_step (E := E) (F := F) Sa (aid := st.nx) s1 (w' := (w.alloc (.deferred (some []))).alloc (.loop { state := .ready, pending := none, fn, tmps := a.tmps, params := ps, assign := asg, body, defers := w.heap.size }))
        (obj := .loop { state := .ready, pending := none, fn, tmps := a.tmps, params := ps, assign := asg, body, defers := w.heap.size }) (o := .loop st.fr ps.toList asg body .ready none) (s := ⟨w.heap.size + 1, 0, 1, 0⟩) rfl rfl rfl rfl (by simp) (fun _ h => h.elim)
        (fun σ2 O2 k => ⟨rfl, fn, a.tmps, w.heap.size, by
            have := World.alloc_heap_new (w.alloc (.deferred (some []))) (.loop { state := .ready, pending := none, fn, tmps := a.tmps, params := ps, assign := asg, body, defers := w.heap.size })
            rw [World.size_alloc] at this
            simpa using this, lok, fun t => V.mono k _ _ (V.mono (hsame.kept σ _) _ _ (S.fr.get t))⟩)
      obtain ⟨Sb, Tb⟩ := hst
      generalize hW : (w.alloc (.deferred (some []))).alloc (.loop { state := .ready, pending := none, fn, tmps := a.tmps, params := ps, assign := asg, body, defers := w.heap.size }) = W at Sb Tb
      have hWs : W.heap.size = w.heap.size + 2 := by rw [← hW]; simp
      have hWD : W.heap[w.heap.size]? = some (.deferred (some [])) := by
        rw [← hW]
        show ((w.heap.push _).push _)[w.heap.size]? = _
        rw [Array.getElem?_push, if_neg (by simp), Array.getElem?_push, if_pos rfl]
      have hWb : ∀ b, b < w.heap.size → W.heap[b]? = w.heap[b]? := fun b hb => by
        rw [← hW]
        show ((w.heap.push _).push _)[b]? = _
        rw [Array.getElem?_push, if_neg (by simp; omega), Array.getElem?_push, if_neg (by omega)]
      have hWo : W.os = w.os ∧ W.tape = w.tape ∧ W.output = w.output := by rw [← hW]; exact ⟨rfl, rfl, rfl⟩
      -- the call
      have hvA : VL (fun i => if i = st.nx then some ⟨w.heap.size + 1, 0, 1, 0⟩ else σ i) (own F (fun i => if i = st.nx then some ⟨w.heap.size + 1, 0, 1, 0⟩ else σ i) (st.hp.set st.nx (some (.loop st.fr ps.toList asg body .ready none)))) W false
          (first ++ [.yld st.nx] ++ captured) (A.toList ++ [.func (.yield (w.heap.size + 1)) #[] #[]] ++ C.toList) := by
        have kk := (hsame.kept σ (own F σ st.hp)).trans Tb.kept
        refine VL_append (VL_append (VL.mono kk _ _ _ hA) ?_) (VL.mono kk _ _ _ hC)
        rw [VL]
        exact ⟨_, [], rfl, fun h => (by cases h), by rw [V]; exact ⟨_, if_pos rfl, rfl⟩, by rw [VL]⟩
      have hfr1 : ∀ id, st.nx + 1 ≤ id → (fun i => if i = st.nx then some (⟨w.heap.size + 1, 0, 1, 0⟩ : SI) else σ i) id = none ∧ (st.hp.set st.nx (some (.loop st.fr ps.toList asg body .ready none))) id = none := fun id hid => by
        obtain ⟨m1, m2⟩ := S.fresh id (by omega)
        exact ⟨by simp only; rw [if_neg (by omega)]; exact m1, by rw [Heap.set_get, if_neg (by omega)]; exact m2⟩
      obtain ⟨⟨fn1, f1, f2, f3⟩, hcalls⟩ := callA_sound EO RO hcall Sb hfr1 hvA
      have f3' : fn1.body.isNone = false := by cases hb : fn1.body <;> simp_all
      have earr : (A.toList ++ [Value.func (.yield (w.heap.size + 1)) #[] #[]] ++ C.toList).toArray = A ++ #[.func (.yield (w.heap.size + 1)) #[] #[]] ++ C := by
        apply Array.ext'; simp
      rw [earr] at hcalls
      refine ⟨w.heap.size + 1, [{ target := .collected w.heap.size, args := #[] }], W, { target := .fn (.func g) C, args := A ++ #[.func (.yield (w.heap.size + 1)) #[] #[]] }, W, g, A ++ #[.func (.yield (w.heap.size + 1)) #[] #[]] ++ C, W, ?_, ?_, fun _ _ => trivial, ?_, fun h => (by cases h), ?_⟩
      · rw [← hW]; exact run_enterLoop_outer fn a.tmps ps asg body
      · simp only [Go.resolve, rangeCall, hfe, Deferred.ofValue, Sem.run_pure]
        simp [Act.eval]
      · simp only [invoke, callFunc, Sem.run_bind, run_program, Result.andThen_ok, f1, f2, f3', if_false, Bool.false_eq_true, Sem.run_pure]
      refine CallsIn.mono (callsIn_wide.2 hcalls : CallsIn Fence.wide (0 - 1) P g _ W _) ?_
      rintro ee w' ⟨val, σ', rfl, S', hfr', _, T'⟩
      split at hr
      · rename_i fr2 ps2 asg2 body2 s pend h2l
        have hq : σ' st.nx = some ⟨w.heap.size + 1, 0, 1, 0⟩ := by rw [T'.sg st.nx (by omega)]; exact if_pos rfl
        obtain ⟨r, m1, m2, m3, m4, m5⟩ := loop_turn S' h2l hq .exhausted pend
        have hnb : s ≠ .busy := fun e => by subst e; simp at hr
        -- the state behind the loop
        have hr0 : ∀ W4, Sim E F σ' (h2.set st.nx (some (.loop fr2 ps2 asg2 body2 .exhausted pend))) W4 → (∀ nx low, Tr0 F σ' h2 nx w' σ' (h2.set st.nx (some (.loop fr2 ps2 asg2 body2 .exhausted pend))) nx W4 (Nat.min low st.nx)) →
            (∀ b, b ≠ w.heap.size + 1 → W4.heap[b]? = w'.heap[b]?) →
            SR E F σ' n ⟨st.fr, h2.set st.nx none, nx2, Nat.min st.low low⟩ { a with defers := { target := .collected w.heap.size, args := #[] } :: a.defers } W4 ∧
            DfOk B (own F σ' (h2.set st.nx none)) W4 ({ target := .collected w.heap.size, args := #[] } :: a.defers) ∧
            Tr0 F σ st.hp st.nx w σ' (h2.set st.nx none) nx2 W4 (Nat.min st.low low) := by
          intro W4 S4 T4 hoth
          obtain ⟨S5, k5⟩ := S4.drop st.nx
          have eset : (h2.set st.nx (some (.loop fr2 ps2 asg2 body2 .exhausted pend))).set st.nx none = h2.set st.nx none := by
            funext j; rw [Heap.set_get, Heap.set_get, Heap.set_get]; split <;> rfl
          rw [eset] at S5 k5
          have t4 := T4 nx2 low
          have kept : Kept σ (own F σ st.hp) w σ' (own F σ' (h2.set st.nx none)) W4 := (((hsame.kept σ _).trans Tb.kept).trans (T'.kept.trans t4.kept)).trans k5
          have hns := T'.nxle
          have old : ∀ id s', σ id = some s' → ∀ o, st.hp id = some o → s'.block < w.heap.size := fun id s' h1 o h2 => S.sim.own_lt _ (.inr ⟨id, o, s', h2, h1, rfl⟩)
          refine ⟨⟨S5, fun id hid => ?_, S.fr.mono kept⟩, ?_, kept, ?_, ?_, ?_, by omega, fun id s' o a1 a2 a3 a4 => ?_, fun id hid => ?_, fun id h1 h3 => ?_, fun id h1 h3 => ?_, fun b hb => ?_⟩
          · obtain ⟨u1, u2⟩ := hfr' id hid
            exact ⟨u1, by show (h2.set st.nx none) id = none; rw [Heap.set_get]; split
                          · rfl
                          · exact u2⟩
          · obtain ⟨Ds, e1, e2, e3⟩ := hd
            have hlt : ∀ D ∈ Ds, D < w.heap.size := fun D hD => (Array.getElem?_eq_some_iff.1 (e3 D hD).2.1).1
            refine ⟨w.heap.size :: Ds, by rw [e1]; rfl, List.nodup_cons.2 ⟨fun h => Nat.lt_irrefl _ (hlt _ h), e2⟩, fun D hD => ?_⟩
            rcases List.mem_cons.1 hD with rfl | hD
            · have nW : ¬ own F (fun i => if i = st.nx then some ⟨w.heap.size + 1, 0, 1, 0⟩ else σ i) (st.hp.set st.nx (some (.loop st.fr ps.toList asg body .ready none))) w.heap.size := by
                rintro (hF | ⟨id, o, s', h1, h3, h4⟩)
                · exact Nat.lt_irrefl _ (S.sim.fo _ hF).1
                · rw [Heap.set_get] at h1
                  by_cases e : id = st.nx
                  · simp only [e, if_true, Option.some.injEq] at h3; subst h3; simp at h4
                  · rw [if_neg e] at h1; simp only [e, if_false] at h3
                    have := old id s' h3 o h1; omega
              have n1 : ¬ own F σ' h2 w.heap.size := fun h => (T'.kept.own _ h).elim nW (by omega)
              have n2 : ¬ own F σ' (h2.set st.nx none) w.heap.size := fun h => by
                rcases k5.own _ h with h | h
                · rcases t4.kept.own _ h with h | h
                  · exact n1 h
                  · have := T'.kept.size; omega
                · have := t4.kept.size; have := T'.kept.size; omega
              exact ⟨hB, by rw [hoth _ (by omega), T'.kept.block _ (by omega) nW]; exact hWD, n2⟩
            · obtain ⟨u1, u2, u3⟩ := e3 D hD
              have hlD := hlt D hD
              refine ⟨u1, (kept.block D hlD u3).trans u2, fun h => (kept.own D h).elim u3 (by omega)⟩
          · rw [t4.os, T'.os]; exact hWo.1
          · rw [t4.tape, T'.tape]; exact hWo.2.1
          · rw [t4.output, T'.output]; exact hWo.2.2
          · have hl := old id s' a2 o a3
            have a5 : id < low := Nat.lt_of_lt_of_le a4 (Nat.min_le_right _ _)
            rw [hoth _ (by omega), ← hWb _ hl]
            exact T'.still id s' o (by omega) (by rw [if_neg (by omega)]; exact a2) (by rw [Heap.set_get, if_neg (by omega)]; exact a3) a5
          · have := T'.sg id (by omega)
            rw [this]; rw [if_neg (by omega)]
          · have a5 : id < low := Nat.lt_of_lt_of_le h3 (Nat.min_le_right _ _)
            have := T'.hp id (by omega) a5
            rw [Heap.set_get, if_neg (by omega), this, Heap.set_get, if_neg (by omega)]
          · have := T'.gone id (by omega) (by rw [Heap.set_get, if_neg (by omega)]; exact h3)
            rw [Heap.set_get, if_neg (by omega)]; exact this
          · have hl := (S.sim.fo b hb).1
            rw [hoth _ (by omega), T'.fo b hb, hWb _ hl]
        have ho : ∀ b, b ≠ w.heap.size + 1 → (w'.putObj (w.heap.size + 1) (.loop { r with state := .exhausted, pending := pend })).heap[b]? = w'.heap[b]? := fun b hb => World.putObj_heap_other hb
        obtain ⟨q1, q2, q3⟩ := hr0 _ m4 m5 ho
        have m3' : r.pending = pend := m3
        have er : ({ r with state := .exhausted } : Loop) = { r with state := .exhausted, pending := pend } := by rw [← m3']
        refine ⟨pend, w'.putObj (w.heap.size + 1) (.loop { r with state := .exhausted, pending := pend }), ?_, ?_⟩
        · have := run_endLoop (P := P) m1 (by rw [m2]; exact hnb)
          rw [er, m3'] at this
          exact this
        · split at hr
          · exact absurd rfl hnb
          · split at hr
            · cases hr
              exact ⟨rfl, σ', q1, q2, q3⟩
            · rename_i c
              rw [cond_eq_ite] at hr
              split at hr
              · rename_i hj
                refine wpIn_mono (RO _ _ _ _ hr none B F σ' n _ _ q1 q2 (Nat.le_trans hB q3.kept.size) hn (isJump_ok hj) (fun h => by cases h)).1 ?_
                exact fun ex a' w' h => After.trans (rsy _ _ _ _ hr).2 q3 ex a' w' h
              · cases hr
      · cases hr
    · cases hr
  · cases hr

theorem step_sound (EO : EnvOk E P) (RO : RecOk E P rec) (rsy : RecSyn rec) (ral : RecAl rec) {m : Nat} (RL : RecLoop E P rec m) : RecOk E P (step E rec) := by
  intro c st e st' hr r B F σ n a w S hd hB hn hok hng
  refine ⟨?_, (step_hp rsy _ _ _ _ hr).2⟩
  change c.wpIn (GF r) 0 P (After E B F σ n st w e st') a w
  cases c <;> simp only [step, reduceCtorEq] at hr
  case skip => cases hr; exact wpIn_skip (S.self hd .normal)
  case label => cases hr; exact wpIn_label (S.self hd .normal)
  case exit id => cases hr; exact wpIn_exit (S.self hd (.exit id))
  case goto l => cases hr; exact wpIn_goto (S.self hd (.goto l))
  case ret => cases hr; exact wpIn_ret (S.self hd .ret)
  case rangeFunc f ps asg body =>
    cases r with
    | some l => exact absurd (hng rfl) (by simp [noRange])
    | none => exact rangeA_sound EO RO rsy hr S hd hB hn hok
  case region id ops draw =>
    split at hr
    · rename_i st1 rcs h1
      rw [cond_eq_ite] at hr
      split at hr
      · cases hr
      · rename_i hnd
        cases hr
        have hok' : regionOk n ops draw = true := hok
        have hQ : ∀ σ' a' w', SR E F σ' n st' a' w' → a'.defers = a.defers → Tr0 F σ st.hp st.nx w σ' st'.hp st'.nx w' st'.low → After E B F σ n st w .normal st' .normal a' w' :=
          fun σ' a' w' h1 h2 h3 => ⟨rfl, σ', h1, by rw [h2]; exact hd.mono h3.kept, h3⟩
        cases draw with
        | true => exact draw_sound EO RO rsy ral hn hok' h1 (by simpa using hnd) S id hQ
        | false =>
          refine wpIn_region ?_
          have := runOps_sound (Q := After E B F σ n st w .normal st') (ro := r) EO RO rsy hn (regionOk_dst hok') (base := st.nx) (σ0 := σ) (h0 := st.hp) (w0 := w) (ds := a.defers) ops.toList 0 _ st' rcs a w σ (by simp) (Nat.zero_le _) h1
            ⟨S.sim, fun id hid => S.fresh id (by simp only at hid; omega), S.fr⟩ (Nat.le_refl _) (fun k _ hk => S.fresh _ (by omega)) rfl
            (by
              have := Tr0.refl (F := F) σ st.hp st.nx w st.low
              exact ⟨this.kept, this.os, this.tape, this.output, by simp, this.still, this.sg, this.hp, this.gone, this.fo⟩) hQ
          rw [Array.length_toList, ← List.range_eq_range'] at this
          exact this
    · cases hr
  case seq x y =>
    have hok' : (codeOk n x && codeOk n y) = true := hok
    rw [Bool.and_eq_true] at hok'
    have hng' : r.isSome = true → noRange x = true ∧ noRange y = true := fun h => by have := hng h; rwa [noRange, Bool.and_eq_true] at this
    refine wpIn_seq ?_
    split at hr
    · rename_i st1 h1
      refine wpIn_mono (RO _ _ _ _ h1 r B F σ n a w S hd hB hn hok'.1 (fun h => (hng' h).1)).1 ?_
      rintro ex a1 w1 ⟨rfl, σ1, S1, hd1, T1⟩
      exact wpIn_mono (RO _ _ _ _ hr r B F σ1 n a1 w1 S1 hd1 (Nat.le_trans hB T1.kept.size) hn hok'.2 (fun h => (hng' h).2)).1 (fun ex a' w' h => After.trans (rsy _ _ _ _ hr).2 T1 ex a' w' h)
    · rename_i hne
      refine wpIn_mono (RO _ _ _ _ hr r B F σ n a w S hd hB hn hok'.1 (fun h => (hng' h).1)).1 ?_
      rintro ex a1 w1 ⟨rfl, σ1, S1, hd1, T1⟩
      cases e with
      | normal => exact absurd hr (hne st')
      | _ => exact ⟨rfl, σ1, S1, hd1, T1⟩
  case cond c x y =>
    have hok' : (codeOk n x && codeOk n y) = true := hok
    rw [Bool.and_eq_true] at hok'
    have hng' : r.isSome = true → noRange x = true ∧ noRange y = true := fun h => by have := hng h; rwa [noRange, Bool.and_eq_true] at this
    split at hr
    · rename_i t ht
      have hv := opnd_V S.fr ht
      rw [V] at hv
      refine wpIn_cond hv ?_
      cases t
      · exact (RO _ _ _ _ hr r B F σ n a w S hd hB hn hok'.2 (fun h => (hng' h).2)).1
      · exact (RO _ _ _ _ hr r B F σ n a w S hd hB hn hok'.1 (fun h => (hng' h).1)).1
    · cases hr
  case block id b =>
    refine wpIn_block ?_
    split at hr
    · rename_i j st1 h1
      refine wpIn_mono (RO _ _ _ _ h1 r B F σ n a w S hd hB hn hok hng).1 ?_
      rintro ex a1 w1 ⟨rfl, σ1, S1, hd1, T1⟩
      cases hr
      change (if j = id then _ else _)
      cases hb : Nat.beq j id with
      | true =>
        rw [if_pos (Nat.eq_of_beq_eq_true hb)]
        exact ⟨by rw [cond_true]; rfl, σ1, S1, hd1, T1⟩
      | false =>
        rw [if_neg (fun e => by rw [e, Nat.beq_refl] at hb; cases hb)]
        exact ⟨by rw [cond_false]; rfl, σ1, S1, hd1, T1⟩
    · rename_i hne
      refine wpIn_mono (RO _ _ _ _ hr r B F σ n a w S hd hB hn hok hng).1 ?_
      rintro ex a1 w1 ⟨rfl, σ1, S1, hd1, T1⟩
      cases e with
      | exit j => exact absurd hr (hne j st')
      | _ => exact ⟨rfl, σ1, S1, hd1, T1⟩
  case loop b =>
    exact wpIn_loop_rounds (m + 1) (step_loop_sound RO rsy RL b st e st' (by simp only [step]; exact hr) r B F σ n a w S hd hB hn hok hng)
  case scope b => exact wp_scoped (scopeA_sound RO rsy b hok hng _ b st e st' hr B F σ n a w S hd hB hn hok hng)

theorem exec_sound (EO : EnvOk E P) : ∀ m, RecOk E P (exec E m) ∧ RecLoop E P (exec E m) m
  | 0 => ⟨fun c st e st' h => by simp [exec] at h, fun b st e st' h => by simp [exec] at h⟩
  | m + 1 => by
    obtain ⟨h1, h2⟩ := exec_sound EO m
    have e : exec E (m + 1) = step E (exec E m) := rfl
    rw [e]
    exact ⟨step_sound EO h1 (exec_hp E m) (exec_al E m) h2, step_loop_sound h1 (exec_hp E m) h2⟩

/-- A function that answers so by the evaluator answers so. -/
theorem pure_of_call (EO : EnvOk E P) {m g : Nat} {args : List AV} {r : AV} {nx low : Nat} {h : Heap} (hr : call E m g args Heap.empty 0 = some (r, h, nx, low)) (hf : r.free = true) : PureC E P g args r := by
  intro O w vargs hg hO hv
  have S : Sim E O noSg Heap.empty w := by
    refine ⟨fun id o h => (by cases h), fun i j oi oj si sj h => (by cases h), fun j oj k h => (by cases h), fun g cs hgl => ?_, fun b hb => ⟨hO b hb, fun id o s h => (by cases h)⟩⟩
    have eo : own O noSg Heap.empty = O := by
      funext b; apply propext
      exact ⟨fun h => h.elim id (fun ⟨id, o, s, h, _⟩ => by cases h), .inl⟩
    rw [eo]; exact hg g cs hgl
  have eo : own O noSg Heap.empty = O := by
    funext b; apply propext
    exact ⟨fun h => h.elim id (fun ⟨id, o, s, h, _⟩ => by cases h), .inl⟩
  have := (callA_sound EO (exec_sound EO m).1 hr S (fun id _ => ⟨rfl, rfl⟩) (by rw [eo]; exact hv)).2
  refine Calls.mono this ?_
  rintro e w' ⟨val, σ', rfl, S', _, hv', T⟩
  have k := T.kept
  rw [eo] at k
  exact ⟨val, rfl, V.less (fun b hb => .inl hb) _ _ hf hv', k.size, fun b hb => by
    by_cases ho : O b
    · exact T.fo b ho
    · exact k.block b hb ho, T.os, T.tape, T.output⟩
end
end Go.AE
end

section
/- Tables of a program: what must be shown of them. -/
namespace Go.AE

/-- An entry is made from the program's own. -/
def TyIs (P : Program) (t : Nat) (i : TI) : Prop := ∃ d inf, i = TI.of d inf ∧ P.underlying t = some d ∧ P.types[t]? = some inf

def tyB (n : Nat) (i : TI) : Bool :=
  (match i.zero with | some z => Nat.beq z.cells.length i.size | none => true) && (match i.desc with | .struct fs => fs.toList.all (fun f => Nat.blt f.type n) | _ => true)

def BT.allB {α : Type} (p : α → Bool) : BT α → Bool
  | .leaf => true
  | .node l _ v r => l.allB p && p v && r.allB p
theorem BT.find_allB {α : Type} {p : α → Bool} : ∀ (t : BT α), t.allB p = true → ∀ n v, t.find n = some v → p v = true := by
  intro t
  induction t with
  | leaf => intro _ n v h; simp [BT.find] at h
  | node l k u r ihl ihr =>
    intro h n v hf
    simp only [BT.allB, Bool.and_eq_true] at h
    simp only [BT.find, cond_eq_ite] at hf
    split at hf
    · obtain rfl : u = v := Option.some.inj hf; exact h.1.2
    · split at hf
      · exact ihl h.1.1 n v hf
      · exact ihr h.2 n v hf

theorem info_of {P : Program} {t : Nat} {inf : TypeInfo} (h : P.types[t]? = some inf) : P.info? t = some inf := by
  have : t < P.types.size := (Array.getElem?_eq_some_iff.1 h).1
  unfold Tables.info?
  rw [if_pos this]; exact h

theorem tyOk_of {P : Program} {t : Nat} {i : TI} (h : TyIs P t i) (hb : tyB P.types.size i = true) : TyOk P t i := by
  obtain ⟨d, inf, rfl, h1, h2⟩ := h
  unfold tyB at hb
  rw [Bool.and_eq_true] at hb
  refine ⟨h1, ⟨inf, info_of h2, rfl, rfl, fun z hz => ?_⟩, fun z hz => ?_, fun fs hd f hf => ?_⟩
  · unfold TI.of at hz
    simp only at hz
    split at hz
    · rename_i v hv; exact ⟨v, hv, hz⟩
    · cases hz
  · rw [hz] at hb; exact Nat.eq_of_beq_eq_true hb.1
  · rw [hd] at hb
    have := List.all_eq_true.1 hb.2 f hf
    have hlt : f.type < P.types.size := by simpa [Nat.blt_eq] using this
    rw [info_of (Array.getElem?_eq_getElem hlt)]; rfl
end Go.AE
end

section
/- Functions without a text: what they answer. -/
set_option linter.unusedSimpArgs false
namespace Go.AE
section
variable {P : Program} {w : World}

theorem run_ext {g : Nat} {fn : Func} {e : Array Value → Sem Value} (h1 : P.funcs[g]? = some fn) (h2 : (fn.name == "runtime.NumGoroutine") = false) (h3 : fn.body.isNone = true) (h4 : Extern.findNext fn = none) (h5 : Extern.find fn = some e)
    {args : Array Value} {v : Value} (he : (e args).run P w = .ok v w) : (callFunc g args).run P w = .ok (.value v) w := by
  simp only [callFunc, Sem.run_bind, run_program, Result.andThen_ok, h1, h2, h3, if_true, if_false, Bool.false_eq_true, h4, h5, mark, Sem.run, he]
  rfl

def idxB (c : Nat) : List UInt8 → Nat → Option Nat
  | [], _ => none
  | b :: l, i => bif Nat.beq b.toNat c then some i else idxB c l (i + 1)

def extIndexByte : List AV → Option AV
  | [.str s, .int .u8 c] => match c with
    | .ofNat c => bif Nat.blt c 256 then (match idxB c s 0 with
      | some i => some (.int .i64 i)
      | none => some (.int .i64 (.negSucc 0))) else none
    | _ => none
  | _ => none

def cmpB : List UInt8 → List UInt8 → Int
  | [], [] => 0
  | [], _ :: _ => .negSucc 0
  | _ :: _, [] => 1
  | a :: x, b :: y => bif Nat.beq a.toNat b.toNat then cmpB x y else bif Nat.blt a.toNat b.toNat then .negSucc 0 else 1

def extCmp : List AV → Option AV
  | [.str a, .str b] => some (.int .i64 (cmpB a b))
  | _ => none

def extSame : List AV → Option AV
  | [x] => some x
  | _ => none

def cntB (c : Nat) : List UInt8 → Nat → Nat
  | [], n => n
  | b :: l, n => bif Nat.beq b.toNat c then cntB c l (n + 1) else cntB c l n

def extCount : List AV → Option AV
  | [.str s, .int .u8 c] => match c with
    | .ofNat c => bif Nat.blt c 256 then some (.int .i64 (cntB c s 0)) else none
    | _ => none
  | _ => none

theorem idxB_find {c : Nat} : ∀ (l : List UInt8) (k : Nat) (f : Nat → Bool), (∀ j b, l[j]? = some b → f (k + j) = Nat.beq b.toNat c) → idxB c l k = (List.range' k l.length).find? f
  | [], k, f, _ => rfl
  | b :: l, k, f, h => by
    have h0 := h 0 b rfl
    rw [Nat.add_zero] at h0
    rw [List.length_cons, List.range'_succ, List.find?_cons, h0, idxB]
    cases hb : Nat.beq b.toNat c with
    | true => rfl
    | false => exact idxB_find l (k + 1) f fun j x hx => by have := h (j + 1) x (by simpa using hx); rwa [show k + 1 + j = k + (j + 1) from by omega]

theorem bytes_get {s : List UInt8} {i : Nat} {b : UInt8} (h : s[i]? = some b) : (⟨s.toArray⟩ : ByteArray)[i]! = b := by
  have hi : i < s.length := (List.getElem?_eq_some_iff.1 h).1
  have hb : s[i] = b := (List.getElem?_eq_some_iff.1 h).2
  have : i < (⟨s.toArray⟩ : ByteArray).size := by simpa [ByteArray.size] using hi
  rw [getElem!_pos (⟨s.toArray⟩ : ByteArray) i this]
  show s.toArray[i] = b
  simpa using hb

theorem u8_beq (a b : UInt8) : (a == b) = Nat.beq a.toNat b.toNat := by
  rw [Bool.eq_iff_iff]
  simp [Nat.beq_eq, UInt8.toNat_inj]

theorem extIndexByte_ok {g : Nat} {fn : Func} (h1 : P.funcs[g]? = some fn) (h2 : (fn.name == "runtime.NumGoroutine") = false) (h3 : fn.body.isNone = true) (h4 : Extern.findNext fn = none) (h5 : Extern.find fn = some Extern.BytealgIndexByte.indexByte) {args : List AV} {r : AV}
    (hr : extIndexByte args = some r) : ExtOk P g args r := by
  intro σ O w vargs hv
  unfold extIndexByte at hr
  split at hr
  · rename_i s c0
    split at hr
    · rename_i c
      rw [cond_eq_ite] at hr
      split at hr
      · rename_i hc
        have hc : c < 256 := by simpa [Nat.blt_eq] using hc
        simp only [VL, V] at hv
        obtain ⟨v1, l1, rfl, _, rfl, v2, l2, rfl, _, rfl, rfl⟩ := hv
        have hcc : ((Int.ofNat c).toNat.toUInt8).toNat = c := by
          show (UInt8.ofNat c).toNat = c
          simp; omega
        have hf : idxB c s 0 = (List.range s.length).find? fun i => (⟨s.toArray⟩ : ByteArray)[i]! == (Int.ofNat c).toNat.toUInt8 := by
          rw [List.range_eq_range']
          refine idxB_find s 0 _ fun j b hj => ?_
          rw [Nat.zero_add, bytes_get hj, u8_beq, hcc]
        have hsz : (⟨s.toArray⟩ : ByteArray).size = s.length := by simp [ByteArray.size]
        have run : (Extern.BytealgIndexByte.indexByte #[.string ⟨s.toArray⟩, .int .u8 (Int.ofNat c)]).run P w = .ok (match idxB c s 0 with | some i => goInt i | none => goInt (-1)) w := by
          have e0 : Extern.BytealgIndexByte.indexByte #[.string ⟨s.toArray⟩, .int .u8 (Int.ofNat c)] = (do
              let b ← Extern.Bytes.bytesOf (.string ⟨s.toArray⟩)
              let c ← Extern.Bytes.asByte (.int .u8 (Int.ofNat c))
              match (List.range b.size).find? fun i => b[i]! == c with
              | some i => pure (goInt i)
              | none => pure (goInt (-1))) := rfl
          rw [e0]
          simp only [Sem.run_bind, Extern.Bytes.bytesOf, Extern.Bytes.asByte, Sem.run_pure, Result.andThen_ok, hsz]
          rw [hf]
          split <;> rfl
        refine ⟨_, run_ext h1 h2 h3 h4 h5 run, ?_⟩
        split at hr
        · cases hr; rename_i he; rw [V]; rfl
        · cases hr; rename_i he; rw [V]; rfl
      · cases hr
    · cases hr
  · cases hr

theorem cmpB_find : ∀ (a b : List UInt8) (k : Nat) (f : Nat → Bool) (lt : Nat → Bool), (∀ j x y, a[j]? = some x → b[j]? = some y → f (k + j) = !Nat.beq x.toNat y.toNat) → (∀ j x y, a[j]? = some x → b[j]? = some y → lt (k + j) = Nat.blt x.toNat y.toNat) →
    cmpB a b = match (List.range' k (min a.length b.length)).find? f with
      | some i => if lt i = true then -1 else 1
      | none => if a.length < b.length then -1 else if a.length > b.length then 1 else 0
  | [], [], k, f, lt, _, _ => rfl
  | [], _ :: l, k, f, lt, _, _ => by simp [cmpB]
  | _ :: l, [], k, f, lt, _, _ => by simp [cmpB]
  | x :: a, y :: b, k, f, lt, h, h' => by
    have h0 := h 0 x y rfl rfl
    have h0' := h' 0 x y rfl rfl
    rw [Nat.add_zero] at h0 h0'
    have el : min (x :: a).length (y :: b).length = min a.length b.length + 1 := by simp only [List.length_cons]; omega
    rw [el, List.range'_succ, List.find?_cons, h0, cmpB]
    cases hb : Nat.beq x.toNat y.toNat with
    | true =>
      simp only [cond_true, Bool.not_true]
      rw [cmpB_find a b (k + 1) f lt (fun j x' y' hx hy => by have := h (j + 1) x' y' (by simpa using hx) (by simpa using hy); rwa [show k + 1 + j = k + (j + 1) from by omega])
        (fun j x' y' hx hy => by have := h' (j + 1) x' y' (by simpa using hx) (by simpa using hy); rwa [show k + 1 + j = k + (j + 1) from by omega])]
      cases List.find? f (List.range' (k + 1) (min a.length b.length)) with
      | none => simp
      | some i => rfl
    | false =>
      simp only [cond_false, Bool.not_false, h0', cond_eq_ite]
      rfl

theorem extCmp_ok {g : Nat} {fn : Func} (h1 : P.funcs[g]? = some fn) (h2 : (fn.name == "runtime.NumGoroutine") = false) (h3 : fn.body.isNone = true) (h4 : Extern.findNext fn = none) (h5 : Extern.find fn = some Extern.BytealgCompare.compare) {args : List AV} {r : AV}
    (hr : extCmp args = some r) : ExtOk P g args r := by
  intro σ O w vargs hv
  unfold extCmp at hr
  split at hr
  · rename_i a b
    cases hr
    simp only [VL, V] at hv
    obtain ⟨v1, l1, rfl, _, rfl, v2, l2, rfl, _, rfl, rfl⟩ := hv
    have hsz : ∀ s : List UInt8, (⟨s.toArray⟩ : ByteArray).size = s.length := fun s => by simp [ByteArray.size]
    have e : Extern.BytealgCompare.cmp ⟨a.toArray⟩ ⟨b.toArray⟩ = cmpB a b := by
      unfold Extern.BytealgCompare.cmp
      rw [hsz, hsz, List.range_eq_range']
      rw [cmpB_find a b 0 (fun i => (⟨a.toArray⟩ : ByteArray)[i]! != (⟨b.toArray⟩ : ByteArray)[i]!) (fun i => decide ((⟨a.toArray⟩ : ByteArray)[i]! < (⟨b.toArray⟩ : ByteArray)[i]!))
        (fun j x y hx hy => by rw [Nat.zero_add, bytes_get hx, bytes_get hy]; show (!(x == y)) = _; rw [u8_beq])
        (fun j x y hx hy => by rw [Nat.zero_add, bytes_get hx, bytes_get hy, Bool.eq_iff_iff]; simp [Nat.blt_eq, UInt8.lt_iff_toNat_lt])]
      cases (List.range' 0 (min a.length b.length)).find? (fun i => (⟨a.toArray⟩ : ByteArray)[i]! != (⟨b.toArray⟩ : ByteArray)[i]!) with
      | none => rfl
      | some i => simp
    have run : (Extern.BytealgCompare.compare #[.string ⟨a.toArray⟩, .string ⟨b.toArray⟩]).run P w = .ok (goInt (cmpB a b)) w := by
      have e0 : Extern.BytealgCompare.compare #[.string ⟨a.toArray⟩, .string ⟨b.toArray⟩] = (do pure (goInt (Extern.BytealgCompare.cmp (← Extern.Bytes.bytesOf (.string ⟨a.toArray⟩)) (← Extern.Bytes.bytesOf (.string ⟨b.toArray⟩))))) := rfl
      rw [e0]
      simp only [Sem.run_bind, Extern.Bytes.bytesOf, Sem.run_pure, Result.andThen_ok, e]
    exact ⟨_, run_ext h1 h2 h3 h4 h5 run, by rw [V]; rfl⟩
  · cases hr

theorem extSame_ok {g : Nat} {fn : Func} (h1 : P.funcs[g]? = some fn) (h2 : (fn.name == "runtime.NumGoroutine") = false) (h3 : fn.body.isNone = true) (h4 : Extern.findNext fn = none) (h5 : Extern.find fn = some Extern.AbiNoEscape.same) {args : List AV} {r : AV}
    (hr : extSame args = some r) : ExtOk P g args r := by
  intro σ O w vargs hv
  unfold extSame at hr
  split at hr
  · rename_i x
    cases hr
    simp only [VL] at hv
    obtain ⟨v1, l1, rfl, _, h, rfl⟩ := hv
    have run : (Extern.AbiNoEscape.same #[v1]).run P w = .ok v1 w := rfl
    exact ⟨_, run_ext h1 h2 h3 h4 h5 run, h⟩
  · cases hr

end
end Go.AE
end

section
/- Answers that are known ahead. -/
namespace Go.AE

def lookA : List (List AV × AV) → List AV → Option AV
  | [], _ => none
  | (a, r) :: l, args => bif AV.sameL args a then some r else lookA l args

abbrev Known := BT (List (List AV × AV))
def Known.memo (t : Known) (g : Nat) : Option (List AV → Option AV) := match t.find g with
  | some l => some (lookA l)
  | none => none

theorem lookA_mem : ∀ (l : List (List AV × AV)) (args : List AV) (r : AV), lookA l args = some r → (args, r) ∈ l
  | [], args, r, h => by cases h
  | (a, r') :: l, args, r, h => by
    rw [lookA, cond_eq_ite] at h
    split at h
    · rename_i he
      cases h
      rw [AV.sameL_eq _ _ he]; exact List.mem_cons_self ..
    · exact List.mem_cons_of_mem _ (lookA_mem l args r h)

/-- The program's tables, with what is known. -/
structure Base (P : Program) where
  fn : BT Func
  ty : BT TI
  ext : Nat → Option Spec
  meth : Nat → String → Option Nat
  glob : Nat → Option (List AV)

def Base.env {P : Program} (B : Base P) (t : Known) : Env := ⟨B.fn.find, B.ty.find, t.memo, B.glob, B.ext, B.meth⟩

structure BaseOk {P : Program} (B : Base P) : Prop where
  mixed : P.follows .mixedOrders = true
  fn : B.fn.All (fun k f => P.funcs[k]? = some f ∧ (f.name == "runtime.NumGoroutine") = false)
  fnB : B.fn.allB fnOk = true
  ty : B.ty.All (fun k i => TyIs P k i)
  tyB : B.ty.allB (tyB P.types.size) = true
  glob : ∀ g cs, B.glob g = some cs → AV.freeL cs = true
  ext : ∀ g s, B.ext g = some s → SpecOk P g s
  meth : ∀ t name g, B.meth t name = some g → ∀ (a : Addr) (w : World), (Go.method (P.types.size + Made.depth) t (.pointer (some a)) name).run P w = .ok (g, .pointer (some a)) w

/-- Each of them is so. -/
def KnownOk {P : Program} (B : Base P) (t : Known) : Prop := t.All (fun g l => ∀ p ∈ l, PureC (B.env .leaf) P g p.1 p.2)

theorem envOk {P : Program} {B : Base P} (h : BaseOk B) {t : Known} (ht : KnownOk B t) : EnvOk (B.env t) P := by
  refine ⟨h.mixed, fun g f hf => ?_, fun k i hi => ?_, fun g m args r hm hr => ?_, h.glob, h.ext, h.meth⟩
  · obtain ⟨h1, h2⟩ := BT.find_all B.fn h.fn g f hf
    exact ⟨h1, h2, BT.find_allB B.fn h.fnB g f hf⟩
  · exact tyOk_of (BT.find_all B.ty h.ty k i hi) (BT.find_allB B.ty h.tyB k i hi)
  · change Known.memo t g = some m at hm
    unfold Known.memo at hm
    split at hm
    · rename_i l hl
      cases hm
      exact BT.find_all t ht g l hl (args, r) (lookA_mem l args r hr)
    · cases hm

/-- A call comes to this. -/
def comesTo (E : Env) (n g : Nat) (args : List AV) (r : AV) : Bool := match call E n g args Heap.empty 0 with
  | some (r', _) => AV.same r' r && r.free
  | none => false

theorem pure_of {P : Program} {B : Base P} (h : BaseOk B) {t : Known} (ht : KnownOk B t) {n g : Nat} {args : List AV} {r : AV} (hc : comesTo (B.env t) n g args r = true) : PureC (B.env .leaf) P g args r := by
  unfold comesTo at hc
  split at hc
  · rename_i r' p hcall
    obtain ⟨h', nx, low⟩ := p
    rw [Bool.and_eq_true] at hc
    have e := AV.same_eq _ _ hc.1
    subst e
    exact pure_of_call (envOk h ht) hcall hc.2
  · cases hc
end Go.AE
end
