/- The evaluator: operations on memory, each shown to be what the model does. -/
import Derived.Test.YtcanjngalglfiaaGreatDoorAeA
import Derived.Laws.BytesString
import Derived.Lib.UnsafeStr
section
/- Steps of memory: a new block, and a write into one. -/
namespace Go.AE
variable {F : Nat → Prop}

/-- From one state to the next: 'ts' has been written, 'aid' may be new. -/
structure Stp (F : Nat → Prop) (σ : Sg) (h : Heap) (w : World) (ts : List Nat) (aid : Nat) (σ' : Sg) (h' : Heap) (w' : World) : Prop where
  kept : Kept σ (own F σ h) w σ' (own F σ' h') w'
  os : w'.os = w.os
  tape : w'.tape = w.tape
  output : w'.output = w.output
  still : ∀ id s o, σ id = some s → h id = some o → id ∉ ts → w'.heap[s.block]? = w.heap[s.block]?
  sg : ∀ id, id ≠ aid → σ' id = σ id
  hp : ∀ id, id ≠ aid → id ∉ ts → h' id = h id
  gone : ∀ id, id ≠ aid → h id = none → h' id = none
  fo : ∀ b, F b → w'.heap[b]? = w.heap[b]?

theorem Stp.refl (σ : Sg) (h : Heap) (w : World) (aid : Nat) : Stp F σ h w [] aid σ h w :=
  ⟨⟨fun _ _ h => h, Nat.le_refl _, fun _ h => .inl h, fun _ _ _ => rfl⟩, rfl, rfl, rfl, fun _ _ _ _ _ _ => rfl, fun _ _ => rfl, fun _ _ _ => rfl, fun _ _ h => h, fun _ _ => rfl⟩

theorem Heap.set_get (h : Heap) (id : Nat) (o : Option AObj) (j : Nat) : (h.set id o) j = if j = id then o else h j := by
  unfold Heap.set
  rw [cond_eq_ite]
  by_cases e : j = id
  · subst e; simp
  · rw [if_neg e, if_neg (by simpa [Nat.beq_eq] using e)]

section
variable {E : Env} {σ σ' : Sg} {O O' : Nat → Prop} {w w' : World}

theorem KA.monoC (k : KeptC σ O w σ' O' w') {cs : List AV} {arr : Array Value} {o : Nat} (h : KA σ O w cs arr o) : KA σ' O' w' cs arr o :=
  fun j c hj => let ⟨v, h1, h2, h3⟩ := h j c hj; ⟨v, h1, h2, V.monoC k _ _ h3⟩
theorem KA.mono (k : Kept σ O w σ' O' w') {cs : List AV} {arr : Array Value} {o : Nat} (h : KA σ O w cs arr o) : KA σ' O' w' cs arr o := h.monoC k.c

theorem ObjRel.monoC (k : KeptC σ O w σ' O' w') {s : SI} {o : AObj} (hb : w'.heap[s.block]? = w.heap[s.block]?) (h : ObjRel σ O w s o) : ObjRel σ' O' w' s o := by
  cases o with
  | box cs ty => obtain ⟨h1, arr, e, fz, h2, h3, h4, h5⟩ := h; exact ⟨h1, arr, e, fz, hb.trans h2, h3, h4, h5.monoC k⟩
  | vec n ag es t r a => obtain ⟨h1, h2, h3, h4, h5, arr, e, fz, h6, h7, h8, h9⟩ := h; exact ⟨h1, h2, h3, h4, h5, arr, e, fz, hb.trans h6, h7, h8, h9.monoC k⟩
  | siter l p => obtain ⟨h1, h2⟩ := h; exact ⟨h1, hb.trans h2⟩
  | dead => exact Nat.lt_of_lt_of_le h k.size
  | loop fr ps asg body st pend => obtain ⟨h1, fn, tmps, D, h2, h3, h4⟩ := h; exact ⟨h1, fn, tmps, D, hb.trans h2, h3, fun t => V.monoC k _ _ (h4 t)⟩
theorem ObjRel.mono (k : Kept σ O w σ' O' w') {s : SI} {o : AObj} (hb : w'.heap[s.block]? = w.heap[s.block]?) (h : ObjRel σ O w s o) : ObjRel σ' O' w' s o := h.monoC k.c hb

theorem KN.monoC (k : KeptC σ O w σ' O' w') {cs : List AV} {b o : Nat} (hb : ¬ O b) (h : KN σ O w cs b o) : KN σ' O' w' cs b o :=
  (MC_iff _ _ _).1 (MC.monoC k _ _ _ hb ((MC_iff _ _ _).2 h))
theorem KN.mono (k : Kept σ O w σ' O' w') {cs : List AV} {b o : Nat} (hb : ¬ O b) (h : KN σ O w cs b o) : KN σ' O' w' cs b o :=
  (MC_iff _ _ _).1 (MC.mono k _ _ _ hb ((MC_iff _ _ _).2 h))

/-- A new block. -/
theorem alloc_step {h : Heap} (S : Sim E F σ h w) {aid : Nat} (hs : σ aid = none) {obj : Obj} {o : AObj} {s : SI} (hsz : w'.heap = w.heap.push obj)
    (hos : w'.os = w.os) (htp : w'.tape = w.tape) (hout : w'.output = w.output) (hb : s.block = w.heap.size) (hal : ∀ k, aliasIs o k → σ k ≠ none ∧ ∀ ok, h k = some ok → isRo ok = true)
    (hrel : ∀ σ2 O2, Kept σ (own F σ h) w σ2 O2 w' → ObjRel σ2 O2 w' s o) :
    Sim E F (fun i => if i = aid then some s else σ i) (h.set aid (some o)) w' ∧ Stp F σ h w [] aid (fun i => if i = aid then some s else σ i) (h.set aid (some o)) w' := by
  have hblk : ∀ b, b < w.heap.size → w'.heap[b]? = w.heap[b]? := fun b hb => by rw [hsz, Array.getElem?_push, if_neg (by omega)]
  have hsize : w'.heap.size = w.heap.size + 1 := by rw [hsz]; simp
  have hown : ∀ b, own F (fun i => if i = aid then some s else σ i) (h.set aid (some o)) b → own F σ h b ∨ w.heap.size ≤ b := by
    rintro b (hF | ⟨id, o', s', h1, h2, rfl⟩)
    · exact .inl (.inl hF)
    rw [Heap.set_get] at h1
    by_cases e : id = aid
    · simp only [e, if_true, Option.some.injEq] at h2; subst h2; right; omega
    · rw [if_neg e] at h1; simp only [e, if_false] at h2; left; exact .inr ⟨id, o', s', h1, h2, rfl⟩
  have kept : Kept σ (own F σ h) w (fun i => if i = aid then some s else σ i) (own F (fun i => if i = aid then some s else σ i) (h.set aid (some o))) w' :=
    ⟨fun id s' hid => by
      have : id ≠ aid := fun e => by rw [e, hs] at hid; cases hid
      simp only [this, if_false]; exact hid, by omega, hown, fun b hb _ => hblk b hb⟩
  refine ⟨⟨?_, ?_, ?_, ?_, ?_⟩, kept, hos, htp, hout, ?_, ?_, ?_, ?_, fun b hb => hblk b (S.fo b hb).1⟩
  · intro id o' h1
    rw [Heap.set_get] at h1
    by_cases e : id = aid
    · rw [if_pos e] at h1; obtain rfl := Option.some.inj h1
      exact ⟨s, by simp [e], hrel _ _ kept⟩
    · rw [if_neg e] at h1
      obtain ⟨s', h2, h3⟩ := S.obj id o' h1
      exact ⟨s', by simp [e, h2], h3.mono kept (hblk _ h3.lt)⟩
  · intro i j oi oj si sj h1 h2 h3 h4 hne heq
    rw [Heap.set_get] at h1 h2
    by_cases ei : i = aid
    · by_cases ej : j = aid
      · exact absurd (ei.trans ej.symm) hne
      · rw [if_neg ej] at h2; simp only [ej, if_false] at h4; simp only [ei, if_true, Option.some.injEq] at h3
        obtain ⟨s', h5, h6⟩ := S.obj j oj h2
        have e2 : s' = sj := Option.some.inj (h5.symm.trans h4)
        have := h6.lt; rw [e2, ← heq, ← h3, hb] at this; omega
    · by_cases ej : j = aid
      · rw [if_neg ei] at h1; simp only [ei, if_false] at h3; simp only [ej, if_true, Option.some.injEq] at h4
        obtain ⟨s', h5, h6⟩ := S.obj i oi h1
        have e2 : s' = si := Option.some.inj (h5.symm.trans h3)
        have := h6.lt; rw [e2, heq, ← h4, hb] at this; omega
      · rw [if_neg ei] at h1; rw [if_neg ej] at h2; simp only [ei, if_false] at h3; simp only [ej, if_false] at h4
        exact S.inj i j oi oj si sj h1 h2 h3 h4 hne heq
  · intro j oj k h1 h2
    have main : σ k ≠ none ∧ ∀ ok, h k = some ok → isRo ok = true := by
      rw [Heap.set_get] at h1
      by_cases e : j = aid
      · rw [if_pos e] at h1; obtain rfl := Option.some.inj h1; exact hal k h2
      · rw [if_neg e] at h1; exact S.ali j oj k h1 h2
    have hka : k ≠ aid := fun e => main.1 (e ▸ hs)
    refine ⟨by simp only [hka, if_false]; exact main.1, fun ok hk => ?_⟩
    rw [Heap.set_get, if_neg hka] at hk
    exact main.2 ok hk
  · intro g cs hg
    obtain ⟨h1, h2, h3⟩ := S.glob g cs hg
    exact ⟨fun ho => (hown g ho).elim h1 (by omega), by omega, h3.mono kept h1⟩
  · intro b hb
    obtain ⟨f1, f2⟩ := S.fo b hb
    refine ⟨by omega, fun id o' s' h1 h2 => ?_⟩
    rw [Heap.set_get] at h1
    by_cases e : id = aid
    · simp only [e, if_true, Option.some.injEq] at h2; subst h2; omega
    · rw [if_neg e] at h1; simp only [e, if_false] at h2; exact f2 id o' s' h1 h2
  · intro id s' o' h1 h2 _
    obtain ⟨s2, h3, h4⟩ := S.obj id o' h2
    obtain rfl := Option.some.inj (h1.symm.trans h3)
    exact hblk _ h4.lt
  · intro id hid; simp [hid]
  · intro id hid _; rw [Heap.set_get, if_neg hid]
  · intro id hid h0; rw [Heap.set_get, if_neg hid]; exact h0

theorem aliasIs_vec {et : Option Nat} {n : Nat} {ag ti ro : Bool} {es : List AV} {al : Option Nat} {k : Nat} (h : aliasIs (.vec n ag es ti ro al et) k) : al = some k := by
  cases al with
  | none => exact h.elim
  | some j => exact congrArg some h

def aliasO : AObj → Option Nat
  | .vec _ _ _ _ _ a _ => a
  | _ => none

theorem kill_get (h : Heap) (a : Option Nat) (j : Nat) : kill h a j = if a = some j then none else h j := by
  cases a with
  | none => simp [kill]
  | some k => simp only [kill, Heap.set_get, Option.some.injEq]; by_cases e : j = k <;> simp [e, eq_comm]

/-- A write into the block of an object that is not only read. -/
theorem write_step {h : Heap} (S : Sim E F σ h w) {id : Nat} {o o' : AObj} {s : SI} (ho : h id = some o) (hs : σ id = some s) (hro : isRo o = false)
    (aid : Nat) (hal : ∀ k, ¬ aliasIs o' k)
    (hsz : w'.heap.size = w.heap.size) (hblk : ∀ b, b ≠ s.block → w'.heap[b]? = w.heap[b]?) (hos : w'.os = w.os) (htp : w'.tape = w.tape) (hout : w'.output = w.output)
    (hrel : ∀ O2, Kept σ (own F σ h) w σ O2 w' → ObjRel σ O2 w' s o') :
    Sim E F σ ((kill h (aliasO o)).set id (some o')) w' ∧ Stp F σ h w (touch id (aliasO o)) aid σ ((kill h (aliasO o)).set id (some o')) w' := by
  have hget : ∀ j, ((kill h (aliasO o)).set id (some o')) j = if j = id then some o' else if aliasO o = some j then none else h j := fun j => by
    rw [Heap.set_get, kill_get]
  have hown : ∀ b, own F σ ((kill h (aliasO o)).set id (some o')) b → own F σ h b := by
    rintro b (hF | ⟨j, oj, sj, h1, h2, rfl⟩)
    · exact .inl hF
    rw [hget] at h1
    by_cases e : j = id
    · exact .inr ⟨id, o, s, ho, hs, by rw [e, hs] at h2; obtain rfl := Option.some.inj h2; rfl⟩
    · rw [if_neg e] at h1
      split at h1
      · cases h1
      · exact .inr ⟨j, oj, sj, h1, h2, rfl⟩
  have hsown : own F σ h s.block := .inr ⟨id, o, s, ho, hs, rfl⟩
  have kept : Kept σ (own F σ h) w σ (own F σ ((kill h (aliasO o)).set id (some o'))) w' :=
    ⟨fun _ _ h => h, by omega, fun b hb => .inl (hown b hb), fun b _ hb => hblk b (fun e => hb (e ▸ hsown))⟩
  -- other objects lie elsewhere
  have apart : ∀ j oj sj, h j = some oj → σ j = some sj → j ≠ id → aliasO o ≠ some j → sj.block ≠ s.block := by
    intro j oj sj h1 h2 h3 h4 h5
    rcases S.inj j id oj o sj s h1 ho h2 hs h3 h5 with ⟨_, h6⟩ | ⟨h6, _⟩
    · cases o with
      | vec n ag es t r a => cases a with
        | none => exact h6
        | some k => exact h4 (by simpa [aliasO, aliasIs] using h6)
      | box => exact h6
      | siter => exact h6
      | loop => exact h6
      | dead => exact h6
    · rw [hro] at h6; cases h6
  refine ⟨⟨?_, ?_, ?_, ?_, ?_⟩, kept, hos, htp, hout, ?_, fun _ _ => rfl, ?_, ?_, fun b hb => hblk b (fun e => (S.fo b hb).2 id o s ho hs e.symm)⟩
  · intro j oj h1
    rw [hget] at h1
    by_cases e : j = id
    · rw [if_pos e] at h1; obtain rfl := Option.some.inj h1
      exact ⟨s, e ▸ hs, hrel _ kept⟩
    · rw [if_neg e] at h1
      split at h1
      · cases h1
      · rename_i h4
        obtain ⟨sj, h2, h3⟩ := S.obj j oj h1
        exact ⟨sj, h2, h3.mono kept (hblk _ (apart j oj sj h1 h2 e h4))⟩
  · intro i j oi oj si sj h1 h2 h3 h4 hne' heq
    rw [hget] at h1 h2
    by_cases ei : i = id
    · by_cases ej : j = id
      · exact absurd (ei.trans ej.symm) hne'
      · rw [if_neg ej] at h2
        split at h2
        · cases h2
        · rename_i h5
          subst ei
          obtain rfl := Option.some.inj (hs.symm.trans h3)
          exact absurd heq.symm (apart j oj sj h2 h4 ej h5)
    · rw [if_neg ei] at h1
      split at h1
      · cases h1
      · rename_i h5
        by_cases ej : j = id
        · subst ej
          obtain rfl := Option.some.inj (hs.symm.trans h4)
          exact absurd heq (apart i oi si h1 h3 ei h5)
        · rw [if_neg ej] at h2
          split at h2
          · cases h2
          · exact S.inj i j oi oj si sj h1 h2 h3 h4 hne' heq
  · intro j oj k h1 h2
    rw [hget] at h1
    by_cases e : j = id
    · rw [if_pos e] at h1; obtain rfl := Option.some.inj h1; exact absurd h2 (hal k)
    · rw [if_neg e] at h1
      split at h1
      · cases h1
      · obtain ⟨a1, a2⟩ := S.ali j oj k h1 h2
        refine ⟨a1, fun ok hk => ?_⟩
        rw [hget] at hk
        by_cases e2 : k = id
        · have := a2 o (e2 ▸ ho); rw [hro] at this; cases this
        · rw [if_neg e2] at hk
          split at hk
          · cases hk
          · exact a2 ok hk
  · intro g cs hg
    obtain ⟨h1, h2, h3⟩ := S.glob g cs hg
    exact ⟨fun ho => h1 (hown g ho), by omega, h3.mono kept h1⟩
  · intro b hb
    obtain ⟨f1, f2⟩ := S.fo b hb
    refine ⟨by omega, fun j oj sj h1 h2 => ?_⟩
    rw [hget] at h1
    by_cases e : j = id
    · rw [e] at h2; exact f2 id o sj ho h2
    · rw [if_neg e] at h1
      split at h1
      · cases h1
      · exact f2 j oj sj h1 h2
  · intro j sj oj h1 h2 h3
    have e1 : j ≠ id := fun e => h3 (by cases aliasO o <;> simp [touch, e])
    have e2 : aliasO o ≠ some j := fun e => h3 (by rw [e]; simp [touch])
    exact hblk _ (apart j oj sj h2 h1 e1 e2)
  · intro j _ h3
    have e1 : j ≠ id := fun e => h3 (by cases aliasO o <;> simp [touch, e])
    have e2 : aliasO o ≠ some j := fun e => h3 (by rw [e]; simp [touch])
    rw [hget, if_neg e1, if_neg e2]
  · intro j _ h0
    have e1 : j ≠ id := fun e => by rw [e, ho] at h0; cases h0
    rw [hget, if_neg e1]; split <;> first | rfl | exact h0

end
end Go.AE
end

section
/- Stores. -/
namespace Go.AE
section
variable {E : Env} {P : Program} {σ : Sg} {w : World}

/-- Values written one behind the other into a block. -/
theorem run_storeCells {b : Nat} {e : TypeId} {fz : Nat × Nat} : ∀ (vs : List Value) (i o : Nat) (w : World) (arr : Array Value), w.heap[b]? = some (.cells arr e fz) → open_ arr.size fz →
    o + i + vs.length ≤ arr.size → (∀ v ∈ vs, v.oneCell' = true) →
    ∃ w' arr', (storeCells ⟨b, o, none⟩ vs i).run P w = .ok () w' ∧ w'.heap[b]? = some (.cells arr' e fz) ∧ arr'.size = arr.size ∧
      arr'.toList = arr.toList.take (o + i) ++ (vs ++ arr.toList.drop (o + i + vs.length)) ∧
      w'.heap.size = w.heap.size ∧ (∀ c, c ≠ b → w'.heap[c]? = w.heap[c]?) ∧ w'.os = w.os ∧ w'.tape = w.tape ∧ w'.output = w.output
  | [], i, o, w, arr, hb, _, _, _ => ⟨w, arr, by simp [storeCells], hb, rfl, by simp, rfl, fun _ _ => rfl, rfl, rfl, rfl⟩
  | v :: vs, i, o, w, arr, hb, ho, hl, hv => by
    simp only [List.length_cons] at hl
    have hc : w.cell? ⟨b, o + i, none⟩ = some arr[o + i] := by
      simp [World.cell?, hb, Array.getElem?_eq_getElem (show o + i < arr.size from by omega)]
    have hf : w.frozen? ⟨b, o + i, none⟩ = false := by
      have := ho (o + i) (by omega)
      simp only [World.frozen?, hb]
      simpa using this
    have h1 : (store ⟨b, o + i, none⟩ v).run P w = .ok () (w.setCell ⟨b, o + i, none⟩ v) := by
      rw [run_store P w _ v .plain (hv v (by simp)), hc]; simp [hf]
    have hb2 : (w.setCell ⟨b, o + i, none⟩ v).heap[b]? = some (.cells (arr.setIfInBounds (o + i) v) e fz) := by
      simp [World.setCell, Array.getElem?_modify, hb]
    obtain ⟨w', arr', k1, k2, k3, k4, k5, k6, k7, k8, k9⟩ := run_storeCells vs (i + 1) o _ (arr.setIfInBounds (o + i) v) hb2 (by simpa using ho) (by simp; omega) (fun u hu => hv u (by simp [hu]))
    refine ⟨w', arr', ?_, k2, by simpa using k3, ?_, ?_, ?_, k7, k8, k9⟩
    · simp only [storeCells, Sem.run_bind, addr_add, h1, Result.andThen_ok]; exact k1
    · rw [k4]
      have hlt : o + i < arr.toList.length := by simp; omega
      have hs : (arr.setIfInBounds (o + i) v).toList = arr.toList.set (o + i) v := by simp
      rw [hs]
      have hA : (arr.toList.take (o + i)).length = o + i := by simp; omega
      have e0 : arr.toList.set (o + i) v = arr.toList.take (o + i) ++ v :: arr.toList.drop (o + i + 1) := by
        rw [List.set_eq_take_append_cons_drop, if_pos hlt]
      rw [e0]
      have e1 : (arr.toList.take (o + i) ++ v :: arr.toList.drop (o + i + 1)).take (o + (i + 1)) = arr.toList.take (o + i) ++ [v] := by
        have := List.take_length_add_append (l₁ := arr.toList.take (o + i)) (l₂ := v :: arr.toList.drop (o + i + 1)) (i := 1)
        rw [hA] at this
        simpa [Nat.add_assoc] using this
      have e2 : (arr.toList.take (o + i) ++ v :: arr.toList.drop (o + i + 1)).drop (o + (i + 1) + vs.length) = arr.toList.drop (o + i + (vs.length + 1)) := by
        have := List.drop_length_add_append (l₁ := arr.toList.take (o + i)) (l₂ := v :: arr.toList.drop (o + i + 1)) (i := vs.length + 1)
        rw [hA] at this
        rw [show o + (i + 1) + vs.length = o + i + (vs.length + 1) from by omega, this]
        simp only [List.drop_succ_cons, List.drop_drop]
        congr 1
        omega
      rw [e1, e2]; simp
    · rw [k5]; simp [World.setCell]
    · intro c hcb; rw [k6 c hcb]; simp only [World.setCell, Array.getElem?_modify]; rw [if_neg (fun h => hcb h.symm)]

theorem VL_oneCell {O : Nat → Prop} : ∀ {xs : List AV} {l : List Value}, VL σ O w true xs l → ∀ v ∈ l, v.oneCell' = true
  | [], l, h, v, hv => by rw [VL] at h; subst h; simp at hv
  | x :: xs, l, h, v, hv => by
    rw [VL] at h; obtain ⟨u, l', rfl, h2, h3, h4⟩ := h
    rcases List.mem_cons.1 hv with rfl | hv
    · exact V_oneCell h3 (h2 rfl)
    · exact VL_oneCell h4 v hv

/-- What an array reads behind such a write. -/
theorem KA.write {O : Nat → Prop} {cs vs : List AV} {us : List Value} {arr arr' : Array Value} {base off : Nat} (h : KA σ O w cs arr base) (hv : VL σ O w true vs us)
    (ha : arr'.toList = arr.toList.take (base + off) ++ (us ++ arr.toList.drop (base + off + us.length))) (hle : off + vs.length ≤ cs.length) (hsz : base + cs.length ≤ arr.size) :
    KA σ O w (cs.take off ++ (vs ++ cs.drop (off + vs.length))) arr' base := by
  have hl := VL_len hv
  intro j c hj
  have e : arr'[base + j]? = arr'.toList[base + j]? := by simp
  rw [e, ha]
  have hA : (arr.toList.take (base + off)).length = base + off := by simp; omega
  have hB : (cs.take off).length = off := by simp; omega
  by_cases c1 : j < off
  · rw [List.getElem?_append_left (by omega), List.getElem?_take, if_pos c1] at hj
    rw [List.getElem?_append_left (by omega), List.getElem?_take, if_pos (by omega)]
    simpa using h j c hj
  · rw [List.getElem?_append_right (by omega), hB] at hj
    rw [List.getElem?_append_right (by omega), hA]
    rw [show base + j - (base + off) = j - off from by omega]
    by_cases c2 : j - off < vs.length
    · rw [List.getElem?_append_left c2] at hj
      rw [List.getElem?_append_left (by omega)]
      obtain ⟨v, h1, h2, h3⟩ := VL_get hv _ _ hj
      exact ⟨v, h1, h3 rfl, h2⟩
    · rw [List.getElem?_append_right (by omega), List.getElem?_drop] at hj
      rw [List.getElem?_append_right (by omega), List.getElem?_drop]
      have := h _ c hj
      rw [show base + off + us.length + (j - off - us.length) = base + (off + vs.length + (j - off - vs.length)) from by omega]
      simpa using this

theorem putCells_eq {cs vs cs' : List AV} {off : Nat} (h : putCells cs off vs = some cs') : off + vs.length ≤ cs.length ∧ cs' = cs.take off ++ (vs ++ cs.drop (off + vs.length)) := by
  unfold putCells at h
  rw [cond_eq_ite] at h
  split at h
  · rename_i hle; exact ⟨Nat.le_of_ble_eq_true hle, (Option.some.inj h).symm⟩
  · cases h

theorem kill_alias {et : Option Nat} (h : Heap) {n : Nat} {ag : Bool} {es : List AV} {ti ro : Bool} {al : Option Nat} : kill h al = kill h (aliasO (.vec n ag es ti ro al et)) := rfl

/-- Elements of one width, one of them replaced. -/
theorem flat_set {n : Nat} : ∀ (es : List AV) (j : Nat) (e e' : AV), (∀ x ∈ es, x.cells.length = n) → es[j]? = some e → e'.cells.length = n →
    flatA (es.set j e') = (flatA es).take (j * n) ++ (e'.cells ++ (flatA es).drop (j * n + n))
  | [], j, e, e', _, h, _ => by simp at h
  | x :: xs, 0, e, e', hl, h, he => by
    have hx := hl x (by simp)
    simp only [List.set_cons_zero, flatA, List.flatMap_cons, Nat.zero_mul, List.take_zero, List.nil_append, Nat.zero_add]
    congr 1
    rw [List.drop_append_of_le_length (by omega), List.drop_of_length_le (by omega), List.nil_append]
  | x :: xs, j + 1, e, e', hl, h, he => by
    have hx := hl x (by simp)
    have ih := flat_set xs j e e' (fun y hy => hl y (by simp [hy])) (by simpa using h) he
    simp only [List.set_cons_succ, flatA, List.flatMap_cons] at ih ⊢
    rw [ih, show (j + 1) * n = x.cells.length + j * n from by rw [Nat.add_mul, hx]; omega, show x.cells.length + j * n + n = x.cells.length + (j * n + n) from by omega,
      List.take_length_add_append, List.drop_length_add_append, List.append_assoc]

end
end Go.AE
end

section
/- A store is sound. -/
namespace Go.AE
variable {F : Nat → Prop}
section
variable {E : Env} {P : Program} {σ : Sg} {w : World}

theorem shape_one {c : AV} (h : c.oneCell = true) : shape c = (1, false) := by cases c <;> first | rfl | cases h

theorem mkElem_ok {ag : Bool} {cs : List AV} {e : AV} {n : Nat} (h : mkElem ag cs = some e) (hl : cs.length = n) (hc : cs.all AV.oneCell = true) : shape e = (n, ag) ∧ e.cells = cs := by
  unfold mkElem at h
  cases ag with
  | true => simp only [cond_true, Option.some.injEq] at h; subst h; exact ⟨by simp [shape, hl], rfl⟩
  | false =>
    simp only [cond_false] at h
    split at h
    · rename_i c
      obtain rfl := Option.some.inj h
      have : c.oneCell = true := by simpa using hc
      refine ⟨by rw [shape_one this, ← hl]; rfl, ?_⟩
      cases c <;> first | rfl | cases this
    · cases h

theorem KA.one {O : Nat → Prop} {cs : List AV} {arr : Array Value} {o : Nat} (h : KA σ O w cs arr o) : cs.all AV.oneCell = true := by
  rw [List.all_eq_true]
  intro x hx
  obtain ⟨j, hj⟩ := List.getElem?_of_mem hx
  obtain ⟨v, _, h2, _⟩ := h j x hj
  exact h2

theorem flat_put {n : Nat} {es : List AV} {j off : Nat} {e e' : AV} {vs cs' : List AV} (hl : ∀ x ∈ es, x.cells.length = n) (hj : es[j]? = some e) (hp : putCells e.cells off vs = some cs') (he : e'.cells = cs') :
    flatA (es.set j e') = (flatA es).take (j * n + off) ++ (vs ++ (flatA es).drop (j * n + off + vs.length)) ∧ j * n + off + vs.length ≤ (flatA es).length ∧ cs'.length = n := by
  obtain ⟨h1, h2⟩ := putCells_eq hp
  have hn : e.cells.length = n := hl e (List.mem_of_getElem? hj)
  have hcl : cs'.length = n := by rw [h2]; simp; omega
  have hself : es.set j e = es := by
    apply List.ext_getElem?; intro k; rw [List.getElem?_set]
    split
    · rename_i hk; subst hk; split
      · exact hj.symm
      · rw [List.getElem?_eq_none (by omega)] at hj; cases hj
    · rfl
  have f0 := flat_set es j e e hl hj hn
  rw [hself] at f0
  have f1 := flat_set es j e e' hl hj (by rw [he]; exact hcl)
  have hjl : j < es.length := (List.getElem?_eq_some_iff.1 hj).1
  have hfl := flat_length es hl
  have hle : j * n + n ≤ es.length * n := by
    have : (j + 1) * n ≤ es.length * n := Nat.mul_le_mul_right _ hjl
    rw [Nat.add_mul] at this; omega
  generalize hA : (flatA es).take (j * n) = A at f0 f1
  generalize hB : (flatA es).drop (j * n + n) = B at f0 f1
  have lA : A.length = j * n := by rw [← hA, List.length_take]; omega
  refine ⟨?_, by omega, hcl⟩
  rw [f1, he, f0]
  rw [← lA, List.take_length_add_append, show A.length + off + vs.length = A.length + (off + vs.length) from by omega, List.drop_length_add_append]
  rw [List.take_append_of_le_length (by omega), List.drop_append_of_le_length (by omega), h2]
  simp

theorem writeA_sound {h : Heap} (S : Sim E F σ h w) {t : Nat} {i : TI} (ht : TyOk P t i) {x v : AV} {vx vv : Value} (hx : V σ (own F σ h) w x vx) (hv : V σ (own F σ h) w v vv) {h' : Heap} {ts : List Nat}
    (hr : writeA h i v x = some (h', ts)) (aid : Nat) : ∃ w', (Instr.storeAt t vx vv).run P w = .ok () w' ∧ Sim E F σ h' w' ∧ Stp F σ h w ts aid σ h' w' := by
  unfold writeA at hr
  split at hr
  · -- a box
    rename_i id off
    split at hr
    · rename_i cs bt ho
      rw [cond_eq_ite] at hr
      split at hr
      · rename_i hc
        simp only [Bool.and_eq_true, Nat.beq_eq] at hc
        split at hr
        · rename_i cs' hp
          obtain ⟨rfl, rfl⟩ := by simpa using hr
          obtain ⟨s', hs', hrel⟩ := S.obj id _ ho
          rw [V] at hx; obtain ⟨s, hs, rfl⟩ := hx
          obtain rfl := Option.some.inj (hs.symm.trans hs')
          obtain ⟨hb, arr, el, fz, h6, h7, h8, h9⟩ := hrel
          obtain ⟨q1, q2⟩ := putCells_eq hp
          have hvl := cells_VL hv hc.2
          have hsz := VL_len hvl
          obtain ⟨w', arr', k1, k2, k3, k4, k5, k6, k7, k8, k9⟩ := run_storeCells (P := P) vv.cells.toList 0 (s.base + off) w arr h6 h8 (by omega) (VL_oneCell hvl)
          refine ⟨w', ?_, ?_⟩
          · simp only [Instr.storeAt, Instr.sureAddr, Sem.run_bind, Sem.run_pure, Result.andThen_ok, storeVar, ht.run_size]
            have : vv.cells.size = i.size := by rw [← hc.1, ← hsz]; simp
            rw [if_neg (by simp [this])]; exact k1
          · have := write_step (E := E) S ho hs rfl aid (by simp [aliasIs]) (o' := .box cs' bt) (w' := w') k5 k6 k7 k8 k9 (fun O2 kp => ?_)
            · exact this
            · have hka := h9.write (off := off) (base := 0) hvl (arr' := arr') (by rw [k4, hb]; simp) q1 (by omega)
              exact ⟨hb, arr', el, fz, k2, by rw [k3, h7, q2]; simp; omega, by rw [k3]; exact h8, by rw [q2]; exact hka.mono kp⟩
        · cases hr
      · cases hr
    · cases hr
  · -- an element
    rename_i id j off
    split at hr
    · rename_i n ag es ti ro al et ho
      rw [cond_eq_ite] at hr
      split at hr
      · rename_i hc
        simp only [Bool.and_eq_true, Nat.beq_eq, Bool.not_eq_true'] at hc
        split at hr
        · rename_i e he
          split at hr
          · rename_i cs' hp
            split at hr
            · rename_i e' hm
              obtain ⟨rfl, rfl⟩ := by simpa using hr
              obtain ⟨s', hs', hrel⟩ := S.obj id _ ho
              rw [V] at hx; obtain ⟨s, hs, rfl⟩ := hx
              obtain rfl := Option.some.inj (hs.symm.trans hs')
              obtain ⟨h1, h2, h3, h4, h5, arr, el, fz, h6, h7, h8, h9⟩ := hrel
              have hw : ∀ e ∈ es, e.cells.length = n := fun e he => by rw [← shape_fst, h3 e he]
              have hvl := cells_VL hv hc.2
              have hsz := VL_len hvl
              have hone : cs'.all AV.oneCell = true := by
                obtain ⟨_, q2⟩ := putCells_eq hp
                have ho1 := h9.one
                rw [List.all_eq_true] at ho1 ⊢
                have hee : ∀ c ∈ e.cells, c.oneCell = true := fun c hcm => ho1 c (by unfold flatA; exact List.mem_flatMap.2 ⟨e, List.mem_of_getElem? he, hcm⟩)
                intro c hcm
                rw [q2] at hcm
                rcases List.mem_append.1 hcm with hcm | hcm
                · exact hee c (List.mem_of_mem_take hcm)
                · rcases List.mem_append.1 hcm with hcm | hcm
                  · exact (List.all_eq_true.1 hc.2) c hcm
                  · exact hee c (List.mem_of_mem_drop hcm)
              have hcells : e'.cells = cs' := (mkElem_ok hm rfl hone).2
              obtain ⟨f1, f2, f3⟩ := flat_put hw he hp hcells
              have hfl := flat_length es hw
              have htot : es.length * n ≤ s.total * n := Nat.mul_le_mul_right _ h4
              obtain ⟨w', arr', k1, k2, k3, k4, k5, k6, k7, k8, k9⟩ := run_storeCells (P := P) vv.cells.toList 0 (s.base + (j * s.width + off)) w arr h6 h8 (by rw [h1]; omega) (VL_oneCell hvl)
              refine ⟨w', ?_, ?_⟩
              · simp only [Instr.storeAt, Instr.sureAddr, Sem.run_bind, Sem.run_pure, Result.andThen_ok, storeVar, ht.run_size]
                have : vv.cells.size = i.size := by rw [← hc.1.2, ← hsz]; simp
                rw [if_neg (by simp [this])]; exact k1
              · have := write_step (E := E) S ho hs hc.1.1 aid (by simp [aliasIs]) (o' := .vec n ag (es.set j e') ti ro none et) (w' := w') k5 k6 k7 k8 k9 (fun O2 kp => ?_)
                · exact this
                · have hka := h9.write (off := j * n + off) hvl (arr' := arr') (by rw [k4, h1]; simp) f2 (by omega)
                  refine ⟨h1, h2, ?_, by simpa using h4, fun ht => by simpa using h5 ht, arr', el, fz, k2, by rw [k3, h7], by rw [k3]; exact h8, by rw [f1]; exact hka.mono kp⟩
                  intro x hxm
                  rcases List.mem_or_eq_of_mem_set hxm with hxm | rfl
                  · exact h3 x hxm
                  · exact (mkElem_ok hm f3 hone).1
            · cases hr
          · cases hr
        · cases hr
      · cases hr
    · cases hr
  · cases hr
end
end Go.AE
end

section
/- What makes memory. -/
namespace Go.AE
variable {F : Nat → Prop}
section
variable {E : Env} {P : Program} {σ : Sg} {w : World}

/-- What an operation did. -/
structure Did (E : Env) (F : Nat → Prop) (σ : Sg) (h : Heap) (w : World) (ts : List Nat) (aid : Nat) (v : AV) (h' : Heap) (σ' : Sg) (val : Value) (w' : World) : Prop where
  sim : Sim E F σ' h' w'
  stp : Stp F σ h w ts aid σ' h' w'
  v : V σ' (own F σ' h') w' v val

theorem Did.same {h : Heap} (S : Sim E F σ h w) (aid : Nat) {v : AV} {val : Value} (hv : V σ (own F σ h) w v val) : Did E F σ h w [] aid v h σ val w :=
  ⟨S, Stp.refl _ _ _ _, hv⟩

theorem VL.ka {O : Nat → Prop} {cs : List AV} {arr : Array Value} (h : VL σ O w true cs arr.toList) : KA σ O w cs arr 0 := by
  intro j c hj
  obtain ⟨v, h1, h2, h3⟩ := VL_get h j c hj
  exact ⟨v, by simpa using h1, h3 rfl, h2⟩

theorem open_none (n : Nat) : open_ n (0, 0) := fun j _ h => by simp at h

theorem Kept.vl {σ' : Sg} {O O' : Nat → Prop} {w' : World} (k : Kept σ O w σ' O' w') {b : Bool} {xs : List AV} {l : List Value} (h : VL σ O w b xs l) : VL σ' O' w' b xs l := VL.mono k _ _ _ h

/-- A variable of its own. -/
theorem box_did {h : Heap} (S : Sim E F σ h w) {aid : Nat} (hs : σ aid = none) {cs : List AV} {arr : Array Value} (hv : VL σ (own F σ h) w true cs arr.toList) (e : TypeId) :
    ∃ σ', Did E F σ h w [] aid (.ptr aid 0) (h.set aid (some (.box cs e))) σ' (.pointer (some ⟨w.heap.size, 0, none⟩)) { w with heap := w.heap.push (.cells arr e) } := by
  have := alloc_step (E := E) S (w' := { w with heap := w.heap.push (.cells arr e) }) (o := .box cs e) (s := ⟨w.heap.size, 0, 1, 0⟩) hs rfl rfl rfl rfl rfl (by simp [aliasIs]) (fun σ2 O2 k => by
    refine ⟨rfl, arr, ⟨e, rfl⟩, (0, 0), by simp, ?_, open_none _, (k.vl hv).ka⟩
    have := VL_len hv; simpa using this)
  exact ⟨_, this.1, this.2, by rw [V]; exact ⟨⟨w.heap.size, 0, 1, 0⟩, by simp, rfl⟩⟩

theorem zero_cells {z : AV} {zv : Value} (h2 : ofVal zv = some z) (O : Nat → Prop) : VL σ O w true z.cells zv.cells.toList := by
  have hV : V σ O w z zv := ofVal_V h2
  unfold ofVal at h2
  split at h2
  · split at h2
    · rename_i cs l hl
      obtain rfl := Option.some.inj h2
      exact mapO_ofVal1 _ _ hl
    · cases h2
  · exact cells_VL hV (by
      have := (ofVal1_V (σ := σ) (O := O) (w := w) h2).2
      have e : z.cells = [z] := by cases z <;> first | rfl | cases this
      rw [e]; simpa using this)

theorem alloc_sound {h : Heap} (S : Sim E F σ h w) {aid : Nat} (hs : σ aid = none) {t : Nat} {i : TI} (ht : TyOk P t i) {z : AV} (hz : i.zero = some z) :
    ∃ σ' val w', (Instr.alloc t true (.tuple #[])).run P w = .ok val w' ∧ Did E F σ h w [] aid (.ptr aid 0) (h.set aid (some (.box z.cells t))) σ' val w' := by
  obtain ⟨zv, h1, h2⟩ := ht.run_zero (w := w) hz
  obtain ⟨σ', d⟩ := box_did S hs (zero_cells h2 _) t
  refine ⟨σ', _, _, ?_, d⟩
  simp [Instr.alloc, h1, newVar, newRow]

theorem boxOp_sound {h : Heap} (S : Sim E F σ h w) {aid : Nat} (hs : σ aid = none) {t : TypeId} {x : AV} {v : Value} (hx : V σ (own F σ h) w x v) (hc : x.cells.all AV.oneCell = true) :
    ∃ σ' val w', (Instr.box t v).run P w = .ok val w' ∧ Did E F σ h w [] aid (.ptr aid 0) (h.set aid (some (.box x.cells t))) σ' val w' := by
  obtain ⟨σ', d⟩ := box_did S hs (cells_VL hx hc) t
  exact ⟨σ', _, _, by simp [Instr.box, newVar, newRow], d⟩

theorem fits_ok {i : TI} {v : AV} (h : fits i v = true) : shape v = (i.size, i.isAgg) ∧ v.cells.all AV.oneCell = true ∧ v.cells.length = i.size ∧ 0 < i.size := by
  unfold fits at h
  split at h
  · simp only [Bool.and_eq_true, Nat.beq_eq] at h; obtain ⟨⟨⟨h1, h2⟩, h3⟩, h4⟩ := h
    exact ⟨by simp [shape, h1, h2], h3, h2, by simpa [Nat.blt_eq] using h4⟩
  · cases h
  · rename_i h1 h2
    simp only [Bool.and_eq_true, Nat.beq_eq, Bool.not_eq_true'] at h
    have e : v.cells = [v] := by cases v <;> first | rfl | exact absurd rfl (h1 _)
    have e2 : shape v = (1, false) := by cases v <;> first | rfl | exact absurd rfl (h1 _)
    have e3 : v.oneCell = true := by cases v <;> first | rfl | exact absurd rfl (h1 _) | exact absurd rfl (h2 _)
    exact ⟨by rw [e2, h.1, h.2], by rw [e]; simp [e3], by rw [e]; simp [h.2], by omega⟩

/-- A new row of elements, all of it held. -/
theorem row_did {et : Option Nat} {h : Heap} (S : Sim E F σ h w) {aid : Nat} (hs : σ aid = none) {n : Nat} {ag ti : Bool} {al : Option Nat} {es : List AV} {arr : Array Value} {e : TypeId} {fz : Nat × Nat} {d : Nat} {len tot : Nat}
    (hn : 0 < n) (hsh : ∀ e ∈ es, shape e = (n, ag)) (hka : ∀ σ2 O2 w2, Kept σ (own F σ h) w σ2 O2 w2 → KA σ2 O2 w2 (flatA es) arr 0) (hsz : arr.size = tot * n) (hle : es.length ≤ tot) (hti : ti = true → es.length = tot)
    (hfz : open_ arr.size fz) (hlen : len ≤ tot) (hal : ∀ k, al = some k → σ k ≠ none ∧ ∀ ok, h k = some ok → isRo ok = true) (het : ∀ u, et = some u → e = u) :
    ∃ σ', Did E F σ h w [] aid (.vec aid 0 len none) (h.set aid (some (.vec n ag es ti false al et))) σ' (.slice (some ⟨w.heap.size, 0, none⟩) len tot) { w with heap := w.heap.push (.cells arr e fz), drawn := d } := by
  have := alloc_step (E := E) S (w' := { w with heap := w.heap.push (.cells arr e fz), drawn := d }) (o := .vec n ag es ti false al et) (s := ⟨w.heap.size, 0, n, tot⟩) hs rfl rfl rfl rfl rfl (fun k hk => hal k (aliasIs_vec hk)) (fun σ2 O2 k => by
    exact ⟨rfl, hn, hsh, hle, hti, arr, ⟨e, het⟩, fz, by simp, by simpa using hsz, hfz, hka _ _ _ k⟩)
  exact ⟨_, this.1, this.2, by rw [V]; exact ⟨⟨w.heap.size, 0, n, tot⟩, tot, ⟨w.heap.size, 0, none⟩, by simp, rfl, hlen, by simp, by simp, by simp, .inr (by simp)⟩⟩

theorem zero_row {O : Nat → Prop} {z : AV} {zv : Value} {n : Nat} (hz : VL σ O w true z.cells zv.cells.toList) (hn : z.cells.length = n) (hn0 : 0 < n) (len : Nat) :
    VL σ O w true (flatA (List.replicate len z)) ((Array.range (len * n)).map fun i => zv.cells[i % zv.cells.size]!).toList := by
  have hsz : zv.cells.size = n := by have := VL_len hz; simp at this; omega
  have hw : ∀ e ∈ List.replicate len z, e.cells.length = n := fun e he => by rw [List.eq_of_mem_replicate he]; exact hn
  have hfl := flat_length _ hw
  rw [List.length_replicate] at hfl
  refine VL_of (by simp [hfl]) fun j x v hj hv => ?_
  have hj' : j < len * n := by rw [← hfl]; exact (List.getElem?_eq_some_iff.1 hj).1
  have e1 : j / n < len := (Nat.div_lt_iff_lt_mul hn0).2 hj'
  have e2 : j % n < n := Nat.mod_lt _ hn0
  have e3 : j / n * n + j % n = j := by rw [Nat.mul_comm]; exact Nat.div_add_mod j n
  have := flat_get _ hw (j / n) z (j % n) (by simp [e1]) e2
  rw [e3, hj] at this
  obtain ⟨u, h1, h2, h3⟩ := VL_get hz _ _ this.symm
  have hu : v = u := by
    simp only [Array.toList_map, Array.toList_range, List.getElem?_map, List.getElem?_range hj', Option.map_some, Option.some.injEq, hsz] at hv
    rw [← hv]
    have h1' : zv.cells[j % n]? = some u := by simpa using h1
    rw [getElem!_pos zv.cells _ (by omega)]
    rw [Array.getElem?_eq_getElem (by omega)] at h1'
    exact Option.some.inj h1'
  subst hu
  exact ⟨h2, h3⟩

theorem setElems_fill {O : Nat → Prop} {n : Nat} : ∀ {ps : List (Nat × AV)} {qs : List (Nat × Value)} {es es' : List AV} {a : Array Value}, PL σ O w ps qs →
    (∀ p ∈ ps, p.2.cells.length = n ∧ p.2.cells.all AV.oneCell = true) → (∀ e ∈ es, e.cells.length = n) → VL σ O w true (flatA es) a.toList → setElems es ps = some es' →
    ∃ b, Instr.fill (fun i => some (i * n, n)) a qs = some b ∧ VL σ O w true (flatA es') b.toList ∧ es'.length = es.length ∧ (∀ e ∈ es', e ∈ es ∨ ∃ p ∈ ps, e = p.2) := by
  intro ps
  induction ps with
  | nil =>
    intro qs es es' a hp _ _ hv hr
    cases hp
    obtain rfl := Option.some.inj hr
    exact ⟨a, rfl, hv, rfl, fun e he => .inl he⟩
  | cons p ps ih =>
    intro qs es es' a hp hps hes hv hr
    cases hp with
    | cons hx hk =>
      rename_i i x v m
      simp only [setElems] at hr
      rw [cond_eq_ite] at hr
      split at hr
      · rename_i hi
        have hi : i < es.length := by simpa [Nat.blt_eq] using hi
        obtain ⟨c1, c2⟩ := hps (i, x) (by simp)
        simp only at c1 c2
        have hcv := cells_VL hx c2
        have hget : es[i]? = some es[i] := List.getElem?_eq_getElem hi
        have hlen : es[i].cells.length = n := hes _ (List.getElem_mem hi)
        have hput : putCells es[i].cells 0 x.cells = some x.cells := by
          unfold putCells
          rw [cond_eq_ite, if_pos (by rw [Nat.ble_eq]; omega)]
          simp only [List.take_zero, List.nil_append, Nat.zero_add]
          rw [List.drop_of_length_le (by omega)]; simp
        obtain ⟨f1, f2, _⟩ := flat_put (e' := x) hes hget hput rfl
        have hput2 : putCells (flatA es) (i * n) x.cells = some (flatA (es.set i x)) := by
          unfold putCells
          rw [cond_eq_ite, if_pos (by rw [Nat.ble_eq]; omega), f1]; simp
        obtain ⟨k1, k2⟩ := putCells_VL hv hcv hput2
        obtain ⟨b, k3, k4, k5, k6⟩ := ih hk (fun q hq => hps q (by simp [hq])) (fun e he => by
          rcases List.mem_or_eq_of_mem_set he with he | rfl
          · exact hes e he
          · exact c1) k2 hr
        have hsz := VL_len hcv
        simp only [Array.length_toList] at hsz
        refine ⟨b, ?_, k4, by simpa using k5, fun e he => ?_⟩
        · rw [Instr.fill]
          simp only
          rw [if_neg (by simp only [Bool.or_eq_true, ne_eq, decide_eq_true_eq]; omega)]
          exact k3
        · rcases k6 e he with h | ⟨q, hq, rfl⟩
          · rcases List.mem_or_eq_of_mem_set h with h | h
            · exact .inl h
            · exact .inr ⟨(i, x), by simp, h⟩
          · exact .inr ⟨q, by simp [hq], rfl⟩
      · cases hr

theorem buildSlice_sound {h : Heap} (S : Sim E F σ h w) {aid : Nat} (hs : σ aid = none) {t e : TypeId} {ei : TI} (hu : P.underlying t = some (.slice e)) (he : TyOk P e ei) {z : AV} (hz : ei.zero = some z)
    (hfz : fits ei z = true) {len : Nat} (hb : len * ei.size ≤ 16777216) {ps : List (Nat × AV)} {qs : Array (Nat × Value)} (hp : PL σ (own F σ h) w ps qs.toList) (hps : ps.all (fun p => fits ei p.2) = true)
    {es : List AV} (hr : setElems (listRepl len z) ps = some es) :
    ∃ σ' val w', (Instr.buildSlice t len qs).run P w = .ok val w' ∧ Did E F σ h w [] aid (.vec aid 0 len none) (h.set aid (some (.vec ei.size ei.isAgg es true false none (some e)))) σ' val w' := by
  obtain ⟨zv, h1, h2⟩ := he.run_zero (w := w) hz
  obtain ⟨z1, z2, z3, z4⟩ := fits_ok hfz
  have hzc := zero_cells (σ := σ) (w := w) h2 (own F σ h)
  have hrow := zero_row hzc z3 z4 len
  rw [List.all_eq_true] at hps
  obtain ⟨b, k1, k2, k3, k4⟩ := setElems_fill hp (fun p hpm => ⟨(fits_ok (hps p hpm)).2.2.1, (fits_ok (hps p hpm)).2.1⟩) (fun e he => by rw [List.eq_of_mem_replicate he]; exact z3) hrow hr
  have hlen : es.length = len := by rw [k3]; simp
  have hsh : ∀ e ∈ es, shape e = (ei.size, ei.isAgg) := by
    intro x hx
    rcases k4 x hx with hx | ⟨p, hpm, rfl⟩
    · rw [List.eq_of_mem_replicate hx]; exact z1
    · exact (fits_ok (hps p hpm)).1
  have hw : ∀ e ∈ es, e.cells.length = ei.size := fun x hx => by rw [← shape_fst, hsh x hx]
  have hbs : b.size = len * ei.size := by have := VL_len k2; rw [flat_length es hw, hlen] at this; simpa using this
  obtain ⟨σ', d⟩ := row_did (E := E) S hs (ti := true) (al := none) (arr := b) (e := e) (fz := (0, 0)) (d := w.drawn) (len := len) (tot := len) z4 hsh (fun σ2 O2 w2 k => (k.vl k2).ka) hbs (by omega) (fun _ => hlen) (open_none _) (Nat.le_refl _) (by simp) (et := some e) (fun u hu => by cases hu; rfl)
  refine ⟨σ', _, _, ?_, d⟩
  have e1 : ¬ (len * ei.size > 2 ^ 24) := by have : (2:Nat) ^ 24 = 16777216 := by decide
                                             omega
  simp only [Instr.buildSlice, Sem.run_bind, run_underlying hu, Result.andThen_ok, he.run_size, if_neg e1]
  by_cases h0 : len * ei.size = 0
  · have e0 : ∀ f : Nat → Value, (Array.range 0).map f = #[] := fun f => Array.eq_empty_of_size_eq_zero (by simp)
    simp only [h0, e0] at k1
    simp only [h0, if_true, Sem.run_pure, Result.andThen_ok, e0, k1, newRow, Sem.run_bind, run_newObj]
  · simp only [h0, if_false, Sem.run_bind, h1, Result.andThen_ok, Sem.run_pure, k1, newRow, run_newObj]

theorem makeSlice_sound {h : Heap} (S : Sim E F σ h w) {aid : Nat} (hs : σ aid = none) {t e : TypeId} {ei : TI} (hu : P.underlying t = some (.slice e)) (he : TyOk P e ei) {z : AV} (hz : ei.zero = some z)
    (hfz : fits ei z = true) {n m : Int} {k k' : IntKind} (h0 : 0 ≤ n) (hnm : n ≤ m) (hb : m.toNat * (ei.bytes + 1) ≤ 140737488355328) :
    ∃ σ' val w', (Instr.makeSlice t (.int k n) (.int k' m)).run P w = .ok val w' ∧
      Did E F σ h w [] aid (.vec aid 0 n.toNat none) (h.set aid (some (.vec ei.size ei.isAgg (listRepl m.toNat z) true false none (some e)))) σ' val w' := by
  obtain ⟨zv, h1, h2⟩ := he.run_zero (w := w) hz
  obtain ⟨z1, z2, z3, z4⟩ := fits_ok hfz
  have hzc := zero_cells (σ := σ) (w := w) h2 (own F σ h)
  have hrow := zero_row hzc z3 z4 m.toNat
  have hsz : ((Array.range (m.toNat * ei.size)).map fun i => zv.cells[i % zv.cells.size]!).size = m.toNat * ei.size := by simp
  obtain ⟨σ', d⟩ := row_did (E := E) S hs (ti := true) (al := none) (es := listRepl m.toNat z) (e := e) (fz := (0, 0)) (d := w.drawn) (len := n.toNat) (tot := m.toNat) z4 (fun x hx => by rw [List.eq_of_mem_replicate hx]; exact z1)
    (fun σ2 O2 w2 k => (k.vl hrow).ka) hsz (by simp [listRepl]) (fun _ => by simp [listRepl]) (open_none _) (by omega) (by simp) (et := some e) (fun u hu => by cases hu; rfl)
  refine ⟨σ', _, _, ?_, d⟩
  obtain ⟨inf, i1, _, i3, _⟩ := he.info
  have hm2 : m.toNat * ei.bytes + m.toNat ≤ 140737488355328 := by rw [Nat.mul_add] at hb; omega
  have hmi : m = (m.toNat : Int) := by omega
  have hmz : m ≤ 140737488355328 := by omega
  have wm : IntKind.i64.wrap m = m := by rw [← wrapK_eq]; simp only [wrapK, inI64_eq]; rw [cond_eq_ite, if_pos (by simp; omega)]
  have wn : IntKind.i64.wrap n = n := by rw [← wrapK_eq]; simp only [wrapK, inI64_eq]; rw [cond_eq_ite, if_pos (by simp; omega)]
  have hbm : (ei.bytes : Int) * m ≤ 2 ^ 48 := by
    rw [hmi, ← Int.natCast_mul, Nat.mul_comm]
    have : ((m.toNat * ei.bytes : Nat) : Int) ≤ 140737488355328 := by omega
    have e48 : (2 : Int) ^ 48 = 281474976710656 := by decide
    omega
  have c1 : (decide (m < 0) || decide ((ei.bytes : Int) * m > 2 ^ 48)) = false := by
    rw [Bool.or_eq_false_iff]; simp only [decide_eq_false_iff_not]; omega
  have c2 : ((decide (m < 0) || decide ((ei.bytes : Int) * m > 2 ^ 48)) || decide (n < 0) || decide (n > m)) = false := by
    rw [c1]; rw [Bool.or_eq_false_iff, Bool.or_eq_false_iff]; simp only [decide_eq_false_iff_not]; exact ⟨⟨trivial, by omega⟩, by omega⟩
  simp only [Instr.makeSlice, Sem.run_bind, run_underlying hu, Result.andThen_ok, asInt, asIntOf, Sem.run_pure, typeInfo, run_program, i1, i3, wm, wn, c2, Bool.false_eq_true, if_false, he.run_size, run_askRoom]
  by_cases h0' : m.toNat * ei.size = 0
  · have e0 : ∀ f : Nat → Value, (Array.range 0).map f = #[] := fun f => Array.eq_empty_of_size_eq_zero (by simp)
    simp only [h0', if_true, Sem.run_pure, Result.andThen_ok, e0, newRow, Sem.run_bind, run_newObj]
  · simp only [h0', if_false, Sem.run_bind, h1, Result.andThen_ok, Sem.run_pure, newRow, run_newObj]

end
end Go.AE
end

section
/- The elements of slices. -/
namespace Go.AE
variable {F : Nat → Prop}
section
variable {E : Env} {P : Program} {σ : Sg} {O : Nat → Prop} {w : World}

/-- The first elements' cells are these, whatever has been drawn. -/
def Reads (P : Program) (w : World) (size n : Nat) (x : Value) (vals : List Value) : Prop :=
  ∀ w1 : World, w1.heap = w.heap → (Builtin.firstCells size n x).run P w1 = .ok vals.toArray w1

theorem cell_heap {w w1 : World} (h : w1.heap = w.heap) (a : Addr) : w1.cell? a = w.cell? a := by simp [World.cell?, h]

theorem reads_addr {b o size n : Nat} {l c : Nat} {vals : List Value} (hl : vals.length = n * size) (hv : ∀ (j : Nat) v, vals[j]? = some v → w.cell? ⟨b, o + j, none⟩ = some v) :
    Reads P w size n (.slice (some ⟨b, o, none⟩) l c) vals := by
  intro w1 h1
  simp only [Builtin.firstCells, loadCells]
  rw [← hl]
  have := run_loadCellsFrom (P := P) (w := w1) (b := b) (o := o) vals 0 #[] (fun j v hj => by rw [cell_heap h1]; simpa using hv j v hj)
  simpa using this

theorem reads_pre {b o size n m : Nat} {l c : Nat} {vals : List Value} (hl : vals.length = m * size) (hv : ∀ (j : Nat) v, vals[j]? = some v → w.cell? ⟨b, o + j, none⟩ = some v) (hn : n ≤ m) :
    Reads P w size n (.slice (some ⟨b, o, none⟩) l c) (vals.take (n * size)) := by
  have hle : n * size ≤ m * size := Nat.mul_le_mul_right _ hn
  refine reads_addr (by rw [List.length_take]; omega) fun j v hj => ?_
  rw [List.getElem?_take] at hj
  split at hj
  · exact hv j v hj
  · cases hj

theorem reads_zero {size : Nat} {a : Option Addr} {l c : Nat} : Reads P w size 0 (.slice a l c) [] := by
  intro w1 _
  cases a <;> simp [Builtin.firstCells, loadCells, loadCellsFrom]

theorem reads_nil {size n : Nat} {a : Option Addr} {l c : Nat} (hn : n ≤ ([] : List AV).length) : Reads P w size n (.slice a l c) (([] : List Value).take (n * size)) := by
  have : n = 0 := by simpa using hn
  subst this
  simpa using reads_zero (P := P) (w := w) (size := size) (a := a) (l := l) (c := c)

theorem flat_take {n : Nat} : ∀ (es : List AV) (k : Nat), (∀ e ∈ es, e.cells.length = n) → flatA (es.take k) = (flatA es).take (k * n)
  | [], k, _ => by simp [flatA]
  | x :: xs, 0, _ => by simp [flatA]
  | x :: xs, k + 1, hl => by
    have ih := flat_take xs k (fun e he => hl e (by simp [he]))
    simp only [List.take_succ_cons, flatA, List.flatMap_cons] at ih ⊢
    rw [ih, show (k + 1) * n = x.cells.length + k * n from by rw [Nat.add_mul, hl x (by simp)]; omega, List.take_length_add_append]

theorem flat_drop {n : Nat} : ∀ (es : List AV) (k : Nat), (∀ e ∈ es, e.cells.length = n) → flatA (es.drop k) = (flatA es).drop (k * n)
  | [], k, _ => by simp [flatA]
  | x :: xs, 0, _ => by simp [flatA]
  | x :: xs, k + 1, hl => by
    have ih := flat_drop xs k (fun e he => hl e (by simp [he]))
    simp only [List.drop_succ_cons, flatA, List.flatMap_cons] at ih ⊢
    rw [ih, show (k + 1) * n = x.cells.length + k * n from by rw [Nat.add_mul, hl x (by simp)]; omega, List.drop_length_add_append]

theorem flat_append (a b : List AV) : flatA (a ++ b) = flatA a ++ flatA b := by simp [flatA]

theorem ME_kn {sh : Nat × Bool} : ∀ {es : List AV} {b o : Nat}, ME σ O w sh es b o → KN σ O w (flatA es) b o
  | [], b, o, _ => by intro j c hj; simp [flatA] at hj
  | x :: xs, b, o, h => by
    rw [ME] at h
    obtain ⟨h1, h2, h3⟩ := h
    have k1 := VE_cells h2
    have k2 := ME_kn h3
    have hl : x.cells.length = sh.1 := by rw [← shape_fst, h1]
    intro j c hj
    simp only [flatA, List.flatMap_cons] at hj
    by_cases hlt : j < x.cells.length
    · rw [List.getElem?_append_left hlt] at hj; exact k1 j c hj
    · rw [List.getElem?_append_right (by omega)] at hj
      have := k2 _ c hj
      rwa [show o + sh.1 + (j - x.cells.length) = o + j from by omega] at this

theorem flat_bytes : ∀ (s : List UInt8), flatA (s.map fun b => AV.int .u8 b.toNat) = s.map fun b => AV.int .u8 b.toNat
  | [] => rfl
  | b :: s => by
    have := flat_bytes s
    simp only [flatA, List.map_cons, List.flatMap_cons] at this ⊢
    rw [this]; rfl

theorem elemsA_sound {h : Heap} (S : Sim E F σ h w) {i : TI} {x : AV} {vx : Value} {es : List AV} (hx : V σ (own F σ h) w x vx) (hr : elemsA h i x = some es) :
    (∃ vals, VL σ (own F σ h) w true (flatA es) vals ∧ Reads P w i.size es.length vx vals ∧ ∀ n, n ≤ es.length → Reads P w i.size n vx (vals.take (n * i.size))) ∧ (∀ w1 : World, (Builtin.lenOf vx).run P w1 = .ok es.length w1) ∧
    (∀ e ∈ es, shape e = (i.size, i.isAgg)) ∧ isIntA x = false ∧ (es ≠ [] → 0 < i.size) := by
  cases x with
  | nils =>
    simp only [elemsA, Option.some.injEq] at hr; subst hr
    rw [V] at hx; subst hx
    exact ⟨⟨[], by simp only [flatA, List.flatMap_nil]; rw [VL], reads_zero, fun n hn => reads_nil hn⟩, fun _ => rfl, by simp, rfl, by simp⟩
  | list l tight =>
    simp only [elemsA] at hr
    rw [cond_eq_ite] at hr
    split at hr
    · rename_i hf
      obtain rfl := Option.some.inj hr
      rw [V] at hx; obtain ⟨a, cap, rfl, h1, h2, _, h3⟩ := hx
      rcases h3 with rfl | ⟨b, o, sh, rfl, hb, hlt, hm⟩
      · exact ⟨⟨[], by simp only [flatA, List.flatMap_nil]; rw [VL], reads_zero, fun n hn => reads_nil hn⟩, fun _ => rfl, by simp, rfl, by simp⟩
      · have hsh : ∀ e ∈ l, shape e = sh := fun e he => by
          obtain ⟨j, hj⟩ := List.getElem?_of_mem he
          exact (ME_get hm j e hj).1
        have hall : ∀ e ∈ l, shape e = (i.size, i.isAgg) := by
          cases l with
          | nil => simp
          | cons y ys =>
            have h0 : shape y = (i.size, i.isAgg) := (fits_ok hf).1
            intro e he
            rw [hsh e he, ← hsh y (by simp), h0]
        have hw : ∀ e ∈ l, e.cells.length = i.size := fun e he => by rw [← shape_fst, hall e he]
        obtain ⟨vals, k1, k2, k3⟩ := (ME_kn hm).vals
        have hvl : vals.length = l.length * i.size := by rw [k2, flat_length l hw]
        refine ⟨⟨vals, k1, reads_addr hvl k3, fun n hn => reads_pre hvl k3 hn⟩, fun _ => rfl, hall, rfl, ?_⟩
        intro hne
        cases l with
        | nil => exact absurd rfl hne
        | cons y ys => exact (fits_ok hf).2.2.2
    · cases hr
  | vec id off len lim =>
    simp only [elemsA] at hr
    split at hr
    · rename_i n ag l ti ro al et ho
      rw [cond_eq_ite] at hr
      split at hr
      · rename_i hc
        simp only [Bool.and_eq_true, Nat.ble_eq, Nat.beq_eq, beq_iff_eq] at hc
        obtain ⟨⟨hc1, rfl⟩, rfl⟩ := hc
        obtain rfl := Option.some.inj hr
        obtain ⟨s', hs', hrel⟩ := S.obj id _ ho
        rw [V] at hx; obtain ⟨s, cap, a, hs, rfl, k1, k2, k3, k4, k5⟩ := hx
        obtain rfl := Option.some.inj (hs.symm.trans hs')
        obtain ⟨h1, h2, h3, h4, h5, arr, el, fz, h6, h7, h8, h9⟩ := hrel
        have hw : ∀ e ∈ l, e.cells.length = i.size := fun e he => by rw [← shape_fst, h3 e he]
        have hlen : ((l.drop off).take len).length = len := by simp; omega
        have hsub : ∀ e ∈ (l.drop off).take len, e ∈ l := fun e he => List.mem_of_mem_drop (List.mem_of_mem_take he)
        refine ⟨?_, fun _ => by rw [hlen]; rfl, fun e he => h3 e (hsub e he), rfl, fun _ => h2⟩
        by_cases h0 : len = 0
        · subst h0
          have e0 : (l.drop off).take 0 = [] := by simp
          rw [e0]
          exact ⟨[], by simp only [flatA, List.flatMap_nil]; rw [VL], reads_zero, fun n hn => reads_nil hn⟩
        · have ha : a = ⟨s.block, s.base + off * s.width, none⟩ := k5.resolve_left (by omega)
          subst ha
          have hkn := (h9.kn h6).sub (off * i.size) (len * i.size)
          rw [← flat_drop l off hw, ← flat_take _ len (fun e he => hw e (List.mem_of_mem_drop he))] at hkn
          obtain ⟨vals, q1, q2, q3⟩ := hkn.vals
          have hvl : vals.length = ((l.drop off).take len).length * i.size := by rw [q2, flat_length _ (fun e he => hw e (hsub e he))]
          refine ⟨vals, q1, ?_, fun n hn => ?_⟩
          · rw [h1]; exact reads_addr hvl q3
          · rw [h1]; exact reads_pre hvl q3 hn
      · cases hr
    · cases hr
  | str s =>
    simp only [elemsA] at hr
    rw [cond_eq_ite] at hr
    split at hr
    · rename_i hc
      simp only [Bool.and_eq_true, Nat.beq_eq, Bool.not_eq_true'] at hc
      obtain rfl := Option.some.inj hr
      rw [V] at hx; subst hx
      have hall : ∀ e ∈ s.map (fun b => AV.int .u8 b.toNat), shape e = (i.size, i.isAgg) := by
        intro e he
        obtain ⟨b, _, rfl⟩ := List.mem_map.1 he
        rw [hc.1, hc.2]; rfl
      have hfl : flatA (s.map fun b => AV.int .u8 b.toNat) = s.map fun b => AV.int .u8 b.toNat := flat_bytes s
      have hrd : ∀ n, n ≤ s.length → Reads P w i.size n (.string ⟨s.toArray⟩) ((s.map fun b => Value.int .u8 b.toNat).take (n * i.size)) := by
        intro n hn w1 _
        simp only [Builtin.firstCells, Sem.run_pure]
        congr 1
        apply Array.ext'
        simp [bytes_extract, hc.1, List.map_take]
      refine ⟨⟨s.map fun b => Value.int .u8 b.toNat, ?_, ?_, fun n hn => hrd n (by simpa using hn)⟩, fun w1 => by simp [Builtin.lenOf, ByteArray.size], hall, rfl, fun _ => by omega⟩
      · rw [hfl]
        refine VL_of (by simp) fun j x v hj hv => ?_
        simp only [List.getElem?_map] at hj hv
        cases hb : s[j]? with
        | none => rw [hb] at hj; cases hj
        | some b =>
          rw [hb] at hj hv
          simp only [Option.map_some, Option.some.injEq] at hj hv
          subst hj hv; exact ⟨by rw [V], fun _ => rfl⟩
      · have := hrd s.length (Nat.le_refl _)
        rw [hc.1, Nat.mul_one, List.take_of_length_le (by simp)] at this
        rw [List.length_map, hc.1]; exact this
    · cases hr
  | _ => simp [elemsA] at hr

end
end Go.AE
end

section
/- append: what it comes to. -/
namespace Go.AE
section
variable {E : Env} {P : Program} {σ : Sg} {O : Nat → Prop} {w : World}

/-- What append puts behind: so many elements, and their cells, whatever has been drawn. -/
structure Puts (P : Program) (w : World) (e u : TypeId) (ei : TI) (x : Value) (n : Nat) (vals : List Value) : Prop where
  run : ∀ (t ty : TypeId) (s : Value) (base : Option Addr) (sLen sCap : Nat) (w1 : World), w1.heap = w.heap → P.underlying t = some (.slice e) → s = .slice base sLen sCap →
    ∃ (zeros : Bool) (appended : Sem (Array Value)), (∀ w2 : World, w2.heap = w.heap → appended.run P w2 = .ok vals.toArray w2) ∧
    (Builtin.append_ #[t, u] ty #[s, x]).run P w1 = ((do
      let need := sLen + n
      if need ≤ sCap then
        let new ← appended
        if let some a := base then storeCells (a.add (sLen * ei.size)) new.toList
        pure (Value.slice base need sCap)
      else
        if (need : Int) > IntKind.i64.max ∧ (zeros ∨ (← typeInfo e).bytes = 0) then runtimePanic (.error "growslice: len out of range")
        if Builtin.nextslicecap need sCap * (← typeInfo e).bytes > 2 ^ 48 then (if zeros then runtimePanic (.error "growslice: len out of range") else do
          if !(← Builtin.mayShare ei.size sLen n base x) then mark .noRoom
          unsupported (.resourceLimit "append: a slice or a string whose bytes no memory bears"))
        let newCap ← choose (.appendCap need sCap e)
        askRoom (newCap * (← typeInfo e).bytes)
        let old ← Builtin.firstCells ei.size sLen s
        let new ← appended
        let rest := Builtin.zeroCells (← zeroValue e).cells (newCap - need)
        pure (Value.slice (some (← newRow e (old ++ new ++ rest))) need newCap) : Sem Value)).run P w1
  len : vals.length = n * ei.size

theorem puts_elems {e u : TypeId} {ei ui : TI} (he : TyOk P e ei) (hu : TyOk P u ui) (hni : isIntD ui.desc = false) {x : Value} {n : Nat} {vals : List Value}
    (hlen : ∀ w1 : World, (Builtin.lenOf x).run P w1 = .ok n w1) (hr : Reads P w ei.size n x vals) (hl : vals.length = n * ei.size) : Puts P w e u ei x n vals := by
  refine ⟨fun t ty s base sLen sCap w1 h1 ht hs => ⟨false, Builtin.firstCells ei.size n x, hr, ?_⟩, hl⟩
  subst hs
  have hud := hu.run_und (w := w1)
  generalize ui.desc = d at hni hud
  cases d with
  | int k => cases hni
  | _ =>
    simp only [Builtin.append_, List.getElem?_toArray, List.getElem?_cons_zero, List.getElem?_cons_succ, Sem.run_bind, run_underlying ht, Result.andThen_ok, he.run_size, hud, Sem.run_pure,
      Bool.false_eq_true, if_false, hlen, Bool.not_false, if_true]
    rfl

theorem puts_zeros {e u : TypeId} {ei ui : TI} (he : TyOk P e ei) (hu : TyOk P u ui) (hni : isIntD ui.desc = true) {k : IntKind} {m : Int} (h0 : 0 ≤ m) (hb : m.toNat * (ei.bytes + 1) ≤ 140737488355328)
    {zv : Value} (hz0 : ∀ w1 : World, (zeroValue e).run P w1 = .ok zv w1) (hzs : zv.cells.size = ei.size) : Puts P w e u ei (.int k m) m.toNat (Builtin.zeroCells zv.cells m.toNat).toList := by
  refine ⟨fun t ty s base sLen sCap w1 h1 ht hs => ⟨true, (if m.toNat * ei.size = 0 then pure #[] else do pure (Builtin.zeroCells (← zeroValue e).cells m.toNat)), ?_, ?_⟩, by simp [Builtin.zeroCells, hzs]⟩
  · intro w2 _
    by_cases h : m.toNat * ei.size = 0
    · rw [if_pos h]
      have : (Builtin.zeroCells zv.cells m.toNat) = #[] := Array.eq_empty_of_size_eq_zero (by simp [Builtin.zeroCells, hzs, h])
      rw [this]; rfl
    · rw [if_neg h]; simp [hz0]
  · subst hs
    have wm : IntKind.i64.wrap m = m := by
      rw [← wrapK_eq]; simp only [wrapK, inI64_eq]; rw [cond_eq_ite, if_pos (by simp; rw [Nat.mul_add] at hb; omega)]
    obtain ⟨inf, i1, _, i3, _⟩ := he.info
    have c1 : ¬ m < 0 := by omega
    have c2 : ¬ m * (ei.bytes : Int) > 2 ^ 48 := by
      have hm2 : m.toNat * ei.bytes + m.toNat ≤ 140737488355328 := by rw [Nat.mul_add] at hb; omega
      have e1 : m * (ei.bytes : Int) = ((m.toNat * ei.bytes : Nat) : Int) := by rw [Int.natCast_mul, Int.toNat_of_nonneg h0]
      have e48 : (2 : Int) ^ 48 = 281474976710656 := by decide
      rw [e1, e48]; omega
    have hud := hu.run_und (w := w1)
    generalize ui.desc = d at hni hud
    cases d with
    | int k' =>
      simp only [Builtin.append_, List.getElem?_toArray, List.getElem?_cons_zero, List.getElem?_cons_succ, Sem.run_bind, run_underlying ht, Result.andThen_ok, he.run_size, hud, Sem.run_pure,
        if_true, asInt, asIntOf, wm, c1, c2, if_false, typeInfo, run_program, i1, i3, Bool.not_true, Bool.false_eq_true]
      rfl
    | _ => cases hni

end
end Go.AE
end

section
/- append is sound. -/
namespace Go.AE
variable {F : Nat → Prop}
section
variable {E : Env} {P : Program} {σ : Sg} {O : Nat → Prop} {w : World}

theorem grow_run {e u t ty : TypeId} {ei : TI} {x s : Value} {n sLen sCap : Nat} {base : Option Addr} {vals olds : List Value} (hp : Puts P w e u ei x n vals) (he : TyOk P e ei) (ht : P.underlying t = some (.slice e))
    (hs : s = .slice base sLen sCap) (hno : ¬ sLen + n ≤ sCap) (hb : (sLen + n) * (2 * ei.bytes + 2) ≤ 70368744177664) {z : AV} (hz : ei.zero = some z) (ho : Reads P w ei.size sLen s olds) :
    ∃ (cap d : Nat) (rest : List Value), sLen + n ≤ cap ∧ rest.length = (cap - (sLen + n)) * ei.size ∧
      (Builtin.append_ #[t, u] ty #[s, x]).run P w = .ok (.slice (some ⟨w.heap.size, 0, none⟩) (sLen + n) cap) { w with heap := w.heap.push (.cells (olds.toArray ++ vals.toArray ++ rest.toArray) e), drawn := d } := by
  obtain ⟨zeros, app, h1, h2⟩ := hp.run t ty s base sLen sCap w rfl ht hs
  obtain ⟨zv, z1, z2⟩ := he.run_zero (w := { w with drawn := w.drawn + 1 }) hz
  obtain ⟨inf, i1, i2, i3, _⟩ := he.info
  have hneed : sLen + n ≤ 70368744177664 := by
    have : (sLen + n) * 2 ≤ (sLen + n) * (2 * ei.bytes + 2) := Nat.mul_le_mul_left _ (by omega)
    omega
  have hbytes : (sLen + n) * ei.bytes ≤ 140737488355328 := by
    have : (sLen + n) * ei.bytes ≤ (sLen + n) * (2 * ei.bytes + 2) := Nat.mul_le_mul_left _ (by omega)
    omega
  have hfit := growslice_fits (show sCap < sLen + n by omega) hbytes
  have c1 : ¬ (((sLen + n : Nat) : Int) > IntKind.i64.max ∧ (zeros = true ∨ ei.bytes = 0)) := by
    have : IntKind.i64.max = 9223372036854775807 := by decide
    rw [this]; omega
  have c2 : ¬ (Builtin.nextslicecap (sLen + n) sCap * ei.bytes > 2 ^ 48) := by
    have : (2 : Nat) ^ 48 = 281474976710656 := by decide
    omega
  have hzz := VL_len (zero_cells (σ := fun _ => none) (w := w) z2 (fun _ => False))
  have hzl : zv.cells.size = ei.size := by rw [he.zlen z hz] at hzz; simpa using hzz
  let cap := (Question.appendCap (sLen + n) sCap e).cut (w.tape w.drawn (.appendCap (sLen + n) sCap e))
  have hcap : sLen + n ≤ cap := by simp only [cap, Question.cut]; omega
  refine ⟨cap, w.drawn + 1, (Builtin.zeroCells zv.cells (cap - (sLen + n))).toList, hcap, ?_, ?_⟩
  · simp [Builtin.zeroCells, hzl]
  · rw [h2]
    simp only [if_neg hno, Sem.run_bind, typeInfo, run_program, i1, i3, Result.andThen_ok, Sem.run_pure, if_neg c1, if_neg c2, run_choose, Question.forced, Bool.false_eq_true, if_false, run_askRoom]
    rw [ho { w with drawn := w.drawn + 1 } rfl]
    simp only [Result.andThen_ok, h1 { w with drawn := w.drawn + 1 } rfl, z1, newRow, Sem.run_bind, run_newObj, Sem.run_pure]
    simp [cap]

theorem inplace_run {e u t ty : TypeId} {ei : TI} {x s : Value} {n sLen sCap : Nat} {base : Option Addr} {vals : List Value} (hp : Puts P w e u ei x n vals) (ht : P.underlying t = some (.slice e))
    (hs : s = .slice base sLen sCap) (hin : sLen + n ≤ sCap) {w' : World} (hst : match base with | some a => (storeCells (a.add (sLen * ei.size)) vals).run P w = .ok () w' | none => w' = w) :
    (Builtin.append_ #[t, u] ty #[s, x]).run P w = .ok (.slice base (sLen + n) sCap) w' := by
  obtain ⟨zeros, app, h1, h2⟩ := hp.run t ty s base sLen sCap w rfl ht hs
  rw [h2]
  simp only [if_pos hin, Sem.run_bind, h1 w rfl, Result.andThen_ok]
  cases base with
  | none => simp only at hst; subst hst; rfl
  | some a => simp only at hst; simp [hst]

/-- Nobody writes an object any more, and what it shared is let go. -/
theorem ro_step {et : Option Nat} {h : Heap} (S : Sim E F σ h w) {id n : Nat} {ag ti : Bool} {es : List AV} {al : Option Nat} {s : SI} (ho : h id = some (.vec n ag es ti false al et)) (hs : σ id = some s) (aid : Nat) :
    Sim E F σ ((kill h al).set id (some (.vec n ag es ti true none et))) w ∧ Stp F σ h w (touch id al) aid σ ((kill h al).set id (some (.vec n ag es ti true none et))) w := by
  obtain ⟨s', hs', hrel⟩ := S.obj id _ ho
  obtain rfl := Option.some.inj (hs.symm.trans hs')
  exact write_step (E := E) S (o := .vec n ag es ti false al et) (o' := .vec n ag es ti true none et) ho hs rfl aid (by simp [aliasIs]) rfl (fun _ _ => rfl) rfl rfl rfl (fun O2 k => hrel.mono k rfl)

theorem Stp.trans {σ1 σ2 σ3 : Sg} {h1 h2 h3 : Heap} {w1 w2 w3 : World} {a b : List Nat} {aid : Nat} (x : Stp F σ1 h1 w1 a aid σ2 h2 w2) (y : Stp F σ2 h2 w2 b aid σ3 h3 w3) (hf : h1 aid = none) :
    Stp F σ1 h1 w1 (a ++ b) aid σ3 h3 w3 := by
  refine ⟨⟨fun id s hid => y.kept.sg _ _ (x.kept.sg _ _ hid), Nat.le_trans x.kept.size y.kept.size, fun b hb => ?_, fun b hb ho => ?_⟩, y.os.trans x.os, y.tape.trans x.tape, y.output.trans x.output, fun id s o h1' h2' h3' => ?_, fun id hid => (y.sg id hid).trans (x.sg id hid), fun id hid hn => ?_, fun id hid h0 => y.gone id hid (x.gone id hid h0), fun b hb => (y.fo b hb).trans (x.fo b hb)⟩
  · rcases y.kept.own b hb with h | h
    · exact x.kept.own b h
    · exact .inr (Nat.le_trans x.kept.size h)
  · have : ¬ own F σ2 h2 b := fun h => (x.kept.own b h).elim ho (by omega)
    rw [y.kept.block b (Nat.lt_of_lt_of_le hb x.kept.size) this, x.kept.block b hb ho]
  · simp only [List.mem_append, not_or] at h3'
    have hne : id ≠ aid := fun e => by rw [e, hf] at h2'; cases h2'
    rw [← x.still id s o h1' h2' h3'.1]
    exact y.still id s o (x.kept.sg _ _ h1') (by rw [x.hp id hne h3'.1]; exact h2') h3'.2
  · simp only [List.mem_append, not_or] at hn
    rw [y.hp id hid hn.2, x.hp id hid hn.1]

theorem Stp.weaken {σ1 σ2 : Sg} {h1 h2 : Heap} {w1 w2 : World} {a b : List Nat} {aid : Nat} (x : Stp F σ1 h1 w1 a aid σ2 h2 w2) (hab : ∀ i ∈ a, i ∈ b) : Stp F σ1 h1 w1 b aid σ2 h2 w2 :=
  ⟨x.kept, x.os, x.tape, x.output, fun id s o p q r => x.still id s o p q (fun h => r (hab _ h)), x.sg, fun id p q => x.hp id p (fun h => q (hab _ h)), x.gone, x.fo⟩

/-- An object that shares the block of one that is only read. -/
theorem share_step {et et2 : Option Nat} {h : Heap} (S : Sim E F σ h w) {aid id n k : Nat} {ag ti : Bool} {es new : List AV} {s : SI} (ho : h id = some (.vec n ag es ti true none et)) (hs : σ id = some s) (ha : h aid = none) (hsa : σ aid = none) {w' : World}
    (hnoal : ∀ j o, h j = some o → ¬ aliasIs o id)
    (hsz : w'.heap.size = w.heap.size) (hblk : ∀ b, b ≠ s.block → w'.heap[b]? = w.heap[b]?) (hos : w'.os = w.os) (htp : w'.tape = w.tape) (hout : w'.output = w.output)
    (hself : ∀ O2, Kept σ (own F σ h) w (fun i => if i = aid then some ⟨s.block, s.base + k * n, n, s.total - k⟩ else σ i) O2 w' →
      ObjRel (fun i => if i = aid then some ⟨s.block, s.base + k * n, n, s.total - k⟩ else σ i) O2 w' s (.vec n ag es ti true none et) ∧
      ObjRel (fun i => if i = aid then some ⟨s.block, s.base + k * n, n, s.total - k⟩ else σ i) O2 w' ⟨s.block, s.base + k * n, n, s.total - k⟩ (.vec n ag new false false (some id) et2)) :
    Sim E F (fun i => if i = aid then some ⟨s.block, s.base + k * n, n, s.total - k⟩ else σ i) (h.set aid (some (.vec n ag new false false (some id) et2))) w' ∧
    Stp F σ h w [id] aid (fun i => if i = aid then some ⟨s.block, s.base + k * n, n, s.total - k⟩ else σ i) (h.set aid (some (.vec n ag new false false (some id) et2))) w' := by
  have hsown : own F σ h s.block := .inr ⟨id, _, s, ho, hs, rfl⟩
  have hida : id ≠ aid := fun e => by rw [e, ha] at ho; cases ho
  have hown : ∀ b, own F (fun i => if i = aid then some ⟨s.block, s.base + k * n, n, s.total - k⟩ else σ i) (h.set aid (some (.vec n ag new false false (some id) et2))) b → own F σ h b := by
    rintro b (hF | ⟨j, oj, sj, h1, h2, rfl⟩)
    · exact .inl hF
    rw [Heap.set_get] at h1
    by_cases e : j = aid
    · simp only [e, if_true, Option.some.injEq] at h2; subst h2; exact hsown
    · rw [if_neg e] at h1; simp only [e, if_false] at h2; exact .inr ⟨j, oj, sj, h1, h2, rfl⟩
  have kept : Kept σ (own F σ h) w (fun i => if i = aid then some ⟨s.block, s.base + k * n, n, s.total - k⟩ else σ i)
      (own F (fun i => if i = aid then some ⟨s.block, s.base + k * n, n, s.total - k⟩ else σ i) (h.set aid (some (.vec n ag new false false (some id) et2)))) w' :=
    ⟨fun j s' hj => by
      have : j ≠ aid := fun e => by rw [e, hsa] at hj; cases hj
      simp only [this, if_false]; exact hj, by omega, fun b hb => .inl (hown b hb), fun b _ hb => hblk b (fun e => hb (e ▸ hsown))⟩
  have apart : ∀ j oj sj, h j = some oj → σ j = some sj → j ≠ id → sj.block ≠ s.block := by
    intro j oj sj h1 h2 h3 h5
    rcases S.inj j id oj _ sj s h1 ho h2 hs h3 h5 with ⟨_, h6⟩ | ⟨_, h6⟩
    · exact h6
    · exact hnoal j oj h1 h6
  obtain ⟨r1, r2⟩ := hself _ kept
  refine ⟨⟨?_, ?_, ?_, ?_, ?_⟩, kept, hos, htp, hout, ?_, ?_, ?_, ?_, fun b hb => hblk b (fun e => (S.fo b hb).2 id _ s ho hs e.symm)⟩
  · intro j oj h1
    rw [Heap.set_get] at h1
    by_cases e : j = aid
    · rw [if_pos e] at h1; obtain rfl := Option.some.inj h1
      exact ⟨_, by simp [e], r2⟩
    · rw [if_neg e] at h1
      by_cases e2 : j = id
      · subst e2
        obtain rfl := Option.some.inj (ho.symm.trans h1)
        exact ⟨s, by simp [e, hs], r1⟩
      · obtain ⟨sj, h2, h3⟩ := S.obj j oj h1
        exact ⟨sj, by simp [e, h2], h3.mono kept (hblk _ (apart j oj sj h1 h2 e2))⟩
  · intro i j oi oj si sj h1 h2 h3 h4 hne heq
    rw [Heap.set_get] at h1 h2
    by_cases ei : i = aid
    · by_cases ej : j = aid
      · exact absurd (ei.trans ej.symm) hne
      · rw [if_pos ei] at h1; rw [if_neg ej] at h2; simp only [ej, if_false] at h4; simp only [ei, if_true, Option.some.injEq] at h3
        obtain rfl := Option.some.inj h1
        by_cases e2 : j = id
        · subst e2
          obtain rfl := Option.some.inj (ho.symm.trans h2)
          exact .inr ⟨rfl, rfl⟩
        · exact absurd (by rw [← heq, ← h3]) (apart j oj sj h2 h4 e2)
    · by_cases ej : j = aid
      · rw [if_neg ei] at h1; rw [if_pos ej] at h2; simp only [ei, if_false] at h3; simp only [ej, if_true, Option.some.injEq] at h4
        obtain rfl := Option.some.inj h2
        by_cases e2 : i = id
        · subst e2
          obtain rfl := Option.some.inj (ho.symm.trans h1)
          exact .inl ⟨rfl, rfl⟩
        · exact absurd (by rw [heq, ← h4]) (apart i oi si h1 h3 e2)
      · rw [if_neg ei] at h1; rw [if_neg ej] at h2; simp only [ei, if_false] at h3; simp only [ej, if_false] at h4
        exact S.inj i j oi oj si sj h1 h2 h3 h4 hne heq
  · intro j oj k h1 h2
    rw [Heap.set_get] at h1
    by_cases e : j = aid
    · rw [if_pos e] at h1; obtain rfl := Option.some.inj h1
      have hk : id = k := h2
      subst hk
      refine ⟨by simp only [hida, if_false, hs]; simp, fun ok hok => ?_⟩
      rw [Heap.set_get, if_neg hida, ho] at hok
      obtain rfl := Option.some.inj hok; rfl
    · rw [if_neg e] at h1
      obtain ⟨a1, a2⟩ := S.ali j oj k h1 h2
      have hka : k ≠ aid := fun e => a1 (e ▸ hsa)
      refine ⟨by simp only [hka, if_false]; exact a1, fun ok hok => ?_⟩
      rw [Heap.set_get, if_neg hka] at hok
      exact a2 ok hok
  · intro g cs hg
    obtain ⟨h1, h2, h3⟩ := S.glob g cs hg
    exact ⟨fun ho => h1 (hown g ho), by omega, h3.mono kept h1⟩
  · intro b hb
    obtain ⟨f1, f2⟩ := S.fo b hb
    refine ⟨by omega, fun j oj sj h1 h2 => ?_⟩
    rw [Heap.set_get] at h1
    by_cases e : j = aid
    · simp only [e, if_true, Option.some.injEq] at h2; subst h2; exact f2 id _ s ho hs
    · rw [if_neg e] at h1; simp only [e, if_false] at h2; exact f2 j oj sj h1 h2
  · intro j sj oj h1 h2 h3
    have e2 : j ≠ id := fun e => h3 (by simp [e])
    exact hblk _ (apart j oj sj h2 h1 e2)
  · intro j hj; simp [hj]
  · intro j hj _; rw [Heap.set_get, if_neg hj]
  · intro j hj h0; rw [Heap.set_get, if_neg hj]; exact h0

end
end Go.AE
end

section
/- append is sound: all its ways. -/
namespace Go.AE
variable {F : Nat → Prop}
section
variable {E : Env} {P : Program} {σ : Sg} {w : World}

theorem KA_append {O : Nat → Prop} {cs ds : List AV} {us vs rest : List Value} (h : VL σ O w true cs us) (k : VL σ O w true ds vs) : KA σ O w (cs ++ ds) (us.toArray ++ vs.toArray ++ rest.toArray) 0 := by
  have hl := VL_len h
  have hv := h.append k
  intro j c hj
  obtain ⟨v, h1, h2, h3⟩ := VL_get hv j c hj
  have hlt : j < us.length + vs.length := by
    have := (List.getElem?_eq_some_iff.1 h1).1; simpa using this
  refine ⟨v, ?_, h3 rfl, h2⟩
  rw [Nat.zero_add, Array.getElem?_append_left (by simpa using hlt)]
  rw [← h1]; simp

/-- A new row behind an append. -/
theorem grow_did {et : Option Nat} {h : Heap} (S : Sim E F σ h w) {aid : Nat} (hs : σ aid = none) {e : TypeId} {ei : TI} {cs ds : List AV} {us vs rest : List Value} {need cap d : Nat} {al : Option Nat}
    (hu : VL σ (own F σ h) w true (flatA cs) us) (hv : VL σ (own F σ h) w true (flatA ds) vs) (hcs : ∀ e ∈ cs, shape e = (ei.size, ei.isAgg)) (hds : ∀ e ∈ ds, shape e = (ei.size, ei.isAgg)) (h0 : 0 < ei.size)
    (hn : need = cs.length + ds.length) (hc : need ≤ cap) (hr : rest.length = (cap - need) * ei.size) (hal : ∀ k, al = some k → σ k ≠ none ∧ ∀ ok, h k = some ok → isRo ok = true) (het : ∀ u, et = some u → e = u) :
    ∃ σ', Did E F σ h w [] aid (.vec aid 0 need none) (h.set aid (some (.vec ei.size ei.isAgg (cs ++ ds) false false al et))) σ' (.slice (some ⟨w.heap.size, 0, none⟩) need cap)
      { w with heap := w.heap.push (.cells (us.toArray ++ vs.toArray ++ rest.toArray) e), drawn := d } := by
  have hw1 : ∀ e ∈ cs, e.cells.length = ei.size := fun x hx => by rw [← shape_fst, hcs x hx]
  have hw2 : ∀ e ∈ ds, e.cells.length = ei.size := fun x hx => by rw [← shape_fst, hds x hx]
  have l1 := VL_len hu; rw [flat_length cs hw1] at l1
  have l2 := VL_len hv; rw [flat_length ds hw2] at l2
  refine row_did (E := E) S hs (es := cs ++ ds) (ti := false) (tot := cap) (len := need) h0 (fun x hx => ?_) (fun σ2 O2 w2 k => by rw [flat_append]; exact KA_append (k.vl hu) (k.vl hv)) ?_ (by simp; omega) (by simp) (open_none _) hc hal het
  · rcases List.mem_append.1 hx with hx | hx
    · exact hcs x hx
    · exact hds x hx
  · simp only [Array.size_append, List.size_toArray, l1, l2, hr, ← Nat.add_mul]
    congr 1; omega

theorem appendA_sound {h : Heap} (S : Sim E F σ h w) {aid : Nat} (hs : σ aid = none) (ha : h aid = none) {e u t ty : TypeId} {ei : TI} (ht : P.underlying t = some (.slice e)) (he : TyOk P e ei)
    {x vs : Value} {s v : AV} {new : List AV} {vals : List Value} (hp : Puts P w e u ei x new.length vals) (hv : VL σ (own F σ h) w true (flatA new) vals)
    (hsh : ∀ e ∈ new, shape e = (ei.size, ei.isAgg)) (hpos : new ≠ [] → 0 < ei.size) (hx : V σ (own F σ h) w s vs) {h' : Heap} {ts : List Nat} (hr : appendA h aid e ei s new = some (v, h', ts)) :
    ∃ σ' val w', (Builtin.append_ #[t, u] ty #[vs, x]).run P w = .ok val w' ∧ Did E F σ h w ts aid v h' σ' val w' := by
  cases new with
  | nil =>
    have hv0 : vals = [] := by simp only [flatA, List.flatMap_nil] at hv; rw [VL] at hv; exact hv
    subst hv0
    have fin : ∀ (base : Option Addr) (sLen sCap : Nat), vs = .slice base sLen sCap → sLen ≤ sCap → (Builtin.append_ #[t, u] ty #[vs, x]).run P w = .ok vs w := by
      intro base sLen sCap e1 e2
      have := inplace_run (ty := ty) hp ht e1 (by simpa using e2) (w' := w) (by cases base <;> simp [storeCells])
      rw [this, e1]; simp
    cases s with
    | nils =>
      simp only [appendA, Option.some.injEq, Prod.mk.injEq] at hr; obtain ⟨rfl, rfl, rfl⟩ := hr
      have e1 : vs = .slice none 0 0 := by rw [V] at hx; exact hx
      exact ⟨σ, vs, w, fin _ _ _ e1 (Nat.le_refl _), Did.same S aid hx⟩
    | list es ti =>
      simp only [appendA, Option.some.injEq, Prod.mk.injEq] at hr; obtain ⟨rfl, rfl, rfl⟩ := hr
      have hx' := hx
      rw [V] at hx'; obtain ⟨a, cap, e1, k1, _⟩ := hx'
      exact ⟨σ, vs, w, fin _ _ _ e1 k1, Did.same S aid hx⟩
    | vec id off len lim =>
      simp only [appendA, Option.some.injEq, Prod.mk.injEq] at hr; obtain ⟨rfl, rfl, rfl⟩ := hr
      have hx' := hx
      rw [V] at hx'; obtain ⟨q, cap, a, _, e1, k1, _⟩ := hx'
      exact ⟨σ, vs, w, fin _ _ _ e1 k1, Did.same S aid hx⟩
    | _ => simp [appendA] at hr
  | cons n0 ns =>
    have h0 := hpos (by simp)
    generalize hnew : n0 :: ns = new at *
    have hne : 1 ≤ new.length := by rw [← hnew]; simp
    have hrb : appendB h aid e ei s new = some (v, h', ts) := by subst hnew; exact hr
    unfold appendB at hrb
    rw [cond_eq_ite] at hrb
    split at hrb
    rotate_left
    · cases hrb
    rename_i hb
    simp only [Bool.and_eq_true, Nat.ble_eq] at hb
    obtain ⟨hb, hzs⟩ := hb
    obtain ⟨z, hz⟩ := Option.isSome_iff_exists.1 hzs
    cases s with
    | nils =>
      simp only [Option.some.injEq, Prod.mk.injEq] at hrb; obtain ⟨rfl, rfl, rfl⟩ := hrb
      rw [V] at hx; subst hx
      simp only [lenA, orN, Nat.zero_add] at hb
      obtain ⟨cap, d, rest, c1, c2, c3⟩ := grow_run (ty := ty) hp he ht rfl (by omega) (by simpa using hb) hz (reads_zero (size := ei.size) (a := none) (l := 0) (c := 0))
      obtain ⟨σ', dd⟩ := grow_did (E := E) S hs (e := e) (cs := []) (ds := new) (us := []) (vs := vals) (rest := rest) (need := new.length) (cap := cap) (d := d) (al := none) (by simp only [flatA, List.flatMap_nil]; rw [VL]) hv (by simp) hsh h0 (by simp) (by simpa using c1) (by simpa using c2) (by simp) (et := some e) (fun u hu => by cases hu; rfl)
      exact ⟨σ', _, _, by simpa using c3, by simpa using dd⟩
    | list es tight =>
      simp only at hrb
      rw [cond_eq_ite] at hrb
      split at hrb
      · rename_i hc
        simp only [Bool.and_eq_true] at hc
        simp only [Option.some.injEq, Prod.mk.injEq] at hrb; obtain ⟨rfl, rfl, rfl⟩ := hrb
        obtain ⟨⟨us, u1, u2, _⟩, _, u4, _, _⟩ := elemsA_sound (P := P) S (i := ei) (es := es) hx (by simp [elemsA, hc.2])
        have hx' := hx
        rw [V] at hx'; obtain ⟨a, cap0, e1, k1, k2, _⟩ := hx'
        have hcap := k2 hc.1
        simp only [lenA, orN] at hb
        obtain ⟨cap, d, rest, c1, c2, c3⟩ := grow_run (ty := ty) hp he ht e1 (by omega) hb hz u2
        obtain ⟨σ', dd⟩ := grow_did (E := E) S hs (e := e) (cs := es) (ds := new) (us := us) (vs := vals) (rest := rest) (need := es.length + new.length) (cap := cap) (d := d) (al := none) u1 hv u4 hsh h0 rfl c1 c2 (by simp) (et := some e) (fun u hu => by cases hu; rfl)
        exact ⟨σ', _, _, c3, dd⟩
      · cases hrb
    | vec id off len lim =>
      simp only at hrb
      split at hrb
      · rename_i n ag es ti ro al et ho
        rw [cond_eq_ite] at hrb
        split at hrb
        · rename_i hc
          simp only [Bool.and_eq_true, Nat.ble_eq, Nat.beq_eq, beq_iff_eq] at hc
          obtain ⟨⟨hc1, rfl⟩, rfl⟩ := hc
          obtain ⟨⟨us, u1, u2, _⟩, _, u4, _, _⟩ := elemsA_sound (P := P) S (i := ei) (es := (es.drop off).take len) hx (by
            simp only [elemsA, ho]
            rw [cond_eq_ite, if_pos]
            simp only [Bool.and_eq_true, Nat.ble_eq, Nat.beq_eq, beq_self_eq_true, and_true]
            exact hc1)
          obtain ⟨s', hs', hrel⟩ := S.obj id _ ho
          have hx' := hx
          rw [V] at hx'; obtain ⟨q, cap, a, hq, e1, k1, k2, k3, k4, k5⟩ := hx'
          obtain rfl := Option.some.inj (hq.symm.trans hs')
          obtain ⟨h1, h2, h3, h4, h5, arr, el, fz, h6, h7, h8, h9⟩ := (show _ from hrel)
          have hw : ∀ e ∈ es, e.cells.length = ei.size := fun e he => by rw [← shape_fst, h3 e he]
          have hw2 : ∀ e ∈ new, e.cells.length = ei.size := fun x hx => by rw [← shape_fst, hsh x hx]
          have hvlen := VL_len hv; rw [flat_length new hw2] at hvlen
          have hfl := flat_length es hw
          have hvl : ((es.drop off).take len).length = len := by simp; omega
          simp only [lenA, orN] at hb
          have hone := VL_oneCell hv
          have hal0 : ∀ j o, h j = some o → ro = false → ¬ aliasIs o id := fun j o hj hr hal => by
            have := (S.ali j o id hj hal).2 _ ho
            simp only [isRo] at this; rw [hr] at this; cases this
          rw [cond_eq_ite] at hrb
          split at hrb
          · -- there is room among the elements that are held
            rename_i hroom
            have hroom := Nat.le_of_ble_eq_true hroom
            rw [cond_eq_ite] at hrb
            split at hrb
            · rename_i hc2
              simp only [Bool.and_eq_true, Nat.ble_eq, Bool.not_eq_true'] at hc2
              obtain ⟨hro, hin⟩ := hc2
              simp only [Option.some.injEq, Prod.mk.injEq] at hrb; obtain ⟨rfl, rfl, rfl⟩ := hrb
              have hcap : len + new.length ≤ cap := by
                cases lim with
                | none => have := k4 rfl; omega
                | some c => have := k3 c rfl; simp only [orN] at hroom; omega
              have haddr : a = ⟨q.block, q.base + off * q.width, none⟩ := k5.resolve_left (by omega)
              subst haddr
              have hle : (off + (len + new.length)) * ei.size ≤ es.length * ei.size := Nat.mul_le_mul_right _ hin
              have hle2 : es.length * ei.size ≤ q.total * ei.size := Nat.mul_le_mul_right _ h4
              have hmul : (off + len) * ei.size + new.length * ei.size = (off + (len + new.length)) * ei.size := by rw [← Nat.add_mul]; congr 1; omega
              obtain ⟨w', arr', m1, m2, m3, m4, m5, m6, m7, m8, m9⟩ := run_storeCells (P := P) vals 0 (q.base + (off + len) * ei.size) w arr h6 h8 (by omega) hone
              have hrun := inplace_run (ty := ty) hp ht e1 hcap (w' := w') (by
                simp only [addr_add]
                rw [show q.base + off * q.width + len * ei.size = q.base + (off + len) * ei.size from by rw [h1, Nat.add_mul]; omega]
                exact m1)
              have hka := h9.write (off := (off + len) * ei.size) hv (arr' := arr') (by rw [m4]; simp) (by rw [hfl, flat_length new hw2]; omega) (by omega)
              have hflat : flatA (es.take (off + len) ++ (new ++ es.drop (off + (len + new.length)))) = (flatA es).take ((off + len) * ei.size) ++ (flatA new ++ (flatA es).drop ((off + len) * ei.size + (flatA new).length)) := by
                rw [flat_append, flat_append, flat_take es _ hw, flat_drop es _ hw, flat_length new hw2, hmul]
              have hlen' : (es.take (off + len) ++ (new ++ es.drop (off + (len + new.length)))).length = es.length := by simp; omega
              have hshall : ∀ x ∈ es.take (off + len) ++ (new ++ es.drop (off + (len + new.length))), shape x = (ei.size, ei.isAgg) := by
                intro x hx
                rcases List.mem_append.1 hx with hx | hx
                · exact h3 x (List.mem_of_mem_take hx)
                · rcases List.mem_append.1 hx with hx | hx
                  · exact hsh x hx
                  · exact h3 x (List.mem_of_mem_drop hx)
              obtain ⟨S', T'⟩ := write_step (E := E) S ho hs' hro aid (by intro k hk; cases aliasIs_vec hk) (o' := .vec ei.size ei.isAgg (es.take (off + len) ++ (new ++ es.drop (off + (len + new.length)))) ti ro none et) (w' := w') m5 m6 m7 m8 m9 (fun O2 kp =>
                ⟨h1, h2, hshall, by rw [hlen']; exact h4, fun ht => by rw [hlen']; exact h5 ht, arr', el, fz, m2, by rw [m3, h7], by rw [m3]; exact h8, by rw [hflat]; exact hka.mono kp⟩)
              refine ⟨σ, _, w', hrun, S', T', ?_⟩
              rw [V]
              exact ⟨q, cap, _, hq, rfl, hcap, k2, k3, k4, .inr rfl⟩
            · cases hrb
          · rename_i hroom
            have hroom : ¬ len + new.length ≤ orN lim (es.length - off) := fun hh => hroom (by rw [Nat.ble_eq]; exact hh)
            rw [cond_eq_ite] at hrb
            split at hrb
            · -- there is no room
              rename_i hc2
              simp only [Bool.or_eq_true] at hc2
              simp only [Option.some.injEq, Prod.mk.injEq] at hrb; obtain ⟨rfl, rfl, rfl⟩ := hrb
              have hno : ¬ len + new.length ≤ cap := by
                cases lim with
                | none =>
                  have := k4 rfl
                  have := h5 (by simpa using hc2)
                  simp only [orN] at hroom; omega
                | some c => have := k3 c rfl; simp only [orN] at hroom; omega
              obtain ⟨cap', d, rest, c1, c2, c3⟩ := grow_run (ty := ty) hp he ht e1 hno hb hz (hvl ▸ u2)
              obtain ⟨σ', dd⟩ := grow_did (E := E) S hs (e := e) (cs := (es.drop off).take len) (ds := new) (us := us) (vs := vals) (rest := rest) (need := len + new.length) (cap := cap') (d := d) (al := none) u1 hv u4 hsh h0 (by rw [hvl]) c1 c2 (by simp) (et := some e) (fun u hu => by cases hu; rfl)
              exact ⟨σ', _, _, c3, dd⟩
            · rename_i hc2
              simp only [Bool.or_eq_true, not_or, Bool.not_eq_true] at hc2
              rw [cond_eq_ite] at hrb
              split at hrb
              · -- there may be room
                rename_i hc3
                simp only [Bool.and_eq_true, Nat.beq_eq, Bool.not_eq_true'] at hc3
                obtain ⟨hro, hend⟩ := hc3
                subst hro
                simp only [Option.some.injEq, Prod.mk.injEq] at hrb; obtain ⟨rfl, rfl, rfl⟩ := hrb
                have hlim : lim = none := by cases lim with
                  | none => rfl
                  | some c => simp at hc2
                subst hlim
                have hview : (es.drop off).take len = es.drop off := List.take_of_length_le (by simp; omega)
                rw [hview] at u1 u2 u4 hvl
                obtain ⟨S1, T1⟩ := ro_step (E := E) S ho hs' aid
                have ha1 : ((kill h al).set id (some (.vec ei.size ei.isAgg es ti true none et))) aid = none := T1.gone aid |> fun _ => by
                  rw [Heap.set_get, if_neg (fun e => by rw [e, ho] at ha; cases ha), kill_get, ha]; split <;> rfl
                have ho1 : ((kill h al).set id (some (.vec ei.size ei.isAgg es ti true none et))) id = some (.vec ei.size ei.isAgg es ti true none et) := by rw [Heap.set_get, if_pos rfl]
                by_cases hin : len + new.length ≤ cap
                · -- in place
                  have haddr : a = ⟨q.block, q.base + off * q.width, none⟩ := k5.resolve_left (by omega)
                  subst haddr
                  have htot := k4 rfl
                  have hle : (off + (len + new.length)) * ei.size ≤ q.total * ei.size := Nat.mul_le_mul_right _ (by omega)
                  have hmul : (off + len) * ei.size + new.length * ei.size = (off + (len + new.length)) * ei.size := by rw [← Nat.add_mul]; congr 1; omega
                  obtain ⟨w', arr', m1, m2, m3, m4, m5, m6, m7, m8, m9⟩ := run_storeCells (P := P) vals 0 (q.base + (off + len) * ei.size) w arr h6 h8 (by omega) hone
                  have hrun := inplace_run (ty := ty) hp ht e1 hin (w' := w') (by
                    simp only [addr_add]
                    rw [show q.base + off * q.width + len * ei.size = q.base + (off + len) * ei.size from by rw [h1, Nat.add_mul]; omega]
                    exact m1)
                  have hpre : ∀ j, j < q.base + (off + len) * ei.size → arr'[j]? = arr[j]? := by
                    intro j hj
                    have e1 : arr'[j]? = arr'.toList[j]? := by simp
                    rw [e1, m4, List.getElem?_append_left (by simp; omega), List.getElem?_take, if_pos (by omega)]; simp
                  have hnewcells : ∀ (j : Nat) v, vals[j]? = some v → arr'[q.base + (off + len) * ei.size + j]? = some v := by
                    intro j v hj
                    have hjl : j < vals.length := (List.getElem?_eq_some_iff.1 hj).1
                    have hA : (arr.toList.take (q.base + (off + len) * ei.size + 0)).length = q.base + (off + len) * ei.size := by simp; omega
                    have e1 : arr'[q.base + (off + len) * ei.size + j]? = arr'.toList[q.base + (off + len) * ei.size + j]? := by simp
                    rw [e1, m4, List.getElem?_append_right (by omega), hA, show q.base + (off + len) * ei.size + j - (q.base + (off + len) * ei.size) = j from by omega, List.getElem?_append_left hjl]
                    exact hj
                  have hold : ∀ {O2 σ2}, Kept σ (own F σ h) w σ2 O2 w' → KA σ2 O2 w' (flatA es) arr' q.base := by
                    intro O2 σ2 kp j c hj
                    obtain ⟨v, g1, g2, g3⟩ := h9 j c hj
                    have hjl := (List.getElem?_eq_some_iff.1 hj).1
                    exact ⟨v, by rw [hpre _ (by rw [hend]; omega)]; exact g1, g2, V.mono kp _ _ g3⟩
                  have kept01 : ∀ {σ2 O2}, Kept σ (own F σ ((kill h al).set id (some (.vec ei.size ei.isAgg es ti true none et)))) w σ2 O2 w' → Kept σ (own F σ h) w σ2 O2 w' := fun k =>
                    ⟨k.sg, k.size, fun b hb => (k.own b hb).elim (fun h => (T1.kept.own b h).elim .inl .inr) .inr, fun b hb ho => k.block b hb (fun h => (T1.kept.own b h).elim ho (by omega))⟩
                  obtain ⟨S2, T2⟩ := share_step (et2 := sameTy et e) (E := E) S1 (k := off) (new := es.drop off ++ new) ho1 hs' ha1 hs (w' := w') (fun j o hj hal => by
                      rw [Heap.set_get] at hj
                      by_cases e : j = id
                      · rw [if_pos e] at hj; obtain rfl := Option.some.inj hj; cases aliasIs_vec hal
                      · rw [if_neg e, kill_get] at hj
                        split at hj
                        · cases hj
                        · exact hal0 j o hj rfl hal) m5 m6 m7 m8 m9 (fun O2 kp => ⟨⟨h1, h2, h3, h4, h5, arr', el, fz, m2, by rw [m3, h7], by rw [m3]; exact h8, hold (kept01 kp)⟩, by
                    refine ⟨rfl, h2, fun x hx => ?_, by simp; omega, by simp, arr', ⟨el.1, fun u hu => el.2 u (sameTy_some hu).1⟩, fz, m2, ?_, by rw [m3]; exact h8, ?_⟩
                    · rcases List.mem_append.1 hx with hx | hx
                      · exact h3 x (List.mem_of_mem_drop hx)
                      · exact hsh x hx
                    · rw [m3, h7]
                      show q.base + q.total * ei.size = q.base + off * ei.size + (q.total - off) * ei.size
                      rw [Nat.add_assoc, ← Nat.add_mul]; congr 2; omega
                    · rw [flat_append, flat_drop es off hw]
                      intro j c hj
                      have hdl : ((flatA es).drop (off * ei.size)).length = len * ei.size := by
                        rw [List.length_drop, hfl, ← Nat.sub_mul]; congr 1; omega
                      show ∃ v, arr'[q.base + off * ei.size + j]? = some v ∧ _
                      by_cases hlt : j < len * ei.size
                      · rw [List.getElem?_append_left (by omega), List.getElem?_drop] at hj
                        have := hold (kept01 kp) _ _ hj
                        rwa [← Nat.add_assoc] at this
                      · rw [List.getElem?_append_right (by omega), hdl] at hj
                        obtain ⟨v, g1, g2, g3⟩ := VL_get hv _ _ hj
                        refine ⟨v, ?_, g3 rfl, V.mono (kept01 kp) _ _ g2⟩
                        have := hnewcells _ _ g1
                        rwa [show q.base + (off + len) * ei.size + (j - len * ei.size) = q.base + off * ei.size + j from by rw [Nat.add_mul]; omega] at this⟩)
                  refine ⟨_, _, w', hrun, S2, (T1.trans T2 ha).weaken ?_, ?_⟩
                  · intro i hi
                    rcases List.mem_append.1 hi with hi | hi
                    · exact hi
                    · simp at hi; subst hi; cases al <;> simp [touch]
                  · rw [V]
                    exact ⟨⟨q.block, q.base + off * ei.size, ei.size, q.total - off⟩, cap, ⟨q.block, q.base + off * q.width, none⟩, by simp, rfl, hin, by simp; omega, by simp, fun _ => by simp; omega, .inr (by simp [h1])⟩
                · -- a new row
                  obtain ⟨cap', d, rest, c1, c2, c3⟩ := grow_run (ty := ty) hp he ht e1 hin hb hz (hvl ▸ u2)
                  obtain ⟨σ', dd⟩ := grow_did (E := E) S1 hs (e := e) (cs := es.drop off) (ds := new) (us := us) (vs := vals) (rest := rest) (need := len + new.length) (cap := cap') (d := d) (al := some id) (T1.kept.vl u1) (T1.kept.vl hv) u4 hsh h0 (by rw [hvl]) c1 c2 (by
                    intro k hk
                    obtain rfl := Option.some.inj hk
                    refine ⟨by rw [hs']; simp, fun ok hok => ?_⟩
                    rw [ho1] at hok; obtain rfl := Option.some.inj hok; rfl) (et := sameTy et e) (fun u hu => (sameTy_some hu).2)
                  exact ⟨σ', _, _, c3, dd.sim, by simpa using T1.trans dd.stp ha, dd.v⟩
              · cases hrb
        · cases hrb
      · cases hrb
    | _ => simp at hrb
end
end Go.AE
end

section
/- copy, clear, conversions, the runes of a string, slices of arrays. -/
namespace Go.AE
variable {F : Nat → Prop}
section
variable {E : Env} {P : Program} {σ : Sg} {w : World}

/-- Elements written into a row from a place on. -/
theorem put_row {et : Option Nat} {h : Heap} (S : Sim E F σ h w) {id off : Nat} {i : TI} {ti : Bool} {al : Option Nat} {es new : List AV} {s : SI} {vals : List Value} (ho : h id = some (.vec i.size i.isAgg es ti false al et)) (hs : σ id = some s)
    (hv : VL σ (own F σ h) w true (flatA new) vals) (hsh : ∀ e ∈ new, shape e = (i.size, i.isAgg)) (hle : off + new.length ≤ es.length) {a : Addr} (ha : new = [] ∨ a = ⟨s.block, s.base + off * s.width, none⟩) (aid : Nat) :
    ∃ w', (storeCells a vals).run P w = .ok () w' ∧ Sim E F σ ((kill h al).set id (some (.vec i.size i.isAgg (es.take off ++ (new ++ es.drop (off + new.length))) ti false none et))) w' ∧
      Stp F σ h w (touch id al) aid σ ((kill h al).set id (some (.vec i.size i.isAgg (es.take off ++ (new ++ es.drop (off + new.length))) ti false none et))) w' := by
  obtain ⟨s', hs', hrel⟩ := S.obj id _ ho
  obtain rfl := Option.some.inj (hs.symm.trans hs')
  obtain ⟨h1, h2, h3, h4, h5, arr, el, fz, h6, h7, h8, h9⟩ := (show _ from hrel)
  have hw : ∀ e ∈ es, e.cells.length = i.size := fun e he => by rw [← shape_fst, h3 e he]
  have hw2 : ∀ e ∈ new, e.cells.length = i.size := fun x hx => by rw [← shape_fst, hsh x hx]
  have hvlen := VL_len hv; rw [flat_length new hw2] at hvlen
  have hfl := flat_length es hw
  have hlen' : (es.take off ++ (new ++ es.drop (off + new.length))).length = es.length := by simp; omega
  have hshall : ∀ x ∈ es.take off ++ (new ++ es.drop (off + new.length)), shape x = (i.size, i.isAgg) := by
    intro x hx
    rcases List.mem_append.1 hx with hx | hx
    · exact h3 x (List.mem_of_mem_take hx)
    · rcases List.mem_append.1 hx with hx | hx
      · exact hsh x hx
      · exact h3 x (List.mem_of_mem_drop hx)
  by_cases h0 : new = []
  · subst h0
    have hv0 : vals = [] := by simp only [flatA, List.flatMap_nil] at hv; rw [VL] at hv; exact hv
    subst hv0
    have e0 : es.take off ++ ([] ++ es.drop (off + ([] : List AV).length)) = es := by simp
    rw [e0]
    obtain ⟨S', T'⟩ := write_step (E := E) S (o := .vec i.size i.isAgg es ti false al et) (o' := .vec i.size i.isAgg es ti false none et) (w' := w) ho hs rfl aid (by intro k hk; cases aliasIs_vec hk) rfl (fun _ _ => rfl) rfl rfl rfl (fun O2 kp => by
      have := hrel.mono kp rfl
      exact this)
    exact ⟨w, by simp [storeCells], S', T'⟩
  · have ha := ha.resolve_left h0
    subst ha
    have hle2 : (off + new.length) * i.size ≤ es.length * i.size := Nat.mul_le_mul_right _ hle
    have hle3 : es.length * i.size ≤ s.total * i.size := Nat.mul_le_mul_right _ h4
    rw [Nat.add_mul] at hle2
    obtain ⟨w', arr', m1, m2, m3, m4, m5, m6, m7, m8, m9⟩ := run_storeCells (P := P) vals 0 (s.base + off * i.size) w arr h6 h8 (by omega) (VL_oneCell hv)
    have hka := h9.write (off := off * i.size) hv (arr' := arr') (by rw [m4]; simp) (by rw [hfl, flat_length new hw2]; omega) (by omega)
    have hflat : flatA (es.take off ++ (new ++ es.drop (off + new.length))) = (flatA es).take (off * i.size) ++ (flatA new ++ (flatA es).drop (off * i.size + (flatA new).length)) := by
      rw [flat_append, flat_append, flat_take es _ hw, flat_drop es _ hw, flat_length new hw2, Nat.add_mul]
    obtain ⟨S', T'⟩ := write_step (E := E) S (o := .vec i.size i.isAgg es ti false al et) (o' := .vec i.size i.isAgg (es.take off ++ (new ++ es.drop (off + new.length))) ti false none et) (w' := w') ho hs rfl aid (by intro k hk; cases aliasIs_vec hk) m5 m6 m7 m8 m9 (fun O2 kp =>
      ⟨h1, h2, hshall, by rw [hlen']; exact h4, fun ht => by rw [hlen']; exact h5 ht, arr', el, fz, m2, by rw [m3, h7], by rw [m3]; exact h8, by rw [hflat]; exact hka.mono kp⟩)
    exact ⟨w', by rw [h1]; exact m1, S', T'⟩

theorem VL.take {O : Nat → Prop} {b : Bool} {xs : List AV} {l : List Value} (h : VL σ O w b xs l) (n : Nat) : VL σ O w b (xs.take n) (l.take n) := by
  have := h.sub 0 n; simpa using this

theorem copyA_sound {h : Heap} (S : Sim E F σ h w) {aid : Nat} {e t u ty : TypeId} {ei : TI} (ht : P.underlying t = some (.slice e)) (he : TyOk P e ei) {d x v : AV} {vd vx : Value} {src : List AV}
    (hd : V σ (own F σ h) w d vd) (hx : V σ (own F σ h) w x vx) (hsrc : elemsA h ei x = some src) {h' : Heap} {ts : List Nat} (hr : copyA h ei d src = some (v, h', ts)) :
    ∃ val w', (Builtin.copy_ #[t, u] ty #[vd, vx]).run P w = .ok val w' ∧ Did E F σ h w ts aid v h' σ val w' := by
  obtain ⟨⟨us, u1, u2, u3⟩, u5, u4, _, _⟩ := elemsA_sound (P := P) S hx hsrc
  have key : ∀ (base : Option Addr) (dLen cap : Nat) (w' : World), vd = .slice base dLen cap → (match base with | some a => (storeCells a (us.take (min src.length dLen * ei.size))).run P w = .ok () w' | none => w' = w) →
      (Builtin.copy_ #[t, u] ty #[vd, vx]).run P w = .ok (.int .i64 (min src.length dLen : Nat)) w' := by
    intro base dLen cap w' e1 e2
    subst e1
    have hrd := u3 (min src.length dLen) (Nat.min_le_left _ _) w rfl
    simp only [Builtin.copy_, List.getElem?_toArray, List.getElem?_cons_zero, List.getElem?_cons_succ, Sem.run_bind, run_underlying ht, Result.andThen_ok, u5, he.run_size]
    rw [show Nat.min src.length dLen = min src.length dLen from rfl, hrd]
    simp only [Result.andThen_ok]
    cases base with
    | none => simp only at e2; subst e2; simp [goInt]
    | some a => simp only at e2; simp [e2, goInt]
  unfold copyA at hr
  cases d with
  | nils =>
    simp only [Option.some.injEq, Prod.mk.injEq] at hr; obtain ⟨rfl, rfl, rfl⟩ := hr
    rw [V] at hd
    exact ⟨_, w, key none 0 0 w hd rfl, Did.same S aid (by rw [V]; simp)⟩
  | vec id off len lim =>
    simp only at hr
    split at hr
    · rename_i n ag es ti ro al et ho
      rw [cond_eq_ite] at hr
      split at hr
      · rename_i hc
        simp only [Bool.and_eq_true, Nat.ble_eq, Nat.beq_eq, beq_iff_eq, Bool.not_eq_true'] at hc
        obtain ⟨⟨⟨hro, hc1⟩, rfl⟩, rfl⟩ := hc
        subst hro
        simp only [Option.some.injEq, Prod.mk.injEq] at hr; obtain ⟨rfl, rfl, rfl⟩ := hr
        rw [V] at hd; obtain ⟨q, cap, a, hq, e1, k1, k2, k3, k4, k5⟩ := hd
        have hw : ∀ e ∈ src, e.cells.length = ei.size := fun e he => by rw [← shape_fst, u4 e he]
        have hlen : (src.take (min src.length len)).length = min src.length len := by simp
        have hvl : VL σ (own F σ h) w true (flatA (src.take (min src.length len))) (us.take (min src.length len * ei.size)) := by
          rw [flat_take src _ hw]; exact u1.take _
        obtain ⟨w', m1, m2, m3⟩ := put_row (P := P) (E := E) S (i := ei) (off := off) (new := src.take (min src.length len)) (a := a) ho hq hvl (fun e he => u4 e (List.mem_of_mem_take he)) (by rw [hlen]; omega) (by
          by_cases h0 : min src.length len = 0
          · left; rw [h0]; simp
          · right; exact k5.resolve_left (by omega)) aid
        rw [hlen] at m2 m3
        exact ⟨_, w', key (some a) len cap w' e1 m1, m2, m3, by rw [V]⟩
      · cases hr
    · cases hr
  | _ => simp at hr

theorem clearA_sound {h : Heap} (S : Sim E F σ h w) {aid : Nat} {e t ty : TypeId} {ei : TI} (ht : P.underlying t = some (.slice e)) (he : TyOk P e ei) {z d v : AV} (hz : ei.zero = some z) {vd : Value}
    (hd : V σ (own F σ h) w d vd) {h' : Heap} {ts : List Nat} (hr : clearA h ei z d = some (v, h', ts)) :
    ∃ val w', (Builtin.clear_ #[t] ty #[vd]).run P w = .ok val w' ∧ Did E F σ h w ts aid v h' σ val w' := by
  unfold clearA at hr
  have vt : ∀ {σ2 : Sg} {O2 : Nat → Prop} {w2 : World}, V σ2 O2 w2 (.tuple []) (.tuple #[]) := by intro σ2 O2 w2; rw [V]; exact ⟨_, rfl, by rw [VL]⟩
  cases d with
  | nils =>
    simp only [Option.some.injEq, Prod.mk.injEq] at hr; obtain ⟨rfl, rfl, rfl⟩ := hr
    rw [V] at hd; subst hd
    exact ⟨.tuple #[], w, by simp [Builtin.clear_, run_underlying ht], Did.same S aid vt⟩
  | vec id off len lim =>
    simp only at hr
    split at hr
    · rename_i n ag es ti ro al et ho
      rw [cond_eq_ite] at hr
      split at hr
      · rename_i hc
        simp only [Bool.and_eq_true, Nat.ble_eq, Nat.beq_eq, beq_iff_eq, Bool.not_eq_true'] at hc
        obtain ⟨⟨⟨⟨hro, hc1⟩, rfl⟩, rfl⟩, hf⟩ := hc
        subst hro
        simp only [Option.some.injEq, Prod.mk.injEq] at hr; obtain ⟨rfl, rfl, rfl⟩ := hr
        rw [V] at hd; obtain ⟨q, cap, a, hq, rfl, k1, k2, k3, k4, k5⟩ := hd
        obtain ⟨zv, z1, z2⟩ := he.run_zero (w := w) hz
        have hzc := zero_cells (σ := σ) (w := w) z2 (own F σ h)
        have hrow := zero_row hzc (fits_ok hf).2.2.1 (fits_ok hf).2.2.2 len
        have hzs : zv.cells.size = ei.size := by have := VL_len hzc; rw [(fits_ok hf).2.2.1] at this; simpa using this
        have hlen : (List.replicate len z).length = len := by simp
        obtain ⟨w', m1, m2, m3⟩ := put_row (P := P) (E := E) S (i := ei) (off := off) (new := List.replicate len z) (a := a) ho hq hrow (fun e he => by rw [List.eq_of_mem_replicate he]; exact (fits_ok hf).1) (by rw [hlen]; omega) (by
          by_cases h0 : len = 0
          · left; rw [h0]; rfl
          · right; exact k5.resolve_left (by omega)) aid
        rw [hlen] at m2 m3
        refine ⟨.tuple #[], w', ?_, m2, m3, vt⟩
        have hzr : (Builtin.zeroCells zv.cells len).toList = ((Array.range (len * ei.size)).map fun i => zv.cells[i % zv.cells.size]!).toList := by
          rw [Builtin.zeroCells, hzs]
        by_cases h0 : len = 0
        · subst h0
          have e0 : ∀ f : Nat → Value, (Array.range (0 * ei.size)).map f = #[] := fun f => Array.eq_empty_of_size_eq_zero (by simp)
          rw [e0] at m1
          simp only [storeCells, Sem.run_pure, Result.ok.injEq, true_and] at m1
          subst m1
          simp [Builtin.clear_, run_underlying ht]
        · obtain ⟨k, rfl⟩ : ∃ k, len = k + 1 := ⟨len - 1, by omega⟩
          simp only [Builtin.clear_, List.getElem?_toArray, List.getElem?_cons_zero, Sem.run_bind, run_underlying ht, Result.andThen_ok, z1, hzr, m1, Sem.run_pure]
      · cases hr
    · cases hr
  | _ => simp at hr

end
end Go.AE
end

section
/- Conversions; a string's runes; slices of arrays. -/
namespace Go.AE
variable {F : Nat → Prop}
section
variable {E : Env} {P : Program} {σ : Sg} {w : World} (hty : ∀ t i, E.ty t = some i → TyOk P t i)

theorem bytesOf_ok : ∀ {es : List AV} {l : List UInt8}, bytesOf es = some l → ∃ ns : List Int, es = ns.map (AV.int .u8) ∧ l = ns.map (fun n => UInt8.ofNat n.toNat)
  | [], l, h => by simp only [bytesOf, Option.some.injEq] at h; subst h; exact ⟨[], rfl, rfl⟩
  | x :: es, l, h => by
    unfold bytesOf at h
    split at h
    · rename_i hh; cases hh
    · rename_i n rest hh
      cases hh
      split at h
      · rename_i l' hb
        simp only [Option.some.injEq] at h; subst h
        obtain ⟨ns, h1, h2⟩ := bytesOf_ok hb
        exact ⟨n :: ns, by simp [h1], by simp [h2]⟩
      · cases h
    · cases h

theorem flat_ints : ∀ (ns : List Int), flatA (ns.map (AV.int .u8)) = ns.map (AV.int .u8)
  | [] => rfl
  | a :: as => by
    have := flat_ints as
    simp only [flatA, List.map_cons, List.flatMap_cons] at this ⊢
    rw [this]; rfl

theorem foldl_push : ∀ (ns : List Int) (b : ByteArray), ns.foldl (fun r n => r.push (UInt8.ofNat n.toNat)) b = ⟨(b.data.toList ++ ns.map (fun n => UInt8.ofNat n.toNat)).toArray⟩
  | [], b => by simp
  | n :: ns, b => by
    rw [List.foldl_cons, foldl_push ns]
    congr 1
    simp [ByteArray.push]

theorem freeze_push (w : World) (arr : Array Value) (e : TypeId) (n d : Nat) :
    ({ w with heap := w.heap.push (.cells arr e), drawn := d } : World).freeze ⟨w.heap.size, n, none⟩ 1 = { w with heap := w.heap.push (.cells arr e (n, n + 1)), drawn := d } := by
  simp only [World.freeze]
  rw [if_neg (by decide)]
  congr 1
  apply Array.ext_getElem?
  intro j
  rw [Array.getElem?_modify, Array.getElem?_push, Array.getElem?_push]
  by_cases e1 : j = w.heap.size
  · subst e1; simp
  · rw [if_neg e1, if_neg (by omega), if_neg e1]

include hty
theorem eltId_ok {t u : Nat} {e : TypeId} (h : eltId E t = some u) (hu : P.underlying t = some (.slice e)) : e = u := by
  unfold eltId at h
  split at h
  · rename_i i hi
    split at h
    · rename_i e' hd
      cases h
      have := (hty _ _ hi).und
      rw [hu, hd] at this
      cases this; rfl
    · cases h
  · cases h
omit hty in
theorem eltId_of {t : Nat} {i : TI} {e : TypeId} (h : E.ty t = some i) (hd : i.desc = .slice e) : eltId E t = some e := by
  unfold eltId; rw [h]; simp only; rw [hd]
theorem byteSlice_ok {t : Nat} (h : isByteSlice E t = true) : ∃ e ei, P.underlying t = some (.slice e) ∧ TyOk P e ei ∧ P.underlying e = some (.int .u8) := by
  unfold isByteSlice at h
  split at h
  · rename_i i hi
    split at h
    · rename_i e hd
      split at h
      · rename_i ei he
        split at h
        · rename_i hd2
          exact ⟨e, ei, by rw [(hty _ _ hi).und, hd], hty _ _ he, by rw [(hty _ _ he).und, hd2]⟩
        · cases h
      · cases h
    · cases h
  · cases h

theorem convA_sound {h : Heap} (S : Sim E F σ h w) {aid : Nat} (hs : σ aid = none) {src dst : Nat} {x v : AV} {vx : Value} (hx : V σ (own F σ h) w x vx) {h' : Heap} {ts : List Nat}
    (hr : convA E h aid src dst x = some (v, h', ts)) : ∃ σ' val w', (convert src dst vx).run P w = .ok val w' ∧ Did E F σ h w ts aid v h' σ' val w' := by
  unfold convA at hr
  split at hr
  · rename_i si di h1 h2
    have u1 := (hty _ _ h1).run_und (w := w)
    have u2 := (hty _ _ h2).run_und (w := w)
    have uu1 := (hty _ _ h1).und
    have uu2 := (hty _ _ h2).und
    split at hr
    · rename_i k k' n hd
      simp only [Option.some.injEq, Prod.mk.injEq] at hr; obtain ⟨rfl, rfl, rfl⟩ := hr
      rw [V] at hx; subst hx
      refine ⟨σ, .int k (k.wrap n), w, ?_, Did.same S aid (by rw [V, wrapK_eq])⟩
      rw [hd] at u2
      simp only [convert, Sem.run_bind, u1, u2, Result.andThen_ok]
      cases si.desc <;> simp [Conv.intToInt]
    · rename_i s hd
      simp only [Option.some.injEq, Prod.mk.injEq] at hr; obtain ⟨rfl, rfl, rfl⟩ := hr
      have hx' := hx
      rw [V] at hx'; subst hx'
      refine ⟨σ, _, w, ?_, Did.same S aid hx⟩
      rw [hd] at u2
      simp only [convert, Sem.run_bind, u1, u2, Result.andThen_ok]
      cases si.desc <;> simp
    · rename_i e0 s hd
      rw [cond_eq_ite] at hr
      split at hr
      · rename_i hbs
        simp only [Option.some.injEq, Prod.mk.injEq] at hr; obtain ⟨rfl, rfl, rfl⟩ := hr
        obtain ⟨e, ei, q1, q2, q3⟩ := byteSlice_ok hty hbs
        rw [V] at hx; subst hx
        have q4 := run_underlying (w := w) q1
        have q5 := run_underlying (w := w) q3
        let cap := (Question.appendCap s.length 0 e).cut (w.tape w.drawn (.appendCap s.length 0 e))
        have hcap : s.length ≤ cap := by simp only [cap, Question.cut]; omega
        have hvl : VL σ (own F σ h) w true (flatA (s.map fun b => AV.int .u8 b.toNat)) (s.map fun b => Value.int .u8 b.toNat) := by
          rw [flat_bytes]
          refine VL_of (by simp) fun j x v hj hv => ?_
          simp only [List.getElem?_map] at hj hv
          cases hb : s[j]? with
          | none => rw [hb] at hj; cases hj
          | some b =>
            rw [hb] at hj hv
            simp only [Option.map_some, Option.some.injEq] at hj hv
            subst hj hv; exact ⟨by rw [V], fun _ => rfl⟩
        let arr : Array Value := (s.map fun b => Value.int .u8 b.toNat).toArray ++ Array.replicate (cap - s.length) (.int .u8 0)
        have hsz : arr.size = cap := by simp [arr]; omega
        obtain ⟨σ', d⟩ := row_did (E := E) S hs (n := 1) (ag := false) (ti := false) (al := none) (es := s.map fun b => AV.int .u8 b.toNat) (arr := arr) (e := e) (fz := (cap, cap + 1)) (d := w.drawn + 1) (len := s.length) (tot := cap) (by decide)
          (fun x hx => by obtain ⟨b, _, rfl⟩ := List.mem_map.1 hx; rfl)
          (fun σ2 O2 w2 k => by
            intro j c hj
            obtain ⟨v, g1, g2, g3⟩ := VL_get (k.vl hvl) j c hj
            refine ⟨v, ?_, g3 rfl, g2⟩
            have hjl := (List.getElem?_eq_some_iff.1 g1).1
            rw [Nat.zero_add]
            show ((s.map fun b => Value.int .u8 b.toNat).toArray ++ Array.replicate (cap - s.length) (.int .u8 0))[j]? = some v
            rw [Array.getElem?_append_left (by simpa using hjl), ← g1]; simp)
          (by rw [hsz]; omega) (by simpa using hcap) (by simp) (fun j hj hh => by rw [hsz] at hj; simp only at hh; omega) hcap (by simp) (et := eltId E dst) (fun u hu => eltId_ok hty hu q1)
        refine ⟨σ', _, _, ?_, d⟩
        rw [hd, show e0 = e from by
          rw [uu2, hd] at q1; simpa using q1] at u2
        have hz1 : ByteArray.size ⟨s.toArray⟩ = s.length := by simp [ByteArray.size]
        have main : (Conv.stringToBytes e ⟨s.toArray⟩).run P w = .ok (.slice (some ⟨w.heap.size, 0, none⟩) s.length cap) { w with heap := w.heap.push (.cells arr e (cap, cap + 1)), drawn := w.drawn + 1 } := by
          simp only [Conv.stringToBytes, hz1, Sem.run_bind, run_choose, Question.forced, Bool.false_eq_true, if_false, Result.andThen_ok, newRow, run_newObj, Sem.run_pure, markStringish, run_shape]
          have harr : (Array.map (fun b : UInt8 => Value.int .u8 b.toNat) s.toArray ++ Array.replicate ((Question.appendCap s.length 0 e).cut (w.tape w.drawn (.appendCap s.length 0 e)) - s.length) (.int .u8 0)) = arr := by
            simp [arr, cap]
          rw [harr]
          have hshape : ({ w with heap := w.heap.push (.cells arr e), drawn := w.drawn + 1 } : World).shape? w.heap.size = some (e, cap) := by
            simp [World.shape?, hsz]
          simp only [hshape, run_freeze, freeze_push]
          rfl
        simp only [convert, Sem.run_bind, u1, u2, Result.andThen_ok]
        cases si.desc <;> simp only [q5, Result.andThen_ok, main]
      · cases hr
    · rename_i xx _ _ hd hno
      split at hr
      · rename_i e0 hd2
        rw [cond_eq_ite] at hr
        split at hr
        · rename_i hbs
          split at hr
          · rename_i es hes
            split at hr
            · rename_i l hl
              simp only [Option.some.injEq, Prod.mk.injEq] at hr; obtain ⟨rfl, rfl, rfl⟩ := hr
              obtain ⟨e, ei, q1, q2, q3⟩ := byteSlice_ok hty hbs
              obtain ⟨⟨us, k1, k2, _⟩, k5, k4, _, _⟩ := elemsA_sound (P := P) S hx hes
              obtain ⟨ns, n1, n2⟩ := bytesOf_ok hl
              have hus : us = ns.map (Value.int .u8) := by
                rw [n1] at k1
                have := flat_ints ns
                rw [this] at k1
                apply List.ext_getElem?
                intro j
                have hlen := VL_len k1
                simp only [List.length_map] at hlen
                rw [List.getElem?_map]
                cases hj : ns[j]? with
                | none => rw [List.getElem?_eq_none]; · rfl
                          rw [List.getElem?_eq_none_iff] at hj; omega
                | some n =>
                  obtain ⟨v, g1, g2, _⟩ := VL_get k1 j (.int .u8 n) (by simp [hj])
                  rw [V] at g2; rw [g1, g2]; rfl
              subst hus
              refine ⟨σ, .string ⟨l.toArray⟩, w, ?_, Did.same S aid (by rw [V])⟩
              have hsl : ∃ a len c, vx = .slice a len c := by
                cases xx <;> simp only [elemsA] at hes <;> (try (cases hes; done))
                · exact (hno _ rfl).elim
                · rw [V] at hx; exact ⟨_, _, _, hx⟩
                · rw [V] at hx; obtain ⟨a, cap, rfl, _⟩ := hx; exact ⟨_, _, _, rfl⟩
                · rw [V] at hx; obtain ⟨_, cap, a, _, rfl, _⟩ := hx; exact ⟨_, _, _, rfl⟩
              obtain ⟨a, len, c, rfl⟩ := hsl
              rw [run_convert_bytes_string w src dst e a len c q1 q3 (by rw [uu2, hd])]
              have hll : len = ns.length := by
                have := k5 w
                simp only [Builtin.lenOf, Sem.run_pure, Result.ok.injEq, and_true] at this
                rw [this, n1]; simp
              cases a with
              | none =>
                have := k2 w rfl
                simp only [Builtin.firstCells, Sem.run_pure, Result.ok.injEq, and_true] at this
                have : ns = [] := by
                  have h2 := congrArg Array.toList this
                  simpa using h2.symm
                subst this
                simp [Conv.bytesToString, n2]; rfl
              | some a =>
                have := k2 w rfl
                simp only [Builtin.firstCells, Nat.mul_one] at this
                rw [n1, List.length_map, ← hll] at this
                rw [run_bytesToString w a len c ns this, foldl_push, n2]
                simp
            · cases hr
          · cases hr
        · cases hr
      · cases hr
    · cases hr
  · cases hr

end
end Go.AE
end

section
/- Every operation but a call of a function is sound. -/
namespace Go.AE
variable {F : Nat → Prop}
section
variable {E : Env} {P : Program} {σ : Sg} {w : World} (hty : ∀ t i, E.ty t = some i → TyOk P t i)

theorem range_sound {h : Heap} (S : Sim E F σ h w) {aid : Nat} (hs : σ aid = none) {t : Nat} {i : TI} (ht : TyOk P t i) (hd : i.desc = .string) {s : List UInt8} {vx : Value} (hx : V σ (own F σ h) w (.str s) vx) :
    ∃ σ' val w', (Instr.range t vx).run P w = .ok val w' ∧ Did E F σ h w [] aid (.ptr aid 0) (h.set aid (some (.siter s 0))) σ' val w' := by
  rw [V] at hx; subst hx
  have := alloc_step (E := E) S (w' := { w with heap := w.heap.push (.stringIter ⟨s.toArray⟩ 0) }) (o := .siter s 0) (s := ⟨w.heap.size, 0, 1, 0⟩) hs rfl rfl rfl rfl rfl (by simp [aliasIs]) (fun σ2 O2 k => ⟨rfl, by simp⟩)
  refine ⟨_, .pointer (some ⟨w.heap.size, 0, none⟩), _, ?_, this.1, this.2, by rw [V]; exact ⟨⟨w.heap.size, 0, 1, 0⟩, by simp, rfl⟩⟩
  have hu := ht.run_und (w := w)
  rw [hd] at hu
  simp [Instr.range, hu]

theorem next_sound {h : Heap} (S : Sim E F σ h w) {id : Nat} {s : List UInt8} {pos : Nat} (ho : h id = some (.siter s pos)) {vx : Value} (hx : V σ (own F σ h) w (.ptr id 0) vx) (ty : TypeId) (aid : Nat) :
    if pos < s.length then
      ∃ w', (Instr.next vx true ty).run P w = .ok (.tuple #[.bool true, .int .i64 pos, .int .i32 (Utf8.decode ⟨s.toArray⟩ pos).1]) w' ∧
        Sim E F σ (h.set id (some (.siter s (pos + (Utf8.decode ⟨s.toArray⟩ pos).2)))) w' ∧ Stp F σ h w [id] aid σ (h.set id (some (.siter s (pos + (Utf8.decode ⟨s.toArray⟩ pos).2)))) w'
    else (Instr.next vx true ty).run P w = .ok (.tuple #[.bool false]) w := by
  obtain ⟨q, hq, hrel⟩ := S.obj id _ ho
  rw [V] at hx; obtain ⟨q', hq', rfl⟩ := hx
  obtain rfl := Option.some.inj (hq.symm.trans hq')
  obtain ⟨hb, hh⟩ := hrel
  have hsz : ByteArray.size ⟨s.toArray⟩ = s.length := by simp [ByteArray.size]
  have hget : (getObj q.block).run P w = .ok (.stringIter ⟨s.toArray⟩ pos) w := by simp [getObj, Sem.run, hh]
  split
  · rename_i hlt
    have hset : ∀ o, (setObj q.block o).run P w = .ok () { w with heap := w.heap.setIfInBounds q.block o } := fun o => by simp [setObj, Sem.run, hh]
    have hlt2 : q.block < w.heap.size := by
      rcases Nat.lt_or_ge q.block w.heap.size with h' | h'
      · exact h'
      · simp [Array.getElem?_eq_none h'] at hh
    have := write_step (E := E) S (o := .siter s pos) (o' := .siter s (pos + (Utf8.decode ⟨s.toArray⟩ pos).2)) (w' := { w with heap := w.heap.setIfInBounds q.block (.stringIter ⟨s.toArray⟩ (pos + (Utf8.decode ⟨s.toArray⟩ pos).2)) }) ho hq rfl aid (by simp [aliasIs]) (by simp)
      (fun b hb => by simp only [Array.getElem?_setIfInBounds]; rw [if_neg (fun e => hb e.symm)]) rfl rfl rfl (fun O2 k => ⟨hb, by simp [hlt2]⟩)
    refine ⟨_, ?_, this.1, this.2⟩
    simp only [Instr.next, hb, Nat.add_zero, Sem.run_bind, hget, Result.andThen_ok, hsz, if_pos hlt, hset, Sem.run_pure, goInt]
  · rename_i hlt
    simp only [Instr.next, hb, Nat.add_zero, Sem.run_bind, hget, Result.andThen_ok, hsz, if_neg hlt, Sem.run_pure]

theorem lenA_sound {O : Nat → Prop} {x : AV} {vx : Value} {n : Nat} {t ty e : TypeId} (hx : V σ O w x vx) (hn : lenA x = some n) (hns : ∀ s, x ≠ .str s) (hu : P.underlying t = some (.slice e)) :
    (Builtin.len_ #[t] ty #[vx]).run P w = .ok (.int .i64 n) w := by
  have hu := run_underlying (w := w) hu
  cases x <;> simp only [lenA, Option.some.injEq, reduceCtorEq] at hn
  · exact absurd rfl (hns _)
  · subst hn; rw [V] at hx; subst hx; simp [Builtin.len_, hu, goInt]
  · subst hn; rw [V] at hx; obtain ⟨a, cap, rfl, _⟩ := hx; simp [Builtin.len_, hu, goInt]
  · subst hn; rw [V] at hx; obtain ⟨_, cap, a, _, rfl, _⟩ := hx; simp [Builtin.len_, hu, goInt]

/-- An object taken for another one: its block, seen as a row. -/
theorem move_step {bt : Nat} {h : Heap} (S : Sim E F σ h w) {id aid : Nat} {cs : List AV} {s s' : SI} {o' : AObj} (ho : h id = some (.box cs bt)) (hs : σ id = some s) (ha : h aid = none) (hsa : σ aid = none) (hblk : s'.block = s.block) (hal : ∀ k, ¬ aliasIs o' k)
    (hrel : ∀ σ2 O2, Kept σ (own F σ h) w σ2 O2 w → ObjRel σ2 O2 w s' o') :
    Sim E F (fun i => if i = aid then some s' else σ i) ((h.set id none).set aid (some o')) w ∧ Stp F σ h w [id] aid (fun i => if i = aid then some s' else σ i) ((h.set id none).set aid (some o')) w := by
  have hida : id ≠ aid := fun e => by rw [e, ha] at ho; cases ho
  have hget : ∀ j, ((h.set id none).set aid (some o')) j = if j = aid then some o' else if j = id then none else h j := fun j => by rw [Heap.set_get, Heap.set_get]
  have hsown : own F σ h s.block := .inr ⟨id, _, s, ho, hs, rfl⟩
  have hown : ∀ b, own F (fun i => if i = aid then some s' else σ i) ((h.set id none).set aid (some o')) b → own F σ h b := by
    rintro b (hF | ⟨j, oj, sj, h1, h2, rfl⟩)
    · exact .inl hF
    rw [hget] at h1
    by_cases e : j = aid
    · simp only [e, if_true, Option.some.injEq] at h2; subst h2; rw [hblk]; exact hsown
    · rw [if_neg e] at h1; simp only [e, if_false] at h2
      split at h1
      · cases h1
      · exact .inr ⟨j, oj, sj, h1, h2, rfl⟩
  have kept : Kept σ (own F σ h) w (fun i => if i = aid then some s' else σ i) (own F (fun i => if i = aid then some s' else σ i) ((h.set id none).set aid (some o'))) w :=
    ⟨fun j q hj => by
      have : j ≠ aid := fun e => by rw [e, hsa] at hj; cases hj
      simp only [this, if_false]; exact hj, Nat.le_refl _, fun b hb => .inl (hown b hb), fun _ _ _ => rfl⟩
  have apart : ∀ j oj sj, h j = some oj → σ j = some sj → j ≠ id → sj.block ≠ s.block := by
    intro j oj sj h1 h2 h3 h5
    rcases S.inj j id oj _ sj s h1 ho h2 hs h3 h5 with ⟨_, h6⟩ | ⟨h6, _⟩
    · exact h6
    · cases h6
  refine ⟨⟨?_, ?_, ?_, ?_, ?_⟩, kept, rfl, rfl, rfl, fun _ _ _ _ _ _ => rfl, ?_, ?_, ?_, fun _ _ => rfl⟩
  · intro j oj h1
    rw [hget] at h1
    by_cases e : j = aid
    · rw [if_pos e] at h1; obtain rfl := Option.some.inj h1; exact ⟨s', by simp [e], hrel _ _ kept⟩
    · rw [if_neg e] at h1
      split at h1
      · cases h1
      · obtain ⟨sj, h2, h3⟩ := S.obj j oj h1
        exact ⟨sj, by simp [e, h2], h3.mono kept rfl⟩
  · intro i j oi oj si sj h1 h2 h3 h4 hne heq
    rw [hget] at h1 h2
    by_cases ei : i = aid
    · by_cases ej : j = aid
      · exact absurd (ei.trans ej.symm) hne
      · rw [if_neg ej] at h2; simp only [ej, if_false] at h4; simp only [ei, if_true, Option.some.injEq] at h3
        split at h2
        · cases h2
        · rename_i e2; exact absurd (by rw [← heq, ← h3, hblk]) (apart j oj sj h2 h4 e2)
    · by_cases ej : j = aid
      · rw [if_neg ei] at h1; simp only [ei, if_false] at h3; simp only [ej, if_true, Option.some.injEq] at h4
        split at h1
        · cases h1
        · rename_i e2; exact absurd (by rw [heq, ← h4, hblk]) (apart i oi si h1 h3 e2)
      · rw [if_neg ei] at h1; rw [if_neg ej] at h2; simp only [ei, if_false] at h3; simp only [ej, if_false] at h4
        split at h1
        · cases h1
        · split at h2
          · cases h2
          · exact S.inj i j oi oj si sj h1 h2 h3 h4 hne heq
  · intro j oj k h1 h2
    rw [hget] at h1
    by_cases e : j = aid
    · rw [if_pos e] at h1; obtain rfl := Option.some.inj h1; exact absurd h2 (hal k)
    · rw [if_neg e] at h1
      split at h1
      · cases h1
      · obtain ⟨a1, a2⟩ := S.ali j oj k h1 h2
        have hka : k ≠ aid := fun e => a1 (e ▸ hsa)
        refine ⟨by simp only [hka, if_false]; exact a1, fun ok hok => ?_⟩
        rw [hget, if_neg hka] at hok
        split at hok
        · cases hok
        · exact a2 ok hok
  · intro g cs' hg
    obtain ⟨h1, h2, h3⟩ := S.glob g cs' hg
    exact ⟨fun ho => h1 (hown g ho), h2, h3.mono kept h1⟩
  · intro b hb
    obtain ⟨f1, f2⟩ := S.fo b hb
    refine ⟨f1, fun j oj sj h1 h2 => ?_⟩
    rw [hget] at h1
    by_cases e : j = aid
    · simp only [e, if_true, Option.some.injEq] at h2; subst h2; rw [hblk]; exact f2 id _ s ho hs
    · rw [if_neg e] at h1; simp only [e, if_false] at h2
      split at h1
      · cases h1
      · exact f2 j oj sj h1 h2
  · intro j hj; simp [hj]
  · intro j hj hn; rw [hget, if_neg hj, if_neg (by simpa using hn)]
  · intro j hj h0; rw [hget, if_neg hj]; split <;> first | rfl | exact h0

theorem chunks_flat {ag : Bool} {n : Nat} (hn : 0 < n) (hag : ag = true ∨ n = 1) : ∀ (k : Nat) (cs : List AV), cs.length = k * n → cs.all AV.oneCell = true →
    flatA (chunks ag n k cs) = cs ∧ (chunks ag n k cs).length = k ∧ ∀ e ∈ chunks ag n k cs, shape e = (n, ag)
  | 0, cs, hl, _ => by
    have : cs = [] := List.length_eq_zero_iff.1 (by omega)
    subst this; exact ⟨rfl, rfl, by simp [chunks]⟩
  | k + 1, cs, hl, hc => by
    have hle : n ≤ cs.length := by rw [hl, Nat.add_mul]; omega
    have hd : (cs.drop n).length = k * n := by rw [List.length_drop, hl, Nat.add_mul]; omega
    have hda : (cs.drop n).all AV.oneCell = true := by
      rw [List.all_eq_true] at hc ⊢; exact fun x hx => hc x (List.mem_of_mem_drop hx)
    obtain ⟨i1, i2, i3⟩ := chunks_flat hn hag k (cs.drop n) hd hda
    simp only [chunks]
    cases ag with
    | true =>
      simp only [cond_true]
      refine ⟨?_, by simp [i2], ?_⟩
      · simp only [flatA, List.flatMap_cons, AV.cells] at i1 ⊢
        rw [i1]; exact List.take_append_drop n cs
      · intro e he
        rcases List.mem_cons.1 he with rfl | he
        · simp [shape]; omega
        · exact i3 e he
    | false =>
      have h1 : n = 1 := by simpa using hag
      subst h1
      cases cs with
      | nil => simp at hle
      | cons c cs =>
        have hcc : c.oneCell = true := by simp at hc; exact hc.1
        simp only [cond_false]
        refine ⟨?_, by simpa using i2, ?_⟩
        · simp only [flatA, List.flatMap_cons, List.drop_succ_cons, List.drop_zero] at i1 ⊢
          rw [i1]
          have : c.cells = [c] := by cases c <;> first | rfl | cases hcc
          rw [this]; rfl
        · intro e he
          rcases List.mem_cons.1 he with rfl | he
          · exact shape_one hcc
          · exact i3 e he


theorem mapO_opnd {fr : Tr} {a : Act} {O : Nat → Prop} : ∀ {l : List Operand} {vs : List AV}, OA σ O w fr a l → mapO (opnd fr) l = some vs → VL σ O w false vs (l.map a.eval)
  | [], vs, _, h => by simp only [mapO, Option.some.injEq] at h; subst h; rw [VL]; rfl
  | x :: l, vs, hf, h => by
    simp only [mapO] at h
    cases hx : opnd fr x with
    | none => rw [hx] at h; cases h
    | some v =>
      rw [hx] at h; simp only at h
      cases hl : mapO (opnd fr) l with
      | none => rw [hl] at h; cases h
      | some vs' =>
        rw [hl] at h; simp only [Option.some.injEq] at h; subst h
        rw [VL]; exact ⟨_, _, rfl, by simp, hf _ (by simp) _ hx, mapO_opnd (fun y hy => hf y (by simp at hy ⊢; exact .inr hy)) hl⟩

include hty
theorem elemTI_ok {t : Nat} {ei : TI} (h : elemTI E t = some ei) : ∃ e, P.underlying t = some (.slice e) ∧ TyOk P e ei := by
  unfold elemTI at h
  split at h
  · rename_i i hi
    split at h
    · rename_i e hd
      exact ⟨e, by rw [(hty _ _ hi).und, hd], hty _ _ h⟩
    · cases h
  · cases h

theorem elemTI_id {t : Nat} {ei : TI} (h : elemTI E t = some ei) : ∃ e, P.underlying t = some (.slice e) ∧ TyOk P e ei ∧ orN (eltId E t) 0 = e := by
  unfold elemTI at h
  split at h
  · rename_i i hi
    split at h
    · rename_i e hd
      exact ⟨e, by rw [(hty _ _ hi).und, hd], hty _ _ h, by rw [eltId_of hi hd]; rfl⟩
    · cases h
  · cases h

omit hty in
theorem bytesOf_ints : ∀ (es : List AV) (l : List UInt8), bytesOf es = some l → ∃ ms : List Int, es = ms.map (AV.int .u8) ∧ l = ms.map fun m => m.toNat.toUInt8
  | [], l, h => by simp only [bytesOf, Option.some.injEq] at h; subst h; exact ⟨[], rfl, rfl⟩
  | x :: es, l, h => by
    cases x with
    | int k m =>
      cases k <;> simp only [bytesOf, reduceCtorEq] at h
      split at h
      · rename_i l' hl
        cases h
        obtain ⟨ms, rfl, rfl⟩ := bytesOf_ints es l' hl
        exact ⟨m :: ms, rfl, rfl⟩
      · cases h
    | _ => simp [bytesOf] at h

omit hty in
theorem run_loadB {P : Program} {w : World} : ∀ (ms : List Int) (a : Addr) (acc : ByteArray), (∀ (j : Nat) m, ms[j]? = some m → w.cell? (a.add j) = some (.int .u8 m)) →
    (loadBytes a acc ms.length).run P w = .ok ⟨acc.data ++ (ms.map fun m => m.toNat.toUInt8).toArray⟩ w
  | [], a, acc, _ => by simp [loadBytes]
  | x :: l, a, acc, h => by
    have h0 : w.cell? a = some (.int .u8 x) := by
      have := h 0 x rfl
      simpa [Addr.add] using this
    have ih := run_loadB (P := P) l (a.add 1) (acc.push x.toNat.toUInt8) (fun j y hy => by
      have := h (j + 1) y (by simpa using hy)
      have e : (a.add 1).add j = a.add (j + 1) := by
        unfold Addr.add
        by_cases hj : j = 0
        · subst hj; simp
        · simp [hj]; omega
      rw [e]; exact this)
    simp only [List.length_cons, loadBytes, Sem.run_bind, run_load, h0, Result.andThen]
    rw [ih]
    congr 1
    apply ByteArray.ext
    simp [ByteArray.push]

omit hty in
theorem liesAt_row {P : Program} {e : TypeId} (hc : P.cellsOf e = 1) (count off n : Nat) (hn : off + n ≤ count) : liesAt P P.depth e count off e n = true := by
  have hd : P.depth = (2 * (P.types.size + Made.depth) + 1) + 1 := rfl
  rw [hd]
  simp only [liesAt, Bool.or_eq_true]
  left
  rw [hd]
  simp [rowAt, hc, hn, sameLayout, Nat.mod_one]

omit hty in
theorem run_unsafeString_at {P : Program} {w : World} (pt it ty e : TypeId) (hp : P.underlying pt = some (.pointer e)) (hc : P.cellsOf e = 1) (g o cells : Nat) (hsh : w.shape? g = some (e, cells)) (ms : List Int) (h0 : 0 < ms.length) (hn : o + ms.length ≤ cells) (h63 : ms.length ≤ 9223372036854775807)
    (hcell : ∀ (j : Nat) m, ms[j]? = some m → w.cell? ((⟨g, o, none⟩ : Addr).add j) = some (.int .u8 m)) :
    (Builtin.unsafeString_ #[pt, it] ty #[.pointer (some ⟨g, o, none⟩), .int .i64 ms.length]).run P w = .ok (.string ⟨(ms.map fun m => m.toNat.toUInt8).toArray⟩) (w.freeze ⟨g, o, none⟩ ms.length) := by
  have hl : ms.length ≠ 0 := by omega
  have hlb := run_loadB (P := P) ms ⟨g, o, none⟩ .empty hcell
  have hlies := liesAt_row (P := P) hc (cells / P.cellsOf e) o ms.length (by rw [hc]; simpa using hn)
  have h63' : ¬ (9223372036854775807 : Int) < (ms.length : Int) := by omega
  have hdef : Builtin.unsafeString_ #[pt, it] ty #[.pointer (some ⟨g, o, none⟩), .int .i64 ms.length] =
      (do
        let n ← asInt (.int .i64 ms.length)
        if n < 0 then runtimePanic (.error _)
        if n > IntKind.i64.max then unsupported (.unsafePointer "String: a length above the largest int")
        if n = 0 then pure (.string .empty)
        else if ← variablesAt ⟨g, o, none⟩ (← elemOf pt) n.toNat then do
          let s ← loadBytes ⟨g, o, none⟩ .empty n.toNat
          freeze ⟨g, o, none⟩ n.toNat
          pure (.string s)
        else unsupported (.unsafePointer "String: not so many bytes at ptr")) := rfl
  rw [hdef]
  have hmax : IntKind.i64.max = 9223372036854775807 := rfl
  have hneg : ¬ (ms.length : Int) < 0 := by omega
  have hl2 : ms ≠ [] := by intro e; rw [e] at hl; exact hl rfl
  simp [asInt, asIntOf, hmax, h63', hneg, hl2, variablesAt, hsh, elemOf, run_underlying hp, hlies, hlb]

theorem builtinA_sound {h : Heap} (S : Sim E F σ h w) {aid : Nat} (hs : σ aid = none) (ha : h aid = none) {b : Builtin} {ts : List TypeId} {args : List AV} {vargs : List Value} (hargs : VL σ (own F σ h) w false args vargs)
    {ty : TypeId} {consts : Array Bool} {v : AV} {h' : Heap} {tt : List Nat} (hr : builtinA E h aid b ts args = some (v, h', tt)) :
    ∃ σ' val w', (builtin b ts.toArray ty consts vargs.toArray).run P w = .ok (.value val) w' ∧ Did E F σ h w tt aid v h' σ' val w' := by
  unfold builtinA at hr
  split at hr
  · -- len
    rename_i x
    rw [VL] at hargs; obtain ⟨vx, l', rfl, -, hx, hl⟩ := hargs
    rw [VL] at hl; subst hl
    split at hr
    · rename_i t
      split at hr
      · rename_i i hi
        have hti := hty _ _ hi
        split at hr
        · rename_i hd
          split at hr
          · rename_i s
            simp only [Option.some.injEq, Prod.mk.injEq] at hr; obtain ⟨rfl, rfl, rfl⟩ := hr
            rw [V] at hx; subst hx
            have hu := hti.run_und (w := w); rw [hd] at hu
            have hsz : ByteArray.size ⟨s.toArray⟩ = s.length := by simp [ByteArray.size]
            exact ⟨σ, .int .i64 s.length, w, by simp only [builtin, Sem.run_bind, Builtin.len_, List.getElem?_toArray, List.getElem?_cons_zero, hu, Result.andThen_ok, hsz, Sem.run_pure, goInt], Did.same S aid (by rw [V])⟩
          · cases hr
        · rename_i e hd
          split at hr
          · cases hr
          · rename_i x hns
            split at hr
            · rename_i n hn
              simp only [Option.some.injEq, Prod.mk.injEq] at hr; obtain ⟨rfl, rfl, rfl⟩ := hr
              have := lenA_sound (ty := ty) hx hn (fun s e => hns s e) (by rw [hti.und, hd])
              exact ⟨σ, .int .i64 n, w, by simp [builtin, this], Did.same S aid (by rw [V])⟩
            · cases hr
        · rename_i n e hd
          simp only [Option.some.injEq, Prod.mk.injEq] at hr; obtain ⟨rfl, rfl, rfl⟩ := hr
          have hu := hti.run_und (w := w); rw [hd] at hu
          exact ⟨σ, .int .i64 n, w, by simp [builtin, Builtin.len_, hu, goInt], Did.same S aid (by rw [V])⟩
        · cases hr
      · cases hr
    · cases hr
  · -- append
    rename_i s x
    rw [VL] at hargs; obtain ⟨vs, l', rfl, -, hsv, hl⟩ := hargs
    rw [VL] at hl; obtain ⟨vx, l', rfl, -, hx, hl⟩ := hl
    rw [VL] at hl; subst hl
    split at hr
    · rename_i t u
      split at hr
      · rename_i ei hei
        obtain ⟨e, hu, he, hid⟩ := elemTI_id hty hei
        rw [hid] at hr
        rw [cond_eq_ite] at hr
        split at hr
        · rename_i hc
          simp only [Bool.and_eq_true, beq_iff_eq] at hc
          obtain ⟨ui, hui⟩ := Option.isSome_iff_exists.1 hc.1
          have htu := hty _ _ hui
          split at hr
          · rename_i new hnew
            have hint : isIntD ui.desc = isIntA x := by
              have := hc.2; simp only [isIntT, hui] at this; exact this
            by_cases hix : isIntA x = true
            · obtain ⟨k, m, rfl⟩ : ∃ k m, x = .int k m := by cases x <;> first | exact ⟨_, _, rfl⟩ | cases hix
              simp only [newA] at hnew
              split at hnew
              · rename_i z hz
                simp only [intLe_eq, cond_eq_ite, Bool.and_eq_true, decide_eq_true_eq, Nat.ble_eq] at hnew
                split at hnew
                · rename_i hb
                  obtain rfl := Option.some.inj hnew
                  obtain ⟨⟨hb1, hb2⟩, hb3⟩ := hb
                  rw [V] at hx; subst hx
                  obtain ⟨inf, i1, i2, i3, i4⟩ := he.info
                  obtain ⟨zv, z1, z2⟩ := i4 z hz
                  have hzr : ∀ w1 : World, (zeroValue e).run P w1 = .ok zv w1 := fun w1 => by simp [zeroValue, typeInfo, i1, z1]
                  have hzc := zero_cells (σ := σ) (w := w) z2 (own F σ h)
                  have hzs : zv.cells.size = ei.size := by have := VL_len hzc; rw [(fits_ok hb3).2.2.1] at this; simpa using this
                  have hrow := zero_row hzc (fits_ok hb3).2.2.1 (fits_ok hb3).2.2.2 m.toNat
                  have hzr2 : (Builtin.zeroCells zv.cells m.toNat).toList = ((Array.range (m.toNat * ei.size)).map fun i => zv.cells[i % zv.cells.size]!).toList := by
                    rw [Builtin.zeroCells, hzs]
                  have hbm : m.toNat * (ei.bytes + 1) ≤ 140737488355328 := hb2
                  have hp := puts_zeros (w := w) he htu (by rw [hint]; rfl) (k := k) hb1 hbm hzr hzs
                  rw [hzr2] at hp
                  obtain ⟨σ', val, w', r1, r2⟩ := appendA_sound (ty := ty) S hs ha hu he (new := List.replicate m.toNat z) (by simpa using hp) hrow (fun e he => by rw [List.eq_of_mem_replicate he]; exact (fits_ok hb3).1) (fun _ => (fits_ok hb3).2.2.2) hsv hr
                  exact ⟨σ', val, w', by simp [builtin, r1], r2⟩
                · cases hnew
              · cases hnew
            · have hix : isIntA x = false := by simpa using hix
              have hnew2 : elemsA h ei x = some new := by
                cases x <;> first | exact hnew | cases hix
              obtain ⟨⟨us, k1, k2, _⟩, k5, k4, _, k6⟩ := elemsA_sound (P := P) S hx hnew2
              have hw : ∀ e ∈ new, e.cells.length = ei.size := fun e he => by rw [← shape_fst, k4 e he]
              have hlen : us.length = new.length * ei.size := by have := VL_len k1; rw [flat_length new hw] at this; exact this
              have hp := puts_elems (w := w) he htu (by rw [hint]; exact hix) k5 k2 hlen
              obtain ⟨σ', val, w', r1, r2⟩ := appendA_sound (ty := ty) S hs ha hu he hp k1 k4 k6 hsv hr
              exact ⟨σ', val, w', by simp [builtin, r1], r2⟩
          · cases hr
        · cases hr
      · cases hr
    · cases hr
  · -- copy
    rename_i d s
    rw [VL] at hargs; obtain ⟨vd, l', rfl, -, hdv, hl⟩ := hargs
    rw [VL] at hl; obtain ⟨vx, l', rfl, -, hx, hl⟩ := hl
    rw [VL] at hl; subst hl
    split at hr
    · rename_i t u
      split at hr
      · rename_i ei hei
        obtain ⟨e, hu, he⟩ := elemTI_ok hty hei
        split at hr
        · rename_i src hsrc
          obtain ⟨val, w', r1, r2⟩ := copyA_sound (u := u) (ty := ty) (aid := aid) S hu he hdv hx hsrc hr
          exact ⟨σ, val, w', by simp [builtin, r1], r2⟩
        · cases hr
      · cases hr
    · cases hr
  · -- the row behind a slice
    rename_i x
    rw [VL] at hargs; obtain ⟨vx, l', rfl, -, hx, hl⟩ := hargs
    rw [VL] at hl; subst hl
    split at hr
    · simp only [Option.some.injEq, Prod.mk.injEq] at hr; obtain ⟨rfl, rfl, rfl⟩ := hr
      rw [V] at hx; subst hx
      exact ⟨σ, .pointer none, w, rfl, Did.same S aid (by rw [V])⟩
    · rename_i id off len lim
      rw [cond_eq_ite] at hr
      split at hr
      · rename_i hlen
        have hlen : 0 < len := by simpa [Nat.blt_eq] using hlen
        simp only [Option.some.injEq, Prod.mk.injEq] at hr; obtain ⟨rfl, rfl, rfl⟩ := hr
        rw [V] at hx; obtain ⟨s, cap, a, hs', rfl, k1, k2, k3, k4, k5⟩ := hx
        have ha := k5.resolve_left (by omega)
        subst ha
        have hrun := Lib.run_unsafeSliceData_row (P := P) w ts.toArray ty ⟨s.block, s.base + off * s.width, none⟩ len cap (by omega)
        refine ⟨σ, .pointer (some ⟨s.block, s.base + off * s.width, none⟩), w, by simp only [builtin, Sem.run_bind]; rw [hrun]; rfl, Did.same S aid (by rw [V]; exact ⟨s, hs', by simp⟩)⟩
      · cases hr
    · cases hr
  · -- a string over a row
    rename_i p n
    rw [VL] at hargs; obtain ⟨vp, l', rfl, -, hp, hl⟩ := hargs
    rw [VL] at hl; obtain ⟨vn, l', rfl, -, hn, hl⟩ := hl
    rw [VL] at hl; subst hl
    rw [V] at hn; subst hn
    split at hr
    · rename_i t it
      split at hr
      · rename_i i hi
        have hti := hty _ _ hi
        split at hr
        · rename_i e hd
          split at hr
          · rename_i ei hei
            have he := hty _ _ hei
            have hup : P.underlying t = some (.pointer e) := by rw [hti.und, hd]
            split at hr
            · rw [cond_eq_ite] at hr
              split at hr
              · rename_i hn0
                have hn0 := Nat.eq_of_beq_eq_true hn0
                simp only [Option.some.injEq, Prod.mk.injEq] at hr; obtain ⟨rfl, rfl, rfl⟩ := hr
                subst hn0
                rw [V] at hp; subst hp
                have hrun := Lib.run_unsafeString_none (P := P) w t it ty none
                exact ⟨σ, .string .empty, w, by simp only [builtin, Sem.run_bind]; rw [show (Int.ofNat 0) = 0 from rfl, hrun]; rfl, Did.same S aid (by rw [V]; rfl)⟩
              · cases hr
            · rename_i id off
              split at hr
              · rename_i es ti al t0 ho
                rw [cond_eq_ite] at hr
                split at hr
                · rename_i hc
                  simp only [Bool.and_eq_true, Nat.beq_eq, Nat.ble_eq, Nat.blt_eq] at hc
                  obtain ⟨⟨⟨⟨rfl, hsz1⟩, hn0⟩, hle⟩, hmax⟩ := hc
                  split at hr
                  · rename_i l hb
                    simp only [Option.some.injEq, Prod.mk.injEq] at hr; obtain ⟨rfl, rfl, rfl⟩ := hr
                    obtain ⟨s', hs', hrel⟩ := S.obj id _ ho
                    rw [V] at hp; obtain ⟨q, hq, rfl⟩ := hp
                    obtain rfl := Option.some.inj (hq.symm.trans hs')
                    obtain ⟨h1, h2, h3, h4, h5, arr, el, fz, h6, h7, h8, h9⟩ := (show _ from hrel)
                    have hel := el.2 _ rfl
                    rw [hel] at h6
                    obtain ⟨ms, m1, m2⟩ := bytesOf_ints _ _ hb
                    have hlen : ms.length = n := by have := congrArg List.length m1; simp at this; omega
                    have hflat : flatA es = es := by
                      have : ∀ (l : List AV), (∀ x ∈ l, shape x = (1, false)) → flatA l = l := by
                        intro l
                        induction l with
                        | nil => intro _; rfl
                        | cons x xs ih =>
                          intro hx
                          have e1 : x.cells = [x] := by
                            have := hx x (by simp)
                            cases x <;> first | rfl | simp [shape] at this
                          have := ih (fun y hy => hx y (by simp [hy]))
                          unfold flatA at this ⊢
                          rw [List.flatMap_cons, e1, this]; rfl
                      exact this es h3
                    rw [hflat] at h9
                    have hcell : ∀ (j : Nat) m, ms[j]? = some m → w.cell? ((⟨q.block, q.base + (off * q.width + 0), none⟩ : Addr).add j) = some (.int .u8 m) := by
                      intro j m hj
                      have hj' : j < ms.length := (List.getElem?_eq_some_iff.1 hj).1
                      have he2 : es[off + j]? = some (.int .u8 m) := by
                        have := congrArg (fun l => l[j]?) m1
                        simp only [List.getElem?_take, List.getElem?_drop, List.getElem?_map, hj, Option.map_some] at this
                        rw [if_pos (by omega)] at this
                        exact this
                      obtain ⟨v, g1, g2, g3⟩ := h9 _ _ he2
                      rw [V] at g3; subst g3
                      rw [addr_add]
                      simp only [World.cell?, h6]
                      rw [show q.base + (off * q.width + 0) + j = q.base + (off + j) from by rw [h1]; omega]
                      simpa using g1
                    have hcell1 : P.cellsOf t0 = 1 := by
                      obtain ⟨inf, i1, i2, _⟩ := he.info
                      simp [Program.cellsOf, i1, i2, hsz1]
                    have hrun := run_unsafeString_at (P := P) (w := w) t it ty t0 hup hcell1 q.block (q.base + (off * q.width + 0)) arr.size (by simp [World.shape?, h6]) ms (by rw [hlen]; omega) (by rw [hlen, h7, h1]; omega) (by rw [hlen]; omega) hcell
                    rw [hlen] at hrun
                    obtain ⟨S', T'⟩ := write_step (E := E) S (o := .vec 1 false es ti false al (some t0)) (o' := .dead) (w' := w.freeze ⟨q.block, q.base + (off * q.width + 0), none⟩ n) ho hq rfl aid (fun _ h => h) (by unfold World.freeze; split <;> simp)
                      (fun b hb => by unfold World.freeze; split
                                      · rfl
                                      · simp only [Array.getElem?_modify]; rw [if_neg (fun e => hb e.symm)])
                      (by unfold World.freeze; split <;> rfl) (by unfold World.freeze; split <;> rfl) (by unfold World.freeze; split <;> rfl) (fun O2 k => by
                        show q.block < _
                        have : q.block < w.heap.size := (Array.getElem?_eq_some_iff.1 h6).1
                        unfold World.freeze; split <;> simpa using this)
                    refine ⟨σ, .string ⟨l.toArray⟩, _, by simp only [builtin, Sem.run_bind]; rw [show (Int.ofNat n) = (n : Int) from rfl, hrun, m2]; rfl, S', T', by rw [V]⟩
                  · cases hr
                · cases hr
              · cases hr
            · cases hr
          · cases hr
        · cases hr
      · cases hr
    · cases hr
  · -- clear
    rename_i d
    rw [VL] at hargs; obtain ⟨vd, l', rfl, -, hdv, hl⟩ := hargs
    rw [VL] at hl; subst hl
    split at hr
    · rename_i t
      split at hr
      · rename_i ei hei
        obtain ⟨e, hu, he⟩ := elemTI_ok hty hei
        split at hr
        · rename_i z hz
          obtain ⟨val, w', r1, r2⟩ := clearA_sound (ty := ty) (aid := aid) S hu he hz hdv hr
          exact ⟨σ, val, w', by simp [builtin, r1], r2⟩
        · cases hr
      · cases hr
    · cases hr
  · -- cap
    rename_i x
    rw [VL] at hargs; obtain ⟨vx, l', rfl, -, hx, hl⟩ := hargs
    rw [VL] at hl; subst hl
    split at hr
    · rename_i t
      split at hr
      · rename_i ei hei
        obtain ⟨e, hu, he⟩ := elemTI_ok hty hei
        have hur := run_underlying (w := w) hu
        split at hr
        · simp only [Option.some.injEq, Prod.mk.injEq] at hr; obtain ⟨rfl, rfl, rfl⟩ := hr
          rw [V] at hx; subst hx
          exact ⟨σ, .int .i64 0, w, by simp [builtin, Builtin.cap_, hur, goInt], Did.same S aid (by rw [V])⟩
        · rename_i id off len lim
          rw [V] at hx; obtain ⟨q, cap, a, hq, rfl, k1, k2, k3, k4, k5⟩ := hx
          have hrun : ∀ n : Nat, n = cap → (builtin .cap #[t] ty consts #[.slice (some a) len cap]).run P w = .ok (.value (.int .i64 n)) w := by
            intro n hn; subst hn; simp [builtin, Builtin.cap_, hur, goInt]
          split at hr
          · rename_i c
            simp only [Option.some.injEq, Prod.mk.injEq] at hr; obtain ⟨rfl, rfl, rfl⟩ := hr
            exact ⟨σ, _, w, hrun c (k3 c rfl).symm, Did.same S aid (by rw [V])⟩
          · split at hr
            · rename_i n ag es ro al et ho
              rw [cond_eq_ite] at hr
              split at hr
              · rename_i hle
                have hle := Nat.le_of_ble_eq_true hle
                simp only [Option.some.injEq, Prod.mk.injEq] at hr; obtain ⟨rfl, rfl, rfl⟩ := hr
                obtain ⟨q', hq', hrel⟩ := S.obj id _ ho
                obtain rfl := Option.some.inj (hq.symm.trans hq')
                have e1 := hrel.2.2.2.2.1 rfl
                have e2 := k4 rfl
                exact ⟨σ, _, w, hrun (es.length - off) (by omega), Did.same S aid (by rw [V])⟩
              · cases hr
            · cases hr
        · cases hr
      · cases hr
    · cases hr
  · -- max
    rename_i l
    split at hr
    · rename_i v0 hv0
      simp only [Option.some.injEq, Prod.mk.injEq] at hr; obtain ⟨rfl, rfl, rfl⟩ := hr
      unfold maxA at hv0
      split at hv0
      · rename_i k a k' b
        rw [cond_eq_ite] at hv0
        split at hv0
        · rename_i hk
          obtain rfl := kindBeq_eq hk
          obtain rfl := Option.some.inj hv0
          rw [VL] at hargs; obtain ⟨vx, l', rfl, -, hx, hl⟩ := hargs
          rw [VL] at hl; obtain ⟨vy, l', rfl, -, hy, hl⟩ := hl
          rw [VL] at hl; subst hl
          rw [V] at hx hy; subst hx hy
          refine ⟨σ, .int k (if b > a then b else a), w, by simp [builtin, Builtin.max_, Builtin.max2], Did.same S aid ?_⟩
          rw [V]; congr 1
          rw [intLe_eq, cond_eq_ite]; by_cases h : b ≤ a
          · rw [if_neg (by omega), if_neg (by simp [h])]
          · rw [if_pos (by omega), if_pos (by simp [h])]
        · cases hv0
      · cases hv0
    · cases hr
  · -- min
    rename_i l
    split at hr
    · rename_i v0 hv0
      simp only [Option.some.injEq, Prod.mk.injEq] at hr; obtain ⟨rfl, rfl, rfl⟩ := hr
      unfold minA at hv0
      split at hv0
      · rename_i k a k' b
        rw [cond_eq_ite] at hv0
        split at hv0
        · rename_i hk
          obtain rfl := kindBeq_eq hk
          obtain rfl := Option.some.inj hv0
          rw [VL] at hargs; obtain ⟨vx, l', rfl, -, hx, hl⟩ := hargs
          rw [VL] at hl; obtain ⟨vy, l', rfl, -, hy, hl⟩ := hl
          rw [VL] at hl; subst hl
          rw [V] at hx hy; subst hx hy
          refine ⟨σ, .int k (if b < a then b else a), w, by simp [builtin, Builtin.min_, Builtin.min2], Did.same S aid ?_⟩
          rw [V]; congr 1
          rw [intLe_eq, cond_eq_ite]; by_cases h : a ≤ b
          · rw [if_neg (by omega), if_neg (by simp [h])]
          · rw [if_pos (by omega), if_pos (by simp [h])]
        · cases hv0
      · cases hv0
    · cases hr
  · cases hr

end
end Go.AE
end

section
/- Every operation but a call of a function is sound: the list. -/
namespace Go.AE
variable {F : Nat → Prop}
section
variable {E : Env} {P : Program} {σ : Sg} {w : World} (hty : ∀ t i, E.ty t = some i → TyOk P t i)

/-- What an operation comes to in the model: a value, or nothing ('undef'). -/
def Comes1 (P : Program) (s : Sem Next) (w : World) (val : Value) (w' : World) : Prop := s.run P w = .ok (.value val) w' ∨ (s.run P w = .ok .skip w' ∧ val = undef)

theorem comes_v {s : Sem Value} {val : Value} {w' : World} (h : s.run P w = .ok val w') : Comes1 P (do pure (.value (← s))) w val w' := .inl (by simp [h])

include hty
theorem arr_slice {h : Heap} (S : Sim E F σ h w) {aid id : Nat} (hs : σ aid = none) (ha : h aid = none) {t : Nat} {lo hi mx : Option Value} {l u m : Option Nat} {v : AV} {h' : Heap} {ts : List Nat} {vx : Value} (hx : V σ (own F σ h) w (.ptr id 0) vx)
    (h1 : BO lo l) (h2 : BO hi u) (h3 : BO mx m) (hh : m.isSome = true → u.isSome = true) (hr : sliceA E h aid t (.ptr id 0) l u m = some (v, h', ts)) :
    ∃ σ' val w', (Instr.sliceAt t vx lo hi mx).run P w = .ok val w' ∧ Did E F σ h w ts aid v h' σ' val w' := by
  simp only [sliceA] at hr
  split at hr
  · rename_i i hi
    have hti := hty _ _ hi
    split at hr
    · rename_i n e hd
      split at hr
      · rename_i ei cs bt he ho
        have hei := hty _ _ he
        rw [cond_eq_ite] at hr
        split at hr
        · rename_i hc
          simp only [Bool.and_eq_true, Nat.ble_eq, Nat.beq_eq, Bool.or_eq_true, Nat.blt_eq] at hc
          obtain ⟨⟨⟨⟨⟨c1, c2⟩, c3⟩, c4⟩, c5⟩, c6⟩ := hc
          simp only [Option.some.injEq, Prod.mk.injEq] at hr; obtain ⟨rfl, rfl, rfl⟩ := hr
          obtain ⟨q, hq, hrel⟩ := S.obj id _ ho
          rw [V] at hx; obtain ⟨q', hq', rfl⟩ := hx
          obtain rfl := Option.some.inj (hq.symm.trans hq')
          obtain ⟨hb, arr, el, fz, h6, h7, h8, h9⟩ := hrel
          obtain ⟨f1, f2, f3⟩ := chunks_flat (ag := ei.isAgg) c5 c6 n cs c4 h9.one
          have hl' : orN l 0 = l.getD 0 := by cases l <;> rfl
          have hu' : orN u n = u.getD n := by cases u <;> rfl
          have hm' : orN m n = m.getD n := by cases m <;> rfl
          rw [hl', hu'] at c1; rw [hu', hm'] at c2; rw [hm'] at c3
          obtain ⟨S', T'⟩ := move_step (E := E) S (s' := ⟨q.block, 0, ei.size, n⟩) (o' := .vec ei.size ei.isAgg (chunks ei.isAgg ei.size n cs) true false none none) ho hq ha hs rfl (by intro k hk; cases aliasIs_vec hk) (fun σ2 O2 k =>
            ⟨rfl, c5, f3, by rw [f2]; exact Nat.le_refl _, fun _ => f2, arr, ⟨el, fun _ h => by cases h⟩, fz, h6, by rw [h7, c4]; simp, h8, by rw [f1]; exact h9.mono k⟩)
          have hbd := run_bounds (P := P) (w := w) (b := false) (len := n) (cap := n) h1 h2 h3 hh (by intro x hx; subst hx; simpa using c3) (by intro x hx; subst hx; simpa using c2) c1
          refine ⟨_, .slice (some (if m.getD n = l.getD 0 then ⟨q.block, q.base + 0, none⟩ else (⟨q.block, q.base + 0, none⟩ : Addr).add (l.getD 0 * ei.size))) (u.getD n - l.getD 0) (m.getD n - l.getD 0), w, ?_, S', T', ?_⟩
          · have hu := hti.run_und (w := w); rw [hd] at hu
            simp only [Instr.sliceAt, Sem.run_bind, hu, Result.andThen_ok, Instr.sureAddr, Sem.run_pure, hbd, hei.run_size]
          · rw [V, hl', hu']
            refine ⟨⟨q.block, 0, ei.size, n⟩, m.getD n - l.getD 0, _, by simp, rfl, by omega, by simp; omega, ?_, ?_, ?_⟩
            · intro c hc; cases m with
              | none => cases hc
              | some m => simpa [subO] using hc
            · intro hn; cases m with
              | none => simp at c1 c2 ⊢; omega
              | some m => cases hn
            · by_cases h0 : m.getD n = l.getD 0
              · left; omega
              · right; rw [if_neg h0]; simp [addr_add, hb]
        · cases hr
      · cases hr
    · cases hr
  · cases hr

theorem opA_sound {fr : Tr} {a : Act} {h : Heap} (S : Sim E F σ h w) {aid : Nat} (hs : σ aid = none) (ha : h aid = none) {o : Oper} (hf : OA σ (own F σ h) w fr a o.op.operands.toList) {v : AV} {h' : Heap} {ts : List Nat}
    (hr : opA E fr h aid o.op = some (v, h', ts)) : ∃ σ' val w', Comes1 P (execOp a.eval o) w val w' ∧ Did E F σ h w ts aid v h' σ' val w' := by
  have pure1 : ∀ {x : AV} {s : Sem Value}, some (x, h, []) = some (v, h', ts) → (execOp a.eval o = do pure (.value (← s))) → (∃ val, s.run P w = .ok val w ∧ V σ (own F σ h) w x val) →
      ∃ σ' val w', Comes1 P (execOp a.eval o) w val w' ∧ Did E F σ h w ts aid v h' σ' val w' := by
    intro x s e1 e2 ⟨val, e3, e4⟩
    simp only [Option.some.injEq, Prod.mk.injEq] at e1; obtain ⟨rfl, rfl, rfl⟩ := e1
    exact ⟨σ, val, w, by rw [e2]; exact comes_v e3, Did.same S aid e4⟩
  have full : ∀ {s : Sem Value}, (execOp a.eval o = do pure (.value (← s))) → (∃ σ' val w', s.run P w = .ok val w' ∧ Did E F σ h w ts aid v h' σ' val w') →
      ∃ σ' val w', Comes1 P (execOp a.eval o) w val w' ∧ Did E F σ h w ts aid v h' σ' val w' := by
    intro s e2 ⟨σ', val, w', e3, e4⟩
    exact ⟨σ', val, w', by rw [e2]; exact comes_v e3, e4⟩
  have ov : ∀ {x : Operand} {y : AV}, x ∈ o.op.operands.toList → opnd fr x = some y → V σ (own F σ h) w y (a.eval x) := fun h1 h2 => hf _ h1 _ h2
  have mv : ∀ x, x ∈ o.op.operands.toList → (execOp a.eval o = pure (.value (a.eval x))) → (match opnd fr x with | some v => some (v, h, ([] : List Nat)) | none => none) = some (v, h', ts) →
      ∃ σ' val w', Comes1 P (execOp a.eval o) w val w' ∧ Did E F σ h w ts aid v h' σ' val w' := by
    intro x hm e1 e2
    split at e2
    · rename_i y hy
      simp only [Option.some.injEq, Prod.mk.injEq] at e2; obtain ⟨rfl, rfl, rfl⟩ := e2
      exact ⟨σ, a.eval x, w, .inl (by rw [e1]; rfl), Did.same S aid (ov hm hy)⟩
    · cases e2
  cases hop : o.op <;> rw [hop] at hr <;> simp only [opA, reduceCtorEq] at hr
  case move x => exact mv x (by rw [hop]; simp [Op.operands]) (by simp [execOp, hop]) hr
  case assign x => exact mv x (by rw [hop]; simp [Op.operands]) (by simp [execOp, hop]) hr
  case pick c x y =>
    split at hr
    · rename_i t ht
      split at hr
      · rename_i z hz
        refine pure1 (s := do pure (if ← asBool (a.eval c) then a.eval x else a.eval y)) hr (by simp [execOp, hop]) ?_
        have hc := ov (by rw [hop]; simp [Op.operands]) ht
        rw [V] at hc
        have hzv := ov (by rw [hop]; cases t <;> simp [Op.operands]) hz
        refine ⟨if t then a.eval x else a.eval y, by simp [hc, asBool], ?_⟩
        cases t <;> exact hzv
      · cases hr
    · cases hr
  case alloc t =>
    split at hr
    · rename_i z hz
      simp only [Option.some.injEq, Prod.mk.injEq] at hr; obtain ⟨rfl, rfl, rfl⟩ := hr
      unfold zeroOf at hz
      split at hz
      · rename_i i hi
        exact full (s := Instr.alloc t true (.tuple #[])) (by simp [execOp, hop]) (alloc_sound S hs (hty _ _ hi) hz)
      · cases hz
    · cases hr
  case box t x =>
    split at hr
    · rename_i z hz
      rw [cond_eq_ite] at hr
      split at hr
      · rename_i hc
        simp only [Option.some.injEq, Prod.mk.injEq] at hr; obtain ⟨rfl, rfl, rfl⟩ := hr
        exact full (s := Instr.box t (a.eval x)) (by simp [execOp, hop]) (boxOp_sound S hs (ov (by rw [hop]; simp [Op.operands]) hz) hc)
      · cases hr
    · cases hr
  case build t ps =>
    split at hr
    · rename_i l hl
      split at hr
      · rename_i y hy
        exact pure1 (s := Instr.build t (ps.map fun (i, x) => (i, a.eval x))) hr (by simp [execOp, hop]) (buildA_sound hty (by rw [hop] at hf; exact fun y hy => hf y (by simpa [Op.operands] using hy)) hl hy)
      · cases hr
    · cases hr
  case buildSlice t len ps =>
    split at hr
    · rename_i i hi
      split at hr
      · rename_i e hd
        split at hr
        · rename_i ei l he hl
          split at hr
          · rename_i z hz
            rw [cond_eq_ite] at hr
            split at hr
            · rename_i hc
              simp only [Bool.and_eq_true, Nat.ble_eq] at hc
              split at hr
              · rename_i es hes
                simp only [Option.some.injEq, Prod.mk.injEq] at hr; obtain ⟨rfl, rfl, rfl⟩ := hr
                refine full (s := Instr.buildSlice t len (ps.map fun (i, x) => (i, a.eval x))) (by simp [execOp, hop]) ?_
                exact buildSlice_sound S hs (by rw [(hty _ _ hi).und, hd]) (hty _ _ he) hz hc.1.2 hc.1.1 (by
                  have := partsO_sound (σ := σ) (w := w) (O := own F σ h) (fr := fr) (a := a) (by rw [hop] at hf; exact fun y hy => hf y (by simpa [Op.operands] using hy)) hl
                  have em : (ps.map fun (i, x) => (i, a.eval x)).toList = ps.toList.map fun p => (p.1, a.eval p.2) := by simp
                  rw [em]; exact this) hc.2 hes
              · cases hr
            · cases hr
          · cases hr
        · cases hr
      · cases hr
    · cases hr
  case load t x =>
    split at hr
    · rename_i i y hi hy
      split at hr
      · rename_i z hz
        exact pure1 (s := Instr.loadAt t (a.eval x)) hr (by simp [execOp, hop]) (readA_sound S (hty _ _ hi) (ov (by rw [hop]; simp [Op.operands]) hy) hz)
      · cases hr
    · cases hr
  case store t x y =>
    split at hr
    · rename_i i xa ya hi hxa hya
      split at hr
      · rename_i h2 t2 hw
        simp only [Option.some.injEq, Prod.mk.injEq] at hr; obtain ⟨rfl, rfl, rfl⟩ := hr
        obtain ⟨w', r1, r2, r3⟩ := writeA_sound S (hty _ _ hi) (ov (by rw [hop]; simp [Op.operands]) hxa) (ov (by rw [hop]; simp [Op.operands]) hya) hw aid
        exact ⟨σ, undef, w', .inr ⟨by simp [execOp, hop, r1], rfl⟩, r2, r3, V.undef⟩
      · cases hr
    · cases hr
  case nilCheck x =>
    split at hr
    · rename_i y hy
      have hv := ov (by rw [hop]; simp [Op.operands]) hy
      split at hr <;> (try (cases hr; done))
      all_goals
        simp only [Option.some.injEq, Prod.mk.injEq] at hr; obtain ⟨rfl, rfl, rfl⟩ := hr
        refine ⟨σ, a.eval x, w, .inl ?_, Did.same S aid hv⟩
        rw [V] at hv
      · obtain ⟨s, _, e⟩ := hv; simp [execOp, hop, e]
      · obtain ⟨s, _, e⟩ := hv; simp [execOp, hop, e]
      · obtain ⟨b, q, e, _⟩ := hv; simp [execOp, hop, e]
      · simp [execOp, hop, hv]
      · obtain ⟨p, q, e, _⟩ := hv; simp [execOp, hop, e]
      · obtain ⟨q, e, _⟩ := hv; simp [execOp, hop, e]
    · cases hr
  case binOp op t x y yt =>
    split at hr
    · rename_i xa ya hxa hya
      split at hr
      · rename_i z hz
        refine pure1 (s := do eqGuard op t x y (a.eval x) (a.eval y); binOp op t (a.eval x) (a.eval y)) hr (by simp [execOp, hop]) ?_
        exact binA_sound hty (ov (by rw [hop]; simp [Op.operands]) hxa) (ov (by rw [hop]; simp [Op.operands]) hya) hz
      · cases hr
    · cases hr
  case unOp op t x =>
    split at hr
    · rename_i xa hxa
      split at hr
      · rename_i z hz
        exact pure1 (s := Op.unary op (a.eval x)) hr (by simp [execOp, hop]) (unA_sound (ov (by rw [hop]; simp [Op.operands]) hxa) hz)
      · cases hr
    · cases hr
  case convert src dst x =>
    split at hr
    · rename_i xa hxa
      exact full (s := convert src dst (a.eval x)) (by simp [execOp, hop]) (convA_sound hty S hs (ov (by rw [hop]; simp [Op.operands]) hxa) hr)
    · cases hr
  case makeInterface t x =>
    split at hr
    · rename_i i xa hi hxa
      split at hr
      · cases hr
      · rename_i hd
        refine pure1 (s := Instr.makeInterface t (a.eval x)) hr (by simp [execOp, hop]) ⟨.iface t (a.eval x), ?_, by rw [V]; exact ⟨_, rfl, ov (by rw [hop]; simp [Op.operands]) hxa⟩⟩
        have hu := (hty _ _ hi).run_und (w := w)
        simp only [Instr.makeInterface, Sem.run_bind, hu, Result.andThen_ok]
        generalize i.desc = d at hd
        cases d <;> first | rfl | exact absurd rfl (hd _)
    · cases hr
  case makeFunc fn first captured =>
    split at hr
    · rename_i l1 l2 h1 h2
      refine pure1 (s := Instr.makeFunc fn (first.map a.eval) (captured.map a.eval)) hr (by simp [execOp, hop]) ⟨.func fn (first.map a.eval) (captured.map a.eval), rfl, ?_⟩
      rw [V]; exact ⟨_, _, rfl, by simpa using mapO_opnd (σ := σ) (w := w) (O := own F σ h) (fr := fr) (a := a) (by rw [hop] at hf; exact fun y hy => hf y (by simp [Op.operands] at hy ⊢; simp [hy])) h1, by simpa using mapO_opnd (σ := σ) (w := w) (O := own F σ h) (fr := fr) (a := a) (by rw [hop] at hf; exact fun y hy => hf y (by simp [Op.operands] at hy ⊢; simp [hy])) h2⟩
    · cases hr
  case makeSlice t x y =>
    split at hr
    · rename_i i k1 n k2 m hi hx hy
      split at hr
      · rename_i e hd
        split at hr
        · rename_i ei he
          split at hr
          · rename_i z hz
            rw [cond_eq_ite] at hr
            split at hr
            · rename_i hc
              simp only [Bool.and_eq_true, intLe_eq, decide_eq_true_eq, Nat.ble_eq] at hc
              simp only [Option.some.injEq, Prod.mk.injEq] at hr; obtain ⟨rfl, rfl, rfl⟩ := hr
              have ex := ov (by rw [hop]; simp [Op.operands]) hx; have ey := ov (by rw [hop]; simp [Op.operands]) hy
              rw [V] at ex ey
              refine full (s := Instr.makeSlice t (a.eval x) (a.eval y)) (by simp [execOp, hop]) ?_
              rw [ex, ey]
              exact makeSlice_sound S hs (by rw [(hty _ _ hi).und, hd]) (hty _ _ he) hz hc.2 hc.1.1.1 hc.1.1.2 hc.1.2
            · cases hr
          · cases hr
        · cases hr
      · cases hr
    · cases hr
  case slice t x lo hi mx =>
    rw [cond_eq_ite] at hr
    split at hr
    · cases hr
    · rename_i hmh
      split at hr
      · rename_i xa l u m hxa hlo hhi hmx
        split at hr
        · rename_i l' u' m' h1 h2 h3
          have b1 := bound_of (σ := σ) (w := w) (O := own F σ h) (a := a) (by rw [hop] at hf; exact fun y hy => hf y (by simp [Op.operands] at hy ⊢; simp [hy])) hlo h1
          have b2 := bound_of (σ := σ) (w := w) (O := own F σ h) (a := a) (by rw [hop] at hf; exact fun y hy => hf y (by simp [Op.operands] at hy ⊢; simp [hy])) hhi h2
          have b3 := bound_of (σ := σ) (w := w) (O := own F σ h) (a := a) (by rw [hop] at hf; exact fun y hy => hf y (by simp [Op.operands] at hy ⊢; simp [hy])) hmx h3
          have hh : m'.isSome = true → u'.isSome = true := by
            intro hm
            have e1 : mx.isSome = true := by
              cases mx with
              | none => simp only [optO, Option.some.injEq] at hmx; subst hmx; simp only [toNatO, Option.some.injEq] at h3; subst h3; cases hm
              | some _ => rfl
            have e2 : hi.isSome = true := by
              cases hi with
              | none => simp [e1] at hmh
              | some _ => rfl
            cases hi with
            | none => cases e2
            | some hi =>
              cases u' with
              | none => exact b2.elim
              | some _ => rfl
          refine full (s := Instr.sliceAt t (a.eval x) (lo.map a.eval) (hi.map a.eval) (mx.map a.eval)) (by simp [execOp, hop]) ?_
          by_cases hp : ∃ id, xa = .ptr id 0
          · obtain ⟨id, rfl⟩ := hp
            exact arr_slice hty S hs ha (ov (by rw [hop]; simp [Op.operands]) hxa) b1 b2 b3 hh hr
          · obtain ⟨⟨val, r1, r2⟩, r3, r4⟩ := sliceA_sound hty S (ov (by rw [hop]; simp [Op.operands]) hxa) b1 b2 b3 hh hr (fun id e => hp ⟨id, e⟩)
            subst r3 r4
            exact ⟨σ, val, w, r1, Did.same S aid r2⟩
        · cases hr
      · cases hr
  case fieldAddr s x f =>
    split at hr
    · rename_i xa hxa
      split at hr
      · rename_i z hz
        exact pure1 (s := Instr.fieldAt s (a.eval x) f) hr (by simp [execOp, hop]) (fieldAddrA_sound hty (ov (by rw [hop]; simp [Op.operands]) hxa) hz)
      · cases hr
    · cases hr
  case field t x f =>
    split at hr
    · rename_i xa hxa
      split at hr
      · rename_i z hz
        exact pure1 (s := Instr.field t (a.eval x) f) hr (by simp [execOp, hop]) (fieldA_sound hty (ov (by rw [hop]; simp [Op.operands]) hxa) hz)
      · cases hr
    · cases hr
  case indexAddr t x ix =>
    split at hr
    · rename_i xa k n hxa hix
      split at hr
      · rename_i z hz
        have ei := ov (by rw [hop]; simp [Op.operands]) hix
        rw [V] at ei
        exact pure1 (s := Instr.indexAt t (a.eval x) (a.eval ix)) hr (by simp [execOp, hop]) (by rw [ei]; exact indexAddrA_sound hty S (ov (by rw [hop]; simp [Op.operands]) hxa) hz)
      · cases hr
    · cases hr
  case index t x ix =>
    split at hr
    · rename_i xa k n hxa hix
      split at hr
      · rename_i z hz
        have ei := ov (by rw [hop]; simp [Op.operands]) hix
        rw [V] at ei
        exact pure1 (s := Instr.index t (a.eval x) (a.eval ix)) hr (by simp [execOp, hop]) (by rw [ei]; exact indexA_sound hty (ov (by rw [hop]; simp [Op.operands]) hxa) hz)
      · cases hr
    · cases hr
  case range t x =>
    split at hr
    · rename_i i s hi hxa
      split at hr
      · rename_i hd
        simp only [Option.some.injEq, Prod.mk.injEq] at hr; obtain ⟨rfl, rfl, rfl⟩ := hr
        exact full (s := Instr.range t (a.eval x)) (by simp [execOp, hop]) (range_sound S hs (hty _ _ hi) hd (ov (by rw [hop]; simp [Op.operands]) hxa))
      · cases hr
    · cases hr
  case next it isStr =>
    split at hr
    · rename_i id hit
      split at hr
      · rename_i s pos ho
        rw [cond_eq_ite] at hr
        split at hr
        · rename_i hb
          subst hb
          have hn := next_sound (P := P) S ho (ov (by rw [hop]; simp [Op.operands]) hit) o.type aid
          rw [cond_eq_ite] at hr
          split at hr
          · rename_i hlt
            rw [if_pos (by simpa [Nat.blt_eq] using hlt)] at hn
            obtain ⟨w', r1, r2, r3⟩ := hn
            simp only [Option.some.injEq, Prod.mk.injEq] at hr; obtain ⟨rfl, rfl, rfl⟩ := hr
            refine full (s := Instr.next (a.eval it) true o.type) (by simp [execOp, hop]) ⟨σ, _, w', r1, r2, r3, ?_⟩
            rw [V]; exact ⟨_, rfl, by
              rw [VL]; refine ⟨_, _, rfl, by simp, by rw [V], ?_⟩
              rw [VL]; refine ⟨_, _, rfl, by simp, by rw [V], ?_⟩
              rw [VL]; refine ⟨_, _, rfl, by simp, by rw [V], by rw [VL]⟩⟩
          · rename_i hlt
            rw [if_neg (by simpa [Nat.blt_eq] using hlt)] at hn
            exact pure1 (s := Instr.next (a.eval it) true o.type) hr (by simp [execOp, hop]) ⟨_, hn, by
              rw [V]; exact ⟨_, rfl, by rw [VL]; exact ⟨_, _, rfl, by simp, by rw [V], by rw [VL]⟩⟩⟩
        · cases hr
      · cases hr
    · cases hr
  case extract t ix =>
    split at hr
    · rename_i vs hvs
      split at hr
      · rename_i z hz
        have et := ov (by rw [hop]; simp [Op.operands]) hvs
        rw [V] at et; obtain ⟨arr, e1, e2⟩ := et
        obtain ⟨u, g1, g2, _⟩ := VL_get e2 ix z hz
        have g1' : arr[ix]? = some u := by simpa using g1
        exact pure1 (s := Instr.extract (a.eval t) ix) hr (by simp [execOp, hop]) ⟨u, by rw [e1]; simp [Instr.extract, g1'], g2⟩
      · cases hr
    · cases hr
  case call c =>
    split at hr
    · rename_i b hb
      split at hr
      · rename_i args hargs
        have hv := mapO_opnd (σ := σ) (w := w) (O := own F σ h) (fr := fr) (a := a) (by rw [hop] at hf; exact fun y hy => hf y (by simp [Op.operands, Call.operands] at hy ⊢; simp [hy])) hargs
        obtain ⟨σ', val, w', r1, r2⟩ := builtinA_sound (P := P) (ty := o.type) (consts := c.args.map fun | .const _ => true | _ => false) hty S hs ha hv hr
        refine ⟨σ', val, w', .inl ?_, r2⟩
        have e1 : (c.args.toList.map a.eval).toArray = c.args.map a.eval := Array.ext' (by simp)
        have e0 : c.argTypes.toList.toArray = c.argTypes := by simp
        rw [e1, e0] at r1
        simp only [execOp, hop, Go.resolve, hb, Sem.run_bind, Sem.run_pure, Result.andThen_ok, invoke]
        exact r1
      · cases hr
    · cases hr

end
end Go.AE
end

section
/- Values without memory of the call's own: what they stand for hangs on nobody's numbers; slices that are lent. -/
namespace Go.AE
variable {F : Nat → Prop}
section
variable {σ σ2 : Sg} {O O2 : Nat → Prop} {w : World}

mutual
theorem V.less (h : ∀ b, O2 b → O b) : ∀ (a : AV) (v : Value), a.free = true → V σ O w a v → V σ2 O2 w a v
  | .bool _, _, _, hv | .int .., _, _, hv | .str _, _, _, hv | .float .., _, _, hv | .complex .., _, _, hv | .nilp, _, _, hv | .nils, _, _, hv
  | .nilf, _, _, hv | .nilm, _, _, hv | .nili, _, _, hv | .gptr .., _, _, hv => by simpa only [V] using hv
  | .ptr .., _, hf, _ => by simp [AV.free] at hf
  | .vptr .., _, hf, _ => by simp [AV.free] at hf
  | .map .., _, hf, _ => by simp [AV.free] at hf
  | .vec .., _, hf, _ => by simp [AV.free] at hf
  | .eptr cs off, _, _, hv => by
    simp only [V] at hv ⊢; obtain ⟨b, o, e, hb, hlt, hfr, hm⟩ := hv
    exact ⟨b, o, e, fun ho => hb (h b ho), hlt, hfr, MC.less h _ _ _ hfr hm⟩
  | .list es tight, _, _, hv => by
    simp only [V] at hv ⊢; obtain ⟨a, cap, e, h1, h2, hfr, hm⟩ := hv
    refine ⟨a, cap, e, h1, h2, hfr, ?_⟩
    rcases hm with hm | ⟨b, o, sh, e, hb, hlt, hm⟩
    · exact .inl hm
    · exact .inr ⟨b, o, sh, e, fun ho => hb (h b ho), hlt, ME.less h _ _ _ _ hfr hm⟩
  | .agg cs, _, hf, hv => by rw [AV.free] at hf; simp only [V] at hv ⊢; obtain ⟨a, e, hm⟩ := hv; exact ⟨a, e, VL.less h _ _ _ hf hm⟩
  | .tuple cs, _, hf, hv => by rw [AV.free] at hf; simp only [V] at hv ⊢; obtain ⟨a, e, hm⟩ := hv; exact ⟨a, e, VL.less h _ _ _ hf hm⟩
  | .func fn f c, _, hf, hv => by
    rw [AV.free, Bool.and_eq_true] at hf
    simp only [V] at hv ⊢; obtain ⟨a, b, e, h1, h2⟩ := hv; exact ⟨a, b, e, VL.less h _ _ _ hf.1 h1, VL.less h _ _ _ hf.2 h2⟩
  | .iface t x, _, hf, hv => by rw [AV.free] at hf; simp only [V] at hv ⊢; obtain ⟨y, e, h1⟩ := hv; exact ⟨y, e, V.less h _ _ hf h1⟩
  termination_by a => (SizeOf.sizeOf a, 0)
theorem VL.less (h : ∀ b, O2 b → O b) : ∀ (b : Bool) (l : List AV) (m : List Value), AV.freeL l = true → VL σ O w b l m → VL σ2 O2 w b l m
  | _, [], _, _, hv => by simpa only [VL] using hv
  | b, x :: xs, _, hf, hv => by
    rw [AV.freeL, Bool.and_eq_true] at hf
    simp only [VL] at hv ⊢; obtain ⟨v, l', e, h0, h1, h2⟩ := hv; exact ⟨v, l', e, h0, V.less h _ _ hf.1 h1, VL.less h _ _ _ hf.2 h2⟩
  termination_by _ l => (SizeOf.sizeOf l, 0)
theorem MC.less (h : ∀ b, O2 b → O b) : ∀ (l : List AV) (b o : Nat), AV.freeL l = true → MC σ O w l b o → MC σ2 O2 w l b o
  | [], _, _, _, _ => by simp only [MC]
  | x :: xs, b', o, hf, hv => by
    rw [AV.freeL, Bool.and_eq_true] at hf
    simp only [MC] at hv ⊢; obtain ⟨⟨v, hc, h0, h1⟩, h2⟩ := hv
    exact ⟨⟨v, hc, h0, V.less h _ _ hf.1 h1⟩, MC.less h _ _ _ hf.2 h2⟩
  termination_by l => (SizeOf.sizeOf l, 0)
theorem ME.less (h : ∀ b, O2 b → O b) : ∀ (sh : Nat × Bool) (l : List AV) (b o : Nat), AV.freeL l = true → ME σ O w sh l b o → ME σ2 O2 w sh l b o
  | _, [], _, _, _, _ => by simp only [ME]
  | sh, e :: xs, b, o, hf, hv => by
    rw [AV.freeL, Bool.and_eq_true] at hf
    simp only [ME] at hv ⊢; obtain ⟨h0, h1, h2⟩ := hv
    exact ⟨h0, VE.less h _ _ _ hf.1 h1, ME.less h _ _ _ _ hf.2 h2⟩
  termination_by _ l => (SizeOf.sizeOf l, 0)
theorem VE.less (h : ∀ b, O2 b → O b) : ∀ (e : AV) (b o : Nat), e.free = true → VE σ O w e b o → VE σ2 O2 w e b o := by
  intro e b o hf hv
  by_cases hag : e.isAgg = true
  · have hlt := AV.cells_lt hag
    have hm : MC σ O w e.cells b o := by rw [VE, dif_pos hag] at hv; exact hv
    have := MC.less h e.cells b o (freeL_cells hf) hm
    rw [VE, dif_pos hag]; exact this
  · have hm : ∃ v, w.cell? ⟨b, o, none⟩ = some v ∧ e.oneCell = true ∧ V σ O w e v := by rw [VE, dif_neg hag] at hv; exact hv
    obtain ⟨v, hc, h0, h1⟩ := hm
    have := V.less h e v hf h1
    rw [VE, dif_neg hag]; exact ⟨v, hc, h0, this⟩
  termination_by e => (SizeOf.sizeOf e, 1)
  decreasing_by
  · exact Prod.Lex.left _ _ hlt
  · exact Prod.Lex.right _ (by omega)
end
end

section
variable {E : Env} {σ : Sg} {w : World}
def noSg : Sg := fun _ => none
def noOwn : Nat → Prop := fun _ => False

/-- What resolving a value keeps of its form. -/
theorem resolve_form : ∀ (n : Nat) (h : Heap), (∀ (x y : AV), resolve n h x = some y → y.free = true ∧ shape y = shape x ∧ y.oneCell = x.oneCell) ∧
    (∀ (xs ys : List AV), resolveL n h xs = some ys → AV.freeL ys = true ∧ ys.length = xs.length) := by
  intro n h
  induction n with
  | zero => exact ⟨fun x y hr => by simp [resolve] at hr, fun xs ys hr => by simp [resolveL] at hr⟩
  | succ n ih =>
    refine ⟨fun x y hr => ?_, fun xs ys hr => ?_⟩
    · cases x with
      | vec id off len lim =>
        simp only [resolve] at hr
        split at hr
        · rw [cond_eq_ite] at hr
          split at hr
          · split at hr
            · rename_i l hl
              obtain rfl := Option.some.inj hr
              exact ⟨by rw [AV.free] <;> simp, rfl, rfl⟩
            · cases hr
          · cases hr
        · cases hr
      | agg cs =>
        simp only [resolve] at hr
        split at hr
        · rename_i l hl
          obtain rfl := Option.some.inj hr
          obtain ⟨h1, h2⟩ := ih.2 _ _ hl
          exact ⟨by rw [AV.free]; exact h1, by simp [shape, h2], rfl⟩
        · cases hr
      | _ => simp only [resolve, reduceCtorEq, Option.some.injEq] at hr <;> (subst hr; exact ⟨by rw [AV.free] <;> simp, rfl, rfl⟩)
    · cases xs with
      | nil => simp only [resolveL, Option.some.injEq] at hr; subst hr; exact ⟨by rw [AV.freeL], rfl⟩
      | cons x xs =>
        simp only [resolveL] at hr
        split at hr
        · rename_i y hy
          split at hr
          · rename_i ys' hys
            obtain rfl := Option.some.inj hr
            obtain ⟨h1, h2⟩ := ih.2 _ _ hys
            exact ⟨by rw [AV.freeL, (ih.1 _ _ hy).1, h1]; rfl, by simp [h2]⟩
          · cases hr
        · cases hr

theorem resolveL_get : ∀ {n : Nat} {h : Heap} {xs ys : List AV}, resolveL n h xs = some ys → ∀ (j : Nat) x, xs[j]? = some x → ∃ y m, ys[j]? = some y ∧ m < n ∧ resolve m h x = some y
  | 0, _, _, _, hr, _, _, _ => by simp [resolveL] at hr
  | n + 1, h, [], ys, hr, j, x, hj => by simp at hj
  | n + 1, h, z :: xs, ys, hr, j, x, hj => by
    simp only [resolveL] at hr
    split at hr
    · rename_i y hy
      split at hr
      · rename_i ys' hys
        obtain rfl := Option.some.inj hr
        cases j with
        | zero => simp at hj; subst hj; exact ⟨y, n, by simp, by omega, hy⟩
        | succ j =>
          obtain ⟨y', m, h1, h2, h3⟩ := resolveL_get hys j x (by simpa using hj)
          exact ⟨y', m, by simpa using h1, by omega, h3⟩
      · cases hr
    · cases hr

/-- Resolved elements, in the memory that their originals lie in. -/
theorem ME_resolved {sh : Nat × Bool} {b : Nat} : ∀ {es fs : List AV} {o : Nat}, fs.length = es.length → (∀ e ∈ es, shape e = sh) →
    (∀ (j : Nat) e f, es[j]? = some e → fs[j]? = some f → shape f = shape e ∧ VE noSg noOwn w f b (o + j * sh.1)) → ME noSg noOwn w sh fs b o := by
  intro es fs o hl hs hh
  refine ME_of fun i f hi => ?_
  have hlt : i < es.length := by rw [← hl]; exact (List.getElem?_eq_some_iff.1 hi).1
  obtain ⟨h1, h2⟩ := hh i es[i] f (List.getElem?_eq_getElem hlt) hi
  exact ⟨by rw [h1, hs _ (List.getElem_mem hlt)], h2⟩

theorem resolve_sound {h : Heap} (S : Sim E F σ h w) : ∀ (n : Nat), (∀ (x y : AV) (v : Value), resolve n h x = some y → V σ (own F σ h) w x v → V noSg noOwn w y v) ∧
    (∀ (b : Bool) (xs ys : List AV) (vs : List Value), resolveL n h xs = some ys → VL σ (own F σ h) w b xs vs → VL noSg noOwn w b ys vs) := by
  intro n
  induction n using Nat.strongRecOn with
  | _ n ih =>
  cases n with
  | zero => exact ⟨fun x y v hr => by simp [resolve] at hr, fun b xs ys vs hr => by simp [resolveL] at hr⟩
  | succ n =>
    refine ⟨fun x y v hr hv => ?_, fun b xs ys vs hr hv => ?_⟩
    · have plain : ∀ z : AV, z.free = true → V σ (own F σ h) w z v → V noSg noOwn w z v := fun z hf hz => V.less (fun _ hb => hb.elim) z v hf hz
      cases x with
      | vec id off len lim =>
        simp only [resolve] at hr
        split at hr
        · rename_i w' ag es ti ro al et ho
          rw [cond_eq_ite] at hr
          split at hr
          · rename_i hle
            have hle := Nat.le_of_ble_eq_true hle
            split at hr
            · rename_i l hl
              obtain rfl := Option.some.inj hr
              obtain ⟨q', hq', hrel⟩ := S.obj id _ ho
              rw [V] at hv; obtain ⟨q, cap, a, hq, rfl, k1, k2, k3, k4, k5⟩ := hv
              obtain rfl := Option.some.inj (hq.symm.trans hq')
              have hlt := hrel.lt
              obtain ⟨h1, h2, h3, h4, h5, arr, el, fz, h6, h7, h8, h9⟩ := (show _ from hrel)
              obtain ⟨f1, f2⟩ := (resolve_form n h).2 _ _ hl
              have hlen : l.length = len := by rw [f2]; simp; omega
              rw [V]
              refine ⟨some a, cap, by rw [hlen], by omega, ?_, f1, ?_⟩
              · intro ht
                cases lim with
                | none => cases ht
                | some c => rw [hlen, k3 c rfl]; exact Nat.eq_of_beq_eq_true ht
              · by_cases h0 : len = 0
                · left; exact List.length_eq_zero_iff.1 (by omega)
                · right
                  have haddr : a = ⟨q.block, q.base + off * q.width, none⟩ := k5.resolve_left (by omega)
                  subst haddr
                  refine ⟨q.block, q.base + off * q.width, (w', ag), rfl, fun h => h.elim, hlt, ?_⟩
                  refine ME_resolved (es := (es.drop off).take len) f2 (fun e he => h3 e (List.mem_of_mem_drop (List.mem_of_mem_take he))) fun j e f hj hfj => ?_
                  obtain ⟨y, m, g1, g2, g3⟩ := resolveL_get hl j e hj
                  obtain rfl := Option.some.inj (g1.symm.trans hfj)
                  obtain ⟨i1, i2, i3⟩ := (resolve_form m h).1 _ _ g3
                  refine ⟨i2, ?_⟩
                  have hj2 : es[off + j]? = some e := by
                    rw [List.getElem?_take] at hj
                    split at hj
                    · rwa [List.getElem?_drop] at hj
                    · cases hj
                  have hkn := vec_kn hrel hj2
                  rw [show q.base + (off + j) * w' = q.base + off * q.width + j * w' from by rw [h1, Nat.add_mul]; omega] at hkn
                  -- the element's cells, resolved
                  have hcells : KN noSg noOwn w y.cells q.block (q.base + off * q.width + j * w') := by
                    cases e with
                    | agg cs =>
                      cases m with
                      | zero => simp [resolve] at g3
                      | succ m =>
                        simp only [resolve] at g3
                        split at g3
                        · rename_i l2 hl2
                          obtain rfl := Option.some.inj g3
                          intro k c hk
                          have hk2 : ∃ c0, cs[k]? = some c0 := by
                            have : k < cs.length := by rw [← ((resolve_form m h).2 _ _ hl2).2]; exact (List.getElem?_eq_some_iff.1 hk).1
                            exact ⟨_, List.getElem?_eq_getElem this⟩
                          obtain ⟨c0, hc0⟩ := hk2
                          obtain ⟨c1, m2, g4, g5, g6⟩ := resolveL_get hl2 k c0 hc0
                          obtain rfl := Option.some.inj (g4.symm.trans hk)
                          obtain ⟨v, g7, g8, g9⟩ := hkn k c0 hc0
                          exact ⟨v, g7, by rw [((resolve_form m2 h).1 _ _ g6).2.2]; exact g8, (ih m2 (by omega)).1 _ _ _ g6 g9⟩
                        · cases g3
                    | _ =>
                      obtain ⟨v, g7, g8, g9⟩ := hkn 0 _ rfl
                      have hy1 : y.oneCell = true := by rw [i3]; exact g8
                      have hyc : y.cells = [y] := by cases y <;> first | rfl | cases hy1
                      rw [hyc]
                      intro k c hk
                      cases k with
                      | zero => simp at hk; subst hk; exact ⟨v, g7, hy1, (ih m (by omega)).1 _ _ _ g3 g9⟩
                      | succ k => simp at hk
                  exact VE_of_cells hcells
            · cases hr
          · cases hr
        · cases hr
      | agg cs =>
        simp only [resolve] at hr
        split at hr
        · rename_i l hl
          obtain rfl := Option.some.inj hr
          rw [V] at hv ⊢
          obtain ⟨a, rfl, hm⟩ := hv
          exact ⟨a, rfl, (ih n (by omega)).2 _ _ _ _ hl hm⟩
        · cases hr
      | _ => simp only [resolve, reduceCtorEq, Option.some.injEq] at hr <;> (subst hr; exact plain _ (by rw [AV.free] <;> simp) hv)
    · cases xs with
      | nil =>
        simp only [resolveL, Option.some.injEq] at hr; subst hr
        rw [VL] at hv ⊢; exact hv
      | cons x xs =>
        simp only [resolveL] at hr
        split at hr
        · rename_i y hy
          split at hr
          · rename_i ys' hys
            obtain rfl := Option.some.inj hr
            rw [VL] at hv ⊢
            obtain ⟨v, l', rfl, h2, h3, h4⟩ := hv
            exact ⟨v, l', rfl, fun hb => by rw [((resolve_form n h).1 _ _ hy).2.2]; exact h2 hb, (ih n (by omega)).1 _ _ _ hy h3, (ih n (by omega)).2 _ _ _ _ hys h4⟩
          · cases hr
        · cases hr
end
end Go.AE
end

section
/- Calls and code: what is known of states. -/
namespace Go.AE
variable {F : Nat → Prop}

/-- The listed package-level variables hold what the table says. -/
def GlobOk (E : Env) (O : Nat → Prop) (w : World) : Prop := ∀ g cs, E.glob g = some cs → ¬ O g ∧ g < w.heap.size ∧ KN noSg O w cs g 0

/-- Nothing that was there has turned. -/
structure Same0 (w w' : World) : Prop where
  size : w.heap.size ≤ w'.heap.size
  block : ∀ b, b < w.heap.size → w'.heap[b]? = w.heap[b]?
  os : w'.os = w.os
  tape : w'.tape = w.tape
  output : w'.output = w.output

/-- A function that answers so, wherever it is called with these values. -/
def PureC (E : Env) (P : Program) (g : Nat) (args : List AV) (r : AV) : Prop :=
  ∀ (O : Nat → Prop) (w : World) (vargs : List Value), GlobOk E O w → (∀ b, O b → b < w.heap.size) → VL noSg O w false args vargs →
    Calls P g vargs.toArray w fun e w' => ∃ v, e = .returned v ∧ V noSg O w' r v ∧ Same0 w w'

def fnOk (f : Func) : Bool :=
  Nat.blt f.ntmps 1048575 && (match f.body with | some c => codeOk f.ntmps c | none => true)

/-- A function without a text answers so, and does nothing. -/
def ExtOk (P : Program) (g : Nat) (args : List AV) (r : AV) : Prop :=
  ∀ (σ : Sg) (O : Nat → Prop) (w : World) (vargs : List Value), VL σ O w false args vargs → ∃ v, (callFunc g vargs.toArray).run P w = .ok (.value v) w ∧ V σ O w r v

def HasText (P : Program) (g : Nat) : Prop := ∃ fn, P.funcs[g]? = some fn ∧ (fn.name == "runtime.NumGoroutine") = false ∧ fn.body.isSome = true

/-- strings.Builder's look at itself: it lays down where it lies; or it finds that. -/
structure CopyOk (P : Program) (g t : Nat) : Prop where
  text : HasText P g
  first : ∀ (b : Nat) (v : Value) (fz : Nat × Nat) (w : World), w.heap[b]? = some (.cells #[.pointer none, v] t fz) → open_ 2 fz →
    Calls P g #[.pointer (some ⟨b, 0, none⟩)] w fun e w' => e = .returned (.tuple #[]) ∧ w' = w.setCell ⟨b, 0, none⟩ (.pointer (some ⟨b, 0, none⟩))
  again : ∀ (b : Nat) (w : World), w.cell? ⟨b, 0, none⟩ = some (.pointer (some ⟨b, 0, none⟩)) → Calls P g #[.pointer (some ⟨b, 0, none⟩)] w fun e w' => e = .returned (.tuple #[]) ∧ w' = w

/-- sync.Once's Do, the first time. -/
structure OnceOk (P : Program) (g : Nat) : Prop where
  text : HasText P g
  first : ∀ (b off gf : Nat) (A C : Array Value) (w : World) (R : World → Prop), HasText P gf → w.cell? ⟨b, off, none⟩ = some (.int .u32 0) → w.cell? ⟨b, off + 1, none⟩ = some (.int .i32 0) → w.frozen? ⟨b, off, none⟩ = false → w.frozen? ⟨b, off + 1, none⟩ = false →
    Calls P gf (A ++ C) (w.setCell ⟨b, off + 1, none⟩ (.int .i32 1)) (fun e w2 => (∃ v, e = .returned v) ∧ w2.cell? ⟨b, off, none⟩ = some (.int .u32 0) ∧ w2.cell? ⟨b, off + 1, none⟩ = some (.int .i32 1) ∧ w2.frozen? ⟨b, off, none⟩ = false ∧ w2.frozen? ⟨b, off + 1, none⟩ = false ∧
      ∀ d, R { (w2.setCell ⟨b, off, none⟩ (.int .u32 1)).setCell ⟨b, off + 1, none⟩ (.int .i32 0) with drawn := d }) →
    Calls P g #[.pointer (some ⟨b, off, none⟩), .func (.func gf) A C] w fun e w' => e = .returned (.tuple #[]) ∧ R w'

def SpecOk (P : Program) (g : Nat) : Spec → Prop
  | .pure f => ∀ args r, f args = some r → ExtOk P g args r
  | .copy t => CopyOk P g t
  | .once => OnceOk P g

structure EnvOk (E : Env) (P : Program) : Prop where
  mixed : P.follows .mixedOrders = true
  fn : ∀ g f, E.fn g = some f → P.funcs[g]? = some f ∧ (f.name == "runtime.NumGoroutine") = false ∧ fnOk f = true
  ty : ∀ t i, E.ty t = some i → TyOk P t i
  memo : ∀ g m args r, E.memo g = some m → m args = some r → PureC E P g args r
  glob : ∀ g cs, E.glob g = some cs → AV.freeL cs = true
  ext : ∀ g s, E.ext g = some s → SpecOk P g s
  meth : ∀ t name g, E.meth t name = some g → ∀ (a : Addr) (w : World), (Go.method (P.types.size + Made.depth) t (.pointer (some a)) name).run P w = .ok (g, .pointer (some a)) w

/-- The fence of the place: none; a round of a loop, or a function's own code. -/
def GF (r : Option Nat) : Fence := { Fence.wide with round := r }

/-- The deferred calls of a function's own: the marks of loops, each block there and untouched. -/
def DfOk (B : Nat) (O : Nat → Prop) (w : World) (ds : List Deferred) : Prop :=
  ∃ Ds : List Nat, ds = Ds.map (fun D => { target := .collected D, args := #[] }) ∧ Ds.Nodup ∧ ∀ D ∈ Ds, B ≤ D ∧ w.heap[D]? = some (.deferred (some [])) ∧ ¬ O D

theorem DfOk.nil (B : Nat) (O : Nat → Prop) (w : World) : DfOk B O w [] := ⟨[], rfl, List.nodup_nil, fun _ h => by cases h⟩

theorem DfOk.mono {B : Nat} {σ σ' : Sg} {O O' : Nat → Prop} {w w' : World} {ds : List Deferred} (h : DfOk B O w ds) (k : Kept σ O w σ' O' w') : DfOk B O' w' ds := by
  obtain ⟨Ds, h1, h2, h3⟩ := h
  refine ⟨Ds, h1, h2, fun D hD => ?_⟩
  obtain ⟨k1, k2, k3⟩ := h3 D hD
  have hlt : D < w.heap.size := (Array.getElem?_eq_some_iff.1 k2).1
  exact ⟨k1, (k.block D hlt k3).trans k2, fun ho => (k.own D ho).elim k3 (by omega)⟩

/-- A state stands for the model's. -/
structure SR (E : Env) (F : Nat → Prop) (σ : Sg) (n : Nat) (st : St) (a : Act) (w : World) : Prop where
  sim : Sim E F σ st.hp w
  fresh : ∀ id, st.nx ≤ id → σ id = none ∧ st.hp id = none
  fr : FR σ (own F σ st.hp) w n st.fr a.tmps

/-- From one state to the next. -/
structure Tr0 (F : Nat → Prop) (σ : Sg) (h : Heap) (nx : Nat) (w : World) (σ' : Sg) (h' : Heap) (nx' : Nat) (w' : World) (low : Nat) : Prop where
  kept : Kept σ (own F σ h) w σ' (own F σ' h') w'
  os : w'.os = w.os
  tape : w'.tape = w.tape
  output : w'.output = w.output
  nxle : nx ≤ nx'
  still : ∀ id s o, id < nx → σ id = some s → h id = some o → id < low → w'.heap[s.block]? = w.heap[s.block]?
  sg : ∀ id, id < nx → σ' id = σ id
  hp : ∀ id, id < nx → id < low → h' id = h id
  gone : ∀ id, id < nx → h id = none → h' id = none
  fo : ∀ b, F b → w'.heap[b]? = w.heap[b]?

theorem Tr0.refl (σ : Sg) (h : Heap) (nx : Nat) (w : World) (low : Nat) : Tr0 F σ h nx w σ h nx w low :=
  ⟨⟨fun _ _ h => h, Nat.le_refl _, fun _ h => .inl h, fun _ _ _ => rfl⟩, rfl, rfl, rfl, Nat.le_refl _, fun _ _ _ _ _ _ _ => rfl, fun _ _ => rfl, fun _ _ _ => rfl, fun _ _ h => h, fun _ _ => rfl⟩

theorem Tr0.trans {σ1 σ2 σ3 : Sg} {h1 h2 h3 : Heap} {n1 n2 n3 : Nat} {w1 w2 w3 : World} {l1 l2 : Nat} (x : Tr0 F σ1 h1 n1 w1 σ2 h2 n2 w2 l1) (y : Tr0 F σ2 h2 n2 w2 σ3 h3 n3 w3 l2) (hl : l2 ≤ l1) : Tr0 F σ1 h1 n1 w1 σ3 h3 n3 w3 l2 := by
  have hx := x.nxle
  refine ⟨⟨fun id s hid => y.kept.sg _ _ (x.kept.sg _ _ hid), Nat.le_trans x.kept.size y.kept.size, fun b hb => ?_, fun b hb ho => ?_⟩, y.os.trans x.os, y.tape.trans x.tape, y.output.trans x.output, Nat.le_trans x.nxle y.nxle, fun id s o h0 h1' h2' h3' => ?_, fun id hid => (y.sg id (by omega)).trans (x.sg id hid), fun id hid hn => ?_, fun id hid h0 => y.gone id (by omega) (x.gone id hid h0), fun b hb => (y.fo b hb).trans (x.fo b hb)⟩
  · rcases y.kept.own b hb with h | h
    · exact x.kept.own b h
    · exact .inr (Nat.le_trans x.kept.size h)
  · have : ¬ own F σ2 h2 b := fun h => (x.kept.own b h).elim ho (by omega)
    rw [y.kept.block b (Nat.lt_of_lt_of_le hb x.kept.size) this, x.kept.block b hb ho]
  · rw [← x.still id s o h0 h1' h2' (by omega)]
    exact y.still id s o (by omega) (x.kept.sg _ _ h1') (by rw [x.hp id h0 (by omega)]; exact h2') h3'
  · rw [y.hp id (by omega) hn, x.hp id hid (by omega)]

theorem Tr0.low {σ1 σ2 : Sg} {h1 h2 : Heap} {n1 n2 : Nat} {w1 w2 : World} {l1 l2 : Nat} (x : Tr0 F σ1 h1 n1 w1 σ2 h2 n2 w2 l1) (hl : l2 ≤ l1) : Tr0 F σ1 h1 n1 w1 σ2 h2 n2 w2 l2 :=
  ⟨x.kept, x.os, x.tape, x.output, x.nxle, fun id s o a b c d => x.still id s o a b c (by omega), x.sg, fun id a b => x.hp id a (by omega), x.gone, x.fo⟩

theorem lowest_le : ∀ (ts : List Nat) (n : Nat), lowest n ts ≤ n ∧ ∀ t ∈ ts, lowest n ts ≤ t
  | [], n => ⟨Nat.le_refl _, by simp⟩
  | k :: ks, n => by
    obtain ⟨h1, h2⟩ := lowest_le ks (Nat.min n k)
    simp only [lowest]
    refine ⟨Nat.le_trans h1 (Nat.min_le_left _ _), fun t ht => ?_⟩
    rcases List.mem_cons.1 ht with rfl | ht
    · exact Nat.le_trans h1 (Nat.min_le_right _ _)
    · exact h2 t ht

/-- An operation's step, among states. -/
theorem Stp.tr {σ σ' : Sg} {h h' : Heap} {w w' : World} {ts : List Nat} {aid nx low : Nat} (x : Stp F σ h w ts aid σ' h' w') (ha : nx ≤ aid) : Tr0 F σ h nx w σ' h' nx w' (lowest low ts) :=
  ⟨x.kept, x.os, x.tape, x.output, Nat.le_refl _, fun id s o _ h1 h2 h3 => x.still id s o h1 h2 (fun hm => by have := (lowest_le ts low).2 id hm; omega), fun id hid => x.sg id (by omega),
    fun id hid hl => x.hp id (by omega) (fun hm => by have := (lowest_le ts low).2 id hm; omega), fun id hid h0 => x.gone id (by omega) h0, x.fo⟩

def exitOf : AExit → Exit
  | .normal => .normal
  | .exit id => .exit id
  | .goto l => .goto l
  | .ret => .ret

/-- What is asked of the one who runs code. -/
def RecOk (E : Env) (P : Program) (rec : Code → St → Out) : Prop :=
  ∀ c st e st', rec c st = some (e, st') → ∀ (r : Option Nat) (B : Nat) (F : Nat → Prop) (σ : Sg) (n : Nat) (a : Act) (w : World), SR E F σ n st a w → DfOk B (own F σ st.hp) w a.defers → B ≤ w.heap.size → n < 1048575 → codeOk n c = true → (r.isSome = true → noRange c = true) →
    c.wpIn (GF r) 0 P (fun ex a' w' => ex = exitOf e ∧ ∃ σ', SR E F σ' n st' a' w' ∧ DfOk B (own F σ' st'.hp) w' a'.defers ∧ Tr0 F σ st.hp st.nx w σ' st'.hp st'.nx w' st'.low) a w ∧ st'.low ≤ st.low

end Go.AE
end
