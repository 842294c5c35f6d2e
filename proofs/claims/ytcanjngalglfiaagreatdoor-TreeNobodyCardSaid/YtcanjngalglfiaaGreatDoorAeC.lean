/- The evaluator: calls, loops, regions in text order. -/
import Derived.Test.YtcanjngalglfiaaGreatDoorAeB
import Derived.Test.YtcanjngalglfiaaGreatDoorAeA
import Derived.RangeFuncLeaves
import Derived.RangeFuncRecord
import Derived.OrdersIn
import Derived.LoopNIn
section
/- What the evaluator itself does to its heap. -/
namespace Go.AE

/-- Only 'ts' and 'aid' have turned; what was not there is not there. -/
structure HpOk (h h' : Heap) (ts : List Nat) (aid : Nat) : Prop where
  hp : ∀ id, id ≠ aid → id ∉ ts → h' id = h id
  gone : ∀ id, id ≠ aid → h id = none → h' id = none

theorem HpOk.refl (h : Heap) (aid : Nat) : HpOk h h [] aid := ⟨fun _ _ _ => rfl, fun _ _ h => h⟩
theorem HpOk.make (h : Heap) (aid : Nat) (o : Option AObj) : HpOk h (h.set aid o) [] aid :=
  ⟨fun id hid _ => by rw [Heap.set_get, if_neg hid], fun id hid h0 => by rw [Heap.set_get, if_neg hid]; exact h0⟩
theorem HpOk.write {h : Heap} {id : Nat} {o : AObj} (ho : h id = some o) (al : Option Nat) (o' : Option AObj) (aid : Nat) : HpOk h ((kill h al).set id o') (touch id al) aid := by
  refine ⟨fun j _ hj => ?_, fun j _ h0 => ?_⟩
  · have e1 : j ≠ id := fun e => hj (by cases al <;> simp [touch, e])
    have e2 : al ≠ some j := fun e => hj (by rw [e]; simp [touch])
    rw [Heap.set_get, if_neg e1, kill_get, if_neg e2]
  · have e1 : j ≠ id := fun e => by rw [e, ho] at h0; cases h0
    rw [Heap.set_get, if_neg e1, kill_get]; split <;> first | rfl | exact h0
theorem HpOk.write1 {h : Heap} {id : Nat} {o : AObj} (ho : h id = some o) (o' : Option AObj) (aid : Nat) : HpOk h (h.set id o') [id] aid :=
  HpOk.write ho none o' aid
theorem HpOk.then {h h1 : Heap} {ts : List Nat} {aid : Nat} (x : HpOk h h1 ts aid) (o : Option AObj) : HpOk h (h1.set aid o) ts aid :=
  ⟨fun id hid hn => by rw [Heap.set_get, if_neg hid]; exact x.hp id hid hn, fun id hid h0 => by rw [Heap.set_get, if_neg hid]; exact x.gone id hid h0⟩

theorem writeA_hp {h h' : Heap} {i : TI} {v x : AV} {ts : List Nat} (aid : Nat) (hr : writeA h i v x = some (h', ts)) : HpOk h h' ts aid := by
  unfold writeA at hr
  split at hr
  · split at hr
    · rename_i ho
      rw [cond_eq_ite] at hr
      split at hr
      · split at hr
        · cases hr; exact HpOk.write1 ho _ _
        · cases hr
      · cases hr
    · cases hr
  · split at hr
    · rename_i ho
      rw [cond_eq_ite] at hr
      split at hr
      · split at hr
        · split at hr
          · split at hr
            · cases hr; exact HpOk.write ho _ _ _
            · cases hr
          · cases hr
        · cases hr
      · cases hr
    · cases hr
  · cases hr

theorem appendB_hp {h h' : Heap} {i : TI} {s v : AV} {new : List AV} {ts : List Nat} {aid ety : Nat} (hr : appendB h aid ety i s new = some (v, h', ts)) : HpOk h h' ts aid := by
  unfold appendB at hr
  simp only [cond_eq_ite] at hr
  split at hr
  · split at hr
    · cases hr; exact HpOk.make _ _ _
    · split at hr
      · cases hr; exact HpOk.make _ _ _
      · cases hr
    · split at hr
      · rename_i ho
        split at hr
        · split at hr
          · split at hr
            · cases hr; exact HpOk.write ho _ _ _
            · cases hr
          · split at hr
            · cases hr; exact HpOk.make _ _ _
            · split at hr
              · cases hr; exact (HpOk.write ho _ _ _).then _
              · cases hr
        · cases hr
      · cases hr
    · cases hr
  · cases hr

theorem appendA_hp {h h' : Heap} {i : TI} {s v : AV} {new : List AV} {ts : List Nat} {aid ety : Nat} (hr : appendA h aid ety i s new = some (v, h', ts)) : HpOk h h' ts aid := by
  unfold appendA at hr
  split at hr
  · split at hr <;> cases hr <;> exact HpOk.refl _ _
  · exact appendB_hp hr

theorem copyA_hp {h h' : Heap} {i : TI} {d v : AV} {src : List AV} {ts : List Nat} (aid : Nat) (hr : copyA h i d src = some (v, h', ts)) : HpOk h h' ts aid := by
  unfold copyA at hr
  simp only [cond_eq_ite] at hr
  split at hr
  · split at hr
    · rename_i ho
      split at hr
      · cases hr; exact HpOk.write ho _ _ _
      · cases hr
    · cases hr
  · cases hr; exact HpOk.refl _ _
  · cases hr

theorem clearA_hp {h h' : Heap} {i : TI} {z d v : AV} {ts : List Nat} (aid : Nat) (hr : clearA h i z d = some (v, h', ts)) : HpOk h h' ts aid := by
  unfold clearA at hr
  simp only [cond_eq_ite] at hr
  split at hr
  · split at hr
    · rename_i ho
      split at hr
      · cases hr; exact HpOk.write ho _ _ _
      · cases hr
    · cases hr
  · cases hr; exact HpOk.refl _ _
  · cases hr

theorem sliceA_hp {E : Env} {h h' : Heap} {aid t : Nat} {x v : AV} {lo hi mx : Option Nat} {ts : List Nat} (hr : sliceA E h aid t x lo hi mx = some (v, h', ts)) : HpOk h h' ts aid := by
  unfold sliceA at hr
  simp only [cond_eq_ite] at hr
  split at hr
  · split at hr
    · cases hr; exact HpOk.refl _ _
    · cases hr
  · split at hr
    · cases hr; exact HpOk.refl _ _
    · cases hr
  · split at hr
    · split at hr <;> split at hr <;> first | (cases hr; done) | (cases hr; exact HpOk.refl _ _)
    · cases hr
  · split at hr
    · split at hr
      · split at hr <;> split at hr <;> first | (cases hr; done) | (cases hr; exact HpOk.refl _ _)
      · cases hr
    · cases hr
  · split at hr
    · split at hr
      · split at hr
        · rename_i ho
          split at hr
          · cases hr; exact (HpOk.write1 ho _ _).then _
          · cases hr
        · cases hr
      · cases hr
    · cases hr
  · cases hr

theorem convA_hp {E : Env} {h h' : Heap} {aid src dst : Nat} {x v : AV} {ts : List Nat} (hr : convA E h aid src dst x = some (v, h', ts)) : HpOk h h' ts aid := by
  unfold convA at hr
  simp only [cond_eq_ite] at hr
  repeat' split at hr
  all_goals first
    | (cases hr; done)
    | (cases hr; exact HpOk.refl _ _)
    | (cases hr; exact HpOk.make _ _ _)

theorem builtinA_hp {E : Env} {h h' : Heap} {aid : Nat} {b : Builtin} {tys : List Nat} {args : List AV} {v : AV} {ts : List Nat} (hr : builtinA E h aid b tys args = some (v, h', ts)) : HpOk h h' ts aid := by
  unfold builtinA at hr
  simp only [cond_eq_ite] at hr
  repeat' split at hr
  all_goals first
    | (cases hr; done)
    | exact appendA_hp hr
    | exact copyA_hp _ hr
    | exact clearA_hp _ hr
    | (cases hr; exact HpOk.refl _ _)
    | (cases hr; exact HpOk.write (by assumption) _ _ _)

theorem opA_hp {E : Env} {fr : Tr} {h h' : Heap} {aid : Nat} {op : Op} {v : AV} {ts : List Nat} (hr : opA E fr h aid op = some (v, h', ts)) : HpOk h h' ts aid := by
  cases op <;> simp only [opA, cond_eq_ite, reduceCtorEq] at hr
  case store t x y =>
    split at hr
    · split at hr
      · rename_i hw
        cases hr; exact writeA_hp _ hw
      · cases hr
    · cases hr
  all_goals
    repeat' split at hr
    all_goals first
      | (cases hr; done)
      | exact sliceA_hp hr
      | exact convA_hp hr
      | exact builtinA_hp hr
      | (cases hr; exact HpOk.refl _ _)
      | (cases hr; exact HpOk.make _ _ _)
      | (cases hr; exact HpOk.write1 (by assumption) _ _)
end Go.AE
end

section
/- What operations look at, by their classes. -/
set_option linter.unusedSimpArgs false
namespace Go.AE

/-- A new object: not only read, and it shares nobody's block. -/
def fresh (o : AObj) : Prop := isRo o = false ∧ ∀ k, ¬ aliasIs o k

theorem opA_cls0 {E : Env} {fr : Tr} {h h' : Heap} {aid : Nat} {op : Op} {v : AV} {ts : List Nat} (hc : clsOf E op = 0) (hr : opA E fr h aid op = some (v, h', ts)) :
    h' = h ∧ ts = [] ∧ ∀ g, opA E fr g aid op = some (v, g, []) := by
  cases op <;> simp only [clsOf, reduceCtorEq] at hc <;> simp only [opA, cond_eq_ite, reduceCtorEq] at hr ⊢
  case convert src dst x =>
    split at hc
    · rename_i di hdi
      split at hr
      · rename_i a ha
        unfold convA at hr
        split at hc
        · cases hc
        · cases hc
        · rename_i n1 n2
          simp only [hdi, cond_eq_ite] at hr
          split at hr
          · rename_i si di2 hsi e2
            obtain rfl := Option.some.inj e2
            split at hr
            · rename_i e3
              cases hr
              refine ⟨rfl, rfl, fun g => ?_⟩
              unfold convA
              simp [hsi, hdi, e3]
            · exact (n2 (by assumption)).elim
            · exact (n1 _ (by assumption)).elim
            · exact (n2 (by assumption)).elim
            · cases hr
          · cases hr
      · cases hr
    · cases hc
  case slice t x lo hi mx => split at hc <;> first | (cases hc; done) | (split at hc <;> cases hc)
  case call c =>
    split at hc
    all_goals first | (cases hc; done) | skip
    all_goals
      rename_i hcal
      rw [hcal] at hr
      simp only at hr
      split at hr
      · rename_i args hargs
        unfold builtinA at hr
        simp only [cond_eq_ite] at hr
        simp only [hcal, hargs]
        repeat' split at hr
        all_goals first
          | contradiction
          | (cases hr; done)
          | (cases hr; refine ⟨rfl, rfl, fun g => ?_⟩; unfold builtinA; simp_all)
      · cases hr
  all_goals
    repeat' split at hr
    all_goals first
      | (cases hr; done)
      | (cases hr; refine ⟨rfl, rfl, fun g => ?_⟩; simp_all)

theorem idOf_some {x : AV} {id : Nat} (h : idOf x = some id) : (∃ o, x = .ptr id o) ∨ (∃ i o, x = .vptr id i o) ∨ ∃ o l m, x = .vec id o l m := by
  cases x <;> simp only [idOf, Option.some.injEq, reduceCtorEq] at h <;> subst h
  · exact .inl ⟨_, rfl⟩
  · exact .inr (.inl ⟨_, _, rfl⟩)
  · exact .inr (.inr ⟨_, _, _, rfl⟩)

theorem opA_cls2 {E : Env} {fr : Tr} {h h' : Heap} {aid : Nat} {op : Op} {v : AV} {ts : List Nat} (hc : clsOf E op = 2) (hr : opA E fr h aid op = some (v, h', ts)) :
    ts = [] ∧ ∃ o, fresh o ∧ h' = h.set aid (some o) ∧ ∀ g, opA E fr g aid op = some (v, g.set aid (some o), []) := by
  have fb : ∀ cs t, fresh (.box cs t) := fun cs t => ⟨rfl, fun _ h => h⟩
  have fv : ∀ n ag es t et, fresh (.vec n ag es t false none et) := fun n ag es t et => ⟨rfl, fun _ h => h⟩
  have fs : ∀ s p, fresh (.siter s p) := fun s p => ⟨rfl, fun _ h => h⟩
  cases op <;> simp only [clsOf, reduceCtorEq] at hc <;> (try (exact absurd hc (by decide))) <;> simp only [opA, cond_eq_ite, reduceCtorEq] at hr ⊢
  case convert src dst x =>
    split at hc
    · rename_i di hdi
      split at hr
      · rename_i a ha
        unfold convA at hr
        split at hc
        · rename_i e hde
          cases hsi : E.ty src with
          | none => rw [hsi] at hr; cases hr
          | some si =>
            simp only [hsi, hdi, hde, cond_eq_ite] at hr
            cases a <;> simp only [reduceCtorEq] at hr
            split at hr
            · rename_i hb
              cases hr
              refine ⟨rfl, _, fv _ _ _ _ _, rfl, fun g => ?_⟩
              unfold convA
              simp [hsi, hdi, hde, hb]
            · cases hr
        · cases hc
        · cases hc
      · cases hr
    · cases hc
  case slice t x lo hi mx => split at hc <;> first | (cases hc; done) | (split at hc <;> cases hc)
  case call c => split at hc <;> cases hc
  all_goals
    repeat' split at hr
    all_goals first
      | (cases hr; done)
      | (cases hr; refine ⟨rfl, _, by first | exact fb _ _ | exact fv _ _ _ _ _ | exact fs _ _, rfl, fun g => ?_⟩; first | (simp only [*, if_true]; done) | (simp_all; done))

/-- What is found by a value's own number is found there too. -/
def Holds (x : AV) (h g : Heap) : Prop := ∀ id o, idOf x = some id → h id = some o → g id = some o

theorem readA_holds {E : Env} {h g : Heap} {i : TI} {x v : AV} (k : Holds x h g) (hr : readA E h i x = some v) : readA E g i x = some v := by
  unfold readA at hr ⊢
  split at hr
  · split at hr
    · rename_i ho; simp only [k _ _ rfl ho, hr]
    · cases hr
  · split at hr
    · rename_i ho; simp only [k _ _ rfl ho, hr]
    · cases hr
  · exact hr
  · exact hr
  · cases hr

theorem elemsA_holds {h g : Heap} {i : TI} {x : AV} {es : List AV} (k : Holds x h g) (hr : elemsA h i x = some es) : elemsA g i x = some es := by
  unfold elemsA at hr ⊢
  split at hr
  · exact hr
  · exact hr
  · split at hr
    · rename_i ho; simp only [k _ _ rfl ho, hr]
    · cases hr
  · exact hr
  · cases hr

theorem indexAddrA_holds {E : Env} {h g : Heap} {t : Nat} {x v : AV} {n : Int} (k : Holds x h g) (hr : indexAddrA E h t x n = some v) : indexAddrA E g t x n = some v := by
  unfold indexAddrA at hr ⊢
  split at hr
  · rename_i i hi
    split at hr
    · exact hr
    · rename_i hd
      split at hr
      · split at hr
        · rename_i ho; simp only [k _ _ rfl ho, hr]
        · cases hr
      · exact hr
      · cases hr
    · cases hr
  · cases hr

theorem sliceA_holds {E : Env} {h h' g : Heap} {aid t : Nat} {x v : AV} {lo hi mx : Option Nat} {ts : List Nat} (k : Holds x h g)
    (hn : ∀ i, E.ty t = some i → ∀ n e, i.desc ≠ .array n e) (hr : sliceA E h aid t x lo hi mx = some (v, h', ts)) :
    h' = h ∧ ts = [] ∧ sliceA E g aid t x lo hi mx = some (v, g, []) := by
  unfold sliceA at hr ⊢
  simp only [cond_eq_ite] at hr ⊢
  split at hr
  · split at hr
    · rename_i hh; cases hr; exact ⟨rfl, rfl, by simp only [if_pos hh]⟩
    · cases hr
  · split at hr
    · rename_i hh; cases hr; exact ⟨rfl, rfl, by simp only [if_pos hh]⟩
    · cases hr
  · split at hr
    · rename_i h1
      simp only [if_pos h1]
      split at hr <;> split at hr <;> first | (cases hr; done) | (rename_i hh; cases hr; exact ⟨rfl, rfl, by simp only [if_pos hh]⟩)
    · cases hr
  · split at hr
    · rename_i ho
      split at hr
      · rename_i h1
        simp only [k _ _ rfl ho, if_pos h1]
        split at hr <;> split at hr <;> first | (cases hr; done) | (rename_i hh; cases hr; exact ⟨rfl, rfl, by simp only [if_pos hh]⟩)
      · cases hr
    · cases hr
  · split at hr
    · rename_i i hi
      split at hr
      · rename_i hd; exact absurd hd (hn _ hi _ _)
      · cases hr
    · cases hr
  · cases hr

theorem opA_cls1 {E : Env} {fr : Tr} {h h' : Heap} {aid : Nat} {op : Op} {v : AV} {ts : List Nat} (hc : clsOf E op = 1) (hr : opA E fr h aid op = some (v, h', ts)) :
    h' = h ∧ ts = [] ∧ ∀ g : Heap, (∀ id o, ridOf fr op = some id → h id = some o → g id = some o) → opA E fr g aid op = some (v, g, []) := by
  cases op <;> simp only [clsOf, reduceCtorEq] at hc <;> (try (exact absurd hc (by decide))) <;> simp only [opA, cond_eq_ite, reduceCtorEq] at hr ⊢
  case load t x =>
    split at hr
    · rename_i i a hi ha
      split at hr
      · rename_i y hy
        cases hr
        refine ⟨rfl, rfl, fun g hg => ?_⟩
        have : readA E g i a = some v := readA_holds (fun id o e => hg id o (by simp [ridOf, ha, e])) hy
        simp only [hi, ha, this]
      · cases hr
    · cases hr
  case indexAddr t x ix =>
    split at hr
    · rename_i a k n ha hn
      split at hr
      · rename_i y hy
        cases hr
        refine ⟨rfl, rfl, fun g hg => ?_⟩
        have : indexAddrA E g t a n = some v := indexAddrA_holds (fun id o e => hg id o (by simp [ridOf, ha, e])) hy
        simp only [ha, hn, this]
      · cases hr
    · cases hr
  case slice t x lo hi mx =>
    have hn : ∀ i, E.ty t = some i → ∀ n e, i.desc ≠ .array n e := by
      intro i hi n e hd
      rw [hi] at hc; simp only at hc; rw [hd] at hc; cases hc
    split at hr
    · cases hr
    · rename_i h0
      split at hr
      · rename_i a l u m ha h1 h2 h3
        split at hr
        · rename_i l' u' m' e1 e2 e3
          have key : ∀ g : Heap, (∀ id o, ridOf fr (.slice t x lo hi mx) = some id → h id = some o → g id = some o) → h' = h ∧ ts = [] ∧ sliceA E g aid t a l' u' m' = some (v, g, []) := fun g hg =>
            sliceA_holds (fun id o e => hg id o (by simp [ridOf, ha, e])) hn hr
          refine ⟨(key h (fun _ _ _ h => h)).1, (key h (fun _ _ _ h => h)).2.1, fun g hg => ?_⟩
          simp only [if_neg h0, ha, h1, h2, h3, e1, e2, e3, (key g hg).2.2]
        · cases hr
      · cases hr
  case convert src dst x =>
    split at hc
    · rename_i di hdi
      split at hr
      · rename_i a ha
        split at hc
        · cases hc
        · rename_i hds
          unfold convA at hr
          cases hsi : E.ty src with
          | none => rw [hsi] at hr; cases hr
          | some si =>
            simp only [hsi, hdi, hds, cond_eq_ite] at hr
            clear hc
            have key : ∀ g : Heap, (∀ id o, ridOf fr (.convert src dst x) = some id → h id = some o → g id = some o) → h' = h ∧ ts = [] ∧ convA E g aid src dst a = some (v, g, []) := by
              intro g hg
              unfold convA
              simp only [hsi, hdi, hds, cond_eq_ite]
              have gen : ∀ (z : Option AV), z = some a → (match si.desc with
                  | .slice _ => if isByteSlice E src = true then match elemsA h ⟨.int .u8, 1, 1, none⟩ a with
                    | some es => match bytesOf es with
                      | some l => some (AV.str l, h, ([] : List Nat))
                      | none => none
                    | none => none
                    else none
                  | _ => none) = some (v, h', ts) → h' = h ∧ ts = [] ∧ (match si.desc with
                  | .slice _ => if isByteSlice E src = true then match elemsA g ⟨.int .u8, 1, 1, none⟩ a with
                    | some es => match bytesOf es with
                      | some l => some (AV.str l, g, ([] : List Nat))
                      | none => none
                    | none => none
                    else none
                  | _ => none) = some (v, g, []) := by
                intro _ _ hr
                split at hr
                · split at hr
                  · rename_i hb
                    split at hr
                    · rename_i es hes
                      have h2 : elemsA g ⟨.int .u8, 1, 1, none⟩ a = some es := elemsA_holds (fun id o e => hg id o (by simp [ridOf, ha, e])) hes
                      split at hr
                      · rename_i l hl
                        cases hr
                        refine ⟨rfl, rfl, ?_⟩
                        simp only [if_pos hb, h2, hl]
                      · cases hr
                    · cases hr
                  · cases hr
                · cases hr
              cases a <;> first
                | exact gen _ rfl hr
                | (simp only at hr ⊢; cases hr; exact ⟨rfl, rfl, rfl⟩)
            refine ⟨(key h (fun _ _ _ h => h)).1, (key h (fun _ _ _ h => h)).2.1, fun g hg => ?_⟩
            simp only [ha, (key g hg).2.2]
        · cases hc
      · cases hr
    · cases hc
  case call c => split at hc <;> cases hc
end Go.AE
end

section
/- What code does to the evaluator's heap. -/
namespace Go.AE

structure HpX (h : Heap) (nx : Nat) (h' : Heap) (nx' low : Nat) : Prop where
  nxle : nx ≤ nx'
  hp : ∀ id, id < nx → id < low → h' id = h id
  gone : ∀ id, id < nx → h id = none → h' id = none
  fresh : (∀ id, nx ≤ id → h id = none) → ∀ id, nx' ≤ id → h' id = none

theorem HpX.refl (h : Heap) (nx low : Nat) : HpX h nx h nx low := ⟨Nat.le_refl _, fun _ _ _ => rfl, fun _ _ h => h, fun h => h⟩
theorem HpX.trans {h1 h2 h3 : Heap} {n1 n2 n3 l1 l2 : Nat} (x : HpX h1 n1 h2 n2 l1) (y : HpX h2 n2 h3 n3 l2) (hl : l2 ≤ l1) : HpX h1 n1 h3 n3 l2 := by
  have := x.nxle
  exact ⟨Nat.le_trans x.nxle y.nxle, fun id a b => (y.hp id (by omega) b).trans (x.hp id a (by omega)), fun id a b => y.gone id (by omega) (x.gone id a b), fun h => y.fresh (x.fresh h)⟩

def RecSyn (rec : Code → St → Out) : Prop := ∀ c st e st', rec c st = some (e, st') → HpX st.hp st.nx st'.hp st'.nx st'.low ∧ st'.low ≤ st.low

theorem inlineA_hp {E : Env} {rec : Code → St → Out} (hrec : RecSyn rec) {fn : Func} {c : Code} {args : List AV} {h h' : Heap} {nx nx' low : Nat} {v : AV}
    (hr : inlineA E rec fn c args h nx = some (v, h', nx', low)) : HpX h nx h' nx' low := by
  unfold inlineA at hr
  simp only [cond_eq_ite] at hr
  have key : ∀ e st, rec c ⟨Tr.ofList .nil 0 args, h, nx, nx⟩ = some (e, st) →
      (match resultsA E st fn.results.toList with
       | some vs => if (Nat.ble nx st.low && (one vs).free) = true then some (one vs, h, nx, nx) else some (one vs, st.hp, st.nx, st.low)
       | none => none) = some (v, h', nx', low) → HpX h nx h' nx' low := by
    intro e st hst hr
    split at hr
    · split at hr
      · cases hr; exact HpX.refl _ _ _
      · cases hr; exact (hrec _ _ _ _ hst).1
    · cases hr
  split at hr
  · split at hr
    · rename_i hst; exact key _ _ hst hr
    · rename_i hst; exact key _ _ hst hr
    · cases hr
  · cases hr

theorem callA_hp {E : Env} {rec : Code → St → Out} (hrec : RecSyn rec) {g : Nat} {args : List AV} {h h' : Heap} {nx nx' low : Nat} {v : AV}
    (hr : callA E rec g args h nx = some (v, h', nx', low)) : HpX h nx h' nx' low := by
  unfold callA at hr
  split at hr
  · split at hr
    · split at hr
      · split at hr
        · split at hr
          · rw [cond_eq_ite] at hr
            split at hr
            · cases hr; exact HpX.refl _ _ _
            · exact inlineA_hp hrec hr
          · exact inlineA_hp hrec hr
        · exact inlineA_hp hrec hr
      · exact inlineA_hp hrec hr
    · cases hr
  · cases hr

theorem HpX.put {h h1 : Heap} {nx nx1 low id : Nat} (x : HpX h nx h1 nx1 low) (hid : h id ≠ none) (o : AObj) : HpX h nx (h1.set id (some o)) nx1 (Nat.min low id) := by
  refine ⟨x.nxle, fun j a b => ?_, fun j a b => ?_, fun hf j hj => ?_⟩
  · have b1 : j < low := Nat.lt_of_lt_of_le b (Nat.min_le_left _ _)
    have b2 : j < id := Nat.lt_of_lt_of_le b (Nat.min_le_right _ _)
    rw [Heap.set_get, if_neg (by omega)]; exact x.hp j a b1
  · have : j ≠ id := fun e => hid (e ▸ b)
    rw [Heap.set_get, if_neg this]; exact x.gone j a b
  · have : j ≠ id := fun e => by
      rcases Nat.lt_or_ge id nx with h' | h'
      · have := x.nxle; omega
      · exact hid (hf id h')
    rw [Heap.set_get, if_neg this]; exact x.fresh hf j hj

theorem HpX.less {h h1 : Heap} {nx nx1 low l2 : Nat} (x : HpX h nx h1 nx1 low) (hl : l2 ≤ low) : HpX h nx h1 nx1 l2 :=
  ⟨x.nxle, fun id a b => x.hp id a (by omega), x.gone, x.fresh⟩

theorem yieldA_hp {rec : Code → St → Out} (hrec : RecSyn rec) {id : Nat} {args : List AV} {h h' : Heap} {nx nx' low : Nat} {v : AV}
    (hr : yieldA rec id args h nx = some (v, h', nx', low)) : HpX h nx h' nx' low := by
  unfold yieldA at hr
  split at hr
  · rename_i h0
    rw [cond_eq_ite] at hr
    split at hr
    · split at hr
      · rename_i s1 h1
        split at hr
        · rename_i h2
          split at hr
          · rename_i e s2 h3
            split at hr
            · cases hr
              have x1 := (hrec _ _ _ _ h1).1
              have x2 := hrec _ _ _ _ h3
              have hid : h id ≠ none := by rw [h0]; simp
              exact (((x1.put hid _).trans x2.1 x2.2)).put hid _
            · cases hr
          · cases hr
        · cases hr
      · cases hr
    · cases hr
  · cases hr

theorem copyA_hp' {t : Nat} {args : List AV} {h h' : Heap} {nx nx' low : Nat} {v : AV} (hr : copyA_ t args h nx = some (v, h', nx', low)) : HpX h nx h' nx' low := by
  unfold copyA_ at hr
  simp only [cond_eq_ite] at hr
  split at hr
  · split at hr
    · rename_i ho
      split at hr
      · cases hr; exact (HpX.refl _ _ _).put (by rw [ho]; simp) _
      · cases hr
    · split at hr
      · cases hr; exact HpX.refl _ _ _
      · cases hr
    · cases hr
  · cases hr

theorem onceA_hp {E : Env} {rec : Code → St → Out} (hrec : RecSyn rec) {args : List AV} {h h' : Heap} {nx nx' low : Nat} {v : AV} (hr : onceA E rec args h nx = some (v, h', nx', low)) : HpX h nx h' nx' low := by
  unfold onceA at hr
  split at hr
  · split at hr
    · rename_i ho
      split at hr
      · split at hr
        · rename_i hc
          split at hr
          · rename_i ho2
            split at hr
            · cases hr
              have hid := (show h _ ≠ none by rw [ho]; simp)
              have x1 := fun l o => (HpX.refl h nx l).put hid o
              have x2 := callA_hp hrec hc
              have x3 := (x1 _ _).trans (x2.less (Nat.min_le_left _ _)) (Nat.le_refl _)
              exact (x3.put hid _).less (Nat.le_min.2 ⟨Nat.le_refl _, Nat.min_le_right _ _⟩)
            · cases hr
          · cases hr
        · cases hr
      · cases hr
    · cases hr
  · cases hr

theorem specA_hp {E : Env} {rec : Code → St → Out} (hrec : RecSyn rec) {s : Spec} {args : List AV} {h h' : Heap} {nx nx' low : Nat} {v : AV}
    (hr : specA E rec s args h nx = some (v, h', nx', low)) : HpX h nx h' nx' low := by
  unfold specA at hr
  split at hr
  · split at hr
    · cases hr; exact HpX.refl _ _ _
    · cases hr
  · exact copyA_hp' hr
  · exact onceA_hp hrec hr

theorem callC_hp {E : Env} {rec : Code → St → Out} (hrec : RecSyn rec) {c : Cal} {args : List AV} {h h' : Heap} {nx nx' low : Nat} {v : AV}
    (hr : callC E rec c args h nx = some (v, h', nx', low)) : HpX h nx h' nx' low := by
  cases c with
  | fn g =>
    unfold callC at hr
    simp only at hr
    split at hr
    · exact specA_hp hrec hr
    · exact callA_hp hrec hr
  | yld id => exact yieldA_hp hrec hr

theorem call_low {nx low id : Nat} (h : id < lowest nx (bif Nat.ble nx low then [] else [low])) : id < low := by
  rw [cond_eq_ite] at h
  split at h
  · rename_i hle; exact Nat.lt_of_lt_of_le h (Nat.le_of_ble_eq_true hle)
  · exact Nat.lt_of_lt_of_le h ((lowest_le [low] nx).2 low (by simp))
theorem lowest_ge : ∀ (l : List Nat) (n id : Nat), id < n → (∀ t ∈ l, id < t) → id < lowest n l
  | [], n, id, h, _ => h
  | k :: l, n, id, h, hh => by
    rw [lowest]
    exact lowest_ge l _ id (Nat.lt_min.2 ⟨h, hh k (by simp)⟩) fun t ht => hh t (by simp [ht])
theorem low_of {l : List Nat} {n low id : Nat} (h : id < n) (hl : id < lowest low l) : id < lowest n l :=
  lowest_ge l n id h fun t ht => Nat.lt_of_lt_of_le hl ((lowest_le l low).2 t ht)

/-- One operation of a region. -/
structure HpA (h : Heap) (nx aid : Nat) (h' : Heap) (nx' lo : Nat) : Prop where
  nxle : nx ≤ nx'
  hp : ∀ id, id < nx → id ≠ aid → id < lo → h' id = h id
  gone : ∀ id, id < nx → id ≠ aid → h id = none → h' id = none
  fresh : aid < nx → (∀ id, nx ≤ id → h id = none) → ∀ id, nx' ≤ id → h' id = none

theorem opV_hp {E : Env} {rec : Code → St → Out} (hrec : RecSyn rec) {fr : Tr} {h h' : Heap} {nx aid nx' : Nat} {los : List Nat} {op : Op} {v : AV} {r : Rec}
    (hr : opV E rec fr h nx aid op = some (v, h', nx', los, r)) : HpA h nx aid h' nx' (lowest nx los) := by
  unfold opV at hr
  split at hr
  · split at hr
    · split at hr
      · rename_i hc
        cases hr
        have := callC_hp hrec hc
        exact ⟨this.nxle, fun id a _ b => this.hp id a (call_low b), fun id a _ b => this.gone id a b, fun _ b => this.fresh b⟩
      · cases hr
    · cases hr
  · split at hr
    · rename_i ts ho
      cases hr
      have := opA_hp ho
      exact ⟨Nat.le_refl _, fun id _ b c => this.hp id b (fun hm => absurd c (Nat.not_lt.2 ((lowest_le _ nx).2 id hm))), fun id _ b c => this.gone id b c,
        fun a b id c => this.gone id (by omega) (b id c)⟩
    · cases hr

theorem stepOp_hp {E : Env} {rec : Code → St → Out} (hrec : RecSyn rec) {ops : Array Oper} {base i : Nat} {o : Oper} {st st' : St} {r : Rec}
    (hr : stepOp E rec ops base i o st = some (st', r)) : HpA st.hp st.nx (base + i) st'.hp st'.nx st'.low ∧ st'.low ≤ st.low := by
  unfold stepOp at hr
  rw [cond_eq_ite] at hr
  split at hr
  · split at hr
    · rename_i v h nx los r' ho
      cases hr
      have := opV_hp hrec ho
      refine ⟨⟨this.nxle, fun id a b c => this.hp id a b (low_of a c), this.gone, this.fresh⟩, (lowest_le _ _).1⟩
    · cases hr
  · cases hr
    exact ⟨⟨Nat.le_refl _, fun _ _ _ _ => rfl, fun _ _ _ h => h, fun _ h => h⟩, Nat.le_refl _⟩

theorem runOps_hp {E : Env} {rec : Code → St → Out} (hrec : RecSyn rec) {ops : Array Oper} {base K : Nat} : ∀ (l : List Oper) (i : Nat) (st st' : St) (rs : List Rec),
    runOps E rec ops base i l st = some (st', rs) → i + l.length ≤ K → base + K ≤ st.nx →
    st.nx ≤ st'.nx ∧ st'.low ≤ st.low ∧ (∀ id, id < base → id < st'.low → st'.hp id = st.hp id) ∧ (∀ id, id < base → st.hp id = none → st'.hp id = none) ∧
      ((∀ id, st.nx ≤ id → st.hp id = none) → ∀ id, st'.nx ≤ id → st'.hp id = none)
  | [], i, st, st', rs, hr, _, _ => by
    unfold runOps at hr; cases hr
    exact ⟨Nat.le_refl _, Nat.le_refl _, fun _ _ _ => rfl, fun _ _ h => h, fun h => h⟩
  | o :: l, i, st, st', rs, hr, hK, hb => by
    simp only [runOps] at hr
    split at hr
    · rename_i st1 r h1
      split at hr
      · rename_i st2 rs2 h2
        cases hr
        obtain ⟨x, xl⟩ := stepOp_hp hrec h1
        simp only [List.length_cons] at hK
        obtain ⟨y1, y2, y3, y4, y5⟩ := runOps_hp hrec l (i + 1) st1 st' rs2 h2 (by omega) (Nat.le_trans hb x.nxle)
        refine ⟨Nat.le_trans x.nxle y1, Nat.le_trans y2 xl, fun id a b => (y3 id a b).trans (x.hp id (by omega) (by omega) (by omega)), fun id a b => y4 id a (x.gone id (by omega) (by omega) b), fun h => y5 (x.fresh (by omega) h)⟩
      · cases hr
    · cases hr

theorem scopeA_hp {rec : Code → St → Out} (hrec : RecSyn rec) (b : Code) : ∀ (n : Nat), RecSyn (scopeA rec b n)
  | 0 => fun c st e st' hr => by simp [scopeA] at hr
  | n + 1 => fun c st e st' hr => by
    rw [scopeA] at hr
    split at hr
    · rename_i h1
      split at hr
      · have h2 := scopeA_hp hrec b n _ _ _ _ hr
        exact ⟨(hrec _ _ _ _ h1).1.trans h2.1 h2.2, Nat.le_trans h2.2 (hrec _ _ _ _ h1).2⟩
      · cases hr
    · exact hrec _ _ _ _ hr

theorem rangeA_hp {E : Env} {rec : Code → St → Out} (hrec : RecSyn rec) {f : Operand} {ps : List Nat} {asg body : Code} {st st' : St} {e : AExit}
    (hr : rangeA E rec f ps asg body st = some (e, st')) : HpX st.hp st.nx st'.hp st'.nx st'.low ∧ st'.low ≤ st.low := by
  unfold rangeA at hr
  split at hr
  · split at hr
    · rename_i h nx low hc
      have x0 : ∀ o l, HpX st.hp st.nx (st.hp.set st.nx (some o)) (st.nx + 1) l := fun o l =>
        ⟨Nat.le_succ _, fun id a _ => by rw [Heap.set_get, if_neg (by omega)], fun id a b => by rw [Heap.set_get, if_neg (by omega)]; exact b, fun hf id hid => by rw [Heap.set_get, if_neg (by omega)]; exact hf id (by omega)⟩
      have x1 := callA_hp hrec hc
      have x2 := (x0 _ low).trans x1 (Nat.le_refl _)
      have x3 : HpX st.hp st.nx (h.set st.nx none) nx (Nat.min st.low low) := by
        refine ⟨x2.nxle, fun id a b => ?_, fun id a b => ?_, fun hf id hid => ?_⟩
        · rw [Heap.set_get, if_neg (by omega)]; exact x2.hp id a (Nat.lt_of_lt_of_le b (Nat.min_le_right _ _))
        · rw [Heap.set_get, if_neg (by omega)]; exact x2.gone id a b
        · rw [Heap.set_get]; split
          · rfl
          · exact x2.fresh hf id hid
      split at hr
      · split at hr
        · cases hr
        · split at hr
          · cases hr; exact ⟨x3, Nat.min_le_left _ _⟩
          · rw [cond_eq_ite] at hr
            split at hr
            · have x4 := hrec _ _ _ _ hr
              exact ⟨x3.trans x4.1 x4.2, Nat.le_trans x4.2 (Nat.min_le_left _ _)⟩
            · cases hr
      · cases hr
    · cases hr
  · cases hr

theorem step_hp {E : Env} {rec : Code → St → Out} (hrec : RecSyn rec) : RecSyn (step E rec) := by
  intro c st e st' hr
  have re : HpX st.hp st.nx st.hp st.nx st.low ∧ st.low ≤ st.low := ⟨HpX.refl _ _ _, Nat.le_refl _⟩
  have tr : ∀ {c1 c2 e1 st1}, rec c1 st = some (e1, st1) → rec c2 st1 = some (e, st') → HpX st.hp st.nx st'.hp st'.nx st'.low ∧ st'.low ≤ st.low := fun h1 h2 =>
    ⟨(hrec _ _ _ _ h1).1.trans (hrec _ _ _ _ h2).1 (hrec _ _ _ _ h2).2, Nat.le_trans (hrec _ _ _ _ h2).2 (hrec _ _ _ _ h1).2⟩
  cases c <;> simp only [step, reduceCtorEq] at hr
  case skip => cases hr; exact re
  case label => cases hr; exact re
  case exit => cases hr; exact re
  case goto => cases hr; exact re
  case ret => cases hr; exact re
  case region id ops draw =>
    split at hr
    · rename_i st1 rs h1
      rw [cond_eq_ite] at hr
      split at hr
      · cases hr
      · cases hr
        obtain ⟨y1, y2, y3, y4, y5⟩ := runOps_hp hrec (K := ops.size) _ _ _ _ _ h1 (by simp) (Nat.le_refl _)
        exact ⟨⟨by simp only at y1; omega, y3, y4, fun h => y5 (fun id hid => h id (by simp only at hid; omega))⟩, y2⟩
    · cases hr
  case seq a b =>
    split at hr
    · rename_i h1; exact tr h1 hr
    · exact hrec _ _ _ _ hr
  case cond c a b =>
    split at hr
    · exact hrec _ _ _ _ hr
    · cases hr
  case block id b =>
    split at hr
    · rename_i h1; cases hr; exact hrec _ _ _ _ h1
    · exact hrec _ _ _ _ hr
  case loop b =>
    split at hr
    · rename_i h1; exact tr h1 hr
    · exact hrec _ _ _ _ hr
  case scope b => exact scopeA_hp hrec b _ _ _ _ _ hr
  case rangeFunc f ps asg body => exact rangeA_hp hrec hr

theorem exec_hp (E : Env) : ∀ n, RecSyn (exec E n)
  | 0 => fun c st e st' h => by simp [exec] at h
  | n + 1 => fun c st e st' h => by
    rw [exec] at h
    exact step_hp (exec_hp E n) c st e st' h
end Go.AE
end

section
/- Whose memory an object may share. -/
set_option linter.unusedSimpArgs false
namespace Go.AE

/-- What is there, and what may be shared, is of these numbers. -/
structure AlOk (h : Heap) (D : Nat → Prop) : Prop where
  here : ∀ id, h id ≠ none → D id
  al : ∀ id o k, h id = some o → aliasIs o k → D k

section
variable {D : Nat → Prop}
theorem AlOk.set {h : Heap} (A : AlOk h D) {id : Nat} (hid : D id) {o : AObj} (ho : ∀ k, aliasIs o k → D k) : AlOk (h.set id (some o)) D := by
  refine ⟨fun j hj => ?_, fun j o' k hj hk => ?_⟩
  · rw [Heap.set_get] at hj; split at hj
    · rename_i e; rw [e]; exact hid
    · exact A.here j hj
  · rw [Heap.set_get] at hj; split at hj
    · obtain rfl := Option.some.inj hj; exact ho k hk
    · exact A.al j o' k hj hk
theorem AlOk.del {h : Heap} (A : AlOk h D) (id : Nat) : AlOk (h.set id none) D := by
  refine ⟨fun j hj => ?_, fun j o' k hj hk => ?_⟩
  · rw [Heap.set_get] at hj; split at hj
    · exact absurd rfl hj
    · exact A.here j hj
  · rw [Heap.set_get] at hj; split at hj
    · cases hj
    · exact A.al j o' k hj hk
theorem AlOk.kill {h : Heap} (A : AlOk h D) (al : Option Nat) : AlOk (kill h al) D := by
  cases al with
  | none => exact A
  | some k => exact A.del k
theorem AlOk.make {h : Heap} (A : AlOk h D) {id : Nat} (hid : D id) {o : AObj} (ho : ∀ k, ¬ aliasIs o k) : AlOk (h.set id (some o)) D := A.set hid (fun k hk => (ho k hk).elim)
theorem AlOk.write {h : Heap} (A : AlOk h D) {id : Nat} {x : AObj} (hx : h id = some x) {al : Option Nat} {o : AObj} (ho : ∀ k, ¬ aliasIs o k) : AlOk ((Go.AE.kill h al).set id (some o)) D :=
  (A.kill al).set (A.here id (by rw [hx]; simp)) (fun k hk => (ho k hk).elim)
theorem AlOk.write1 {h : Heap} (A : AlOk h D) {id : Nat} {x : AObj} (hx : h id = some x) {o : AObj} (ho : ∀ k, ¬ aliasIs o k) : AlOk (h.set id (some o)) D :=
  A.set (A.here id (by rw [hx]; simp)) (fun k hk => (ho k hk).elim)
theorem AlOk.then {h : Heap} (A : AlOk h D) {id : Nat} (hid : D id) {o : AObj} (ho : ∀ k, aliasIs o k → D k) : AlOk (h.set id (some o)) D := A.set hid ho
theorem AlOk.move {h : Heap} (A : AlOk h D) {id aid : Nat} {o : AObj} (ho : ∀ k, ¬ aliasIs o k) (ha : D aid) : AlOk ((h.set id none).set aid (some o)) D := (A.del id).make ha ho

theorem writeA_al {h h' : Heap} {i : TI} {v x : AV} {ts : List Nat} (A : AlOk h D) (hr : writeA h i v x = some (h', ts)) : AlOk h' D := by
  unfold writeA at hr
  split at hr
  · split at hr
    · rename_i ho
      rw [cond_eq_ite] at hr
      split at hr
      · split at hr
        · cases hr; exact A.write1 ho (fun _ h => h)
        · cases hr
      · cases hr
    · cases hr
  · split at hr
    · rename_i ho
      rw [cond_eq_ite] at hr
      split at hr
      · split at hr
        · split at hr
          · split at hr
            · cases hr; exact A.write ho (fun _ h => h)
            · cases hr
          · cases hr
        · cases hr
      · cases hr
    · cases hr
  · cases hr

theorem appendB_al {h h' : Heap} {i : TI} {s v : AV} {new : List AV} {ts : List Nat} {aid ety : Nat} (A : AlOk h D) (ha : D aid) (hr : appendB h aid ety i s new = some (v, h', ts)) : AlOk h' D := by
  unfold appendB at hr
  simp only [cond_eq_ite] at hr
  split at hr
  · split at hr
    · cases hr; exact A.make ha (fun _ h => h)
    · split at hr
      · cases hr; exact A.make ha (fun _ h => h)
      · cases hr
    · split at hr
      · rename_i ho
        split at hr
        · split at hr
          · split at hr
            · cases hr; exact A.write ho (fun _ h => h)
            · cases hr
          · split at hr
            · cases hr; exact A.make ha (fun _ h => h)
            · split at hr
              · cases hr; refine AlOk.then (A.write ho ?_) ha ?_
                · exact fun _ h => h
                · exact fun k hk => by have := aliasIs_vec hk; cases this; exact A.here _ (by rw [ho]; simp)
              · cases hr
        · cases hr
      · cases hr
    · cases hr
  · cases hr

theorem appendA_al {h h' : Heap} {i : TI} {s v : AV} {new : List AV} {ts : List Nat} {aid ety : Nat} (A : AlOk h D) (ha : D aid) (hr : appendA h aid ety i s new = some (v, h', ts)) : AlOk h' D := by
  unfold appendA at hr
  split at hr
  · split at hr <;> cases hr <;> exact A
  · exact appendB_al A ha hr

theorem copyA_al {h h' : Heap} {i : TI} {d v : AV} {src : List AV} {ts : List Nat} (A : AlOk h D) (hr : copyA h i d src = some (v, h', ts)) : AlOk h' D := by
  unfold copyA at hr
  simp only [cond_eq_ite] at hr
  split at hr
  · split at hr
    · rename_i ho
      split at hr
      · cases hr; exact A.write ho (fun _ h => h)
      · cases hr
    · cases hr
  · cases hr; exact A
  · cases hr

theorem clearA_al {h h' : Heap} {i : TI} {z d v : AV} {ts : List Nat} (A : AlOk h D) (hr : clearA h i z d = some (v, h', ts)) : AlOk h' D := by
  unfold clearA at hr
  simp only [cond_eq_ite] at hr
  split at hr
  · split at hr
    · rename_i ho
      split at hr
      · cases hr; exact A.write ho (fun _ h => h)
      · cases hr
    · cases hr
  · cases hr; exact A
  · cases hr

theorem sliceA_al {E : Env} {h h' : Heap} {aid t : Nat} {x v : AV} {lo hi mx : Option Nat} {ts : List Nat} (A : AlOk h D) (ha : D aid) (hr : sliceA E h aid t x lo hi mx = some (v, h', ts)) : AlOk h' D := by
  unfold sliceA at hr
  simp only [cond_eq_ite] at hr
  split at hr
  · split at hr
    · cases hr; exact A
    · cases hr
  · split at hr
    · cases hr; exact A
    · cases hr
  · split at hr
    · split at hr <;> split at hr <;> first | (cases hr; done) | (cases hr; exact A)
    · cases hr
  · split at hr
    · split at hr
      · split at hr <;> split at hr <;> first | (cases hr; done) | (cases hr; exact A)
      · cases hr
    · cases hr
  · split at hr
    · split at hr
      · split at hr
        · rename_i ho
          split at hr
          · cases hr; exact A.move (fun _ h => h) ha
          · cases hr
        · cases hr
      · cases hr
    · cases hr
  · cases hr

theorem convA_al {E : Env} {h h' : Heap} {aid src dst : Nat} {x v : AV} {ts : List Nat} (A : AlOk h D) (ha : D aid) (hr : convA E h aid src dst x = some (v, h', ts)) : AlOk h' D := by
  unfold convA at hr
  simp only [cond_eq_ite] at hr
  repeat' split at hr
  all_goals first
    | (cases hr; done)
    | (cases hr; exact A)
    | (cases hr; exact A.make ha (fun _ h => h))

theorem builtinA_al {E : Env} {h h' : Heap} {aid : Nat} {b : Builtin} {tys : List Nat} {args : List AV} {v : AV} {ts : List Nat} (A : AlOk h D) (ha : D aid) (hr : builtinA E h aid b tys args = some (v, h', ts)) : AlOk h' D := by
  unfold builtinA at hr
  simp only [cond_eq_ite] at hr
  repeat' split at hr
  all_goals first
    | (cases hr; done)
    | exact appendA_al A ha hr
    | exact copyA_al A hr
    | exact clearA_al A hr
    | (cases hr; exact A)
    | (cases hr; exact A.write (by assumption) (fun _ h => h))

theorem opA_al {E : Env} {fr : Tr} {h h' : Heap} {aid : Nat} {op : Op} {v : AV} {ts : List Nat} (A : AlOk h D) (ha : D aid) (hr : opA E fr h aid op = some (v, h', ts)) : AlOk h' D := by
  cases op <;> simp only [opA, cond_eq_ite, reduceCtorEq] at hr
  case store t x y =>
    split at hr
    · split at hr
      · rename_i hw
        cases hr; exact writeA_al A hw
      · cases hr
    · cases hr
  all_goals
    repeat' split at hr
    all_goals first
      | (cases hr; done)
      | exact sliceA_al A ha hr
      | exact convA_al A ha hr
      | exact builtinA_al A ha hr
      | (cases hr; exact A)
      | (cases hr; exact A.make ha (fun _ h => h))
      | (cases hr; exact A.write1 (by assumption) (fun _ h => h))

theorem AlOk.sub {D2 : Nat → Prop} {h : Heap} (A : AlOk h D) (hs : ∀ id, D id → D2 id) : AlOk h D2 := ⟨fun id h => hs _ (A.here id h), fun id o k h1 h2 => hs _ (A.al id o k h1 h2)⟩
end

def RecAl (rec : Code → St → Out) : Prop := ∀ c st e st', rec c st = some (e, st') → ∀ D : Nat → Prop, (∀ id, st.nx ≤ id → D id) → AlOk st.hp D → AlOk st'.hp D

section
variable {D : Nat → Prop} {E : Env} {rec : Code → St → Out}
theorem inlineA_al (ra : RecAl rec) {fn : Func} {c : Code} {args : List AV} {h h' : Heap} {nx nx' low : Nat} {v : AV} (hD : ∀ id, nx ≤ id → D id) (A : AlOk h D)
    (hr : inlineA E rec fn c args h nx = some (v, h', nx', low)) : AlOk h' D := by
  unfold inlineA at hr
  simp only [cond_eq_ite] at hr
  have key : ∀ e st, rec c ⟨Tr.ofList .nil 0 args, h, nx, nx⟩ = some (e, st) →
      (match resultsA E st fn.results.toList with
       | some vs => if (Nat.ble nx st.low && (one vs).free) = true then some (one vs, h, nx, nx) else some (one vs, st.hp, st.nx, st.low)
       | none => none) = some (v, h', nx', low) → AlOk h' D := by
    intro e st hst hr
    split at hr
    · split at hr
      · cases hr; exact A
      · cases hr; exact ra _ _ _ _ hst D hD A
    · cases hr
  split at hr
  · split at hr
    · rename_i hst; exact key _ _ hst hr
    · rename_i hst; exact key _ _ hst hr
    · cases hr
  · cases hr

theorem callA_al (ra : RecAl rec) {g : Nat} {args : List AV} {h h' : Heap} {nx nx' low : Nat} {v : AV} (hD : ∀ id, nx ≤ id → D id) (A : AlOk h D)
    (hr : callA E rec g args h nx = some (v, h', nx', low)) : AlOk h' D := by
  unfold callA at hr
  split at hr
  · split at hr
    · split at hr
      · split at hr
        · split at hr
          · rw [cond_eq_ite] at hr
            split at hr
            · cases hr; exact A
            · exact inlineA_al ra hD A hr
          · exact inlineA_al ra hD A hr
        · exact inlineA_al ra hD A hr
      · exact inlineA_al ra hD A hr
    · cases hr
  · cases hr

theorem yieldA_al (rs : RecSyn rec) (ra : RecAl rec) {id : Nat} {args : List AV} {h h' : Heap} {nx nx' low : Nat} {v : AV} (hD : ∀ id, nx ≤ id → D id) (A : AlOk h D)
    (hr : yieldA rec id args h nx = some (v, h', nx', low)) : AlOk h' D := by
  unfold yieldA at hr
  split at hr
  · rw [cond_eq_ite] at hr
    split at hr
    · split at hr
      · rename_i s1 h1
        split at hr
        · rename_i h2
          split at hr
          · rename_i e s2 h3
            split at hr
            · rename_i h4
              cases hr
              have a1 := ra _ _ _ _ h1 D hD A
              have hn := (rs _ _ _ _ h1).1.nxle
              have a2 := ra _ _ _ _ h3 D (fun id hid => hD id (Nat.le_trans hn hid)) (a1.write1 h2 (fun _ h => h))
              exact a2.write1 h4 (fun _ h => h)
            · cases hr
          · cases hr
        · cases hr
      · cases hr
    · cases hr
  · cases hr

theorem specA_al (_rs : RecSyn rec) (ra : RecAl rec) {s : Spec} {args : List AV} {h h' : Heap} {nx nx' low : Nat} {v : AV} (hD : ∀ id, nx ≤ id → D id) (A : AlOk h D)
    (hr : specA E rec s args h nx = some (v, h', nx', low)) : AlOk h' D := by
  unfold specA at hr
  split at hr
  · split at hr
    · cases hr; exact A
    · cases hr
  · unfold copyA_ at hr
    simp only [cond_eq_ite] at hr
    split at hr
    · split at hr
      · rename_i ho
        split at hr
        · cases hr; exact A.write1 ho (fun _ h => h)
        · cases hr
      · split at hr
        · cases hr; exact A
        · cases hr
      · cases hr
    · cases hr
  · unfold onceA at hr
    split at hr
    · split at hr
      · rename_i ho
        split at hr
        · split at hr
          · rename_i hc
            split at hr
            · rename_i ho2
              split at hr
              · cases hr
                have a0 : ∀ cs ty, AlOk (h.set _ (some (.box cs ty))) D := fun cs ty => A.write1 ho (fun _ h => h)
                exact (callA_al ra hD (a0 _ _) hc).write1 ho2 (fun _ h => h)
              · cases hr
            · cases hr
          · cases hr
        · cases hr
      · cases hr
    · cases hr

theorem callC_al (rs : RecSyn rec) (ra : RecAl rec) {c : Cal} {args : List AV} {h h' : Heap} {nx nx' low : Nat} {v : AV} (hD : ∀ id, nx ≤ id → D id) (A : AlOk h D)
    (hr : callC E rec c args h nx = some (v, h', nx', low)) : AlOk h' D := by
  cases c with
  | fn g =>
    unfold callC at hr
    simp only at hr
    split at hr
    · exact specA_al rs ra hD A hr
    · exact callA_al ra hD A hr
  | yld id => exact yieldA_al rs ra hD A hr

theorem stepOp_al (rs : RecSyn rec) (ra : RecAl rec) {ops : Array Oper} {base i : Nat} {o : Oper} {st st' : St} {r : Rec} (hD : ∀ id, st.nx ≤ id → D id) (ha : D (base + i)) (A : AlOk st.hp D)
    (hr : stepOp E rec ops base i o st = some (st', r)) : AlOk st'.hp D := by
  unfold stepOp at hr
  rw [cond_eq_ite] at hr
  split at hr
  · split at hr
    · rename_i v h nx lo r' ho
      cases hr
      unfold opV at ho
      split at ho
      · split at ho
        · split at ho
          · rename_i hc; cases ho; exact callC_al rs ra hD A hc
          · cases ho
        · cases ho
      · split at ho
        · rename_i hc; cases ho; exact opA_al A ha hc
        · cases ho
    · cases hr
  · cases hr; exact A

theorem runOps_al (rs : RecSyn rec) (ra : RecAl rec) {ops : Array Oper} {base : Nat} (hD : ∀ id, base ≤ id → D id) : ∀ (l : List Oper) (i : Nat) (st st' : St) (rcs : List Rec),
    runOps E rec ops base i l st = some (st', rcs) → base ≤ st.nx → AlOk st.hp D → AlOk st'.hp D
  | [], i, st, st', rcs, hr, _, A => by unfold runOps at hr; cases hr; exact A
  | o :: l, i, st, st', rcs, hr, hb, A => by
    simp only [runOps] at hr
    split at hr
    · rename_i st1 r h1
      split at hr
      · rename_i st2 rs2 h2
        cases hr
        exact runOps_al rs ra hD l (i + 1) st1 st' rs2 h2 (Nat.le_trans hb (stepOp_hp rs h1).1.nxle) (stepOp_al rs ra (fun id hid => hD id (by omega)) (hD _ (by omega)) A h1)
      · cases hr
    · cases hr

theorem scopeA_al (rs : RecSyn rec) (ra : RecAl rec) (b : Code) : ∀ (n : Nat), RecAl (scopeA rec b n)
  | 0 => fun c st e st' hr => by simp [scopeA] at hr
  | n + 1 => fun c st e st' hr D hD A => by
    rw [scopeA] at hr
    split at hr
    · rename_i h1
      split at hr
      · exact scopeA_al rs ra b n _ _ _ _ hr D (fun id hid => hD id (by have := (rs _ _ _ _ h1).1.nxle; omega)) (ra _ _ _ _ h1 D hD A)
      · cases hr
    · exact ra _ _ _ _ hr D hD A

theorem rangeA_al (rs : RecSyn rec) (ra : RecAl rec) {f : Operand} {ps : List Nat} {asg body : Code} {st st' : St} {e : AExit} (hD : ∀ id, st.nx ≤ id → D id) (A : AlOk st.hp D)
    (hr : rangeA E rec f ps asg body st = some (e, st')) : AlOk st'.hp D := by
  unfold rangeA at hr
  split at hr
  · split at hr
    · rename_i h nx low hc
      have a0 : AlOk (st.hp.set st.nx (some (.loop st.fr ps asg body .ready none))) D := A.make (hD st.nx (Nat.le_refl _)) (fun _ h => h)
      have a1 := callA_al ra (fun id hid => hD id (by omega)) a0 hc
      have a2 := a1.del st.nx
      have hn := (callA_hp rs hc).nxle
      split at hr
      · split at hr
        · cases hr
        · split at hr
          · cases hr; exact a2
          · rw [cond_eq_ite] at hr
            split at hr
            · exact ra _ _ _ _ hr D (fun id hid => hD id (by simp only at hid; omega)) a2
            · cases hr
      · cases hr
    · cases hr
  · cases hr

theorem step_al (rs : RecSyn rec) (ra : RecAl rec) : RecAl (step E rec) := by
  intro c st e st' hr D hD A
  have tr : ∀ {c1 c2 e1 st1}, rec c1 st = some (e1, st1) → rec c2 st1 = some (e, st') → AlOk st'.hp D := fun h1 h2 =>
    ra _ _ _ _ h2 D (fun id hid => hD id (by have := (rs _ _ _ _ h1).1.nxle; omega)) (ra _ _ _ _ h1 D hD A)
  cases c <;> simp only [step, reduceCtorEq] at hr
  case skip => cases hr; exact A
  case label => cases hr; exact A
  case exit => cases hr; exact A
  case goto => cases hr; exact A
  case ret => cases hr; exact A
  case region id ops draw =>
    split at hr
    · rename_i st1 rcs h1
      rw [cond_eq_ite] at hr
      split at hr
      · cases hr
      · cases hr
        exact runOps_al rs ra hD _ _ _ _ _ h1 (by simp only; omega) A
    · cases hr
  case seq a b =>
    split at hr
    · rename_i h1; exact tr h1 hr
    · exact ra _ _ _ _ hr D hD A
  case cond c a b =>
    split at hr
    · exact ra _ _ _ _ hr D hD A
    · cases hr
  case block id b =>
    split at hr
    · rename_i h1; cases hr; exact ra _ _ _ _ h1 D hD A
    · exact ra _ _ _ _ hr D hD A
  case loop b =>
    split at hr
    · rename_i h1; exact tr h1 hr
    · exact ra _ _ _ _ hr D hD A
  case scope b => exact scopeA_al rs ra b _ _ _ _ _ hr D hD A
  case rangeFunc f ps asg body => exact rangeA_al rs ra hD A hr

theorem exec_al (E : Env) : ∀ n, RecAl (exec E n)
  | 0 => fun c st e st' h => by simp [exec] at h
  | n + 1 => fun c st e st' h => by
    rw [exec] at h
    exact step_al (exec_hp E n) (exec_al E n) c st e st' h
end
end Go.AE
end

section
/- Who stands ahead of whom in a region. -/
namespace Go.AE

theorem befs_len : ∀ (l : List Oper) (acc : List Nat), (befs l acc).length = acc.length + l.length
  | [], acc => by simp [befs]
  | o :: l, acc => by rw [befs, forced_eq, befs_len]; simp; omega

theorem befs_take : ∀ (l : List Oper) (acc : List Nat) (k : Nat), k ≤ acc.length → (befs l acc).take k = acc.take k
  | [], acc, k, _ => rfl
  | o :: l, acc, k, h => by
    rw [befs, forced_eq, befs_take l _ k (by simp; omega), List.take_append_of_le_length h]

theorem befs_get : ∀ (l : List Oper) (acc : List Nat) (k : Nat) (o : Oper), l[k]? = some o → (befs l acc)[acc.length + k]? = some (rowOf ((befs l acc).take (acc.length + k)) o)
  | [], acc, k, o, h => by simp at h
  | x :: l, acc, 0, o, h => by
    simp at h; subst h
    rw [Nat.add_zero, befs_take _ _ _ (Nat.le_refl _), List.take_length, befs, forced_eq]
    have h1 := befs_take l (acc ++ [rowOf acc x]) (acc.length + 1) (by simp)
    have h2 : ((befs l (acc ++ [rowOf acc x])).take (acc.length + 1))[acc.length]? = some (rowOf acc x) := by rw [h1]; simp
    rwa [List.getElem?_take_of_lt (by omega)] at h2
  | x :: l, acc, k + 1, o, h => by
    rw [befs, forced_eq]
    have := befs_get l (acc ++ [rowOf acc x]) k o (by simpa using h)
    simp only [List.length_append, List.length_singleton] at this
    rwa [show acc.length + 1 + k = acc.length + (k + 1) from by omega] at this

theorem rowOf_bit (acc : List Nat) (o : Oper) (i : Nat) (h : (rowOf acc o).testBit i = true) : ∃ e ∈ o.after, Region.binds .any e = true ∧ (e.on = i ∨ (acc.getD e.on 0).testBit i = true) := by
  unfold rowOf at h
  have key : ∀ (l : List Edge) (s : Nat), (l.foldl (fun s e => bif Region.binds .any e then Nat.lor (Nat.lor s (Nat.pow 2 e.on)) (acc.getD e.on 0) else s) s).testBit i = true →
      s.testBit i = true ∨ ∃ e ∈ l, Region.binds .any e = true ∧ (e.on = i ∨ (acc.getD e.on 0).testBit i = true) := by
    intro l
    induction l with
    | nil => intro s h; exact .inl h
    | cons e l ih =>
      intro s h
      rw [List.foldl_cons] at h
      rcases ih _ h with h | ⟨e', h1, h2⟩
      · cases hb : Region.binds .any e with
        | false => rw [hb, cond_false] at h; exact .inl h
        | true =>
          rw [hb, cond_true] at h
          have h' : ((s ||| 2 ^ e.on) ||| acc.getD e.on 0).testBit i = true := h
          rw [Nat.testBit_or, Nat.testBit_or, Bool.or_eq_true, Bool.or_eq_true] at h'
          rcases h' with (h | h) | h
          · exact .inl h
          · rw [Nat.testBit_two_pow] at h
            exact .inr ⟨e, by simp, hb, .inl (by simpa using h)⟩
          · exact .inr ⟨e, by simp, hb, .inr h⟩
      · exact .inr ⟨e', by simp [h1], h2⟩
  rcases key _ _ h with h | ⟨e, h1, h2⟩
  · simp at h
  · exact ⟨e, by simpa using h1, h2⟩

/-- Does 'i' stand ahead of 'j'? -/
def Bef (ops : Array Oper) (j i : Nat) : Prop := ∃ b, (befs ops.toList [])[j]? = some b ∧ b.testBit i = true

theorem Bef.closed {ops : Array Oper} {L : Nat → Prop} (hL : ∀ j o, L j → ops[j]? = some o → ∀ e ∈ o.after, Region.binds .any e = true → L e.on) :
    ∀ (k : Nat) (o : Oper), ops[k]? = some o → (∀ e ∈ o.after, Region.binds .any e = true → L e.on) → ∀ i, Bef ops k i → L i := by
  intro k
  induction k using Nat.strongRecOn with
  | _ k ih =>
    intro o ho hd i ⟨b, hb, hbit⟩
    have h1 := befs_get ops.toList [] k o (by simpa using ho)
    simp only [List.length_nil, Nat.zero_add] at h1
    rw [h1] at hb
    obtain rfl := Option.some.inj hb
    obtain ⟨e, he, hbi, h2⟩ := rowOf_bit _ _ _ hbit
    rcases h2 with rfl | h2
    · exact hd e he hbi
    · rw [List.getD_eq_getElem?_getD, List.getElem?_take] at h2
      split at h2
      · rename_i hlt
        cases hx : (befs ops.toList [])[e.on]? with
        | none => rw [hx] at h2; simp at h2
        | some b' =>
          rw [hx] at h2
          have hLe := hd e he hbi
          have hlen : e.on < ops.size := by
            have := (List.getElem?_eq_some_iff.1 hx).1
            rw [befs_len] at this
            simpa using this
          exact ih e.on hlt _ (Array.getElem?_eq_getElem hlen) (hL e.on _ hLe (Array.getElem?_eq_getElem hlen)) i ⟨b', hx, h2⟩
      · simp at h2
end Go.AE
end

section
/- Calls: by what is known of a function, or by its text. -/
set_option linter.unusedSimpArgs false
namespace Go.AE
variable {F : Nat → Prop}
section
variable {E : Env} {P : Program} {σ : Sg} {w : World}

theorem KN.bare {O : Nat → Prop} {cs : List AV} {b o : Nat} (h : KN σ O w cs b o) (hf : AV.freeL cs = true) : KN noSg O w cs b o := by
  intro j c hj
  obtain ⟨v, h1, h2, h3⟩ := h j c hj
  refine ⟨v, h1, h2, V.less (fun _ h => h) _ _ ?_ h3⟩
  clear h h3 h1 h2
  induction cs generalizing j with
  | nil => simp at hj
  | cons x xs ih =>
    rw [AV.freeL, Bool.and_eq_true] at hf
    cases j with
    | zero => simp at hj; subst hj; exact hf.1
    | succ j => exact ih hf.2 j (by simpa using hj)

theorem Sim.globOk (EO : EnvOk E P) {h : Heap} (S : Sim E F σ h w) : GlobOk E (own F σ h) w := fun g cs hg => by
  obtain ⟨h1, h2, h3⟩ := S.glob g cs hg
  exact ⟨h1, h2, h3.bare (EO.glob g cs hg)⟩

theorem KN.less {O O2 : Nat → Prop} {cs : List AV} {b o : Nat} (h : KN noSg O w cs b o) (hf : AV.freeL cs = true) (hl : ∀ b, O2 b → O b) : KN noSg O2 w cs b o := by
  intro j c hj
  obtain ⟨v, h1, h2, h3⟩ := h j c hj
  refine ⟨v, h1, h2, V.less hl _ _ ?_ h3⟩
  clear h h3 h1 h2
  induction cs generalizing j with
  | nil => simp at hj
  | cons x xs ih =>
    rw [AV.freeL, Bool.and_eq_true] at hf
    cases j with
    | zero => simp at hj; subst hj; exact hf.1
    | succ j => exact ih hf.2 j (by simpa using hj)

theorem Sim.own_lt {h : Heap} (S : Sim E F σ h w) : ∀ b, own F σ h b → b < w.heap.size := by
  rintro b (hF | ⟨id, o, s, h1, h2, rfl⟩)
  · exact (S.fo b hF).1
  · obtain ⟨s', h3, h4⟩ := S.obj id o h1
    obtain rfl := Option.some.inj (h2.symm.trans h3)
    exact h4.lt

/-- A world that has only grown. -/
theorem Same0.kept {w' : World} (k : Same0 w w') (σ : Sg) (O : Nat → Prop) : Kept σ O w σ O w' := ⟨fun _ _ h => h, k.size, fun _ h => .inl h, fun b hb _ => k.block b hb⟩

theorem Sim.grown {h : Heap} (S : Sim E F σ h w) {w' : World} (k : Same0 w w') : Sim E F σ h w' := by
  refine ⟨fun id o ho => ?_, S.inj, S.ali, fun g cs hg => ?_, fun b hb => ?_⟩
  · obtain ⟨s, h1, h2⟩ := S.obj id o ho
    exact ⟨s, h1, h2.mono (k.kept σ _) (k.block _ h2.lt)⟩
  · obtain ⟨h1, h2, h3⟩ := S.glob g cs hg
    exact ⟨h1, Nat.lt_of_lt_of_le h2 k.size, h3.mono (k.kept σ _) h1⟩
  · obtain ⟨h1, h2⟩ := S.fo b hb
    exact ⟨Nat.lt_of_lt_of_le h1 k.size, h2⟩

theorem Same0.tr {w' : World} {h : Heap} (S : Sim E F σ h w) (k : Same0 w w') (nx low : Nat) : Tr0 F σ h nx w σ h nx w' low :=
  ⟨k.kept σ _, k.os, k.tape, k.output, Nat.le_refl _, fun id s o _ h1 h2 _ => by
      obtain ⟨s', h3, h4⟩ := S.obj id o h2
      obtain rfl := Option.some.inj (h1.symm.trans h3)
      exact k.block _ h4.lt, fun _ _ => rfl, fun _ _ _ => rfl, fun _ _ h => h, fun b hb => k.block _ (S.fo b hb).1⟩

theorem V_flat {σ2 : Sg} {O O2 : Nat → Prop} {w2 : World} {x : AV} {v : Value} (hf : flat x = true) (h : V σ O w x v) : V σ2 O2 w2 x v := by
  cases x <;> simp only [flat, reduceCtorEq] at hf <;> (try (simpa only [V] using h))
  rename_i vs
  simp only [V] at h ⊢
  obtain ⟨a, rfl, h⟩ := h
  refine ⟨a, rfl, ?_⟩
  generalize a.toList = l at h
  clear a
  induction vs generalizing l with
  | nil => simpa only [VL] using h
  | cons y ys ih =>
    simp only [VL] at h ⊢
    obtain ⟨u, l', rfl, h1, h2, h3⟩ := h
    simp only [List.all_cons, Bool.and_eq_true] at hf
    refine ⟨u, l', rfl, h1, ?_, ih hf.2 _ h3⟩
    have h0 := hf.1
    cases y <;> simp only [reduceCtorEq] at h0 <;> simpa only [V] using h2

theorem resolve_free : ∀ (n : Nat) (h : Heap), (∀ x y, AV.free x = true → resolve n h x = some y → y = x) ∧ (∀ xs ys, AV.freeL xs = true → resolveL n h xs = some ys → ys = xs) := by
  intro n h
  induction n with
  | zero => exact ⟨fun _ _ _ hr => by simp [resolve] at hr, fun _ _ _ hr => by simp [resolveL] at hr⟩
  | succ n ih =>
    refine ⟨fun x y hf hr => ?_, fun xs ys hf hr => ?_⟩
    · cases x with
      | vec => simp [AV.free] at hf
      | agg cs =>
        rw [AV.free] at hf
        simp only [resolve] at hr
        split at hr
        · rename_i l hl; obtain rfl := Option.some.inj hr; rw [ih.2 _ _ hf hl]
        · cases hr
      | _ => simp only [resolve, reduceCtorEq, Option.some.injEq] at hr <;> exact hr.symm
    · cases xs with
      | nil => simp only [resolveL, Option.some.injEq] at hr; exact hr.symm
      | cons x xs =>
        rw [AV.freeL, Bool.and_eq_true] at hf
        simp only [resolveL] at hr
        split at hr
        · rename_i y hy
          split at hr
          · rename_i ys' hys
            obtain rfl := Option.some.inj hr
            rw [ih.1 _ _ hf.1 hy, ih.2 _ _ hf.2 hys]
          · cases hr
        · cases hr

/-- The slots of a function that has just been entered. -/
theorem FR.init {O : Nat → Prop} {n : Nat} (hn : n < 1048575) {as : List AV} {vs : List Value} (h : VL σ O w false as vs) (hl : as.length ≤ n) :
    FR σ O w n (Tr.ofList .nil 0 as) (vs.toArray ++ Array.replicate (n - vs.length) undef) := by
  have hlen := VL_len h
  have get0 : ∀ t, Tr.get .nil t = undefA := fun t => rfl
  have key : ∀ (as : List AV) (t : Tr) (i : Nat), i + as.length < 1048575 → ∀ m, (Tr.ofList t i as).get m = if i ≤ m ∧ m < i + as.length then (as[m - i]?).getD undefA else t.get m := by
    intro as
    induction as with
    | nil => intro t i _ m; simp [Tr.ofList]; omega
    | cons x xs ih =>
      intro t i hi m
      simp only [List.length_cons] at hi ⊢
      rw [Tr.ofList, ih _ _ (by omega), Tr.get_set _ _ _ _ (by omega)]
      by_cases h1 : m = i
      · subst h1; rw [if_neg (by omega), if_pos rfl, if_pos (by omega)]; simp
      · by_cases h2 : i + 1 ≤ m ∧ m < i + 1 + xs.length
        · rw [if_pos h2, if_pos (by omega), show m - i = (m - (i + 1)) + 1 from by omega]; simp
        · rw [if_neg h2, if_neg h1, if_neg (by omega)]
  refine ⟨by simp; omega, fun t => ?_⟩
  rw [key _ _ _ (by omega)]
  by_cases ht : t < as.length
  · rw [if_pos (by omega)]
    have e1 : as[t - 0]? = some as[t] := by simp [ht]
    obtain ⟨v, k1, k2, _⟩ := VL_get h t as[t] (by simp [ht])
    rw [e1, Array.getD_eq_getD_getElem?, Array.getElem?_append_left (by simpa using (List.getElem?_eq_some_iff.1 k1).1)]
    simpa [k1] using k2
  · rw [if_neg (by omega), get0, Array.getD_eq_getD_getElem?, Array.getElem?_append_right (by simp; omega)]
    have : ((Array.replicate (n - vs.length) undef)[t - vs.toArray.size]?).getD undef = undef := by
      rw [Array.getElem?_replicate]; split <;> rfl
    rw [this]; exact V.undef

/-- A result, as a function's end reads it. -/
def resOf (tmps : Array Value) : ResultVar → Sem Value
  | .tmp t => pure (tmps.getD t undef)
  | .cell x t => do loadVar t (← asAddr (tmps.getD x undef))

theorem resultsA_sound (EO : EnvOk E P) {st : St} {a : Act} {n : Nat} (S : SR E F σ n st a w) : ∀ (rs : List ResultVar) (vs : List AV), resultsA E st rs = some vs →
    ∃ vals, VL σ (own F σ st.hp) w false vs vals ∧ (rs.mapM (resOf a.tmps)).run P w = .ok vals w
  | [], vs, hr => by simp only [resultsA, Option.some.injEq] at hr; subst hr; exact ⟨[], by rw [VL], by simp⟩
  | .tmp t :: rs, vs, hr => by
    simp only [resultsA] at hr
    split at hr
    · rename_i vs' h1
      obtain rfl := Option.some.inj hr
      obtain ⟨vals, k1, k2⟩ := resultsA_sound EO S rs vs' h1
      refine ⟨a.tmps.getD t undef :: vals, by rw [VL]; exact ⟨_, _, rfl, by simp, S.fr.get t, k1⟩, ?_⟩
      have : (resOf a.tmps (.tmp t)).run P w = .ok (a.tmps.getD t undef) w := rfl
      rw [List.mapM_cons]; simp only [Sem.run_bind, Sem.run_pure, this, k2, Result.andThen_ok]
    · cases hr
  | .cell x t :: rs, vs, hr => by
    simp only [resultsA] at hr
    split at hr
    · rename_i i hi
      split at hr
      · rename_i v hv
        split at hr
        · rename_i vs' h1
          obtain rfl := Option.some.inj hr
          obtain ⟨vals, k1, k2⟩ := resultsA_sound EO S rs vs' h1
          obtain ⟨val, r1, r2⟩ := readA_sound S.sim (EO.ty _ _ hi) (S.fr.get x) hv
          have hp : ∃ ad, a.tmps.getD x undef = .pointer (some ad) := by
            have := S.fr.get x
            generalize a.tmps.getD x undef = va at this
            unfold readA at hv
            split at hv
            · rename_i e; rw [e, V] at this; obtain ⟨_, _, e⟩ := this; exact ⟨_, e⟩
            · rename_i e; rw [e, V] at this; obtain ⟨_, _, e⟩ := this; exact ⟨_, e⟩
            · rename_i e; rw [e, V] at this; obtain ⟨_, _, e, _⟩ := this; exact ⟨_, e⟩
            · rename_i e; rw [e, V] at this; exact ⟨_, this⟩
            · cases hv
          obtain ⟨ad, had⟩ := hp
          rw [had] at r1
          have r1' : (loadVar t ad).run P w = .ok val w := by simpa [Instr.loadAt, Instr.sureAddr] using r1
          refine ⟨val :: vals, by rw [VL]; exact ⟨_, _, rfl, by simp, r2, k1⟩, ?_⟩
          have : (resOf a.tmps (.cell x t)).run P w = .ok val w := by simp only [resOf, had, asAddr, Sem.run_bind, Sem.run_pure, Result.andThen_ok, r1']
          rw [List.mapM_cons]; simp only [Sem.run_bind, Sem.run_pure, this, k2, Result.andThen_ok]
        · cases hr
      · cases hr
    · cases hr

theorem results_sound (EO : EnvOk E P) {st : St} {a : Act} {n : Nat} (S : SR E F σ n st a w) {fn : Func} {vs : List AV} (hr : resultsA E st fn.results.toList = some vs) :
    ∃ val, V σ (own F σ st.hp) w (one vs) val ∧ (results fn a.tmps).run P w = .ok val w := by
  obtain ⟨vals, k1, k2⟩ := resultsA_sound EO S _ _ hr
  have e : (results fn a.tmps).run P w = .ok (if h : vals.toArray.size = 1 then vals.toArray[0] else .tuple vals.toArray) w := by
    have e0 : results fn a.tmps = (do let vs ← fn.results.mapM (resOf a.tmps); pure (if h : vs.size = 1 then vs[0] else .tuple vs)) := rfl
    rw [e0, Array.mapM_eq_mapM_toList]
    simp [k2]
  refine ⟨_, ?_, e⟩
  have hl := VL_len k1
  unfold one
  split
  · rename_i x
    rw [VL] at k1
    obtain ⟨v, l', rfl, _, k3, k4⟩ := k1
    rw [VL] at k4; subst k4
    simpa using k3
  · rename_i h1
    have : vals.toArray.size ≠ 1 := by
      intro h2
      have h2 : vals.length = 1 := by simpa using h2
      have h3 : vs.length = 1 := hl.symm.trans h2
      obtain ⟨x, rfl⟩ := List.length_eq_one_iff.1 h3
      exact h1 x rfl
    rw [dif_neg this, V]; exact ⟨_, rfl, by simpa using k1⟩
end
end Go.AE
end

section
/- A function's marks, when it leaves; an object that is let go. -/
set_option linter.unusedSimpArgs false
namespace Go.AE
variable {F : Nat → Prop}

theorem cell_put {w : World} {D : Nat} {ds : Option (List Deferred)} (hD : w.heap[D]? = some (.deferred ds)) (o : Obj) {b k : Nat} {v : Value} (h : w.cell? ⟨b, k, none⟩ = some v) : (w.putObj D o).cell? ⟨b, k, none⟩ = some v := by
  unfold World.cell? at h ⊢
  by_cases e : b = D
  · subst e; simp [hD] at h
  · rw [World.putObj_heap_other e]; exact h

section
variable {E : Env} {P : Program} {σ : Sg} {w : World}

/-- A block that nobody owns is turned, and bears no cells: a state stands for the model's as it did. -/
theorem SR.shut {n : Nat} {st : St} {a : Act} {w : World} (S : SR E F σ n st a w) {D : Nat} {ds : Option (List Deferred)} (hD : w.heap[D]? = some (.deferred ds)) (ho : ¬ own F σ st.hp D) (o : Obj) :
    SR E F σ n st a (w.putObj D o) := by
  have k : KeptC σ (own F σ st.hp) w σ (own F σ st.hp) (w.putObj D o) := ⟨fun _ _ h => h, Nat.le_of_eq (by simp [World.putObj]), fun _ h => .inl h, fun _ h => cell_put hD o h⟩
  have oth : ∀ b, b ≠ D → (w.putObj D o).heap[b]? = w.heap[b]? := fun b h => World.putObj_heap_other h
  refine ⟨⟨fun id ob h => ?_, S.sim.inj, S.sim.ali, fun g cs hg => ?_, fun b hb => ?_⟩, S.fresh, ⟨S.fr.size, fun t => V.monoC k _ _ (S.fr.get t)⟩⟩
  · obtain ⟨s, h1, h2⟩ := S.sim.obj id ob h
    exact ⟨s, h1, h2.monoC k (oth _ (fun e => ho (e ▸ .inr ⟨id, ob, s, h, h1, rfl⟩)))⟩
  · obtain ⟨h1, h2, h3⟩ := S.sim.glob g cs hg
    exact ⟨h1, by simpa [World.putObj] using h2, h3.monoC k h1⟩
  · obtain ⟨h1, h2⟩ := S.sim.fo b hb
    exact ⟨by simpa [World.putObj] using h1, h2⟩

/-- The same of what has happened since. -/
theorem Tr0.shut {σ0 : Sg} {h0 h : Heap} {w0 w : World} {nx0 nx low : Nat} (T : Tr0 F σ0 h0 nx0 w0 σ h nx w low) (hlt : ∀ id s o, σ0 id = some s → h0 id = some o → s.block < w0.heap.size) (hF : ∀ b, F b → b < w0.heap.size)
    {D : Nat} (hD : w0.heap.size ≤ D) (o : Obj) : Tr0 F σ0 h0 nx0 w0 σ h nx (w.putObj D o) low := by
  have oth : ∀ b, b ≠ D → (w.putObj D o).heap[b]? = w.heap[b]? := fun b h => World.putObj_heap_other h
  refine ⟨⟨T.kept.sg, by simpa [World.putObj] using T.kept.size, T.kept.own, fun b hb hn => (oth b (by omega)).trans (T.kept.block b hb hn)⟩, T.os, T.tape, T.output, T.nxle, fun id s o' a b c d => ?_, T.sg, T.hp, T.gone, fun b hb => ?_⟩
  · have := hlt id s o' b c
    exact (oth _ (by omega)).trans (T.still id s o' a b c d)
  · have := hF b hb
    exact (oth _ (by omega)).trans (T.fo b hb)

theorem leaves_marks {fn : Func} {n nx0 low : Nat} {st : St} {a : Act} {σ0 : Sg} {h0 : Heap} {w0 : World} {R : Ending → World → Prop}
    (hlt : ∀ id s o, σ0 id = some s → h0 id = some o → s.block < w0.heap.size) (hF : ∀ b, F b → b < w0.heap.size)
    (hR : ∀ w2, SR E F σ n st a w2 → Tr0 F σ0 h0 nx0 w0 σ st.hp st.nx w2 low → ∃ v, (results fn a.tmps).run P w2 = .ok v w2 ∧ R (.returned v) w2) :
    ∀ (Ds : List Nat) (w : World), Ds.Nodup → (∀ D ∈ Ds, w0.heap.size ≤ D ∧ w.heap[D]? = some (.deferred (some [])) ∧ ¬ own F σ st.hp D) → SR E F σ n st a w → Tr0 F σ0 h0 nx0 w0 σ st.hp st.nx w low →
      LeavesInM (GF none) 0 P fn a.tmps R (Ds.map fun D => { target := .collected D, args := #[] }) .returning w
  | [], w, _, _, S, T => by
    obtain ⟨v, h1, h2⟩ := hR w S T
    exact ⟨v, h1, h2⟩
  | D :: Ds, w, hnd, hD, S, T => by
    obtain ⟨k1, k2, k3⟩ := hD D (by simp)
    rw [List.nodup_cons] at hnd
    refine ⟨by simp, .inl ⟨D, w.putObj D (.deferred none), rfl, run_takeDeferred k2, ?_⟩⟩
    refine leaves_marks hlt hF hR Ds _ hnd.2 (fun D' hD' => ?_) (S.shut k2 k3 _) (T.shut hlt hF k1 _)
    obtain ⟨m1, m2, m3⟩ := hD D' (by simp [hD'])
    have hne : D' ≠ D := fun e => hnd.1 (e ▸ hD')
    exact ⟨m1, (World.putObj_heap_other hne).trans m2, m3⟩

/-- An object is let go. -/
theorem Sim.drop {h : Heap} (S : Sim E F σ h w) (id : Nat) : Sim E F σ (h.set id none) w ∧ Kept σ (own F σ h) w σ (own F σ (h.set id none)) w := by
  have hget : ∀ {j o}, (h.set id none) j = some o → h j = some o := fun {j o} hj => by
    rw [Heap.set_get] at hj; split at hj
    · cases hj
    · exact hj
  have hown : ∀ b, own F σ (h.set id none) b → own F σ h b := by
    rintro b (hF | ⟨j, o, s, h1, h2, rfl⟩)
    · exact .inl hF
    · exact .inr ⟨j, o, s, hget h1, h2, rfl⟩
  have k : Kept σ (own F σ h) w σ (own F σ (h.set id none)) w := ⟨fun _ _ h => h, Nat.le_refl _, fun b hb => .inl (hown b hb), fun _ _ _ => rfl⟩
  refine ⟨⟨fun j o hj => ?_, fun i j oi oj si sj h1 h2 => S.inj i j oi oj si sj (hget h1) (hget h2), fun j oj q h1 h2 => ?_, fun g cs hg => ?_, fun b hb => ?_⟩, k⟩
  · obtain ⟨s, h1, h2⟩ := S.obj j o (hget hj)
    exact ⟨s, h1, h2.mono k rfl⟩
  · obtain ⟨m1, m2⟩ := S.ali j oj q (hget h1) h2
    exact ⟨m1, fun ok hk => m2 ok (hget hk)⟩
  · obtain ⟨m1, m2, m3⟩ := S.glob g cs hg
    exact ⟨fun ho => m1 (hown g ho), m2, m3.mono k m1⟩
  · obtain ⟨m1, m2⟩ := S.fo b hb
    exact ⟨m1, fun j o s hj => m2 j o s (hget hj)⟩
end
end Go.AE
end

section
/- A call comes to what the evaluator says. -/
set_option linter.unusedSimpArgs false
namespace Go.AE
variable {F : Nat → Prop}
section
variable {E : Env} {P : Program} {σ : Sg} {w : World}

/-- What a call leaves. -/
def Left (E : Env) (F : Nat → Prop) (σ : Sg) (h : Heap) (nx : Nat) (w : World) (v : AV) (h' : Heap) (nx' low : Nat) (e : Ending) (w' : World) : Prop :=
  ∃ val σ', e = .returned val ∧ Sim E F σ' h' w' ∧ (∀ id, nx' ≤ id → σ' id = none ∧ h' id = none) ∧ V σ' (own F σ' h') w' v val ∧ Tr0 F σ h nx w σ' h' nx' w' low

theorem inlineA_sound (EO : EnvOk E P) {rec : Code → St → Out} (RO : RecOk E P rec) {g : Nat} {fn : Func} (hfn : E.fn g = some fn) {c : Code} (hb : fn.body = some c) {args : List AV} {h h' : Heap} {nx nx' low : Nat} {v : AV}
    (hr : inlineA E rec fn c args h nx = some (v, h', nx', low)) (S : Sim E F σ h w) (hfr : ∀ id, nx ≤ id → σ id = none ∧ h id = none) {vargs : List Value} (hv : VL σ (own F σ h) w false args vargs) :
    Calls P g vargs.toArray w (Left E F σ h nx w v h' nx' low) := by
  obtain ⟨f1, f2, f3⟩ := EO.fn g fn hfn
  unfold fnOk at f3
  rw [Bool.and_eq_true, hb] at f3
  have hn : fn.ntmps < 1048575 := by simpa [Nat.blt_eq] using f3.1
  unfold inlineA at hr
  simp only [cond_eq_ite] at hr
  split at hr
  · rename_i hle
    have hle := Nat.le_of_ble_eq_true hle
    have key : ∀ e st, (e = .normal ∨ e = .ret) → rec c ⟨Tr.ofList .nil 0 args, h, nx, nx⟩ = some (e, st) →
      (match resultsA E st fn.results.toList with
       | some vs => if (Nat.ble nx st.low && (one vs).free) = true then some (one vs, h, nx, nx) else some (one vs, st.hp, st.nx, st.low)
       | none => none) = some (v, h', nx', low) → Calls P g vargs.toArray w (Left E F σ h nx w v h' nx' low) := by
      intro e st hee hst hr
      refine callsIn_wide.1 (callsIn_of_wp_marks (F := GF none) (n := 0) f1 hb trivial ?_)
      have SR0 : SR E F σ fn.ntmps ⟨Tr.ofList .nil 0 args, h, nx, nx⟩ { tmps := vargs.toArray ++ Array.replicate (fn.ntmps - vargs.length) undef, defers := [] } w :=
        ⟨S, hfr, FR.init hn hv hle⟩
      have := (RO _ _ _ _ hst none w.heap.size F σ fn.ntmps _ w SR0 (DfOk.nil _ _ _) (Nat.le_refl _) hn f3.2 (fun h => by cases h)).1
      refine wpIn_mono this ?_
      rintro ex a' w1 ⟨rfl, σ', S1, ⟨Ds, hds, hnd, hDs⟩, T1⟩
      have hlt : ∀ id s o, σ id = some s → h id = some o → s.block < w.heap.size := fun id s o h1 h2 => S.own_lt _ (.inr ⟨id, o, s, h2, h1, rfl⟩)
      have hFlt : ∀ b, F b → b < w.heap.size := fun b hb => (S.fo b hb).1
      suffices key2 : ∀ w', SR E F σ' fn.ntmps st a' w' → Tr0 F σ h nx w σ' st.hp st.nx w' st.low → ∃ val, (results fn a'.tmps).run P w' = .ok val w' ∧ Left E F σ h nx w v h' nx' low (.returned val) w' by
        have fin := leaves_marks hlt hFlt key2 Ds w1 hnd (fun D hD => by obtain ⟨m1, m2, m3⟩ := hDs D hD; exact ⟨m1, m2, m3⟩) S1 T1
        rw [← hds] at fin
        rcases hee with rfl | rfl
        · exact fin
        · exact fin
      intro w' S' T
      clear S1 T1 hDs
      split at hr
      · rename_i vs hvs
        obtain ⟨val, k1, k2⟩ := results_sound EO S' hvs
        have goal : Left E F σ h nx w v h' nx' low (.returned val) w' := by
          split at hr
          · rename_i hgc
            cases hr
            rw [Bool.and_eq_true] at hgc
            have hlow := Nat.le_of_ble_eq_true hgc.1
            have hown : ∀ b, own F σ h b → own F σ' st.hp b := by
              rintro b (hF | ⟨id, o, s, h1, h2, rfl⟩)
              · exact .inl hF
              · have hid : id < nx := by
                  rcases Nat.lt_or_ge id nx with h' | h'
                  · exact h'
                  · rw [(hfr id h').2] at h1; cases h1
                exact .inr ⟨id, o, s, by rw [T.hp id hid (by omega)]; exact h1, by rw [T.sg id hid]; exact h2, rfl⟩
            have hsame : Same0 w w' := by
              refine ⟨T.kept.size, fun b hb => ?_, T.os, T.tape, T.output⟩
              by_cases ho : own F σ h b
              · rcases ho with hF | ⟨id, o, s, h1, h2, rfl⟩
                · exact T.fo b hF
                · have hid : id < nx := by
                    rcases Nat.lt_or_ge id nx with h' | h'
                    · exact h'
                    · rw [(hfr id h').2] at h1; cases h1
                  exact T.still id s o hid h2 h1 (by omega)
              · exact T.kept.block b hb ho
            exact ⟨val, σ, rfl, S.grown hsame, hfr, V.less hown _ _ hgc.2 k1, hsame.tr S _ _⟩
          · cases hr
            exact ⟨val, σ', rfl, S'.sim, S'.fresh, k1, T⟩
        exact ⟨val, k2, goal⟩
      · cases hr
    split at hr
    · rename_i hst; exact key _ _ (.inl rfl) hst hr
    · rename_i hst; exact key _ _ (.inr rfl) hst hr
    · cases hr
  · cases hr

theorem callA_sound (EO : EnvOk E P) {rec : Code → St → Out} (RO : RecOk E P rec) {g : Nat} {args : List AV} {h h' : Heap} {nx nx' low : Nat} {v : AV}
    (hr : callA E rec g args h nx = some (v, h', nx', low)) (S : Sim E F σ h w) (hfr : ∀ id, nx ≤ id → σ id = none ∧ h id = none) {vargs : List Value} (hv : VL σ (own F σ h) w false args vargs) :
    (∃ fn, P.funcs[g]? = some fn ∧ (fn.name == "runtime.NumGoroutine") = false ∧ fn.body.isSome = true) ∧ Calls P g vargs.toArray w (Left E F σ h nx w v h' nx' low) := by
  unfold callA at hr
  split at hr
  · rename_i fn hfn
    split at hr
    · rename_i c hb
      obtain ⟨f1, f2, _⟩ := EO.fn g fn hfn
      refine ⟨⟨fn, f1, f2, by rw [hb]; rfl⟩, ?_⟩
      split at hr
      · rename_i mm hmm
        split at hr
        · rename_i args' hargs
          split at hr
          · rename_i r hm
            rw [cond_eq_ite] at hr
            split at hr
            · rename_i hff
              cases hr
              rw [Bool.or_eq_true] at hff
              have pure := EO.memo g mm args' v hmm hm
              rcases hff with hf | hf
              · have e := (resolve_free 1000 h).2 _ _ hf hargs
                subst e
                refine Calls.mono (pure (own F σ h) w vargs (S.globOk EO) S.own_lt (VL.less (fun _ h => h) _ _ _ hf hv)) ?_
                rintro e w' ⟨val, rfl, k1, k2⟩
                have hrf : V σ (own F σ h) w' v val := V.mono (σ := noSg) (O := own F σ h) (w := w') ⟨fun _ _ h => (by cases h), Nat.le_refl _, fun _ h => .inl h, fun _ _ _ => rfl⟩ _ _ k1
                exact ⟨val, σ, rfl, S.grown k2, hfr, hrf, k2.tr S _ _⟩
              · refine Calls.mono (pure noOwn w vargs (fun g cs hg => ?_) (fun _ h => h.elim) ((resolve_sound S 1000).2 _ _ _ _ hargs hv)) ?_
                · obtain ⟨h1, h2, h3⟩ := S.globOk EO g cs hg
                  exact ⟨fun h => h.elim, h2, h3.less (EO.glob g cs hg) (fun _ h => h.elim)⟩
                rintro e w' ⟨val, rfl, k1, k2⟩
                exact ⟨val, σ, rfl, S.grown k2, hfr, V_flat hf k1, k2.tr S _ _⟩
            · exact inlineA_sound EO RO hfn hb hr S hfr hv
          · exact inlineA_sound EO RO hfn hb hr S hfr hv
        · exact inlineA_sound EO RO hfn hb hr S hfr hv
      · exact inlineA_sound EO RO hfn hb hr S hfr hv
    · cases hr
  · cases hr
end
end Go.AE
end

section
/- A round of a range over a function. -/
set_option linter.unusedSimpArgs false
namespace Go.AE
variable {F : Nat → Prop}

theorem FR.putAll {σ : Sg} {O : Nat → Prop} {w : World} {n : Nat} (hn : n < 1048575) : ∀ (ps : List Nat) (args : List AV) (vs : List Value) (fr : Tr) (tmps : Array Value), FR σ O w n fr tmps → (∀ p ∈ ps, p < n) →
    VL σ O w false args vs → FR σ O w n (fr.putAll ps args) ((ps.zip vs).foldl (fun t (x : Nat × Value) => t.setIfInBounds x.1 x.2) tmps)
  | [], args, vs, fr, tmps, h, _, _ => by simpa [Tr.putAll] using h
  | p :: ps, [], vs, fr, tmps, h, _, hv => by rw [VL] at hv; subst hv; simpa [Tr.putAll] using h
  | p :: ps, x :: xs, vs, fr, tmps, h, hp, hv => by
    rw [VL] at hv
    obtain ⟨v, l', rfl, _, h1, h2⟩ := hv
    rw [List.zip_cons_cons, List.foldl_cons, Tr.putAll]
    exact FR.putAll hn ps xs l' _ _ (h.set (hp p (by simp)) hn h1) (fun q hq => hp q (by simp [hq])) h2

theorem foldl_params (ps : List Nat) (vs : List Value) (tmps : Array Value) :
    ((ps.toArray.zip vs.toArray).foldl (fun tmps (x : Nat × Value) => tmps.setIfInBounds x.1 x.2) tmps) = (ps.zip vs).foldl (fun t (x : Nat × Value) => t.setIfInBounds x.1 x.2) tmps := by
  rw [← Array.foldl_toList]
  simp

section
variable {E : Env} {P : Program} {σ : Sg} {w : World}

theorem VL_append {O : Nat → Prop} {b : Bool} : ∀ {xs ys : List AV} {l m : List Value}, VL σ O w b xs l → VL σ O w b ys m → VL σ O w b (xs ++ ys) (l ++ m)
  | [], ys, l, m, h1, h2 => by rw [VL] at h1; subst h1; exact h2
  | x :: xs, ys, l, m, h1, h2 => by
    rw [VL] at h1
    obtain ⟨v, l', rfl, k1, k2, k3⟩ := h1
    rw [List.cons_append, VL]
    exact ⟨v, l' ++ m, rfl, k1, k2, VL_append k3 h2⟩

/-- A loop's record is turned. -/
theorem loop_turn {h : Heap} (S : Sim E F σ h w) {id : Nat} {q : SI} {fr : Tr} {ps : List Nat} {asg body : Code} {st : LoopState} {pend : Option Code} (ho : h id = some (.loop fr ps asg body st pend)) (hq : σ id = some q) (st' : LoopState) (pend' : Option Code) :
    ∃ r : Loop, w.heap[q.block]? = some (.loop r) ∧ r.state = st ∧ r.pending = pend ∧
      Sim E F σ (h.set id (some (.loop fr ps asg body st' pend'))) (w.putObj q.block (.loop { r with state := st', pending := pend' })) ∧
      ∀ nx low, Tr0 F σ h nx w σ (h.set id (some (.loop fr ps asg body st' pend'))) nx (w.putObj q.block (.loop { r with state := st', pending := pend' })) (Nat.min low id) := by
  obtain ⟨q', hq', h1, fn, tmps, D, h2, h3, h4⟩ := S.obj id _ ho
  obtain rfl := Option.some.inj (hq.symm.trans hq')
  refine ⟨_, h2, rfl, rfl, ?_⟩
  have hlt : q.block < w.heap.size := (Array.getElem?_eq_some_iff.1 h2).1
  obtain ⟨S', T'⟩ := write_step (E := E) S (o := .loop fr ps asg body st pend) (o' := .loop fr ps asg body st' pend')
    (w' := w.putObj q.block (.loop { state := st', pending := pend', fn := fn, tmps := tmps, params := ps.toArray, assign := asg, body := body, defers := D })) ho hq rfl (id + 1) (fun _ h => h) (by simp [World.putObj])
    (fun b hb => World.putObj_heap_other hb) rfl rfl rfl (fun O2 k => ⟨h1, fn, tmps, D, World.putObj_heap_same hlt, h3, fun t => V.mono k _ _ (h4 t)⟩)
  refine ⟨S', fun nx low => ⟨T'.kept, T'.os, T'.tape, T'.output, Nat.le_refl _, fun j s o _ b c d => T'.still j s o b c (fun hm => ?_), fun _ _ => rfl, fun j _ b => ?_, fun j a b => ?_, T'.fo⟩⟩
  · have : j = id := by simpa [touch, aliasO] using hm
    have := Nat.lt_of_lt_of_le d (Nat.min_le_right _ _)
    omega
  · have := Nat.lt_of_lt_of_le b (Nat.min_le_right _ _)
    rw [Heap.set_get, if_neg (by omega)]
  · have : j ≠ id := fun e => by rw [e, ho] at b; cases b
    rw [Heap.set_get, if_neg this]; exact b

theorem roundPost_of {l : Nat} {R : Ending → World → Prop} {e : AExit} {a : Act} {w : World} (h : ∃ v w', (Instr.endRound l (jumpOf e)).run P w = .ok v w' ∧ R (.returned v) w') : roundPost P l R (exitOf e) a w := by
  cases e <;> exact h

theorem yieldA_sound {rec : Code → St → Out} (RO : RecOk E P rec) (rsy : RecSyn rec) {id : Nat} {args : List AV} {h h' : Heap} {nx nx' low : Nat} {v : AV}
    (hr : yieldA rec id args h nx = some (v, h', nx', low)) (S : Sim E F σ h w) (hfr : ∀ id, nx ≤ id → σ id = none ∧ h id = none) {vargs : List Value} (hv : VL σ (own F σ h) w false args vargs) {q : SI} (hq : σ id = some q) :
    ∃ fn tmps asg body, (Instr.yield q.block vargs.toArray).run P w = .ok (.round q.block fn tmps asg body) w ∧ RoundIn Fence.wide 0 P q.block fn tmps asg body w (Left E F σ h nx w v h' nx' low) := by
  unfold yieldA at hr
  split at hr
  · rename_i fr ps asg body pe0 h0
    rw [cond_eq_ite] at hr
    split at hr
    · rename_i hlen
      have hlen := Nat.eq_of_beq_eq_true hlen
      split at hr
      · rename_i s1 hasg
        split at hr
        · rename_i fr1 ps1 asg1 body1 pe1 h1
          split at hr
          · rename_i e s2 hbody
            split at hr
            · rename_i fr2 ps2 asg2 body2 st2 pe2 h2
              cases hr
              have hid : id < nx := by
                rcases Nat.lt_or_ge id nx with h' | h'
                · exact h'
                · rw [(hfr id h').2] at h0; cases h0
              obtain ⟨q', hq', k1, fn, tmps, D, k2, k3, k4⟩ := S.obj id _ h0
              obtain rfl := Option.some.inj (hq.symm.trans hq')
              have hva : vargs.toArray.size = ps.toArray.size := by have := VL_len hv; simp; omega
              refine ⟨fn, _, asg, body, run_yield k2 hva, ?_⟩
              simp only
              refine roundIn_of_wpIn (F := Fence.wide) trivial ?_
              have f0 : FR σ (own F σ h) w tmps.size (fr.putAll ps args) ((ps.toArray.zip vargs.toArray).foldl (fun tmps (x : Nat × Value) => tmps.setIfInBounds x.1 x.2) tmps) := by
                rw [foldl_params]
                exact FR.putAll k3.small ps args vargs fr tmps ⟨rfl, k4⟩ k3.ps hv
              refine wpIn_mono (RO _ _ _ _ hasg (some q.block) 0 F σ tmps.size { tmps := _, defers := [] } w ⟨S, hfr, f0⟩ (DfOk.nil _ _ _) (Nat.zero_le _) k3.small k3.ca (fun _ => k3.na)).1 ?_
              rintro ex a1 w1 ⟨rfl, σ1, S1, D1, T1⟩
              have hq1 : σ1 id = some q := (T1.sg id hid).trans hq
              obtain ⟨r1, m1, m2, m3, m4, m5⟩ := loop_turn S1.sim h1 hq1 .busy pe1
              refine ⟨_, run_beginRound m1 m2, ?_⟩
              have e1 : ({ r1 with state := .busy } : Loop) = { r1 with state := .busy, pending := pe1 } := by rw [← m3]
              rw [e1]
              have hn1 := T1.nxle
              have S2 : SR E F σ1 tmps.size ⟨s1.fr, s1.hp.set id (some (.loop fr1 ps1 asg1 body1 .busy pe1)), s1.nx, Nat.min s1.low id⟩ a1 (w1.putObj q.block (.loop { r1 with state := .busy, pending := pe1 })) := by
                refine ⟨m4, fun j hj => ?_, S1.fr.mono (m5 0 0).kept⟩
                obtain ⟨p1, p2⟩ := S1.fresh j hj
                exact ⟨p1, by show (s1.hp.set id _) j = none; rw [Heap.set_get, if_neg (by simp only at hj hn1; omega)]; exact p2⟩
              refine wpIn_mono (RO _ _ _ _ hbody (some q.block) 0 F σ1 tmps.size a1 _ S2 (D1.mono (m5 0 0).kept) (Nat.zero_le _) k3.small k3.cb (fun _ => k3.nb)).1 ?_
              rintro ex a3 w3 ⟨rfl, σ3, S3, _, T3⟩
              have hlow := (rsy _ _ _ _ hbody).2
              simp only at hlow T3
              have hq3 : σ3 id = some q := (T3.sg id (by simp only at hn1; omega)).trans hq1
              obtain ⟨r3, p1, p2, p3, p4, p5⟩ := loop_turn S3.sim h2 hq3 (bif (jumpOf e).isNone then .ready else .done) (jumpOf e)
              refine roundPost_of ⟨_, _, run_endRound (jumpOf e) p1, ?_⟩
              have e2 : (if (jumpOf e).isNone = true then LoopState.ready else .done) = (bif (jumpOf e).isNone then .ready else .done) := by rw [cond_eq_ite]
              rw [e2]
              have T12 := T1.trans (m5 s1.nx s1.low) (Nat.min_le_left _ _)
              have T123 := T12.trans T3 hlow
              have T := T123.trans (p5 s2.nx s2.low) (Nat.min_le_left _ _)
              have hn3 := T123.nxle
              refine ⟨.bool (jumpOf e).isNone, σ3, rfl, p4, fun j hj => ?_, by rw [V], T⟩
              obtain ⟨u1, u2⟩ := S3.fresh j hj
              exact ⟨u1, by rw [Heap.set_get, if_neg (by simp only at hj hn3; omega)]; exact u2⟩
            · cases hr
          · cases hr
        · cases hr
      · cases hr
    · cases hr
  · cases hr
end
end Go.AE
end

section
/- strings.Builder's look at itself, and sync.Once's Do. -/
set_option linter.unusedSimpArgs false
namespace Go.AE
variable {F : Nat → Prop}
section
variable {E : Env} {P : Program} {σ : Sg} {w : World}

/-- A cell of a box is written. -/
theorem box_set {h : Heap} (S : Sim E F σ h w) {id ty : Nat} {q : SI} {cs : List AV} (ho : h id = some (.box cs ty)) (hq : σ id = some q) {k : Nat} {c : AV} {v : Value} (hk : k < cs.length) (hc : c.oneCell = true) (hv : V σ (own F σ h) w c v) :
    Sim E F σ (h.set id (some (.box (cs.set k c) ty))) (w.setCell ⟨q.block, k, none⟩ v) ∧
      ∀ nx low, Tr0 F σ h nx w σ (h.set id (some (.box (cs.set k c) ty))) nx (w.setCell ⟨q.block, k, none⟩ v) (Nat.min low id) := by
  obtain ⟨q', hq', hrel⟩ := S.obj id _ ho
  obtain rfl := Option.some.inj (hq.symm.trans hq')
  obtain ⟨hb, arr, el, fz, h6, h7, h8, h9⟩ := (show _ from hrel)
  have hblk : ∀ b, b ≠ q.block → (w.setCell ⟨q.block, k, none⟩ v).heap[b]? = w.heap[b]? := fun b hne => by
    simp only [World.setCell, Array.getElem?_modify]; rw [if_neg (fun e => hne e.symm)]
  have hnew : (w.setCell ⟨q.block, k, none⟩ v).heap[q.block]? = some (.cells (arr.setIfInBounds k v) el.1 fz) := by
    simp [World.setCell, Array.getElem?_modify, h6]
  obtain ⟨S', T'⟩ := write_step (E := E) S (o := .box cs ty) (o' := .box (cs.set k c) ty) (w' := w.setCell ⟨q.block, k, none⟩ v) ho hq rfl (id + 1) (fun _ h => h) (by simp [World.setCell]) hblk rfl rfl rfl (fun O2 kp => by
    refine ⟨hb, arr.setIfInBounds k v, el, fz, hnew, by simp [h7], by simpa using h8, fun j x hj => ?_⟩
    rw [Nat.zero_add]
    rw [List.getElem?_set] at hj
    by_cases e : k = j
    · subst e
      rw [if_pos rfl, if_pos hk] at hj
      obtain rfl := Option.some.inj hj
      exact ⟨v, by simp [Array.getElem?_setIfInBounds, h7, hk], hc, V.mono kp _ _ hv⟩
    · rw [if_neg e] at hj
      obtain ⟨u, g1, g2, g3⟩ := h9 j x hj
      rw [Nat.zero_add] at g1
      exact ⟨u, by rw [Array.getElem?_setIfInBounds, if_neg e]; exact g1, g2, V.mono kp _ _ g3⟩)
  refine ⟨S', fun nx low => ⟨T'.kept, T'.os, T'.tape, T'.output, Nat.le_refl _, fun j s o _ b c d => T'.still j s o b c (fun hm => ?_), fun _ _ => rfl, fun j _ b => ?_, fun j a b => ?_, T'.fo⟩⟩
  · have : j = id := by simpa [touch, aliasO] using hm
    have := Nat.lt_of_lt_of_le d (Nat.min_le_right _ _)
    omega
  · have := Nat.lt_of_lt_of_le b (Nat.min_le_right _ _)
    rw [Heap.set_get, if_neg (by omega)]
  · have : j ≠ id := fun e => by rw [e, ho] at b; cases b
    rw [Heap.set_get, if_neg this]; exact b

theorem box_cell {h : Heap} (S : Sim E F σ h w) {id ty : Nat} {q : SI} {cs : List AV} (ho : h id = some (.box cs ty)) (hq : σ id = some q) {k : Nat} {c : AV} (hk : cs[k]? = some c) :
    q.base = 0 ∧ (∃ v, w.cell? ⟨q.block, k, none⟩ = some v ∧ V σ (own F σ h) w c v) ∧ w.frozen? ⟨q.block, k, none⟩ = false := by
  obtain ⟨q', hq', hrel⟩ := S.obj id _ ho
  obtain rfl := Option.some.inj (hq.symm.trans hq')
  obtain ⟨hb, arr, el, fz, h6, h7, h8, h9⟩ := (show _ from hrel)
  obtain ⟨v, g1, g2, g3⟩ := h9 k c hk
  rw [Nat.zero_add] at g1
  have hlt := (Array.getElem?_eq_some_iff.1 g1).1
  refine ⟨hb, ⟨v, by simp [World.cell?, h6, g1], g3⟩, ?_⟩
  have := h8 k hlt
  simp only [World.frozen?, h6]
  simpa using this

theorem drawn_same (w : World) (d : Nat) : Same0 w { w with drawn := d } := ⟨Nat.le_refl _, fun _ _ => rfl, rfl, rfl, rfl⟩

theorem specA_sound (EO : EnvOk E P) {rec : Code → St → Out} (RO : RecOk E P rec) {g : Nat} {s : Spec} (hs : SpecOk P g s) (hnp : ∀ f, s ≠ .pure f) {args : List AV} {h h' : Heap} {nx nx' low : Nat} {v : AV}
    (hr : specA E rec s args h nx = some (v, h', nx', low)) (S : Sim E F σ h w) (hfr : ∀ id, nx ≤ id → σ id = none ∧ h id = none) {vargs : List Value} (hv : VL σ (own F σ h) w false args vargs) :
    HasText P g ∧ Calls P g vargs.toArray w (Left E F σ h nx w v h' nx' low) := by
  have vt : ∀ {σ2 : Sg} {O2 : Nat → Prop} {w2 : World}, V σ2 O2 w2 (.tuple []) (.tuple #[]) := by intro σ2 O2 w2; rw [V]; exact ⟨_, rfl, by rw [VL]⟩
  cases s with
  | pure f => exact absurd rfl (hnp f)
  | copy t =>
    have hs : CopyOk P g t := hs
    refine ⟨hs.text, ?_⟩
    simp only [specA] at hr
    unfold copyA_ at hr
    simp only [cond_eq_ite] at hr
    split at hr
    · rename_i id
      simp only [VL] at hv
      obtain ⟨v1, l1, rfl, -, h1, rfl⟩ := hv
      rw [V] at h1
      obtain ⟨q, hq, rfl⟩ := h1
      split at hr
      · rename_i x ty ho
        split at hr
        · rename_i hty
          have hty := Nat.eq_of_beq_eq_true hty
          subst hty
          cases hr
          obtain ⟨q', hq', hrel⟩ := S.obj id _ ho
          obtain rfl := Option.some.inj (hq.symm.trans hq')
          obtain ⟨hb, arr, el, fz, h6, h7, h8, h9⟩ := (show _ from hrel)
          obtain ⟨u0, g0, _, g0'⟩ := h9 0 _ rfl
          obtain ⟨u1, g1, _, g1'⟩ := h9 1 _ rfl
          rw [V] at g0'; subst g0'
          have harr : arr = #[.pointer none, u1] := by
            apply Array.ext'
            have e2 : arr.size = 2 := by simpa using h7
            apply List.ext_getElem?
            intro j
            match j with
            | 0 => simpa using g0
            | 1 => simpa using g1
            | j + 2 => rw [List.getElem?_eq_none (by simp; omega), List.getElem?_eq_none (by simp)]
          rw [harr, el.2] at h6
          rw [hb]
          refine Calls.mono (hs.first q.block u1 fz w h6 (by rw [harr] at h8; exact h8)) ?_
          rintro e w' ⟨rfl, rfl⟩
          obtain ⟨S', T'⟩ := box_set S ho hq (k := 0) (c := .ptr id 0) (v := .pointer (some ⟨q.block, 0, none⟩)) (by simp) rfl (by rw [V]; exact ⟨q, hq, by rw [hb]⟩)
          refine ⟨_, σ, rfl, S', fun j hj => ⟨(hfr j hj).1, ?_⟩, vt, T' nx nx⟩
          rw [Heap.set_get, if_neg (fun e => by rw [e] at hj; rw [(hfr id hj).2] at ho; cases ho)]
          exact (hfr j hj).2
        · cases hr
      · rename_i j x ty ho
        split at hr
        · rename_i hc
          rw [Bool.and_eq_true] at hc
          have hj := Nat.eq_of_beq_eq_true hc.2
          obtain ⟨hb, ⟨u, k1, k2⟩, _⟩ := box_cell S ho hq (k := 0) (c := .ptr j 0) rfl
          rw [V] at k2
          obtain ⟨q2, hq2, rfl⟩ := k2
          subst hj
          cases hr
          obtain rfl := Option.some.inj (hq.symm.trans hq2)
          rw [hb] at k1 ⊢
          refine Calls.mono (hs.again q.block w k1) ?_
          rintro e w' ⟨rfl, rfl⟩
          exact ⟨_, σ, rfl, S, hfr, vt, Tr0.refl _ _ _ _ _⟩
        · cases hr
      · cases hr
    · cases hr
  | once =>
    have hs : OnceOk P g := hs
    refine ⟨hs.text, ?_⟩
    simp only [specA] at hr
    unfold onceA at hr
    split at hr
    · rename_i id off gf first captured
      simp only [VL] at hv
      obtain ⟨v1, l1, rfl, -, h1, v2, l2, rfl, -, h2, rfl⟩ := hv
      rw [V] at h1; rw [V] at h2
      obtain ⟨q, hq, rfl⟩ := h1
      obtain ⟨A, C, rfl, hA, hC⟩ := h2
      split at hr
      · rename_i cs ty ho
        split at hr
        · rename_i c0 c1
          split at hr
          · rename_i v3 h3 nx3 low3 hcall
            split at hr
            · rename_i cs2 ty2 ho2
              split at hr
              · rename_i d0 d1
                cases hr
                obtain ⟨hb, ⟨u0, k1, k2⟩, k3⟩ := box_cell S ho hq c0
                obtain ⟨_, ⟨u1, m1, m2⟩, m3⟩ := box_cell S ho hq c1
                rw [V] at k2 m2; subst k2 m2
                rw [hb, Nat.zero_add]
                have hlt : off + 1 < cs.length := (List.getElem?_eq_some_iff.1 c1).1
                obtain ⟨S1, T1⟩ := box_set S ho hq (k := off + 1) (c := .int .i32 1) (v := .int .i32 1) hlt rfl (by rw [V])
                have hidn : id < nx := by
                  rcases Nat.lt_or_ge id nx with h' | h'
                  · exact h'
                  · rw [(hfr id h').2] at ho; cases ho
                have hv1 := VL_append (VL.mono (T1 0 0).kept _ _ _ hA) (VL.mono (T1 0 0).kept _ _ _ hC)
                obtain ⟨ht, hcl⟩ := callA_sound EO RO hcall S1 (fun j hj => ⟨(hfr j hj).1, by rw [Heap.set_get, if_neg (by omega)]; exact (hfr j hj).2⟩) hv1
                have earr : (A.toList ++ C.toList).toArray = A ++ C := by apply Array.ext'; simp
                rw [earr] at hcl
                refine Calls.mono (hs.first q.block off gf A C w (fun w' => Left E F σ h nx w (.tuple []) (h3.set id (some (.box ((cs2.set off (.int .u32 1)).set (off + 1) (.int .i32 0)) ty2))) nx' (Nat.min low3 id) (.returned (.tuple #[])) w') ht k1 m1 k3 m3 (Calls.mono hcl ?_)) (fun e w' h => by obtain ⟨rfl, h⟩ := h; exact h)
                rintro e w2 ⟨val, σ2, rfl, S2, hfr2, _, T2⟩
                have hq2 : σ2 id = some q := (T2.sg id hidn).trans hq
                obtain ⟨_, ⟨x0, n1, n2⟩, n3⟩ := box_cell S2 ho2 hq2 d0
                obtain ⟨_, ⟨x1, p1, p2⟩, p3⟩ := box_cell S2 ho2 hq2 d1
                rw [V] at n2 p2; subst n2 p2
                refine ⟨⟨val, rfl⟩, n1, p1, n3, p3, fun d => ?_⟩
                have hl0 : off < cs2.length := (List.getElem?_eq_some_iff.1 d0).1
                have hl1 : off + 1 < cs2.length := (List.getElem?_eq_some_iff.1 d1).1
                obtain ⟨S3, T3⟩ := box_set S2 ho2 hq2 (k := off) (c := .int .u32 1) (v := .int .u32 1) hl0 rfl (by rw [V])
                have ho3 : (h3.set id (some (.box (cs2.set off (.int .u32 1)) ty2))) id = some (.box (cs2.set off (.int .u32 1)) ty2) := by rw [Heap.set_get, if_pos rfl]
                obtain ⟨S4, T4⟩ := box_set S3 ho3 hq2 (k := off + 1) (c := .int .i32 0) (v := .int .i32 0) (by simpa using hl1) rfl (by rw [V])
                have e4 : (h3.set id (some (.box (cs2.set off (.int .u32 1)) ty2))).set id (some (.box ((cs2.set off (.int .u32 1)).set (off + 1) (.int .i32 0)) ty2)) = h3.set id (some (.box ((cs2.set off (.int .u32 1)).set (off + 1) (.int .i32 0)) ty2)) := by
                  funext j; rw [Heap.set_get, Heap.set_get, Heap.set_get]; split <;> rfl
                rw [e4] at S4 T4
                have k5 := drawn_same ((w2.setCell ⟨q.block, off, none⟩ (.int .u32 1)).setCell ⟨q.block, off + 1, none⟩ (.int .i32 0)) d
                have hnx := T2.nxle
                have T12 := (T1 nx (Nat.min low3 id)).trans (T2.low (Nat.min_le_left _ _)) (Nat.le_min.2 ⟨Nat.le_refl _, Nat.min_le_right _ _⟩)
                have T123 := (T12.trans (T3 nx' (Nat.min low3 id)) (Nat.min_le_left _ _)).low (l2 := Nat.min low3 id) (Nat.le_min.2 ⟨Nat.le_refl _, Nat.min_le_right _ _⟩)
                have T1234 := (T123.trans (T4 nx' (Nat.min low3 id)) (Nat.min_le_left _ _)).low (l2 := Nat.min low3 id) (Nat.le_min.2 ⟨Nat.le_refl _, Nat.min_le_right _ _⟩)
                refine ⟨_, σ2, rfl, S4.grown k5, fun j hj => ⟨(hfr2 j hj).1, by rw [Heap.set_get, if_neg (by omega)]; exact (hfr2 j hj).2⟩, vt, ?_⟩
                exact T1234.trans (k5.tr S4 _ _) (Nat.le_refl _)
              · cases hr
            · cases hr
          · cases hr
        · cases hr
      · cases hr
    · cases hr
end
end Go.AE
end

section
/- One operation of a region, among states. -/
set_option linter.unusedSimpArgs false
namespace Go.AE
variable {F : Nat → Prop}
section
variable {E : Env} {P : Program} {σ : Sg} {w : World}

/-- One operation's step; 'aid' may be new. -/
structure Tr1 (F : Nat → Prop) (σ : Sg) (h : Heap) (nx aid : Nat) (w : World) (σ' : Sg) (h' : Heap) (nx' : Nat) (w' : World) (lo : Nat) : Prop where
  kept : Kept σ (own F σ h) w σ' (own F σ' h') w'
  os : w'.os = w.os
  tape : w'.tape = w.tape
  output : w'.output = w.output
  nxle : nx ≤ nx'
  still : ∀ id s o, id < nx → σ id = some s → h id = some o → id < lo → w'.heap[s.block]? = w.heap[s.block]?
  sg : ∀ id, id < nx → id ≠ aid → σ' id = σ id
  hp : ∀ id, id < nx → id ≠ aid → id < lo → h' id = h id
  gone : ∀ id, id < nx → id ≠ aid → h id = none → h' id = none
  fo : ∀ b, F b → w'.heap[b]? = w.heap[b]?

theorem Tr0.one {σ σ' : Sg} {h h' : Heap} {w w' : World} {nx nx' lo : Nat} (x : Tr0 F σ h nx w σ' h' nx' w' lo) (aid : Nat) : Tr1 F σ h nx aid w σ' h' nx' w' lo :=
  ⟨x.kept, x.os, x.tape, x.output, x.nxle, x.still, fun id a _ => x.sg id a, fun id a _ b => x.hp id a b, fun id a _ b => x.gone id a b, x.fo⟩

theorem Tr1.less {σ σ' : Sg} {h h' : Heap} {w w' : World} {nx nx' aid lo lo2 : Nat} (x : Tr1 F σ h nx aid w σ' h' nx' w' lo) (hl : ∀ id, id < nx → id < lo2 → id < lo) : Tr1 F σ h nx aid w σ' h' nx' w' lo2 :=
  ⟨x.kept, x.os, x.tape, x.output, x.nxle, fun id s o a b c d => x.still id s o a b c (hl id a d), x.sg, fun id a b c => x.hp id a b (hl id a c), x.gone, x.fo⟩

theorem Stp.one {σ σ' : Sg} {h h' : Heap} {w w' : World} {ts : List Nat} {aid : Nat} (x : Stp F σ h w ts aid σ' h' w') (nx : Nat) : Tr1 F σ h nx aid w σ' h' nx w' (lowest nx ts) :=
  ⟨x.kept, x.os, x.tape, x.output, Nat.le_refl _, fun id s o _ h1 h2 h3 => x.still id s o h1 h2 (fun hm => by have := (lowest_le ts nx).2 id hm; omega), fun id _ h => x.sg id h,
    fun id _ hid hl => x.hp id hid (fun hm => by have := (lowest_le ts nx).2 id hm; omega), fun id _ hid h0 => x.gone id hid h0, x.fo⟩

theorem Tr1.refl {σ : Sg} {h : Heap} {w : World} {nx aid lo : Nat} : Tr1 F σ h nx aid w σ h nx w lo :=
  ⟨⟨fun _ _ h => h, Nat.le_refl _, fun _ h => .inl h, fun _ _ _ => rfl⟩, rfl, rfl, rfl, Nat.le_refl _, fun _ _ _ _ _ _ _ => rfl, fun _ _ _ => rfl, fun _ _ _ _ => rfl, fun _ _ _ h => h, fun _ _ => rfl⟩

theorem Kept.trans {σ1 σ2 σ3 : Sg} {O1 O2 O3 : Nat → Prop} {w1 w2 w3 : World} (x : Kept σ1 O1 w1 σ2 O2 w2) (y : Kept σ2 O2 w2 σ3 O3 w3) : Kept σ1 O1 w1 σ3 O3 w3 := by
  refine ⟨fun id s hid => y.sg _ _ (x.sg _ _ hid), Nat.le_trans x.size y.size, fun b hb => ?_, fun b hb ho => ?_⟩
  · rcases y.own b hb with h | h
    · exact x.own b h
    · exact .inr (Nat.le_trans x.size h)
  · have : ¬ O2 b := fun h => (x.own b h).elim ho (by omega)
    rw [y.block b (Nat.lt_of_lt_of_le hb x.size) this, x.block b hb ho]

theorem Tr0.then {σ0 σ σ' : Sg} {h0 h h' : Heap} {w0 w w' : World} {base nx nx' aid l lo l2 : Nat} (x : Tr0 F σ0 h0 base w0 σ h nx w l) (y : Tr1 F σ h nx aid w σ' h' nx' w' lo)
    (ha : base ≤ aid) (h1 : l2 ≤ l) (h2 : ∀ id, id < base → id < l2 → id < lo) : Tr0 F σ0 h0 base w0 σ' h' nx' w' l2 := by
  have := x.nxle
  refine ⟨x.kept.trans y.kept, y.os.trans x.os, y.tape.trans x.tape, y.output.trans x.output, Nat.le_trans x.nxle y.nxle, fun id s o a b c d => ?_, fun id a => (y.sg id (by omega) (by omega)).trans (x.sg id a),
    fun id a b => (y.hp id (by omega) (by omega) (h2 id a b)).trans (x.hp id a (by omega)), fun id a b => y.gone id (by omega) (by omega) (x.gone id a b), fun b hb => (y.fo b hb).trans (x.fo b hb)⟩
  rw [← x.still id s o a b c (by omega)]
  exact y.still id s o (by omega) (x.kept.sg _ _ b) (by rw [x.hp id a (by omega)]; exact c) (h2 id a d)

theorem run_call {o : Oper} {c : Call} (hop : o.op = .call c) {f : Operand} (hc : c.callee = .value f) {a : Act} {g : Nat} {A B : Array Value} (hf : a.eval f = .func (.func g) A B)
    {fn : Func} (h1 : P.funcs[g]? = some fn) (h2 : (fn.name == "runtime.NumGoroutine") = false) (h3 : fn.body.isSome = true) :
    (execOp a.eval o).run P w = .ok (.enter g (A ++ c.args.map a.eval ++ B)) w := by
  have h3' : fn.body.isNone = false := by cases hb : fn.body <;> simp_all
  have e1 : Go.resolve a.eval c o.type = pure { target := .fn (.func g) B, args := A ++ c.args.map a.eval } := by
    simp only [Go.resolve, hc, hf, Deferred.ofValue]
  have e2 : execOp a.eval o = (do let d ← Go.resolve a.eval c o.type; invoke d.target d.args) := by simp only [execOp, hop]
  rw [e2, e1]
  simp only [Sem.run_bind, Sem.run_pure, Result.andThen_ok, invoke, callFunc, run_program, h1, h2, h3', if_false, Bool.false_eq_true]

theorem sem_call {o : Oper} {c : Call} (hop : o.op = .call c) (ro : Option Nat) (ρ : Operand → Value) : o.semAt ro ρ = execOp ρ o := Oper.semAt_eq _ _ _ (fun c' h => by rw [hop] at h; cases h)

theorem cons_get (x : Value) (l : Array Value) : (#[x] ++ l)[0]? = some x := by
  rw [Array.getElem?_append_left (by simp)]; rfl
theorem cons_tail (x : Value) (l : Array Value) : (#[x] ++ l).extract 1 (#[x] ++ l).size = l := by
  obtain ⟨l⟩ := l
  apply Array.ext'
  simp [List.extract_eq_take_drop]

theorem run_enter {g : Nat} {args : Array Value} {fn : Func} (h1 : P.funcs[g]? = some fn) (h2 : (fn.name == "runtime.NumGoroutine") = false) (h3 : fn.body.isSome = true) :
    (callFunc g args).run P w = .ok (.enter g args) w := by
  have h3' : fn.body.isNone = false := by cases hb : fn.body <;> simp_all
  simp only [callFunc, Sem.run_bind, run_program, Result.andThen_ok, h1, h2, h3', if_false, Bool.false_eq_true, Sem.run_pure]

theorem run_callfn {o : Oper} {c : Call} (hop : o.op = .call c) {f : Operand} (hc : c.callee = .value f) {a : Act} {g : Nat} {A B : Array Value} (hf : a.eval f = .func (.func g) A B) :
    (execOp a.eval o).run P w = (callFunc g (A ++ c.args.map a.eval ++ B)).run P w := by
  have e1 : Go.resolve a.eval c o.type = pure { target := .fn (.func g) B, args := A ++ c.args.map a.eval } := by
    simp only [Go.resolve, hc, hf, Deferred.ofValue]
  have e2 : execOp a.eval o = (do let d ← Go.resolve a.eval c o.type; invoke d.target d.args) := by simp only [execOp, hop]
  rw [e2, e1]
  simp only [Sem.run_bind, Sem.run_pure, Result.andThen_ok, invoke]

theorem run_yieldcall {o : Oper} {c : Call} (hop : o.op = .call c) {f : Operand} (hc : c.callee = .value f) {a : Act} {l : Nat} (hf : a.eval f = .func (.yield l) #[] #[]) :
    (execOp a.eval o).run P w = (Instr.yield l (c.args.map a.eval)).run P w := by
  have e1 : Go.resolve a.eval c o.type = pure { target := .fn (.yield l) #[], args := #[] ++ c.args.map a.eval } := by
    simp only [Go.resolve, hc, hf, Deferred.ofValue]
  have e2 : execOp a.eval o = (do let d ← Go.resolve a.eval c o.type; invoke d.target d.args) := by simp only [execOp, hop]
  rw [e2, e1]
  simp only [Sem.run_bind, Sem.run_pure, Result.andThen_ok, invoke, Array.empty_append]

theorem opA_not_defer {fr : Tr} {h h' : Heap} {aid : Nat} {op : Op} {v : AV} {ts : List Nat} (hr : opA E fr h aid op = some (v, h', ts)) (c : Call) : op ≠ .defer c := by
  rintro rfl; simp [opA] at hr

theorem opV_sound (EO : EnvOk E P) {rec : Code → St → Out} (RO : RecOk E P rec) (rsy : RecSyn rec) {fr : Tr} {a : Act} {h h' : Heap} {nx nx' aid : Nat} {los : List Nat} {o : Oper} {v : AV} {r : Rec}
    (hr : opV E rec fr h nx aid o.op = some (v, h', nx', los, r)) (S : Sim E F σ h w) (hfr : ∀ id, nx ≤ id → σ id = none ∧ h id = none) (hs : σ aid = none) (ha : h aid = none) (hlt : aid < nx)
    (hf : OA σ (own F σ h) w fr a o.op.operands.toList) {K : Act → World → Prop} {Q : Exit → Act → World → Prop} {ro : Option Nat}
    (hK : ∀ σ' val w', Sim E F σ' h' w' → (∀ id, nx' ≤ id → σ' id = none ∧ h' id = none) → V σ' (own F σ' h') w' v val → Tr1 F σ h nx aid w σ' h' nx' w' (lowest nx los) → K (a.put o.dst val) w') : o.wpIn (GF ro) 0 P a w K Q := by
  refine ⟨fun _ _ => trivial, ?_⟩
  unfold opV at hr
  split at hr
  · rename_i c hic
    have hop : o.op = .call c := by
      unfold isCall at hic
      split at hic
      · rename_i c' hc'
        split at hic
        · cases hic
        · cases hic; exact hc'
      · cases hic
    split at hr
    · rename_i cal args hcal
      split at hr
      · rename_i hcall
        cases hr
        rw [sem_call hop]
        unfold calleeA at hcal
        split at hcal
        · rename_i f hcv
          split at hcal
          · rename_i g' first captured hfv
            split at hcal
            · rename_i as has
              cases hcal
              rw [hop] at hf
              have hfe := hf f (by simp [Op.operands, Call.operands, hcv]) _ hfv
              rw [V] at hfe
              obtain ⟨A, B, hfe, hA, hB⟩ := hfe
              have hargs := mapO_opnd (σ := σ) (w := w) (O := own F σ h) (fr := fr) (a := a) (fun y hy => hf y (by simp [Op.operands, Call.operands] at hy ⊢; simp [hy])) has
              have hv := VL_append (VL_append hA hargs) hB
              have earr : (A.toList ++ List.map a.eval c.args.toList ++ B.toList).toArray = A ++ c.args.map a.eval ++ B := by
                apply Array.ext'; simp
              unfold callC at hcall
              simp only at hcall
              split at hcall
              · rename_i fx hfx
                have hsx := EO.ext g' fx hfx
                cases fx with
                | pure f =>
                  simp only [specA] at hcall
                  split at hcall
                  · rename_i rx hrx
                    cases hcall
                    obtain ⟨val, m1, m2⟩ := hsx _ _ hrx σ (own F σ h) w _ hv
                    rw [earr] at m1
                    rw [run_callfn hop hcv hfe, m1]
                    exact hK σ val w S hfr m2 Tr1.refl
                  · cases hcall
                | copy t =>
                  obtain ⟨⟨fn, k1, k2, k3⟩, k4⟩ := specA_sound EO RO hsx (fun f h => by cases h) hcall S hfr hv
                  rw [run_call hop hcv hfe k1 k2 k3, Oper.uponIn_enter]
                  rw [earr] at k4
                  refine ⟨fun h => (by cases h), CallsIn.mono (callsIn_wide.2 k4 : CallsIn Fence.wide (0 - 1) P g' _ w _) ?_⟩
                  rintro e w' ⟨val, σ', rfl, m1, m2, m3, m4⟩
                  exact hK σ' val w' m1 m2 m3 ((m4.one aid).less fun id _ h => call_low h)
                | once =>
                  obtain ⟨⟨fn, k1, k2, k3⟩, k4⟩ := specA_sound EO RO hsx (fun f h => by cases h) hcall S hfr hv
                  rw [run_call hop hcv hfe k1 k2 k3, Oper.uponIn_enter]
                  rw [earr] at k4
                  refine ⟨fun h => (by cases h), CallsIn.mono (callsIn_wide.2 k4 : CallsIn Fence.wide (0 - 1) P g' _ w _) ?_⟩
                  rintro e w' ⟨val, σ', rfl, m1, m2, m3, m4⟩
                  exact hK σ' val w' m1 m2 m3 ((m4.one aid).less fun id _ h => call_low h)
              · obtain ⟨⟨fn, k1, k2, k3⟩, k4⟩ := callA_sound EO RO hcall S hfr hv
                rw [run_call hop hcv hfe k1 k2 k3, Oper.uponIn_enter]
                rw [earr] at k4
                refine ⟨fun h => (by cases h), CallsIn.mono (callsIn_wide.2 k4 : CallsIn Fence.wide (0 - 1) P g' _ w _) ?_⟩
                rintro e w' ⟨val, σ', rfl, m1, m2, m3, m4⟩
                exact hK σ' val w' m1 m2 m3 ((m4.one aid).less fun id _ h => call_low h)
            · cases hcal
          · rename_i id hfv
            split at hcal
            · rename_i as has
              cases hcal
              rw [hop] at hf
              have hfe := hf f (by simp [Op.operands, Call.operands, hcv]) _ hfv
              rw [V] at hfe
              obtain ⟨q, hq, hfe⟩ := hfe
              have hargs := mapO_opnd (σ := σ) (w := w) (O := own F σ h) (fr := fr) (a := a) (fun y hy => hf y (by simp [Op.operands, Call.operands] at hy ⊢; simp [hy])) has
              obtain ⟨fn, tmps, asg, body, k1, k2⟩ := yieldA_sound RO rsy hcall S hfr hargs hq
              have earr : (List.map a.eval c.args.toList).toArray = c.args.map a.eval := by apply Array.ext'; simp
              rw [earr] at k1
              rw [run_yieldcall hop hcv hfe, k1, Oper.uponIn_round]
              refine ⟨fun h => (by cases h), RoundIn.mono k2 ?_⟩
              rintro e w' ⟨val, σ', rfl, m1, m2, m3, m4⟩
              exact hK σ' val w' m1 m2 m3 ((m4.one aid).less fun id _ h => call_low h)
            · cases hcal
          · cases hcal
        · rename_i f name hcv
          split at hcal
          · rename_i t id off hfv
            split at hcal
            · rename_i g' hm
              split at hcal
              · rename_i as has
                cases hcal
                rw [hop] at hf
                have hfe := hf f (by simp [Op.operands, Call.operands, hcv]) _ hfv
                rw [V] at hfe
                obtain ⟨vx, hfe, hvx⟩ := hfe
                have hargs := mapO_opnd (σ := σ) (w := w) (O := own F σ h) (fr := fr) (a := a) (fun y hy => hf y (by simp [Op.operands, Call.operands] at hy ⊢; simp [hy])) has
                have hv : VL σ (own F σ h) w false (.ptr id off :: as) (vx :: List.map a.eval c.args.toList) := by
                  rw [VL]; exact ⟨vx, _, rfl, fun h => (by cases h), hvx, hargs⟩
                rw [V] at hvx
                obtain ⟨q, hq, rfl⟩ := hvx
                have hrun : (execOp a.eval o).run P w = (callFunc g' (#[.pointer (some ⟨q.block, q.base + off, none⟩)] ++ c.args.map a.eval)).run P w := by
                  have e1 : Go.resolve a.eval c o.type = pure { target := .fn (.method name) #[], args := #[a.eval f] ++ c.args.map a.eval } := by
                    simp only [Go.resolve, hcv]
                  have e2 : execOp a.eval o = (do let d ← Go.resolve a.eval c o.type; invoke d.target d.args) := by rw [execOp, hop]
                  rw [e2, e1, hfe]
                  have e3 := cons_get (.iface t (.pointer (some ⟨q.block, q.base + off, none⟩))) (c.args.map a.eval)
                  have e4 := cons_tail (.iface t (.pointer (some ⟨q.block, q.base + off, none⟩))) (c.args.map a.eval)
                  simp only [Sem.run_bind, Sem.run_pure, Result.andThen_ok, invoke, e3, e4, callMethod, run_program, EO.meth t name g' hm]
                have earr : (Value.pointer (some ⟨q.block, q.base + off, none⟩) :: List.map a.eval c.args.toList).toArray = #[.pointer (some ⟨q.block, q.base + off, none⟩)] ++ c.args.map a.eval := by
                  apply Array.ext'; simp
                unfold callC at hcall
                simp only at hcall
                split at hcall
                · rename_i fx hfx
                  have hsx := EO.ext g' fx hfx
                  cases fx with
                  | pure f =>
                    simp only [specA] at hcall
                    split at hcall
                    · rename_i rx hrx
                      cases hcall
                      obtain ⟨val, m1, m2⟩ := hsx _ _ hrx σ (own F σ h) w _ hv
                      rw [earr] at m1
                      rw [hrun, m1]
                      exact hK σ val w S hfr m2 Tr1.refl
                    · cases hcall
                  | copy t =>
                    obtain ⟨⟨fn, k1, k2, k3⟩, k4⟩ := specA_sound EO RO hsx (fun f h => by cases h) hcall S hfr hv
                    rw [hrun, run_enter k1 k2 k3, Oper.uponIn_enter]
                    rw [earr] at k4
                    refine ⟨fun h => (by cases h), CallsIn.mono (callsIn_wide.2 k4 : CallsIn Fence.wide (0 - 1) P g' _ w _) ?_⟩
                    rintro e w' ⟨val, σ', rfl, m1, m2, m3, m4⟩
                    exact hK σ' val w' m1 m2 m3 ((m4.one aid).less fun id _ h => call_low h)
                  | once =>
                    obtain ⟨⟨fn, k1, k2, k3⟩, k4⟩ := specA_sound EO RO hsx (fun f h => by cases h) hcall S hfr hv
                    rw [hrun, run_enter k1 k2 k3, Oper.uponIn_enter]
                    rw [earr] at k4
                    refine ⟨fun h => (by cases h), CallsIn.mono (callsIn_wide.2 k4 : CallsIn Fence.wide (0 - 1) P g' _ w _) ?_⟩
                    rintro e w' ⟨val, σ', rfl, m1, m2, m3, m4⟩
                    exact hK σ' val w' m1 m2 m3 ((m4.one aid).less fun id _ h => call_low h)
                · obtain ⟨⟨fn, k1, k2, k3⟩, k4⟩ := callA_sound EO RO hcall S hfr hv
                  rw [hrun, run_enter k1 k2 k3, Oper.uponIn_enter]
                  rw [earr] at k4
                  refine ⟨fun h => (by cases h), CallsIn.mono (callsIn_wide.2 k4 : CallsIn Fence.wide (0 - 1) P g' _ w _) ?_⟩
                  rintro e w' ⟨val, σ', rfl, m1, m2, m3, m4⟩
                  exact hK σ' val w' m1 m2 m3 ((m4.one aid).less fun id _ h => call_low h)
              · cases hcal
            · cases hcal
          · cases hcal
        · cases hcal
      · cases hr
    · cases hr
  · split at hr
    · rename_i ts ho
      cases hr
      rw [Oper.semAt_eq _ _ _ (opA_not_defer ho)]
      obtain ⟨σ', val, w', k1, k2⟩ := opA_sound EO.ty S hs ha hf ho
      have hfr' : ∀ id, nx ≤ id → σ' id = none ∧ h' id = none := fun id hid => by
        have hne : id ≠ aid := by omega
        exact ⟨by rw [k2.stp.sg id hne]; exact (hfr id hid).1, k2.stp.gone id hne (hfr id hid).2⟩
      have := hK σ' val w' k2.sim hfr' k2.v (k2.stp.one nx)
      rcases k1 with k1 | ⟨k1, rfl⟩
      · rw [k1]; exact this
      · rw [k1]; exact this
    · cases hr

theorem V_bool {O : Nat → Prop} {x : AV} {b : Bool} (h : V σ O w x (.bool b)) : x = .bool b := by
  cases x <;> simp only [V, reduceCtorEq, Value.bool.injEq, false_and, and_false, exists_false] at h
  · rw [h]

/-- Is it wanted? -/
theorem wanted_sound {O : Nat → Prop} {ops : Array Oper} {fr : Tr} {a : Act} {o : Oper} {n : Nat} (hsz : a.tmps.size = n) (hdst : ∀ (j : Nat) p d, ops[j]? = some p → p.dst = some d → d < n)
    (hg : ∀ (j : Nat) w' p d, o.guard = some (j, w') → ops[j]? = some p → p.dst = some d → V σ O w (fr.get d) (a.tmps.getD d undef)) :
    Region.wanted o (yielded ops a.tmps) = wantedA ops fr o := by
  unfold Region.wanted wantedA
  cases hgd : o.guard with
  | none => rfl
  | some jw =>
    obtain ⟨j, want⟩ := jw
    simp only
    unfold yielded
    cases hp : ops[j]? with
    | none => simp
    | some p =>
      simp only [Option.bind_some]
      cases hd : p.dst with
      | none => simp
      | some d =>
        have hv := hg j want p d hgd hp hd
        have hlt : @LT.lt Nat _ d n := hdst j p d hp hd
        have e : a.tmps[d]? = some (a.tmps.getD d undef) := by
          rw [Array.getD_eq_getD_getElem?]
          cases hx : a.tmps[d]? with
          | none => exact absurd (Array.getElem?_eq_none_iff.1 hx) (by omega)
          | some x => rfl
        simp only [Option.bind_some, e]
        generalize a.tmps.getD d undef = va at hv
        cases hb : fr.get d with
        | bool b =>
          rw [hb, V] at hv; subst hv
          cases b <;> cases want <;> rfl
        | _ =>
          rw [hb] at hv
          cases va with
          | bool b => exact absurd (V_bool hv) (by simp)
          | _ => rfl
end
end Go.AE
end

section
/- A region in the order of its text. -/
set_option linter.unusedSimpArgs false
namespace Go.AE
variable {F : Nat → Prop}

/-- A region's slots are there. -/
def DstOk (n : Nat) (ops : Array Oper) : Prop := ∀ (j : Nat) (p : Oper) d, ops[j]? = some p → p.dst = some d → @LT.lt Nat _ d n

theorem regionOk_dst {n : Nat} {ops : Array Oper} {draw : Bool} (h : regionOk n ops draw = true) : DstOk n ops := by
  intro j p d hp hd
  unfold regionOk at h
  rw [Bool.and_eq_true, List.all_eq_true] at h
  have hm : p ∈ ops.toList := by
    have : ops.toList[j]? = some p := by simpa using hp
    exact List.mem_of_getElem? this
  have := h.1 p hm
  rw [hd] at this
  simpa [Nat.blt_eq] using this

section
variable {E : Env} {P : Program} {σ : Sg} {w : World}

theorem put_defers (a : Act) (d : Option Tmp) (v : Value) : (a.put d v).defers = a.defers := by cases d <;> rfl

theorem FR.put {O : Nat → Prop} {n : Nat} {fr : Tr} {a : Act} {v : Value} {x : AV} {dst : Option Tmp} (h : FR σ O w n fr a.tmps) (hn : n < 1048575) (hd : ∀ d, dst = some d → @LT.lt Nat _ d n) (hv : V σ O w x v) :
    FR σ O w n (putA fr dst x) (a.put dst v).tmps := by
  cases dst with
  | none => exact h
  | some d => exact h.set (hd d rfl) hn hv

theorem runOps_sound (EO : EnvOk E P) {rec : Code → St → Out} (RO : RecOk E P rec) (rsy : RecSyn rec) {ro : Option Nat} {ops : Array Oper} {n : Nat} (hn : n < 1048575) (hdst : DstOk n ops) {base : Nat} {σ0 : Sg} {h0 : Heap} {w0 : World} {ds : List Deferred}
    {Q : Exit → Act → World → Prop} : ∀ (l : List Oper) (i : Nat) (st st' : St) (rs : List Rec) (a : Act) (w : World) (σ : Sg), ops.toList.drop i = l → i ≤ ops.size → runOps E rec ops base i l st = some (st', rs) →
    SR E F σ n st a w → base + ops.size ≤ st.nx → (∀ k, i ≤ k → k < ops.size → σ (base + k) = none ∧ st.hp (base + k) = none) → a.defers = ds →
    Tr0 F σ0 h0 base w0 σ st.hp st.nx w st.low →
    (∀ σ' a' w', SR E F σ' n st' a' w' → a'.defers = ds → Tr0 F σ0 h0 base w0 σ' st'.hp st'.nx w' st'.low → Q .normal a' w') → wpOpsIn (GF ro) 0 P ops Q (List.range' i l.length) a w
  | [], i, st, st', rs, a, w, σ, _, _, hr, S, _, _, hd, T, hQ => by
    unfold runOps at hr; cases hr
    exact hQ σ a w S hd T
  | o :: l, i, st, st', rs, a, w, σ, hl, hi, hr, S, hb, hk, hd, T, hQ => by
    have hlen : (ops.toList.drop i).length = (o :: l).length := by rw [hl]
    simp only [List.length_drop, Array.length_toList, List.length_cons] at hlen
    have hoi : ops[i]? = some o := by
      have : (ops.toList.drop i)[0]? = some o := by rw [hl]; rfl
      rw [List.getElem?_drop] at this
      simpa using this
    have hl' : ops.toList.drop (i + 1) = l := by
      have := congrArg (List.drop 1) hl
      rw [List.drop_drop] at this
      simpa [Nat.add_comm] using this
    have hdo : ∀ d, o.dst = some d → @LT.lt Nat _ d n := fun d hd => hdst i o d hoi hd
    simp only [runOps] at hr
    split at hr
    · rename_i st1 r h1
      split at hr
      · rename_i st2 rs2 h2
        cases hr
        rw [List.length_cons, List.range'_succ, wpOpsIn_cons]
        unfold wpOpIn
        simp only [hoi]
        have hw : Region.wanted o (yielded ops a.tmps) = wantedA ops st.fr o :=
          wanted_sound (σ := σ) (w := w) (O := own F σ st.hp) S.fr.size hdst (fun j w' p d _ _ _ => S.fr.get d)
        rw [hw]
        unfold stepOp at h1
        rw [cond_eq_ite] at h1
        split at h1
        · rename_i hwt
          rw [if_pos hwt]
          split at h1
          · rename_i v h' nx' los r' ho
            cases h1
            obtain ⟨k1, k2⟩ := hk i (Nat.le_refl _) (by omega)
            refine opV_sound EO RO rsy ho S.sim S.fresh k1 k2 (by omega) (S.fr.oa _) ?_
            intro σ' val w' S' f' hv T'
            refine runOps_sound EO RO rsy hn hdst l (i + 1) _ st' rs2 _ w' σ' hl' (by omega) h2 ⟨S', f', ?_⟩ (Nat.le_trans hb T'.nxle) (fun k hk1 hk2 => ?_) (by rw [put_defers]; exact hd) ?_ hQ
            · exact (S.fr.mono T'.kept).put hn hdo hv
            · obtain ⟨m1, m2⟩ := hk k (by omega) hk2
              exact ⟨(T'.sg _ (by omega) (by omega)).trans m1, T'.gone _ (by omega) (by omega) m2⟩
            · exact T.then T' (by omega) (lowest_le _ _).1 (fun id h1 h2 => low_of (by omega) h2)
          · cases h1
        · rename_i hwt
          rw [if_neg hwt]
          cases h1
          refine ⟨fun _ _ => trivial, ?_⟩
          refine runOps_sound EO RO rsy hn hdst l (i + 1) _ st' rs2 _ w σ hl' (by omega) h2 ⟨S.sim, S.fresh, S.fr.put hn hdo V.undef⟩ hb (fun k hk1 hk2 => hk k (by omega) hk2) (by rw [put_defers]; exact hd) T hQ
      · cases hr
    · cases hr
end
end Go.AE
end

section
/- Memory that a part of the run does not know of. -/
set_option linter.unusedSimpArgs false
namespace Go.AE
variable {F : Nat → Prop}
section
variable {E : Env} {P : Program} {σ σ' : Sg} {w w' : World}

/-- The others' blocks, and those of what is hid. -/
def hidF (F : Nat → Prop) (σ : Sg) (hL H : Heap) (b : Nat) : Prop := F b ∨ ∃ id o s, H id = none ∧ hL id = some o ∧ σ id = some s ∧ s.block = b

theorem own_hid {hL H : Heap} (hs : ∀ id o, H id = some o → hL id = some o) : own (hidF F σ hL H) σ H = own F σ hL := by
  funext b
  apply propext
  constructor
  · rintro ((h | ⟨id, o, s, _, h2, h3, h4⟩) | ⟨id, o, s, h2, h3, h4⟩)
    · exact .inl h
    · exact .inr ⟨id, o, s, h2, h3, h4⟩
    · exact .inr ⟨id, o, s, hs _ _ h2, h3, h4⟩
  · rintro (h | ⟨id, o, s, h2, h3, h4⟩)
    · exact .inl (.inl h)
    · cases hH : H id with
      | none => exact .inl (.inr ⟨id, o, s, hH, h2, h3, h4⟩)
      | some o' => exact .inr ⟨id, o', s, hH, h3, h4⟩

theorem Sim.hide {hL H : Heap} (S : Sim E F σ hL w) (hs : ∀ id o, H id = some o → hL id = some o) (hx : ∀ id o, H id = none → hL id = some o → fresh o) : Sim E (hidF F σ hL H) σ H w := by
  have ho := own_hid (F := F) (σ := σ) hs
  refine ⟨fun id o h => ?_, fun i j oi oj si sj h1 h2 => S.inj i j oi oj si sj (hs _ _ h1) (hs _ _ h2), fun j oj k h1 h2 => ?_, fun g cs hg => ?_, fun b hb => ?_⟩
  · rw [ho]; exact S.obj id o (hs _ _ h)
  · obtain ⟨a1, a2⟩ := S.ali j oj k (hs _ _ h1) h2
    exact ⟨a1, fun ok hk => a2 ok (hs _ _ hk)⟩
  · rw [ho]; exact S.glob g cs hg
  · rcases hb with hb | ⟨id, o, s, h1, h2, h3, rfl⟩
    · exact ⟨(S.fo b hb).1, fun id o s h1 h2 => (S.fo b hb).2 id o s (hs _ _ h1) h2⟩
    · obtain ⟨s', k1, k2⟩ := S.obj id o h2
      obtain rfl := Option.some.inj (h3.symm.trans k1)
      refine ⟨k2.lt, fun i oi si h4 h5 h6 => ?_⟩
      have hne : i ≠ id := fun e => by rw [e, h1] at h4; cases h4
      obtain ⟨f1, f2⟩ := hx id o h1 h2
      rcases S.inj i id oi o si s (hs _ _ h4) h2 h5 h3 hne h6 with ⟨_, h⟩ | ⟨h, _⟩
      · exact f2 _ h
      · rw [f1] at h; cases h

/-- What was hid, put back. -/
noncomputable def back (hL H H' : Heap) : Heap := fun id => open Classical in if H id = none ∧ hL id ≠ none then hL id else H' id

theorem back_hid {hL H H' : Heap} {id : Nat} (h1 : H id = none) (h2 : hL id ≠ none) : back hL H H' id = hL id := by unfold back; rw [if_pos ⟨h1, h2⟩]
theorem back_not {hL H H' : Heap} {id : Nat} (h : ¬ (H id = none ∧ hL id ≠ none)) : back hL H H' id = H' id := by unfold back; rw [if_neg h]

theorem Sim.unhide {hL H H' : Heap} (S : Sim E F σ hL w) (hs : ∀ id o, H id = some o → hL id = some o) (hx : ∀ id o, H id = none → hL id = some o → fresh o)
    {nx nx' aid lo : Nat} (S' : Sim E (hidF F σ hL H) σ' H' w') (T : Tr1 (hidF F σ hL H) σ H nx aid w σ' H' nx' w' lo)
    (hid : ∀ id, H id = none → hL id ≠ none → id < nx ∧ id ≠ aid) (hal : ∀ j oj k, H' j = some oj → aliasIs oj k → ¬ (H k = none ∧ hL k ≠ none)) :
    Sim E F σ' (back hL H H') w' ∧ own F σ' (back hL H H') = own (hidF F σ hL H) σ' H' ∧ Tr1 F σ hL nx aid w σ' (back hL H H') nx' w' lo := by
  have ho := own_hid (F := F) (σ := σ) hs
  have hsx : ∀ id, H id = none → hL id ≠ none → σ' id = σ id := fun id h1 h2 => T.sg id (hid id h1 h2).1 (hid id h1 h2).2
  have hgx : ∀ id, H id = none → hL id ≠ none → H' id = none := fun id h1 h2 => T.gone id (hid id h1 h2).1 (hid id h1 h2).2 h1
  have hxs : ∀ id o, H id = none → hL id = some o → ∃ s, σ id = some s ∧ σ' id = some s ∧ ObjRel σ (own F σ hL) w s o ∧ hidF F σ hL H s.block := fun id o h1 h2 => by
    obtain ⟨s, k1, k2⟩ := S.obj id o h2
    exact ⟨s, k1, by rw [hsx id h1 (by rw [h2]; simp)]; exact k1, k2, .inr ⟨id, o, s, h1, h2, k1, rfl⟩⟩
  have hget : ∀ {id o}, back hL H H' id = some o → (H id = none ∧ hL id = some o) ∨ (¬ (H id = none ∧ hL id ≠ none) ∧ H' id = some o) := fun {id o} h => by
    by_cases e : H id = none ∧ hL id ≠ none
    · rw [back_hid e.1 e.2] at h; exact .inl ⟨e.1, h⟩
    · rw [back_not e] at h; exact .inr ⟨e, h⟩
  have ho' : own F σ' (back hL H H') = own (hidF F σ hL H) σ' H' := by
    funext b
    apply propext
    constructor
    · rintro (h | ⟨id, o, s, h2, h3, rfl⟩)
      · exact .inl (.inl h)
      · rcases hget h2 with ⟨k1, k2⟩ | ⟨_, k2⟩
        · obtain ⟨s', m1, m2, _, m4⟩ := hxs id o k1 k2
          obtain rfl := Option.some.inj (h3.symm.trans m2)
          exact .inl m4
        · exact .inr ⟨id, o, s, k2, h3, rfl⟩
    · rintro ((h | ⟨id, o, s, h1, h2, h3, rfl⟩) | ⟨id, o, s, h2, h3, rfl⟩)
      · exact .inl h
      · have hne : hL id ≠ none := by rw [h2]; simp
        exact .inr ⟨id, o, s, by rw [back_hid h1 hne]; exact h2, by rw [hsx id h1 hne]; exact h3, rfl⟩
      · refine .inr ⟨id, o, s, ?_, h3, rfl⟩
        rw [back_not (fun e => by rw [hgx id e.1 e.2] at h2; cases h2)]; exact h2
  have hk : Kept σ (own F σ hL) w σ' (own F σ' (back hL H H')) w' := by rw [ho', ← ho]; exact T.kept
  refine ⟨⟨fun id o h => ?_, fun i j oi oj si sj h1 h2 h3 h4 hne heq => ?_, fun j oj k h1 h2 => ?_, fun g cs hg => ?_, fun b hb => ?_⟩, ho', hk, T.os, T.tape, T.output, T.nxle, ?_, T.sg, ?_, ?_, fun b hb => T.fo b (.inl hb)⟩
  · rcases hget h with ⟨k1, k2⟩ | ⟨_, k2⟩
    · obtain ⟨s, m1, m2, m3, m4⟩ := hxs id o k1 k2
      exact ⟨s, m2, m3.mono hk (T.fo _ m4)⟩
    · rw [ho']; exact S'.obj id o k2
  · rcases hget h1 with ⟨k1, k2⟩ | ⟨_, k2⟩ <;> rcases hget h2 with ⟨m1, m2⟩ | ⟨_, m2⟩
    · obtain ⟨s1, a1, a2, _⟩ := hxs i oi k1 k2
      obtain ⟨s2, b1, b2, _⟩ := hxs j oj m1 m2
      obtain rfl := Option.some.inj (h3.symm.trans a2)
      obtain rfl := Option.some.inj (h4.symm.trans b2)
      exact S.inj i j oi oj _ _ k2 m2 a1 b1 hne heq
    · obtain ⟨s1, a1, a2, _, a4⟩ := hxs i oi k1 k2
      obtain rfl := Option.some.inj (h3.symm.trans a2)
      exact absurd heq.symm ((S'.fo _ a4).2 j oj sj m2 h4)
    · obtain ⟨s1, a1, a2, _, a4⟩ := hxs j oj m1 m2
      obtain rfl := Option.some.inj (h4.symm.trans a2)
      exact absurd heq ((S'.fo _ a4).2 i oi si k2 h3)
    · exact S'.inj i j oi oj si sj k2 m2 h3 h4 hne heq
  · rcases hget h1 with ⟨k1, k2⟩ | ⟨_, k2⟩
    · exact absurd h2 ((hx j oj k1 k2).2 k)
    · obtain ⟨a1, a2⟩ := S'.ali j oj k k2 h2
      refine ⟨a1, fun ok hok => ?_⟩
      rcases hget hok with ⟨m1, m2⟩ | ⟨_, m2⟩
      · exact absurd ⟨m1, by rw [m2]; simp⟩ (hal j oj k k2 h2)
      · exact a2 ok m2
  · rw [ho']; exact S'.glob g cs hg
  · obtain ⟨f1, f2⟩ := S'.fo b (.inl hb)
    refine ⟨f1, fun id o s h1 h2 => ?_⟩
    rcases hget h1 with ⟨k1, k2⟩ | ⟨_, k2⟩
    · obtain ⟨s1, a1, a2, _⟩ := hxs id o k1 k2
      obtain rfl := Option.some.inj (h2.symm.trans a2)
      exact (S.fo b hb).2 id o _ k2 a1
    · exact f2 id o s k2 h2
  · intro id s o a b c d
    cases hH : H id with
    | none => exact T.fo _ (.inr ⟨id, o, s, hH, c, b, rfl⟩)
    | some o' => exact T.still id s o' a b hH d
  · intro id a b c
    by_cases e : H id = none ∧ hL id ≠ none
    · exact back_hid e.1 e.2
    · rw [back_not e, T.hp id a b c]
      cases hH : H id with
      | none =>
        cases hh : hL id with
        | none => rfl
        | some o => exact absurd ⟨hH, by rw [hh]; simp⟩ e
      | some o => exact (hs id o hH).symm
  · intro id a b c
    have e : ¬ (H id = none ∧ hL id ≠ none) := fun e => e.2 c
    rw [back_not e]
    refine T.gone id a b ?_
    cases hH : H id with
    | none => rfl
    | some o => rw [hs id o hH] at c; cases c
end
end Go.AE
end
