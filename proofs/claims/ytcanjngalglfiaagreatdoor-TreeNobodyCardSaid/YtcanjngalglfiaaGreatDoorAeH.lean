/- The guard answers for every act; what an argument reads as stands for the evaluator values. -/
import Derived.Test.YtcanjngalglfiaaGreatDoorPTreeNobodyx4
import Derived.Test.YtcanjngalglfiaaGreatDoorAeB
import Derived.Test.YtcanjngalglfiaaGreatDoorAeG
import Derived.Deep.Slices
import Derived.Deep.Strs
section
/- The guards answer: they end, whatever the lists hold. -/
set_option maxRecDepth 100000
namespace Go.Proofs.YtcanjngalglfiaaGreatDoor.PTreeNobody
open Go.RowKit

theorem w64 (n : Int) (h0 : 0 ≤ n) (h1 : n ≤ 1000) : wrap64 n = n := by unfold wrap64; omega

theorem few18_l (x0 : List (List S65)) (hx : (x0.length : Int) ≤ 10) : ∀ k : Nat,
    (∀ x3 : Int, 0 ≤ x3 → x3 ≤ 10 → 30 * (10 - x3) + 1 ≤ (k : Int) → ∃ r, toponymlaw18_Few.l0 k x0 x3 = some r) ∧
    (∀ x3 x4 : Int, 0 ≤ x3 → x3 < (x0.length : Int) → 0 ≤ x4 → x4 ≤ 10 → ((rd_L7 x0 x3).length : Int) ≤ 10 → 30 * (10 - x3) - x4 ≤ (k : Int) → ∃ r, toponymlaw18_Few.l1 k x0 x3 x4 = some r)
  | 0 => ⟨fun x3 _ _ h => absurd h (by omega), fun x3 x4 h0 h1 h2 h3 h4 h => absurd h (by omega)⟩
  | k + 1 => by
    obtain ⟨i0, i1⟩ := few18_l x0 hx k
    constructor
    · intro x3 h0 h1 hk
      rw [toponymlaw18_Few.l0]
      split
      · try rw [if_pos h0]
        split
        · exact ⟨_, rfl⟩
        · exact i1 x3 0 h0 (by assumption) (by omega) (by omega) (by omega) (by omega)
      · exact ⟨_, rfl⟩
    · intro x3 x4 h0 h1 h2 h3 h4 hk
      rw [toponymlaw18_Few.l1, if_pos h0, if_pos h1]
      split
      · try rw [if_pos h2]
        split
        · exact ⟨_, rfl⟩
        · split
          · exact ⟨_, rfl⟩
          · rw [w64 _ (by omega) (by omega)]
            exact i1 x3 (x4 + 1) h0 h1 (by omega) (by omega) h4 (by omega)
      · rw [w64 _ (by omega) (by omega)]
        exact i0 (x3 + 1) (by omega) (by omega) (by omega)

theorem few18 (x0 : List (List S65)) (k : Nat) (hk : 301 ≤ k) : ∃ r, toponymlaw18_Few.f k x0 = some r := by
  unfold toponymlaw18_Few.f
  split
  · exact ⟨_, rfl⟩
  · exact (few18_l x0 (by omega) k).1 0 (by omega) (by omega) (by omega)

theorem few29_l (y : List (List S65)) (x0 : List S82) (hx : (x0.length : Int) ≤ 30) : ∀ k : Nat,
    (∀ x3 : Int, 0 ≤ x3 → x3 ≤ 30 → 60 * (30 - x3) + 1 ≤ (k : Int) → ∃ r, toponymlaw29_FewEntry.l0 k x3 y x0 = some r) ∧
    (∀ (x3 : Int) (b : Bool), 0 ≤ x3 → x3 < (x0.length : Int) → (b = true ∨ ((rd_T82 x0 x3).f1.length : Int) ≤ 20) → 60 * (30 - x3) ≤ (k : Int) → ∃ r, toponymlaw29_FewEntry.j2 k x3 b y x0 = some r) ∧
    (∀ x3 x4 : Int, 0 ≤ x3 → x3 < (x0.length : Int) → 0 ≤ x4 → x4 ≤ 20 → ((rd_T82 x0 x3).f1.length : Int) ≤ 20 → 60 * (30 - x3) - 1 - x4 ≤ (k : Int) → ∃ r, toponymlaw29_FewEntry.l1 k x3 x4 y x0 = some r)
  | 0 => ⟨fun x3 _ _ h => absurd h (by omega), fun x3 b h0 h1 _ h => absurd h (by omega), fun x3 x4 h0 h1 h2 h3 h4 h => absurd h (by omega)⟩
  | k + 1 => by
    obtain ⟨i0, i1, i2⟩ := few29_l y x0 hx k
    refine ⟨?_, ?_, ?_⟩
    · intro x3 h0 h1 hk
      rw [toponymlaw29_FewEntry.l0]
      split
      · try rw [if_pos h0]
        split
        · exact i1 x3 _ h0 (by assumption) (.inl rfl) (by omega)
        · exact i1 x3 _ h0 (by assumption) (.inr (by omega)) (by omega)
      · exact ⟨_, rfl⟩
    · intro x3 b h0 h1 hb hk
      rw [toponymlaw29_FewEntry.j2]
      split
      · exact ⟨_, rfl⟩
      · rename_i hn
        exact i2 x3 0 h0 h1 (by omega) (by omega) (hb.resolve_left hn) (by omega)
    · intro x3 x4 h0 h1 h2 h3 h4 hk
      rw [toponymlaw29_FewEntry.l1, if_pos h0, if_pos h1]
      split
      · try rw [if_pos h2]
        split
        · exact ⟨_, rfl⟩
        · rw [w64 _ (by omega) (by omega)]
          exact i2 x3 (x4 + 1) h0 h1 (by omega) (by omega) h4 (by omega)
      · rw [w64 _ (by omega) (by omega)]
        exact i0 (x3 + 1) (by omega) (by omega) (by omega)

theorem few29 (y : List (List S65)) (x0 : List S82) (k : Nat) (hk : 2000 ≤ k) : ∃ r, toponymlaw29_FewEntry.f k y x0 = some r := by
  obtain ⟨k, rfl⟩ : ∃ j, k = j + 1 := ⟨k - 1, by omega⟩
  unfold toponymlaw29_FewEntry.f
  obtain ⟨r, hr⟩ := few18 y (k + 1) (by omega)
  rw [hr]
  simp only [Option.bind_some]
  split
  · rw [toponymlaw29_FewEntry.j0]
    split
    · exact ⟨_, rfl⟩
    · rename_i hn
      exact (few29_l y x0 (by simp at hn; omega) k).1 0 (by omega) (by omega) (by omega)
  · rw [toponymlaw29_FewEntry.j0, if_pos rfl]; exact ⟨_, rfl⟩

def sch0 : List S55 := [⟨⟨#[99, 108, 115]⟩, ⟨#[]⟩, 9, 9, false, false⟩, ⟨⟨#[99, 110]⟩, ⟨#[]⟩, 1, 2, false, false⟩]
def sch1 : List S57 := [⟨⟨#[116, 104, 105, 110, 103]⟩, ⟨#[]⟩, false, [⟨#[99, 108, 115]⟩, ⟨#[99, 110]⟩], []⟩]
theorem few21 : toponymlaw21_Few.f 3000 sch0 sch1 = some true := by kernel_rfl

theorem few32 (act : S28) : ∃ r, toponymlaw32_Few.f 3000 sch0 sch1 [act] = some r := by
  unfold toponymlaw32_Few.f
  rw [if_neg (by simp), few21]
  simp only [Option.bind_some, Bool.not_true]
  rw [toponymlaw32_Few.j0, if_neg (by simp), toponymlaw32_Few.l0, if_pos (by simp), if_pos (by omega)]
  obtain ⟨r, hr⟩ := few29 (rd_T28 [act] 0).f2.f0 (rd_T28 [act] 0).f2.f1 2998 (by omega)
  rw [hr]
  simp only [Option.bind_some]
  split
  · split
    · exact ⟨_, rfl⟩
    · rw [toponymlaw32_Few.l0, w64 _ (by omega) (by omega), if_neg (by simp)]; exact ⟨_, rfl⟩
  · exact ⟨_, rfl⟩
end Go.Proofs.YtcanjngalglfiaaGreatDoor.PTreeNobody
end

section
/- What stands for a list of the program's own kinds is read as the guards read it. -/
set_option maxRecDepth 100000
namespace Go.AE
open Go.Proofs Go.Proofs.YtcanjngalglfiaaGreatDoor.PTreeNobody Go.Proofs.YtcanjngalglfiaaGreatDoorW.PrintWords Go.RowKit

/-- A kind's values, as the evaluator's. -/
structure EncOk {α : Type} (d : Kd α) (f : α → AV) (P : α → Prop) : Prop where
  sh : ∀ x, (shape (f x)).1 = d.sz
  cell : ∀ x, P x → ∀ (O : Nat → Prop) (w : World) (b o : Nat), VE noSg O w (f x) b o → ∃ c, d.K w x c ∧ ∀ i u, c[i]? = some u → w.cell? ⟨b, o + i, none⟩ = some u

def Lst {α : Type} (P : α → Prop) (xs : List α) : Prop := xs.length ≤ 9223372036854775807 ∧ ∀ x ∈ xs, P x

theorem ME_sh {σ : Sg} {O : Nat → Prop} {w : World} {sh : Nat × Bool} {e : AV} {es : List AV} {b o : Nat} (h : ME σ O w sh (e :: es) b o) : shape e = sh := by
  rw [ME] at h; exact h.1

theorem list_reads {α : Type} {d : Kd α} {f : α → AV} {P : α → Prop} (E : EncOk d f P) {xs : List α} (hP : Lst P xs) {t : Bool} {O : Nat → Prop} {w : World} {v : Value} (h : V noSg O w (.list (xs.map f) t) v) :
    ∃ A c, v = .slice A xs.length c ∧ xs.length ≤ c ∧ d.C w A xs.length xs := by
  rw [V] at h
  obtain ⟨a, cap, rfl, hl, _, _, hr⟩ := h
  rw [List.length_map] at hl
  refine ⟨a, cap, by rw [List.length_map], hl, rfl, hP.1, fun hn => ?_⟩
  rcases hr with hr | ⟨b, o, sh, rfl, _, _, hm⟩
  · have : xs.length = 0 := by rw [← List.length_map (f := f), hr]; rfl
    omega
  · refine ⟨_, rfl, fun j p hj => ?_⟩
    have hs : sh.1 = d.sz := by
      match xs, hn, hm with
      | x :: xs, _, hm =>
        rw [List.map_cons] at hm
        rw [← ME_sh hm, E.sh]
    have hv := ME_get hm j (f p) (by rw [List.getElem?_map, hj]; rfl)
    obtain ⟨c, h1, h2⟩ := E.cell p (hP.2 p (List.mem_of_getElem? hj)) O w b _ hv.2
    refine ⟨c, d.K_len h1, h1, fun i u hu => ?_⟩
    have := h2 i u hu
    rw [hs] at this
    rw [show (Addr.mk b o none).add (j * d.sz + i) = ⟨b, o + j * d.sz + i, none⟩ from by unfold Addr.add; split <;> simp <;> omega]
    exact this

def avS (b : ByteArray) : AV := .str b.data.toList
theorem avS_v {σ : Sg} {O : Nat → Prop} {w : World} {b : ByteArray} {v : Value} (h : V σ O w (avS b) v) : v = .string b := by
  rw [avS, V] at h
  rw [h]
theorem one_cell {w : World} {b o : Nat} {v : Value} (h : w.cell? ⟨b, o, none⟩ = some v) : ∀ i u, [v][i]? = some u → w.cell? ⟨b, o + i, none⟩ = some u := by
  intro i u hu
  match i, hu with
  | 0, hu => simp at hu; subst hu; simpa using h

theorem enc_string : EncOk Kd.string avS (fun _ => True) where
  sh := fun x => rfl
  cell := fun x _ O w b o h => by
    rw [VE, dif_neg (by simp [avS, AV.isAgg])] at h
    obtain ⟨v, h1, _, h2⟩ := h
    rw [avS_v h2] at h1
    exact ⟨[.string x], rfl, one_cell h1⟩

def avL {α : Type} (f : α → AV) (xs : List α) : AV := .list (xs.map f) false
theorem enc_slice {α : Type} {d : Kd α} {f : α → AV} {P : α → Prop} (e : Nat) (E : EncOk d f P) : EncOk (Kd.slice e d) (avL f) (Lst P) where
  sh := fun x => rfl
  cell := fun x hx O w b o h => by
    rw [VE, dif_neg (by simp [avL, AV.isAgg])] at h
    obtain ⟨v, h1, _, h2⟩ := h
    obtain ⟨A, c, rfl, h3, h4⟩ := list_reads E hx h2
    exact ⟨[.slice A x.length c], ⟨A, c, rfl, h3, h4⟩, one_cell h1⟩

theorem MC_get {σ : Sg} {O : Nat → Prop} {w : World} : ∀ {es : List AV} {b o : Nat}, MC σ O w es b o → ∃ c : List Value, VL σ O w false es c ∧ ∀ i u, c[i]? = some u → w.cell? ⟨b, o + i, none⟩ = some u
  | [], _, _, _ => ⟨[], by rw [VL], fun i u h => by simp at h⟩
  | x :: es, b, o, hm => by
    rw [MC] at hm
    obtain ⟨⟨v, h1, _, h2⟩, h3⟩ := hm
    obtain ⟨c, h4, h5⟩ := MC_get h3
    refine ⟨v :: c, by rw [VL]; exact ⟨v, c, rfl, nofun, h2, h4⟩, fun i u hu => ?_⟩
    match i, hu with
    | 0, hu => simp at hu; subst hu; simpa using h1
    | i + 1, hu =>
      simp only [List.getElem?_cons_succ] at hu
      rw [show o + (i + 1) = o + 1 + i from by omega]
      exact h5 i u hu

/-- A struct's cells. -/
theorem enc_agg {α : Type} {d : Kd α} {f : α → List AV} {P : α → Prop} (hl : ∀ x, (f x).length = d.sz) (hK : ∀ x, P x → ∀ O w c, VL noSg O w false (f x) c → d.K w x c) : EncOk d (fun x => .agg (f x)) P where
  sh := fun x => by simp [shape, hl]
  cell := fun x hx O w b o h => by
    rw [VE, dif_pos (show (AV.agg (f x)).isAgg = true from rfl)] at h
    obtain ⟨c, h1, h2⟩ := MC_get h
    exact ⟨c, hK x hx O w c h1, h2⟩
theorem VL_c {σ : Sg} {O : Nat → Prop} {w : World} {b : Bool} {x : AV} {xs : List AV} {l : List Value} (h : VL σ O w b (x :: xs) l) : ∃ v l', l = v :: l' ∧ V σ O w x v ∧ VL σ O w b xs l' := by
  rw [VL] at h
  obtain ⟨v, l', h1, _, h2, h3⟩ := h
  exact ⟨v, l', h1, h2, h3⟩
theorem VL_n {σ : Sg} {O : Nat → Prop} {w : World} {b : Bool} {l : List Value} (h : VL σ O w b [] l) : l = [] := by rw [VL] at h; exact h

theorem V_i {σ : Sg} {O : Nat → Prop} {w : World} {k : IntKind} {n : Int} {v : Value} (h : V σ O w (.int k n) v) : v = .int k n := by rw [V] at h; exact h
theorem V_b {σ : Sg} {O : Nat → Prop} {w : World} {n : Bool} {v : Value} (h : V σ O w (.bool n) v) : v = .bool n := by rw [V] at h; exact h
theorem V_n {σ : Sg} {O : Nat → Prop} {w : World} {v : Value} (h : V σ O w .nils v) : v = .slice none 0 0 := by rw [V] at h; exact h
def c65 (x : S65) : List AV := [avS x.f0, avS x.f1]
theorem enc65 : EncOk k65 (fun x => .agg (c65 x)) (fun _ => True) := enc_agg (fun x => rfl) fun x _ O w c h => by
  obtain ⟨v0, c, rfl, h0, h⟩ := VL_c h
  obtain ⟨v1, c, rfl, h1, h⟩ := VL_c h
  obtain rfl := VL_n h
  rw [avS_v h0, avS_v h1]
  exact k65_mk w x
def c82 (x : S82) : List AV := [avS x.f0, avL avS x.f1]
theorem enc82 : EncOk k82 (fun x => .agg (c82 x)) (fun x => Lst (fun _ => True) x.f1) := enc_agg (fun x => rfl) fun x hx O w c h => by
  obtain ⟨v0, c, rfl, h0, h⟩ := VL_c h
  obtain ⟨v1, c, rfl, h1, h⟩ := VL_c h
  obtain rfl := VL_n h
  obtain ⟨A, n, rfl, hl, hc⟩ := list_reads enc_string hx h1
  rw [avS_v h0]
  exact k82_mk w x hl hc
def Ok28 (x : S28) : Prop := Lst (Lst (fun _ => True)) x.f2.f0 ∧ Lst (fun y : S82 => Lst (fun _ => True) y.f1) x.f2.f1
def c28 (x : S28) : List AV := [.int .i64 x.f0, avS x.f1, avL (avL (fun y => .agg (c65 y))) x.f2.f0, avL (fun y => .agg (c82 y)) x.f2.f1]
theorem enc28 : EncOk k28 (fun x => .agg (c28 x)) Ok28 := enc_agg (fun x => rfl) fun x hx O w c h => by
  obtain ⟨v0, c, rfl, h0, h⟩ := VL_c h
  obtain ⟨v1, c, rfl, h1, h⟩ := VL_c h
  obtain ⟨v2, c, rfl, h2, h⟩ := VL_c h
  obtain ⟨v3, c, rfl, h3, h⟩ := VL_c h
  obtain rfl := VL_n h
  obtain ⟨A2, n2, rfl, hl2, hc2⟩ := list_reads (enc_slice 65 enc65) hx.1 h2
  obtain ⟨A3, n3, rfl, hl3, hc3⟩ := list_reads enc82 hx.2 h3
  rw [V_i h0, avS_v h1]
  exact k28_mk w x hl2 hc2 hl3 hc3
def c55 (x : S55) : List AV := [avS x.f0, avS x.f1, .int .i64 x.f2, .int .i64 x.f3, .bool x.f4, .bool x.f5]
theorem enc55 : EncOk k55 (fun x => .agg (c55 x)) (fun _ => True) := enc_agg (fun x => rfl) fun x _ O w c h => by
  obtain ⟨v0, c, rfl, h0, h⟩ := VL_c h
  obtain ⟨v1, c, rfl, h1, h⟩ := VL_c h
  obtain ⟨v2, c, rfl, h2, h⟩ := VL_c h
  obtain ⟨v3, c, rfl, h3, h⟩ := VL_c h
  obtain ⟨v4, c, rfl, h4, h⟩ := VL_c h
  obtain ⟨v5, c, rfl, h5, h⟩ := VL_c h
  obtain rfl := VL_n h
  rw [avS_v h0, avS_v h1, V_i h2, V_i h3, V_b h4, V_b h5]
  exact k55_mk w x
/-- With a fifth field that is nil. -/
def c57 (x : S57) : List AV := [avS x.f0, avS x.f1, .bool x.f2, avL avS x.f3, .nils]
theorem enc57 : EncOk k57 (fun x => .agg (c57 x)) (fun x => Lst (fun _ => True) x.f3 ∧ x.f4 = []) := enc_agg (fun x => rfl) fun x hx O w c h => by
  obtain ⟨v0, c, rfl, h0, h⟩ := VL_c h
  obtain ⟨v1, c, rfl, h1, h⟩ := VL_c h
  obtain ⟨v2, c, rfl, h2, h⟩ := VL_c h
  obtain ⟨v3, c, rfl, h3, h⟩ := VL_c h
  obtain ⟨v4, c, rfl, h4, h⟩ := VL_c h
  obtain rfl := VL_n h
  obtain ⟨A3, n3, rfl, hl3, hc3⟩ := list_reads enc_string hx.1 h3
  rw [avS_v h0, avS_v h1, V_b h2, V_n h4]
  have e4 : Value.slice none 0 0 = .slice none x.f4.length 0 := by rw [hx.2]; rfl
  rw [e4]
  exact k57_mk w x hl3 hc3 (by rw [hx.2]; exact Nat.le_refl _) ⟨rfl, by rw [hx.2]; decide, fun hn => by rw [hx.2] at hn; exact absurd hn (by decide)⟩
end Go.AE
end

section
/- Few answers a bool; so the law says true. -/
set_option maxRecDepth 100000
namespace Go.AE
open Go.Proofs Go.Proofs.YtcanjngalglfiaaGreatDoor.PTreeNobody Go.Proofs.YtcanjngalglfiaaGreatDoorW.PrintWords Go.RowKit

theorem tnSchema_eq : tnSchema = .agg [avL (fun x => .agg (c55 x)) sch0, avL (fun x => .agg (c57 x)) sch1] := by kernel_rfl

theorem few_pure (E : Env) (act : S28) (h : Ok28 act) : ∃ b, PureC E Tryz.prog 4 [tnSchema, .list [.agg (c28 act)] false] (.bool b) := by
  obtain ⟨r, hr⟩ := few32 act
  refine ⟨r, fun O w vargs hg hO hv => ?_⟩
  obtain ⟨v0, c, rfl, h0, hv⟩ := VL_c hv
  obtain ⟨v1, c, rfl, h1, hv⟩ := VL_c hv
  obtain rfl := VL_n hv
  rw [tnSchema_eq, V] at h0
  obtain ⟨a, rfl, h0⟩ := h0
  obtain ⟨u0, c, e0, g0, h0⟩ := VL_c h0
  obtain ⟨u1, c, rfl, g1, h0⟩ := VL_c h0
  obtain rfl := VL_n h0
  obtain ⟨A0, n0, rfl, l0, k0⟩ := list_reads enc55 (by refine ⟨by decide, fun _ _ => trivial⟩) g0
  obtain ⟨A1, n1, rfl, l1, k1⟩ := list_reads enc57 (by
    refine ⟨by decide, fun x hx => ?_⟩
    simp only [sch1, List.mem_cons, List.not_mem_nil, or_false] at hx
    subst hx
    exact ⟨⟨by decide, fun _ _ => trivial⟩, rfl⟩) g1
  obtain ⟨A2, n2, rfl, l2, k2⟩ := list_reads (xs := [act]) enc28 (by
    refine ⟨by simp, fun x hx => ?_⟩
    simp only [List.mem_cons, List.not_mem_nil, or_false] at hx
    subst hx; exact h) h1
  have ea : a = #[.slice A0 sch0.length n0, .slice A1 sch1.length n1] := by rw [← Array.toArray_toList (xs := a), e0]
  subst ea
  refine (toponymlaw32_Few.calls 3000 A0 n0 sch0 A1 n1 sch1 A2 n2 [act] r w k0 l0 k1 l1 k2 l2 hr).mono ?_
  rintro e w' ⟨rfl, hb⟩
  exact ⟨_, rfl, by rw [V], ⟨hb.size, hb.block, hb.os, hb.tape, hb.output⟩⟩

/-- The law says true of every act that can be. -/
theorem law_pure (act : S28) (h : Ok28 act) (sc : Int) : PureC (TNB.env TKa) Tryz.prog 3 [.agg (c28 act), .int .i64 sc] (.bool true) :=
  tn_pure act.f0 sc act.f1.data.toList _ _ (few_pure _ act h)
end Go.AE
end

section
/- What an argument reads as stands for the evaluator's values. -/
set_option maxRecDepth 100000
namespace Go.AE
open Go.Proofs Go.Proofs.YtcanjngalglfiaaGreatDoor.PTreeNobody Go.Proofs.YtcanjngalglfiaaGreatDoorW.PrintWords Go.ChangeShapes Go.WideShapes

def noO : Nat → Prop := fun _ => False

/-- A type's readings stand for one of these. -/
def RdOk (P : Program) (t : TypeId) {α : Type} (f : α → List AV) (Q : α → Prop) : Prop :=
  ∀ (H : Type) (enc : TypeId × Value → H) (w : World) (base : Nat) (spare : Nat → Bool) (held : Bool) (fuel : Nat) (cs : List Value) (y : DataW H × List MemPlace),
    DataW.trod enc P w base spare held fuel t cs = some y → ∃ a, Q a ∧ VL noSg noO w true (f a) cs

theorem VL_nil {σ : Sg} {O : Nat → Prop} {w : World} {b : Bool} : VL σ O w b [] [] := by rw [VL]
theorem VL_cons {σ : Sg} {O : Nat → Prop} {w : World} {b : Bool} {x : AV} {xs : List AV} {v : Value} {l : List Value} (h1 : x.oneCell = true) (h : V σ O w x v) (k : VL σ O w b xs l) : VL σ O w b (x :: xs) (v :: l) := by
  rw [VL]; exact ⟨v, l, rfl, fun _ => h1, h, k⟩
theorem V_i' {σ : Sg} {O : Nat → Prop} {w : World} {k : IntKind} {n : Int} : V σ O w (.int k n) (.int k n) := by rw [V]
theorem avS_v' {σ : Sg} {O : Nat → Prop} {w : World} {b : ByteArray} : V σ O w (avS b) (.string b) := by rw [avS, V]

theorem rd_int {P : Program} {t : TypeId} {k : IntKind} (ht : P.underlying t = some (.int k)) : RdOk P t (fun n : Int => [.int k n]) (fun _ => True) := by
  intro H enc w base spare held fuel cs y h
  obtain ⟨n, rfl, _, _⟩ := DataW.trod_int ht h
  exact ⟨n, trivial, VL_cons rfl V_i' VL_nil⟩
theorem rd_string {P : Program} {t : TypeId} (ht : P.underlying t = some .string) : RdOk P t (fun s : ByteArray => [avS s]) (fun _ => True) := by
  intro H enc w base spare held fuel cs y h
  obtain ⟨s, rfl, _, _⟩ := DataW.trod_string ht h
  exact ⟨s, trivial, VL_cons rfl avS_v' VL_nil⟩

theorem list_choose {α : Type} {R : Nat → α → Prop} : ∀ (n : Nat), (∀ i, i < n → ∃ x, R i x) → ∃ xs : List α, xs.length = n ∧ ∀ i x, xs[i]? = some x → R i x
  | 0, _ => ⟨[], rfl, fun i x h => by simp at h⟩
  | n + 1, h => by
    obtain ⟨xs, h1, h2⟩ := list_choose n (fun i hi => h i (by omega))
    obtain ⟨x, hx⟩ := h n (by omega)
    refine ⟨xs ++ [x], by simp [h1], fun i y hy => ?_⟩
    by_cases hi : i < n
    · rw [List.getElem?_append_left (by omega)] at hy; exact h2 i y hy
    · have hn : i = n := by
        have := (List.getElem?_eq_some_iff.1 hy).1
        simp [h1] at this; omega
      subst hn
      rw [List.getElem?_append_right (by omega)] at hy
      simp [h1] at hy
      subst hy; exact hx

theorem ME_mk {σ : Sg} {O : Nat → Prop} {w : World} {sh : Nat × Bool} : ∀ {es : List AV} {b o : Nat}, (∀ j e, es[j]? = some e → shape e = sh ∧ VE σ O w e b (o + j * sh.1)) → ME σ O w sh es b o
  | [], _, _, _ => by rw [ME]; trivial
  | e :: es, b, o, h => by
    rw [ME]
    have h0 := h 0 e rfl
    refine ⟨h0.1, by simpa using h0.2, ME_mk fun j x hx => ?_⟩
    have := h (j + 1) x (by simpa using hx)
    rw [show o + sh.1 + j * sh.1 = o + (j + 1) * sh.1 from by rw [Nat.add_mul]; omega]
    exact this
theorem MC_mk {σ : Sg} {O : Nat → Prop} {w : World} : ∀ {es : List AV} {b o : Nat} {c : List Value}, VL σ O w true es c → (∀ i u, c[i]? = some u → w.cell? ⟨b, o + i, none⟩ = some u) → MC σ O w es b o
  | [], _, _, _, _, _ => by rw [MC]; trivial
  | e :: es, b, o, c, h, hc => by
    rw [VL] at h
    obtain ⟨v, l, rfl, h1, h2, h3⟩ := h
    rw [MC]
    refine ⟨⟨v, by simpa using hc 0 v rfl, h1 rfl, h2⟩, MC_mk h3 fun i u hu => ?_⟩
    rw [show o + 1 + i = o + (i + 1) from by omega]
    exact hc (i + 1) u (by simpa using hu)

theorem cell_block {w : World} {a : Addr} {v : Value} (h : w.cell? a = some v) : a.block < w.heap.size := by
  unfold World.cell? at h
  split at h
  · rename_i e; exact (Array.getElem?_eq_some_iff.1 e).1
  · cases h

/-- An element: one cell, or a struct's. -/
inductive Elt {α : Type} (f : α → List AV) (g : α → AV) : Prop where
  | agg (h : ∀ a, g a = .agg (f a))
  | one (h : ∀ a, f a = [g a]) (k : ∀ a, (g a).isAgg = false) (c : ∀ a, (g a).oneCell = true)

theorem add_none {b o n : Nat} : (Addr.mk b o none).add n = ⟨b, o + n, none⟩ := by unfold Addr.add; split <;> simp_all

theorem rd_slice {P : Program} {t e : TypeId} {α : Type} {f : α → List AV} {g : α → AV} {Q : α → Prop} {sz : Nat} (ht : P.underlying t = some (.slice e)) (hc : P.cellsOf e = sz) (hz : 0 < sz) (hR : RdOk P e f Q)
    (hl : ∀ a, (f a).length = sz) (hg : Elt f g) (hfr : ∀ a, (g a).free = true) : RdOk P t (fun xs => [avL g xs]) (Lst Q) := by
  intro H enc w base spare held fuel cs y h
  have hfl : ∀ xs : List α, AV.freeL (xs.map g) = true := fun xs => freeL_of fun x hx => by
    obtain ⟨a, _, rfl⟩ := List.mem_map.1 hx
    exact hfr a
  rcases Deep.open_slice ht h with ⟨rfl, _⟩ | ⟨a, len, cap, m, n, D, Pl, rfl, _, hlc, hcm, hm, _, hx⟩
  · refine ⟨[], ⟨Nat.zero_le _, nofun⟩, VL_cons rfl ?_ VL_nil⟩
    rw [avL, V]
    exact ⟨none, 0, rfl, Nat.le_refl _, (fun h => nomatch h), rfl, .inl rfl⟩
  · have hlm : len ≤ m := by rw [hm]; split <;> omega
    obtain ⟨xs, hxl, hxs⟩ := list_choose (R := fun i (x : α) => Q x ∧ ∃ cs', w.cells? base (a.add (i * sz)) sz = some cs' ∧ VL noSg noO w true (f x) cs') len (fun i hi => by
      obtain ⟨cs', h1, h2⟩ := hx i (by omega)
      obtain ⟨x, q, v⟩ := hR _ _ _ _ _ _ _ _ _ h2
      exact ⟨x, q, cs', by rw [← hc]; exact h1, v⟩)
    refine ⟨xs, ⟨by have : maxLen ≤ 9223372036854775807 := by decide
                    omega, fun x hx => by
      obtain ⟨i, hi⟩ := List.mem_iff_getElem?.1 hx
      exact (hxs i x hi).1⟩, VL_cons rfl ?_ VL_nil⟩
    rw [avL, V]
    refine ⟨some a, cap, by rw [List.length_map, hxl], by rw [List.length_map, hxl]; exact hlc, (fun h => nomatch h), hfl xs, ?_⟩
    match xs, hxl, hxs with
    | [], _, _ => exact .inl rfl
    | x0 :: xs, hxl, hxs =>
      right
      obtain ⟨_, cs0, hc0, _⟩ := hxs 0 x0 rfl
      have hcell0 := (World.cells?_some hc0).2.2 0 hz
      have hlen0 := (World.cells?_some hc0).2.1
      obtain ⟨v0, hv0⟩ : ∃ v0, cs0[0]? = some v0 := ⟨cs0[0]'(by omega), List.getElem?_eq_getElem _⟩
      rw [hv0] at hcell0
      obtain ⟨b, o, spot⟩ := a
      have hspot : spot = none := by simpa [Addr.add] using World.cell?_spot hcell0
      subst hspot
      refine ⟨b, o, shape (g x0), rfl, id, ?_, ME_mk fun j e he => ?_⟩
      · have := cell_block hcell0
        rw [add_none, add_none] at this
        exact this
      · rw [List.getElem?_map] at he
        obtain ⟨x, hx, rfl⟩ := Option.map_eq_some_iff.1 he
        obtain ⟨_, cs', h1, h2⟩ := hxs j x hx
        obtain ⟨_, hl1, h3⟩ := World.cells?_some h1
        have hcell : ∀ i u, cs'[i]? = some u → w.cell? ⟨b, o + j * sz + i, none⟩ = some u := fun i u hu => by
          have hi := (List.getElem?_eq_some_iff.1 hu).1
          have := h3 i (by omega)
          rw [add_none, add_none, hu] at this
          exact this
        cases hg with
        | agg hg =>
          have hs : ∀ a, shape (g a) = (sz, true) := fun a => by rw [hg, shape, hl]
          rw [hs, hs]
          refine ⟨rfl, ?_⟩
          rw [VE, dif_pos (by rw [hg]; rfl)]
          have hcl : (g x).cells = f x := by rw [hg]; rfl
          rw [hcl]
          exact MC_mk h2 hcell
        | one hf hk h1c =>
          have h1z : sz = 1 := by rw [← hl x, hf]; rfl
          have hs : ∀ a, shape (g a) = (1, false) := fun a => shape_one (h1c a)
          rw [hs, hs]
          refine ⟨rfl, ?_⟩
          rw [VE, dif_neg (by rw [hk]; exact Bool.false_ne_true)]
          rw [hf] at h2
          obtain ⟨v, l', rfl, h5, h6⟩ := VL_c h2
          have := hcell 0 v rfl
          rw [h1z] at this
          exact ⟨v, this, h1c x, h5⟩

theorem c65_free (x : S65) : (AV.agg (c65 x)).free = true := rfl
theorem avL_free {α : Type} {g : α → AV} (xs : List α) : (avL g xs).free = true := rfl

theorem rd65 : RdOk Tryz.prog 65 c65 (fun _ => True) := by
  intro H enc w base spare held fuel cs y h
  obtain ⟨y0, y1, n, _, hl, h0, h1⟩ := trod_struct2 Tryz.underlying65 h
  have c65' : Tryz.prog.cellsOf 65 = 2 := by kernel_rfl
  have c9 : Tryz.prog.cellsOf 9 = 1 := by kernel_rfl
  rw [c65'] at hl
  match cs, hl with
  | [u0, u1], _ =>
    simp only [c9] at h0 h1
    obtain ⟨a0, _, v0⟩ := rd_string Tryz.underlying9 _ _ _ _ _ _ _ _ _ h0
    obtain ⟨a1, _, v1⟩ := rd_string Tryz.underlying9 _ _ _ _ _ _ _ _ _ h1
    exact ⟨⟨a0, a1⟩, trivial, VL.append v0 v1⟩
theorem rd67 : RdOk Tryz.prog 67 (fun xs => [avL (fun y => .agg (c65 y)) xs]) (Lst fun _ => True) := rd_slice (sz := 2) Tryz.underlying67 (by kernel_rfl) (by decide) rd65 (fun _ => rfl) (.agg fun _ => rfl) c65_free
theorem rd23 : RdOk Tryz.prog 23 (fun xs => [avL (avL (fun y => .agg (c65 y))) xs]) (Lst (Lst fun _ => True)) := rd_slice (sz := 1) Tryz.underlying23 (by kernel_rfl) (by decide) rd67 (fun _ => rfl) (.one (fun _ => rfl) (fun _ => rfl) (fun _ => rfl)) avL_free
theorem rd37 : RdOk Tryz.prog 37 (fun xs => [avL avS xs]) (Lst fun _ => True) := rd_slice (sz := 1) Tryz.underlying37 (by kernel_rfl) (by decide) (rd_string Tryz.underlying9) (fun _ => rfl) (.one (fun _ => rfl) (fun _ => rfl) (fun _ => rfl)) (fun _ => rfl)
theorem rd82 : RdOk Tryz.prog 82 c82 (fun x => Lst (fun _ => True) x.f1) := by
  intro H enc w base spare held fuel cs y h
  obtain ⟨y0, y1, n, _, hl, h0, h1⟩ := trod_struct2 Tryz.underlying82 h
  have c82' : Tryz.prog.cellsOf 82 = 2 := by kernel_rfl
  have c9 : Tryz.prog.cellsOf 9 = 1 := by kernel_rfl
  have c37 : Tryz.prog.cellsOf 37 = 1 := by kernel_rfl
  rw [c82'] at hl
  match cs, hl with
  | [u0, u1], _ =>
    simp only [c9, c37] at h0 h1
    obtain ⟨a0, _, v0⟩ := rd_string Tryz.underlying9 _ _ _ _ _ _ _ _ _ h0
    obtain ⟨a1, q1, v1⟩ := rd37 _ _ _ _ _ _ _ _ _ h1
    exact ⟨⟨a0, a1⟩, q1, VL.append v0 v1⟩
theorem c82_free (x : S82) : (AV.agg (c82 x)).free = true := rfl
theorem rd24 : RdOk Tryz.prog 24 (fun xs => [avL (fun y => .agg (c82 y)) xs]) (Lst fun x => Lst (fun _ => True) x.f1) := rd_slice (sz := 2) Tryz.underlying24 (by kernel_rfl) (by decide) rd82 (fun _ => rfl) (.agg fun _ => rfl) c82_free
def c26 (x : S26) : List AV := [avL (avL (fun y => .agg (c65 y))) x.f0, avL (fun y => .agg (c82 y)) x.f1]
theorem rd26 : RdOk Tryz.prog 26 c26 (fun x => Lst (Lst fun _ => True) x.f0 ∧ Lst (fun y : S82 => Lst (fun _ => True) y.f1) x.f1) := by
  intro H enc w base spare held fuel cs y h
  obtain ⟨y0, y1, n, _, hl, h0, h1⟩ := trod_struct2 Tryz.underlying26 h
  have c26' : Tryz.prog.cellsOf 26 = 2 := by kernel_rfl
  have c23 : Tryz.prog.cellsOf 23 = 1 := by kernel_rfl
  have c24 : Tryz.prog.cellsOf 24 = 1 := by kernel_rfl
  rw [c26'] at hl
  match cs, hl with
  | [u0, u1], _ =>
    simp only [c23, c24] at h0 h1
    obtain ⟨a0, q0, v0⟩ := rd23 _ _ _ _ _ _ _ _ _ h0
    obtain ⟨a1, q1, v1⟩ := rd24 _ _ _ _ _ _ _ _ _ h1
    exact ⟨⟨a0, a1⟩, ⟨q0, q1⟩, VL.append v0 v1⟩
theorem rd28 : RdOk Tryz.prog 28 c28 Ok28 := by
  intro H enc w base spare held fuel cs y h
  obtain ⟨y0, y1, y2, n, _, hl, h0, h1, h2⟩ := Deep.trod_struct3 Tryz.underlying28 h
  have c28' : Tryz.prog.cellsOf 28 = 4 := by kernel_rfl
  have c3 : Tryz.prog.cellsOf 3 = 1 := by kernel_rfl
  have c9 : Tryz.prog.cellsOf 9 = 1 := by kernel_rfl
  have c26' : Tryz.prog.cellsOf 26 = 2 := by kernel_rfl
  rw [c28'] at hl
  match cs, hl with
  | [u0, u1, u2, u3], _ =>
    simp only [c3, c9, c26'] at h0 h1 h2
    obtain ⟨a0, _, v0⟩ := rd_int Tryz.underlying3 _ _ _ _ _ _ _ _ _ h0
    obtain ⟨a1, _, v1⟩ := rd_string Tryz.underlying9 _ _ _ _ _ _ _ _ _ h1
    obtain ⟨a2, q2, v2⟩ := rd26 _ _ _ _ _ _ _ _ _ h2
    exact ⟨⟨a0, a1, a2⟩, q2, VL.append (VL.append v0 v1) v2⟩
end Go.AE
end
