/- The law returns true wherever its guard answers. -/
import Derived.Test.YtcanjngalglfiaaGreatDoorAeD
import Derived.Test.YtcanjngalglfiaaGreatDoorAeF
section
/- A region in which one call's answer is known beside the tables. -/
namespace Go.AE

/-- The tables, and answers beside them. -/
def withAns (E : Env) (g : Nat) (f : List AV → Option AV) : Env := { E with memo := fun k => bif Nat.beq k g then some f else E.memo k }

theorem withAns_ok {P : Program} {E : Env} (h : EnvOk E P) {g : Nat} {f : List AV → Option AV} (hf : ∀ args r, f args = some r → PureC E P g args r) : EnvOk (withAns E g f) P := by
  refine ⟨h.mixed, h.fn, h.ty, fun k m args r hm hr => ?_, h.glob, h.ext, h.meth⟩
  change (bif Nat.beq k g then some f else E.memo k) = some m at hm
  rw [cond_eq_ite] at hm
  split at hm
  · rename_i e
    have e := Nat.eq_of_beq_eq_true e
    subst e
    cases hm
    exact hf args r hr
  · exact h.memo k m args r hm hr

open Classical in
/-- An answer, if there is one that is a bool. -/
noncomputable def boolAns (E : Env) (P : Program) (g : Nat) (args : List AV) : Option AV :=
  if h : ∃ b, PureC E P g args (.bool b) then some (.bool h.choose) else none

theorem boolAns_ok {E : Env} {P : Program} {g : Nat} : ∀ args r, boolAns E P g args = some r → PureC E P g args r := by
  intro args r h
  unfold boolAns at h
  split at h
  · rename_i hb; cases h; exact hb.choose_spec
  · cases h
theorem boolAns_some {E : Env} {P : Program} {g : Nat} {args : List AV} (h : ∃ b, PureC E P g args (.bool b)) : ∃ b, boolAns E P g args = some (.bool b) := by
  unfold boolAns; rw [dif_pos h]; exact ⟨_, rfl⟩

def getN : Out → St
  | some (.normal, s) => s
  | _ => ⟨.nil, Heap.empty, 0, 0⟩
def getR : Option (St × List Rec) → St × List Rec
  | some x => x
  | none => (⟨.nil, Heap.empty, 0, 0⟩, [])

theorem runOps_app {E : Env} {rec : Code → St → Out} {ops : Array Oper} {base : Nat} : ∀ (l1 l2 : List Oper) (i : Nat) (st s1 s2 : St) (r1 r2 : List Rec),
    runOps E rec ops base i l1 st = some (s1, r1) → runOps E rec ops base (i + l1.length) l2 s1 = some (s2, r2) → runOps E rec ops base i (l1 ++ l2) st = some (s2, r1 ++ r2)
  | [], l2, i, st, s1, s2, r1, r2, h1, h2 => by
    simp only [runOps, Option.some.injEq, Prod.mk.injEq] at h1
    obtain ⟨rfl, rfl⟩ := h1
    exact h2
  | o :: l1, l2, i, st, s1, s2, r1, r2, h1, h2 => by
    simp only [runOps] at h1
    rw [List.cons_append]
    simp only [runOps]
    split at h1
    · rename_i st' r hs
      split at h1
      · rename_i st'' rs hl
        cases h1
        have := runOps_app l1 l2 (i + 1) st' s1 s2 rs r2 hl (by rw [show i + 1 + l1.length = i + (o :: l1).length from by simp; omega]; exact h2)
        simp only [this, List.cons_append]
      · cases h1
    · cases h1

/-- A call whose answer is known. -/
theorem opV_known {E : Env} {rec : Code → St → Out} {fr : Tr} {h : Heap} {nx aid : Nat} {op : Op} {c : Call} {g : Nat} {args args' : List AV} {r : AV} {fn : Func} {cd : Code} {m : List AV → Option AV}
    (h1 : isCall op = some c) (h2 : calleeA E fr c = some (.fn g, args)) (h3 : E.ext g = none) (h4 : E.fn g = some fn) (h5 : fn.body = some cd) (h6 : E.memo g = some m) (h7 : resolveL 1000 h args = some args') (h8 : m args' = some r) (h9 : flat r = true) :
    opV E rec fr h nx aid op = some (r, h, nx, [], ⟨3, .none, fun id => Nat.blt id nx || sameO (h id) (h id)⟩) := by
  unfold opV
  rw [h1]
  simp only
  rw [h2]
  simp only [callC, h3, callA, h4, h5, h6, h7, h8, h9, Bool.or_true, cond_true]
  have : Nat.ble nx nx = true := by rw [Nat.ble_eq]; exact Nat.le_refl _
  rw [this]; rfl
end Go.AE
end

section
/- A tree that no call made: the law's own part. -/
set_option maxRecDepth 1000000
namespace Go.AE
open Go.Proofs

def TKa : Known := .node .leaf 6 [([], .bool true)] .leaf
theorem TKa_ok : KnownOk TNB TKa := ⟨trivial, fun p hp => by
  simp only [List.mem_cons, List.not_mem_nil, or_false] at hp
  subst hp; exact TK_root, trivial⟩

/-- The law's tables: what is known of awake, and Few's answer. -/
noncomputable def TNE (few : List AV → Option AV) : Env := withAns (TNB.env TKa) 4 few

noncomputable def tnCode : Code := match Tryz.f3.body with | some c => c | none => .skip
noncomputable def tnR0 : Code := match tnCode with | .seq a _ => a | _ => .skip
noncomputable def tnR1 : Code := match tnCode with | .seq _ (.seq (.seq a _) _) => a | _ => .skip
noncomputable def tnC : Code := match tnCode with | .seq _ (.seq (.seq _ a) _) => a | _ => .skip
noncomputable def tnY : Code := match tnCode with | .seq _ (.seq _ a) => a | _ => .skip
noncomputable def tnOps : Array Oper := match tnR1 with | .region _ ops _ => ops | _ => #[]
def tnO0 : Oper := ⟨none, .move (.tmp 0), 0, "", #[], none⟩
noncomputable def tnO (i : Nat) : Oper := match tnOps[i]? with | some o => o | none => tnO0
noncomputable def tnC3 : Call := match isCall (tnO 3).op with | some c => c | none => ⟨.builtin .len, #[], #[]⟩
theorem tnCode_eq : Tryz.f3.body = some (.seq tnR0 (.seq (.seq tnR1 tnC) tnY)) := by kernel_rfl
theorem tnR1_eq : tnR1 = .region 1 tnOps true := by kernel_rfl

def tnAct (kind : Int) (key : List UInt8) (ns xs : List AV) : AV := .agg [.int .i64 kind, .str key, .list ns false, .list xs false]

theorem exec_seq {E : Env} {n : Nat} {a b : Code} {st st' : St} (h : exec E n a st = some (.normal, st')) : exec E (n + 1) (.seq a b) st = exec E n b st' := by
  simp only [exec, step, h]

theorem runOps_at {E : Env} {rec : Code → St → Out} {ops : Array Oper} {base i j : Nat} {l1 l2 : List Oper} {st s1 s2 : St} {r1 r2 : List Rec}
    (h1 : runOps E rec ops base i l1 st = some (s1, r1)) (hj : i + l1.length = j) (h2 : runOps E rec ops base j l2 s1 = some (s2, r2)) : runOps E rec ops base i (l1 ++ l2) st = some (s2, r1 ++ r2) := by
  subst hj; exact runOps_app _ _ _ _ _ _ _ _ h1 h2
theorem exec_draw {E : Env} {n id : Nat} {ops : Array Oper} {st st' : St} {rs : List Rec} (h : runOps E (exec E n) ops st.nx 0 ops.toList { st with nx := st.nx + ops.size } = some (st', rs)) (hp : openPairs ops rs = true) : exec E (n + 1) (.region id ops true) st = some (.normal, st') := by
  simp only [exec, step, h, hp, Bool.not_true, Bool.and_false, cond_false]

/-- What Schema returns. -/
noncomputable def tnSchema : AV := match call (TNB.env .leaf) 100 5 [] Heap.empty 0 with
  | some (v, h, _) => match resolve 1000 h v with
    | some x => x
    | none => .nilp
  | none => .nilp

def getS : Out → St
  | some (_, s) => s
  | none => ⟨.nil, Heap.empty, 0, 0⟩

section
variable (few : List AV → Option AV) (kind sc : Int) (key : List UInt8) (ns xs : List AV)

noncomputable def tnS0 : St := ⟨Tr.ofList .nil 0 [tnAct kind key ns xs, .int .i64 sc], Heap.empty, 0, 0⟩
noncomputable def tnSA : St := getN (exec (TNE few) 2999 tnR0 (tnS0 kind sc key ns xs))
theorem tnA : exec (TNE few) 2999 tnR0 (tnS0 kind sc key ns xs) = some (.normal, tnSA few kind sc key ns xs) := by kernel_rfl
noncomputable def tnX : St × List Rec := getR (runOps (TNE few) (exec (TNE few) 2996) tnOps (tnSA few kind sc key ns xs).nx 0 (tnOps.toList.take 3) { tnSA few kind sc key ns xs with nx := (tnSA few kind sc key ns xs).nx + tnOps.size })
theorem tnX_eq : runOps (TNE few) (exec (TNE few) 2996) tnOps (tnSA few kind sc key ns xs).nx 0 (tnOps.toList.take 3) { tnSA few kind sc key ns xs with nx := (tnSA few kind sc key ns xs).nx + tnOps.size } = some (tnX few kind sc key ns xs) := by kernel_rfl
theorem tnTail : tnOps.toList = tnOps.toList.take 3 ++ [tnO 3, tnO 4] := by kernel_rfl
theorem tnCall : isCall (tnO 3).op = some tnC3 := by kernel_rfl
noncomputable def tnArgs : List AV := match calleeA (TNE few) (tnX few kind sc key ns xs).1.fr tnC3 with | some (_, l) => l | none => []
theorem tnCallee : calleeA (TNE few) (tnX few kind sc key ns xs).1.fr tnC3 = some (.fn 4, tnArgs few kind sc key ns xs) := by kernel_rfl
theorem tnRes : resolveL 1000 (tnX few kind sc key ns xs).1.hp (tnArgs few kind sc key ns xs) = some [tnSchema, .list [tnAct kind key ns xs] false] := by kernel_rfl

noncomputable def tnRec : Rec := let X := (tnX few kind sc key ns xs).1; ⟨3, .none, fun id => Nat.blt id X.nx || sameO (X.hp id) (X.hp id)⟩
/-- After Few has answered. -/
noncomputable def tnS3 (b : Bool) : St := let X := (tnX few kind sc key ns xs).1; ⟨X.fr.set 13 (.bool b), X.hp, X.nx, X.low⟩
noncomputable def tnSB (b : Bool) : St := let X := (tnX few kind sc key ns xs).1; ⟨(X.fr.set 13 (.bool b)).set 14 (.bool !b), X.hp, X.nx, X.low⟩
variable (b : Bool) (hb : few [tnSchema, .list [tnAct kind key ns xs] false] = some (.bool b))
include hb in
theorem tnV : opV (TNE few) (exec (TNE few) 2996) (tnX few kind sc key ns xs).1.fr (tnX few kind sc key ns xs).1.hp (tnX few kind sc key ns xs).1.nx ((tnSA few kind sc key ns xs).nx + 3) (tnO 3).op = some (.bool b, (tnX few kind sc key ns xs).1.hp, (tnX few kind sc key ns xs).1.nx, [], tnRec few kind sc key ns xs) :=
  opV_known (fn := Tryz.f4) (cd := match Tryz.f4.body with | some c => c | none => .skip) (m := few) tnCall (tnCallee few kind sc key ns xs) (by kernel_rfl) (by kernel_rfl) (by kernel_rfl) (by kernel_rfl) (tnRes few kind sc key ns xs) hb rfl
noncomputable def tnRec4 : Rec := ⟨clsOf (TNE few) (tnO 4).op, ridOf (tnS3 few kind sc key ns xs b).fr (tnO 4).op, fun id => !([] : List Nat).any (Nat.beq id)⟩
include hb in
theorem tnB' : runOps (TNE few) (exec (TNE few) 2996) tnOps (tnSA few kind sc key ns xs).nx 3 [tnO 3, tnO 4] (tnX few kind sc key ns xs).1 = some (tnSB few kind sc key ns xs b, [tnRec few kind sc key ns xs, tnRec4 few kind sc key ns xs b]) := by
  have h3 : stepOp (TNE few) (exec (TNE few) 2996) tnOps (tnSA few kind sc key ns xs).nx 3 (tnO 3) (tnX few kind sc key ns xs).1 = some (tnS3 few kind sc key ns xs b, tnRec few kind sc key ns xs) := by
    unfold stepOp
    rw [show wantedA tnOps (tnX few kind sc key ns xs).1.fr (tnO 3) = true from by kernel_rfl, cond_true, tnV few kind sc key ns xs b hb]
    kernel_rfl
  have h4 : stepOp (TNE few) (exec (TNE few) 2996) tnOps (tnSA few kind sc key ns xs).nx 4 (tnO 4) (tnS3 few kind sc key ns xs b) = some (tnSB few kind sc key ns xs b, tnRec4 few kind sc key ns xs b) := by kernel_rfl
  simp only [runOps, h3, h4]
theorem tnLow : (tnX few kind sc key ns xs).1.low = 0 := by kernel_rfl
theorem tnPairs : openPairs tnOps ((tnX few kind sc key ns xs).2 ++ [tnRec few kind sc key ns xs, tnRec4 few kind sc key ns xs b]) = true := by kernel_rfl
theorem tnLen : 0 + (tnOps.toList.take 3).length = 3 := by kernel_rfl
include hb in
theorem tnB : exec (TNE few) 2997 tnR1 (tnSA few kind sc key ns xs) = some (.normal, tnSB few kind sc key ns xs b) := by
  have h := runOps_at (l2 := [tnO 3, tnO 4]) (show _ = some ((tnX few kind sc key ns xs).1, (tnX few kind sc key ns xs).2) from tnX_eq few kind sc key ns xs) tnLen (tnB' few kind sc key ns xs b hb)
  have h : runOps (TNE few) (exec (TNE few) 2996) tnOps (tnSA few kind sc key ns xs).nx 0 tnOps.toList { tnSA few kind sc key ns xs with nx := (tnSA few kind sc key ns xs).nx + tnOps.size } = some (tnSB few kind sc key ns xs b, (tnX few kind sc key ns xs).2 ++ [tnRec few kind sc key ns xs, tnRec4 few kind sc key ns xs b]) := by
    rw [tnTail]; exact h
  rw [tnR1_eq]
  exact exec_draw h (tnPairs few kind sc key ns xs b)
end
theorem tnF1 (few : List AV → Option AV) (kind sc : Int) (key : List UInt8) (ns xs : List AV) : exec (TNE few) 2997 tnC (tnSB few kind sc key ns xs false) = some (.ret, getS (exec (TNE few) 2997 tnC (tnSB few kind sc key ns xs false))) := by kernel_rfl
theorem tnF2 (few : List AV → Option AV) (kind sc : Int) (key : List UInt8) (ns xs : List AV) : (getS (exec (TNE few) 2997 tnC (tnSB few kind sc key ns xs false))).fr.get 4 = .bool true := by kernel_rfl
theorem tnT0 (few : List AV → Option AV) (kind sc : Int) (key : List UInt8) (ns xs : List AV) : exec (TNE few) 2997 tnC (tnSB few kind sc key ns xs true) = some (.normal, tnSB few kind sc key ns xs true) := by kernel_rfl
noncomputable def tnGood (few : List AV → Option AV) (kind sc : Int) (key : List UInt8) (ns xs : List AV) : Bool := match exec (TNE few) 2998 tnY (tnSB few kind sc key ns xs true) with
  | some (.ret, s) => match s.fr.get 4 with
    | .bool b => b
    | _ => false
  | _ => false
theorem tnG0 (few : List AV → Option AV) (sc : Int) (key : List UInt8) (ns xs : List AV) : tnGood few (.ofNat 0) sc key ns xs = true := by kernel_rfl
theorem tnG1 (few : List AV → Option AV) (sc : Int) (key : List UInt8) (ns xs : List AV) : tnGood few (.ofNat 1) sc key ns xs = true := by kernel_rfl
theorem tnG2 (few : List AV → Option AV) (sc : Int) (key : List UInt8) (ns xs : List AV) : tnGood few (.ofNat 2) sc key ns xs = true := by kernel_rfl
theorem tnG3 (few : List AV → Option AV) (sc : Int) (key : List UInt8) (ns xs : List AV) : tnGood few (.ofNat 3) sc key ns xs = true := by kernel_rfl
theorem tnG4 (few : List AV → Option AV) (k : Nat) (sc : Int) (key : List UInt8) (ns xs : List AV) : tnGood few (.ofNat (k + 4)) sc key ns xs = true := by kernel_rfl
theorem tnG5 (few : List AV → Option AV) (k : Nat) (sc : Int) (key : List UInt8) (ns xs : List AV) : tnGood few (.negSucc k) sc key ns xs = true := by kernel_rfl
theorem tnG (few : List AV → Option AV) (kind sc : Int) (key : List UInt8) (ns xs : List AV) : tnGood few kind sc key ns xs = true := by
  match kind with
  | .ofNat 0 => exact tnG0 few sc key ns xs
  | .ofNat 1 => exact tnG1 few sc key ns xs
  | .ofNat 2 => exact tnG2 few sc key ns xs
  | .ofNat 3 => exact tnG3 few sc key ns xs
  | .ofNat (k + 4) => exact tnG4 few k sc key ns xs
  | .negSucc k => exact tnG5 few k sc key ns xs

theorem exec_seq_ret {E : Env} {n : Nat} {a b : Code} {st st' : St} (h : exec E n a st = some (.ret, st')) : exec E (n + 1) (.seq a b) st = some (.ret, st') := by
  simp only [exec, step, h]

/-- The whole text. -/
theorem tnAll (few : List AV → Option AV) (kind sc : Int) (key : List UInt8) (ns xs : List AV) (b : Bool) (hb : few [tnSchema, .list [tnAct kind key ns xs] false] = some (.bool b)) :
    ∃ s, exec (TNE few) 3000 (.seq tnR0 (.seq (.seq tnR1 tnC) tnY)) (tnS0 kind sc key ns xs) = some (.ret, s) ∧ s.fr.get 4 = .bool true := by
  rw [exec_seq (tnA few kind sc key ns xs)]
  have hB := tnB few kind sc key ns xs b hb
  cases b with
  | false =>
    refine ⟨_, ?_, tnF2 few kind sc key ns xs⟩
    exact exec_seq_ret (by rw [exec_seq hB]; exact tnF1 few kind sc key ns xs)
  | true =>
    have h1 : exec (TNE few) 2998 (.seq tnR1 tnC) (tnSA few kind sc key ns xs) = some (.normal, tnSB few kind sc key ns xs true) := by
      rw [exec_seq hB]; exact tnT0 few kind sc key ns xs
    rw [exec_seq h1]
    have hg := tnG few kind sc key ns xs
    unfold tnGood at hg
    split at hg
    · rename_i s hs
      refine ⟨s, hs, ?_⟩
      split at hg
      · rename_i b hb; rw [hb, hg]
      · cases hg
    · cases hg

theorem TNEn_mixed : Tryz.prog.follows .mixedOrders = true := TNB_ok.mixed
theorem tn_fn (few : List AV → Option AV) : (TNE few).fn 3 = some Tryz.f3 := by kernel_rfl
theorem tn_memo (few : List AV → Option AV) : (TNE few).memo 3 = none := by kernel_rfl
theorem tn_res : Tryz.f3.results.toList = [.tmp 4] := by kernel_rfl
theorem tn_nt : Nat.ble 2 Tryz.f3.ntmps = true := by kernel_rfl

theorem tn_call (few : List AV → Option AV) (kind sc : Int) (key : List UInt8) (ns xs : List AV) (s : St) (hs : exec (TNE few) 3000 (.seq tnR0 (.seq (.seq tnR1 tnC) tnY)) (tnS0 kind sc key ns xs) = some (.ret, s)) (hg : s.fr.get 4 = .bool true) :
    ∃ p, call (TNE few) 3000 3 [tnAct kind key ns xs, .int .i64 sc] Heap.empty 0 = some (.bool true, p) := by
  unfold call callA
  rw [tn_fn]
  simp only
  rw [tnCode_eq]
  simp only
  rw [tn_memo]
  simp only
  unfold inlineA
  rw [show ([tnAct kind key ns xs, AV.int .i64 sc] : List AV).length = 2 from rfl, tn_nt, cond_true]
  have hs' : exec (TNE few) 3000 (.seq tnR0 (.seq (.seq tnR1 tnC) tnY)) ⟨Tr.ofList .nil 0 [tnAct kind key ns xs, .int .i64 sc], Heap.empty, 0, 0⟩ = some (.ret, s) := hs
  rw [hs']
  simp only [tn_res, resultsA, hg, one]
  cases h : (Nat.ble 0 s.low && (AV.bool true).free) <;> exact ⟨_, rfl⟩

/-- The law, on an act whose bytes and slices stand for themselves: if Few answers a bool, it says true. -/
theorem tn_pure (kind sc : Int) (key : List UInt8) (ns xs : List AV) (hf : ∃ b, PureC (TNB.env TKa) Tryz.prog 4 [tnSchema, .list [tnAct kind key ns xs] false] (.bool b)) :
    PureC (TNB.env TKa) Tryz.prog 3 [tnAct kind key ns xs, .int .i64 sc] (.bool true) := by
  obtain ⟨b, hb⟩ := boolAns_some hf
  have EO := withAns_ok (envOk TNB_ok TKa_ok) (g := 4) (f := boolAns (TNB.env TKa) Tryz.prog 4) boolAns_ok
  obtain ⟨s, hs, hg⟩ := tnAll _ kind sc key ns xs b hb
  obtain ⟨⟨h, nx, low⟩, hc⟩ := tn_call _ kind sc key ns xs s hs hg
  exact pure_of_call EO hc rfl
end Go.AE
end
