import Derived.Test.YtchahpmelikoaaaAeD
import Derived.Test.YtchahpmelikoaaaAe4
set_option linter.unusedVariables false
set_option linter.unusedSimpArgs false
namespace Go.Proofs.Ytchahpmelikoaaa.law
open Go Go.Proofs Ae
set_option maxRecDepth 100000
set_option linter.unusedVariables false
noncomputable def szStr (x : List UInt8) (left : Int) : Option Int := some (IntKind.wrap .i64 (left - (x.length : Int)))
theorem szStr_step {o p : Option ((Int × Int) ⊕ Int)} (h : o = p) : o = p := h
theorem szStr_sz {x : List UInt8} (h : bS x) : SzOk smS szStr x := by
  intro left h0 h1
  have := bS.len h
  refine ⟨_, rfl, ?_, ?_⟩
  · rw [w64 (by omega) (by omega)]; omega
  · rw [w64 (by omega) (by omega)]
    by_cases h : left - (x.length : Int) < 0
    · exact .inl h
    · exact .inr ⟨by omega, by unfold smS; omega⟩
theorem laws_szBoolS_sz {a : List Bool} (h : (bL bB) a) : SzOk (smL smT) laws_szBoolS a := sz_flat (fun _ => rfl) h.len
theorem laws_szPushS_sz {a : List Push} (h : (bL bPush) a) : SzOk (smL smT) laws_szPushS a := sz_flat (fun _ => rfl) h.len
theorem laws_szPushSS_sz {a : List (List Push)} (h : (bL (bL bPush)) a) : SzOk (smL (smL smT)) laws_szPushSS a :=
  sz_loop (sub := laws_szPushS) (S := laws_szPushSS_S1 a) (fun _ _ => rfl) (fun _ => rfl) h.len fun x hx => laws_szPushS_sz (h.2 x hx)
theorem laws_szInt64S_sz {a : List Int} (h : (bL (bI .i64)) a) : SzOk (smL smT) laws_szInt64S a := sz_flat (fun _ => rfl) h.len
theorem laws_szInt64SS_sz {a : List (List Int)} (h : (bL (bL (bI .i64))) a) : SzOk (smL (smL smT)) laws_szInt64SS a :=
  sz_loop (sub := laws_szInt64S) (S := laws_szInt64SS_S1 a) (fun _ _ => rfl) (fun _ => rfl) h.len fun x hx => laws_szInt64S_sz (h.2 x hx)
theorem laws_szInt64SSS_sz {a : List (List (List Int))} (h : (bL (bL (bL (bI .i64)))) a) : SzOk (smL (smL (smL smT))) laws_szInt64SSS a :=
  sz_loop (sub := laws_szInt64SS) (S := laws_szInt64SSS_S1 a) (fun _ _ => rfl) (fun _ => rfl) h.len fun x hx => laws_szInt64SS_sz (h.2 x hx)
theorem laws_szChecker_sz {a : Checker} (h : bChecker a) : SzOk smChecker laws_szChecker a := by
  intro left h0 h1
  unfold laws_szChecker
  obtain ⟨y1, e1, l1, q1⟩ := laws_szBoolS_sz h.2.2.1 left h0 h1
  rw [e1, Option.bind_some]
  rcases q1 with q1 | ⟨p1, s1⟩
  · exact ⟨-1, by rw [if_pos (by simpa using q1)], by omega, .inl (by omega)⟩
  rw [if_neg (by simp; omega)]
  obtain ⟨y2, e2, l2, q2⟩ := laws_szPushSS_sz h.2.2.2.1 y1 p1 (by omega)
  rw [e2, Option.bind_some]
  rcases q2 with q2 | ⟨p2, s2⟩
  · exact ⟨-1, by rw [if_pos (by simpa using q2)], by omega, .inl (by omega)⟩
  rw [if_neg (by simp; omega)]
  obtain ⟨y3, e3, l3, q3⟩ := laws_szInt64SSS_sz h.2.2.2.2.1 y2 p2 (by omega)
  rw [e3, Option.bind_some]
  rcases q3 with q3 | ⟨p3, s3⟩
  · exact ⟨-1, by rw [if_pos (by simpa using q3)], by omega, .inl (by omega)⟩
  rw [if_neg (by simp; omega)]
  obtain ⟨y4, e4, l4, q4⟩ := laws_szInt64SS_sz h.2.2.2.2.2 y3 p3 (by omega)
  rw [e4, Option.bind_some]
  rcases q4 with q4 | ⟨p4, s4⟩
  · exact ⟨-1, by rw [if_pos (by simpa using q4)], by omega, .inl (by omega)⟩
  rw [if_neg (by simp; omega)]
  exact ⟨_, rfl, by omega, .inr ⟨by omega, ⟨trivial, trivial, s1, s2, s3, s4⟩⟩⟩
theorem laws_szContext_sz {a : Context} (h : bContext a) : SzOk smContext laws_szContext a := by
  intro left h0 h1
  unfold laws_szContext
  have b1 := bS.len h.1
  rw [w64 (by omega) (by omega)]
  by_cases p1 : left - (a.Front.length : Int) < 0
  · exact ⟨-1, by rw [if_pos (by simpa using p1)], by omega, .inl (by omega)⟩
  rw [if_neg (by simpa using p1)]
  have b2 := bS.len h.2
  rw [w64 (by omega) (by omega)]
  by_cases p2 : (left - (a.Front.length : Int)) - (a.Back.length : Int) < 0
  · exact ⟨-1, by rw [if_pos (by simpa using p2)], by omega, .inl (by omega)⟩
  rw [if_neg (by simpa using p2)]
  exact ⟨_, rfl, by omega, .inr ⟨by omega, ⟨(show smS a.Front by unfold smS; omega), (show smS a.Back by unfold smS; omega)⟩⟩⟩
theorem laws_szContextS_sz {a : List Context} (h : (bL bContext) a) : SzOk (smL smContext) laws_szContextS a :=
  sz_loop (sub := laws_szContext) (S := laws_szContextS_S1 a) (fun _ _ => rfl) (fun _ => rfl) h.len fun x hx => laws_szContext_sz (h.2 x hx)
theorem laws_toBoolS_to {a : List Bool} (h : (smL smT) a) : laws_toBoolS a = some a :=
  to_loop (sub := some) (S := laws_toBoolS_S1 a) (fun _ _ => rfl) rfl h.1 (fun _ _ => rfl)
theorem laws_toPush_to {a : Push} (h : smT a) : laws_toPush a = some a := by
  unfold laws_toPush
  rfl
theorem laws_toPushS_to {a : List Push} (h : (smL smT) a) : laws_toPushS a = some a :=
  to_loop (sub := laws_toPush) (S := laws_toPushS_S1 a) (fun _ _ => rfl) rfl h.1 (fun x hx => laws_toPush_to (h.2 x hx))
theorem laws_toPushSS_to {a : List (List Push)} (h : (smL (smL smT)) a) : laws_toPushSS a = some a :=
  to_loop (sub := laws_toPushS) (S := laws_toPushSS_S1 a) (fun _ _ => rfl) rfl h.1 (fun x hx => laws_toPushS_to (h.2 x hx))
theorem laws_toInt64S_to {a : List Int} (h : (smL smT) a) : laws_toInt64S a = some a :=
  to_loop (sub := some) (S := laws_toInt64S_S1 a) (fun _ _ => rfl) rfl h.1 (fun _ _ => rfl)
theorem laws_toInt64SS_to {a : List (List Int)} (h : (smL (smL smT)) a) : laws_toInt64SS a = some a :=
  to_loop (sub := laws_toInt64S) (S := laws_toInt64SS_S1 a) (fun _ _ => rfl) rfl h.1 (fun x hx => laws_toInt64S_to (h.2 x hx))
theorem laws_toInt64SSS_to {a : List (List (List Int))} (h : (smL (smL (smL smT))) a) : laws_toInt64SSS a = some a :=
  to_loop (sub := laws_toInt64SS) (S := laws_toInt64SSS_S1 a) (fun _ _ => rfl) rfl h.1 (fun x hx => laws_toInt64SS_to (h.2 x hx))
theorem laws_toChecker_to {a : Checker} (h : smChecker a) : laws_toChecker a = some a := by
  unfold laws_toChecker
  rw [laws_toBoolS_to h.2.2.1, Option.bind_some]
  rw [laws_toPushSS_to h.2.2.2.1, Option.bind_some]
  rw [laws_toInt64SSS_to h.2.2.2.2.1, Option.bind_some]
  rw [laws_toInt64SS_to h.2.2.2.2.2, Option.bind_some]
theorem laws_toContext_to {a : Context} (h : smContext a) : laws_toContext a = some a := by
  unfold laws_toContext
  rfl
theorem laws_toContextS_to {a : List Context} (h : (smL smContext) a) : laws_toContextS a = some a :=
  to_loop (sub := laws_toContext) (S := laws_toContextS_S1 a) (fun _ _ => rfl) rfl h.1 (fun x hx => laws_toContext_to (h.2 x hx))
theorem laws_eqBoolS_eq {a : List Bool} (h : (smL smT) a) : laws_eqBoolS a a = some true :=
  eq_loop (sub := (fun x y => some (x == y))) (S := laws_eqBoolS_S1 a a) (fun _ => rfl) rfl h.1 (fun _ _ => by simp)
theorem laws_eqPush_eq {a : Push} (h : smT a) : laws_eqPush a a = some true := by
  unfold laws_eqPush
  simp []
theorem laws_eqPushS_eq {a : List Push} (h : (smL smT) a) : laws_eqPushS a a = some true :=
  eq_loop (sub := laws_eqPush) (S := laws_eqPushS_S1 a a) (fun _ => rfl) rfl h.1 (fun x hx => laws_eqPush_eq (h.2 x hx))
theorem laws_eqPushSS_eq {a : List (List Push)} (h : (smL (smL smT)) a) : laws_eqPushSS a a = some true :=
  eq_loop (sub := laws_eqPushS) (S := laws_eqPushSS_S1 a a) (fun _ => rfl) rfl h.1 (fun x hx => laws_eqPushS_eq (h.2 x hx))
theorem laws_eqInt64S_eq {a : List Int} (h : (smL smT) a) : laws_eqInt64S a a = some true :=
  eq_loop (sub := (fun x y => some (x == y))) (S := laws_eqInt64S_S1 a a) (fun _ => rfl) rfl h.1 (fun _ _ => by simp)
theorem laws_eqInt64SS_eq {a : List (List Int)} (h : (smL (smL smT)) a) : laws_eqInt64SS a a = some true :=
  eq_loop (sub := laws_eqInt64S) (S := laws_eqInt64SS_S1 a a) (fun _ => rfl) rfl h.1 (fun x hx => laws_eqInt64S_eq (h.2 x hx))
theorem laws_eqInt64SSS_eq {a : List (List (List Int))} (h : (smL (smL (smL smT))) a) : laws_eqInt64SSS a a = some true :=
  eq_loop (sub := laws_eqInt64SS) (S := laws_eqInt64SSS_S1 a a) (fun _ => rfl) rfl h.1 (fun x hx => laws_eqInt64SS_eq (h.2 x hx))
theorem laws_eqChecker_eq {a : Checker} (h : smChecker a) : laws_eqChecker a a = some true := by
  unfold laws_eqChecker
  simp [laws_eqBoolS_eq h.2.2.1, laws_eqPushSS_eq h.2.2.2.1, laws_eqInt64SSS_eq h.2.2.2.2.1, laws_eqInt64SS_eq h.2.2.2.2.2]
theorem laws_eqContext_eq {a : Context} (h : smContext a) : laws_eqContext a a = some true := by
  unfold laws_eqContext
  simp []
theorem laws_eqContextS_eq {a : List Context} (h : (smL smContext) a) : laws_eqContextS a a = some true :=
  eq_loop (sub := laws_eqContext) (S := laws_eqContextS_S1 a a) (fun _ => rfl) rfl h.1 (fun x hx => laws_eqContext_eq (h.2 x hx))
theorem laws_toBoolS_K0_to {a : List Bool} (h : (smL smT) a) : laws_toBoolS_K0 a = some a :=
  to_loop (sub := some) (S := laws_toBoolS_K0_S1 a) (fun _ _ => rfl) rfl h.1 (fun _ _ => rfl)
theorem laws_toPushS_K0_to {a : List Push} (h : (smL smT) a) : laws_toPushS_K0 a = some a :=
  to_loop (sub := laws_toPush) (S := laws_toPushS_K0_S1 a) (fun _ _ => rfl) rfl h.1 (fun x hx => laws_toPush_to (h.2 x hx))
theorem laws_toPushSS_K0_to {a : List (List Push)} (h : (smL (smL smT)) a) : laws_toPushSS_K0 a = some a :=
  to_loop (sub := laws_toPushS_K0) (S := laws_toPushSS_K0_S1 a) (fun _ _ => rfl) rfl h.1 (fun x hx => laws_toPushS_K0_to (h.2 x hx))
theorem laws_toInt64S_K0_to {a : List Int} (h : (smL smT) a) : laws_toInt64S_K0 a = some a :=
  to_loop (sub := some) (S := laws_toInt64S_K0_S1 a) (fun _ _ => rfl) rfl h.1 (fun _ _ => rfl)
theorem laws_toInt64SS_K0_to {a : List (List Int)} (h : (smL (smL smT)) a) : laws_toInt64SS_K0 a = some a :=
  to_loop (sub := laws_toInt64S_K0) (S := laws_toInt64SS_K0_S1 a) (fun _ _ => rfl) rfl h.1 (fun x hx => laws_toInt64S_K0_to (h.2 x hx))
theorem laws_toInt64SSS_K0_to {a : List (List (List Int))} (h : (smL (smL (smL smT))) a) : laws_toInt64SSS_K0 a = some a :=
  to_loop (sub := laws_toInt64SS_K0) (S := laws_toInt64SSS_K0_S1 a) (fun _ _ => rfl) rfl h.1 (fun x hx => laws_toInt64SS_K0_to (h.2 x hx))
theorem laws_toChecker_K0_to {a : Checker} (h : smChecker a) : laws_toChecker_K0 a = some a := by
  unfold laws_toChecker_K0
  rw [laws_toBoolS_K0_to h.2.2.1, Option.bind_some]
  rw [laws_toPushSS_K0_to h.2.2.2.1, Option.bind_some]
  rw [laws_toInt64SSS_K0_to h.2.2.2.2.1, Option.bind_some]
  rw [laws_toInt64SS_K0_to h.2.2.2.2.2, Option.bind_some]
theorem laws_toContextS_K0_to {a : List Context} (h : (smL smContext) a) : laws_toContextS_K0 a = some a :=
  to_loop (sub := laws_toContext) (S := laws_toContextS_K0_S1 a) (fun _ _ => rfl) rfl h.1 (fun x hx => laws_toContext_to (h.2 x hx))
theorem laws_markBoolS_K10_mk {a : List Bool} (h : (smL smT) a) : MkOk 1048576 laws_markBoolS_K10 a :=
  mk_one (g := fun k => (remI .i64 k 3).map (· == 0)) (S := laws_markBoolS_K10_S1) (fun m k i => by
    show (if decide (i < (m.length : Int)) = true then (remI .i64 k 3).bind fun q => (ix m i).bind fun _ => (some (Sum.inl (m.set (Int.toNat i) (q == 0), IntKind.wrap .i64 (k + 1), IntKind.wrap .i64 (i + 1))) : Option ((List Bool × Int × Int) ⊕ (Int × List Bool))) else some (Sum.inr (k, m))) = _
    rw [remI3]
    cases ix m i <;> rfl) (fun k => ⟨_, rfl⟩) (fun _ => rfl) h.1
theorem laws_markPushS_K10_mk {a : List Push} (h : (smL smT) a) : MkOk 2097152 laws_markPushS_K10 a := by
  refine mk_gen (B := 2) (S := laws_markPushS_K10_S1) (fun _ => rfl) (fun m k hm => by unfold laws_markPushS_K10_S1; simp only; rw [hm, ltF]; rfl) (fun i m k x hm hx hxa hlt hk hb => ?_) h.1
  unfold laws_markPushS_K10_S1
  simp only [hm, ltT hlt, if_true, ix_lit hx, Option.bind_some, w1 hlt (show a.length ≤ 9223372036854775807 by have := h.1; omega), Int.toNat_natCast, List.set_set]
  refine ⟨_, _, rfl, ?_, ?_⟩
  all_goals (try rw [w64 (n := k + 1) (by omega) (by omega)])
  all_goals (try rw [w64 (n := k + 1 + 1) (by omega) (by omega)])
  all_goals (try rw [w64 (n := k + 1 + 1 + 1) (by omega) (by omega)])
  all_goals omega
theorem laws_markPushSS_K10_mk {a : List (List Push)} (h : (smL (smL smT)) a) : MkOk 2199023255552 laws_markPushSS_K10 a :=
  mk_loop (B := 2097152) (sub := laws_markPushS_K10) (S := laws_markPushSS_K10_S1) (fun _ _ _ => rfl) (fun _ => rfl) h.1 fun x hx => laws_markPushS_K10_mk (h.2 x hx)
theorem laws_markInt64S_K10_mk {a : List Int} (h : (smL smT) a) : MkOk 1048576 laws_markInt64S_K10 a :=
  mk_one (g := some) (S := laws_markInt64S_K10_S1) (fun m k i => rfl) (fun k => ⟨_, rfl⟩) (fun _ => rfl) h.1
theorem laws_markInt64S_K10_seq {a : List Int} (h : a.length ≤ 1048576) {k : Int} (h0 : 0 ≤ k) (h1 : k ≤ 1048576) : laws_markInt64S_K10 a k = some (k + a.length, seqI k a.length) :=
  markI (S := laws_markInt64S_K10_S1) (fun _ _ _ => rfl) (fun _ => rfl) h h0 h1
theorem laws_markInt64SS_K10_mk {a : List (List Int)} (h : (smL (smL smT)) a) : MkOk 1099511627776 laws_markInt64SS_K10 a :=
  mk_loop (B := 1048576) (sub := laws_markInt64S_K10) (S := laws_markInt64SS_K10_S1) (fun _ _ _ => rfl) (fun _ => rfl) h.1 fun x hx => laws_markInt64S_K10_mk (h.2 x hx)
theorem laws_markInt64SSS_K10_mk {a : List (List (List Int))} (h : (smL (smL (smL smT))) a) : MkOk 1152921504606846976 laws_markInt64SSS_K10 a :=
  mk_loop (B := 1099511627776) (sub := laws_markInt64SS_K10) (S := laws_markInt64SSS_K10_S1) (fun _ _ _ => rfl) (fun _ => rfl) h.1 fun x hx => laws_markInt64SS_K10_mk (h.2 x hx)
theorem laws_markChecker_K10_mk {a : Checker} (h : smChecker a) {k : Int} (h0 : 0 ≤ k) (h1 : k + 1152924803142778882 ≤ 4611686018427387904) : ∃ r, laws_markChecker_K10 a k = some r ∧ k ≤ r.1 ∧ r.1 ≤ k + 1152924803142778882 := by
  unfold laws_markChecker_K10
  obtain ⟨r1, e1, l1, u1⟩ := laws_markBoolS_K10_mk h.2.2.1 k (by omega) (by omega)
  rw [e1, Option.bind_some]
  obtain ⟨r2, e2, l2, u2⟩ := laws_markPushSS_K10_mk h.2.2.2.1 r1.1 (by omega) (by omega)
  rw [e2, Option.bind_some]
  obtain ⟨r3, e3, l3, u3⟩ := laws_markInt64SSS_K10_mk h.2.2.2.2.1 r2.1 (by omega) (by omega)
  rw [e3, Option.bind_some]
  obtain ⟨r4, e4, l4, u4⟩ := laws_markInt64SS_K10_mk h.2.2.2.2.2 r3.1 (by omega) (by omega)
  rw [e4, Option.bind_some]
  exact ⟨_, rfl, by show k ≤ r4.1; omega, by show r4.1 ≤ k + 1152924803142778882; omega⟩
theorem laws_heldBoolS_seq {n : Nat} (h : n ≤ 1048576) {k : Int} (h0 : 0 ≤ k) (h1 : k ≤ 1048576) : laws_heldBoolS ((seqI k n).map fun k => k.tmod 3 == 0) k = some (k + n) :=
  heldB (S := laws_heldBoolS_S1) (fun a k i => by
    show (if decide (i < (a.length : Int)) = true then (ix a i).bind fun x => (remI .i64 k 3).bind fun q => (if (!(x == (q == 0))) = true then (some (.inr (-1)) : Option ((Int × Int) ⊕ Int)) else some (.inl (IntKind.wrap .i64 (k + 1), IntKind.wrap .i64 (i + 1)))) else some (.inr k)) = _
    rw [remI3]; rfl) (fun _ _ => rfl) h h0 h1
end Go.Proofs.Ytchahpmelikoaaa.law
namespace Go.Proofs.Ytchahpmelikoaaa.law
open Go Go.Proofs Ae
set_option maxRecDepth 100000
def isC (x : UInt8) : Bool := ((x.toNat : Int) == 40) || ((x.toNat : Int) == 91)
def isR (x : UInt8) : Bool := ((x.toNat : Int) == 41) || ((x.toNat : Int) == 93)
theorem isC_R {x : UInt8} (h : isC x = true) : isR x = false := by
  unfold isC at h; unfold isR
  simp only [Bool.or_eq_true, beq_iff_eq] at h
  simp only [Bool.or_eq_false_iff, beq_eq_false_iff_ne]
  omega

/-- How far a word is matched: partners, pending calls, pending returns. -/
structure MI (w : List UInt8) (i : Nat) (p o r : List Int) : Prop where
  lp : p.length = i
  lo : o.length ≤ i
  lr : r.length ≤ i
  ho : ∀ a ∈ o, ∃ j : Nat, a = (j : Int) ∧ p[j]? = some (-2) ∧ ∃ x, w[j]? = some x ∧ isC x = true
  hr : ∀ a ∈ r, ∃ j : Nat, a = (j : Int) ∧ p[j]? = some (-2) ∧ ∃ x, w[j]? = some x ∧ isR x = true
  co : ∀ (j : Nat) x, p[j]? = some (-2) → w[j]? = some x → isC x = true → (j : Int) ∈ o
  cr : ∀ (j : Nat) x, p[j]? = some (-2) → w[j]? = some x → isR x = true → (j : Int) ∈ r
  nd : o.Nodup

theorem app1 {l : List Int} {a : Int} (h : l.length ≤ 2097152) : app l [a] = some (l ++ [a]) := by
  unfold app; rw [if_pos (by unfold LIM; simp; omega)]
theorem get_snoc {l : List Int} {a : Int} {n : Nat} (h : l.length = n) (j : Nat) : (l ++ [a])[j]? = if j = n then some a else l[j]? := by
  by_cases hj : j < n
  · rw [List.getElem?_append_left (by omega), if_neg (by omega)]
  · by_cases h1 : j = n
    · subst h1; rw [if_pos rfl, ← h]; simp
    · rw [if_neg h1, List.getElem?_eq_none (by simp; omega), List.getElem?_eq_none (by omega)]

theorem MI.call {w : List UInt8} {i : Nat} {p o r : List Int} (h : MI w i p o r) {x : UInt8} (hx : w[i]? = some x) (hc : isC x = true) : MI w (i + 1) (p ++ [-2]) (o ++ [(i : Int)]) r where
  lp := by simp [h.lp]
  lo := by simp; exact h.lo
  lr := by have := h.lr; omega
  ho := fun a ha => by
    rcases List.mem_append.1 ha with ha | ha
    · obtain ⟨j, rfl, h1, h2⟩ := h.ho a ha
      exact ⟨j, rfl, by rw [get_snoc h.lp]; split <;> simp_all, h2⟩
    · rw [List.mem_singleton] at ha
      exact ⟨i, ha, by rw [get_snoc h.lp, if_pos rfl], x, hx, hc⟩
  hr := fun a ha => by
    obtain ⟨j, rfl, h1, h2⟩ := h.hr a ha
    exact ⟨j, rfl, by rw [get_snoc h.lp]; split <;> simp_all, h2⟩
  co := fun j y h1 h2 h3 => by
    rw [get_snoc h.lp] at h1
    split at h1
    · rename_i e; subst e; exact List.mem_append_right _ (List.mem_singleton.2 rfl)
    · exact List.mem_append_left _ (h.co j y h1 h2 h3)
  cr := fun j y h1 h2 h3 => by
    rw [get_snoc h.lp] at h1
    split at h1
    · rename_i e; subst e; rw [hx] at h2; cases h2; rw [isC_R hc] at h3; cases h3
    · exact h.cr j y h1 h2 h3
  nd := by
    rw [List.nodup_append]
    refine ⟨h.nd, by simp, fun a ha b hb e => ?_⟩
    rw [List.mem_singleton] at hb
    subst e
    obtain ⟨j, h1, h2, _⟩ := h.ho a ha
    have hlt := (List.getElem?_eq_some_iff.1 h2).1
    have := h.lp
    omega

theorem MI.ret0 {w : List UInt8} {i : Nat} {p r : List Int} (h : MI w i p [] r) {x : UInt8} (hx : w[i]? = some x) (hr : isR x = true) : MI w (i + 1) (p ++ [-2]) [] (r ++ [(i : Int)]) where
  lp := by simp [h.lp]
  lo := by simp
  lr := by simp; exact h.lr
  ho := fun a ha => by cases ha
  hr := fun a ha => by
    rcases List.mem_append.1 ha with ha | ha
    · obtain ⟨j, rfl, h1, h2⟩ := h.hr a ha
      exact ⟨j, rfl, by rw [get_snoc h.lp]; split <;> simp_all, h2⟩
    · rw [List.mem_singleton] at ha
      exact ⟨i, ha, by rw [get_snoc h.lp, if_pos rfl], x, hx, hr⟩
  co := fun j y h1 h2 h3 => by
    rw [get_snoc h.lp] at h1
    split at h1
    · rename_i e; subst e; rw [hx] at h2; cases h2; rw [isC_R h3] at hr; cases hr
    · exact h.co j y h1 h2 h3
  cr := fun j y h1 h2 h3 => by
    rw [get_snoc h.lp] at h1
    split at h1
    · rename_i e; subst e; exact List.mem_append_right _ (List.mem_singleton.2 rfl)
    · exact List.mem_append_left _ (h.cr j y h1 h2 h3)
  nd := List.nodup_nil

theorem MI.other {w : List UInt8} {i : Nat} {p o r : List Int} (h : MI w i p o r) {a : Int} (ha : a ≠ -2) : MI w (i + 1) (p ++ [a]) o r where
  lp := by simp [h.lp]
  lo := by have := h.lo; omega
  lr := by have := h.lr; omega
  ho := fun b hb => by
    obtain ⟨j, rfl, h1, h2⟩ := h.ho b hb
    have hlt := (List.getElem?_eq_some_iff.1 h1).1
    exact ⟨j, rfl, by rw [get_snoc h.lp, if_neg (by have := h.lp; omega)]; exact h1, h2⟩
  hr := fun b hb => by
    obtain ⟨j, rfl, h1, h2⟩ := h.hr b hb
    have hlt := (List.getElem?_eq_some_iff.1 h1).1
    exact ⟨j, rfl, by rw [get_snoc h.lp, if_neg (by have := h.lp; omega)]; exact h1, h2⟩
  co := fun j y h1 h2 h3 => by
    rw [get_snoc h.lp] at h1
    split at h1
    · cases h1; exact absurd rfl ha
    · exact h.co j y h1 h2 h3
  cr := fun j y h1 h2 h3 => by
    rw [get_snoc h.lp] at h1
    split at h1
    · cases h1; exact absurd rfl ha
    · exact h.cr j y h1 h2 h3
  nd := h.nd

theorem MI.pop {w : List UInt8} {i j : Nat} {p o r : List Int} (h : MI w i p (o ++ [(j : Int)]) r) : MI w i (p.set j (i : Int)) o r := by
  obtain ⟨j', e, hj, y, hy, hc⟩ := h.ho (j : Int) (List.mem_append_right _ (List.mem_singleton.2 rfl))
  obtain rfl : j' = j := by omega
  have hnd := h.nd
  rw [List.nodup_append] at hnd
  have hne : ∀ k : Nat, (k : Int) ∈ o → k ≠ j' := fun k hk e => hnd.2.2 k hk j' (List.mem_singleton.2 rfl) (by rw [e])
  refine ⟨by simp [h.lp], ?_, h.lr, fun b hb => ?_, fun b hb => ?_, fun k z h1 h2 h3 => ?_, fun k z h1 h2 h3 => ?_, hnd.1⟩
  · have := h.lo; simp at this; omega
  · obtain ⟨k, rfl, h1, h2⟩ := h.ho b (List.mem_append_left _ hb)
    exact ⟨k, rfl, by rw [List.getElem?_set, if_neg (fun e => hne k hb e.symm)]; exact h1, h2⟩
  · obtain ⟨k, rfl, h1, z, h2, h3⟩ := h.hr b hb
    refine ⟨k, rfl, ?_, z, h2, h3⟩
    rw [List.getElem?_set, if_neg (fun e => ?_)]
    · exact h1
    · subst e; rw [hy] at h2; cases h2; rw [isC_R hc] at h3; cases h3
  · rw [List.getElem?_set] at h1
    split at h1
    · split at h1
      · cases h1
      · cases h1
    · rename_i hk
      rcases List.mem_append.1 (h.co k z h1 h2 h3) with h4 | h4
      · exact h4
      · rw [List.mem_singleton] at h4; omega
  · rw [List.getElem?_set] at h1
    split at h1
    · split at h1
      · cases h1
      · cases h1
    · exact h.cr k z h1 h2 h3
end Go.Proofs.Ytchahpmelikoaaa.law
namespace Go.Proofs.Ytchahpmelikoaaa.law
open Go Go.Proofs Ae
set_option maxRecDepth 100000

theorem J4eq {m55 m61 m79 m83 m114 : List Int} {t67 t102 t120 : Int} (h1 : m79.length ≤ 2097152) (h2 : m61.length ≤ 2097152) (h3 : m55.length ≤ 2097152) :
    impl_match_J4 m55 m61 t67 m79 m83 t102 m114 t120 = some (.inl (m79 ++ [t120], m83, m114, m55 ++ [(m114.length : Int)], m61 ++ [t102], IntKind.wrap .i64 (t67 + 1))) := by
  unfold impl_match_J4 impl_size_int64_d
  rw [app1 h1, Option.bind_some, app1 h2, Option.bind_some, Option.bind_some, app1 h3, Option.bind_some]
theorem J2eq (w : List UInt8) {m55 m61 m79 m83 m89 : List Int} {t67 t95 : Int} (h : m89.length ≤ 2097152) : ∃ t, impl_match_J2 w m55 m61 t67 m79 m83 m89 t95 = impl_match_J3 w m55 m61 t67 m79 m83 m89 t95 t := by
  unfold impl_match_J2
  by_cases h0 : m89.length = 0
  · exact ⟨-1, by rw [if_neg (by simp [h0])]⟩
  · refine ⟨m89[m89.length - 1]'(by omega), ?_⟩
    rw [if_pos (decide_eq_true (by omega)), w64 (by omega) (by omega), show ((m89.length : Int) - 1) = ((m89.length - 1 : Nat) : Int) by omega, ix_some (by omega), Option.bind_some]
theorem lastix {o : List Int} {a : Int} (h : (o ++ [a]).length ≤ 2097152) : ix (o ++ [a]) (IntKind.wrap .i64 (((o ++ [a]).length : Int) - 1)) = some a ∧ cut (o ++ [a]) 0 (IntKind.wrap .i64 (((o ++ [a]).length : Int) - 1)) = some o := by
  have e : ((o ++ [a]).length : Int) - 1 = (o.length : Int) := by simp
  simp at h
  rw [e, w64 (by omega) (by omega)]
  refine ⟨ix_lit (by simp), ?_⟩
  unfold cut
  rw [if_pos ⟨by omega, by omega, by simp; omega⟩]
  simp

theorem joint {w : List UInt8} (hw : w.length ≤ 1048576) : ∀ (k i : Nat) (p o r d e : List Int), i + k = w.length → MI w i p o r → d.length = i + 1 → e.length = i →
    ∃ P O R, MI w w.length P O R ∧ loop (spec_l01Partners_S1 w) (p, o, (i : Int)) = some P ∧ ∃ D E, loop (impl_match_S1 w) (p, r, o, d, e, (i : Int)) = some ⟨P, R, O, D, E⟩ := by
  intro k
  induction k with
  | zero =>
    intro i p o r d e hi h hd he
    obtain rfl : i = w.length := by omega
    refine ⟨p, o, r, h, loop_R ?_, d, e, loop_R ?_⟩
    · unfold spec_l01Partners_S1; simp only; rw [if_neg (by simp)]; rfl
    · unfold impl_match_S1; simp only; rw [if_neg (by simp)]; rfl
  | succ k ih =>
    intro i p o r d e hi h hd he
    have hlt : i < w.length := by omega
    have hp := h.lp
    have hol := h.lo
    have hrl := h.lr
    have hx : w[i]? = some w[i] := List.getElem?_eq_getElem hlt
    have hch : chr w (i : Int) = some (w[i].toNat : Int) := chr_nat' hlt
    have step : ∀ {p' o' r' d' e' : List Int}, MI w (i + 1) p' o' r' → d'.length = i + 2 → e'.length = i + 1 → spec_l01Partners_S1 w (p, o, (i : Int)) = some (.inl (p', o', ((i + 1 : Nat) : Int))) →
        impl_match_S1 w (p, r, o, d, e, (i : Int)) = some (.inl (p', r', o', d', e', ((i + 1 : Nat) : Int))) →
        ∃ P O R, MI w w.length P O R ∧ loop (spec_l01Partners_S1 w) (p, o, (i : Int)) = some P ∧ ∃ D E, loop (impl_match_S1 w) (p, r, o, d, e, (i : Int)) = some ⟨P, R, O, D, E⟩ := by
      intro p' o' r' d' e' h1 h2 h3 h4 h5
      obtain ⟨P, O, R, k1, k2, D, E, k3⟩ := ih (i + 1) p' o' r' d' e' (by omega) h1 h2 h3
      exact ⟨P, O, R, k1, (loop_L h4).trans k2, D, E, (loop_L h5).trans k3⟩
    have eC : spec_l01Call (w[i].toNat : Int) = some (isC w[i]) := rfl
    have eR : spec_l01Return (w[i].toNat : Int) = some (isR w[i]) := rfl
    have eC' : impl_isCall (w[i].toNat : Int) = some (isC w[i]) := rfl
    have eR' : impl_isReturn (w[i].toNat : Int) = some (isR w[i]) := rfl
    have hw1 := w1 hlt (show w.length ≤ 9223372036854775807 by omega)
    cases hc : isC w[i] with
    | true =>
      have hr := isC_R hc
      obtain ⟨t, ht⟩ := J2eq w (m55 := d) (m61 := e) (m79 := p) (m83 := r) (m89 := o) (t67 := (i : Int)) (t95 := -1) (by omega)
      refine step (d' := d ++ [((o ++ [(i : Int)]).length : Int)]) (e' := e ++ [t]) (h.call hx hc) (by simp [hd]) (by simp [he]) ?_ ?_
      · unfold spec_l01Partners_S1 spec_l01Partners_J2
        simp only
        rw [if_pos (ltT hlt), hch, Option.bind_some, eC, hc, Option.bind_some, if_pos rfl, app1 (by omega), Option.bind_some, app1 (by omega), Option.bind_some, hw1]
      · unfold impl_match_S1
        simp only
        rw [if_pos (ltT hlt), hch, Option.bind_some, eR', hr, Option.bind_some, Bool.false_and, if_neg (by simp), Option.bind_some, eR', hr, Option.bind_some, if_neg (by simp), ht]
        unfold impl_match_J3
        rw [hch, Option.bind_some, eC', hc, Option.bind_some, if_pos rfl, app1 (by omega), Option.bind_some, J4eq (by omega) (by omega) (by omega), hw1]
    | false =>
      cases hr : isR w[i] with
      | true =>
        rcases List.eq_nil_or_concat o with rfl | ⟨o1, a, rfl⟩
        · obtain ⟨t, ht⟩ := J2eq w (m55 := d) (m61 := e) (m79 := p) (m83 := r ++ [(i : Int)]) (m89 := []) (t67 := (i : Int)) (t95 := -2) (by simp)
          refine step (d' := d ++ [(([] : List Int).length : Int)]) (e' := e ++ [t]) (h.ret0 hx hr) (by simp [hd]) (by simp [he]) ?_ ?_
          · unfold spec_l01Partners_S1 spec_l01Partners_J2
            simp only
            rw [if_pos (ltT hlt), hch, Option.bind_some, eC, hc, Option.bind_some, if_neg (by simp), Option.bind_some, eR, hr, Option.bind_some, if_neg (by simp), Option.bind_some, eR, hr, Option.bind_some, if_pos rfl, app1 (by omega), Option.bind_some, hw1]
          · unfold impl_match_S1
            simp only
            rw [if_pos (ltT hlt), hch, Option.bind_some, eR', hr, Option.bind_some, if_pos (by simp), app1 (by omega), Option.bind_some, ht]
            unfold impl_match_J3
            rw [hch, Option.bind_some, eC', hc, Option.bind_some, if_neg (by simp), J4eq (by omega) (by omega) (by omega), hw1]
        · simp only [List.concat_eq_append] at h hol step ⊢
          obtain ⟨j, rfl, hj, _⟩ := h.ho a (List.mem_append_right _ (List.mem_singleton.2 rfl))
          have hjl := (List.getElem?_eq_some_iff.1 hj).1
          obtain ⟨l1, l2⟩ := lastix (o := o1) (a := (j : Int)) (by omega)
          have hm : MI w (i + 1) (p.set j (i : Int) ++ [(j : Int)]) o1 r := h.pop.other (by omega)
          have hol1 : o1.length ≤ 2097152 := by simp at hol; omega
          have hne : ¬ ((o1 ++ [(j : Int)]).length : Int) = 0 := by simp; omega
          obtain ⟨t, ht⟩ := J2eq w (m55 := d) (m61 := e) (m79 := p.set j (i : Int)) (m83 := r) (m89 := o1) (t67 := (i : Int)) (t95 := (j : Int)) hol1
          have hjx : ix p (j : Int) = some p[j] := ix_some hjl
          refine step (d' := d ++ [(o1.length : Int)]) (e' := e ++ [t]) hm (by simp [hd]) (by simp [he]) ?_ ?_
          · unfold spec_l01Partners_S1 spec_l01Partners_J2
            simp only
            rw [if_pos (ltT hlt), hch, Option.bind_some, eC, hc, Option.bind_some, if_neg (by simp), Option.bind_some, eR, hr, Option.bind_some, if_pos (by simp), l1, Option.bind_some, l2, Option.bind_some, hjx, Option.bind_some, Int.toNat_natCast, app1 (by simp; omega), Option.bind_some, hw1]
          · unfold impl_match_S1
            simp only
            rw [if_pos (ltT hlt), hch, Option.bind_some, eR', hr, Option.bind_some, if_neg (by simp; omega), Option.bind_some, eR', hr, Option.bind_some, if_pos rfl, l1, Option.bind_some, hjx, Option.bind_some, l2, Option.bind_some, Int.toNat_natCast, ht]
            unfold impl_match_J3
            rw [hch, Option.bind_some, eC', hc, Option.bind_some, if_neg (by simp), J4eq (by simp; omega) (by omega) (by omega), hw1]
      | false =>
        obtain ⟨t, ht⟩ := J2eq w (m55 := d) (m61 := e) (m79 := p) (m83 := r) (m89 := o) (t67 := (i : Int)) (t95 := -1) (by omega)
        refine step (d' := d ++ [(o.length : Int)]) (e' := e ++ [t]) (h.other (a := -1) (by omega)) (by simp [hd]) (by simp [he]) ?_ ?_
        · unfold spec_l01Partners_S1 spec_l01Partners_J2
          simp only
          rw [if_pos (ltT hlt), hch, Option.bind_some, eC, hc, Option.bind_some, if_neg (by simp), Option.bind_some, eR, hr, Option.bind_some, Bool.false_and, if_neg (by simp), Option.bind_some, eR, hr, Option.bind_some, if_neg (by simp), app1 (by omega), Option.bind_some, hw1]
        · unfold impl_match_S1
          simp only
          rw [if_pos (ltT hlt), hch, Option.bind_some, eR', hr, Option.bind_some, Bool.false_and, if_neg (by simp), Option.bind_some, eR', hr, Option.bind_some, if_neg (by simp), ht]
          unfold impl_match_J3
          rw [hch, Option.bind_some, eC', hc, Option.bind_some, if_neg (by simp), J4eq (by omega) (by omega) (by omega), hw1]
end Go.Proofs.Ytchahpmelikoaaa.law
namespace Go.Proofs.Ytchahpmelikoaaa.law
open Go Go.Proofs Ae
set_option maxRecDepth 100000

theorem pend_step {w : List UInt8} (hw : w.length ≤ 1048576) {P : List Int} (hP : P.length = w.length) {i : Nat} (hi : i < w.length) {a b : Int} (ha : 0 ≤ a) (ha' : a ≤ i) (hb : 0 ≤ b) (hb' : b ≤ i) :
    spec_l01Pending_S1 w P (a, b, (i : Int)) = some (.inl ((if P[i] = -2 ∧ isR w[i] = true then a + 1 else a), (if P[i] = -2 ∧ isC w[i] = true then b + 1 else b), ((i + 1 : Nat) : Int))) := by
  have hch : chr w (i : Int) = some (w[i].toNat : Int) := chr_nat' hi
  have hx : ix P (i : Int) = some P[i] := ix_some (by omega)
  have eC : spec_l01Call (w[i].toNat : Int) = some (isC w[i]) := rfl
  have eR : spec_l01Return (w[i].toNat : Int) = some (isR w[i]) := rfl
  have hw1 := w1 hi (show w.length ≤ 9223372036854775807 by omega)
  have ea : IntKind.wrap .i64 (a + 1) = a + 1 := w64 (by omega) (by omega)
  have eb : IntKind.wrap .i64 (b + 1) = b + 1 := w64 (by omega) (by omega)
  unfold spec_l01Pending_S1 spec_l01Pending_J2 spec_l01Pending_J3
  simp only [ltT hi, hx, hch, eC, eR, Option.bind_some, if_true, hw1, ea, eb]
  by_cases h2 : P[i] = -2
  · cases isR w[i] <;> cases isC w[i] <;> simp [h2]
  · simp [h2]

theorem pend {w : List UInt8} (hw : w.length ≤ 1048576) {P O R : List Int} (h : MI w w.length P O R) :
    ∃ a b : Int, loop (spec_l01Pending_S1 w P) (0, 0, 0) = some (a, b) ∧ 0 ≤ a ∧ a ≤ w.length ∧ 0 ≤ b ∧ b ≤ w.length ∧ (a = 0 ↔ R = []) ∧ (b = 0 ↔ O = []) := by
  have key : ∀ (k i : Nat) (a b : Int), i + k = w.length → 0 ≤ a → a ≤ i → 0 ≤ b → b ≤ i →
      (a = 0 ↔ ∀ (j : Nat) x, j < i → P[j]? = some (-2) → w[j]? = some x → isR x = false) → (b = 0 ↔ ∀ (j : Nat) x, j < i → P[j]? = some (-2) → w[j]? = some x → isC x = false) →
      ∃ a' b' : Int, loop (spec_l01Pending_S1 w P) (a, b, (i : Int)) = some (a', b') ∧ 0 ≤ a' ∧ a' ≤ w.length ∧ 0 ≤ b' ∧ b' ≤ w.length ∧
        (a' = 0 ↔ ∀ (j : Nat) x, j < w.length → P[j]? = some (-2) → w[j]? = some x → isR x = false) ∧ (b' = 0 ↔ ∀ (j : Nat) x, j < w.length → P[j]? = some (-2) → w[j]? = some x → isC x = false) := by
    intro k
    induction k with
    | zero =>
      intro i a b hi h1 h2 h3 h4 h5 h6
      obtain rfl : i = w.length := by omega
      refine ⟨a, b, loop_R ?_, h1, h2, h3, h4, h5, h6⟩
      unfold spec_l01Pending_S1
      simp only
      rw [if_neg (by simp)]; rfl
    | succ k ih =>
      intro i a b hi h1 h2 h3 h4 h5 h6
      have hlt : i < w.length := by omega
      have hst := pend_step hw h.lp hlt h1 h2 h3 h4
      rw [loop_L hst]
      have hpi : P[i]? = some (P[i]'(by rw [h.lp]; exact hlt)) := List.getElem?_eq_getElem _
      have hwi : w[i]? = some w[i] := List.getElem?_eq_getElem hlt
      have up : ∀ (f : UInt8 → Bool) (c : Int), 0 ≤ c → (c = 0 ↔ ∀ (j : Nat) x, j < i → P[j]? = some (-2) → w[j]? = some x → f x = false) →
          ((if P[i]'(by rw [h.lp]; exact hlt) = -2 ∧ f w[i] = true then c + 1 else c) = 0 ↔ ∀ (j : Nat) x, j < i + 1 → P[j]? = some (-2) → w[j]? = some x → f x = false) := by
        intro f c hc hiff
        split
        · rename_i hh
          constructor
          · intro h0; omega
          · intro h0
            have := h0 i w[i] (by omega) (by rw [hpi, hh.1]) hwi
            rw [hh.2] at this; cases this
        · rename_i hh
          rw [hiff]
          constructor
          · intro h0 j x hj h7 h8
            by_cases hji : j < i
            · exact h0 j x hji h7 h8
            · obtain rfl : j = i := by omega
              rw [hpi] at h7; rw [hwi] at h8
              cases h8
              cases hf : f w[j] with
              | false => rfl
              | true => exact absurd ⟨Option.some.inj h7, hf⟩ hh
          · intro h0 j x hj h7 h8; exact h0 j x (by omega) h7 h8
      refine ih (i + 1) _ _ (by omega) (by split <;> omega) (by split <;> omega) (by split <;> omega) (by split <;> omega) (up isR a h1 h5) (up isC b h3 h6)
  obtain ⟨a, b, k1, k2, k3, k4, k5, k6, k7⟩ := key w.length 0 0 0 (by omega) (by omega) (by omega) (by omega) (by omega) (by simp) (by simp)
  refine ⟨a, b, k1, k2, k3, k4, k5, k6.trans ⟨fun h0 => ?_, fun h0 j x hj h7 h8 => ?_⟩, k7.trans ⟨fun h0 => ?_, fun h0 j x hj h7 h8 => ?_⟩⟩
  · cases hR : R with
    | nil => rfl
    | cons c l =>
      obtain ⟨j, _, h1, x, h2, h3⟩ := h.hr c (by rw [hR]; exact List.mem_cons_self ..)
      have := h0 j x (List.getElem?_eq_some_iff.1 h2).1 h1 h2
      rw [h3] at this; cases this
  · cases hf : isR x with
    | false => rfl
    | true => have := h.cr j x h7 h8 hf; rw [h0] at this; cases this
  · cases hO : O with
    | nil => rfl
    | cons c l =>
      obtain ⟨j, _, h1, x, h2, h3⟩ := h.ho c (by rw [hO]; exact List.mem_cons_self ..)
      have := h0 j x (List.getElem?_eq_some_iff.1 h2).1 h1 h2
      rw [h3] at this; cases this
  · cases hf : isC x with
    | false => rfl
    | true => have := h.co j x h7 h8 hf; rw [h0] at this; cases this

/-- A word is matched in the one sense just if in the other. -/
theorem matched_eq {w : List UInt8} (hw : w.length ≤ 1048576) : ∃ b, spec_l01Matched w = some b ∧ impl_isMatched w = some b := by
  obtain ⟨P, O, R, h, h1, D, E, h2⟩ := joint hw w.length 0 [] [] [] [0] [] (by omega) ⟨rfl, by simp, by simp, fun a ha => (by cases ha), fun a ha => (by cases ha), fun j x h => (by simp at h), fun j x h => (by simp at h), List.nodup_nil⟩ rfl rfl
  obtain ⟨a, b, k1, k2, k3, k4, k5, k6, k7⟩ := pend hw h
  have e1 : spec_l01Matched w = some ((a + b) == 0) := by
    unfold spec_l01Matched spec_l01Pending spec_l01Partners
    have h1' : loop (spec_l01Partners_S1 w) ([], [], 0) = some P := h1
    rw [h1', Option.bind_some, k1, Option.bind_some, w64 (by omega) (by omega)]
  have e2 : impl_isMatched w = some (((R.length : Int) + (O.length : Int)) == 0) := by
    unfold impl_isMatched impl_match
    have h2' : loop (impl_match_S1 w) ([], [], [], [0], [], 0) = some ⟨P, R, O, D, E⟩ := h2
    have := h.lo
    have := h.lr
    rw [h2', Option.bind_some]
    show some (IntKind.wrap .i64 ((R.length : Int) + (O.length : Int)) == 0) = _
    rw [w64 (by omega) (by omega)]
  refine ⟨_, e1, ?_⟩
  rw [e2]
  congr 1
  rw [Bool.eq_iff_iff, beq_iff_eq, beq_iff_eq]
  constructor
  · intro h0
    have hR : R = [] := List.length_eq_zero_iff.1 (by omega)
    have hO : O = [] := List.length_eq_zero_iff.1 (by omega)
    have := k6.2 hR; have := k7.2 hO
    omega
  · intro h0
    have hR := k6.1 (by omega); have hO := k7.1 (by omega)
    rw [hR, hO]; rfl
end Go.Proofs.Ytchahpmelikoaaa.law
namespace Go.Proofs.Ytchahpmelikoaaa.law
open Go Go.Proofs Ae
set_option maxRecDepth 100000

theorem sym_ix (x : UInt8) : spec_l01Symbol (x.toNat : Int) = some (fst? (· == x) [40, 91, 41, 93, 97, 98]) := by
  unfold spec_l01Symbol
  refine loop_find (l := ([40, 91, 41, 93, 97, 98] : List UInt8)) (· == x) (loop_R (by rfl)) fun i y hi => ?_
  have hlt : i < 6 := (List.getElem?_eq_some_iff.1 hi).1
  unfold spec_l01Symbol_S1
  rw [if_pos (decide_eq_true (by omega)), chr_nat hi, Option.bind_some, w1 hlt (by decide), u8_eq]
theorem ix_ix (x : UInt8) : strings_IndexByte [40, 91, 41, 93, 97, 98] (x.toNat : Int) = some (fst? (· == x) [40, 91, 41, 93, 97, 98]) := by
  unfold strings_IndexByte internal_stringslite_IndexByte ixByteM ixByte
  rw [indexByte_fst]
  simp
theorem word_S (w : List UInt8) : impl_ValidWord_S1 w = spec_l01Ok_S1 w := by
  funext i
  unfold impl_ValidWord_S1 spec_l01Ok_S1
  split
  · refine bindC fun c hc => ?_
    obtain ⟨x, rfl⟩ := chr_some hc
    rw [ix_ix, sym_ix]
  · rfl
theorem word_eq (w : List UInt8) : impl_ValidWord w = spec_l01Ok w := by
  unfold impl_ValidWord spec_l01Ok; rw [word_S]
theorem word_tot {w : List UInt8} (h : w.length ≤ 9223372036854775807) : ∃ b, spec_l01Ok w = some b := by
  unfold spec_l01Ok
  obtain ⟨r, h, _⟩ := loop_tot (step := spec_l01Ok_S1 w) (n := w.length) (fun _ => True) ⟨_, loop_R (by unfold spec_l01Ok_S1; rw [if_neg (by simp)]; rfl), trivial⟩ fun i hi => by
    unfold spec_l01Ok_S1
    rw [if_pos (ltT hi), chr_nat' hi, Option.bind_some, sym_ix, Option.bind_some, w1 hi h]
    split
    · exact .inr ⟨_, rfl, trivial⟩
    · exact .inl rfl
  exact ⟨r, h⟩

def okL (l : List Int) (k n : Int) : Bool := ((l.length : Int) == k) && l.all fun x => decide (x ≥ 0) && decide (x ≤ IntKind.wrap .i64 (n - 1))
theorem specL {l : List Int} (h : l.length ≤ 1048576) (k n : Int) : spec_l02List l k n = some (okL l k n) := by
  unfold spec_l02List okL
  by_cases hk : (l.length : Int) = k
  · rw [if_neg (by simpa using hk), show ((l.length : Int) == k) = true by simpa using hk, Bool.true_and]
    rw [loop_allL (l := l) (p := fun x => decide (x ≥ 0) && decide (x ≤ IntKind.wrap .i64 (n - 1))) (rt := some true) (rf := false) (loop_R (by unfold spec_l02List_S1; rw [if_neg (by simp)]; rfl)) fun i x hx => by
      have hlt := (List.getElem?_eq_some_iff.1 hx).1
      unfold spec_l02List_S1
      rw [if_pos (ltT hlt), ix_lit hx, Option.bind_some, w1 hlt (by omega)]
      unfold spec_l00In
      rw [Option.bind_some]
      cases (decide (x ≥ 0) && decide (x ≤ IntKind.i64.wrap (n - 1))) <;> rfl]
    split <;> simp_all
  · rw [if_pos (by simpa using hk), show ((l.length : Int) == k) = false by simpa using hk, Bool.false_and]
theorem containsI {l : List Int} (h : l.length ≤ 1048576) (f : Int → Option Bool) (p : Int → Bool) (hf : ∀ x ∈ l, f x = some (p x)) : slices_ContainsFunc_sint64_int64 l f = some (l.any p) := by
  unfold slices_ContainsFunc_sint64_int64 slices_IndexFunc_sint64_int64
  rw [loop_find (l := l) p (loop_R (by unfold slices_IndexFunc_sint64_int64_S1; rw [if_neg (by simp)]; rfl)) fun i x hx => by
    have hlt := (List.getElem?_eq_some_iff.1 hx).1
    unfold slices_IndexFunc_sint64_int64_S1
    rw [if_pos (ltT hlt), ix_lit hx, Option.bind_some, hf x (List.mem_of_getElem? hx), Option.bind_some, w1 hlt (by omega)]]
  rw [Option.bind_some, fst?_any]
theorem implL {l : List Int} (h : l.length ≤ 1048576) (k : Int) (c : Checker) : impl_ValidChecker_1 l k c = some (okL l k c.Accept.length) := by
  unfold impl_ValidChecker_1
  rw [containsI h (fun x => impl_ValidChecker_1_1 x c) (fun x => !(decide (x ≥ 0) && decide (x ≤ IntKind.wrap .i64 ((c.Accept.length : Int) - 1)))) fun x _ => rfl]
  unfold okL impl_size_int64
  rw [Option.bind_some, Option.bind_some, ite_some, Option.bind_some, ite_and]
  congr 2
  induction l with
  | nil => rfl
  | cons a l ih =>
    rw [List.any_cons, List.all_cons, Bool.not_or, Bool.not_not, ih (by simp at h; omega)]

theorem chk_S2 {c : Checker} (h : smChecker c) (t : Int) : impl_ValidChecker_S2 c t = spec_l02Ok_S2 c t := by
  funext k
  unfold impl_ValidChecker_S2 spec_l02Ok_S2
  split
  · refine bindC fun x hx => bindC fun p hp => ?_
    unfold impl_Checker_isState impl_Checker_isMark impl_size_bool impl_within spec_l00In
    simp only [Option.bind_some, ite_some, ite_or, hx, hp]
    split
    · rfl
    · congr 1
      refine bindC fun r hr => bindC fun l hl => ?_
      have hm := ((h.2.2.2.2.1).2 r (ix_mem hr)).2 l (ix_mem hl)
      rw [implL hm.1, specL hm.1]
  · rfl
theorem chk_S1 {c : Checker} (h : smChecker c) : impl_ValidChecker_S1 c (c.Accept.length : Int) = spec_l02Ok_S1 c := by
  funext k
  unfold impl_ValidChecker_S1 spec_l02Ok_S1
  simp only [chk_S2 h]
  split
  · refine bindC fun x hx => ?_
    congr 1
    funext b
    congr 1
    split
    · rfl
    · refine bindC fun l hl => ?_
      have hm := (h.2.2.2.2.2).2 l (ix_mem hl)
      rw [implL hm.1, specL hm.1]
  · rfl
theorem chk_eq {c : Checker} (h : smChecker c) : impl_ValidChecker c = spec_l02Ok c := by
  unfold impl_ValidChecker spec_l02Ok
  unfold impl_Checker_isState impl_size_bool impl_within spec_l00In impl_size_simpl_Push impl_size_s_int64 impl_size_sint64
  simp only [Option.bind_some, ite_some, ite_or, chk_S1 h]
theorem chk_tot {c : Checker} (h : smChecker c) : ∃ b, spec_l02Ok c = some b := by
  unfold spec_l02Ok spec_l00In
  simp only [Option.bind_some, ite_some, ite_or]
  split
  · exact ⟨_, rfl⟩
  · rename_i hg
    simp only [Bool.or_eq_true, not_or, bne_iff_ne, ne_eq, Decidable.not_not, Bool.not_eq_true] at hg
    obtain ⟨⟨⟨_, hC⟩, hR⟩, hI⟩ := hg
    have hA := h.2.2.1.1
    obtain ⟨r, h1, _⟩ := loop_tot (step := spec_l02Ok_S1 c) (n := c.Accept.length) (fun _ => True) ⟨_, loop_R (by unfold spec_l02Ok_S1; rw [if_neg (by simp)]; rfl), trivial⟩ fun i hi => by
      unfold spec_l02Ok_S1
      have hc : i < c.Call.length := by omega
      have hr : i < c.Return.length := by omega
      have hn : i < c.Inner.length := by omega
      have hm := h.2.2.2.2.2.2 _ (List.getElem_mem hn)
      rw [if_pos (ltT hi), ix_some hc, Option.bind_some, ix_some hr, Option.bind_some, ite_some, Option.bind_some, ite_or, ix_some hn, Option.bind_some, specL hm.1, Option.bind_some, ite_some, Option.bind_some, ite_or]
      split
      · exact .inr ⟨_, rfl, trivial⟩
      · rename_i hg
        simp only [Bool.or_eq_true, not_or, bne_iff_ne, ne_eq, Decidable.not_not, Bool.not_eq_true] at hg
        obtain ⟨⟨h2, h3⟩, _⟩ := hg
        obtain ⟨r, h4, h5⟩ := loop_tot (step := spec_l02Ok_S2 c i) (n := 2) (fun r => r = .inl ((i + 1 : Nat) : Int) ∨ r = .inr false) ⟨_, loop_R (by unfold spec_l02Ok_S2; rw [if_neg (by simp)]; rfl), .inl (by rw [w1 hi (by omega)])⟩ fun k hk => by
          unfold spec_l02Ok_S2
          have hmr := (h.2.2.2.2.1.2 _ (List.getElem_mem hr)).2 (c.Return[i][k]'(by omega)) (List.getElem_mem _)
          have e1 : ix c.Call (i : Int) = some c.Call[i] := ix_some hc
          have e2 : ix c.Call[i] (k : Int) = some (c.Call[i][k]'(by omega)) := ix_some _
          have e3 : ix c.Return (i : Int) = some c.Return[i] := ix_some hr
          have e4 : ix c.Return[i] (k : Int) = some (c.Return[i][k]'(by omega)) := ix_some _
          unfold spec_l00In
          simp only [if_pos (decide_eq_true (show (k : Int) < 2 by omega)), e1, e2, e3, e4, Option.bind_some, specL hmr.1, w1 hk (by decide), ite_some, ite_or]
          split
          · exact .inr ⟨_, rfl, .inr rfl⟩
          · exact .inl rfl
        rw [h4]
        rcases h5 with rfl | rfl
        · exact .inl rfl
        · exact .inr ⟨_, rfl, trivial⟩
    exact ⟨r, h1⟩
end Go.Proofs.Ytchahpmelikoaaa.law
namespace Go.Proofs.Ytchahpmelikoaaa.law
open Go Go.Proofs Ae
set_option maxRecDepth 100000
theorem own_eq {l : List Int} (h : l.length ≤ 2097152) : spec_l00Own l = some l := by
  unfold spec_l00Own app
  rw [if_pos (by unfold LIM; simp; omega)]
  rfl
theorem clone_eq {l : List Int} (h : l.length ≤ 2097152) : cloneI l = some l := by
  unfold cloneI; rw [if_pos (by omega)]

theorem kind_eq (x : UInt8) : impl_kindOf (x.toNat : Int) = remI .i64 (fst? (· == x) [40, 91, 41, 93, 97, 98]) 2 := by
  unfold impl_kindOf
  rw [ix_ix, Option.bind_some]
  cases remI .i64 (fst? (· == x) [40, 91, 41, 93, 97, 98]) 2 <;> rfl

/-- A symbol moves a checker in the one sense as in the other. -/
theorem step_eq {c : Checker} {st : Int} {sk : List Int} (h : sk.length ≤ 1048576) {x : UInt8} (hx : x = 40 ∨ x = 91 ∨ x = 41 ∨ x = 93 ∨ x = 97 ∨ x = 98) : spec_l02Step c st sk (x.toNat : Int) = impl_Checker_step c st sk (x.toNat : Int) := by
  have call : ∀ (k : Int), spec_l01Symbol (x.toNat : Int) = some k → impl_kindOf (x.toNat : Int) = some k → impl_isCall (x.toNat : Int) = some true → k < 2 → spec_l02Step c st sk (x.toNat : Int) = impl_Checker_step c st sk (x.toNat : Int) := by
    intro k h1 h2 h3 h4
    unfold spec_l02Step impl_Checker_step
    rw [h1, h2, h3]
    simp only [Option.bind_some, decide_eq_true h4, if_true, own_eq (show sk.length ≤ 2097152 by omega), clone_eq (show sk.length ≤ 2097152 by omega)]
  have inner : ∀ (k : Int), spec_l01Symbol (x.toNat : Int) = some (k + 4) → impl_kindOf (x.toNat : Int) = some k → impl_isCall (x.toNat : Int) = some false → impl_isInner (x.toNat : Int) = some true → 0 ≤ k → k < 2 → spec_l02Step c st sk (x.toNat : Int) = impl_Checker_step c st sk (x.toNat : Int) := by
    intro k h1 h2 h3 h4 h5 h6
    unfold spec_l02Step impl_Checker_step
    rw [h1, h2, h3, h4]
    have e1 : decide (k + 4 < 2) = false := decide_eq_false (by omega)
    have e2 : decide (k + 4 < 4) = false := decide_eq_false (by omega)
    have e3 : IntKind.wrap .i64 (k + 4 - 4) = k := by rw [w64 (by omega) (by omega)]; omega
    simp only [Option.bind_some, e1, e2, e3, Bool.false_and, Bool.false_eq_true, if_false, if_true]
  have ret : ∀ (k : Int), spec_l01Symbol (x.toNat : Int) = some (k + 2) → impl_kindOf (x.toNat : Int) = some k → impl_isCall (x.toNat : Int) = some false → impl_isInner (x.toNat : Int) = some false → 0 ≤ k → k < 2 → spec_l02Step c st sk (x.toNat : Int) = impl_Checker_step c st sk (x.toNat : Int) := by
    intro k h1 h2 h3 h4 h5 h6
    unfold spec_l02Step impl_Checker_step impl_Checker_step_J1
    rw [h1, h2, h3, h4]
    have e1 : decide (k + 2 < 2) = false := decide_eq_false (by omega)
    have e2 : decide (k + 2 < 4) = true := decide_eq_true (by omega)
    have e3 : IntKind.wrap .i64 (k + 2 - 2) = k := by rw [w64 (by omega) (by omega)]; omega
    rcases List.eq_nil_or_concat sk with rfl | ⟨l, a, rfl⟩
    · have e7 : ((([] : List Int).length : Int) == 0) = true := rfl
      have e8 : decide ((([] : List Int).length : Int) > 0) = false := rfl
      simp only [Option.bind_some, e1, e2, e3, e7, e8, Bool.and_self, Bool.false_eq_true, if_false, if_true]
    · simp only [List.concat_eq_append] at h ⊢
      have el : ((l ++ [a]).length : Int) - 1 = (l.length : Int) := by simp
      simp only [List.length_append, List.length_singleton] at h
      have e4 : IntKind.wrap .i64 (((l ++ [a]).length : Int) - 1) = (l.length : Int) := by rw [el, w64 (by omega) (by omega)]
      have e5 : ix (l ++ [a]) (l.length : Int) = some a := ix_lit (by simp)
      have e6 : cut (l ++ [a]) 0 (l.length : Int) = some l := by
        unfold cut
        rw [if_pos ⟨by omega, by omega, by simp; omega⟩]
        simp
      have e7 : (((l ++ [a]).length : Int) == 0) = false := by simp; omega
      have e8 : decide (((l ++ [a]).length : Int) > 0) = true := by simp
      simp only [Option.bind_some, e1, e2, e3, e4, e5, e6, e7, e8, own_eq (show l.length ≤ 2097152 by omega), Bool.and_false, Bool.false_eq_true, if_false, if_true]
  rcases hx with rfl | rfl | rfl | rfl | rfl | rfl
  · exact call 0 (by rw [sym_ix]; rfl) (by rw [kind_eq]; rfl) rfl (by omega)
  · exact call 1 (by rw [sym_ix]; rfl) (by rw [kind_eq]; rfl) rfl (by omega)
  · exact ret 0 (by rw [sym_ix]; rfl) (by rw [kind_eq]; rfl) rfl rfl (by omega) (by omega)
  · exact ret 1 (by rw [sym_ix]; rfl) (by rw [kind_eq]; rfl) rfl rfl (by omega) (by omega)
  · exact inner 0 (by rw [sym_ix]; rfl) (by rw [kind_eq]; rfl) rfl rfl (by omega) (by omega)
  · exact inner 1 (by rw [sym_ix]; rfl) (by rw [kind_eq]; rfl) rfl rfl (by omega) (by omega)

theorem clone_some {l m : List Int} (h : cloneI l = some m) : m = l := by
  unfold cloneI at h
  split at h <;> cases h
  rfl
theorem step_len {c : Checker} {st : Int} {sk : List Int} {b : Int} {a : Int} {r : List Int} (h : impl_Checker_step c st sk b = some (a, r)) : r.length ≤ sk.length + 1 := by
  unfold impl_Checker_step impl_Checker_step_J1 at h
  simp only [Option.bind_eq_some_iff] at h
  obtain ⟨k, _, y, _, h⟩ := h
  split at h
  · simp only [Option.bind_eq_some_iff] at h
    obtain ⟨_, _, _, _, l, hl, l2, hl2, h⟩ := h
    cases h
    obtain ⟨rfl, _⟩ := app_some hl2
    rw [clone_some hl]; simp
  · simp only [Option.bind_eq_some_iff] at h
    obtain ⟨y2, _, h⟩ := h
    split at h
    · simp only [Option.bind_eq_some_iff] at h
      obtain ⟨_, _, _, _, h⟩ := h
      cases h; omega
    · split at h
      · simp only [Option.bind_eq_some_iff] at h
        obtain ⟨_, _, l, hl, _, _, _, _, _, _, h⟩ := h
        cases h
        obtain ⟨h1, h2, h3, rfl⟩ := cut_some hl
        simp only [List.length_take, List.length_drop]
        omega
      · simp only [Option.bind_eq_some_iff] at h
        obtain ⟨_, _, _, _, _, _, h⟩ := h
        cases h; omega

def okSym (x : UInt8) : Prop := x = 40 ∨ x = 91 ∨ x = 41 ∨ x = 93 ∨ x = 97 ∨ x = 98

/-- A word moves a checker in the one sense as in the other. -/
theorem go_eq {c : Checker} {w : List UInt8} (hw : ∀ x ∈ w, okSym x) {st : Int} {sk : List Int} (h : sk.length + w.length ≤ 1048576) : spec_l02Go c st sk w = impl_Checker_end c st sk w := by
  have key : ∀ (k i : Nat) (st : Int) (sk : List Int), i + k = w.length → sk.length + k ≤ 1048576 → loop (impl_Checker_run_F1_S1 c w) (st, sk, st, sk, (i : Int)) = (loop (spec_l02Go_S1 c w) (st, sk, (i : Int))).map fun p => ((), p.1, p.2) := by
    intro k
    induction k with
    | zero =>
      intro i st sk hi _
      obtain rfl : i = w.length := by omega
      have e1 : loop (impl_Checker_run_F1_S1 c w) (st, sk, st, sk, (w.length : Int)) = some ((), st, sk) := loop_R (by
        unfold impl_Checker_run_F1_S1; simp only; rw [if_neg (by simp)]; rfl)
      have e2 : loop (spec_l02Go_S1 c w) (st, sk, (w.length : Int)) = some (st, sk) := loop_R (by
        unfold spec_l02Go_S1; simp only; rw [if_neg (by simp)]; rfl)
      rw [e1, e2]; rfl
    | succ k ih =>
      intro i st sk hi hl
      have hlt : i < w.length := by omega
      have hs := step_eq (c := c) (st := st) (sk := sk) (by omega) (hw w[i] (List.getElem_mem hlt))
      have hw1 := w1 hlt (show w.length ≤ 9223372036854775807 by omega)
      have e1 : impl_Checker_run_F1_S1 c w (st, sk, st, sk, (i : Int)) = (impl_Checker_step c st sk (w[i].toNat : Int)).bind fun y => some (.inl (y.1, y.2, y.1, y.2, ((i + 1 : Nat) : Int))) := by
        unfold impl_Checker_run_F1_S1 impl_Checker_end_1_F1
        simp only
        rw [if_pos (ltT hlt), chr_nat' hlt, Option.bind_some, hw1]
        rfl
      have e2 : spec_l02Go_S1 c w (st, sk, (i : Int)) = (impl_Checker_step c st sk (w[i].toNat : Int)).bind fun y => some (.inl (y.1, y.2, ((i + 1 : Nat) : Int))) := by
        unfold spec_l02Go_S1
        simp only
        rw [if_pos (ltT hlt), chr_nat' hlt, Option.bind_some, hw1, hs]
      cases hy : impl_Checker_step c st sk (w[i].toNat : Int) with
      | none =>
        rw [hy] at e1 e2
        rw [loop_eq, e1, loop_eq (spec_l02Go_S1 c w), e2]
        rfl
      | some y =>
        obtain ⟨a, r⟩ := y
        rw [hy] at e1 e2
        rw [loop_L e1, loop_L e2]
        exact ih (i + 1) a r (by omega) (by have := step_len hy; omega)
  unfold spec_l02Go impl_Checker_end impl_Checker_run_F1 impl_Checker_end_1_F1
  have := key w.length 0 st sk (by omega) h
  simp only [Option.bind_some]
  rw [show ((0 : Nat) : Int) = 0 from rfl] at this
  rw [this]
  cases loop (spec_l02Go_S1 c w) (st, sk, 0) <;> rfl
end Go.Proofs.Ytchahpmelikoaaa.law
namespace Go.Proofs.Ytchahpmelikoaaa.law
open Go Go.Proofs Ae
set_option maxRecDepth 100000

theorem loop_true {ρ : Type} {step : Int → Option (Int ⊕ ρ)} {n : Nat} {rt : ρ} (hst : ∀ (i : Nat) y, i < n → step (i : Int) = some y → y = .inl ((i + 1 : Nat) : Int) ∨ ∃ r, y = .inr r ∧ r ≠ rt) :
    ∀ (k i : Nat), i + k = n → loop step (i : Int) = some rt → ∀ j, i ≤ j → j < n → step (j : Int) = some (.inl ((j + 1 : Nat) : Int)) := by
  intro k
  induction k with
  | zero => intro i hi _ j h1 h2; omega
  | succ k ih =>
    intro i hi h j h1 h2
    have h0 : step (i : Int) = some (.inl ((i + 1 : Nat) : Int)) := by
      cases hs : step (i : Int) with
      | none => rw [loop_eq, hs] at h; cases h
      | some y =>
        rcases hst i y (by omega) hs with rfl | ⟨r, rfl, hr⟩
        · rfl
        · rw [loop_R hs] at h; cases h; exact absurd rfl hr
    by_cases e : i = j
    · subst e; exact h0
    · rw [loop_L h0] at h
      exact ih (i + 1) (by omega) h j (by omega) h2

theorem okL_iff {l : List Int} {k n : Int} (h0 : 0 ≤ n) (h1 : n ≤ 1048576) (h : okL l k n = true) : (l.length : Int) = k ∧ ∀ x ∈ l, 0 ≤ x ∧ x < n := by
  unfold okL at h
  rw [w64 (by omega) (by omega)] at h
  simp only [Bool.and_eq_true, beq_iff_eq, List.all_eq_true, decide_eq_true_eq] at h
  exact ⟨h.1, fun x hx => by have := h.2 x hx; omega⟩

/-- A right checker. -/
structure ChkV (c : Checker) : Prop where
  n1 : 1 ≤ c.Accept.length
  n2 : c.Accept.length ≤ 40
  k1 : 1 ≤ c.Stack
  k2 : c.Stack ≤ 80
  s1 : 0 ≤ c.Start
  s2 : c.Start < c.Accept.length
  lc : c.Call.length = c.Accept.length
  lr : c.Return.length = c.Accept.length
  li : c.Inner.length = c.Accept.length
  call : ∀ l ∈ c.Call, l.length = 2 ∧ ∀ p ∈ l, 0 ≤ p.To ∧ p.To < c.Accept.length ∧ 0 ≤ p.Put ∧ p.Put < c.Stack
  ret : ∀ l ∈ c.Return, l.length = 2 ∧ ∀ r ∈ l, (r.length : Int) = c.Stack + 1 ∧ ∀ x ∈ r, 0 ≤ x ∧ x < c.Accept.length
  inn : ∀ l ∈ c.Inner, l.length = 2 ∧ ∀ x ∈ l, 0 ≤ x ∧ x < c.Accept.length

theorem chk_V {c : Checker} (h : smChecker c) (hk : spec_l02Ok c = some true) : ChkV c := by
  unfold spec_l02Ok spec_l00In at hk
  simp only [Option.bind_some, ite_some, ite_or] at hk
  split at hk
  · cases hk
  rename_i hg
  simp only [Bool.or_eq_true, not_or, bne_iff_ne, ne_eq, Decidable.not_not, Bool.not_eq_true, Bool.not_eq_false', Bool.and_eq_true, decide_eq_true_eq] at hg
  obtain ⟨⟨⟨⟨⟨hA, hK⟩, hS⟩, hC⟩, hR⟩, hI⟩ := hg
  rw [w64 (by omega) (by omega)] at hS
  have hA2 : c.Accept.length ≤ 40 := by omega
  have step := loop_true (step := spec_l02Ok_S1 c) (n := c.Accept.length) (rt := true) (fun i y hi hy => by
    unfold spec_l02Ok_S1 at hy
    rw [if_pos (ltT hi)] at hy
    simp only [Option.bind_eq_some_iff] at hy
    obtain ⟨_, _, b1, _, b2, _, hy⟩ := hy
    split at hy
    · cases hy; exact .inr ⟨false, rfl, by simp⟩
    · -- the loop over both kinds
      have key : ∀ (k : Nat) (j : Nat), j + k = 2 → loop (spec_l02Ok_S2 c i) (j : Int) = some y → y = .inl ((i + 1 : Nat) : Int) ∨ ∃ r, y = .inr r ∧ r ≠ true := by
        intro k
        induction k with
        | zero =>
          intro j hj hl
          obtain rfl : j = 2 := by omega
          rw [loop_R (r := .inl ((i + 1 : Nat) : Int)) (by unfold spec_l02Ok_S2 spec_l02Ok_J2; rw [if_neg (by simp), w1 hi (by omega)]; rfl)] at hl
          cases hl; exact .inl rfl
        | succ k ih =>
          intro j hj hl
          cases hs : spec_l02Ok_S2 c i j with
          | none => rw [loop_eq, hs] at hl; cases hl
          | some z =>
            have hs' := hs
            unfold spec_l02Ok_S2 at hs
            rw [if_pos (by simp; omega)] at hs
            simp only [Option.bind_eq_some_iff] at hs
            obtain ⟨_, _, _, _, _, _, _, _, _, _, hs⟩ := hs
            split at hs
            · cases hs
              rw [loop_R hs'] at hl
              cases hl; exact .inr ⟨false, rfl, by simp⟩
            · cases hs
              rw [loop_L hs', w1 (show j < 2 by omega) (by decide)] at hl
              exact ih (j + 1) (by omega) hl
      exact key 2 0 rfl hy) c.Accept.length 0 (by omega) hk
  have row : ∀ i, i < c.Accept.length → (∃ l, c.Call[i]? = some l ∧ l.length = 2 ∧ ∀ p ∈ l, 0 ≤ p.To ∧ p.To < c.Accept.length ∧ 0 ≤ p.Put ∧ p.Put < c.Stack) ∧
      (∃ l, c.Return[i]? = some l ∧ l.length = 2 ∧ ∀ r ∈ l, (r.length : Int) = c.Stack + 1 ∧ ∀ x ∈ r, 0 ≤ x ∧ x < c.Accept.length) ∧ (∃ l, c.Inner[i]? = some l ∧ l.length = 2 ∧ ∀ x ∈ l, 0 ≤ x ∧ x < c.Accept.length) := by
    intro i hi
    have hst := step i (by omega) hi
    unfold spec_l02Ok_S1 at hst
    have hc : i < c.Call.length := by omega
    have hr : i < c.Return.length := by omega
    have hn : i < c.Inner.length := by omega
    have hm := h.2.2.2.2.2.2 _ (List.getElem_mem hn)
    rw [if_pos (ltT hi), ix_some hc, Option.bind_some, ix_some hr, Option.bind_some, ite_some, Option.bind_some, ite_or, ix_some hn, Option.bind_some, specL hm.1, Option.bind_some, ite_some, Option.bind_some, ite_or] at hst
    split at hst
    · cases hst
    rename_i hg
    simp only [Bool.or_eq_true, not_or, bne_iff_ne, ne_eq, Decidable.not_not, Bool.not_eq_true, Bool.not_eq_false'] at hg
    obtain ⟨⟨h2, h3⟩, h4⟩ := hg
    have hO := okL_iff (by omega) (by omega) h4
    have h2' : c.Call[i].length = 2 := by omega
    have h3' : c.Return[i].length = 2 := by omega
    have step2 := loop_true (step := spec_l02Ok_S2 c i) (n := 2) (rt := .inl ((i + 1 : Nat) : Int)) (fun k y hk2 hy => by
      unfold spec_l02Ok_S2 at hy
      rw [if_pos (by simp; omega)] at hy
      simp only [Option.bind_eq_some_iff] at hy
      obtain ⟨_, _, _, _, _, _, _, _, _, _, hy⟩ := hy
      split at hy
      · cases hy; exact .inr ⟨_, rfl, by simp⟩
      · cases hy; rw [w1 hk2 (by decide)]; exact .inl rfl) 2 0 rfl hst
    have cell : ∀ k (hk2 : k < 2), (0 ≤ (c.Call[i][k]'(by omega)).To ∧ (c.Call[i][k]'(by omega)).To < (c.Accept.length : Int) ∧ 0 ≤ (c.Call[i][k]'(by omega)).Put ∧ (c.Call[i][k]'(by omega)).Put < c.Stack) ∧
        (((c.Return[i][k]'(by omega)).length : Int) = c.Stack + 1 ∧ ∀ x ∈ (c.Return[i][k]'(by omega)), 0 ≤ x ∧ x < c.Accept.length) := by
      intro k hk2
      have hs := step2 k (by omega) hk2
      unfold spec_l02Ok_S2 at hs
      have hmr := (h.2.2.2.2.1.2 _ (List.getElem_mem hr)).2 (c.Return[i][k]'(by omega)) (List.getElem_mem _)
      have e1 : ix c.Call (i : Int) = some c.Call[i] := ix_some hc
      have e2 : ix c.Call[i] (k : Int) = some (c.Call[i][k]'(by omega)) := ix_some _
      have e3 : ix c.Return (i : Int) = some c.Return[i] := ix_some hr
      have e4 : ix c.Return[i] (k : Int) = some (c.Return[i][k]'(by omega)) := ix_some _
      unfold spec_l00In at hs
      simp only [if_pos (decide_eq_true (show (k : Int) < 2 by omega)), e1, e2, e3, e4, Option.bind_some, specL hmr.1, w1 hk2 (by decide), ite_some, ite_or] at hs
      rw [w64 (n := (c.Accept.length : Int) - 1) (by omega) (by omega), w64 (n := c.Stack - 1) (by omega) (by omega), w64 (n := c.Stack + 1) (by omega) (by omega)] at hs
      split at hs
      · cases hs
      rename_i hg
      simp only [Bool.or_eq_true, not_or, Bool.not_eq_true, Bool.not_eq_false', Bool.and_eq_true, decide_eq_true_eq] at hg
      obtain ⟨⟨g1, g2⟩, g3⟩ := hg
      exact ⟨⟨g1.1, by omega, g2.1, by omega⟩, okL_iff (by omega) (by omega) g3⟩
    have two : ∀ {α : Type} (l : List α) (x : α), l.length = 2 → x ∈ l → ∃ k, ∃ (hk : k < l.length), k < 2 ∧ l[k] = x := by
      intro α l x hl hx
      obtain ⟨k, hk, e⟩ := List.getElem_of_mem hx
      exact ⟨k, hk, by omega, e⟩
    refine ⟨⟨_, List.getElem?_eq_getElem hc, h2', fun p hp => ?_⟩, ⟨_, List.getElem?_eq_getElem hr, h3', fun r hr' => ?_⟩, ⟨_, List.getElem?_eq_getElem hn, by have := hO.1; omega, hO.2⟩⟩
    · obtain ⟨k, _, hk2, rfl⟩ := two _ p h2' hp
      exact (cell k hk2).1
    · obtain ⟨k, _, hk2, rfl⟩ := two _ r h3' hr'
      exact (cell k hk2).2
  have mem : ∀ {α : Type} (L : List α) (l : α), L.length = c.Accept.length → l ∈ L → ∃ i, i < c.Accept.length ∧ L[i]? = some l := by
    intro α L l hL hl
    obtain ⟨i, hi, e⟩ := List.getElem_of_mem hl
    exact ⟨i, by omega, by rw [List.getElem?_eq_getElem hi, e]⟩
  refine ⟨by omega, hA2, by omega, by omega, by omega, by omega, by omega, by omega, by omega, fun l hl => ?_, fun l hl => ?_, fun l hl => ?_⟩
  · obtain ⟨i, hi, e⟩ := mem c.Call l (by omega) hl
    obtain ⟨l', e', h'⟩ := (row i hi).1
    rw [e] at e'; cases e'; exact h'
  · obtain ⟨i, hi, e⟩ := mem c.Return l (by omega) hl
    obtain ⟨l', e', h'⟩ := (row i hi).2.1
    rw [e] at e'; cases e'; exact h'
  · obtain ⟨i, hi, e⟩ := mem c.Inner l (by omega) hl
    obtain ⟨l', e', h'⟩ := (row i hi).2.2
    rw [e] at e'; cases e'; exact h'
end Go.Proofs.Ytchahpmelikoaaa.law
namespace Go.Proofs.Ytchahpmelikoaaa.law
open Go Go.Proofs Ae
set_option maxRecDepth 100000

theorem word_ok {w : List UInt8} (hl : w.length ≤ 1048576) (h : spec_l01Ok w = some true) : ∀ x ∈ w, okSym x := by
  unfold spec_l01Ok at h
  have hst := loop_true (step := spec_l01Ok_S1 w) (n := w.length) (rt := true) (fun i y hi hy => by
    unfold spec_l01Ok_S1 at hy
    rw [if_pos (ltT hi), chr_nat' hi, Option.bind_some, sym_ix, Option.bind_some, w1 hi (by omega)] at hy
    split at hy
    · cases hy; exact .inr ⟨false, rfl, by simp⟩
    · cases hy; exact .inl rfl)
  have hend : loop (spec_l01Ok_S1 w) ((0 : Nat) : Int) = some true := h
  have hst := hst w.length 0 (by omega) hend
  intro x hx
  obtain ⟨i, hi, rfl⟩ := List.getElem_of_mem hx
  have h1 := hst i (by omega) hi
  unfold spec_l01Ok_S1 at h1
  rw [if_pos (ltT hi), chr_nat' hi, Option.bind_some, sym_ix, Option.bind_some] at h1
  split at h1
  · cases h1
  · rename_i hn
    have h2 : ¬ fst? (· == w[i]) [40, 91, 41, 93, 97, 98] < 0 := by simpa using hn
    have h3 := fst?_any (· == w[i]) ([40, 91, 41, 93, 97, 98] : List UInt8)
    rw [show decide ((fst? (· == w[i]) [40, 91, 41, 93, 97, 98] : Int) ≥ 0) = true by simpa using h2] at h3
    simp only [List.any_cons, List.any_nil, Bool.or_false, Eq.comm (a := true), Bool.or_eq_true, beq_iff_eq] at h3
    unfold okSym
    rcases h3 with h | h | h | h | h | h <;> simp [← h]

def okStk (c : Checker) (sk : List Int) : Prop := ∀ x ∈ sk, 0 ≤ x ∧ x < c.Stack

theorem sym_k {x : UInt8} (hx : okSym x) : ∃ k : Nat, k < 6 ∧ spec_l01Symbol (x.toNat : Int) = some (k : Int) := by
  rcases hx with rfl | rfl | rfl | rfl | rfl | rfl <;> rw [sym_ix]
  · exact ⟨0, by omega, rfl⟩
  · exact ⟨1, by omega, rfl⟩
  · exact ⟨2, by omega, rfl⟩
  · exact ⟨3, by omega, rfl⟩
  · exact ⟨4, by omega, rfl⟩
  · exact ⟨5, by omega, rfl⟩

theorem ix_in {α : Type} {l : List α} {i : Int} (h0 : 0 ≤ i) (h1 : i < l.length) : ∃ x, ix l i = some x ∧ x ∈ l := by
  have hlt : i.toNat < l.length := by omega
  refine ⟨l[i.toNat], ?_, List.getElem_mem hlt⟩
  unfold ix
  rw [if_pos h0, List.getElem?_eq_getElem hlt]

/-- A right checker goes on from right places. -/
theorem step_tot {c : Checker} (hc : ChkV c) {st : Int} {sk : List Int} (h0 : 0 ≤ st) (h1 : st < c.Accept.length) (hk : okStk c sk) (hl : sk.length ≤ 1048576) {x : UInt8} (hx : okSym x) :
    ∃ st' sk', spec_l02Step c st sk (x.toNat : Int) = some (st', sk') ∧ 0 ≤ st' ∧ st' < c.Accept.length ∧ okStk c sk' ∧ sk'.length ≤ sk.length + 1 := by
  obtain ⟨k, hk6, hsym⟩ := sym_k hx
  unfold spec_l02Step
  rw [hsym, Option.bind_some]
  by_cases h2 : k < 2
  · rw [if_pos (decide_eq_true (by omega))]
    obtain ⟨row, e1, m1⟩ := ix_in (l := c.Call) h0 (by rw [hc.lc]; exact h1)
    obtain ⟨hr2, hrp⟩ := hc.call row m1
    obtain ⟨p, e2, m2⟩ := ix_in (l := row) (i := (k : Int)) (by omega) (by omega)
    obtain ⟨p1, p2, p3, p4⟩ := hrp p m2
    rw [e1, Option.bind_some, e2, Option.bind_some, own_eq (by omega), Option.bind_some]
    unfold app
    rw [if_pos (by unfold LIM; simp; omega), Option.bind_some]
    refine ⟨_, _, rfl, p1, p2, ?_, by simp⟩
    intro y hy
    rcases List.mem_append.1 hy with hy | hy
    · exact hk y hy
    · rw [List.mem_singleton.1 hy]; exact ⟨p3, p4⟩
  · rw [if_neg (by simp; omega)]
    by_cases h4 : k < 4
    · obtain ⟨row, e1, m1⟩ := ix_in (l := c.Return) h0 (by rw [hc.lr]; exact h1)
      obtain ⟨hr2, hrp⟩ := hc.ret row m1
      have hw2 : IntKind.wrap .i64 ((k : Int) - 2) = (k : Int) - 2 := w64 (by omega) (by omega)
      obtain ⟨r, e2, m2⟩ := ix_in (l := row) (i := (k : Int) - 2) (by omega) (by omega)
      obtain ⟨hr3, hrx⟩ := hrp r m2
      rcases List.eq_nil_or_concat sk with rfl | ⟨l, a, rfl⟩
      · obtain ⟨y, e3, m3⟩ := ix_in (l := r) (i := c.Stack) (by have := hc.k1; omega) (by omega)
        rw [if_pos (by simp; omega), e1, Option.bind_some, hw2, e2, Option.bind_some, e3, Option.bind_some]
        exact ⟨_, _, rfl, (hrx y m3).1, (hrx y m3).2, hk, by simp⟩
      · simp only [List.concat_eq_append] at hk hl ⊢
        simp only [List.length_append, List.length_singleton] at hl
        have ha := hk a (by simp)
        have el : ((l ++ [a]).length : Int) - 1 = (l.length : Int) := by simp
        have e4 : IntKind.wrap .i64 (((l ++ [a]).length : Int) - 1) = (l.length : Int) := by rw [el, w64 (by omega) (by omega)]
        have e5 : ix (l ++ [a]) (l.length : Int) = some a := ix_lit (by simp)
        have e6 : cut (l ++ [a]) 0 (l.length : Int) = some l := by
          unfold cut
          rw [if_pos ⟨by omega, by omega, by simp; omega⟩]
          simp
        obtain ⟨y, e3, m3⟩ := ix_in (l := r) (i := a) ha.1 (by omega)
        rw [if_neg (by simp; omega), if_pos (decide_eq_true (by omega))]
        simp only [e1, hw2, e2, e4, e5, e3, e6, Option.bind_some, own_eq (show l.length ≤ 2097152 by omega)]
        exact ⟨_, _, rfl, (hrx y m3).1, (hrx y m3).2, fun z hz => hk z (by simp [hz]), by simp; omega⟩
    · rw [if_neg (by simp; omega), if_neg (by simp; omega)]
      obtain ⟨row, e1, m1⟩ := ix_in (l := c.Inner) h0 (by rw [hc.li]; exact h1)
      obtain ⟨hr2, hrp⟩ := hc.inn row m1
      have hw2 : IntKind.wrap .i64 ((k : Int) - 4) = (k : Int) - 4 := w64 (by omega) (by omega)
      obtain ⟨y, e2, m2⟩ := ix_in (l := row) (i := (k : Int) - 4) (by omega) (by omega)
      rw [e1, Option.bind_some, hw2, e2, Option.bind_some]
      exact ⟨_, _, rfl, (hrp y m2).1, (hrp y m2).2, hk, by omega⟩

/-- A right checker comes to the end of a word. -/
theorem go_tot {c : Checker} (hc : ChkV c) {w : List UInt8} (hw : ∀ x ∈ w, okSym x) {st : Int} {sk : List Int} (h0 : 0 ≤ st) (h1 : st < c.Accept.length) (hk : okStk c sk) (hl : sk.length + w.length ≤ 1048576) :
    ∃ st' sk', spec_l02Go c st sk w = some (st', sk') ∧ 0 ≤ st' ∧ st' < c.Accept.length ∧ okStk c sk' ∧ sk'.length ≤ sk.length + w.length := by
  have key : ∀ (k i : Nat) (st : Int) (sk : List Int), i + k = w.length → 0 ≤ st → st < c.Accept.length → okStk c sk → sk.length + k ≤ 1048576 →
      ∃ st' sk', loop (spec_l02Go_S1 c w) (st, sk, (i : Int)) = some (st', sk') ∧ 0 ≤ st' ∧ st' < c.Accept.length ∧ okStk c sk' ∧ sk'.length ≤ sk.length + k := by
    intro k
    induction k with
    | zero =>
      intro i st sk hi h0 h1 hk hl
      obtain rfl : i = w.length := by omega
      exact ⟨st, sk, loop_R (by unfold spec_l02Go_S1; simp only; rw [if_neg (by simp)]; rfl), h0, h1, hk, by omega⟩
    | succ k ih =>
      intro i st sk hi h0 h1 hk hl
      have hlt : i < w.length := by omega
      obtain ⟨st', sk', e, k0, k1, k2, k3⟩ := step_tot hc h0 h1 hk (by omega) (hw w[i] (List.getElem_mem hlt))
      obtain ⟨a, b, e2, j0, j1, j2, j3⟩ := ih (i + 1) st' sk' (by omega) k0 k1 k2 (by omega)
      refine ⟨a, b, ?_, j0, j1, j2, by omega⟩
      rw [loop_L (s' := (st', sk', ((i + 1 : Nat) : Int))) (by
        unfold spec_l02Go_S1
        simp only
        rw [if_pos (ltT hlt), chr_nat' hlt, Option.bind_some, e, Option.bind_some, w1 hlt (by omega)])]
      exact e2
  exact key w.length 0 st sk (by omega) h0 h1 hk hl

end Go.Proofs.Ytchahpmelikoaaa.law
namespace Go.Proofs.Ytchahpmelikoaaa.law
open Go Go.Proofs Ae
set_option maxRecDepth 100000

theorem markBoolS_seq {a : List Bool} (h : a.length ≤ 1048576) {k : Int} (h0 : 0 ≤ k) (h1 : k ≤ 1048576) : laws_markBoolS_K10 a k = some (k + a.length, (seqI k a.length).map fun k => k.tmod 3 == 0) :=
  markF (g := fun k => k.tmod 3 == 0) (S := laws_markBoolS_K10_S1) (fun m k i => by
    show (if decide (i < (m.length : Int)) = true then (remI .i64 k 3).bind fun q => (ix m i).bind fun _ => (some (Sum.inl (m.set (Int.toNat i) (q == 0), IntKind.wrap .i64 (k + 1), IntKind.wrap .i64 (i + 1))) : Option ((List Bool × Int × Int) ⊕ (Int × List Bool))) else some (Sum.inr (k, m))) = _
    rw [remI3]
    cases ix m i <;> rfl) (fun _ => rfl) h h0 h1

theorem app_ok {α : Type} {x y : List α} (h : x.length + y.length ≤ 100000000) : app x y = some (x ++ y) := by
  unfold app; rw [if_pos (by simp [LIM]; omega)]

/-- Texts of numbers. -/
theorem text_loop : ∀ (d k : Nat) (out : List UInt8), k < 10 ^ d → k ≤ 9223372036854775807 → out.length + d ≤ 1000 → ∃ r, loop laws_markText_S1 ((k : Int), out) = some r
  | d, 0, out, _, _, hl => by
    refine ⟨[109] ++ out, loop_R ?_⟩
    unfold laws_markText_S1 laws_markText_J1
    simp only
    rw [if_neg (by simp), app_ok (by simp; try omega)]
    rfl
  | 0, k + 1, out, hk, _, _ => by simp at hk
  | d + 1, k + 1, out, hk, hb, hl => by
    obtain ⟨r, hr⟩ := text_loop d ((k + 1) / 10) (bytesOf [IntKind.wrap .u8 (IntKind.wrap .i64 (48 + ((k + 1 : Nat) : Int).tmod 10))] ++ out) (by rw [Nat.pow_succ] at hk; omega) (by omega) (by simp [bytesOf]; omega)
    refine ⟨r, (loop_L ?_).trans hr⟩
    unfold laws_markText_S1
    simp only
    have h1 : decide (((k + 1 : Nat) : Int) > 0) = true := by simp
    have q : quoI .i64 ((k + 1 : Nat) : Int) 10 = some (((k + 1) / 10 : Nat) : Int) := by
      unfold quoI
      rw [if_neg (by decide), Int.tdiv_eq_ediv_of_nonneg (by omega), w64 (by omega) (by omega)]
      rfl
    rw [if_pos h1]
    unfold remI
    rw [if_neg (by decide), Option.bind_some, app_ok (by simp [bytesOf]; omega), Option.bind_some, q, Option.bind_some]

theorem text_tot {k : Int} (h : k ≤ 9223372036854775807) : ∃ r, laws_markText k = some r := by
  unfold laws_markText
  split
  · exact ⟨_, rfl⟩
  · rename_i hn
    have hn' : 0 < k := by simpa using hn
    obtain ⟨u, rfl⟩ := Int.eq_ofNat_of_zero_le (Int.le_of_lt hn')
    exact text_loop 19 u [] (by omega) (by omega) (by simp)

theorem markContextS_mk {a : List Context} (h : (smL smContext) a) : MkOk 2097152 laws_markContextS_K10 a := by
  refine mk_gen (B := 2) (S := laws_markContextS_K10_S1) (fun _ => rfl) (fun m k hm => by unfold laws_markContextS_K10_S1; simp only; rw [hm, ltF]; rfl) (fun i m k x hm hx hxa hlt hk hb => ?_) h.1
  unfold laws_markContextS_K10_S1
  have w0 : IntKind.wrap .i64 (k + 1) = k + 1 := w64 (by omega) (by omega)
  have w2 : IntKind.wrap .i64 (k + 1 + 1) = k + 1 + 1 := w64 (by omega) (by omega)
  obtain ⟨y1, e1⟩ := text_tot (k := k) (by omega)
  obtain ⟨y2, e2⟩ := text_tot (k := k + 1) (by omega)
  simp only [hm, ltT hlt, if_true, ix_lit hx, Option.bind_some, w0, w2, e1, e2, w1 hlt (show a.length ≤ 9223372036854775807 by have := h.1; omega), Int.toNat_natCast, List.set_set]
  exact ⟨_, _, rfl, by omega, by omega⟩

theorem takes_eq {c : Checker} (hc : ChkV c) {w : List UInt8} (hw : ∀ x ∈ w, okSym x) (hl : w.length ≤ 1048576) : ∃ b, spec_l02Takes c w = some b ∧ impl_Checker_takes c w = some b := by
  obtain ⟨st, sk, e, h0, h1, _, _⟩ := go_tot hc hw (st := c.Start) (sk := []) hc.s1 hc.s2 (fun x hx => by cases hx) (by simpa using hl)
  obtain ⟨x, hx, _⟩ := ix_in h0 h1
  have e' := e
  rw [go_eq hw (by simpa using hl)] at e'
  unfold spec_l02Takes impl_Checker_takes
  rw [e, e', Option.bind_some]
  have hx' : ix c.Accept (st, sk).1 = some x := hx
  rw [hx']
  exact ⟨x, rfl, rfl⟩

/-- A context of words. -/
structure CtxOk (x : Context) : Prop where
  f : ∀ y ∈ x.Front, okSym y
  b : ∀ y ∈ x.Back, okSym y
  lf : x.Front.length ≤ 1048576
  lb : x.Back.length ≤ 1048576

theorem takesF {c : Checker} (hc : ChkV c) {w : List UInt8} (hw : ∀ x ∈ w, okSym x) (m : Bool) :
    (60 < w.length ∧ impl_asker_takes_F1 c.Stack c.Start c.Accept c.Call c.Return c.Inner m w = some (false, true)) ∨ (w.length ≤ 60 ∧ ∃ b, spec_l02Takes c w = some b ∧ impl_asker_takes_F1 c.Stack c.Start c.Accept c.Call c.Return c.Inner m w = some (b, m)) := by
  by_cases h : 60 < w.length
  · left
    refine ⟨h, ?_⟩
    unfold impl_asker_takes_F1
    rw [if_pos (by simp; omega)]
  · right
    obtain ⟨b, h1, h2⟩ := takes_eq hc hw (by omega)
    refine ⟨by omega, b, h1, ?_⟩
    unfold impl_asker_takes_F1
    rw [if_neg (by simp; omega), show (⟨c.Stack, c.Start, c.Accept, c.Call, c.Return, c.Inner⟩ : Checker) = c from rfl, h2]
    rfl

section
variable {c : Checker} {u : List UInt8} {l : List Context}

theorem around_ok {x : Context} (hx : CtxOk x) (hu : ∀ y ∈ u, okSym y) (lu : u.length ≤ 1048576) : app x.Front u = some (x.Front ++ u) ∧ app (x.Front ++ u) x.Back = some (x.Front ++ u ++ x.Back) ∧ (∀ y ∈ x.Front ++ u ++ x.Back, okSym y) ∧ impl_Context_around x u = some (x.Front ++ u ++ x.Back) := by
  have h1 := hx.lf
  have h2 := hx.lb
  have e1 : app x.Front u = some (x.Front ++ u) := app_ok (by omega)
  have e2 : app (x.Front ++ u) x.Back = some (x.Front ++ u ++ x.Back) := app_ok (by simp; omega)
  refine ⟨e1, e2, ?_, ?_⟩
  · intro y hy
    simp only [List.mem_append] at hy
    rcases hy with (hy | hy) | hy
    · exact hx.f y hy
    · exact hu y hy
    · exact hx.b y hy
  · unfold impl_Context_around
    rw [e1, Option.bind_some, e2]
    rfl

/-- One that was too long stays so. -/
theorem row_long (hc : ChkV c) (hu : ∀ y ∈ u, okSym y) (lu : u.length ≤ 1048576) (hl : l.length ≤ 40) (hx : ∀ x ∈ l, CtxOk x) : ∀ (k i : Nat) (out : List Bool), i + k = l.length → out.length = i →
    ∃ r, loop (impl_asker_row_K100_S1 c.Stack c.Start c.Accept c.Call c.Return c.Inner u l) (true, out, (i : Int)) = some (r, true) ∧ r.length ≤ 40
  | 0, i, out, hi, ho => by
    obtain rfl : i = l.length := by omega
    exact ⟨out, loop_R (by unfold impl_asker_row_K100_S1; simp only; rw [if_neg (by simp)]; rfl), by omega⟩
  | k + 1, i, out, hi, ho => by
    have hlt : i < l.length := by omega
    obtain ⟨_, _, ha, e⟩ := around_ok (hx l[i] (List.getElem_mem hlt)) hu lu
    have hap : ∀ b : Bool, app out [b] = some (out ++ [b]) := fun b => app_ok (by simp; omega)
    have w := w1 hlt (show l.length ≤ 9223372036854775807 by omega)
    rcases takesF hc ha true with ⟨_, ht⟩ | ⟨_, b, _, ht⟩
    · obtain ⟨r, h1, h2⟩ := row_long hc hu lu hl hx k (i + 1) (out ++ [false]) (by omega) (by simp [ho])
      exact ⟨r, by rw [loop_L (by unfold impl_asker_row_K100_S1; simp only; rw [if_pos (ltT hlt), ix_some hlt, Option.bind_some, e, Option.bind_some, ht, Option.bind_some, hap, Option.bind_some, w])]; exact h1, h2⟩
    · obtain ⟨r, h1, h2⟩ := row_long hc hu lu hl hx k (i + 1) (out ++ [b]) (by omega) (by simp [ho])
      exact ⟨r, by rw [loop_L (by unfold impl_asker_row_K100_S1; simp only; rw [if_pos (ltT hlt), ix_some hlt, Option.bind_some, e, Option.bind_some, ht, Option.bind_some, hap, Option.bind_some, w])]; exact h1, h2⟩

theorem row_go (hc : ChkV c) (hu : ∀ y ∈ u, okSym y) (lu : u.length ≤ 1048576) (hl : l.length ≤ 40) (hx : ∀ x ∈ l, CtxOk x) : ∀ (k i : Nat) (out : List Bool), i + k = l.length → out.length = i →
    ∃ r b m, loop (spec_l04Row_S1 c u l) (out, (i : Int)) = some (r, b) ∧ loop (impl_asker_row_K100_S1 c.Stack c.Start c.Accept c.Call c.Return c.Inner u l) (false, out, (i : Int)) = some (m, !b) ∧ (b = true → m = r) ∧ r.length ≤ 40 ∧ m.length ≤ 40
  | 0, i, out, hi, ho => by
    obtain rfl : i = l.length := by omega
    exact ⟨out, true, out, loop_R (by unfold spec_l04Row_S1; simp only; rw [if_neg (by simp)]; rfl), loop_R (by unfold impl_asker_row_K100_S1; simp only; rw [if_neg (by simp)]; rfl), fun _ => rfl, by omega, by omega⟩
  | k + 1, i, out, hi, ho => by
    have hlt : i < l.length := by omega
    obtain ⟨e1, e2, ha, e⟩ := around_ok (hx l[i] (List.getElem_mem hlt)) hu lu
    have hap : ∀ b : Bool, app out [b] = some (out ++ [b]) := fun b => app_ok (by simp; omega)
    have w := w1 hlt (show l.length ≤ 9223372036854775807 by omega)
    rcases takesF hc ha false with ⟨hlen, ht⟩ | ⟨hlen, b, hs, ht⟩
    · obtain ⟨r, h1, h2⟩ := row_long hc hu lu hl hx k (i + 1) (out ++ [false]) (by omega) (by simp [ho])
      refine ⟨[], false, r, loop_R ?_, ?_, (fun h => by cases h), by simp, h2⟩
      · unfold spec_l04Row_S1
        simp only
        rw [if_pos (ltT hlt), ix_some hlt, Option.bind_some, e1, Option.bind_some, Option.bind_some, e2, Option.bind_some, if_pos (by simp at hlen ⊢; omega)]
      · rw [loop_L (by unfold impl_asker_row_K100_S1; simp only; rw [if_pos (ltT hlt), ix_some hlt, Option.bind_some, e, Option.bind_some, ht, Option.bind_some, hap, Option.bind_some, w])]
        exact h1
    · obtain ⟨r, b', m, h1, h2, h3, h4, h5⟩ := row_go hc hu lu hl hx k (i + 1) (out ++ [b]) (by omega) (by simp [ho])
      refine ⟨r, b', m, ?_, ?_, h3, h4, h5⟩
      · rw [loop_L (by unfold spec_l04Row_S1; simp only; rw [if_pos (ltT hlt), ix_some hlt, Option.bind_some, e1, Option.bind_some, Option.bind_some, e2, Option.bind_some, if_neg (by simp at hlen ⊢; omega), hs, Option.bind_some, hap, Option.bind_some, w])]
        exact h1
      · rw [loop_L (by unfold impl_asker_row_K100_S1; simp only; rw [if_pos (ltT hlt), ix_some hlt, Option.bind_some, e, Option.bind_some, ht, Option.bind_some, hap, Option.bind_some, w])]
        exact h2
end

noncomputable def okW (w : List UInt8) : Bool := (spec_l01Ok w).getD false
theorem okW_eq {w : List UInt8} (h : w.length ≤ 1048576) : spec_l01Ok w = some (okW w) := by
  obtain ⟨b, hb⟩ := word_tot (w := w) (by omega)
  unfold okW
  rw [hb]; rfl
noncomputable def okC (x : Context) : Bool := okW x.Front && okW x.Back

theorem okC_ok {x : Context} (h : smContext x) (k : okC x = true) : CtxOk x := by
  unfold okC at k
  rw [Bool.and_eq_true] at k
  have h1 : x.Front.length ≤ 1048576 := h.1
  have h2 : x.Back.length ≤ 1048576 := h.2
  exact ⟨word_ok h1 (by rw [okW_eq h1, k.1]), word_ok h2 (by rw [okW_eq h2, k.2]), h1, h2⟩

theorem spec_ctx {c : Checker} {u : List UInt8} {l : List Context} (hx : smL smContext l) : ∀ (k i : Nat) (ok : Bool), i + k = l.length → loop (spec_RowOf_S1 c u l) (ok, (i : Int)) = spec_RowOf_J1 c u l (ok && (l.drop i).all okC)
  | 0, i, ok, hi => by
    obtain rfl : i = l.length := by omega
    rw [loop_eq]
    unfold spec_RowOf_S1
    simp only
    rw [if_neg (by simp), List.drop_length, List.all_nil, Bool.and_true]
    cases spec_RowOf_J1 c u l ok <;> rfl
  | k + 1, i, ok, hi => by
    have hlt : i < l.length := by omega
    cases ok with
    | false =>
      rw [loop_eq]
      unfold spec_RowOf_S1
      simp only
      rw [if_neg (by simp), Bool.false_and]
      cases spec_RowOf_J1 c u l false <;> rfl
    | true =>
      have hm := hx.2 l[i] (List.getElem_mem hlt)
      have w := w1 hlt (show l.length ≤ 9223372036854775807 by have := hx.1; omega)
      rw [loop_L (s' := (okC l[i], ((i + 1 : Nat) : Int))) (by
        unfold spec_RowOf_S1
        simp only
        rw [if_pos (by rw [ltT hlt]; rfl), ix_some hlt, Option.bind_some, okW_eq hm.1, Option.bind_some, Option.bind_some, okW_eq hm.2, Option.bind_some, w]
        unfold okC
        cases okW l[i].Front <;> rfl), spec_ctx hx k (i + 1) _ (by omega)]
      have e : l.drop i = l[i] :: l.drop (i + 1) := List.drop_eq_getElem_cons hlt
      rw [e, List.all_cons, Bool.true_and]

theorem impl_ctx {l : List Context} (hx : smL smContext l) : slices_ContainsFunc_simpl_Context_impl_Context l (fun x => impl_RowOf_1 x) = some (!(l.all okC)) := by
  unfold slices_ContainsFunc_simpl_Context_impl_Context slices_IndexFunc_simpl_Context_impl_Context
  rw [loop_find (l := l) (fun x => !okC x) (loop_R (by unfold slices_IndexFunc_simpl_Context_impl_Context_S1; rw [if_neg (by simp)]; rfl)) fun i x hx' => by
    have hlt := (List.getElem?_eq_some_iff.1 hx').1
    have hm := hx.2 x (List.mem_of_getElem? hx')
    have hw : impl_RowOf_1 x = some (!okC x) := by
      unfold impl_RowOf_1 okC
      rw [word_eq, word_eq, okW_eq hm.1, okW_eq hm.2]
      cases okW x.Front <;> rfl
    unfold slices_IndexFunc_simpl_Context_impl_Context_S1
    rw [if_pos (ltT hlt), ix_lit hx', Option.bind_some]
    show ((impl_RowOf_1 x).bind _) = _
    rw [hw, Option.bind_some, w1 hlt (by have := hx.1; omega)]]
  rw [Option.bind_some, fst?_any]
  congr 1
  clear hx
  induction l with
  | nil => rfl
  | cons a l ih => rw [List.any_cons, List.all_cons, Bool.not_and, ih]

theorem impl_K (c : Checker) (u : List UInt8) (l : List Context) : impl_RowOf c u l = impl_RowOf_K000 c u l := rfl

theorem row_eq {c : Checker} (h : smChecker c) {u : List UInt8} (hu : smS u) {l : List Context} (hx : smL smContext l) : ∃ r, spec_RowOf c u l = some r ∧ impl_RowOf_K000 c u l = some r ∧ r.1.length ≤ 1048576 := by
  have hu' : u.length ≤ 1048576 := hu
  obtain ⟨b1, hb1⟩ := chk_tot h
  unfold spec_RowOf impl_RowOf_K000
  rw [chk_eq h, word_eq, hb1, okW_eq hu']
  cases b1 with
  | false => exact ⟨_, rfl, rfl, by simp⟩
  | true =>
    cases hb2 : okW u with
    | false => exact ⟨_, rfl, rfl, by simp⟩
    | true =>
      have hs := word_ok hu' (by rw [okW_eq hu', hb2])
      have sc := spec_ctx (c := c) (u := u) hx l.length 0 (decide ((l.length : Int) ≤ 40)) (by omega)
      rw [List.drop_zero] at sc
      simp only [Option.bind_some, Bool.not_true, Bool.false_eq_true, if_false]
      have sc' : loop (spec_RowOf_S1 c u l) (decide ((l.length : Int) ≤ 40), 0) = _ := sc
      rw [sc', impl_ctx hx]
      by_cases h40 : l.length ≤ 40
      · have e1 : decide ((l.length : Int) ≤ 40) = true := by simp; omega
        have e2 : decide ((l.length : Int) > 40) = false := by simp; omega
        rw [e1, e2, Bool.true_and]
        cases hal : l.all okC with
        | false => exact ⟨([], 2), rfl, rfl, by simp⟩
        | true =>
          have hcx : ∀ x ∈ l, CtxOk x := fun x hm => okC_ok (hx.2 x hm) (List.all_eq_true.1 hal x hm)
          obtain ⟨b3, h3, h4⟩ := matched_eq hu'
          unfold spec_RowOf_J1
          simp only [Option.bind_some, Bool.not_true, Bool.false_eq_true, if_false, h3, h4]
          cases b3 with
          | false => exact ⟨([], 4), rfl, rfl, by simp⟩
          | true =>
            have hc := chk_V h hb1
            obtain ⟨r, b, m, r1, r2, r3, r4, r5⟩ := row_go hc hs hu' h40 hcx l.length 0 [] (by omega) rfl
            unfold spec_l04Row impl_asker_row_K100
            have r1' : loop (spec_l04Row_S1 c u l) ([], 0) = some (r, b) := r1
            have r2' : loop (impl_asker_row_K100_S1 c.Stack c.Start c.Accept c.Call c.Return c.Inner u l) (false, [], 0) = some (m, !b) := r2
            rw [r1', r2']
            cases b with
            | false => exact ⟨([], 3), rfl, rfl, by simp⟩
            | true =>
              obtain rfl := r3 rfl
              exact ⟨(m, 0), rfl, rfl, by show m.length ≤ 1048576; omega⟩
      · have e1 : decide ((l.length : Int) ≤ 40) = false := by simp; omega
        have e2 : decide ((l.length : Int) > 40) = true := by simp; omega
        rw [e1, e2, Bool.false_and]
        exact ⟨([], 2), rfl, rfl, by simp⟩

theorem law_RowOf {c : Checker} (hc : bChecker c) {u : List UInt8} (hu : bS u) {l : List Context} (hl : bL bContext l) : laws_FnExactRowOf c u l = some true := by
  unfold laws_FnExactRowOf
  by_cases hlen : u.length ≤ 1048576
  · have hu' : smS u := hlen
    rw [if_neg (by simp; omega)]
    obtain ⟨q, h1, h2, h3⟩ := laws_szChecker_sz hc 1048576 (by omega) (by omega)
    rw [h1, Option.bind_some]
    by_cases hr : q < 0
    · rw [if_pos (decide_eq_true hr)]
    · rw [if_neg (by simpa using hr)]
      have hs : smChecker c ∧ 0 ≤ q := by
        rcases h3 with h3 | h3
        · exact absurd h3 hr
        · exact ⟨h3.2, h3.1⟩
      obtain ⟨hs, hq⟩ := hs
      obtain ⟨q2, j1, j2, j3⟩ := laws_szContextS_sz hl q (by omega) (by omega)
      rw [j1, Option.bind_some]
      by_cases hr2 : q2 < 0
      · rw [if_pos (decide_eq_true hr2)]
      · rw [if_neg (by simpa using hr2)]
        have hx : smL smContext l := by
          rcases j3 with j3 | j3
          · exact absurd j3 hr2
          · exact j3.2
        obtain ⟨r, r1, r2, r4⟩ := row_eq hs hu' hx
        obtain ⟨b, code⟩ := r
        have hb : smL smT b := ⟨r4, fun _ _ => trivial⟩
        obtain ⟨k, k1, k2, k3⟩ := laws_markChecker_K10_mk hs (k := 1) (by omega) (by omega)
        obtain ⟨k', m1, m2, m3⟩ := markContextS_mk hx k.1 (by omega) (by omega)
        have hm := markBoolS_seq (a := b) r4 (k := 1) (by omega) (by omega)
        have hd := laws_heldBoolS_seq (n := b.length) r4 (k := 1) (by omega) (by omega)
        have e1 : decide (k'.1 < 0) = false := by simp; omega
        have e2 : decide ((1 : Int) + b.length < 0) = false := by simp; omega
        rw [laws_toChecker_to hs, Option.bind_some, laws_toContextS_to hx, Option.bind_some, r1, Option.bind_some, laws_toChecker_K0_to hs, Option.bind_some, laws_toContextS_K0_to hx, Option.bind_some, r2, Option.bind_some, laws_eqBoolS_eq hb, Option.bind_some,
          if_neg (by simp), Option.bind_some, laws_eqChecker_eq hs, Option.bind_some, if_neg (by simp), Option.bind_some, laws_eqContextS_eq hx, Option.bind_some, if_neg (by simp), k1, Option.bind_some, m1, Option.bind_some, if_neg (by rw [e1]; simp), Option.bind_some, Option.bind_some, if_neg (by simp), hm, Option.bind_some, hd, Option.bind_some,
          if_neg (by rw [e2]; simp), if_neg (by simp), Option.bind_some, Option.bind_some, impl_K, r2, Option.bind_some, laws_eqBoolS_eq hb, Option.bind_some, if_neg (by simp), Option.bind_some, if_neg (by rw [e2]; simp), if_neg (by simp)]
  · rw [if_pos (by simp; omega)]
end Go.Proofs.Ytchahpmelikoaaa.law
