import Derived.Test.YtmgpjpaajhcmpaaAeD
import Derived.Test.YtmgpjpaajhcmpaaAe4
set_option linter.unusedVariables false
set_option linter.unusedSimpArgs false
namespace Go.Proofs.Ytmgpjpaajhcmpaa.law
open Go Go.Proofs Ae
set_option maxRecDepth 100000
set_option linter.unusedVariables false
noncomputable def szStr (x : List UInt8) (left : Int) : Option Int := some (IntKind.wrap .i64 (left - (x.length : Int)))
theorem szStr_step {o p : Option ((Int × Int) ⊕ Int)} (h : o = p) : o = p := h
theorem szStr_sz {x : List UInt8} (h : bS x) : SzOk smS szStr x := by
  intro left h0 h1
  have := bS.len h
  refine ⟨_, rfl, ?_, ?_⟩
  · rw [w64 (by omega) (by omega)]; omega
  · rw [w64 (by omega) (by omega)]
    by_cases h : left - (x.length : Int) < 0
    · exact .inl h
    · exact .inr ⟨by omega, by unfold smS; omega⟩
theorem laws_szBoolS_sz {a : List Bool} (h : (bL bB) a) : SzOk (smL smT) laws_szBoolS a := sz_flat (fun _ => rfl) h.len
theorem laws_szPushS_sz {a : List Push} (h : (bL bPush) a) : SzOk (smL smT) laws_szPushS a := sz_flat (fun _ => rfl) h.len
theorem laws_szPushSS_sz {a : List (List Push)} (h : (bL (bL bPush)) a) : SzOk (smL (smL smT)) laws_szPushSS a :=
  sz_loop (sub := laws_szPushS) (S := laws_szPushSS_S1 a) (fun _ _ => rfl) (fun _ => rfl) h.len fun x hx => laws_szPushS_sz (h.2 x hx)
theorem laws_szInt64S_sz {a : List Int} (h : (bL (bI .i64)) a) : SzOk (smL smT) laws_szInt64S a := sz_flat (fun _ => rfl) h.len
theorem laws_szInt64SS_sz {a : List (List Int)} (h : (bL (bL (bI .i64))) a) : SzOk (smL (smL smT)) laws_szInt64SS a :=
  sz_loop (sub := laws_szInt64S) (S := laws_szInt64SS_S1 a) (fun _ _ => rfl) (fun _ => rfl) h.len fun x hx => laws_szInt64S_sz (h.2 x hx)
theorem laws_szInt64SSS_sz {a : List (List (List Int))} (h : (bL (bL (bL (bI .i64)))) a) : SzOk (smL (smL (smL smT))) laws_szInt64SSS a :=
  sz_loop (sub := laws_szInt64SS) (S := laws_szInt64SSS_S1 a) (fun _ _ => rfl) (fun _ => rfl) h.len fun x hx => laws_szInt64SS_sz (h.2 x hx)
theorem laws_szChecker_sz {a : Checker} (h : bChecker a) : SzOk smChecker laws_szChecker a := by
  intro left h0 h1
  unfold laws_szChecker
  obtain ⟨y1, e1, l1, q1⟩ := laws_szBoolS_sz h.2.2.1 left h0 h1
  rw [e1, Option.bind_some]
  rcases q1 with q1 | ⟨p1, s1⟩
  · exact ⟨-1, by rw [if_pos (by simpa using q1)], by omega, .inl (by omega)⟩
  rw [if_neg (by simp; omega)]
  obtain ⟨y2, e2, l2, q2⟩ := laws_szPushSS_sz h.2.2.2.1 y1 p1 (by omega)
  rw [e2, Option.bind_some]
  rcases q2 with q2 | ⟨p2, s2⟩
  · exact ⟨-1, by rw [if_pos (by simpa using q2)], by omega, .inl (by omega)⟩
  rw [if_neg (by simp; omega)]
  obtain ⟨y3, e3, l3, q3⟩ := laws_szInt64SSS_sz h.2.2.2.2.1 y2 p2 (by omega)
  rw [e3, Option.bind_some]
  rcases q3 with q3 | ⟨p3, s3⟩
  · exact ⟨-1, by rw [if_pos (by simpa using q3)], by omega, .inl (by omega)⟩
  rw [if_neg (by simp; omega)]
  obtain ⟨y4, e4, l4, q4⟩ := laws_szInt64SS_sz h.2.2.2.2.2 y3 p3 (by omega)
  rw [e4, Option.bind_some]
  rcases q4 with q4 | ⟨p4, s4⟩
  · exact ⟨-1, by rw [if_pos (by simpa using q4)], by omega, .inl (by omega)⟩
  rw [if_neg (by simp; omega)]
  exact ⟨_, rfl, by omega, .inr ⟨by omega, ⟨trivial, trivial, s1, s2, s3, s4⟩⟩⟩
theorem laws_toBoolS_to {a : List Bool} (h : (smL smT) a) : laws_toBoolS a = some a :=
  to_loop (sub := some) (S := laws_toBoolS_S1 a) (fun _ _ => rfl) rfl h.1 (fun _ _ => rfl)
theorem laws_toPush_to {a : Push} (h : smT a) : laws_toPush a = some a := by
  unfold laws_toPush
  rfl
theorem laws_toPushS_to {a : List Push} (h : (smL smT) a) : laws_toPushS a = some a :=
  to_loop (sub := laws_toPush) (S := laws_toPushS_S1 a) (fun _ _ => rfl) rfl h.1 (fun x hx => laws_toPush_to (h.2 x hx))
theorem laws_toPushSS_to {a : List (List Push)} (h : (smL (smL smT)) a) : laws_toPushSS a = some a :=
  to_loop (sub := laws_toPushS) (S := laws_toPushSS_S1 a) (fun _ _ => rfl) rfl h.1 (fun x hx => laws_toPushS_to (h.2 x hx))
theorem laws_toInt64S_to {a : List Int} (h : (smL smT) a) : laws_toInt64S a = some a :=
  to_loop (sub := some) (S := laws_toInt64S_S1 a) (fun _ _ => rfl) rfl h.1 (fun _ _ => rfl)
theorem laws_toInt64SS_to {a : List (List Int)} (h : (smL (smL smT)) a) : laws_toInt64SS a = some a :=
  to_loop (sub := laws_toInt64S) (S := laws_toInt64SS_S1 a) (fun _ _ => rfl) rfl h.1 (fun x hx => laws_toInt64S_to (h.2 x hx))
theorem laws_toInt64SSS_to {a : List (List (List Int))} (h : (smL (smL (smL smT))) a) : laws_toInt64SSS a = some a :=
  to_loop (sub := laws_toInt64SS) (S := laws_toInt64SSS_S1 a) (fun _ _ => rfl) rfl h.1 (fun x hx => laws_toInt64SS_to (h.2 x hx))
theorem laws_toChecker_to {a : Checker} (h : smChecker a) : laws_toChecker a = some a := by
  unfold laws_toChecker
  rw [laws_toBoolS_to h.2.2.1, Option.bind_some]
  rw [laws_toPushSS_to h.2.2.2.1, Option.bind_some]
  rw [laws_toInt64SSS_to h.2.2.2.2.1, Option.bind_some]
  rw [laws_toInt64SS_to h.2.2.2.2.2, Option.bind_some]
theorem laws_eqInt64S_eq {a : List Int} (h : (smL smT) a) : laws_eqInt64S a a = some true :=
  eq_loop (sub := (fun x y => some (x == y))) (S := laws_eqInt64S_S1 a a) (fun _ => rfl) rfl h.1 (fun _ _ => by simp)
theorem laws_eqBoolS_eq {a : List Bool} (h : (smL smT) a) : laws_eqBoolS a a = some true :=
  eq_loop (sub := (fun x y => some (x == y))) (S := laws_eqBoolS_S1 a a) (fun _ => rfl) rfl h.1 (fun _ _ => by simp)
theorem laws_eqPush_eq {a : Push} (h : smT a) : laws_eqPush a a = some true := by
  unfold laws_eqPush
  simp []
theorem laws_eqPushS_eq {a : List Push} (h : (smL smT) a) : laws_eqPushS a a = some true :=
  eq_loop (sub := laws_eqPush) (S := laws_eqPushS_S1 a a) (fun _ => rfl) rfl h.1 (fun x hx => laws_eqPush_eq (h.2 x hx))
theorem laws_eqPushSS_eq {a : List (List Push)} (h : (smL (smL smT)) a) : laws_eqPushSS a a = some true :=
  eq_loop (sub := laws_eqPushS) (S := laws_eqPushSS_S1 a a) (fun _ => rfl) rfl h.1 (fun x hx => laws_eqPushS_eq (h.2 x hx))
theorem laws_eqInt64SS_eq {a : List (List Int)} (h : (smL (smL smT)) a) : laws_eqInt64SS a a = some true :=
  eq_loop (sub := laws_eqInt64S) (S := laws_eqInt64SS_S1 a a) (fun _ => rfl) rfl h.1 (fun x hx => laws_eqInt64S_eq (h.2 x hx))
theorem laws_eqInt64SSS_eq {a : List (List (List Int))} (h : (smL (smL (smL smT))) a) : laws_eqInt64SSS a a = some true :=
  eq_loop (sub := laws_eqInt64SS) (S := laws_eqInt64SSS_S1 a a) (fun _ => rfl) rfl h.1 (fun x hx => laws_eqInt64SS_eq (h.2 x hx))
theorem laws_eqChecker_eq {a : Checker} (h : smChecker a) : laws_eqChecker a a = some true := by
  unfold laws_eqChecker
  simp [laws_eqBoolS_eq h.2.2.1, laws_eqPushSS_eq h.2.2.2.1, laws_eqInt64SSS_eq h.2.2.2.2.1, laws_eqInt64SS_eq h.2.2.2.2.2]
theorem laws_toBoolS_K0_to {a : List Bool} (h : (smL smT) a) : laws_toBoolS_K0 a = some a :=
  to_loop (sub := some) (S := laws_toBoolS_K0_S1 a) (fun _ _ => rfl) rfl h.1 (fun _ _ => rfl)
theorem laws_toPushS_K0_to {a : List Push} (h : (smL smT) a) : laws_toPushS_K0 a = some a :=
  to_loop (sub := laws_toPush) (S := laws_toPushS_K0_S1 a) (fun _ _ => rfl) rfl h.1 (fun x hx => laws_toPush_to (h.2 x hx))
theorem laws_toPushSS_K0_to {a : List (List Push)} (h : (smL (smL smT)) a) : laws_toPushSS_K0 a = some a :=
  to_loop (sub := laws_toPushS_K0) (S := laws_toPushSS_K0_S1 a) (fun _ _ => rfl) rfl h.1 (fun x hx => laws_toPushS_K0_to (h.2 x hx))
theorem laws_toInt64S_K0_to {a : List Int} (h : (smL smT) a) : laws_toInt64S_K0 a = some a :=
  to_loop (sub := some) (S := laws_toInt64S_K0_S1 a) (fun _ _ => rfl) rfl h.1 (fun _ _ => rfl)
theorem laws_toInt64SS_K0_to {a : List (List Int)} (h : (smL (smL smT)) a) : laws_toInt64SS_K0 a = some a :=
  to_loop (sub := laws_toInt64S_K0) (S := laws_toInt64SS_K0_S1 a) (fun _ _ => rfl) rfl h.1 (fun x hx => laws_toInt64S_K0_to (h.2 x hx))
theorem laws_toInt64SSS_K0_to {a : List (List (List Int))} (h : (smL (smL (smL smT))) a) : laws_toInt64SSS_K0 a = some a :=
  to_loop (sub := laws_toInt64SS_K0) (S := laws_toInt64SSS_K0_S1 a) (fun _ _ => rfl) rfl h.1 (fun x hx => laws_toInt64SS_K0_to (h.2 x hx))
theorem laws_toChecker_K0_to {a : Checker} (h : smChecker a) : laws_toChecker_K0 a = some a := by
  unfold laws_toChecker_K0
  rw [laws_toBoolS_K0_to h.2.2.1, Option.bind_some]
  rw [laws_toPushSS_K0_to h.2.2.2.1, Option.bind_some]
  rw [laws_toInt64SSS_K0_to h.2.2.2.2.1, Option.bind_some]
  rw [laws_toInt64SS_K0_to h.2.2.2.2.2, Option.bind_some]
theorem laws_markBoolS_K10_mk {a : List Bool} (h : (smL smT) a) : MkOk 1048576 laws_markBoolS_K10 a :=
  mk_one (g := fun k => (remI .i64 k 3).map (· == 0)) (S := laws_markBoolS_K10_S1) (fun m k i => by
    show (if decide (i < (m.length : Int)) = true then (remI .i64 k 3).bind fun q => (ix m i).bind fun _ => (some (Sum.inl (m.set (Int.toNat i) (q == 0), IntKind.wrap .i64 (k + 1), IntKind.wrap .i64 (i + 1))) : Option ((List Bool × Int × Int) ⊕ (Int × List Bool))) else some (Sum.inr (k, m))) = _
    rw [remI3]
    cases ix m i <;> rfl) (fun k => ⟨_, rfl⟩) (fun _ => rfl) h.1
theorem laws_markPushS_K10_mk {a : List Push} (h : (smL smT) a) : MkOk 2097152 laws_markPushS_K10 a := by
  refine mk_gen (B := 2) (S := laws_markPushS_K10_S1) (fun _ => rfl) (fun m k hm => by unfold laws_markPushS_K10_S1; simp only; rw [hm, ltF]; rfl) (fun i m k x hm hx hxa hlt hk hb => ?_) h.1
  unfold laws_markPushS_K10_S1
  simp only [hm, ltT hlt, if_true, ix_lit hx, Option.bind_some, w1 hlt (show a.length ≤ 9223372036854775807 by have := h.1; omega), Int.toNat_natCast, List.set_set]
  refine ⟨_, _, rfl, ?_, ?_⟩
  all_goals (try rw [w64 (n := k + 1) (by omega) (by omega)])
  all_goals (try rw [w64 (n := k + 1 + 1) (by omega) (by omega)])
  all_goals (try rw [w64 (n := k + 1 + 1 + 1) (by omega) (by omega)])
  all_goals omega
theorem laws_markPushSS_K10_mk {a : List (List Push)} (h : (smL (smL smT)) a) : MkOk 2199023255552 laws_markPushSS_K10 a :=
  mk_loop (B := 2097152) (sub := laws_markPushS_K10) (S := laws_markPushSS_K10_S1) (fun _ _ _ => rfl) (fun _ => rfl) h.1 fun x hx => laws_markPushS_K10_mk (h.2 x hx)
theorem laws_markInt64S_K10_mk {a : List Int} (h : (smL smT) a) : MkOk 1048576 laws_markInt64S_K10 a :=
  mk_one (g := some) (S := laws_markInt64S_K10_S1) (fun m k i => rfl) (fun k => ⟨_, rfl⟩) (fun _ => rfl) h.1
theorem laws_markInt64S_K10_seq {a : List Int} (h : a.length ≤ 1048576) {k : Int} (h0 : 0 ≤ k) (h1 : k ≤ 1048576) : laws_markInt64S_K10 a k = some (k + a.length, seqI k a.length) :=
  markI (S := laws_markInt64S_K10_S1) (fun _ _ _ => rfl) (fun _ => rfl) h h0 h1
theorem laws_markInt64SS_K10_mk {a : List (List Int)} (h : (smL (smL smT)) a) : MkOk 1099511627776 laws_markInt64SS_K10 a :=
  mk_loop (B := 1048576) (sub := laws_markInt64S_K10) (S := laws_markInt64SS_K10_S1) (fun _ _ _ => rfl) (fun _ => rfl) h.1 fun x hx => laws_markInt64S_K10_mk (h.2 x hx)
theorem laws_markInt64SSS_K10_mk {a : List (List (List Int))} (h : (smL (smL (smL smT))) a) : MkOk 1152921504606846976 laws_markInt64SSS_K10 a :=
  mk_loop (B := 1099511627776) (sub := laws_markInt64SS_K10) (S := laws_markInt64SSS_K10_S1) (fun _ _ _ => rfl) (fun _ => rfl) h.1 fun x hx => laws_markInt64SS_K10_mk (h.2 x hx)
theorem laws_markChecker_K10_mk {a : Checker} (h : smChecker a) {k : Int} (h0 : 0 ≤ k) (h1 : k + 1152924803142778882 ≤ 4611686018427387904) : ∃ r, laws_markChecker_K10 a k = some r ∧ k ≤ r.1 ∧ r.1 ≤ k + 1152924803142778882 := by
  unfold laws_markChecker_K10
  obtain ⟨r1, e1, l1, u1⟩ := laws_markBoolS_K10_mk h.2.2.1 k (by omega) (by omega)
  rw [e1, Option.bind_some]
  obtain ⟨r2, e2, l2, u2⟩ := laws_markPushSS_K10_mk h.2.2.2.1 r1.1 (by omega) (by omega)
  rw [e2, Option.bind_some]
  obtain ⟨r3, e3, l3, u3⟩ := laws_markInt64SSS_K10_mk h.2.2.2.2.1 r2.1 (by omega) (by omega)
  rw [e3, Option.bind_some]
  obtain ⟨r4, e4, l4, u4⟩ := laws_markInt64SS_K10_mk h.2.2.2.2.2 r3.1 (by omega) (by omega)
  rw [e4, Option.bind_some]
  exact ⟨_, rfl, by show k ≤ r4.1; omega, by show r4.1 ≤ k + 1152924803142778882; omega⟩
theorem laws_heldInt64S_seq {n : Nat} (h : n ≤ 1048576) {k : Int} (h0 : 0 ≤ k) (h1 : k ≤ 1048576) : laws_heldInt64S (seqI k n) k = some (k + n) :=
  heldI (S := laws_heldInt64S_S1) (fun _ _ _ => rfl) (fun _ _ => rfl) h h0 h1
end Go.Proofs.Ytmgpjpaajhcmpaa.law
namespace Go.Proofs.Ytmgpjpaajhcmpaa.law
open Go Go.Proofs Ae
set_option maxRecDepth 100000

def okL (l : List Int) (k n : Int) : Bool := ((l.length : Int) == k) && l.all fun x => decide (x ≥ 0) && decide (x ≤ IntKind.wrap .i64 (n - 1))
theorem specL {l : List Int} (h : l.length ≤ 1048576) (k n : Int) : spec_l02List l k n = some (okL l k n) := by
  unfold spec_l02List okL
  by_cases hk : (l.length : Int) = k
  · rw [if_neg (by simpa using hk), show ((l.length : Int) == k) = true by simpa using hk, Bool.true_and]
    rw [loop_allL (l := l) (p := fun x => decide (x ≥ 0) && decide (x ≤ IntKind.wrap .i64 (n - 1))) (rt := some true) (rf := false) (loop_R (by unfold spec_l02List_S1; rw [if_neg (by simp)]; rfl)) fun i x hx => by
      have hlt := (List.getElem?_eq_some_iff.1 hx).1
      unfold spec_l02List_S1
      rw [if_pos (ltT hlt), ix_lit hx, Option.bind_some, w1 hlt (by omega)]
      unfold spec_l00In
      rw [Option.bind_some]
      cases (decide (x ≥ 0) && decide (x ≤ IntKind.i64.wrap (n - 1))) <;> rfl]
    split <;> simp_all
  · rw [if_pos (by simpa using hk), show ((l.length : Int) == k) = false by simpa using hk, Bool.false_and]
theorem containsI {l : List Int} (h : l.length ≤ 1048576) (f : Int → Option Bool) (p : Int → Bool) (hf : ∀ x ∈ l, f x = some (p x)) : slices_ContainsFunc_sint64_int64 l f = some (l.any p) := by
  unfold slices_ContainsFunc_sint64_int64 slices_IndexFunc_sint64_int64
  rw [loop_find (l := l) p (loop_R (by unfold slices_IndexFunc_sint64_int64_S1; rw [if_neg (by simp)]; rfl)) fun i x hx => by
    have hlt := (List.getElem?_eq_some_iff.1 hx).1
    unfold slices_IndexFunc_sint64_int64_S1
    rw [if_pos (ltT hlt), ix_lit hx, Option.bind_some, hf x (List.mem_of_getElem? hx), Option.bind_some, w1 hlt (by omega)]]
  rw [Option.bind_some, fst?_any]
theorem implL {l : List Int} (h : l.length ≤ 1048576) (k : Int) (c : Checker) : impl_ValidChecker_1 l k c = some (okL l k c.Accept.length) := by
  unfold impl_ValidChecker_1
  rw [containsI h (fun x => impl_ValidChecker_1_1 x c) (fun x => !(decide (x ≥ 0) && decide (x ≤ IntKind.wrap .i64 ((c.Accept.length : Int) - 1)))) fun x _ => rfl]
  unfold okL impl_size_int64
  rw [Option.bind_some, Option.bind_some, ite_some, Option.bind_some, ite_and]
  congr 2
  induction l with
  | nil => rfl
  | cons a l ih =>
    rw [List.any_cons, List.all_cons, Bool.not_or, Bool.not_not, ih (by simp at h; omega)]

theorem ix_in {α : Type} {l : List α} {i : Int} (h0 : 0 ≤ i) (h1 : i < l.length) : ∃ x, ix l i = some x ∧ x ∈ l := by
  have hlt : i.toNat < l.length := by omega
  refine ⟨l[i.toNat], ?_, List.getElem_mem hlt⟩
  unfold ix
  rw [if_pos h0, List.getElem?_eq_getElem hlt]

/-- A right checker goes on from right places. -/
theorem loop_true {ρ : Type} {step : Int → Option (Int ⊕ ρ)} {n : Nat} {rt : ρ} (hst : ∀ (i : Nat) y, i < n → step (i : Int) = some y → y = .inl ((i + 1 : Nat) : Int) ∨ ∃ r, y = .inr r ∧ r ≠ rt) :
    ∀ (k i : Nat), i + k = n → loop step (i : Int) = some rt → ∀ j, i ≤ j → j < n → step (j : Int) = some (.inl ((j + 1 : Nat) : Int)) := by
  intro k
  induction k with
  | zero => intro i hi _ j h1 h2; omega
  | succ k ih =>
    intro i hi h j h1 h2
    have h0 : step (i : Int) = some (.inl ((i + 1 : Nat) : Int)) := by
      cases hs : step (i : Int) with
      | none => rw [loop_eq, hs] at h; cases h
      | some y =>
        rcases hst i y (by omega) hs with rfl | ⟨r, rfl, hr⟩
        · rfl
        · rw [loop_R hs] at h; cases h; exact absurd rfl hr
    by_cases e : i = j
    · subst e; exact h0
    · rw [loop_L h0] at h
      exact ih (i + 1) (by omega) h j (by omega) h2

theorem okL_iff {l : List Int} {k n : Int} (h0 : 0 ≤ n) (h1 : n ≤ 1048576) (h : okL l k n = true) : (l.length : Int) = k ∧ ∀ x ∈ l, 0 ≤ x ∧ x < n := by
  unfold okL at h
  rw [w64 (by omega) (by omega)] at h
  simp only [Bool.and_eq_true, beq_iff_eq, List.all_eq_true, decide_eq_true_eq] at h
  exact ⟨h.1, fun x hx => by have := h.2 x hx; omega⟩

/-- A right checker. -/
structure ChkV (c : Checker) : Prop where
  n1 : 1 ≤ c.Accept.length
  n2 : c.Accept.length ≤ 40
  k1 : 1 ≤ c.Stack
  k2 : c.Stack ≤ 80
  s1 : 0 ≤ c.Start
  s2 : c.Start < c.Accept.length
  lc : c.Call.length = c.Accept.length
  lr : c.Return.length = c.Accept.length
  li : c.Inner.length = c.Accept.length
  call : ∀ l ∈ c.Call, l.length = 2 ∧ ∀ p ∈ l, 0 ≤ p.To ∧ p.To < c.Accept.length ∧ 0 ≤ p.Put ∧ p.Put < c.Stack
  ret : ∀ l ∈ c.Return, l.length = 2 ∧ ∀ r ∈ l, (r.length : Int) = c.Stack + 1 ∧ ∀ x ∈ r, 0 ≤ x ∧ x < c.Accept.length
  inn : ∀ l ∈ c.Inner, l.length = 2 ∧ ∀ x ∈ l, 0 ≤ x ∧ x < c.Accept.length

theorem chk_V {c : Checker} (h : smChecker c) (hk : spec_l02Ok c = some true) : ChkV c := by
  unfold spec_l02Ok spec_l00In at hk
  simp only [Option.bind_some, ite_some, ite_or] at hk
  split at hk
  · cases hk
  rename_i hg
  simp only [Bool.or_eq_true, not_or, bne_iff_ne, ne_eq, Decidable.not_not, Bool.not_eq_true, Bool.not_eq_false', Bool.and_eq_true, decide_eq_true_eq] at hg
  obtain ⟨⟨⟨⟨⟨hA, hK⟩, hS⟩, hC⟩, hR⟩, hI⟩ := hg
  rw [w64 (by omega) (by omega)] at hS
  have hA2 : c.Accept.length ≤ 40 := by omega
  have step := loop_true (step := spec_l02Ok_S1 c) (n := c.Accept.length) (rt := true) (fun i y hi hy => by
    unfold spec_l02Ok_S1 at hy
    rw [if_pos (ltT hi)] at hy
    simp only [Option.bind_eq_some_iff] at hy
    obtain ⟨_, _, b1, _, b2, _, hy⟩ := hy
    split at hy
    · cases hy; exact .inr ⟨false, rfl, by simp⟩
    · -- the loop over both kinds
      have key : ∀ (k : Nat) (j : Nat), j + k = 2 → loop (spec_l02Ok_S2 c i) (j : Int) = some y → y = .inl ((i + 1 : Nat) : Int) ∨ ∃ r, y = .inr r ∧ r ≠ true := by
        intro k
        induction k with
        | zero =>
          intro j hj hl
          obtain rfl : j = 2 := by omega
          rw [loop_R (r := .inl ((i + 1 : Nat) : Int)) (by unfold spec_l02Ok_S2 spec_l02Ok_J2; rw [if_neg (by simp), w1 hi (by omega)]; rfl)] at hl
          cases hl; exact .inl rfl
        | succ k ih =>
          intro j hj hl
          cases hs : spec_l02Ok_S2 c i j with
          | none => rw [loop_eq, hs] at hl; cases hl
          | some z =>
            have hs' := hs
            unfold spec_l02Ok_S2 at hs
            rw [if_pos (by simp; omega)] at hs
            simp only [Option.bind_eq_some_iff] at hs
            obtain ⟨_, _, _, _, _, _, _, _, _, _, hs⟩ := hs
            split at hs
            · cases hs
              rw [loop_R hs'] at hl
              cases hl; exact .inr ⟨false, rfl, by simp⟩
            · cases hs
              rw [loop_L hs', w1 (show j < 2 by omega) (by decide)] at hl
              exact ih (j + 1) (by omega) hl
      exact key 2 0 rfl hy) c.Accept.length 0 (by omega) hk
  have row : ∀ i, i < c.Accept.length → (∃ l, c.Call[i]? = some l ∧ l.length = 2 ∧ ∀ p ∈ l, 0 ≤ p.To ∧ p.To < c.Accept.length ∧ 0 ≤ p.Put ∧ p.Put < c.Stack) ∧
      (∃ l, c.Return[i]? = some l ∧ l.length = 2 ∧ ∀ r ∈ l, (r.length : Int) = c.Stack + 1 ∧ ∀ x ∈ r, 0 ≤ x ∧ x < c.Accept.length) ∧ (∃ l, c.Inner[i]? = some l ∧ l.length = 2 ∧ ∀ x ∈ l, 0 ≤ x ∧ x < c.Accept.length) := by
    intro i hi
    have hst := step i (by omega) hi
    unfold spec_l02Ok_S1 at hst
    have hc : i < c.Call.length := by omega
    have hr : i < c.Return.length := by omega
    have hn : i < c.Inner.length := by omega
    have hm := h.2.2.2.2.2.2 _ (List.getElem_mem hn)
    rw [if_pos (ltT hi), ix_some hc, Option.bind_some, ix_some hr, Option.bind_some, ite_some, Option.bind_some, ite_or, ix_some hn, Option.bind_some, specL hm.1, Option.bind_some, ite_some, Option.bind_some, ite_or] at hst
    split at hst
    · cases hst
    rename_i hg
    simp only [Bool.or_eq_true, not_or, bne_iff_ne, ne_eq, Decidable.not_not, Bool.not_eq_true, Bool.not_eq_false'] at hg
    obtain ⟨⟨h2, h3⟩, h4⟩ := hg
    have hO := okL_iff (by omega) (by omega) h4
    have h2' : c.Call[i].length = 2 := by omega
    have h3' : c.Return[i].length = 2 := by omega
    have step2 := loop_true (step := spec_l02Ok_S2 c i) (n := 2) (rt := .inl ((i + 1 : Nat) : Int)) (fun k y hk2 hy => by
      unfold spec_l02Ok_S2 at hy
      rw [if_pos (by simp; omega)] at hy
      simp only [Option.bind_eq_some_iff] at hy
      obtain ⟨_, _, _, _, _, _, _, _, _, _, hy⟩ := hy
      split at hy
      · cases hy; exact .inr ⟨_, rfl, by simp⟩
      · cases hy; rw [w1 hk2 (by decide)]; exact .inl rfl) 2 0 rfl hst
    have cell : ∀ k (hk2 : k < 2), (0 ≤ (c.Call[i][k]'(by omega)).To ∧ (c.Call[i][k]'(by omega)).To < (c.Accept.length : Int) ∧ 0 ≤ (c.Call[i][k]'(by omega)).Put ∧ (c.Call[i][k]'(by omega)).Put < c.Stack) ∧
        (((c.Return[i][k]'(by omega)).length : Int) = c.Stack + 1 ∧ ∀ x ∈ (c.Return[i][k]'(by omega)), 0 ≤ x ∧ x < c.Accept.length) := by
      intro k hk2
      have hs := step2 k (by omega) hk2
      unfold spec_l02Ok_S2 at hs
      have hmr := (h.2.2.2.2.1.2 _ (List.getElem_mem hr)).2 (c.Return[i][k]'(by omega)) (List.getElem_mem _)
      have e1 : ix c.Call (i : Int) = some c.Call[i] := ix_some hc
      have e2 : ix c.Call[i] (k : Int) = some (c.Call[i][k]'(by omega)) := ix_some _
      have e3 : ix c.Return (i : Int) = some c.Return[i] := ix_some hr
      have e4 : ix c.Return[i] (k : Int) = some (c.Return[i][k]'(by omega)) := ix_some _
      unfold spec_l00In at hs
      simp only [if_pos (decide_eq_true (show (k : Int) < 2 by omega)), e1, e2, e3, e4, Option.bind_some, specL hmr.1, w1 hk2 (by decide), ite_some, ite_or] at hs
      rw [w64 (n := (c.Accept.length : Int) - 1) (by omega) (by omega), w64 (n := c.Stack - 1) (by omega) (by omega), w64 (n := c.Stack + 1) (by omega) (by omega)] at hs
      split at hs
      · cases hs
      rename_i hg
      simp only [Bool.or_eq_true, not_or, Bool.not_eq_true, Bool.not_eq_false', Bool.and_eq_true, decide_eq_true_eq] at hg
      obtain ⟨⟨g1, g2⟩, g3⟩ := hg
      exact ⟨⟨g1.1, by omega, g2.1, by omega⟩, okL_iff (by omega) (by omega) g3⟩
    have two : ∀ {α : Type} (l : List α) (x : α), l.length = 2 → x ∈ l → ∃ k, ∃ (hk : k < l.length), k < 2 ∧ l[k] = x := by
      intro α l x hl hx
      obtain ⟨k, hk, e⟩ := List.getElem_of_mem hx
      exact ⟨k, hk, by omega, e⟩
    refine ⟨⟨_, List.getElem?_eq_getElem hc, h2', fun p hp => ?_⟩, ⟨_, List.getElem?_eq_getElem hr, h3', fun r hr' => ?_⟩, ⟨_, List.getElem?_eq_getElem hn, by have := hO.1; omega, hO.2⟩⟩
    · obtain ⟨k, _, hk2, rfl⟩ := two _ p h2' hp
      exact (cell k hk2).1
    · obtain ⟨k, _, hk2, rfl⟩ := two _ r h3' hr'
      exact (cell k hk2).2
  have mem : ∀ {α : Type} (L : List α) (l : α), L.length = c.Accept.length → l ∈ L → ∃ i, i < c.Accept.length ∧ L[i]? = some l := by
    intro α L l hL hl
    obtain ⟨i, hi, e⟩ := List.getElem_of_mem hl
    exact ⟨i, by omega, by rw [List.getElem?_eq_getElem hi, e]⟩
  refine ⟨by omega, hA2, by omega, by omega, by omega, by omega, by omega, by omega, by omega, fun l hl => ?_, fun l hl => ?_, fun l hl => ?_⟩
  · obtain ⟨i, hi, e⟩ := mem c.Call l (by omega) hl
    obtain ⟨l', e', h'⟩ := (row i hi).1
    rw [e] at e'; cases e'; exact h'
  · obtain ⟨i, hi, e⟩ := mem c.Return l (by omega) hl
    obtain ⟨l', e', h'⟩ := (row i hi).2.1
    rw [e] at e'; cases e'; exact h'
  · obtain ⟨i, hi, e⟩ := mem c.Inner l (by omega) hl
    obtain ⟨l', e', h'⟩ := (row i hi).2.2
    rw [e] at e'; cases e'; exact h'
end Go.Proofs.Ytmgpjpaajhcmpaa.law
namespace Go.Proofs.Ytmgpjpaajhcmpaa.law
open Go Go.Proofs Ae
set_option maxRecDepth 100000

theorem appN {α : Type} {l m : List α} (h : l.length + m.length ≤ 1048576) : app l m = some (l ++ m) := by unfold app; rw [if_pos (by unfold LIM; omega)]

theorem nodup_le : ∀ (n : Nat) (l : List Int), l.Nodup → (∀ x ∈ l, 0 ≤ x ∧ x < (n : Int)) → l.length ≤ n
  | 0, l, _, h => by
    cases l with
    | nil => exact Nat.le_refl _
    | cons a l => have := h a (by simp); omega
  | n + 1, l, hd, h => by
    by_cases hm : (n : Int) ∈ l
    · have h1 := nodup_le n (l.erase (n : Int)) (hd.erase _) (fun x hx => by
        obtain ⟨h2, h3⟩ := hd.mem_erase_iff.1 hx
        have := h x h3
        omega)
      rw [List.length_erase_of_mem hm] at h1
      omega
    · have h1 := nodup_le n l hd (fun x hx => by
        have := h x hx
        have : x ≠ (n : Int) := fun e => hm (e ▸ hx)
        omega)
      omega

theorem has_eq {l : List Int} (h : l.length ≤ 1048576) (n : Int) : spec_l00Has l n = some (decide (n ∈ l)) := by
  unfold spec_l00Has
  rw [loop_allL (l := l) (p := fun x => !(x == n)) (rt := some false) (rf := true) (loop_R (by unfold spec_l00Has_S1; rw [if_neg (by simp)]; rfl)) fun i x hx => by
    have hlt := (List.getElem?_eq_some_iff.1 hx).1
    unfold spec_l00Has_S1
    rw [if_pos (ltT hlt), ix_lit hx, Option.bind_some, w1 hlt (by omega)]
    cases (x == n) <;> rfl]
  split
  · rename_i hh
    have : n ∉ l := fun hm => by
      have := List.all_eq_true.1 hh n hm
      simp at this
    simp [this]
  · rename_i hh
    have : n ∈ l := Decidable.byContradiction fun hm => hh (List.all_eq_true.2 fun x hx => by
      have : x ≠ n := fun e => hm (e ▸ hx)
      simpa using this)
    simp [this]

theorem contains_eq {l : List Int} (h : l.length ≤ 1048576) (n : Int) : slices_Contains_sint64_int64 l n = some (decide (n ∈ l)) := by
  unfold slices_Contains_sint64_int64 slices_Index_sint64_int64
  rw [loop_find (l := l) (fun x => n == x) (loop_R (by unfold slices_Index_sint64_int64_S1; rw [if_neg (by simp)]; rfl)) fun i x hx => by
    have hlt := (List.getElem?_eq_some_iff.1 hx).1
    unfold slices_Index_sint64_int64_S1
    rw [if_pos (ltT hlt), ix_lit hx, Option.bind_some, w1 hlt (by omega)]]
  rw [Option.bind_some, fst?_any]
  congr 1
  by_cases hm : n ∈ l
  · simp only [hm, decide_true, List.any_eq_true, beq_iff_eq]
    exact ⟨n, hm, rfl⟩
  · simp only [hm, decide_false]
    rw [List.any_eq_false]
    intro x hx e
    exact hm ((beq_iff_eq.1 e) ▸ hx)

theorem put_done (l : List Int) (n : Int) (hl : l.length ≤ 1000) : ∀ (suf pre o : List Int), l = pre ++ suf → o.length ≤ 1 + pre.length → loop (spec_l00Put_S1 l n) (o, true, (pre.length : Int)) = some (o ++ suf)
  | [], pre, o, e, ho => by
    have e' : l.length = pre.length := by rw [e]; simp
    refine loop_R ?_
    unfold spec_l00Put_S1 spec_l00Put_J1 spec_l00Put_J2
    simp [e']
  | x :: s, pre, o, e, ho => by
    have hx : l[pre.length]? = some x := by rw [e]; simp
    have hlt := (List.getElem?_eq_some_iff.1 hx).1
    have ih := put_done l n hl s (pre ++ [x]) (o ++ [x]) (by rw [e]; simp) (by simp; omega)
    rw [loop_L (s' := (o ++ [x], true, ((pre.length + 1 : Nat) : Int)))]
    · rw [List.length_append] at ih
      simpa using ih
    · unfold spec_l00Put_S1 spec_l00Put_J3
      simp only [ltT hlt, if_true, Bool.not_true, Bool.false_eq_true, if_false, Option.bind_some, ix_lit hx, appN (l := o) (m := [x]) (by simp; omega), w1 hlt (show l.length ≤ 9223372036854775807 by omega)]

theorem put_ok (l : List Int) (n : Int) (hl : l.length ≤ 1000) (hn : n ∉ l) : ∀ (suf pre : List Int), l = pre ++ suf → ∃ a b, l = a ++ b ∧ loop (spec_l00Put_S1 l n) (pre, false, (pre.length : Int)) = some (a ++ n :: b)
  | [], pre, e => by
    have e' : l = pre := by simpa using e
    refine ⟨l, [], by simp, ?_⟩
    refine loop_R ?_
    unfold spec_l00Put_S1 spec_l00Put_J1 spec_l00Put_J2
    subst e'
    simp [appN (l := l) (m := [n]) (by simp; omega)]
  | x :: s, pre, e => by
    have hx : l[pre.length]? = some x := by rw [e]; simp
    have hlt := (List.getElem?_eq_some_iff.1 hx).1
    have hne : x ≠ n := fun h => hn (h ▸ List.mem_of_getElem? hx)
    have hpl : pre.length ≤ 1000 := by omega
    by_cases hge : x ≥ n
    · have hgt : x > n := by omega
      refine ⟨pre, x :: s, e, ?_⟩
      have := put_done l n hl s (pre ++ [x]) (pre ++ [n] ++ [x]) (by rw [e]; simp) (by simp; omega)
      rw [loop_L (s' := (pre ++ [n] ++ [x], true, ((pre.length + 1 : Nat) : Int)))]
      · rw [List.length_append] at this
        simpa using this
      · unfold spec_l00Put_S1 spec_l00Put_J3
        simp only [ltT hlt, if_true, Bool.not_false, Option.bind_some, ix_lit hx, decide_eq_true hge, decide_eq_true hgt, appN (l := pre) (m := [n]) (by simp; omega), appN (l := pre ++ [n]) (m := [x]) (by simp; omega), w1 hlt (show l.length ≤ 9223372036854775807 by omega)]
    · obtain ⟨a, b, h1, h2⟩ := put_ok l n hl hn s (pre ++ [x]) (by rw [e]; simp)
      refine ⟨a, b, h1, ?_⟩
      rw [loop_L (s' := (pre ++ [x], false, ((pre.length + 1 : Nat) : Int)))]
      · rw [List.length_append] at h2
        simpa using h2
      · unfold spec_l00Put_S1 spec_l00Put_J3
        simp only [ltT hlt, if_true, Bool.not_false, Option.bind_some, ix_lit hx, decide_eq_false hge, Bool.false_eq_true, if_false, appN (l := pre) (m := [x]) (by simp; omega), w1 hlt (show l.length ≤ 9223372036854775807 by omega)]

theorem put_eq {l : List Int} {n : Int} (hl : l.length ≤ 1000) (hn : n ∉ l) : ∃ r, spec_l00Put l n = some r ∧ r.Perm (l ++ [n]) := by
  obtain ⟨a, b, h1, h2⟩ := put_ok l n hl hn l [] (by simp)
  refine ⟨_, h2, ?_⟩
  rw [h1]
  refine List.perm_middle.trans ?_
  exact (List.perm_append_singleton n (a ++ b)).symm
end Go.Proofs.Ytmgpjpaajhcmpaa.law
namespace Go.Proofs.Ytmgpjpaajhcmpaa.law
open Go Go.Proofs Ae
set_option maxRecDepth 100000

def Nx (c : Checker) (x y : Int) : Prop := ∃ rr cl inn r0 r1 p0 p1, ix c.Return x = some rr ∧ ix rr 0 = some r0 ∧ ix rr 1 = some r1 ∧ ix c.Inner x = some inn ∧ ix c.Call x = some cl ∧ ix cl 0 = some p0 ∧ ix cl 1 = some p1 ∧ (y ∈ r0 ∨ y ∈ r1 ∨ y ∈ inn ∨ y = p0.To ∨ y = p1.To)

theorem mv {c : Checker} (hc : ChkV c) {x : Int} (h0 : 0 ≤ x) (h1 : x < c.Accept.length) : ∃ rr cl inn r0 r1 p0 p1, ix c.Return x = some rr ∧ ix rr 0 = some r0 ∧ ix rr 1 = some r1 ∧ ix c.Inner x = some inn ∧ ix c.Call x = some cl ∧ ix cl 0 = some p0 ∧ ix cl 1 = some p1 ∧
    r0.length ≤ 81 ∧ r1.length ≤ 81 ∧ inn.length ≤ 2 ∧ (∀ y, Nx c x y ↔ (y ∈ r0 ∨ y ∈ r1 ∨ y ∈ inn ∨ y = p0.To ∨ y = p1.To)) ∧ ∀ y, (y ∈ r0 ∨ y ∈ r1 ∨ y ∈ inn ∨ y = p0.To ∨ y = p1.To) → 0 ≤ y ∧ y < (c.Accept.length : Int) := by
  obtain ⟨rr, e1, m1⟩ := ix_in (l := c.Return) h0 (by rw [hc.lr]; exact h1)
  obtain ⟨inn, e2, m2⟩ := ix_in (l := c.Inner) h0 (by rw [hc.li]; exact h1)
  obtain ⟨cl, e3, m3⟩ := ix_in (l := c.Call) h0 (by rw [hc.lc]; exact h1)
  obtain ⟨l1, q1⟩ := hc.ret rr m1
  obtain ⟨l2, q2⟩ := hc.inn inn m2
  obtain ⟨l3, q3⟩ := hc.call cl m3
  obtain ⟨r0, f1, g1⟩ := ix_in (l := rr) (i := 0) (by decide) (by omega)
  obtain ⟨r1, f2, g2⟩ := ix_in (l := rr) (i := 1) (by decide) (by omega)
  obtain ⟨p0, f3, g3⟩ := ix_in (l := cl) (i := 0) (by decide) (by omega)
  obtain ⟨p1, f4, g4⟩ := ix_in (l := cl) (i := 1) (by decide) (by omega)
  have k2 := hc.k2
  obtain ⟨a0, b0⟩ := q1 r0 g1
  obtain ⟨a1, b1⟩ := q1 r1 g2
  have c0 := q3 p0 g3
  have c1 := q3 p1 g4
  refine ⟨rr, cl, inn, r0, r1, p0, p1, e1, f1, f2, e2, e3, f3, f4, by omega, by omega, by omega, fun y => ⟨?_, fun h => ⟨rr, cl, inn, r0, r1, p0, p1, e1, f1, f2, e2, e3, f3, f4, h⟩⟩, ?_⟩
  · rintro ⟨_, _, _, _, _, _, _, z1, z2, z3, z4, z5, z6, z7, h⟩
    rw [e1] at z1; cases z1
    rw [e2] at z4; cases z4
    rw [e3] at z5; cases z5
    rw [f1] at z2; cases z2
    rw [f2] at z3; cases z3
    rw [f3] at z6; cases z6
    rw [f4] at z7; cases z7
    exact h
  · rintro y (h | h | h | rfl | rfl)
    · exact b0 y h
    · exact b1 y h
    · exact q2 y h
    · exact ⟨c0.1, c0.2.1⟩
    · exact ⟨c1.1, c1.2.1⟩

inductive Rch (c : Checker) (s : Int) : Int → Prop
  | refl : Rch c s s
  | step {x y} (h : Rch c s x) (k : Nx c x y) : Rch c s y

structure Clo (c : Checker) (s : Int) (out : List Int) : Prop where
  mem : ∀ x, x ∈ out ↔ Rch c s x
  rng : ∀ x ∈ out, 0 ≤ x ∧ x < (c.Accept.length : Int)
  len : out.length ≤ 40

theorem clo_of {c : Checker} {s : Int} {out : List Int} (h0 : s ∈ out) (h1 : ∀ x ∈ out, Rch c s x) (h2 : ∀ x ∈ out, ∀ y, Nx c x y → y ∈ out) (h3 : ∀ x ∈ out, 0 ≤ x ∧ x < (c.Accept.length : Int)) (h4 : out.length ≤ 40) : Clo c s out :=
  ⟨fun x => ⟨h1 x, fun hr => by
    induction hr with
    | refl => exact h0
    | step _ k ih => exact h2 _ ih _ k⟩, h3, h4⟩

theorem add_loop {n : Nat} (hn40 : n ≤ 40) {next out0 todo0 : List Int} (hl : next.length ≤ 1000) (hn : ∀ y ∈ next, 0 ≤ y ∧ y < (n : Int)) (hd : out0.Nodup) (hr : ∀ y ∈ out0, 0 ≤ y ∧ y < (n : Int)) (ht : todo0.length ≤ 1000) :
    ∃ out1 new, loop (spec_l02Used_F1_S2 next) (out0, todo0, 0) = some (.inl (out1, todo0 ++ new)) ∧ out1.Perm (out0 ++ new) ∧ out1.Nodup ∧ (∀ y ∈ new, y ∈ next) ∧ (∀ y ∈ next, y ∈ out1) := by
  obtain ⟨r, h1, h2⟩ := loop_inv (step := spec_l02Used_F1_S2 next)
    (fun st => ∃ (k : Nat) (new : List Int), st.2.2 = (k : Int) ∧ k ≤ next.length ∧ st.2.1 = todo0 ++ new ∧ st.1.Perm (out0 ++ new) ∧ st.1.Nodup ∧ (∀ y ∈ new, y ∈ next) ∧ ∀ j y, j < k → next[j]? = some y → y ∈ st.1)
    (fun st => next.length - st.2.2.toNat)
    (fun r => ∃ out1 new, r = .inl (out1, todo0 ++ new) ∧ out1.Perm (out0 ++ new) ∧ out1.Nodup ∧ (∀ y ∈ new, y ∈ next) ∧ (∀ y ∈ next, y ∈ out1))
    (by
      rintro ⟨out, todo, i⟩ ⟨k, new, e1, e2, e3, hp, hnd, hnew, hall⟩
      simp only at e1 e3 hp hnd hall
      subst e1 e3
      have hrg : ∀ y ∈ out, 0 ≤ y ∧ y < (n : Int) := fun y hy => by
        rcases List.mem_append.1 (hp.mem_iff.1 hy) with h | h
        · exact hr y h
        · exact hn y (hnew y h)
      have hol := nodup_le n out hnd hrg
      have hpl := hp.length_eq
      rw [List.length_append] at hpl
      by_cases hk : k < next.length
      · left
        have hx : next[k]? = some next[k] := List.getElem?_eq_getElem hk
        generalize next[k] = x at hx
        have hxm := List.mem_of_getElem? hx
        by_cases hm : x ∈ out
        · refine ⟨(out, todo0 ++ new, ((k + 1 : Nat) : Int)), ?_, ⟨k + 1, new, rfl, hk, rfl, hp, hnd, hnew, ?_⟩, ?_⟩
          · unfold spec_l02Used_F1_S2 spec_l02Used_F1_J4
            simp only [ltT hk, if_true, ix_lit hx, Option.bind_some, has_eq (l := out) (by omega), hm, decide_true, Bool.not_true, Bool.false_eq_true, if_false, w1 hk (show next.length ≤ 9223372036854775807 by omega)]
          · intro j y hj hy
            by_cases hjk : j = k
            · subst hjk; rw [hx] at hy; cases hy; exact hm
            · exact hall j y (by omega) hy
          · simp only [Int.toNat_natCast]; omega
        · obtain ⟨r, hr1, hr2⟩ := put_eq (l := out) (n := x) (by omega) hm
          refine ⟨(r, todo0 ++ (new ++ [x]), ((k + 1 : Nat) : Int)), ?_, ⟨k + 1, new ++ [x], rfl, hk, rfl, ?_, ?_, ?_, ?_⟩, ?_⟩
          · unfold spec_l02Used_F1_S2 spec_l02Used_F1_J4
            simp only [ltT hk, if_true, ix_lit hx, Option.bind_some, has_eq (l := out) (by omega), hm, decide_false, Bool.not_false, hr1, appN (l := todo0 ++ new) (m := [x]) (by simp; omega), List.append_assoc, w1 hk (show next.length ≤ 9223372036854775807 by omega)]
          · exact hr2.trans (by rw [← List.append_assoc]; exact hp.append_right [x])
          · exact hr2.nodup_iff.2 (List.nodup_append.2 ⟨hnd, by simp, fun a ha b hb => by
              have : b = x := by simpa using hb
              subst this
              exact fun e => hm (e ▸ ha)⟩)
          · intro y hy
            rcases List.mem_append.1 hy with h | h
            · exact hnew y h
            · rw [List.mem_singleton.1 h]; exact hxm
          · intro j y hj hy
            refine hr2.mem_iff.2 (List.mem_append.2 ?_)
            by_cases hjk : j = k
            · subst hjk; rw [hx] at hy; cases hy; exact .inr (by simp)
            · exact .inl (hall j y (by omega) hy)
          · simp only [Int.toNat_natCast]; omega
      · right
        obtain rfl : k = next.length := by omega
        refine ⟨.inl (out, todo0 ++ new), ?_, out, new, rfl, hp, hnd, hnew, fun y hy => ?_⟩
        · unfold spec_l02Used_F1_S2 spec_l02Used_F1_J3
          simp only [ltF, Bool.false_eq_true, if_false, Option.map_some]
        · obtain ⟨j, hj⟩ := List.getElem?_of_mem hy
          exact hall j y (List.getElem?_eq_some_iff.1 hj).1 hj)
    (out0, todo0, 0) ⟨0, [], rfl, Nat.zero_le _, by simp, by simp, hd, by simp, fun j y hj => by omega⟩
  obtain ⟨out1, new, rfl, h3⟩ := h2
  exact ⟨out1, new, h1, h3⟩
end Go.Proofs.Ytmgpjpaajhcmpaa.law
namespace Go.Proofs.Ytmgpjpaajhcmpaa.law
open Go Go.Proofs Ae
set_option maxRecDepth 100000

theorem own_eq' {l : List Int} (h : l.length ≤ 1000) : spec_l00Own l = some l := by
  unfold spec_l00Own
  rw [appN (by simp; omega)]
  rfl

theorem cut1 {x : Int} {l : List Int} : cut (x :: l) 1 ((x :: l).length : Int) = some l := by
  unfold cut
  rw [if_pos ⟨by decide, by simp only [List.length_cons]; omega, by omega⟩]
  simp only [List.length_cons, Int.toNat_natCast]
  rw [show (1 : Int).toNat = 1 from rfl, List.drop_succ_cons, List.drop_zero, show l.length + 1 - 1 = l.length by omega, List.take_length]

theorem specUsed {c : Checker} (hc : ChkV c) {s : Int} (h0 : 0 ≤ s) (h1 : s < c.Accept.length) : ∃ out, spec_l02Used_F1 c.Stack s c.Accept c.Call c.Return c.Inner = some out ∧ Clo c s out := by
  unfold spec_l02Used_F1
  have h40 := hc.n2
  obtain ⟨r, e, hq⟩ := loop_inv (step := spec_l02Used_F1_S1 c.Call c.Return c.Inner)
    (fun st => st.1.Nodup ∧ (∀ x ∈ st.1, 0 ≤ x ∧ x < (c.Accept.length : Int)) ∧ s ∈ st.1 ∧ (∀ x ∈ st.1, Rch c s x) ∧ (∀ x ∈ st.2, x ∈ st.1) ∧ st.2.length ≤ st.1.length ∧ ∀ x ∈ st.1, x ∈ st.2 ∨ ∀ y, Nx c x y → y ∈ st.1)
    (fun st => 2 * (40 - st.1.length) + st.2.length)
    (fun r => Clo c s r)
    (by
      rintro ⟨out, todo⟩ ⟨hd, hr, hs, hre, hts, htl, hcl⟩
      simp only at hd hr hs hre hts htl hcl
      have hol := nodup_le _ out hd hr
      cases todo with
      | nil =>
        right
        refine ⟨out, ?_, clo_of hs hre (fun x hx => (hcl x hx).resolve_left (by simp)) hr (by omega)⟩
        unfold spec_l02Used_F1_S1 spec_l02Used_F1_J1
        simp
      | cons x ts =>
        left
        obtain ⟨x0, x1⟩ := hr x (hts x (by simp))
        obtain ⟨rr, cl, inn, r0, r1, p0, p1, z1, z2, z3, z4, z5, z6, z7, l0, l1, l2, hnx, hrg⟩ := mv hc x0 x1
        have hmem : ∀ y, y ∈ inn ++ [p0.To] ++ r0 ++ [p1.To] ++ r1 ↔ Nx c x y := by
          intro y
          rw [hnx]
          simp only [List.mem_append, List.mem_singleton]
          constructor
          · rintro ((((h | h) | h) | h) | h)
            · exact .inr (.inr (.inl h))
            · exact .inr (.inr (.inr (.inl h)))
            · exact .inl h
            · exact .inr (.inr (.inr (.inr h)))
            · exact .inr (.inl h)
          · rintro (h | h | h | h | h)
            · exact .inl (.inl (.inr h))
            · exact .inr h
            · exact .inl (.inl (.inl (.inl h)))
            · exact .inl (.inl (.inl (.inr h)))
            · exact .inl (.inr h)
        simp only [List.length_cons] at htl
        obtain ⟨out1, new, a1, a2, a3, a4, a5⟩ := add_loop (n := c.Accept.length) h40 (next := inn ++ [p0.To] ++ r0 ++ [p1.To] ++ r1) (out0 := out) (todo0 := ts) (by simp; omega)
          (fun y hy => hrg y ((hnx y).1 ((hmem y).1 hy))) hd hr (by omega)
        have hsub : ∀ y ∈ out, y ∈ out1 := fun y hy => a2.mem_iff.2 (List.mem_append.2 (.inl hy))
        have hrg1 : ∀ y ∈ out1, 0 ≤ y ∧ y < (c.Accept.length : Int) := fun y hy => by
          rcases List.mem_append.1 (a2.mem_iff.1 hy) with h | h
          · exact hr y h
          · exact hrg y ((hnx y).1 ((hmem y).1 (a4 y h)))
        have hol1 := nodup_le _ out1 a3 hrg1
        have hpl := a2.length_eq
        rw [List.length_append] at hpl
        refine ⟨(out1, ts ++ new), ?_, ⟨a3, hrg1, hsub s hs, ?_, ?_, ?_, ?_⟩, ?_⟩
        · unfold spec_l02Used_F1_S1
          simp only
          rw [if_pos (by simp), show ix (x :: ts) 0 = some x from rfl, Option.bind_some, cut1, Option.bind_some, z4, Option.bind_some, own_eq' (by omega), Option.bind_some]
          rw [loop_L (s' := (inn ++ [p0.To] ++ r0, 1)), loop_L (s' := (inn ++ [p0.To] ++ r0 ++ [p1.To] ++ r1, 2))]
          · refine loop_R ?_
            unfold spec_l02Used_F1_S3 spec_l02Used_F1_J2
            simp only [a1]
            rfl
          · unfold spec_l02Used_F1_S3
            simp only
            rw [if_pos (by decide), z5, Option.bind_some, z7, Option.bind_some, appN (by simp; omega), Option.bind_some, z1, Option.bind_some, z3, Option.bind_some, appN (by simp; omega), Option.bind_some]
            rfl
          · unfold spec_l02Used_F1_S3
            simp only
            rw [if_pos (by decide), z5, Option.bind_some, z6, Option.bind_some, appN (by simp; omega), Option.bind_some, z1, Option.bind_some, z2, Option.bind_some, appN (by simp; omega), Option.bind_some]
            rfl
        · intro y hy
          rcases List.mem_append.1 (a2.mem_iff.1 hy) with h | h
          · exact hre y h
          · exact .step (hre x (hts x (by simp))) ((hmem y).1 (a4 y h))
        · intro y hy
          rcases List.mem_append.1 hy with h | h
          · exact hsub y (hts y (by simp [h]))
          · exact a2.mem_iff.2 (List.mem_append.2 (.inr h))
        · simp only [List.length_append]; omega
        · intro y hy
          rcases List.mem_append.1 (a2.mem_iff.1 hy) with h | h
          · rcases hcl y h with h' | h'
            · rcases List.mem_cons.1 h' with rfl | h''
              · exact .inr fun z hz => a5 z ((hmem z).2 hz)
              · exact .inl (List.mem_append.2 (.inl h''))
            · exact .inr fun z hz => hsub z (h' z hz)
          · exact .inl (List.mem_append.2 (.inr h))
        · simp only [List.length_append, List.length_cons]; omega)
    ([s], [s]) ⟨by simp, by simpa using ⟨h0, h1⟩, by simp, by simpa using Rch.refl, by simp, by simp, by simp⟩
  exact ⟨r, e, hq⟩
end Go.Proofs.Ytmgpjpaajhcmpaa.law
namespace Go.Proofs.Ytmgpjpaajhcmpaa.law
open Go Go.Proofs Ae
set_option maxRecDepth 100000

theorem concat4 {a b d e : List Int} (ha : a.length ≤ 100) (hb : b.length ≤ 100) (hd : d.length ≤ 100) (he : e.length ≤ 100) : slices_Concat_sint64_int64 [a, b, d, e] = some (a ++ b ++ d ++ e) := by
  have w : ∀ n : Int, 0 ≤ n → n ≤ 1000 → IntKind.wrap .i64 n = n := fun n h k => w64 (by omega) (by omega)
  have st : ∀ (k : Nat) (sz : Int) (x : List Int), ([a, b, d, e] : List (List Int))[k]? = some x → 0 ≤ sz → sz ≤ 400 → x.length ≤ 100 → slices_Concat_sint64_int64_S2 [a, b, d, e] (sz, (k : Int)) = some (.inl (sz + x.length, ((k + 1 : Nat) : Int))) := by
    intro k sz x hx h0 h1 h2
    have hlt := (List.getElem?_eq_some_iff.1 hx).1
    unfold slices_Concat_sint64_int64_S2
    simp only
    rw [if_pos (ltT hlt), ix_lit hx, Option.bind_some, w _ (by omega) (by omega), if_neg (by simp; omega), w1 hlt (by simp)]
  have st2 : ∀ (k : Nat) (o x : List Int), ([a, b, d, e] : List (List Int))[k]? = some x → o.length ≤ 400 → x.length ≤ 100 → slices_Concat_sint64_int64_S1 [a, b, d, e] (o, (k : Int)) = some (.inl (o ++ x, ((k + 1 : Nat) : Int))) := by
    intro k o x hx h1 h2
    have hlt := (List.getElem?_eq_some_iff.1 hx).1
    unfold slices_Concat_sint64_int64_S1
    simp only
    rw [if_pos (ltT hlt), ix_lit hx, Option.bind_some, appN (by omega), Option.bind_some, w1 hlt (by simp)]
  unfold slices_Concat_sint64_int64
  have s0 := st 0 0 a rfl (by omega) (by omega) ha
  have s1 := st 1 (0 + a.length) b rfl (by omega) (by omega) hb
  have s2 := st 2 (0 + a.length + b.length) d rfl (by omega) (by omega) hd
  have s3 := st 3 (0 + a.length + b.length + d.length) e rfl (by omega) (by omega) he
  refine (loop_L s0).trans ((loop_L s1).trans ((loop_L s2).trans ((loop_L s3).trans ?_)))
  refine loop_R ?_
  unfold slices_Concat_sint64_int64_S2
  simp only
  rw [if_neg (by simp)]
  unfold slices_Concat_sint64_int64_J1 growN
  rw [if_pos ⟨rfl, by omega, by omega⟩, Option.bind_some]
  have t0 := st2 0 [] a rfl (by simp) ha
  have t1 := st2 1 ([] ++ a) b rfl (by simp; omega) hb
  have t2 := st2 2 ([] ++ a ++ b) d rfl (by simp; omega) hd
  have t3 := st2 3 ([] ++ a ++ b ++ d) e rfl (by simp; omega) he
  have t4 : loop (slices_Concat_sint64_int64_S1 [a, b, d, e]) (([] : List Int), 0) = some (a ++ b ++ d ++ e) := by
    refine (loop_L t0).trans ((loop_L t1).trans ((loop_L t2).trans ((loop_L t3).trans ?_)))
    refine loop_R ?_
    unfold slices_Concat_sint64_int64_S1 slices_Concat_sint64_int64_J2
    simp only
    rw [if_neg (by simp)]
    simp
  rw [t4]
  rfl

theorem addI {n : Nat} (hn40 : n ≤ 40) {next out0 : List Int} {t : Int} (hl : next.length ≤ 1000) (hn : ∀ y ∈ next, 0 ≤ y ∧ y < (n : Int)) (hd : out0.Nodup) (hr : ∀ y ∈ out0, 0 ≤ y ∧ y < (n : Int)) :
    ∃ new, loop (impl_Checker_used_S2 t next) (out0, 0) = some (.inl (out0 ++ new, IntKind.wrap .i64 (t + 1))) ∧ (out0 ++ new).Nodup ∧ (∀ y ∈ new, y ∈ next) ∧ (∀ y ∈ next, y ∈ out0 ++ new) := by
  obtain ⟨r, h1, h2⟩ := loop_inv (step := impl_Checker_used_S2 t next)
    (fun st => ∃ (k : Nat) (new : List Int), st.2 = (k : Int) ∧ k ≤ next.length ∧ st.1 = out0 ++ new ∧ (out0 ++ new).Nodup ∧ (∀ y ∈ new, y ∈ next) ∧ ∀ j y, j < k → next[j]? = some y → y ∈ out0 ++ new)
    (fun st => next.length - st.2.toNat)
    (fun r => ∃ new, r = .inl (out0 ++ new, IntKind.wrap .i64 (t + 1)) ∧ (out0 ++ new).Nodup ∧ (∀ y ∈ new, y ∈ next) ∧ (∀ y ∈ next, y ∈ out0 ++ new))
    (by
      rintro ⟨out, i⟩ ⟨k, new, e1, e2, e3, hnd, hnew, hall⟩
      simp only at e1 e3
      subst e1 e3
      have hrg : ∀ y ∈ out0 ++ new, 0 ≤ y ∧ y < (n : Int) := fun y hy => by
        rcases List.mem_append.1 hy with h | h
        · exact hr y h
        · exact hn y (hnew y h)
      have hol := nodup_le n (out0 ++ new) hnd hrg
      by_cases hk : k < next.length
      · left
        have hx : next[k]? = some next[k] := List.getElem?_eq_getElem hk
        generalize next[k] = x at hx
        have hxm := List.mem_of_getElem? hx
        by_cases hm : x ∈ out0 ++ new
        · refine ⟨(out0 ++ new, ((k + 1 : Nat) : Int)), ?_, ⟨k + 1, new, rfl, hk, rfl, hnd, hnew, ?_⟩, ?_⟩
          · unfold impl_Checker_used_S2 impl_Checker_used_J3
            simp only
            rw [if_pos (ltT hk), ix_lit hx, Option.bind_some, contains_eq (by omega), Option.bind_some, decide_eq_true hm, if_neg (by decide), w1 hk (by omega)]
          · intro j y hj hy
            by_cases hjk : j = k
            · subst hjk; rw [hx] at hy; cases hy; exact hm
            · exact hall j y (by omega) hy
          · simp only [Int.toNat_natCast]; omega
        · refine ⟨(out0 ++ (new ++ [x]), ((k + 1 : Nat) : Int)), ?_, ⟨k + 1, new ++ [x], rfl, hk, rfl, ?_, ?_, ?_⟩, ?_⟩
          · unfold impl_Checker_used_S2 impl_Checker_used_J3
            simp only
            rw [if_pos (ltT hk), ix_lit hx, Option.bind_some, contains_eq (by omega), Option.bind_some, decide_eq_false hm, if_pos (by decide), appN (by rw [List.length_singleton]; omega), Option.bind_some, w1 hk (by omega), List.append_assoc]
          · rw [← List.append_assoc]
            exact List.nodup_append.2 ⟨hnd, by simp, fun a ha b hb => by
              have : b = x := by simpa using hb
              subst this
              exact fun e => hm (e ▸ ha)⟩
          · intro y hy
            rcases List.mem_append.1 hy with h | h
            · exact hnew y h
            · rw [List.mem_singleton.1 h]; exact hxm
          · intro j y hj hy
            rw [← List.append_assoc]
            refine List.mem_append.2 ?_
            by_cases hjk : j = k
            · subst hjk; rw [hx] at hy; cases hy; exact .inr (by simp)
            · exact .inl (hall j y (by omega) hy)
          · simp only [Int.toNat_natCast]; omega
      · right
        obtain rfl : k = next.length := by omega
        refine ⟨.inl (out0 ++ new, IntKind.wrap .i64 (t + 1)), ?_, new, rfl, hnd, hnew, fun y hy => ?_⟩
        · unfold impl_Checker_used_S2 impl_Checker_used_J2
          simp only [ltF, Bool.false_eq_true, if_false, Option.map_some]
        · obtain ⟨j, hj⟩ := List.getElem?_of_mem hy
          exact hall j y (List.getElem?_eq_some_iff.1 hj).1 hj)
    (out0, 0) ⟨0, [], rfl, Nat.zero_le _, by simp, by simpa using hd, by simp, fun j y hj => by omega⟩
  obtain ⟨new, rfl, h3⟩ := h2
  exact ⟨new, h1, h3⟩

theorem srt_mem {l : List Int} {x : Int} : x ∈ srt l ↔ x ∈ l := by unfold srt; exact List.mem_mergeSort

theorem implUsed {c : Checker} (hc : ChkV c) {s : Int} (h0 : 0 ≤ s) (h1 : s < c.Accept.length) : ∃ out, impl_Checker_used (⟨c.Stack, s, c.Accept, c.Call, c.Return, c.Inner⟩ : Checker) = some out ∧ Clo c s out := by
  unfold impl_Checker_used
  have h40 := hc.n2
  obtain ⟨r, e, hq⟩ := loop_inv (step := impl_Checker_used_S1 (⟨c.Stack, s, c.Accept, c.Call, c.Return, c.Inner⟩ : Checker))
    (fun st => ∃ k : Nat, st.2 = (k : Int) ∧ k ≤ st.1.length ∧ st.1.Nodup ∧ (∀ x ∈ st.1, 0 ≤ x ∧ x < (c.Accept.length : Int)) ∧ s ∈ st.1 ∧ (∀ x ∈ st.1, Rch c s x) ∧ ∀ j x, j < k → st.1[j]? = some x → ∀ y, Nx c x y → y ∈ st.1)
    (fun st => 40 - st.2.toNat)
    (fun r => Clo c s r)
    (by
      rintro ⟨out, i⟩ ⟨k, e1, hk, hd, hr, hs, hre, hcl⟩
      simp only at e1 hk hd hr hs hre hcl
      subst e1
      have hol := nodup_le _ out hd hr
      by_cases hlt : k < out.length
      · left
        have hx : out[k]? = some out[k] := List.getElem?_eq_getElem hlt
        generalize out[k] = x at hx
        have hxm := List.mem_of_getElem? hx
        obtain ⟨x0, x1⟩ := hr x hxm
        obtain ⟨rr, cl, inn, r0, r1, p0, p1, z1, z2, z3, z4, z5, z6, z7, l0, l1, l2, hnx, hrg⟩ := mv hc x0 x1
        have hmem : ∀ y, y ∈ r0 ++ r1 ++ inn ++ [p0.To, p1.To] ↔ Nx c x y := by
          intro y
          rw [hnx]
          simp only [List.mem_append, List.mem_cons, List.not_mem_nil, or_false, or_assoc]
        obtain ⟨new, a1, a3, a4, a5⟩ := addI (n := c.Accept.length) h40 (next := r0 ++ r1 ++ inn ++ [p0.To, p1.To]) (out0 := out) (t := (k : Int)) (by simp; omega)
          (fun y hy => hrg y ((hnx y).1 ((hmem y).1 hy))) hd hr
        refine ⟨(out ++ new, ((k + 1 : Nat) : Int)), ?_, ⟨k + 1, rfl, by simp only [List.length_append]; omega, a3, ?_, List.mem_append.2 (.inl hs), ?_, ?_⟩, ?_⟩
        · unfold impl_Checker_used_S1
          simp only
          rw [if_pos (ltT hlt), ix_lit hx, Option.bind_some, z1, Option.bind_some, z2, Option.bind_some, Option.bind_some, z3, Option.bind_some, z4, Option.bind_some, z5, Option.bind_some, z6, Option.bind_some, Option.bind_some, z7, Option.bind_some,
            concat4 (by omega) (by omega) (by omega) (by simp), Option.bind_some, a1, w1 hlt (by omega)]
        · intro y hy
          rcases List.mem_append.1 hy with h | h
          · exact hr y h
          · exact hrg y ((hnx y).1 ((hmem y).1 (a4 y h)))
        · intro y hy
          rcases List.mem_append.1 hy with h | h
          · exact hre y h
          · exact .step (hre x hxm) ((hmem y).1 (a4 y h))
        · intro j z hj hz y hy
          by_cases hjk : j = k
          · subst hjk
            rw [List.getElem?_append_left hlt, hx] at hz
            cases hz
            exact a5 y ((hmem y).2 hy)
          · rw [List.getElem?_append_left (by omega)] at hz
            exact List.mem_append.2 (.inl (hcl j z (by omega) hz y hy))
        · simp only [Int.toNat_natCast]; omega
      · right
        obtain rfl : k = out.length := by omega
        refine ⟨srt out, ?_, ?_⟩
        · unfold impl_Checker_used_S1 impl_Checker_used_J1
          simp only
          rw [if_neg (by simp), srtM, if_pos (by omega)]
          rfl
        · have := clo_of hs hre (fun x hx y hy => by
            obtain ⟨j, hj⟩ := List.getElem?_of_mem hx
            exact hcl j x (List.getElem?_eq_some_iff.1 hj).1 hj y hy) hr (by omega)
          exact ⟨fun x => srt_mem.trans (this.mem x), fun x hx => hr x (srt_mem.1 hx), by rw [srt_len]; omega⟩)
    ([s], 0) ⟨0, rfl, by simp, by simp, by simpa using ⟨h0, h1⟩, by simp, by simpa using Rch.refl, fun j x hj => by omega⟩
  exact ⟨r, e, hq⟩
end Go.Proofs.Ytmgpjpaajhcmpaa.law
namespace Go.Proofs.Ytmgpjpaajhcmpaa.law
open Go Go.Proofs Ae
set_option maxRecDepth 100000

def acc (c : Checker) (x : Int) : Bool := (ix c.Accept x).getD false
theorem acc_ix {c : Checker} {x : Int} (h0 : 0 ≤ x) (h1 : x < c.Accept.length) : ix c.Accept x = some (acc c x) := by
  obtain ⟨b, e, _⟩ := ix_in h0 h1
  unfold acc
  rw [e]; rfl

theorem any_mem {l m : List Int} (p : Int → Bool) (h : ∀ x, x ∈ l ↔ x ∈ m) : l.any p = m.any p := by
  rw [Bool.eq_iff_iff, List.any_eq_true, List.any_eq_true]
  exact ⟨fun ⟨x, hx, hp⟩ => ⟨x, (h x).1 hx, hp⟩, fun ⟨x, hx, hp⟩ => ⟨x, (h x).2 hx, hp⟩⟩

/-- The lost states. -/
def lostL (f : Int → Bool) : Nat → List Int
  | 0 => []
  | n + 1 => lostL f n ++ (if f (n : Int) then [] else [(n : Int)])
theorem lostL_succ (f : Int → Bool) (k : Nat) : lostL f (k + 1) = lostL f k ++ (if f (k : Int) then [] else [(k : Int)]) := rfl
theorem lostL_len (f : Int → Bool) : ∀ n, (lostL f n).length ≤ n
  | 0 => Nat.le_refl _
  | n + 1 => by
    have := lostL_len f n
    unfold lostL
    rw [List.length_append]
    split <;> simp <;> omega

theorem specIn {c : Checker} {out y : List Int} {s : Int} (hy : ∀ x ∈ y, 0 ≤ x ∧ x < (c.Accept.length : Int)) (hl : y.length ≤ 1000) :
    ∀ (suf pre : List Int) (b : Bool), y = pre ++ suf → loop (spec_l08Lost_S2 c out s y) (b, (pre.length : Int)) = spec_l08Lost_J2 out s (b || suf.any (acc c))
  | [], pre, b, e => by
    have e' : y.length = pre.length := by rw [e]; simp
    rw [loop_eq]
    unfold spec_l08Lost_S2
    simp only [e', ltF, Bool.false_eq_true, if_false, List.any_nil, Bool.or_false]
    cases spec_l08Lost_J2 out s b <;> rfl
  | x :: t, pre, b, e => by
    have hx : y[pre.length]? = some x := by rw [e]; simp
    have hlt := (List.getElem?_eq_some_iff.1 hx).1
    obtain ⟨x0, x1⟩ := hy x (List.mem_of_getElem? hx)
    have ih := specIn (out := out) (s := s) hy hl t (pre ++ [x]) (b || acc c x) (by rw [e]; simp)
    rw [loop_L (s' := (b || acc c x, ((pre.length + 1 : Nat) : Int)))]
    · rw [List.length_append] at ih
      rw [List.any_cons, ← Bool.or_assoc]
      exact ih
    · unfold spec_l08Lost_S2
      simp only [ltT hlt, if_true, ix_lit hx, Option.bind_some, acc_ix x0 x1, w1 hlt (show y.length ≤ 9223372036854775807 by omega)]
      cases b <;> simp

theorem lost_eq {c : Checker} (hc : ChkV c) : ∃ r, spec_l08Lost c = some r ∧ impl_Checker_lost_K0 c = some r ∧ r.length ≤ 40 := by
  have h40 := hc.n2
  have hU : ∀ k : Nat, ∃ a b : List Int, k < c.Accept.length → spec_l02Used_F1 c.Stack (k : Int) c.Accept c.Call c.Return c.Inner = some a ∧ Clo c k a ∧ impl_Checker_used (⟨c.Stack, (k : Int), c.Accept, c.Call, c.Return, c.Inner⟩ : Checker) = some b ∧ Clo c k b := by
    intro k
    by_cases hk : k < c.Accept.length
    · obtain ⟨a, h1, h2⟩ := specUsed hc (s := (k : Int)) (by omega) (by omega)
      obtain ⟨b, h3, h4⟩ := implUsed hc (s := (k : Int)) (by omega) (by omega)
      exact ⟨a, b, fun _ => ⟨h1, h2, h3, h4⟩⟩
    · exact ⟨[], [], fun h => absurd h hk⟩
  obtain ⟨A, hA⟩ := Classical.axiomOfChoice hU
  obtain ⟨B, hB⟩ := Classical.axiomOfChoice hA
  let f : Int → Bool := fun x => (A x.toNat).any (acc c)
  have hf : ∀ k : Nat, f (k : Int) = (A k).any (acc c) := fun k => by show (A (k : Int).toNat).any _ = _; rw [Int.toNat_natCast]
  have hsp : ∀ k, k < c.Accept.length → spec_l08Lost_S1 c (lostL f k, (k : Int)) = some (.inl (lostL f (k + 1), ((k + 1 : Nat) : Int))) := by
    intro k hk
    obtain ⟨h1, h2, h3, h4⟩ := hB k hk
    have hl := lostL_len f k
    unfold spec_l08Lost_S1
    simp only
    rw [if_pos (ltT hk), h1, Option.bind_some]
    have := specIn (c := c) (out := lostL f k) (y := A k) (s := (k : Int)) h2.rng (by have := h2.len; omega) (A k) [] false rfl
    refine this.trans ?_
    rw [Bool.false_or, ← hf k]
    unfold spec_l08Lost_J2 spec_l08Lost_J3
    rw [lostL_succ]
    cases hfk : f (k : Int)
    · simp only [Bool.not_false, if_true, Bool.false_eq_true, if_false]
      rw [appN (by rw [List.length_singleton]; omega), Option.bind_some, w1 hk (by omega)]
    · simp only [Bool.not_true, Bool.false_eq_true, if_false, if_true, List.append_nil]
      rw [w1 hk (by omega)]
  have him : ∀ k, k < c.Accept.length → impl_Checker_lost_K0_S1 c (lostL f k, (k : Int)) = some (.inl (lostL f (k + 1), ((k + 1 : Nat) : Int))) := by
    intro k hk
    obtain ⟨h1, h2, h3, h4⟩ := hB k hk
    have hl := lostL_len f k
    have hany : (B k).any (acc c) = f (k : Int) := by
      rw [hf k]
      exact any_mem _ fun x => (h4.mem x).trans (h2.mem x).symm
    unfold impl_Checker_lost_K0_S1
    simp only
    rw [if_pos (ltT hk), h3, Option.bind_some, containsI (by have := h4.len; omega) _ (acc c) (fun x hx => by
      unfold impl_Checker_lost_1
      rw [acc_ix (h4.rng x hx).1 (h4.rng x hx).2]; rfl), Option.bind_some, hany]
    unfold impl_Checker_lost_K0_J2
    rw [lostL_succ]
    cases hfk : f (k : Int)
    · simp only [Bool.not_false, if_true, Bool.false_eq_true, if_false]
      rw [appN (by rw [List.length_singleton]; omega), Option.bind_some, w1 hk (by omega)]
    · simp only [Bool.not_true, Bool.false_eq_true, if_false, if_true, List.append_nil]
      rw [w1 hk (by omega)]
  have run : ∀ (S : List Int × Int → Option ((List Int × Int) ⊕ List Int)), (∀ k, k < c.Accept.length → S (lostL f k, (k : Int)) = some (.inl (lostL f (k + 1), ((k + 1 : Nat) : Int)))) → S (lostL f c.Accept.length, (c.Accept.length : Int)) = some (.inr (lostL f c.Accept.length)) →
      loop S (([] : List Int), 0) = some (lostL f c.Accept.length) := by
    intro S hS hE
    have key : ∀ m k, k + m = c.Accept.length → loop S (lostL f k, (k : Int)) = some (lostL f c.Accept.length) := by
      intro m
      induction m with
      | zero =>
        intro k hk
        obtain rfl : k = c.Accept.length := by omega
        exact loop_R hE
      | succ m ih =>
        intro k hk
        rw [loop_L (hS k (by omega))]
        exact ih (k + 1) (by omega)
    exact key c.Accept.length 0 (by omega)
  refine ⟨lostL f c.Accept.length, run _ hsp ?_, run _ him ?_, Nat.le_trans (lostL_len f _) h40⟩
  · unfold spec_l08Lost_S1 spec_l08Lost_J1
    simp only [ltF, Bool.false_eq_true, if_false]; rfl
  · unfold impl_Checker_lost_K0_S1 impl_Checker_lost_K0_J1
    simp only [ltF, Bool.false_eq_true, if_false]; rfl

theorem chk_S2 {c : Checker} (h : smChecker c) (t : Int) : impl_ValidChecker_S2 c t = spec_l02Ok_S2 c t := by
  funext k
  unfold impl_ValidChecker_S2 spec_l02Ok_S2
  split
  · refine bindC fun x hx => bindC fun p hp => ?_
    unfold impl_Checker_isState impl_Checker_isMark impl_size_bool impl_within spec_l00In
    simp only [Option.bind_some, ite_some, ite_or, hx, hp]
    split
    · rfl
    · congr 1
      refine bindC fun r hr => bindC fun l hl => ?_
      have hm := ((h.2.2.2.2.1).2 r (ix_mem hr)).2 l (ix_mem hl)
      rw [implL hm.1, specL hm.1]
  · rfl
theorem chk_S1 {c : Checker} (h : smChecker c) : impl_ValidChecker_S1 c (c.Accept.length : Int) = spec_l02Ok_S1 c := by
  funext k
  unfold impl_ValidChecker_S1 spec_l02Ok_S1
  simp only [chk_S2 h]
  split
  · refine bindC fun x hx => ?_
    congr 1
    funext b
    congr 1
    split
    · rfl
    · refine bindC fun l hl => ?_
      have hm := (h.2.2.2.2.2).2 l (ix_mem hl)
      rw [implL hm.1, specL hm.1]
  · rfl
theorem chk_eq {c : Checker} (h : smChecker c) : impl_ValidChecker c = spec_l02Ok c := by
  unfold impl_ValidChecker spec_l02Ok
  unfold impl_Checker_isState impl_size_bool impl_within spec_l00In impl_size_simpl_Push impl_size_s_int64 impl_size_sint64
  simp only [Option.bind_some, ite_some, ite_or, chk_S1 h]
theorem chk_tot {c : Checker} (h : smChecker c) : ∃ b, spec_l02Ok c = some b := by
  unfold spec_l02Ok spec_l00In
  simp only [Option.bind_some, ite_some, ite_or]
  split
  · exact ⟨_, rfl⟩
  · rename_i hg
    simp only [Bool.or_eq_true, not_or, bne_iff_ne, ne_eq, Decidable.not_not, Bool.not_eq_true] at hg
    obtain ⟨⟨⟨_, hC⟩, hR⟩, hI⟩ := hg
    have hA := h.2.2.1.1
    obtain ⟨r, h1, _⟩ := loop_tot (step := spec_l02Ok_S1 c) (n := c.Accept.length) (fun _ => True) ⟨_, loop_R (by unfold spec_l02Ok_S1; rw [if_neg (by simp)]; rfl), trivial⟩ fun i hi => by
      unfold spec_l02Ok_S1
      have hc : i < c.Call.length := by omega
      have hr : i < c.Return.length := by omega
      have hn : i < c.Inner.length := by omega
      have hm := h.2.2.2.2.2.2 _ (List.getElem_mem hn)
      rw [if_pos (ltT hi), ix_some hc, Option.bind_some, ix_some hr, Option.bind_some, ite_some, Option.bind_some, ite_or, ix_some hn, Option.bind_some, specL hm.1, Option.bind_some, ite_some, Option.bind_some, ite_or]
      split
      · exact .inr ⟨_, rfl, trivial⟩
      · rename_i hg
        simp only [Bool.or_eq_true, not_or, bne_iff_ne, ne_eq, Decidable.not_not, Bool.not_eq_true] at hg
        obtain ⟨⟨h2, h3⟩, _⟩ := hg
        obtain ⟨r, h4, h5⟩ := loop_tot (step := spec_l02Ok_S2 c i) (n := 2) (fun r => r = .inl ((i + 1 : Nat) : Int) ∨ r = .inr false) ⟨_, loop_R (by unfold spec_l02Ok_S2; rw [if_neg (by simp)]; rfl), .inl (by rw [w1 hi (by omega)])⟩ fun k hk => by
          unfold spec_l02Ok_S2
          have hmr := (h.2.2.2.2.1.2 _ (List.getElem_mem hr)).2 (c.Return[i][k]'(by omega)) (List.getElem_mem _)
          have e1 : ix c.Call (i : Int) = some c.Call[i] := ix_some hc
          have e2 : ix c.Call[i] (k : Int) = some (c.Call[i][k]'(by omega)) := ix_some _
          have e3 : ix c.Return (i : Int) = some c.Return[i] := ix_some hr
          have e4 : ix c.Return[i] (k : Int) = some (c.Return[i][k]'(by omega)) := ix_some _
          unfold spec_l00In
          simp only [if_pos (decide_eq_true (show (k : Int) < 2 by omega)), e1, e2, e3, e4, Option.bind_some, specL hmr.1, w1 hk (by decide), ite_some, ite_or]
          split
          · exact .inr ⟨_, rfl, .inr rfl⟩
          · exact .inl rfl
        rw [h4]
        rcases h5 with rfl | rfl
        · exact .inl rfl
        · exact .inr ⟨_, rfl, trivial⟩
    exact ⟨r, h1⟩

theorem lost_plain (c : Checker) : impl_Checker_lost c = impl_Checker_lost_K0 c := rfl

theorem law_LostStates {c : Checker} (hb : bChecker c) : laws_FnExactLostStates c = some true := by
  unfold laws_FnExactLostStates
  obtain ⟨q, h1, h2, h3⟩ := laws_szChecker_sz hb 1048576 (by omega) (by omega)
  rw [h1, Option.bind_some]
  by_cases hr : q < 0
  · rw [if_pos (decide_eq_true hr)]
  · rw [if_neg (by simpa using hr)]
    have hs : smChecker c := by
      rcases h3 with h3 | h3
      · exact absurd h3 hr
      · exact h3.2
    have key : ∃ (b : List Int) (code : Int), spec_LostStates c = some (b, code) ∧ impl_LostStates_K0 c = some (b, code) ∧ impl_LostStates c = some (b, code) ∧ b.length ≤ 1048576 := by
      obtain ⟨ok, hok⟩ := chk_tot hs
      unfold spec_LostStates impl_LostStates_K0 impl_LostStates
      rw [chk_eq hs, hok, Option.bind_some, Option.bind_some]
      cases ok
      · exact ⟨[], 1, rfl, rfl, rfl, by simp⟩
      · obtain ⟨r, k1, k2, k3⟩ := lost_eq (chk_V hs hok)
        refine ⟨r, 0, ?_, ?_, ?_, by omega⟩
        · rw [if_neg (by simp), k1]; rfl
        · rw [if_neg (by simp), k2]; rfl
        · rw [Option.bind_some, if_neg (by simp), lost_plain, k2]; rfl
    obtain ⟨b, code, r1, r3, r2, r4⟩ := key
    have hb : smL smT b := ⟨r4, fun _ _ => trivial⟩
    obtain ⟨k, k1, k2, _⟩ := laws_markChecker_K10_mk hs (k := 1) (by omega) (by omega)
    have hm := laws_markInt64S_K10_seq (a := b) r4 (k := 1) (by omega) (by omega)
    have hd := laws_heldInt64S_seq (n := b.length) r4 (k := 1) (by omega) (by omega)
    have e1 : decide (k.1 < 0) = false := by simp; omega
    have e2 : decide ((1 : Int) + b.length < 0) = false := by simp; omega
    rw [laws_toChecker_to hs, Option.bind_some, r1, Option.bind_some, laws_toChecker_K0_to hs, Option.bind_some, r3, Option.bind_some, laws_eqInt64S_eq hb, Option.bind_some,
      if_neg (by simp), Option.bind_some, laws_eqChecker_eq hs, Option.bind_some, if_neg (by simp), k1, Option.bind_some, if_neg (by rw [e1]; simp), Option.bind_some, Option.bind_some, if_neg (by simp), hm, Option.bind_some, hd, Option.bind_some,
      if_neg (by rw [e2]; simp), if_neg (by simp), Option.bind_some, r2, Option.bind_some, laws_eqInt64S_eq hb, Option.bind_some, if_neg (by simp), Option.bind_some, if_neg (by rw [e2]; simp), if_neg (by simp)]
end Go.Proofs.Ytmgpjpaajhcmpaa.law
