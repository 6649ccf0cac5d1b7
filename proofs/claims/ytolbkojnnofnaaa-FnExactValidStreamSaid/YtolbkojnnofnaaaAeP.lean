import Derived.Test.YtolbkojnnofnaaaAeD
import Derived.Test.YtolbkojnnofnaaaAe3
set_option linter.unusedVariables false
namespace Go.Proofs.Ytolbkojnnofnaaa.law
open Go Go.Proofs Ae
set_option maxRecDepth 100000
set_option linter.unusedVariables false
noncomputable def szStr (x : List UInt8) (left : Int) : Option Int := some (IntKind.wrap .i64 (left - (x.length : Int)))
theorem szStr_step {o p : Option ((Int × Int) ⊕ Int)} (h : o = p) : o = p := h
theorem szStr_sz {x : List UInt8} (h : bS x) : SzOk smS szStr x := by
  intro left h0 h1
  have := bS.len h
  refine ⟨_, rfl, ?_, ?_⟩
  · rw [w64 (by omega) (by omega)]; omega
  · rw [w64 (by omega) (by omega)]
    by_cases h : left - (x.length : Int) < 0
    · exact .inl h
    · exact .inr ⟨by omega, by unfold smS; omega⟩
theorem laws_szBoolS_sz {a : List Bool} (h : (bL bB) a) : SzOk (smL smT) laws_szBoolS a := sz_flat (fun _ => rfl) h.len
theorem laws_szPushS_sz {a : List Push} (h : (bL bPush) a) : SzOk (smL smT) laws_szPushS a := sz_flat (fun _ => rfl) h.len
theorem laws_szPushSS_sz {a : List (List Push)} (h : (bL (bL bPush)) a) : SzOk (smL (smL smT)) laws_szPushSS a :=
  sz_loop (sub := laws_szPushS) (S := laws_szPushSS_S1 a) (fun _ _ => rfl) (fun _ => rfl) h.len fun x hx => laws_szPushS_sz (h.2 x hx)
theorem laws_szInt64S_sz {a : List Int} (h : (bL (bI .i64)) a) : SzOk (smL smT) laws_szInt64S a := sz_flat (fun _ => rfl) h.len
theorem laws_szInt64SS_sz {a : List (List Int)} (h : (bL (bL (bI .i64))) a) : SzOk (smL (smL smT)) laws_szInt64SS a :=
  sz_loop (sub := laws_szInt64S) (S := laws_szInt64SS_S1 a) (fun _ _ => rfl) (fun _ => rfl) h.len fun x hx => laws_szInt64S_sz (h.2 x hx)
theorem laws_szInt64SSS_sz {a : List (List (List Int))} (h : (bL (bL (bL (bI .i64)))) a) : SzOk (smL (smL (smL smT))) laws_szInt64SSS a :=
  sz_loop (sub := laws_szInt64SS) (S := laws_szInt64SSS_S1 a) (fun _ _ => rfl) (fun _ => rfl) h.len fun x hx => laws_szInt64SS_sz (h.2 x hx)
theorem laws_szChecker_sz {a : Checker} (h : bChecker a) : SzOk smChecker laws_szChecker a := by
  intro left h0 h1
  unfold laws_szChecker
  obtain ⟨y1, e1, l1, q1⟩ := laws_szBoolS_sz h.2.2.1 left h0 h1
  rw [e1, Option.bind_some]
  rcases q1 with q1 | ⟨p1, s1⟩
  · exact ⟨-1, by rw [if_pos (by simpa using q1)], by omega, .inl (by omega)⟩
  rw [if_neg (by simp; omega)]
  obtain ⟨y2, e2, l2, q2⟩ := laws_szPushSS_sz h.2.2.2.1 y1 p1 (by omega)
  rw [e2, Option.bind_some]
  rcases q2 with q2 | ⟨p2, s2⟩
  · exact ⟨-1, by rw [if_pos (by simpa using q2)], by omega, .inl (by omega)⟩
  rw [if_neg (by simp; omega)]
  obtain ⟨y3, e3, l3, q3⟩ := laws_szInt64SSS_sz h.2.2.2.2.1 y2 p2 (by omega)
  rw [e3, Option.bind_some]
  rcases q3 with q3 | ⟨p3, s3⟩
  · exact ⟨-1, by rw [if_pos (by simpa using q3)], by omega, .inl (by omega)⟩
  rw [if_neg (by simp; omega)]
  obtain ⟨y4, e4, l4, q4⟩ := laws_szInt64SS_sz h.2.2.2.2.2 y3 p3 (by omega)
  rw [e4, Option.bind_some]
  rcases q4 with q4 | ⟨p4, s4⟩
  · exact ⟨-1, by rw [if_pos (by simpa using q4)], by omega, .inl (by omega)⟩
  rw [if_neg (by simp; omega)]
  exact ⟨_, rfl, by omega, .inr ⟨by omega, ⟨trivial, trivial, s1, s2, s3, s4⟩⟩⟩
theorem laws_szStringS_sz {a : List (List UInt8)} (h : (bL bS) a) : SzOk (smL smS) laws_szStringS a :=
  sz_loop (sub := szStr) (S := laws_szStringS_S1 a) (fun left i => szStr_step rfl) (fun _ => rfl) h.len fun x hx => szStr_sz (h.2 x hx)
theorem laws_szStream_sz {a : Stream} (h : bStream a) : SzOk smStream laws_szStream a := by
  intro left h0 h1
  unfold laws_szStream
  obtain ⟨y1, e1, l1, q1⟩ := laws_szChecker_sz h.1 left h0 h1
  rw [e1, Option.bind_some]
  rcases q1 with q1 | ⟨p1, s1⟩
  · exact ⟨-1, by rw [if_pos (by simpa using q1)], by omega, .inl (by omega)⟩
  rw [if_neg (by simp; omega)]
  obtain ⟨y2, e2, l2, q2⟩ := laws_szStringS_sz h.2 y1 p1 (by omega)
  rw [e2, Option.bind_some]
  rcases q2 with q2 | ⟨p2, s2⟩
  · exact ⟨-1, by rw [if_pos (by simpa using q2)], by omega, .inl (by omega)⟩
  rw [if_neg (by simp; omega)]
  exact ⟨_, rfl, by omega, .inr ⟨by omega, ⟨s1, s2⟩⟩⟩
theorem laws_toBoolS_to {a : List Bool} (h : (smL smT) a) : laws_toBoolS a = some a :=
  to_loop (sub := some) (S := laws_toBoolS_S1 a) (fun _ _ => rfl) rfl h.1 (fun _ _ => rfl)
theorem laws_toPush_to {a : Push} (h : smT a) : laws_toPush a = some a := by
  unfold laws_toPush
  rfl
theorem laws_toPushS_to {a : List Push} (h : (smL smT) a) : laws_toPushS a = some a :=
  to_loop (sub := laws_toPush) (S := laws_toPushS_S1 a) (fun _ _ => rfl) rfl h.1 (fun x hx => laws_toPush_to (h.2 x hx))
theorem laws_toPushSS_to {a : List (List Push)} (h : (smL (smL smT)) a) : laws_toPushSS a = some a :=
  to_loop (sub := laws_toPushS) (S := laws_toPushSS_S1 a) (fun _ _ => rfl) rfl h.1 (fun x hx => laws_toPushS_to (h.2 x hx))
theorem laws_toInt64S_to {a : List Int} (h : (smL smT) a) : laws_toInt64S a = some a :=
  to_loop (sub := some) (S := laws_toInt64S_S1 a) (fun _ _ => rfl) rfl h.1 (fun _ _ => rfl)
theorem laws_toInt64SS_to {a : List (List Int)} (h : (smL (smL smT)) a) : laws_toInt64SS a = some a :=
  to_loop (sub := laws_toInt64S) (S := laws_toInt64SS_S1 a) (fun _ _ => rfl) rfl h.1 (fun x hx => laws_toInt64S_to (h.2 x hx))
theorem laws_toInt64SSS_to {a : List (List (List Int))} (h : (smL (smL (smL smT))) a) : laws_toInt64SSS a = some a :=
  to_loop (sub := laws_toInt64SS) (S := laws_toInt64SSS_S1 a) (fun _ _ => rfl) rfl h.1 (fun x hx => laws_toInt64SS_to (h.2 x hx))
theorem laws_toChecker_to {a : Checker} (h : smChecker a) : laws_toChecker a = some a := by
  unfold laws_toChecker
  rw [laws_toBoolS_to h.2.2.1, Option.bind_some]
  rw [laws_toPushSS_to h.2.2.2.1, Option.bind_some]
  rw [laws_toInt64SSS_to h.2.2.2.2.1, Option.bind_some]
  rw [laws_toInt64SS_to h.2.2.2.2.2, Option.bind_some]
theorem laws_toStringS_to {a : List (List UInt8)} (h : (smL smS) a) : laws_toStringS a = some a :=
  to_loop (sub := some) (S := laws_toStringS_S1 a) (fun _ _ => rfl) rfl h.1 (fun _ _ => rfl)
theorem laws_toStream_to {a : Stream} (h : smStream a) : laws_toStream a = some a := by
  unfold laws_toStream
  rw [laws_toChecker_to h.1, Option.bind_some]
  rw [laws_toStringS_to h.2, Option.bind_some]
theorem laws_eqBoolS_eq {a : List Bool} (h : (smL smT) a) : laws_eqBoolS a a = some true :=
  eq_loop (sub := (fun x y => some (x == y))) (S := laws_eqBoolS_S1 a a) (fun _ => rfl) rfl h.1 (fun _ _ => by simp)
theorem laws_eqPush_eq {a : Push} (h : smT a) : laws_eqPush a a = some true := by
  unfold laws_eqPush
  simp []
theorem laws_eqPushS_eq {a : List Push} (h : (smL smT) a) : laws_eqPushS a a = some true :=
  eq_loop (sub := laws_eqPush) (S := laws_eqPushS_S1 a a) (fun _ => rfl) rfl h.1 (fun x hx => laws_eqPush_eq (h.2 x hx))
theorem laws_eqPushSS_eq {a : List (List Push)} (h : (smL (smL smT)) a) : laws_eqPushSS a a = some true :=
  eq_loop (sub := laws_eqPushS) (S := laws_eqPushSS_S1 a a) (fun _ => rfl) rfl h.1 (fun x hx => laws_eqPushS_eq (h.2 x hx))
theorem laws_eqInt64S_eq {a : List Int} (h : (smL smT) a) : laws_eqInt64S a a = some true :=
  eq_loop (sub := (fun x y => some (x == y))) (S := laws_eqInt64S_S1 a a) (fun _ => rfl) rfl h.1 (fun _ _ => by simp)
theorem laws_eqInt64SS_eq {a : List (List Int)} (h : (smL (smL smT)) a) : laws_eqInt64SS a a = some true :=
  eq_loop (sub := laws_eqInt64S) (S := laws_eqInt64SS_S1 a a) (fun _ => rfl) rfl h.1 (fun x hx => laws_eqInt64S_eq (h.2 x hx))
theorem laws_eqInt64SSS_eq {a : List (List (List Int))} (h : (smL (smL (smL smT))) a) : laws_eqInt64SSS a a = some true :=
  eq_loop (sub := laws_eqInt64SS) (S := laws_eqInt64SSS_S1 a a) (fun _ => rfl) rfl h.1 (fun x hx => laws_eqInt64SS_eq (h.2 x hx))
theorem laws_eqChecker_eq {a : Checker} (h : smChecker a) : laws_eqChecker a a = some true := by
  unfold laws_eqChecker
  simp [laws_eqBoolS_eq h.2.2.1, laws_eqPushSS_eq h.2.2.2.1, laws_eqInt64SSS_eq h.2.2.2.2.1, laws_eqInt64SS_eq h.2.2.2.2.2]
theorem laws_eqStringS_eq {a : List (List UInt8)} (h : (smL smS) a) : laws_eqStringS a a = some true :=
  eq_loop (sub := (fun x y => some (x == y))) (S := laws_eqStringS_S1 a a) (fun _ => rfl) rfl h.1 (fun _ _ => by simp)
theorem laws_eqStream_eq {a : Stream} (h : smStream a) : laws_eqStream a a = some true := by
  unfold laws_eqStream
  simp [laws_eqChecker_eq h.1, laws_eqStringS_eq h.2]
end Go.Proofs.Ytolbkojnnofnaaa.law
namespace Go.Proofs.Ytolbkojnnofnaaa.law
open Go Go.Proofs Ae
set_option maxRecDepth 100000

-- ---- words
theorem sym_ix (x : UInt8) : spec_l01Symbol (x.toNat : Int) = some (fst? (· == x) [40, 91, 41, 93, 97, 98]) := by
  unfold spec_l01Symbol
  refine loop_find (l := ([40, 91, 41, 93, 97, 98] : List UInt8)) (· == x) (loop_R (by rfl)) fun i y hi => ?_
  have hlt : i < 6 := (List.getElem?_eq_some_iff.1 hi).1
  unfold spec_l01Symbol_S1
  rw [if_pos (decide_eq_true (by omega)), chr_nat hi, Option.bind_some, w1 hlt (by decide), u8_eq]
theorem ix_ix (x : UInt8) : strings_IndexByte [40, 91, 41, 93, 97, 98] (x.toNat : Int) = some (fst? (· == x) [40, 91, 41, 93, 97, 98]) := by
  unfold strings_IndexByte internal_stringslite_IndexByte ixByteM ixByte
  rw [indexByte_fst]
  simp
theorem word_S (w : List UInt8) : impl_ValidWord_S1 w = spec_l01Ok_S1 w := by
  funext i
  unfold impl_ValidWord_S1 spec_l01Ok_S1
  split
  · refine bindC fun c hc => ?_
    obtain ⟨x, rfl⟩ := chr_some hc
    rw [ix_ix, sym_ix]
  · rfl
theorem word_eq (w : List UInt8) : impl_ValidWord w = spec_l01Ok w := by
  unfold impl_ValidWord spec_l01Ok; rw [word_S]
theorem word_tot {w : List UInt8} (h : w.length ≤ 9223372036854775807) : ∃ b, spec_l01Ok w = some b := by
  unfold spec_l01Ok
  obtain ⟨r, h, _⟩ := loop_tot (step := spec_l01Ok_S1 w) (n := w.length) (fun _ => True) ⟨_, loop_R (by unfold spec_l01Ok_S1; rw [if_neg (by simp)]; rfl), trivial⟩ fun i hi => by
    unfold spec_l01Ok_S1
    rw [if_pos (ltT hi), chr_nat' hi, Option.bind_some, sym_ix, Option.bind_some, w1 hi h]
    split
    · exact .inr ⟨_, rfl, trivial⟩
    · exact .inl rfl
  exact ⟨r, h⟩

-- ---- lists of states
def okL (l : List Int) (k n : Int) : Bool := ((l.length : Int) == k) && l.all fun x => decide (x ≥ 0) && decide (x ≤ IntKind.wrap .i64 (n - 1))
theorem specL {l : List Int} (h : l.length ≤ 1048576) (k n : Int) : spec_l02List l k n = some (okL l k n) := by
  unfold spec_l02List okL
  by_cases hk : (l.length : Int) = k
  · rw [if_neg (by simpa using hk), show ((l.length : Int) == k) = true by simpa using hk, Bool.true_and]
    rw [loop_allL (l := l) (p := fun x => decide (x ≥ 0) && decide (x ≤ IntKind.wrap .i64 (n - 1))) (rt := some true) (rf := false) (loop_R (by unfold spec_l02List_S1; rw [if_neg (by simp)]; rfl)) fun i x hx => by
      have hlt := (List.getElem?_eq_some_iff.1 hx).1
      unfold spec_l02List_S1
      rw [if_pos (ltT hlt), ix_lit hx, Option.bind_some, w1 hlt (by omega)]
      unfold spec_l00In
      rw [Option.bind_some]
      cases (decide (x ≥ 0) && decide (x ≤ IntKind.i64.wrap (n - 1))) <;> rfl]
    split <;> simp_all
  · rw [if_pos (by simpa using hk), show ((l.length : Int) == k) = false by simpa using hk, Bool.false_and]
theorem containsI {l : List Int} (h : l.length ≤ 1048576) (f : Int → Option Bool) (p : Int → Bool) (hf : ∀ x ∈ l, f x = some (p x)) : slices_ContainsFunc_sint64_int64 l f = some (l.any p) := by
  unfold slices_ContainsFunc_sint64_int64 slices_IndexFunc_sint64_int64
  rw [loop_find (l := l) p (loop_R (by unfold slices_IndexFunc_sint64_int64_S1; rw [if_neg (by simp)]; rfl)) fun i x hx => by
    have hlt := (List.getElem?_eq_some_iff.1 hx).1
    unfold slices_IndexFunc_sint64_int64_S1
    rw [if_pos (ltT hlt), ix_lit hx, Option.bind_some, hf x (List.mem_of_getElem? hx), Option.bind_some, w1 hlt (by omega)]]
  rw [Option.bind_some, fst?_any]
theorem containsS {l : List (List UInt8)} (h : l.length ≤ 1048576) (f : List UInt8 → Option Bool) (p : List UInt8 → Bool) (hf : ∀ x ∈ l, f x = some (p x)) : slices_ContainsFunc_sstring_string l f = some (l.any p) := by
  unfold slices_ContainsFunc_sstring_string slices_IndexFunc_sstring_string
  rw [loop_find (l := l) p (loop_R (by unfold slices_IndexFunc_sstring_string_S1; rw [if_neg (by simp)]; rfl)) fun i x hx => by
    have hlt := (List.getElem?_eq_some_iff.1 hx).1
    unfold slices_IndexFunc_sstring_string_S1
    rw [if_pos (ltT hlt), ix_lit hx, Option.bind_some, hf x (List.mem_of_getElem? hx), Option.bind_some, w1 hlt (by omega)]]
  rw [Option.bind_some, fst?_any]
theorem implL {l : List Int} (h : l.length ≤ 1048576) (k : Int) (c : Checker) : impl_ValidChecker_1 l k c = some (okL l k c.Accept.length) := by
  unfold impl_ValidChecker_1
  rw [containsI h (fun x => impl_ValidChecker_1_1 x c) (fun x => !(decide (x ≥ 0) && decide (x ≤ IntKind.wrap .i64 ((c.Accept.length : Int) - 1)))) fun x _ => rfl]
  unfold okL impl_size_int64
  rw [Option.bind_some, Option.bind_some, ite_some, Option.bind_some, ite_and]
  congr 2
  induction l with
  | nil => rfl
  | cons a l ih =>
    rw [List.any_cons, List.all_cons, Bool.not_or, Bool.not_not, ih (by simp at h; omega)]

-- ---- checkers
theorem chk_S2 {c : Checker} (h : smChecker c) (t : Int) : impl_ValidChecker_S2 c t = spec_l02Ok_w0_7_S2 c t := by
  funext k
  unfold impl_ValidChecker_S2 spec_l02Ok_w0_7_S2
  split
  · refine bindC fun x hx => bindC fun p hp => ?_
    unfold impl_Checker_isState impl_Checker_isMark impl_size_bool impl_within spec_l00In
    simp only [Option.bind_some, ite_some, ite_or, hx, hp]
    split
    · rfl
    · congr 1
      refine bindC fun r hr => bindC fun l hl => ?_
      have hm := ((h.2.2.2.2.1).2 r (ix_mem hr)).2 l (ix_mem hl)
      rw [implL hm.1, specL hm.1]
  · rfl
theorem chk_S1 {c : Checker} (h : smChecker c) : impl_ValidChecker_S1 c (c.Accept.length : Int) = spec_l02Ok_w0_7_S1 c := by
  funext k
  unfold impl_ValidChecker_S1 spec_l02Ok_w0_7_S1
  simp only [chk_S2 h]
  split
  · refine bindC fun x hx => ?_
    congr 1
    funext b
    congr 1
    split
    · rfl
    · refine bindC fun l hl => ?_
      have hm := (h.2.2.2.2.2).2 l (ix_mem hl)
      rw [implL hm.1, specL hm.1]
  · rfl
theorem chk_eq {c : Checker} (h : smChecker c) : impl_ValidChecker c = spec_l02Ok_w0_7 c := by
  unfold impl_ValidChecker spec_l02Ok_w0_7
  unfold impl_Checker_isState impl_size_bool impl_within spec_l00In impl_size_simpl_Push impl_size_s_int64 impl_size_sint64
  simp only [Option.bind_some, ite_some, ite_or, chk_S1 h]
theorem chk_tot {c : Checker} (h : smChecker c) : ∃ b, spec_l02Ok_w0_7 c = some b := by
  unfold spec_l02Ok_w0_7 spec_l00In
  simp only [Option.bind_some, ite_some, ite_or]
  split
  · exact ⟨_, rfl⟩
  · rename_i hg
    simp only [Bool.or_eq_true, not_or, bne_iff_ne, ne_eq, Decidable.not_not, Bool.not_eq_true] at hg
    obtain ⟨⟨⟨_, hC⟩, hR⟩, hI⟩ := hg
    have hA := h.2.2.1.1
    obtain ⟨r, h1, _⟩ := loop_tot (step := spec_l02Ok_w0_7_S1 c) (n := c.Accept.length) (fun _ => True) ⟨_, loop_R (by unfold spec_l02Ok_w0_7_S1; rw [if_neg (by simp)]; rfl), trivial⟩ fun i hi => by
      unfold spec_l02Ok_w0_7_S1
      have hc : i < c.Call.length := by omega
      have hr : i < c.Return.length := by omega
      have hn : i < c.Inner.length := by omega
      have hm := h.2.2.2.2.2.2 _ (List.getElem_mem hn)
      rw [if_pos (ltT hi), ix_some hc, Option.bind_some, ix_some hr, Option.bind_some, ite_some, Option.bind_some, ite_or, ix_some hn, Option.bind_some, specL hm.1, Option.bind_some, ite_some, Option.bind_some, ite_or]
      split
      · exact .inr ⟨_, rfl, trivial⟩
      · rename_i hg
        simp only [Bool.or_eq_true, not_or, bne_iff_ne, ne_eq, Decidable.not_not, Bool.not_eq_true] at hg
        obtain ⟨⟨h2, h3⟩, _⟩ := hg
        obtain ⟨r, h4, h5⟩ := loop_tot (step := spec_l02Ok_w0_7_S2 c i) (n := 2) (fun r => r = .inl ((i + 1 : Nat) : Int) ∨ r = .inr false) ⟨_, loop_R (by unfold spec_l02Ok_w0_7_S2; rw [if_neg (by simp)]; rfl), .inl (by rw [w1 hi (by omega)])⟩ fun k hk => by
          unfold spec_l02Ok_w0_7_S2
          have hmr := (h.2.2.2.2.1.2 _ (List.getElem_mem hr)).2 (c.Return[i][k]'(by omega)) (List.getElem_mem _)
          have e1 : ix c.Call (i : Int) = some c.Call[i] := ix_some hc
          have e2 : ix c.Call[i] (k : Int) = some (c.Call[i][k]'(by omega)) := ix_some _
          have e3 : ix c.Return (i : Int) = some c.Return[i] := ix_some hr
          have e4 : ix c.Return[i] (k : Int) = some (c.Return[i][k]'(by omega)) := ix_some _
          unfold spec_l00In
          simp only [if_pos (decide_eq_true (show (k : Int) < 2 by omega)), e1, e2, e3, e4, Option.bind_some, specL hmr.1, w1 hk (by decide), ite_some, ite_or]
          split
          · exact .inr ⟨_, rfl, .inr rfl⟩
          · exact .inl rfl
        rw [h4]
        rcases h5 with rfl | rfl
        · exact .inl rfl
        · exact .inr ⟨_, rfl, trivial⟩
    exact ⟨r, h1⟩
end Go.Proofs.Ytolbkojnnofnaaa.law
namespace Go.Proofs.Ytolbkojnnofnaaa.law
open Go Go.Proofs Ae
set_option maxRecDepth 100000

theorem whole_eq {l : List (List UInt8)} (h : l.length ≤ 20) (hb : ∀ x ∈ l, x.length ≤ 1048576) : spec_l08Whole l = some l.flatten := by
  have key : ∀ k (i : Nat), i + k = l.length → loop (spec_l08Whole_S1 l) ((l.take i).flatten, (i : Int)) = some l.flatten := by
    intro k
    induction k with
    | zero =>
      intro i hi
      have hi' : i = l.length := by omega
      refine loop_R ?_
      unfold spec_l08Whole_S1
      simp only
      rw [hi', if_neg (by simp), List.take_length]
      rfl
    | succ k ih =>
      intro i hi
      have hlt : i < l.length := by omega
      have h1 := flatS_len (l := l.take i) (m := 1048576) fun x hx => hb x (List.mem_of_mem_take hx)
      have h2 := hb l[i] (List.getElem_mem hlt)
      have hst : spec_l08Whole_S1 l ((l.take i).flatten, (i : Int)) = some (.inl ((l.take (i + 1)).flatten, ((i + 1 : Nat) : Int))) := by
        unfold spec_l08Whole_S1
        simp only
        rw [if_pos (ltT hlt), ix_some hlt, Option.bind_some]
        unfold app
        rw [List.length_take, Nat.min_eq_left (Nat.le_of_lt hlt)] at h1
        rw [if_pos (by unfold LIM; omega), Option.bind_some, w1 hlt (by omega), List.take_add_one, List.getElem?_eq_getElem hlt, List.flatten_append, show (some l[i]).toList.flatten = l[i] by simp]
      rw [loop_L hst]
      exact ih (i + 1) (by omega)
  exact key l.length 0 (by omega)
theorem join_eq {l : List (List UInt8)} (h : l.length ≤ 20) (hb : ∀ x ∈ l, x.length ≤ 1048576) : joinS l [] = some l.flatten := by
  have := flatS_len (l := l) (m := 1048576) hb
  unfold joinS
  rw [join_flat, if_pos ⟨by omega, by omega⟩]

/-- What a stream has to be. -/
theorem stream_ok {v : Stream} (h : smStream v) : ∃ b, spec_ValidStream v = some b ∧ impl_ValidStream v = some b ∧ spec_l08Ok v = some b ∧ (b = true → v.Pieces.length ≤ 20) := by
  obtain ⟨c, hc⟩ := chk_tot h.1
  unfold spec_ValidStream spec_l08Ok impl_ValidStream impl_size_string impl_within spec_l00In
  simp only [hc, chk_eq h.1, Option.bind_some, ite_some, ite_or, ite_and]
  cases c with
  | false => exact ⟨false, by simp, by simp, by simp, by simp⟩
  | true =>
    have hpl := h.2.1
    cases hr : (decide ((v.Pieces.length : Int) ≥ 1) && decide ((v.Pieces.length : Int) ≤ 20)) with
    | false => exact ⟨false, by simp, by simp, by simp, by simp⟩
    | true =>
      have h20 : v.Pieces.length ≤ 20 := by
        rw [Bool.and_eq_true, decide_eq_true_eq, decide_eq_true_eq] at hr; omega
      have hw : ∀ x : List UInt8, x ∈ v.Pieces → spec_l01Ok x = some ((spec_l01Ok x).getD false) := fun x hx => by
        obtain ⟨b, hb⟩ := word_tot (w := x) (by have := h.2.2 x hx; unfold smS at this; omega)
        rw [hb]; rfl
      have hbd : ∀ x ∈ v.Pieces, x.length ≤ 1048576 := h.2.2
      have hfl := flatS_len (l := v.Pieces) (m := 1048576) hbd
      obtain ⟨bw, hbw⟩ := word_tot (w := v.Pieces.flatten) (by omega)
      have hlp := loop_allL (l := v.Pieces) (step := spec_l08Ok_S1 v) (p := fun x => (spec_l01Ok x).getD false) (rt := some bw) (rf := false) (loop_R (by
        unfold spec_l08Ok_S1 spec_l08Ok_J1
        rw [if_neg (by simp), whole_eq h20 hbd, Option.bind_some, hbw]; rfl)) fun i x hx => by
        have hlt := (List.getElem?_eq_some_iff.1 hx).1
        unfold spec_l08Ok_S1
        rw [if_pos (ltT hlt), ix_lit hx, Option.bind_some, hw x (List.mem_of_getElem? hx), Option.bind_some, w1 hlt (by omega)]
        cases (spec_l01Ok x).getD false <;> rfl
      have hct := containsS (l := v.Pieces) (by omega) (fun x => impl_ValidStream_1 x) (fun x => !((spec_l01Ok x).getD false)) fun x hx => by
        unfold impl_ValidStream_1; rw [word_eq, hw x hx]; rfl
      have hna : (!(v.Pieces.any fun x => !((spec_l01Ok x).getD false))) = v.Pieces.all fun x => (spec_l01Ok x).getD false := by
        rw [List.all_eq_not_any_not]
      simp only [Bool.not_true, Bool.or_self, Bool.false_eq_true, if_false, if_true, hlp, hct, Option.bind_some, hna, join_eq h20 hbd, word_eq, hbw, Bool.and_self, ite_some]
      refine ⟨(v.Pieces.all fun x => (spec_l01Ok x).getD false) && bw, ?_, ?_, ?_, fun _ => h20⟩
      all_goals cases (v.Pieces.all fun x => (spec_l01Ok x).getD false) <;> rfl

theorem law_ValidStream {v : Stream} (h : bStream v) : laws_FnExactValidStream v = some true := by
  unfold laws_FnExactValidStream
  obtain ⟨r, h1, h2, h3⟩ := laws_szStream_sz h 1048576 (by omega) (by omega)
  rw [h1, Option.bind_some]
  split
  · rfl
  · rename_i hr
    have hs : smStream v := by
      rcases h3 with h3 | h3
      · exact absurd (decide_eq_true h3) hr
      · exact h3.2
    obtain ⟨b, k1, k2, _, _⟩ := stream_ok hs
    simp only [laws_toStream_to hs, Option.bind_some, k1, k2, laws_eqStream_eq hs]
    simp
theorem law_WholeOf {v : Stream} (h : bStream v) : laws_FnExactWholeOf v = some true := by
  unfold laws_FnExactWholeOf
  obtain ⟨r, h1, h2, h3⟩ := laws_szStream_sz h 1048576 (by omega) (by omega)
  rw [h1, Option.bind_some]
  split
  · rfl
  · rename_i hr
    have hs : smStream v := by
      rcases h3 with h3 | h3
      · exact absurd (decide_eq_true h3) hr
      · exact h3.2
    obtain ⟨b, k1, k2, k3, k4⟩ := stream_ok hs
    have hd : spec_WholeOf v = some (if b then v.Pieces.flatten else [], if b then 0 else 1) := by
      unfold spec_WholeOf
      rw [k3, Option.bind_some]
      cases b with
      | false => rfl
      | true => simp [whole_eq (k4 rfl) hs.2.2]
    have hi : impl_WholeOf v = some (if b then v.Pieces.flatten else [], if b then 0 else 1) := by
      unfold impl_WholeOf
      rw [k2, Option.bind_some]
      cases b with
      | false => rfl
      | true => simp [join_eq (k4 rfl) hs.2.2]
    simp only [laws_toStream_to hs, Option.bind_some, hd, hi, laws_eqStream_eq hs]
    simp
end Go.Proofs.Ytolbkojnnofnaaa.law
