import Derived.Test.YtolbkojnnofnaaaDoorAeD
import Derived.Lib.ItoaLen
set_option linter.unusedVariables false
set_option linter.unusedSimpArgs false
namespace Go.Proofs.YtolbkojnnofnaaaDoor.law
open Go Go.Proofs Ae
set_option maxRecDepth 100000
set_option linter.unusedVariables false
noncomputable def szStr (x : List UInt8) (left : Int) : Option Int := some (IntKind.wrap .i64 (left - (x.length : Int)))
theorem szStr_step {o p : Option ((Int × Int) ⊕ Int)} (h : o = p) : o = p := h
theorem szStr_sz {x : List UInt8} (h : bS x) : SzOk smS szStr x := by
  intro left h0 h1
  have := bS.len h
  refine ⟨_, rfl, ?_, ?_⟩
  · rw [w64 (by omega) (by omega)]; omega
  · rw [w64 (by omega) (by omega)]
    by_cases h : left - (x.length : Int) < 0
    · exact .inl h
    · exact .inr ⟨by omega, by unfold smS; omega⟩
theorem laws_toDeed_to {a : Deed} (h : smT a) : laws_toDeed a = some a := by
  unfold laws_toDeed
  rfl
end Go.Proofs.YtolbkojnnofnaaaDoor.law
namespace Go.Proofs.YtolbkojnnofnaaaDoor.law
open Go Go.Proofs Ae
set_option maxRecDepth 100000

/-- A byte of a digit. -/
theorem digit (r : Nat) (h : r < 10) : bytesOf [IntKind.wrap .u8 (IntKind.wrap .i64 (48 + (r : Int)))] = [UInt8.ofNat (48 + r)] := by
  rw [w64 (by omega) (by omega)]
  have h1 : IntKind.wrap .u8 (48 + (r : Int)) = ((48 + r : Nat) : Int) := by
    unfold IntKind.wrap
    simp [IntKind.bits, IntKind.signed]
    omega
  rw [h1]
  rfl

theorem dd_len (u : Nat) (h : u ≤ 999) : (Lib.decDigits u).length ≤ 21 := by
  have := Lib.itoa_length_le (u : Int) (by omega) (by omega)
  unfold Lib.itoa at this
  rw [if_neg (by omega)] at this
  simpa using this

theorem dec_N : ∀ (m u : Nat), u ≤ m → u ≤ 999 → spec_Decimal_N (m + 1) (u : Int) = some (Lib.decDigits u)
  | m, u, hm, hu => by
    show spec_Decimal_B (spec_Decimal_N m) (u : Int) = _
    unfold spec_Decimal_B
    by_cases h : u < 10
    · rw [if_neg (by simp; omega), Lib.decDigits, dif_pos h, digit u h]
    · rw [if_pos (by simp; omega)]
      have q : quoI .i64 (u : Int) 10 = some ((u / 10 : Nat) : Int) := by
        unfold quoI
        rw [if_neg (by decide), Int.tdiv_eq_ediv_of_nonneg (by omega), w64 (by omega) (by omega)]
        rfl
      have r : remI .i64 (u : Int) 10 = some ((u % 10 : Nat) : Int) := by
        unfold remI
        rw [if_neg (by decide), Int.tmod_eq_emod_of_nonneg (by omega)]
        rfl
      obtain ⟨m, rfl⟩ : ∃ j, m = j + 1 := ⟨m - 1, by omega⟩
      · rw [q, Option.bind_some, dec_N m (u / 10) (by omega) (by omega), Option.bind_some, r, Option.bind_some, digit (u % 10) (by omega)]
        have hl := dd_len (u / 10) (by omega)
        unfold app
        rw [if_pos (by simp [LIM]; omega), Option.bind_some]
        conv => rhs; rw [Lib.decDigits, dif_neg h]

theorem dec (n : Int) (h0 : 0 ≤ n) (h1 : n ≤ 999) : spec_Decimal n = some (Lib.itoa n) := by
  obtain ⟨u, rfl⟩ := Int.eq_ofNat_of_zero_le h0
  unfold spec_Decimal Lib.itoa
  rw [if_neg (by omega)]
  exact dec_N 999 u (by omega) (by omega)

theorem idec (n : Int) (h0 : 0 ≤ n) (h1 : n ≤ 999) : impl_decimal n = some (Lib.itoa n) := by
  unfold impl_decimal fmtM
  rw [if_pos ⟨rfl, by omega, by omega⟩]
  rfl

theorem row_loop {step : (List UInt8 × Int) → Option ((List UInt8 × Int) ⊕ List UInt8)} {l : List Int} (hl : l.length ≤ 2) (ho : ∀ x ∈ l, 0 ≤ x ∧ x ≤ 999)
    (hs : ∀ (w : List UInt8) (i : Nat) x, l[i]? = some x → w.length ≤ 100 → step (w, (i : Int)) = some (.inl (w ++ 32 :: Lib.itoa x, ((i + 1 : Nat) : Int)))) (hend : ∀ w, step (w, (l.length : Int)) = some (.inr w)) :
    ∀ (k i : Nat) (w : List UInt8), i + k = l.length → w.length + 22 * k ≤ 100 → loop step (w, (i : Int)) = some (w ++ (l.drop i).flatMap fun x => 32 :: Lib.itoa x)
  | 0, i, w, hk, _ => by
    obtain rfl : i = l.length := by omega
    rw [loop_R (hend w)]; simp
  | k + 1, i, w, hk, hw => by
    have hi : i < l.length := by omega
    rw [loop_L (hs w i l[i] (List.getElem?_eq_getElem hi) (by omega))]
    have h1 := ho l[i] (List.getElem_mem hi)
    have h2 := Lib.itoa_length_le l[i] (by omega) (by omega)
    rw [row_loop hl ho hs hend k (i + 1) _ (by omega) (by simp; omega)]
    have e : l.drop i = l[i] :: l.drop (i + 1) := List.drop_eq_getElem_cons hi
    rw [e, List.flatMap_cons]
    simp only [List.append_assoc, List.cons_append]

theorem app_ok {α : Type} {x y : List α} (h : x.length + y.length ≤ 1000) : app x y = some (x ++ y) := by
  unfold app; rw [if_pos (by simp [LIM]; omega)]

theorem srow {l : List Int} (hl : l.length ≤ 2) (ho : ∀ x ∈ l, 0 ≤ x ∧ x ≤ 999) (w : List UInt8) (hw : w.length ≤ 10) : spec_l02Row w l = some (w ++ l.flatMap fun x => 32 :: Lib.itoa x) := by
  have := row_loop (step := spec_l02Row_S1 l) hl ho (fun w i x hx hlw => by
    have hi : i < l.length := (List.getElem?_eq_some_iff.1 hx).1
    have h1 := ho x (List.mem_of_getElem? hx)
    have h2 := Lib.itoa_length_le x (by omega) (by omega)
    unfold spec_l02Row_S1
    simp only
    rw [if_pos (ltT hi), ix_lit hx, Option.bind_some, dec x h1.1 h1.2, Option.bind_some, app_ok (by simp; omega), Option.bind_some, app_ok (by simp; omega), Option.bind_some, w1 hi (by omega)]
    rfl) (fun w => by
    unfold spec_l02Row_S1
    simp only
    rw [if_neg (by simp)]
    rfl) l.length 0 w (by omega) (by omega)
  simpa [spec_l02Row] using this

theorem irow {l : List Int} (hl : l.length ≤ 2) (ho : ∀ x ∈ l, 0 ≤ x ∧ x ≤ 999) (w : List UInt8) (hw : w.length ≤ 10) : loop (impl_DeedText_S1 l) (w, 0) = some (w ++ l.flatMap fun x => 32 :: Lib.itoa x) := by
  have := row_loop (step := impl_DeedText_S1 l) hl ho (fun w i x hx hlw => by
    have hi : i < l.length := (List.getElem?_eq_some_iff.1 hx).1
    have h1 := ho x (List.mem_of_getElem? hx)
    have h2 := Lib.itoa_length_le x (by omega) (by omega)
    unfold impl_DeedText_S1
    simp only
    rw [if_pos (ltT hi), ix_lit hx, Option.bind_some, idec x h1.1 h1.2, Option.bind_some, app_ok (by simp; omega), Option.bind_some, app_ok (by simp; omega), Option.bind_some, w1 hi (by omega)]
    rfl) (fun w => by
    unfold impl_DeedText_S1
    simp only
    rw [if_neg (by simp)]
    rfl) l.length 0 w (by omega) (by omega)
  simpa using this

theorem cut_eq {A B : Int} (hA : 0 ≤ A ∧ A ≤ 999) (hB : 0 ≤ B ∧ B ≤ 999) (w : List UInt8) (t : Int) (hw : w.length ≤ 10) (h0 : 0 ≤ t) (h2 : t ≤ 2) :
    ∃ r, ((cut ([A, B] : List Int) 0 t).bind fun l => (spec_l02Row w l).bind fun y => some y) = some r ∧ ((cut ([A, B] : List Int) 0 t).bind fun l => loop (impl_DeedText_S1 l) (w, 0)) = some r := by
  have hc : cut ([A, B] : List Int) 0 t = some (([A, B] : List Int).take t.toNat) := by
    unfold cut
    rw [if_pos ⟨by omega, h0, by simpa using h2⟩]; simp
  have hl : (([A, B] : List Int).take t.toNat).length ≤ 2 := by simp; omega
  have ho : ∀ x ∈ ([A, B] : List Int).take t.toNat, 0 ≤ x ∧ x ≤ 999 := by
    intro x hx
    have := List.mem_of_mem_take hx
    simp at this
    rcases this with rfl | rfl
    · exact hA
    · exact hB
  rw [hc, Option.bind_some, Option.bind_some, srow hl ho w hw, irow hl ho w hw]
  exact ⟨_, rfl, rfl⟩

/-- Neither text of what is no deed. -/
theorem no_deed {d : Deed} (h : spec_l08Deed d = some false) (k : impl_ValidDeed d = some false) : ∃ r, spec_DeedText d = some r ∧ impl_DeedText d = some r := by
  unfold spec_DeedText impl_DeedText
  rw [h, k]
  exact ⟨[], rfl, rfl⟩

theorem yes_deed {A B : Int} (hA : 0 ≤ A ∧ A ≤ 999) (hB : 0 ≤ B ∧ B ≤ 999) (K : Int) (w : List UInt8) (t : Int) (hw : w.length ≤ 10) (h0 : 0 ≤ t) (h2 : t ≤ 2) {v : Bool}
    (h : spec_l08Deed ⟨K, A, B⟩ = some v) (k : impl_ValidDeed ⟨K, A, B⟩ = some v) (hword : impl_deedWord K = some (w, t)) (ha : ∀ y, spec_l08Words = some y → ix y.1 K = some w ∧ ix y.2 K = some t) :
    ∃ r, spec_DeedText ⟨K, A, B⟩ = some r ∧ impl_DeedText ⟨K, A, B⟩ = some r := by
  cases v with
  | false => exact no_deed h k
  | true =>
    obtain ⟨r, h1, h2⟩ := cut_eq hA hB w t hw h0 h2
    refine ⟨r, ?_, ?_⟩
    · unfold spec_DeedText
      rw [h]
      obtain ⟨e1, e2⟩ := ha _ rfl
      simp only [Option.bind_some, Bool.not_true, Bool.false_eq_true, if_false]
      unfold spec_l08Words
      simp only [Option.bind_some]
      rw [e1, Option.bind_some, e2, Option.bind_some]
      exact h1
    · unfold impl_DeedText
      rw [k]
      simp only [Option.bind_some, Bool.not_true, Bool.false_eq_true, if_false]
      rw [hword, Option.bind_some]
      exact h2

theorem law_DeedText {d : Deed} (hb : bDeed d) : laws_FnExactDeedText d = some true := by
  obtain ⟨K, A, B⟩ := d
  have key : ∃ r, spec_DeedText ⟨K, A, B⟩ = some r ∧ impl_DeedText ⟨K, A, B⟩ = some r := by
    by_cases hA : 0 ≤ A ∧ A ≤ 999
    · by_cases hB : 0 ≤ B ∧ B ≤ 999
      · by_cases hK : 1 ≤ K ∧ K ≤ 6
        · have sp : ∀ (K t : Int), 1 ≤ K → K ≤ 6 → (∀ y, spec_l08Words = some y → ix y.2 K = some t) → spec_l08Deed ⟨K, A, B⟩ = some ((decide (t > 0) || A == 0) && (decide (t > 1) || B == 0)) := by
            intro K t k1 k2 ht
            simp only [spec_l08Deed, spec_l00In, Option.bind_some, ge_iff_le, hA.1, hA.2, hB.1, hB.2, k1, k2, decide_true, Bool.and_self, Bool.not_true, if_false, Bool.false_eq_true]
            unfold spec_l08Words
            simp only [Option.bind_some]
            rw [ht _ rfl, Option.bind_some, Option.bind_some]
            cases h1 : (decide (t > 0) || A == 0) <;> rfl
          have im : ∀ (K t : Int) (w : List UInt8), impl_deedWord K = some (w, t) → w ≠ [] → impl_ValidDeed ⟨K, A, B⟩ = some ((decide (t > 0) || A == 0) && (decide (t > 1) || B == 0)) := by
            intro K t w hw hne
            simp only [impl_ValidDeed, hw, impl_within, Option.bind_some, ge_iff_le, hA.1, hA.2, hB.1, hB.2, decide_true, Bool.and_self, Bool.true_and]
            simp [hne]
          have all : ∀ (K : Int) (w : List UInt8) (t : Int), 1 ≤ K → K ≤ 6 → w.length ≤ 10 → w ≠ [] → 0 ≤ t → t ≤ 2 → impl_deedWord K = some (w, t) → (∀ y, spec_l08Words = some y → ix y.1 K = some w ∧ ix y.2 K = some t) →
              ∃ r, spec_DeedText ⟨K, A, B⟩ = some r ∧ impl_DeedText ⟨K, A, B⟩ = some r := fun K w t k1 k2 hw hne h0 h2 hword ha =>
            yes_deed hA hB K w t hw h0 h2 (sp K t k1 k2 fun y hy => (ha y hy).2) (im K t w hword hne) hword ha
          have hK' : K = 1 ∨ K = 2 ∨ K = 3 ∨ K = 4 ∨ K = 5 ∨ K = 6 := by omega
          rcases hK' with rfl | rfl | rfl | rfl | rfl | rfl
          · exact all _ [115, 101, 110, 100] 2 (by decide) (by decide) (by decide) (by decide) (by decide) (by decide) (by decide +kernel) (fun y hy => by cases hy; exact ⟨rfl, rfl⟩)
          · exact all _ [100, 101, 108, 105, 118, 101, 114] 1 (by decide) (by decide) (by decide) (by decide) (by decide) (by decide) (by decide +kernel) (fun y hy => by cases hy; exact ⟨rfl, rfl⟩)
          · exact all _ [99, 111, 112, 121] 1 (by decide) (by decide) (by decide) (by decide) (by decide) (by decide) (by decide +kernel) (fun y hy => by cases hy; exact ⟨rfl, rfl⟩)
          · exact all _ [100, 114, 111, 112] 1 (by decide) (by decide) (by decide) (by decide) (by decide) (by decide) (by decide +kernel) (fun y hy => by cases hy; exact ⟨rfl, rfl⟩)
          · exact all _ [115, 97, 118, 101] 0 (by decide) (by decide) (by decide) (by decide) (by decide) (by decide) (by decide +kernel) (fun y hy => by cases hy; exact ⟨rfl, rfl⟩)
          · exact all _ [99, 114, 97, 115, 104] 0 (by decide) (by decide) (by decide) (by decide) (by decide) (by decide) (by decide +kernel) (fun y hy => by cases hy; exact ⟨rfl, rfl⟩)
        · have h1 : (decide (K ≥ 1) && decide (K ≤ 6)) = false := by
            rw [Bool.and_eq_false_iff]; simp; omega
          refine no_deed ?_ ?_
          · simp [spec_l08Deed, spec_l00In, h1]
          · have e : ∀ j : Int, 1 ≤ j → j ≤ 6 → (K == j) = false := fun j j1 j2 => by simp; omega
            simp [impl_ValidDeed, impl_deedWord, e]
      · have h1 : (decide (B ≥ 0) && decide (B ≤ 999)) = false := by
          rw [Bool.and_eq_false_iff]; simp; omega
        refine no_deed ?_ ?_
        · unfold spec_l08Deed spec_l00In
          simp only [h1, Option.bind_some]
          cases (!(decide (K ≥ 1) && decide (K ≤ 6))) <;> cases (!(decide (A ≥ 0) && decide (A ≤ 999))) <;> rfl
        · unfold impl_ValidDeed
          obtain ⟨y, hy⟩ : ∃ y, impl_deedWord K = some y := by unfold impl_deedWord; (repeat' split) <;> exact ⟨_, rfl⟩
          simp only [hy, impl_within, h1, Option.bind_some]
          cases (!(y.1 == ([] : List UInt8))) <;> cases (decide (A ≥ 0) && decide (A ≤ 999)) <;> rfl
    · have h1 : (decide (A ≥ 0) && decide (A ≤ 999)) = false := by
        rw [Bool.and_eq_false_iff]; simp; omega
      refine no_deed ?_ ?_
      · unfold spec_l08Deed spec_l00In
        simp only [h1, Option.bind_some]
        cases (!(decide (K ≥ 1) && decide (K ≤ 6))) <;> rfl
      · unfold impl_ValidDeed
        obtain ⟨y, hy⟩ : ∃ y, impl_deedWord K = some y := by unfold impl_deedWord; (repeat' split) <;> exact ⟨_, rfl⟩
        simp only [hy, impl_within, h1, Option.bind_some]
        cases (!(y.1 == ([] : List UInt8))) <;> rfl
  obtain ⟨r, h1, h2⟩ := key
  unfold laws_FnExactDeedText laws_toDeed
  simp [h1, h2]
end Go.Proofs.YtolbkojnnofnaaaDoor.law
