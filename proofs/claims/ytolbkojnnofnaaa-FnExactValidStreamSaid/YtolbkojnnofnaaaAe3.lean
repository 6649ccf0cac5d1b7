/- The plain side: loops, lists, and how plain values stand for abstract ones. -/
import Derived.Test.YtolbkojnnofnaaaAe2
import Derived.Lib.Bytealg
import Derived.Lib.Strings
import Derived.Lib.Join
import Derived.Deep.Slices
import Derived.IntWalk
import Derived.Carry
set_option linter.unusedVariables false
namespace Ae
open Go

-- ---- plain

/-- A loop, with so many rounds. -/
def loopN {σ ρ : Type} (step : σ → Option (σ ⊕ ρ)) : Nat → σ → Option ρ
  | 0, _ => none
  | n + 1, s => match step s with | none => none | some (.inl s') => loopN step n s' | some (.inr r) => some r

theorem loopN_succ {σ ρ : Type} {step : σ → Option (σ ⊕ ρ)} : ∀ {n : Nat} {s : σ} {r : ρ}, loopN step n s = some r → loopN step (n + 1) s = some r
  | 0, s, r, h => by simp [loopN] at h
  | n + 1, s, r, h => by
    unfold loopN at h ⊢
    cases hs : step s with
    | none => rw [hs] at h; cases h
    | some x =>
      rw [hs] at h
      cases x with
      | inl s' => exact loopN_succ h
      | inr r => exact h

theorem loopN_mono {σ ρ : Type} {step : σ → Option (σ ⊕ ρ)} {n m : Nat} (hm : n ≤ m) {s : σ} {r : ρ} (h : loopN step n s = some r) : loopN step m s = some r := by
  induction hm with
  | refl => exact h
  | step _ ih => exact loopN_succ ih

/-- A loop. -/
noncomputable def loop {σ ρ : Type} (step : σ → Option (σ ⊕ ρ)) (s : σ) : Option ρ :=
  @dite _ (∃ r n, loopN step n s = some r) (Classical.propDecidable _) (fun h => some (Classical.choose h)) fun _ => none

theorem loop_some {σ ρ : Type} {step : σ → Option (σ ⊕ ρ)} {s : σ} {r : ρ} : loop step s = some r ↔ ∃ n, loopN step n s = some r := by
  unfold loop
  constructor
  · intro h
    split at h
    · rename_i hx
      cases h
      exact Classical.choose_spec hx
    · cases h
  · rintro ⟨n, h⟩
    have hx : ∃ r n, loopN step n s = some r := ⟨r, n, h⟩
    rw [dif_pos hx]
    obtain ⟨m, hm⟩ := Classical.choose_spec hx
    have h1 := loopN_mono (Nat.le_max_left n m) h
    have h2 := loopN_mono (Nat.le_max_right n m) hm
    rw [h1] at h2
    exact h2.symm

theorem loop_eq {σ ρ : Type} (step : σ → Option (σ ⊕ ρ)) (s : σ) : loop step s = (step s).bind fun | .inl s' => loop step s' | .inr r => some r := by
  cases hs : step s with
  | none =>
    cases hl : loop step s with
    | none => rfl
    | some r =>
      obtain ⟨n, hn⟩ := loop_some.1 hl
      cases n with
      | zero => cases hn
      | succ n => unfold loopN at hn; rw [hs] at hn; cases hn
  | some x =>
    cases x with
    | inr r => exact loop_some.2 ⟨1, by simp [loopN, hs]⟩
    | inl s' =>
      show loop step s = loop step s'
      cases hl : loop step s' with
      | none =>
        cases hl' : loop step s with
        | none => rfl
        | some r =>
          exfalso
          obtain ⟨n, hn⟩ := loop_some.1 hl'
          cases n with
          | zero => cases hn
          | succ n =>
            unfold loopN at hn
            rw [hs] at hn
            rw [loop_some.2 ⟨n, hn⟩] at hl
            cases hl
      | some r =>
        obtain ⟨n, hn⟩ := loop_some.1 hl
        exact loop_some.2 ⟨n + 1, by simp [loopN, hs, hn]⟩

theorem loop_L {σ ρ : Type} {step : σ → Option (σ ⊕ ρ)} {s s' : σ} (h : step s = some (.inl s')) : loop step s = loop step s' := by rw [loop_eq, h]; rfl
theorem loop_R {σ ρ : Type} {step : σ → Option (σ ⊕ ρ)} {s : σ} {r : ρ} (h : step s = some (.inr r)) : loop step s = some r := by rw [loop_eq, h]; rfl

/-- By an invariant and a measure. -/
theorem loop_inv {σ ρ : Type} {step : σ → Option (σ ⊕ ρ)} (I : σ → Prop) (μ : σ → Nat) (Q : ρ → Prop)
    (h : ∀ s, I s → (∃ s', step s = some (.inl s') ∧ I s' ∧ μ s' < μ s) ∨ ∃ r, step s = some (.inr r) ∧ Q r) (s : σ) (h0 : I s) : ∃ r, loop step s = some r ∧ Q r := by
  generalize hm : μ s = m
  induction m using Nat.strongRecOn generalizing s with
  | _ m ih =>
    rcases h s h0 with ⟨s', h1, h2, h3⟩ | ⟨r, h1, h2⟩
    · obtain ⟨r, h4, h5⟩ := ih (μ s') (hm ▸ h3) s' h2 rfl
      exact ⟨r, (loop_L h1).trans h4, h5⟩
    · exact ⟨r, loop_R h1, h2⟩

def ix {α : Type} (l : List α) (i : Int) : Option α := if 0 ≤ i then l[i.toNat]? else none
def cut {α : Type} (l : List α) (lo hi : Int) : Option (List α) := if 0 ≤ lo ∧ lo ≤ hi ∧ hi ≤ l.length then some ((l.drop lo.toNat).take (hi.toNat - lo.toNat)) else none
def app {α : Type} (x y : List α) : Option (List α) := if x.length + y.length ≤ LIM then some (x ++ y) else none
def putAt {α : Type} (l : List α) (i : Int) (x : α) : Option (List α) := if 0 ≤ i ∧ i < l.length then some (l.set i.toNat x) else none
def chr (s : List UInt8) (i : Int) : Option Int := if 0 ≤ i ∧ i < s.length then some ((s.getD i.toNat 0).toNat : Int) else none

theorem obind {α β : Type} {a : Option α} {f : α → Option β} {r : β} (h : a.bind f = some r) : ∃ x, a = some x ∧ f x = some r := Option.bind_eq_some_iff.1 h
theorem oite {α : Type} {c : Bool} {a b : Option α} {r : α} (h : (if c = true then a else b) = some r) : (c = true ∧ a = some r) ∨ (c = false ∧ b = some r) := by
  cases c
  · exact .inr ⟨rfl, h⟩
  · exact .inl ⟨rfl, h⟩

-- ---- how plain values stand

inductive L2 {α β : Type} (r : α → β → Prop) : List α → List β → Prop
  | nil : L2 r [] []
  | cons {a b l m} (h : r a b) (k : L2 r l m) : L2 r (a :: l) (b :: m)

section L2
variable {α β : Type} {r : α → β → Prop}
theorem L2.len : ∀ {l : List α} {m : List β}, L2 r l m → m.length = l.length
  | _, _, .nil => rfl
  | _, _, .cons _ k => by simp [k.len]
theorem L2.get : ∀ {l : List α} {m : List β}, L2 r l m → ∀ {i : Nat} {a : α}, l[i]? = some a → ∃ b, m[i]? = some b ∧ r a b
  | _, _, .nil, i, a, h => by simp at h
  | _, _, .cons hr k, 0, a, h => by simp at h; subst h; exact ⟨_, rfl, hr⟩
  | _, _, .cons hr k, i + 1, a, h => by simp at h; obtain ⟨b, h1, h2⟩ := k.get h; exact ⟨b, by simpa using h1, h2⟩
theorem L2.app : ∀ {l l' : List α} {m m' : List β}, L2 r l m → L2 r l' m' → L2 r (l ++ l') (m ++ m')
  | _, _, _, _, .nil, k => k
  | _, _, _, _, .cons hr h, k => .cons hr (h.app k)
theorem L2.take : ∀ {l : List α} {m : List β} (n : Nat), L2 r l m → L2 r (l.take n) (m.take n)
  | _, _, 0, _ => by simp; exact .nil
  | _, _, n + 1, .nil => by simp; exact .nil
  | _, _, n + 1, .cons hr h => by simp; exact .cons hr (h.take n)
theorem L2.drop : ∀ {l : List α} {m : List β} (n : Nat), L2 r l m → L2 r (l.drop n) (m.drop n)
  | _, _, 0, h => by simpa using h
  | _, _, n + 1, .nil => by simp; exact .nil
  | _, _, n + 1, .cons hr h => by simp; exact h.drop n
theorem L2.set : ∀ {l : List α} {m : List β} (n : Nat) {a : α} {b : β}, L2 r l m → r a b → L2 r (l.set n a) (m.set n b)
  | _, _, n, _, _, .nil, _ => by cases n <;> exact .nil
  | _, _, 0, _, _, .cons _ h, k => .cons k h
  | _, _, n + 1, _, _, .cons hr h, k => .cons hr (h.set n k)
theorem L2.rep {a : α} {b : β} (h : r a b) : ∀ n, L2 r (List.replicate n a) (List.replicate n b)
  | 0 => .nil
  | n + 1 => .cons h (L2.rep h n)
theorem L2.map {γ : Type} {s : α → γ → Prop} {f : β → γ} (h : ∀ a b, r a b → s a (f b)) : ∀ {l : List α} {m : List β}, L2 r l m → L2 s l (m.map f)
  | _, _, .nil => .nil
  | _, _, .cons hr k => .cons (h _ _ hr) (k.map h)
end L2

def rI (k : IntKind) (n : Int) (v : AV) : Prop := v = .int k n
def rB (b : Bool) (v : AV) : Prop := v = .bool b
def rS (s : List UInt8) (v : AV) : Prop := v = .str s
/-- The elements of a slice whose cells no one writes. -/
structure LR {α : Type} (r : α → AV → Prop) (sz : Nat) (l : List α) (z : Nat) (e : List AV) : Prop where
  z : z = sz ∨ z = 0 ∧ e = []
  el : L2 r l e
def rL {α : Type} (r : α → AV → Prop) (sz : Nat) (l : List α) (v : AV) : Prop := ∃ z f e, v = .sl z f e ∧ LR r sz l z e
/-- The cells of a struct. -/
abbrev Cs (ps : List (AV → Prop)) (cs : List AV) : Prop := L2 (fun p c => p c) ps cs
def rA (ps : List (AV → Prop)) (v : AV) : Prop := ∃ cs, v = .agg cs ∧ Cs ps cs
/-- A pointer to a struct that no one writes. -/
def rP (ps : List (AV → Prop)) (v : AV) : Prop := ∃ cs, v = .eptr cs 0 ∧ Cs ps cs
def rT (ps : List (AV → Prop)) (v : AV) : Prop := ∃ cs, v = .tup cs ∧ Cs ps cs

structure WF (s : St) : Prop where
  ro : s.ro ≤ s.n
  lo : s.lo ≤ s.n

/-- A function's value: whoever calls it gets what f tells. -/
def rF {α β : Type} (C : Cfg) (ra : α → List AV → Prop) (rb : β → AV → Prop) (f : α → Option β) (v : AV) : Prop :=
  ∃ g cap, v = .fn g cap ∧ ∀ x vs y, ra x vs → f x = some y → ∀ s, WF s → ACall C g (vs ++ cap) s fun v _ s' => rb y v ∧ s' = s

/-- A value that may be handed back. -/
structure Nice (k : Nat) (p : AV → Prop) : Prop where
  fin : ∀ s n v, p v → ∃ v', fin s n k v = some v' ∧ p v'
  pure : ∀ n v, p v → v.pureB n = true

theorem Nice.I {k : Nat} {i : IntKind} {n : Int} : Nice (k + 1) (rI i n) := ⟨fun s m v h => by cases h; exact ⟨_, by simp [Ae.fin, AV.canonB], rfl⟩, fun m v h => by cases h; simp [AV.pureB]⟩
theorem Nice.B {k : Nat} {b : Bool} : Nice (k + 1) (rB b) := ⟨fun s m v h => by cases h; exact ⟨_, by simp [Ae.fin, AV.canonB], rfl⟩, fun m v h => by cases h; simp [AV.pureB]⟩
theorem Nice.S {k : Nat} {x : List UInt8} : Nice (k + 1) (rS x) := ⟨fun s m v h => by cases h; exact ⟨_, by simp [Ae.fin, AV.canonB], rfl⟩, fun m v h => by cases h; simp [AV.pureB]⟩

theorem finL {α : Type} {r : α → AV → Prop} {k : Nat} (h : ∀ x, Nice k (r x)) (s : St) (n : Nat) : ∀ {l : List α} {e : List AV}, L2 r l e → ∃ e', e.mapM (fin s n k) = some e' ∧ L2 r l e'
  | _, _, .nil => ⟨[], rfl, .nil⟩
  | _, _, .cons (a := a) (b := b) hr t => by
    obtain ⟨v', h1, h2⟩ := (h a).fin s n b hr
    obtain ⟨e', h3, h4⟩ := finL h s n t
    exact ⟨v' :: e', by simp [List.mapM_cons, h1, h3], .cons h2 h4⟩

theorem pureL2 {α : Type} {r : α → AV → Prop} {k : Nat} (h : ∀ x, Nice k (r x)) (n : Nat) : ∀ {l : List α} {e : List AV}, L2 r l e → AV.pureL n e = true
  | _, _, .nil => by simp [AV.pureL]
  | _, _, .cons hr t => by simp [AV.pureL, (h _).pure n _ hr, pureL2 h n t]

theorem Nice.L {α : Type} {r : α → AV → Prop} {k sz : Nat} {l : List α} (h : ∀ x, Nice k (r x)) : Nice (k + 1) (rL r sz l) := by
  constructor
  · rintro s n v ⟨z, f, e, rfl, hz, he⟩
    unfold Ae.fin
    split
    · exact ⟨_, rfl, z, f, e, rfl, hz, he⟩
    · obtain ⟨e', h1, h2⟩ := finL h s n he
      refine ⟨.sl z false e', by simp [h1], z, false, e', rfl, ?_, h2⟩
      rcases hz with hz | ⟨hz, hz2⟩
      · exact .inl hz
      · subst hz2
        simp at h1
        exact .inr ⟨hz, h1⟩
  · rintro n v ⟨z, f, e, rfl, hz, he⟩
    simp only [AV.pureB]
    exact pureL2 h n he

/-- All of some. -/
inductive All (P : (AV → Prop) → Prop) : List (AV → Prop) → Prop
  | nil : All P []
  | cons {p ps} (h : P p) (k : All P ps) : All P (p :: ps)

theorem finC {k : Nat} (s : St) (n : Nat) : ∀ {ps : List (AV → Prop)} {cs : List AV}, All (Nice k) ps → Cs ps cs → ∃ cs', cs.mapM (fin s n k) = some cs' ∧ Cs ps cs'
  | _, _, _, .nil => ⟨[], rfl, .nil⟩
  | _, _, .cons hp hps, .cons hr t => by
    obtain ⟨v', h1, h2⟩ := hp.fin s n _ hr
    obtain ⟨e', h3, h4⟩ := finC s n hps t
    exact ⟨v' :: e', by simp [List.mapM_cons, h1, h3], .cons h2 h4⟩

theorem pureC {k : Nat} (n : Nat) : ∀ {ps : List (AV → Prop)} {cs : List AV}, All (Nice k) ps → Cs ps cs → AV.pureL n cs = true
  | _, _, _, .nil => by simp [AV.pureL]
  | _, _, .cons hp hps, .cons hr t => by simp [AV.pureL, hp.pure n _ hr, pureC n hps t]

theorem Nice.A {k : Nat} {ps : List (AV → Prop)} (h : All (Nice k) ps) : Nice (k + 1) (rA ps) := by
  constructor
  · rintro s n v ⟨cs, rfl, hc⟩
    unfold Ae.fin
    split
    · exact ⟨_, rfl, cs, rfl, hc⟩
    · obtain ⟨cs', h1, h2⟩ := finC s n h hc
      exact ⟨.agg cs', by simp [h1], cs', rfl, h2⟩
  · rintro n v ⟨cs, rfl, hc⟩
    simp only [AV.pureB]
    exact pureC n h hc
theorem Nice.T {k : Nat} {ps : List (AV → Prop)} (h : All (Nice k) ps) : Nice (k + 1) (rT ps) := by
  constructor
  · rintro s n v ⟨cs, rfl, hc⟩
    unfold Ae.fin
    split
    · exact ⟨_, rfl, cs, rfl, hc⟩
    · obtain ⟨cs', h1, h2⟩ := finC s n h hc
      exact ⟨.tup cs', by simp [h1], cs', rfl, h2⟩
  · rintro n v ⟨cs, rfl, hc⟩
    simp only [AV.pureB]
    exact pureC n h hc
theorem Nice.P {k : Nat} {ps : List (AV → Prop)} (h : All (Nice k) ps) : Nice (k + 1) (rP ps) := by
  constructor
  · rintro s n v ⟨cs, rfl, hc⟩
    unfold Ae.fin
    split
    · exact ⟨_, rfl, cs, rfl, hc⟩
    · obtain ⟨cs', h1, h2⟩ := finC s n h hc
      exact ⟨.eptr cs' 0, by simp [h1], cs', rfl, h2⟩
  · rintro n v ⟨cs, rfl, hc⟩
    simp only [AV.pureB]
    exact pureC n h hc

end Ae
/- The rules by which a run is followed beside its plain model. -/
namespace Ae
open Go

/-- What stands in some slots. -/
def agree {α : Type} (f : Nat → α) : List (Nat × α) → Prop
  | [] => True
  | (i, c) :: l => f i = c ∧ agree f l

theorem agree_mem {α : Type} {f : Nat → α} : ∀ {L : List (Nat × α)}, agree f L → ∀ p ∈ L, f p.1 = p.2
  | [], _, p, hp => by cases hp
  | (i, c) :: l, h, p, hp => by
    rcases List.mem_cons.1 hp with rfl | hp
    · exact h.1
    · exact agree_mem h.2 p hp

theorem agree_updL {α : Type} {f : Nat → α} {L : List (Nat × α)} (h : agree f L) : updL f L = f := updL_self (agree_mem h)

section
variable {C : Cfg} {I : FI} {t : List Item} {tm : Nat → AV} {os : Nat → Bool} {s : St} {Q : Fr → Prop} {all : Array Oper} {l : List Oper} {o : Oper} {draw : Bool}

theorem AW.res (L : List (Nat × AV)) (LO : List (Nat × Bool)) (hL : agree tm L) (hO : agree os LO) (k : AW C I t ⟨updL tm L, updL os LO, s⟩ Q) : AW C I t ⟨tm, os, s⟩ Q := by
  rwa [agree_updL hL, agree_updL hO] at k

theorem AOps.split (k : Nat) (P : Fr → Prop) {f : Fr} (h1 : AOps C I draw all (l.take k) f P) (h2 : ∀ f', P f' → AOps C I draw all (l.drop k) f' Q) : AOps C I draw all l f Q := by
  have key : ∀ (l1 l2 : List Oper) (f : Fr) (n m : Nat) (r r' : Fr), opsF C I (callF C n) draw all l1 f = some r → opsF C I (callF C m) draw all l2 r = some r' → ∃ n, opsF C I (callF C n) draw all (l1 ++ l2) f = some r' := by
    intro l1
    induction l1 with
    | nil =>
      intro l2 f n m r r' h1 h2
      cases h1
      exact ⟨m, h2⟩
    | cons o l1 ih =>
      intro l2 f n m r r' h1 h2
      have h1' := opsF_mono (callF_mono (run_mono C (Nat.le_max_left n m))) _ _ _ h1
      have h2' := opsF_mono (callF_mono (run_mono C (Nat.le_max_right n m))) _ _ _ h2
      refine ⟨max n m, ?_⟩
      generalize max n m = n at h1' h2'
      clear ih h1 h2
      revert f
      generalize o :: l1 = ll
      induction ll with
      | nil => intro f h; cases h; exact h2'
      | cons o l1 ih =>
        intro f h
        rw [List.cons_append]
        unfold opsF at h ⊢
        cases hw : wantedA o all f.tm with
        | none => rw [hw] at h; cases h
        | some b =>
          rw [hw] at h
          cases b with
          | false => exact ih _ h
          | true =>
            simp only at h ⊢
            cases hc : callee? o f.tm with
            | some p =>
              obtain ⟨g, args⟩ := p
              rw [hc] at h
              simp only at h ⊢
              by_cases hd : draw = true
              · rw [if_pos hd] at h ⊢
                cases hr : callF C n g args f.s.still with
                | none => rw [hr] at h; cases h
                | some p =>
                  obtain ⟨v, ow, s'⟩ := p
                  rw [hr] at h
                  simp only at h ⊢
                  by_cases hp : v.pureB f.s.n = true
                  · rw [if_pos hp] at h ⊢; exact ih _ h
                  · rw [if_neg hp] at h; cases h
              · rw [if_neg hd] at h ⊢
                cases hr : callF C n g args f.s with
                | none => rw [hr] at h; cases h
                | some p =>
                  obtain ⟨v, ow, s'⟩ := p
                  rw [hr] at h
                  exact ih _ h
            | none =>
              rw [hc] at h
              simp only at h ⊢
              cases ho : opF C I o f with
              | none => rw [ho] at h; cases h
              | some f1 => rw [ho] at h; exact ih _ h
  obtain ⟨n, r, hr, hp⟩ := h1
  obtain ⟨m, r', hr', hq⟩ := h2 r hp
  obtain ⟨n', h'⟩ := key _ _ _ _ _ _ _ hr hr'
  rw [List.take_append_drop] at h'
  exact ⟨n', r', h', hq⟩

theorem AOps.resR (L : List (Nat × AV)) (LO : List (Nat × Bool)) (hL : agree tm L) (hO : agree os LO) (P : Fr → Prop) (k : P ⟨updL tm L, updL os LO, s⟩) : AOps C I draw all [] ⟨tm, os, s⟩ P := by
  rw [agree_updL hL, agree_updL hO] at k
  exact .nil k

/-- Where ways meet. -/
theorem AW.join {i : Item} {f : Fr} (K : Prop) (hK : K) (hB : K → AW C I (i :: t) f Q) : AW C I (i :: t) f Q := hB hK

/-- A loop, beside its model. -/
theorem AW.loopF {σ τ ρ : Type} {c : Code} {step : σ → Option (σ ⊕ ρ)} {r : ρ} (P : σ → τ → Prop) (F : σ → τ → (Nat → AV) → (Nat → Bool) → Fr)
    (body : ∀ x y tm os, P x y → ∀ e, step x = some e → (∀ x', e = .inl x' → ∀ y' tm os, P x' y' → AW C I (.inLoop c :: t) (F x' y' tm os) Q) → (∀ r', e = .inr r' → r' = r) → AW C I (.code c :: .inLoop c :: t) (F x y tm os) Q)
    {x : σ} {y : τ} {tm : Nat → AV} {os : Nat → Bool} (h : Ae.loop step x = some r) (hP : P x y) : AW C I (.code (.loop c) :: t) (F x y tm os) Q := by
  obtain ⟨n, h⟩ := loop_some.1 h
  have key : ∀ n x y, loopN step n x = some r → P x y → ∀ tm os, AW C I (.code c :: .inLoop c :: t) (F x y tm os) Q := by
    intro n
    induction n with
    | zero => intro x y h; cases h
    | succ n ih =>
      intro x y h hP tm os
      unfold loopN at h
      cases hs : step x with
      | none => rw [hs] at h; cases h
      | some e =>
        rw [hs] at h
        refine body x y tm os hP e hs (fun x' he y' tm os hP' => ?_) (fun r' he => ?_)
        · subst he
          exact .inLoop (ih x' y' h hP' tm os)
        · subst he
          exact Option.some.inj h
  exact .loop (key n x y h hP tm os)

-- ---- operations

theorem AOps.ldE {d : Nat} {ty : Nat} {X : Operand} {ti : TI} {cs : List AV} {off : Nat} {v : AV} (hw : wantedA o all tm = some true) (ho : o.op = .load ty X) (hT : C.ty ty = some ti) (hX : evalO tm X = .eptr cs off) (hp : part ti cs off = some v) (hd : o.dst = some d)
    (k : AOps C I draw all l ⟨upd tm d v, upd os d false, s⟩ Q) : AOps C I draw all (o :: l) ⟨tm, os, s⟩ Q :=
  .op hw (by unfold callee?; rw [ho]) (f' := ⟨upd tm d v, upd os d false, s⟩) (by simp [opF, moveOp, pureOp, makeOp, memOp, ho, hT, hX, hp, Fr.put, hd]) k

theorem idx_sl {α : Type} {r : α → AV → Prop} {l : List α} {x : α} {z : Nat} {e : List AV} {sz : Nat} {n : Int} (hL : LR r sz l z e) (hx : ix l n = some x) :
    ∃ c, r x c ∧ (if z = sz then (idx n e.length).map fun m => AV.eptr (e.getD m .undef).cells 0 else none) = some (.eptr c.cells 0) := by
  unfold ix at hx
  split at hx
  · rename_i h0
    obtain ⟨c, h1, h2⟩ := hL.el.get hx
    have hlt := (List.getElem?_eq_some_iff.1 h1).1
    have hz : z = sz := hL.z.resolve_right (fun h => by rw [h.2] at h1; simp at h1)
    refine ⟨c, h2, ?_⟩
    rw [if_pos hz]
    have : idx n e.length = some n.toNat := by unfold idx; rw [if_pos ⟨h0, by omega⟩]
    rw [this]
    simp [List.getD, h1]
  · cases hx

theorem chr_str {s : List UInt8} {n x : Int} (hx : chr s n = some x) : ((idx n s.length).map fun m => AV.int .u8 (s.getD m 0).toNat) = some (.int .u8 x) := by
  unfold chr at hx
  split at hx
  · rename_i h
    cases hx
    unfold idx
    rw [if_pos h]
    rfl
  · cases hx

/-- A call of a function whose contract is known. -/
theorem AOps.callP {d g : Nat} {args : List AV} {p : AV → Prop} (hw : wantedA o all tm = some true) (hc : callee? o tm = some (g, args)) (hd : o.dst = some d) (h : ACall C g args s fun v _ s' => p v ∧ s' = s)
    (k : ∀ v ow, p v → AOps C I false all l ⟨upd tm d v, upd os d ow, s⟩ Q) : AOps C I false all (o :: l) ⟨tm, os, s⟩ Q :=
  .callR hw hc hd (h.mono fun v ow s' h => by obtain ⟨h1, rfl⟩ := h; exact k v ow h1)
theorem AOps.callDP {d g : Nat} {args : List AV} {p : AV → Prop} (hw : wantedA o all tm = some true) (hc : callee? o tm = some (g, args)) (hd : o.dst = some d) (h : ACall C g args s.still fun v _ s' => p v ∧ s' = s.still) (hn : ∀ v, p v → v.pureB s.n = true)
    (k : ∀ v ow, p v → AOps C I true all l ⟨upd tm d v, upd os d ow, s⟩ Q) : AOps C I true all (o :: l) ⟨tm, os, s⟩ Q :=
  .callDR hw hc hd (h.mono fun v ow s' h => ⟨hn v h.1, k v ow h.1⟩)

theorem WF.still {s : St} (h : WF s) : WF s.still := ⟨Nat.le_refl _, h.lo⟩
theorem WF.lo' {s : St} (h : WF s) : WF { s with lo := s.n } := ⟨h.ro, Nat.le_refl _⟩

theorem St.back_lo (s : St) : s.back { s with lo := s.n } = s := by
  cases s
  simp only [St.back, St.mk.injEq, true_and, and_true]
  constructor <;> funext b <;> split <;> rfl

/-- A function that touches no box. -/
theorem ACall.pure {g : Nat} {args : List AV} {J : FI} {p : AV → Prop} (h0 : C.ext g = none) (h1 : C.fn g = some J) (h2 : J.keep = false) (hn : Nice FINK p)
    (k : AW C J [.code J.body] ⟨enterTm args, fun _ => false, { s with lo := s.n }⟩ fun f1 => f1.s = { s with lo := s.n } ∧ ∃ v o, resA C J f1 = some (v, o) ∧ p v) : ACall C g args s fun v _ s' => p v ∧ s' = s := by
  refine .enter h0 h1 h2 ?_
  obtain ⟨n, r, hr, hs, v, o, hres, hp⟩ := k
  obtain ⟨v', h3, h4⟩ := hn.fin r.s s.n v hp
  exact ⟨n, r, hr, v, o, v', hres, h3, h4, by rw [hs]; exact s.back_lo⟩
end
end Ae
namespace Ae
open Go
section
variable {C : Cfg} {I : FI} {t : List Item} {tm : Nat → AV} {os : Nat → Bool} {s : St} {Q : Fr → Prop} {all : Array Oper} {l : List Oper} {o : Oper} {draw : Bool}
theorem AOps.know {d : Nat} {b c : Bool} (hb : tm d = .bool b) (hc : b = c) (k : AOps C I draw all l ⟨upd tm d (.bool c), os, s⟩ Q) : AOps C I draw all l ⟨tm, os, s⟩ Q := by
  subst hc
  have e : upd tm d (.bool b) = tm := by funext j; unfold upd; split <;> simp_all
  rwa [e] at k
theorem and_t {c x : Bool} (h : c = true) : x = (c && x) := by subst h; rfl
theorem and_f {c x : Bool} (h : c = false) : false = (c && x) := by subst h; rfl
theorem or_t {c x : Bool} (h : c = true) : true = (c || x) := by subst h; rfl
theorem or_f {c x : Bool} (h : c = false) : x = (c || x) := by subst h; rfl
theorem Cs_cons {p : AV → Prop} {ps : List (AV → Prop)} {cs : List AV} (h : Cs (p :: ps) cs) : ∃ c cs', cs = c :: cs' ∧ p c ∧ Cs ps cs' := by
  cases h with
  | cons h k => exact ⟨_, _, rfl, h, k⟩
theorem Cs_nil {cs : List AV} (h : Cs [] cs) : cs = [] := by cases h; rfl
/-- Where ways meet. -/
theorem AW.meet {σ : Type} {i : Item} {f : Fr} (F : σ → (Nat → AV) → (Nat → Bool) → Fr) (P : σ → Prop) (hK : ∀ y tm os, P y → AW C I t (F y tm os) Q) (hB : (∀ y tm os, P y → AW C I t (F y tm os) Q) → AW C I (i :: t) f Q) : AW C I (i :: t) f Q := hB hK
theorem omap {α β : Type} {a : Option α} {f : α → β} {r : β} (h : a.map f = some r) : ∃ x, a = some x ∧ f x = r := Option.map_eq_some_iff.1 h
theorem len_eq {α : Type} {r : α → AV → Prop} {sz : Nat} {l : List α} {z : Nat} {e : List AV} (h : LR r sz l z e) : AV.int .i64 (e.length : Nat) = .int .i64 (l.length : Nat) := by rw [h.el.len]
theorem LR.app {α : Type} {r : α → AV → Prop} {sz sz' : Nat} {l m : List α} {z z' : Nat} {e e' : List AV} (h : LR r sz l z e) (k : LR r sz' m z' e') : LR r sz (l ++ m) sz (e ++ e') := ⟨.inl rfl, h.el.app k.el⟩
theorem LR.lit {α : Type} {r : α → AV → Prop} {sz : Nat} {l : List α} {e : List AV} (k : L2 r l e) : LR r sz l sz e := ⟨.inl rfl, k⟩
theorem LR.none {α : Type} {r : α → AV → Prop} {sz : Nat} : LR r sz [] 0 [] := ⟨.inr ⟨rfl, rfl⟩, .nil⟩

theorem app_some {α : Type} {x y l : List α} (h : app x y = some l) : l = x ++ y ∧ x.length + y.length ≤ LIM := by
  unfold app at h
  split at h
  · cases h; exact ⟨rfl, by assumption⟩
  · cases h

theorem app_LR {α : Type} {r : α → AV → Prop} {sz sz' : Nat} {x y l : List α} {z z' : Nat} {e e' : List AV} (h : LR r sz x z e) (k : LR r sz' y z' e') (hl : app x y = some l) : LR r sz l sz (e ++ e') ∧ e.length + e'.length ≤ LIM := by
  obtain ⟨rfl, h1⟩ := app_some hl
  exact ⟨⟨.inl rfl, h.el.app k.el⟩, by rw [h.el.len, k.el.len]; exact h1⟩

theorem appSrc_sl {C : Cfg} {ei : TI} {yt e0 a b : Nat} {zz : AV} {z : Nat} {f : Bool} {e : List AV} (hz : z = ei.size ∨ z = 0 ∧ e = []) (hT : C.ty yt = some ⟨.slice e0, a, b, zz⟩) : appSrc C ei yt (.sl z f e) = some e := by
  unfold appSrc
  rw [hT]
  simp only
  rcases hz with hz | hz
  · rw [if_pos hz]
  · rw [hz.2]; split <;> rfl

theorem own_tmp {os : Nat → Bool} {x : Operand} {t : Nat} {f o : Bool} (h : f = true ∨ o = true) (hx : x = .tmp t) (ho : os t = o) : f = true ∨ ∃ t, x = .tmp t ∧ os t = true := by
  rcases h with h | h
  · exact .inl h
  · exact .inr ⟨t, hx, ho.trans h⟩

/-- An append to a slice that no one writes. -/
theorem AOps.appL {d : Nat} {x y : Operand} {st yt et : Nat} {T ei : TI} {z z' : Nat} {f f' : Bool} {e e' : List AV} (hw : wantedA o all tm = some true) (ho : o.op = .call { callee := .builtin .append, args := #[x, y], argTypes := #[st, yt] }) (hT : C.ty st = some T) (hTu : T.u = .slice et)
    (hE : C.ty et = some ei) (hX : evalO tm x = .sl z f e) (hY : evalO tm y = .sl z' f' e') (hs : appSrc C ei yt (.sl z' f' e') = some e') (hc : z = ei.size ∨ z = 0 ∧ e = []) (hei : 0 < ei.size ∧ ei.bytes ≤ 256 ∧ layable ei.zero = true ∧ ei.zero.cells.length = ei.size) (hdy : I.dy.contains d = false)
    (hd : o.dst = some d) (hlen : e.length + e'.length ≤ LIM) (hA : f = true ∨ ∃ t, x = .tmp t ∧ os t = true)
    (k : AOps C I draw all l ⟨upd tm d (.sl ei.size false (e ++ e')), upd (clearO os x) d true, s⟩ Q) : AOps C I draw all (o :: l) ⟨tm, os, s⟩ Q := by
  refine .op hw (by unfold callee?; rw [ho]) (f' := ⟨upd tm d (.sl ei.size false (e ++ e')), upd (clearO os x) d true, s⟩) ?_ k
  obtain ⟨u, a, b, zz⟩ := T
  simp only at hTu
  subst hTu
  have hmay : mayApp ⟨tm, os, s⟩ x (.sl z f e) = some (z, e) := by
    unfold mayApp
    cases f with
    | true => rfl
    | false =>
      rcases hA with hA | ⟨t, rfl, ht⟩
      · cases hA
      · simp [ht]
  unfold opF
  simp only [moveOp, pureOp, makeOp, ho]
  unfold memOp
  simp only [ho, hT, hE, hX, hY, hmay, hs, hd, Option.any_some, hdy]
  rw [if_pos ⟨hc, hei⟩, if_pos hlen, if_neg (by simp)]
  rfl

theorem add_str {a b w : List UInt8} (h : app a b = some w) : (if a.length + b.length ≤ LIM then some (AV.str (a ++ b)) else none) = some (.str w) := by
  obtain ⟨rfl, h1⟩ := app_some h
  rw [if_pos h1]

theorem bndO_none (n d : Nat) : bndO none n d = some d := rfl
theorem bnd_int {k : IntKind} {i : Int} {n : Nat} (h0 : 0 ≤ i) (h1 : i ≤ n) : bnd (.int k i) n = some i.toNat := by unfold bnd; simp only; rw [if_pos ⟨h0, h1⟩]
theorem cut_some {α : Type} {l m : List α} {lo hi : Int} (h : cut l lo hi = some m) : 0 ≤ lo ∧ lo ≤ hi ∧ hi ≤ l.length ∧ m = (l.drop lo.toNat).take (hi.toNat - lo.toNat) := by
  unfold cut at h
  split at h
  · rename_i h1; cases h; exact ⟨h1.1, h1.2.1, h1.2.2, rfl⟩
  · cases h

theorem cut_strLH {k k' : IntKind} {s w : List UInt8} {lo hi : Int} (h : cut s lo hi = some w) : strSliceA s (some (.int k lo)) (some (.int k' hi)) = some (.str w) := by
  obtain ⟨h1, h2, h3, rfl⟩ := cut_some h
  unfold strSliceA bndO
  simp only [bnd_int (show 0 ≤ hi by omega) h3, Option.bind_some]
  rw [bnd_int h1 (by omega)]
  rfl
theorem cut_strL {k : IntKind} {s w : List UInt8} {lo : Int} (h : cut s lo s.length = some w) : strSliceA s (some (.int k lo)) none = some (.str w) := by
  obtain ⟨h1, h2, h3, rfl⟩ := cut_some h
  unfold strSliceA bndO
  simp only [Option.bind_some]
  rw [bnd_int h1 (by omega)]
  rfl
theorem cut_strH {k : IntKind} {s w : List UInt8} {hi : Int} (h : cut s 0 hi = some w) : strSliceA s none (some (.int k hi)) = some (.str w) := by
  obtain ⟨h1, h2, h3, rfl⟩ := cut_some h
  unfold strSliceA bndO
  simp only [bnd_int (show 0 ≤ hi by omega) h3, Option.bind_some]
  rfl

section cutsl
variable {α : Type} {r : α → AV → Prop} {sz z : Nat} {l m : List α} {e : List AV}
theorem cut_cond (hL : LR r sz l z e) : z = sz ∨ e.isEmpty = true := by
  rcases hL.z with h | ⟨_, h⟩
  · exact .inl h
  · exact .inr (by simp [h])
theorem LR.cut (hL : LR r sz l z e) (a b : Nat) : LR r sz ((l.drop a).take b) z ((e.drop a).take b) := by
  refine ⟨?_, (hL.el.drop a).take b⟩
  rcases hL.z with h | ⟨h, h2⟩
  · exact .inl h
  · exact .inr ⟨h, by simp [h2]⟩
theorem cut_slLH {k k' : IntKind} {lo hi : Int} (f : Bool) (hL : LR r sz l z e) (h : cut l lo hi = some m) : ∃ f' e', LR r sz m z e' ∧ (if z = sz ∨ e.isEmpty = true then sliceA z f e (some (.int k lo)) (some (.int k' hi)) none else none) = some (.sl z f' e') := by
  obtain ⟨h1, h2, h3, rfl⟩ := cut_some h
  refine ⟨f && decide (hi.toNat = e.length), _, hL.cut lo.toNat (hi.toNat - lo.toNat), ?_⟩
  rw [if_pos (cut_cond hL)]
  unfold sliceA bndO
  simp only [bnd_int (show 0 ≤ hi by omega) (show hi ≤ (e.length : Nat) by rw [hL.el.len]; exact h3), Option.bind_some]
  rw [bnd_int h1 (by omega)]
  rfl
theorem cut_slL {k : IntKind} {lo : Int} (f : Bool) (hL : LR r sz l z e) (h : cut l lo l.length = some m) : ∃ f' e', LR r sz m z e' ∧ (if z = sz ∨ e.isEmpty = true then sliceA z f e (some (.int k lo)) none none else none) = some (.sl z f' e') := by
  obtain ⟨h1, h2, h3, rfl⟩ := cut_some h
  refine ⟨f && decide (e.length = e.length), _, hL.cut lo.toNat (l.length - lo.toNat), ?_⟩
  rw [if_pos (cut_cond hL)]
  unfold sliceA bndO
  simp only [Option.bind_some]
  rw [bnd_int h1 (by rw [hL.el.len]; omega), hL.el.len]
  rfl
theorem cut_slH {k : IntKind} {hi : Int} (f : Bool) (hL : LR r sz l z e) (h : cut l 0 hi = some m) : ∃ f' e', LR r sz m z e' ∧ (if z = sz ∨ e.isEmpty = true then sliceA z f e none (some (.int k hi)) none else none) = some (.sl z f' e') := by
  obtain ⟨h1, h2, h3, rfl⟩ := cut_some h
  refine ⟨f && decide (hi.toNat = e.length), _, hL.cut 0 hi.toNat, ?_⟩
  rw [if_pos (cut_cond hL)]
  unfold sliceA bndO
  simp only [bnd_int (show 0 ≤ hi by omega) (show hi ≤ (e.length : Nat) by rw [hL.el.len]; exact h3), Option.bind_some]
  rfl
end cutsl

def andI (k : IntKind) (a b : Int) : Int := k.wrap ((BitVec.ofInt k.bits a) &&& (BitVec.ofInt k.bits b)).toNat
def orI (k : IntKind) (a b : Int) : Int := k.wrap ((BitVec.ofInt k.bits a) ||| (BitVec.ofInt k.bits b)).toNat
def xorI (k : IntKind) (a b : Int) : Int := k.wrap ((BitVec.ofInt k.bits a) ^^^ (BitVec.ofInt k.bits b)).toNat
def andNotI (k : IntKind) (a b : Int) : Int := k.wrap ((BitVec.ofInt k.bits a) &&& ~~~(BitVec.ofInt k.bits b)).toNat
def quoI (k : IntKind) (a b : Int) : Option Int := if b = 0 then none else some (k.wrap (a.tdiv b))
def remI (_ : IntKind) (a b : Int) : Option Int := if b = 0 then none else some (a.tmod b)
def shlI (k : IntKind) (a b : Int) : Option Int := if b < 0 then none else some (k.wrap (a * 2 ^ min b.toNat k.bits))
def shrI (k : IntKind) (a b : Int) : Option Int := if b < 0 then none else some (a.fdiv (2 ^ min b.toNat k.bits))
theorem quo_ok {k : IntKind} {a b n : Int} (h : quoI k a b = some n) : (if b = 0 then none else some (AV.int k (k.wrap (a.tdiv b)))) = some (.int k n) := by
  unfold quoI at h; split at h <;> cases h; rw [if_neg (by assumption)]
theorem rem_ok {k : IntKind} {a b n : Int} (h : remI k a b = some n) : (if b = 0 then none else some (AV.int k (a.tmod b))) = some (.int k n) := by
  unfold remI at h; split at h <;> cases h; rw [if_neg (by assumption)]
theorem shl_ok {k : IntKind} {a b n : Int} (h : shlI k a b = some n) : shiftI .shl k a b = some (.int k n) := by
  unfold shlI at h; unfold shiftI; split at h <;> cases h; rw [if_neg (by assumption)]
theorem shr_ok {k : IntKind} {a b n : Int} (h : shrI k a b = some n) : shiftI .shr k a b = some (.int k n) := by
  unfold shrI at h; unfold shiftI; split at h <;> cases h; rw [if_neg (by assumption)]
end
end Ae
/- The rules for what is made, written and read in boxes. -/
namespace Ae
open Go

section
variable {C : Cfg} {I : FI} {t : List Item} {tm : Nat → AV} {os : Nat → Bool} {s : St} {Q : Fr → Prop} {all : Array Oper} {l : List Oper} {o : Oper} {draw : Bool}

theorem AOps.allocP {d ty : Nat} {ti : TI} (hw : wantedA o all tm = some true) (ho : o.op = .alloc ty) (hT : C.ty ty = some ti) (hb : lookBk I.bk d = none) (hz : layable ti.zero = true ∧ ti.zero.cells.length = ti.size) (hd : o.dst = some d)
    (k : AOps C I draw all l ⟨upd tm d (.pend ti.size), upd os d true, s⟩ Q) : AOps C I draw all (o :: l) ⟨tm, os, s⟩ Q :=
  .op hw (by unfold callee?; rw [ho]) (f' := ⟨upd tm d (.pend ti.size), upd os d true, s⟩) (by simp [opF, moveOp, pureOp, makeOp, memOp, ho, hT, hd, hb, hz.1, hz.2, Fr.put]) k

theorem AOps.stP {p ty sz : Nat} {X : Operand} {ti : TI} {v : AV} (hw : wantedA o all tm = some true) (ho : o.op = .store ty (.tmp p) X) (hT : C.ty ty = some ti) (hp : tm p = .pend sz) (hos : os p = true) (hsz : sz = ti.size) (hv : evalO tm X = v) (hl : layable v = true) (hn : v.cells.length = ti.size) (h0 : 0 < ti.size) (hd : o.dst = none)
    (k : AOps C I draw all l ⟨upd tm p (.eptr v.cells 0), upd os p false, s⟩ Q) : AOps C I draw all (o :: l) ⟨tm, os, s⟩ Q :=
  .op hw (by unfold callee?; rw [ho]) (f' := ⟨upd tm p (.eptr v.cells 0), upd os p false, s⟩) (by
    have e : evalO tm (.tmp p) = .pend sz := hp
    simp [opF, moveOp, pureOp, makeOp, memOp, ho, hT, hv, hl, hn, h0, hd, e, hos, hsz]) k
end

-- ---- boxes

/-- A box that this call has made, or what may be one: its number, its cells, their rights. -/
structure BX where
  b : Option Nat
  cs : List AV
  ow : Nat → Bool

/-- The boxes that a call has made, and that nothing else has turned. -/
structure HS (s0 s : St) (L : List BX) : Prop where
  n : s0.n ≤ s.n
  ro : s.ro = s0.ro
  lo : s.lo = s0.n
  wf : s0.ro ≤ s0.n
  old : ∀ b, b < s0.n → s.h b = s0.h b ∧ s.ow b = s0.ow b
  bx : ∀ x ∈ L, ∀ b, x.b = some b → s0.n ≤ b ∧ b < s.n ∧ s.h b = some x.cs ∧ s.ow b = x.ow
  nd : (L.filterMap BX.b).Nodup

theorem HS.init {s : St} (h : WF s) : HS s { s with lo := s.n } [] := ⟨Nat.le_refl _, rfl, rfl, h.ro, fun _ _ => ⟨rfl, rfl⟩, fun x hx => (by cases hx), List.nodup_nil⟩
theorem HS.wf' {s0 s : St} {L : List BX} (h : HS s0 s L) : WF s := ⟨by rw [h.ro]; exact Nat.le_trans h.wf h.n, by rw [h.lo]; exact h.n⟩
theorem HS.back {s0 s : St} {L : List BX} (h : HS s0 s L) : s0.back s = s0 := by
  cases s0
  simp only [St.back, St.mk.injEq, true_and, and_true]
  constructor <;> funext b <;> split
  · rename_i hb; exact (h.old b hb).1
  · rfl
  · rename_i hb; exact (h.old b hb).2
  · rfl

/-- A function that makes boxes of its own. -/
theorem ACall.boxes {C : Cfg} {g : Nat} {args : List AV} {s : St} {J : FI} {p : AV → Prop} (h0 : C.ext g = none) (h1 : C.fn g = some J) (h2 : J.keep = false)
    (k : AW C J [.code J.body] ⟨enterTm args, fun _ => false, { s with lo := s.n }⟩ fun f1 => (∃ L, HS s f1.s L) ∧ ∃ v o, resA C J f1 = some (v, o) ∧ ∃ v', fin f1.s s.n FINK v = some v' ∧ p v') : ACall C g args s fun v _ s' => p v ∧ s' = s := by
  refine .enter h0 h1 h2 ?_
  obtain ⟨n, r, hr, ⟨L, hL⟩, v, o, hres, v', h3, h4⟩ := k
  exact ⟨n, r, hr, v, o, v', hres, h3, h4, hL.back⟩

theorem HS.push {s0 s : St} {L : List BX} (h : HS s0 s L) (cs : List AV) : HS s0 (s.push cs) (⟨some s.n, cs, fun _ => false⟩ :: L) where
  n := Nat.le_succ_of_le h.n
  ro := h.ro
  lo := h.lo
  wf := h.wf
  old := fun b hb => by
    have := h.n
    have e : b ≠ s.n := by omega
    simpa [St.push, upd, e] using h.old b hb
  bx := fun x hx b hb => by
    rcases List.mem_cons.1 hx with rfl | hx
    · cases hb
      exact ⟨h.n, Nat.lt_succ_self _, by simp [St.push, upd], by simp [St.push, upd]⟩
    · obtain ⟨h1, h2, h3, h4⟩ := h.bx x hx b hb
      have e : b ≠ s.n := by omega
      exact ⟨h1, Nat.lt_succ_of_lt h2, by simpa [St.push, upd, e] using h3, by simpa [St.push, upd, e] using h4⟩
  nd := by
    simp only [List.filterMap_cons, List.nodup_cons]
    refine ⟨fun hm => ?_, h.nd⟩
    obtain ⟨x, hx, hb⟩ := List.mem_filterMap.1 hm
    have := (h.bx x hx _ hb).2.1
    omega

/-- Nothing stands where a box may be. -/
theorem HS.non {s0 s : St} {L : List BX} (h : HS s0 s L) (cs : List AV) (ow : Nat → Bool) : HS s0 s (⟨none, cs, ow⟩ :: L) where
  n := h.n
  ro := h.ro
  lo := h.lo
  wf := h.wf
  old := h.old
  bx := fun x hx b hb => by
    rcases List.mem_cons.1 hx with rfl | hx
    · cases hb
    · exact h.bx x hx b hb
  nd := by simpa using h.nd

theorem nodup_set {L : List BX} (h : (L.filterMap BX.b).Nodup) {i : Nat} {x y : BX} (hx : L[i]? = some x) (hb : y.b = x.b) : ((L.set i y).filterMap BX.b) = L.filterMap BX.b := by
  induction L generalizing i with
  | nil => simp at hx
  | cons a L ih =>
    cases i with
    | zero =>
      simp at hx
      subst hx
      simp [List.filterMap_cons, hb]
    | succ i =>
      simp at hx
      have : (L.filterMap BX.b).Nodup := by
        cases ha : a.b with
        | none => simpa [List.filterMap_cons, ha] using h
        | some b => simp [ha] at h; exact h.2
      simp [List.filterMap_cons, ih this hx]

theorem nodup_inj {L : List BX} (h : (L.filterMap BX.b).Nodup) {i j b : Nat} {x y : BX} (hx : L[i]? = some x) (hy : L[j]? = some y) (hb : x.b = some b) (hb' : y.b = some b) : i = j := by
  induction L generalizing i j with
  | nil => simp at hx
  | cons a L ih =>
    have hn : (L.filterMap BX.b).Nodup := by
      cases ha : a.b with
      | none => simpa [List.filterMap_cons, ha] using h
      | some b => simp [ha] at h; exact h.2
    have hno : ∀ {k : Nat} {z : BX}, L[k]? = some z → z.b = some b → a.b ≠ some b := by
      intro k z hz hzb ha
      simp only [List.filterMap_cons, ha, List.nodup_cons] at h
      exact h.1 (List.mem_filterMap.2 ⟨z, List.mem_of_getElem? hz, hzb⟩)
    cases i with
    | zero =>
      cases j with
      | zero => rfl
      | succ j => simp at hx hy; subst hx; exact absurd hb (hno hy hb')
    | succ i =>
      cases j with
      | zero => simp at hx hy; subst hy; exact absurd hb' (hno hx hb)
      | succ j => simp at hx hy; rw [ih hn hx hy]
/-- A box is written. -/
theorem HS.set {s0 s : St} {L : List BX} (h : HS s0 s L) {i b : Nat} {x : BX} (hx : L[i]? = some x) (hb : x.b = some b) (cs : List AV) (ow : Nat → Bool) : HS s0 (s.setBox b cs ow) (L.set i ⟨some b, cs, ow⟩) where
  n := h.n
  ro := h.ro
  lo := h.lo
  wf := h.wf
  old := fun b' hb' => by
    have h1 := h.bx x (List.mem_of_getElem? hx) b hb
    have e : b' ≠ b := by omega
    simpa [St.setBox, upd, e] using h.old b' hb'
  bx := fun y hy b' hb' => by
    have h1 := h.bx x (List.mem_of_getElem? hx) b hb
    obtain ⟨j, hj⟩ := List.mem_iff_getElem?.1 hy
    rw [List.getElem?_set] at hj
    split at hj
    · rename_i hij
      subst hij
      split at hj
      · cases hj
        cases hb'
        exact ⟨h1.1, h1.2.1, by simp [St.setBox, upd], by simp [St.setBox, upd]⟩
      · cases hj
    · rename_i hij
      have h2 := h.bx y (List.mem_of_getElem? hj) b' hb'
      have e : b' ≠ b := by
        intro e
        subst e
        exact hij (nodup_inj h.nd hx hj hb hb')
      exact ⟨h2.1, h2.2.1, by simpa [St.setBox, upd, e] using h2.2.2.1, by simpa [St.setBox, upd, e] using h2.2.2.2⟩
  nd := by rw [nodup_set h.nd hx (by simp [hb])]; exact h.nd
end Ae
/- Boxes: the rules beside the plain model. -/
namespace Ae
open Go

theorem nodup_new {L : List BX} {n : Nat} (h : (L.filterMap BX.b).Nodup) (hlt : ∀ x ∈ L, ∀ b, x.b = some b → b < n) {i : Nat} {y : BX} (hy : y.b = some n) (hi : i < L.length) : ((L.set i y).filterMap BX.b).Nodup := by
  induction L generalizing i with
  | nil => simp at hi
  | cons a L ih =>
    have hn : (L.filterMap BX.b).Nodup := by
      cases ha : a.b with
      | none => simpa [List.filterMap_cons, ha] using h
      | some b => simp [ha] at h; exact h.2
    cases i with
    | zero =>
      simp only [List.set_cons_zero, List.filterMap_cons, hy, List.nodup_cons]
      refine ⟨fun hm => ?_, hn⟩
      obtain ⟨x, hx, hb⟩ := List.mem_filterMap.1 hm
      exact absurd (hlt x (List.mem_cons_of_mem _ hx) _ hb) (Nat.lt_irrefl _)
    | succ i =>
      have ih' := ih hn (fun x hx => hlt x (List.mem_cons_of_mem _ hx)) (i := i) (by simpa using hi)
      cases ha : a.b with
      | none => simpa [List.filterMap_cons, ha] using ih'
      | some b =>
        simp only [List.set_cons_succ, List.filterMap_cons, ha, List.nodup_cons]
        refine ⟨fun hm => ?_, ih'⟩
        obtain ⟨x, hx, hb⟩ := List.mem_filterMap.1 hm
        obtain ⟨j, hj⟩ := List.mem_iff_getElem?.1 hx
        rw [List.getElem?_set] at hj
        split at hj
        · split at hj
          · cases hj
            rw [hy] at hb
            cases hb
            exact absurd (hlt a (List.mem_cons_self ..) _ ha) (Nat.lt_irrefl _)
          · cases hj
        · simp only [List.filterMap_cons, ha, List.nodup_cons] at h
          exact h.1 (List.mem_filterMap.2 ⟨x, List.mem_of_getElem? hj, hb⟩)

/-- A box takes the place of another one, or of none. -/
theorem HS.re {s0 s : St} {L : List BX} (h : HS s0 s L) {i : Nat} {x : BX} (hx : L[i]? = some x) {s1 : St} (h1 : s1.n = s.n) (h2 : s1.ro = s.ro) (h3 : s1.lo = s.lo) (h4 : s1.ow = s.ow) (h5 : ∀ b, s1.h b = s.h b ∨ (x.b = some b)) (cs : List AV) : HS s0 (s1.push cs) (L.set i ⟨some s.n, cs, fun _ => false⟩) where
  n := by have := h.n; simp only [St.push, h1]; omega
  ro := h2.trans h.ro
  lo := h3.trans h.lo
  wf := h.wf
  old := fun b hb => by
    have hn := h.n
    have e : b ≠ s.n := by omega
    have e2 : s1.h b = s.h b := by
      rcases h5 b with h5 | h5
      · exact h5
      · have := (h.bx x (List.mem_of_getElem? hx) b h5).1; omega
    simpa [St.push, upd, e, h1, h4, e2] using h.old b hb
  bx := fun y hy b hb => by
    obtain ⟨j, hj⟩ := List.mem_iff_getElem?.1 hy
    rw [List.getElem?_set] at hj
    split at hj
    · split at hj
      · cases hj
        cases hb
        exact ⟨h.n, by simp [St.push, h1], by simp [St.push, upd, h1], by simp [St.push, upd, h1]⟩
      · cases hj
    · rename_i hij
      have k := h.bx y (List.mem_of_getElem? hj) b hb
      have e : b ≠ s.n := by omega
      have e2 : s1.h b = s.h b := by
        rcases h5 b with h5 | h5
        · exact h5
        · exact absurd (nodup_inj h.nd hx hj h5 hb) hij
      exact ⟨k.1, by simp only [St.push, h1]; omega, by simpa [St.push, upd, e, h1, e2] using k.2.2.1, by simpa [St.push, upd, e, h1, h4] using k.2.2.2⟩
  nd := nodup_new h.nd (fun y hy b hb => (h.bx y hy b hb).2.1) rfl (List.getElem?_eq_some_iff.1 hx).1

/-- A right is taken along. -/
theorem HS.take {s0 s : St} {L : List BX} (h : HS s0 s L) {i b off : Nat} {x : BX} (hx : L[i]? = some x) (hb : x.b = some b) : HS s0 { s with ow := upd s.ow b (upd (s.ow b) off false) } (L.set i ⟨some b, x.cs, upd x.ow off false⟩) where
  n := h.n
  ro := h.ro
  lo := h.lo
  wf := h.wf
  old := fun b' hb' => by
    have h1 := h.bx x (List.mem_of_getElem? hx) b hb
    have e : b' ≠ b := by omega
    simpa [upd, e] using h.old b' hb'
  bx := fun y hy b' hb' => by
    have h1 := h.bx x (List.mem_of_getElem? hx) b hb
    obtain ⟨j, hj⟩ := List.mem_iff_getElem?.1 hy
    rw [List.getElem?_set] at hj
    split at hj
    · split at hj
      · cases hj
        cases hb'
        exact ⟨h1.1, h1.2.1, h1.2.2.1, by simp [upd, h1.2.2.2]⟩
      · cases hj
    · rename_i hij
      have h2 := h.bx y (List.mem_of_getElem? hj) b' hb'
      have e : b' ≠ b := by
        intro e
        subst e
        exact hij (nodup_inj h.nd hx hj hb hb')
      exact ⟨h2.1, h2.2.1, h2.2.2.1, by simpa [upd, e] using h2.2.2.2⟩
  nd := by rw [nodup_set h.nd hx (by simp [hb])]; exact h.nd

-- ---- elements in a box

def Shp (ag : Bool) (sz : Nat) (el : AV) : Prop := el.cells.length = sz ∧ if ag = true then ∃ c, el = .agg c ∧ ∀ x ∈ c, x.one = true else el.one = true
def Sh {α : Type} (ag : Bool) (sz : Nat) (r : α → AV → Prop) : Prop := ∀ x v, r x v → Shp ag sz v
theorem Sh.I {k : IntKind} : Sh false 1 (rI k) := fun x v h => by cases h; exact ⟨rfl, rfl⟩
theorem Sh.B : Sh false 1 rB := fun x v h => by cases h; exact ⟨rfl, rfl⟩
theorem Sh.S : Sh false 1 rS := fun x v h => by cases h; exact ⟨rfl, rfl⟩
theorem Sh.L {α : Type} {r : α → AV → Prop} {sz : Nat} : Sh false 1 (rL r sz) := fun x v h => by obtain ⟨z, f, e, rfl, _⟩ := h; exact ⟨rfl, rfl⟩
def One (p : AV → Prop) : Prop := ∀ v, p v → v.one = true
theorem One.of {α : Type} {r : α → AV → Prop} (h : Sh false 1 r) (x : α) : One (r x) := fun v hv => by simpa using (h x v hv).2
theorem Cs.one : ∀ {ps : List (AV → Prop)} {cs : List AV}, All One ps → Cs ps cs → ∀ x ∈ cs, x.one = true
  | _, _, _, .nil, x, hx => by cases hx
  | _, _, .cons hp hps, .cons hr t, x, hx => by
    rcases List.mem_cons.1 hx with rfl | hx
    · exact hp _ hr
    · exact Cs.one hps t x hx
theorem Sh.A {α : Type} {f : α → List (AV → Prop)} {n : Nat} (h : ∀ x, All One (f x) ∧ (f x).length = n) : Sh true n fun x => rA (f x) := fun x v hv => by
  obtain ⟨cs, rfl, hc⟩ := hv
  exact ⟨by rw [← (h x).2]; exact hc.len, by rw [if_pos rfl]; exact ⟨cs, rfl, Cs.one (h x).1 hc⟩⟩

/-- The elements of a slice over a box, from its beginning on. -/
structure MS {α : Type} (r : α → AV → Prop) (ag : Bool) (sz : Nat) (l : List α) (n : Nat) (cs : List AV) : Prop where
  ex : ∃ els ex, cs = flatA els ++ ex ∧ els.length = n ∧ L2 r l els ∧ ∀ el ∈ els, Shp ag sz el

section
variable {α : Type} {r : α → AV → Prop} {ag : Bool} {sz n b : Nat} {l m : List α} {cs : List AV}

theorem MS.len (h : MS r ag sz l n cs) : n = l.length := by
  obtain ⟨els, ex, _, h2, h3, _⟩ := h.ex
  rw [← h2, h3.len]

theorem MS.of {els : List AV} (h : L2 r l els) (hs : Sh ag sz r) : MS r ag sz l els.length (flatA els) :=
  ⟨els, [], by simp, rfl, h, by
    intro el hel
    obtain ⟨i, hi⟩ := List.mem_iff_getElem?.1 hel
    have hlt := (List.getElem?_eq_some_iff.1 hi).1
    rw [h.len] at hlt
    obtain ⟨b, h1, h2⟩ := h.get (List.getElem?_eq_getElem hlt)
    rw [hi] at h1
    cases h1
    exact hs _ _ h2⟩

theorem ms_lt (h : MS r ag sz l n cs) {i : Int} {x : α} (hx : ix l i = some x) : 0 ≤ i ∧ i < n ∧ l[i.toNat]? = some x := by
  unfold ix at hx
  split at hx
  · rename_i h0
    have := (List.getElem?_eq_some_iff.1 hx).1
    rw [h.len]
    exact ⟨h0, by omega, hx⟩
  · cases hx

theorem idx_ms (h : MS r ag sz l n cs) {i : Int} {x : α} (hx : ix l i = some x) : (if sz = sz then (idx i n).map fun m => AV.ptr b (0 + m * sz) else none) = some (.ptr b (0 + i.toNat * sz)) := by
  obtain ⟨h0, h1, _⟩ := ms_lt h hx
  rw [if_pos rfl]
  unfold idx
  rw [if_pos ⟨h0, h1⟩]
  rfl

theorem flat_at {els : List AV} (hz : ∀ el ∈ els, el.cells.length = sz) {i : Nat} {el : AV} (hi : els[i]? = some el) (ex : List AV) : ((flatA els ++ ex).drop (i * sz)).take sz = el.cells ∧ i * sz + sz ≤ (flatA els).length := by
  induction els generalizing i with
  | nil => simp at hi
  | cons a els ih =>
    have ha := hz a (List.mem_cons_self ..)
    have hf : flatA (a :: els) = a.cells ++ flatA els := by simp [flatA]
    cases i with
    | zero =>
      simp at hi
      subst hi
      rw [hf]
      refine ⟨?_, by simp; omega⟩
      simp [ha]
    | succ i =>
      simp at hi
      obtain ⟨h1, h2⟩ := ih (fun el h => hz el (List.mem_cons_of_mem _ h)) hi
      rw [hf, List.append_assoc]
      refine ⟨?_, by simp [Nat.add_mul]; omega⟩
      rw [← h1, List.drop_append, ha]
      have : a.cells.drop ((i + 1) * sz) = [] := List.drop_eq_nil_of_le (by rw [ha, Nat.add_mul]; omega)
      have e2 : (i + 1) * sz - sz = i * sz := by rw [Nat.add_mul]; omega
      rw [this, List.nil_append, e2]

/-- What is read of an element. -/
theorem part_ms (h : MS r ag sz l n cs) {i : Int} {x : α} (hx : ix l i = some x) (ti : TI) : ∃ c, r x c ∧ Shp ag sz c ∧ ∀ off, 0 < ti.size → off + ti.size ≤ sz → part ti cs (0 + i.toNat * sz + off) = part ti c.cells off := by
  obtain ⟨h0, h1, h2⟩ := ms_lt h hx
  obtain ⟨els, ex, rfl, h3, h4, h5⟩ := h.ex
  obtain ⟨c, h6, h7⟩ := h4.get h2
  have hs := h5 c (List.mem_of_getElem? h6)
  refine ⟨c, h7, hs, fun off hpos hoff => ?_⟩
  obtain ⟨k1, k2⟩ := flat_at (fun el hel => (h5 el hel).1) h6 ex
  have e : ∀ j, j < sz → (flatA els ++ ex)[0 + i.toNat * sz + j]? = c.cells[j]? := by
    intro j hj
    rw [← k1, List.getElem?_take, if_pos hj, List.getElem?_drop, Nat.zero_add]
  unfold part
  by_cases ha : ti.isAgg = true
  · rw [if_pos ha, if_pos ha, if_pos (by rw [List.length_append]; omega), if_pos (by rw [hs.1]; exact hoff)]
    congr 2
    apply List.ext_getElem?
    intro j
    rw [List.getElem?_take, List.getElem?_take]
    split
    · rw [List.getElem?_drop, List.getElem?_drop, Nat.add_assoc, e _ (by omega)]
    · rfl
  · rw [if_neg ha, if_neg ha, e off (by omega)]

theorem part_whole {ti : TI} {c : AV} (h : Shp ti.isAgg ti.size c) (h1 : ti.isAgg = false → ti.size = 1) : part ti c.cells 0 = some c := by
  unfold part
  obtain ⟨h2, h3⟩ := h
  by_cases ha : ti.isAgg = true
  · rw [if_pos ha] at h3 ⊢
    obtain ⟨cs, rfl, _⟩ := h3
    rw [if_pos (by rw [h2]; omega)]
    simp [AV.cells] at h2 ⊢
    rw [← h2]; simp
  · rw [if_neg ha] at h3 ⊢
    rw [AV.cells_one h3]; rfl

theorem flat_set {els : List AV} (hz : ∀ el ∈ els, el.cells.length = sz) {i : Nat} (hi : i < els.length) {v : AV} (hv : v.cells.length = sz) (ex : List AV) : over (flatA els ++ ex) (0 + i * sz) v.cells = flatA (els.set i v) ++ ex := by
  induction els generalizing i with
  | nil => simp at hi
  | cons a els ih =>
    have ha := hz a (List.mem_cons_self ..)
    have hf : ∀ a els, flatA (a :: els) = a.cells ++ flatA els := by intro a els; simp [flatA]
    cases i with
    | zero =>
      simp only [List.set_cons_zero, hf, over, Nat.zero_mul, Nat.add_zero, List.take_zero, List.nil_append, Nat.zero_add]
      rw [hv, List.append_assoc, List.append_assoc, List.drop_append, ha]
      simp [← ha]
    | succ i =>
      have ih' := ih (fun el h => hz el (List.mem_cons_of_mem _ h)) (i := i) (by simpa using hi)
      simp only [List.set_cons_succ, hf, List.append_assoc]
      rw [← ih']
      unfold over
      have e : 0 + (i + 1) * sz = sz + (0 + i * sz) := by rw [Nat.add_mul]; omega
      rw [e]
      generalize 0 + i * sz = q
      have t1 : (a.cells ++ (flatA els ++ ex)).take (sz + q) = a.cells ++ (flatA els ++ ex).take q := by
        rw [List.take_append, ha, List.take_of_length_le (by omega)]; congr 2; omega
      have t2 : (a.cells ++ (flatA els ++ ex)).drop (sz + q + v.cells.length) = (flatA els ++ ex).drop (q + v.cells.length) := by
        rw [List.drop_append, ha, List.drop_eq_nil_of_le (by omega), List.nil_append]; congr 1; omega
      rw [t1, t2, List.append_assoc, List.append_assoc, List.append_assoc]

theorem MS.set (h : MS r ag sz l n cs) {i : Int} {x y : α} (hx : ix l i = some x) {v : AV} (hr : r y v) (hs : Shp ag sz v) : MS r ag sz (l.set i.toNat y) n (over cs (0 + i.toNat * sz) v.cells) := by
  obtain ⟨h0, h1, h2⟩ := ms_lt h hx
  obtain ⟨els, ex, rfl, h3, h4, h5⟩ := h.ex
  refine ⟨els.set i.toNat v, ex, flat_set (fun el hel => (h5 el hel).1) (by omega) hs.1 ex, by simp [h3], h4.set _ hr, ?_⟩
  intro el hel
  rcases List.mem_or_eq_of_mem_set hel with h | rfl
  · exact h5 el h
  · exact hs

theorem MS.bound (h : MS r ag sz l n cs) {i : Int} {x : α} (hx : ix l i = some x) : 0 + i.toNat * sz + sz ≤ cs.length := by
  obtain ⟨h0, h1, h2⟩ := ms_lt h hx
  obtain ⟨els, ex, rfl, h3, h4, h5⟩ := h.ex
  obtain ⟨c, h6, h7⟩ := h4.get h2
  have := (flat_at (fun el hel => (h5 el hel).1) h6 ex).2
  rw [List.length_append]; omega

theorem MS.cut (h : MS r ag sz l n cs) {k : IntKind} {hi : Int} (hc : Ae.cut l 0 hi = some m) : MS r ag sz m hi.toNat cs ∧ ((bndO (some (.int k hi)) n n).bind fun h => (bndO none h 0).map fun l => AV.ms ag sz b (0 + l * sz) (h - l)) = some (.ms ag sz b 0 hi.toNat) := by
  obtain ⟨h1, h2, h3, rfl⟩ := cut_some hc
  have hn := h.len
  obtain ⟨els, ex, rfl, h4, h5, h6⟩ := h.ex
  constructor
  · refine ⟨els.take hi.toNat, flatA (els.drop hi.toNat) ++ ex, ?_, by simp; omega, ?_, fun el hel => h6 el (List.mem_of_mem_take hel)⟩
    · rw [← List.append_assoc]
      congr 1
      conv => lhs; rw [← List.take_append_drop hi.toNat els]
      unfold flatA
      rw [List.map_append, List.flatten_append]
    · simpa using h5.take hi.toNat
  · unfold bndO
    simp only [bnd_int (show 0 ≤ hi by omega) (show hi ≤ (n : Nat) by omega), Option.bind_some, Option.map_some, Nat.zero_mul, Nat.add_zero, Nat.sub_zero]

theorem MS.app (h : MS r ag sz l n cs) {e : List AV} (hm : L2 r m e) (hs : Sh ag sz r) : MS r ag sz (l ++ m) (n + e.length) (cs.take (n * sz) ++ flatA e) := by
  obtain ⟨els, ex, rfl, h3, h4, h5⟩ := h.ex
  refine ⟨els ++ e, [], ?_, by simp [h3], h4.app hm, ?_⟩
  · have hfl : (flatA els).length = n * sz := by
      rw [← h3]
      exact flat_len (fun el hel => (h5 el hel).1)
    have e1 : flatA (els ++ e) = flatA els ++ flatA e := by unfold flatA; rw [List.map_append, List.flatten_append]
    rw [List.append_nil, List.take_append, hfl, List.take_of_length_le (by omega), Nat.sub_self, List.take_zero, List.append_nil, e1]
  · intro el hel
    rcases List.mem_append.1 hel with h | h
    · exact h5 el h
    · obtain ⟨i, hi⟩ := List.mem_iff_getElem?.1 h
      have hlt := (List.getElem?_eq_some_iff.1 hi).1
      rw [hm.len] at hlt
      obtain ⟨b, h1, h2⟩ := hm.get (List.getElem?_eq_getElem hlt)
      rw [hi] at h1
      cases h1
      exact hs _ _ h2
theorem MS.bound2 (h : MS r ag sz l n cs) : n * sz ≤ cs.length := by
  obtain ⟨els, ex, rfl, h3, h4, h5⟩ := h.ex
  have hfl : (flatA els).length = n * sz := by rw [← h3]; exact flat_len (fun el hel => (h5 el hel).1)
  rw [List.length_append]; omega
end
end Ae
/- The steps that make, read and write boxes. -/
namespace Ae
open Go

section
variable {C : Cfg} {I : FI} {t : List Item} {tm : Nat → AV} {os : Nat → Bool} {s s0 : St} {L : List BX} {Q : Fr → Prop} {all : Array Oper} {l : List Oper} {o : Oper} {draw : Bool}

theorem AOps.alloc1 {d ty : Nat} {ti : TI} (hH : HS s0 s L) (hw : wantedA o all tm = some true) (ho : o.op = .alloc ty) (hT : C.ty ty = some ti) (hb : lookBk I.bk d = some 1) (hz : layable ti.zero = true) (hd : o.dst = some d)
    (k : ∀ b s2, HS s0 s2 (⟨some b, ti.zero.cells, fun _ => false⟩ :: L) → AOps C I draw all l ⟨upd tm d (.ptr b 0), upd os d false, s2⟩ Q) : AOps C I draw all (o :: l) ⟨tm, os, s⟩ Q :=
  .op hw (by unfold callee?; rw [ho]) (f' := ⟨upd tm d (.ptr s.n 0), upd os d false, s.push ti.zero.cells⟩) (by simp [opF, moveOp, pureOp, makeOp, memOp, ho, hT, hd, hb, hz, Fr.put]) (k _ _ (hH.push _))

theorem AOps.box1 {d ty : Nat} {X : Operand} {v : AV} {ti : TI} (hH : HS s0 s L) (hw : wantedA o all tm = some true) (ho : o.op = .box ty X) (hT : C.ty ty = some ti) (hb : lookBk I.bk d = some 1) (hv : evalO tm X = v) (hz : layable v = true) (hn : v.cells.length = ti.size) (hd : o.dst = some d)
    (k : ∀ b s2, HS s0 s2 (⟨some b, v.cells, fun _ => false⟩ :: L) → AOps C I draw all l ⟨upd tm d (.ptr b 0), upd os d false, s2⟩ Q) : AOps C I draw all (o :: l) ⟨tm, os, s⟩ Q :=
  .op hw (by unfold callee?; rw [ho]) (f' := ⟨upd tm d (.ptr s.n 0), upd os d false, s.push v.cells⟩) (by simp [opF, moveOp, pureOp, makeOp, memOp, ho, hT, hd, hb, hv, hz, hn, Fr.put]) (k _ _ (hH.push _))

theorem AOps.ldB {d ty i b off : Nat} {X : Operand} {ti : TI} {x : BX} {v : AV} (hH : HS s0 s L) (hi : L[i]? = some x) (hb : x.b = some b) (hw : wantedA o all tm = some true) (ho : o.op = .load ty X) (hT : C.ty ty = some ti) (hX : evalO tm X = .ptr b off) (hp : part ti x.cs off = some v)
    (hm : (I.mv.contains d && !ti.isAgg && !isFull v) = false) (hd : o.dst = some d) (k : AOps C I draw all l ⟨upd tm d v, upd os d false, s⟩ Q) : AOps C I draw all (o :: l) ⟨tm, os, s⟩ Q := by
  have hx := (hH.bx x (List.mem_of_getElem? hi) b hb).2.2.1
  refine .op hw (by unfold callee?; rw [ho]) (f' := ⟨upd tm d v, upd os d false, s⟩) ?_ k
  unfold opF
  simp only [moveOp, pureOp, makeOp, ho]
  unfold memOp
  simp only [ho, hT, hX, hx, hp, Option.bind_some, hd, Option.getD_some, hm]
  rfl

theorem AOps.ldMv {d ty i b off : Nat} {X : Operand} {ti : TI} {x : BX} {v : AV} (hH : HS s0 s L) (hi : L[i]? = some x) (hb : x.b = some b) (hw : wantedA o all tm = some true) (ho : o.op = .load ty X) (hT : C.ty ty = some ti) (hX : evalO tm X = .ptr b off) (hp : part ti x.cs off = some v)
    (hm : I.mv.contains d = true) (ha : ti.isAgg = false) (hd : o.dst = some d) (hA : isFull v = true ∨ x.ow off = true)
    (k : ∀ o' ow' s2, (isFull v = true ∨ o' = true) → (∀ j, j ≠ off → ow' j = x.ow j) → HS s0 s2 (L.set i ⟨some b, x.cs, ow'⟩) → AOps C I draw all l ⟨upd tm d v, upd os d o', s2⟩ Q) : AOps C I draw all (o :: l) ⟨tm, os, s⟩ Q := by
  have hx := hH.bx x (List.mem_of_getElem? hi) b hb
  cases hf : isFull v with
  | true =>
    refine .op hw (by unfold callee?; rw [ho]) (f' := ⟨upd tm d v, upd os d false, s⟩) ?_ (k false x.ow s (.inl hf) (fun _ _ => rfl) ?_)
    · unfold opF
      simp only [moveOp, pureOp, makeOp, ho]
      unfold memOp
      simp only [ho, hT, hX, hx.2.2.1, hp, Option.bind_some, hd, Option.getD_some, hf]
      simp [Fr.put]
    · have : L.set i ⟨some b, x.cs, x.ow⟩ = L := by
        have : (⟨some b, x.cs, x.ow⟩ : BX) = x := by cases x; simp only at hb; subst hb; rfl
        rw [this]
        apply List.ext_getElem?
        intro j
        rw [List.getElem?_set]
        split
        · rename_i e; subst e; rw [hi]; split
          · rfl
          · rename_i h; exact absurd (List.getElem?_eq_some_iff.1 hi).1 h
        · rfl
      rw [this]; exact hH
  | false =>
    have hA' : x.ow off = true := by rcases hA with h | h; rw [hf] at h; cases h; exact h
    refine .op hw (by unfold callee?; rw [ho]) (f' := ⟨upd tm d v, upd os d true, { s with ow := upd s.ow b (upd (s.ow b) off false) }⟩) ?_ (k true _ _ (.inr rfl) (fun j hj => ?_) (hH.take hi hb))
    · unfold opF
      simp only [moveOp, pureOp, makeOp, ho]
      unfold memOp
      simp only [ho, hT, hX, hx.2.2.1, hp, Option.bind_some, hd, Option.getD_some, hf, hm, ha, hx.2.2.2, hA']
      simp [Fr.put]
    · simp [upd, hj]

def stOw (os : Nat → Bool) (X : Operand) (v : AV) (off size : Nat) (ow : Nat → Bool) : Nat → Bool := fun i =>
  if off ≤ i ∧ i < off + size then (match X with | .tmp t => decide (i = off) && v.one && os t | _ => false) else ow i
def own1 (os : Nat → Bool) : Operand → Bool
  | .tmp t => os t
  | _ => false

theorem HS.st {s0 s : St} {L : List BX} (h : HS s0 s L) {i b : Nat} {x : BX} (hi : L[i]? = some x) (hb : x.b = some b) : s.ro ≤ b ∧ s.lo ≤ b ∧ s.h b = some x.cs ∧ s.ow b = x.ow := by
  have hx := h.bx x (List.mem_of_getElem? hi) b hb
  exact ⟨by rw [h.ro]; exact Nat.le_trans h.wf hx.1, by rw [h.lo]; exact hx.1, hx.2.2.1, hx.2.2.2⟩

theorem AOps.stB {ty i b off : Nat} {p X : Operand} {ti : TI} {x : BX} {v : AV} (hH : HS s0 s L) (hi : L[i]? = some x) (hb : x.b = some b) (hw : wantedA o all tm = some true) (ho : o.op = .store ty p X) (hT : C.ty ty = some ti) (hX : evalO tm p = .ptr b off) (hv : evalO tm X = v)
    (hl : layable v = true) (hn : v.cells.length = ti.size) (h0 : 0 < ti.size) (hlen : off + ti.size ≤ x.cs.length) (hd : o.dst = none)
    (k : ∀ ow' s2, (∀ j, (j < off ∨ off + ti.size ≤ j) → ow' j = x.ow j) → (ow' off = (v.one && own1 os X)) → HS s0 s2 (L.set i ⟨some b, over x.cs off v.cells, ow'⟩) → AOps C I draw all l ⟨tm, clearO os X, s2⟩ Q) : AOps C I draw all (o :: l) ⟨tm, os, s⟩ Q := by
  obtain ⟨h1, h2, h3, h4⟩ := hH.st hi hb
  refine .op hw (by unfold callee?; rw [ho]) (f' := ⟨tm, clearO os X, s.setBox b (over x.cs off v.cells) (stOw os X v off ti.size (s.ow b))⟩) ?_ (k _ _ (fun j hj => ?_) ?_ (hH.set hi hb _ _))
  · unfold opF
    simp only [moveOp, pureOp, makeOp, ho]
    unfold memOp
    simp only [ho, hT, hX, hv, hl, hn, h0, hd, h3, Option.isNone_none, decide_true, Bool.and_self, if_true]
    rw [if_pos ⟨h1, hlen⟩, if_pos (.inl h2)]
    rfl
  · unfold stOw
    rw [if_neg (by omega), h4]
  · unfold stOw
    rw [if_pos ⟨Nat.le_refl _, by omega⟩]
    cases X <;> simp [own1]

-- ---- elements

def mk {α : Type} (z : α) (n : Int) : Option (List α) := if 0 ≤ n ∧ n ≤ LIM then some (List.replicate n.toNat z) else none

theorem AOps.mkS {α : Type} {r : α → AV → Prop} {x0 : α} {xs : List α} {d ty et : Nat} {ln cp : Operand} {T ei : TI} {n : Int} (hH : HS s0 s L) (hw : wantedA o all tm = some true) (ho : o.op = .makeSlice ty ln cp) (hT : C.ty ty = some T) (hTu : T.u = .slice et) (hE : C.ty et = some ei) (hl : evalO tm ln = .int .i64 n) (hc : evalO tm cp = .int .i64 n)
    (hz : layable ei.zero = true ∧ ei.zero.cells.length = ei.size ∧ ei.bytes ≤ 256) (hm : mk x0 n = some xs) (hr : r x0 ei.zero) (hs : Shp ei.isAgg ei.size ei.zero) (hd : o.dst = some d)
    (k : ∀ b s2 cs, MS r ei.isAgg ei.size xs n.toNat cs → HS s0 s2 (⟨some b, cs, fun _ => false⟩ :: L) → AOps C I draw all l ⟨upd tm d (.ms ei.isAgg ei.size b 0 n.toNat), upd os d false, s2⟩ Q) : AOps C I draw all (o :: l) ⟨tm, os, s⟩ Q := by
  obtain ⟨u, a, b, zz⟩ := T
  simp only at hTu
  subst hTu
  unfold mk at hm
  split at hm
  · rename_i hn
    cases hm
    refine .op hw (by unfold callee?; rw [ho]) (f' := ⟨upd tm d (.ms ei.isAgg ei.size s.n 0 n.toNat), upd os d false, s.push (List.replicate n.toNat ei.zero.cells).flatten⟩) ?_ (k _ _ _ ?_ (hH.push _))
    · unfold opF
      simp only [moveOp, pureOp, makeOp, ho]
      unfold memOp
      simp only [ho, hT, hE, hl, hc, hz.1, hz.2.1, hz.2.2, hd]
      simp [hn.1, hn.2, Fr.put]
    · refine ⟨List.replicate n.toNat ei.zero, [], by simp [flatA], by simp, L2.rep hr _, fun el hel => by rw [(List.mem_replicate.1 hel).2]; exact hs⟩
  · cases hm

/-- A copy out of an element's cells. -/
theorem AOps.ldM {α : Type} {r : α → AV → Prop} {xs : List α} {x0 : α} {ag : Bool} {sz n : Nat} {m : Int} {d ty i b off a : Nat} {X : Operand} {ti : TI} {x : BX} (hH : HS s0 s L) (hi : L[i]? = some x) (hb : x.b = some b) (hM : MS r ag sz xs n x.cs) (hx : ix xs m = some x0) (hw : wantedA o all tm = some true) (ho : o.op = .load ty X) (hT : C.ty ty = some ti)
    (hX : evalO tm X = .ptr b a) (hoff : a = 0 + m.toNat * sz + off) (h0 : 0 < ti.size) (h1 : off + ti.size ≤ sz) (hm : I.mv.contains d = false) (hd : o.dst = some d)
    (k : ∀ c, r x0 c → Shp ag sz c → ∀ v, part ti c.cells off = some v → AOps C I draw all l ⟨upd tm d v, upd os d false, s⟩ Q) (hv : ∀ c, r x0 c → Shp ag sz c → ∃ v, part ti c.cells off = some v) : AOps C I draw all (o :: l) ⟨tm, os, s⟩ Q := by
  obtain ⟨c, hr, hs, hp⟩ := part_ms hM hx ti
  obtain ⟨v, hv⟩ := hv c hr hs
  have hp := hp off h0 h1
  rw [hv, ← hoff] at hp
  exact .ldB hH hi hb hw ho hT hX hp (by rw [hm]; rfl) hd (k c hr hs v hv)

/-- An element is written. -/
theorem AOps.stM {α : Type} {r : α → AV → Prop} {xs : List α} {x0 y : α} {ag : Bool} {sz n : Nat} {m : Int} {ty i b : Nat} {p X : Operand} {ti : TI} {x : BX} {v : AV} (hH : HS s0 s L) (hi : L[i]? = some x) (hb : x.b = some b) (hM : MS r ag sz xs n x.cs) (hx : ix xs m = some x0) (hw : wantedA o all tm = some true) (ho : o.op = .store ty p X) (hT : C.ty ty = some ti)
    (hX : evalO tm p = .ptr b (0 + m.toNat * sz)) (hv : evalO tm X = v) (hr : r y v) (hs : Shp ag sz v) (hl : layable v = true) (hn : v.cells.length = ti.size) (h0 : 0 < ti.size) (hsz : ti.size = sz) (hd : o.dst = none)
    (k : ∀ cs' ow' s2, MS r ag sz (xs.set m.toNat y) n cs' → HS s0 s2 (L.set i ⟨some b, cs', ow'⟩) → AOps C I draw all l ⟨tm, clearO os X, s2⟩ Q) : AOps C I draw all (o :: l) ⟨tm, os, s⟩ Q :=
  .stB hH hi hb hw ho hT hX hv hl hn h0 (by have := hM.bound hx; omega) hd (fun ow' s2 _ _ h => k _ _ _ (hM.set hx hr hs) h)

theorem own_keep {f : Bool} {ow ow' : Nat → Bool} {j : Nat} (h : f = true ∨ ow j = true) (e : ow' j = ow j) : f = true ∨ ow' j = true := by rw [e]; exact h

theorem appM_run {C : Cfg} {f : Fr} {o : Oper} {ei : TI} {yt : Nat} {ag : Bool} {sz b n : Nat} {ys cs : List AV} {y : AV} (hy : appSrc C ei yt y = some ys) (hh : f.s.h b = some cs) (h1 : sz = ei.size) (h2 : ag = ei.isAgg) (h3 : n * sz ≤ cs.length) (h4 : f.s.ro ≤ b) (hei : 0 < ei.size ∧ ei.bytes ≤ 256 ∧ layable ei.zero = true ∧ ei.zero.cells.length = ei.size) (h5 : n + ys.length ≤ LIM) :
    appM C f o ei yt (.ms ag sz b 0 n) y = some { (f.put o.dst (.ms ag sz f.s.n 0 (n + ys.length)) false) with s := (f.s.kill b).push (cs.take (n * sz) ++ flatA ys) } := by
  unfold appM
  simp only [hy, hh]
  rw [if_pos ⟨h1, h2, trivial, h3, h4, hei.1, hei.2.1, hei.2.2.1, hei.2.2.2, h5⟩]

/-- An append to a slice over a box. -/
theorem AOps.appB {α : Type} {r : α → AV → Prop} {xs ys zs : List α} {d i b n : Nat} {x y : Operand} {st yt et : Nat} {T ei : TI} {bx : BX} {z' : Nat} {f' : Bool} {e' : List AV} (hH : HS s0 s L) (hi : L[i]? = some bx) (hb : bx.b = some b) (hM : MS r ei.isAgg ei.size xs n bx.cs) (hsh : Sh ei.isAgg ei.size r)
    (hw : wantedA o all tm = some true) (ho : o.op = .call { callee := .builtin .append, args := #[x, y], argTypes := #[st, yt] }) (hT : C.ty st = some T) (hTu : T.u = .slice et) (hE : C.ty et = some ei) (hX : evalO tm x = .ms ei.isAgg ei.size b 0 n) (hY : evalO tm y = .sl z' f' e') (hs : appSrc C ei yt (.sl z' f' e') = some e') (hr : L2 r ys e')
    (hei : 0 < ei.size ∧ ei.bytes ≤ 256 ∧ layable ei.zero = true ∧ ei.zero.cells.length = ei.size) (hdy : I.dy.contains d = true) (hd : o.dst = some d) (hz : app xs ys = some zs)
    (k : ∀ b' cs' s2, MS r ei.isAgg ei.size zs (n + e'.length) cs' → HS s0 s2 (L.set i ⟨some b', cs', fun _ => false⟩) → AOps C I draw all l ⟨upd tm d (.ms ei.isAgg ei.size b' 0 (n + e'.length)), upd os d false, s2⟩ Q) : AOps C I draw all (o :: l) ⟨tm, os, s⟩ Q := by
  obtain ⟨rfl, hlen⟩ := app_some hz
  obtain ⟨h1, h2, h3, h4⟩ := hH.st hi hb
  obtain ⟨u, a, b0, zz⟩ := T
  simp only at hTu
  subst hTu
  refine .op hw (by unfold callee?; rw [ho]) (f' := ⟨upd tm d (.ms ei.isAgg ei.size s.n 0 (n + e'.length)), upd os d false, (s.kill b).push (bx.cs.take (n * ei.size) ++ flatA e')⟩) ?_ (k _ _ _ (hM.app hr hsh) ?_)
  · unfold opF
    simp only [moveOp, pureOp, makeOp, ho]
    unfold memOp
    simp only [ho, hT, hE, hX, hY, show mayApp ⟨tm, os, s⟩ x (.ms ei.isAgg ei.size b 0 n) = none from rfl, hd, Option.any_some, hdy, if_true]
    rw [appM_run hs h3 rfl rfl hM.bound2 h1 hei (by rw [hM.len, hr.len]; exact hlen)]
    simp [Fr.put, hd]
  · refine hH.re hi (s1 := s.kill b) rfl rfl rfl rfl (fun b' => ?_) _
    by_cases e : b' = b
    · subst e; exact .inr hb
    · exact .inl (by simp [St.kill, upd, e])

/-- An append to a slice that is full, and that becomes one over a box. -/
theorem AOps.appN {α : Type} {r : α → AV → Prop} {xs ys zs : List α} {d : Nat} {x y : Operand} {st yt et : Nat} {T ei : TI} {z z' : Nat} {f' : Bool} {e e' : List AV} (hH : HS s0 s L) (hL : LR r ei.size xs z e) (hsh : Sh ei.isAgg ei.size r)
    (hw : wantedA o all tm = some true) (ho : o.op = .call { callee := .builtin .append, args := #[x, y], argTypes := #[st, yt] }) (hT : C.ty st = some T) (hTu : T.u = .slice et) (hE : C.ty et = some ei) (hX : evalO tm x = .sl z true e) (hY : evalO tm y = .sl z' f' e') (hs : appSrc C ei yt (.sl z' f' e') = some e') (hr : L2 r ys e') (hne : e'.isEmpty = false)
    (hei : 0 < ei.size ∧ ei.bytes ≤ 256 ∧ layable ei.zero = true ∧ ei.zero.cells.length = ei.size) (hdy : I.dy.contains d = true) (hd : o.dst = some d) (hz : app xs ys = some zs)
    (k : ∀ b' cs' s2, MS r ei.isAgg ei.size zs (e.length + e'.length) cs' → s2 = s.push cs' → b' = s.n → AOps C I draw all l ⟨upd tm d (.ms ei.isAgg ei.size b' 0 (e.length + e'.length)), upd os d false, s2⟩ Q) : AOps C I draw all (o :: l) ⟨tm, os, s⟩ Q := by
  obtain ⟨rfl, hlen⟩ := app_some hz
  obtain ⟨u, a, b0, zz⟩ := T
  simp only at hTu
  subst hTu
  refine .op hw (by unfold callee?; rw [ho]) (f' := ⟨upd tm d (.ms ei.isAgg ei.size s.n 0 (e.length + e'.length)), upd os d false, s.push (flatA (e ++ e'))⟩) ?_ (k _ _ _ ?_ rfl rfl)
  · unfold opF
    simp only [moveOp, pureOp, makeOp, ho]
    unfold memOp
    simp only [ho, hT, hE, hX, hY, show mayApp ⟨tm, os, s⟩ x (.sl z true e) = some (z, e) from rfl, hs, hd, Option.any_some, hdy, if_true]
    rw [if_pos ⟨hL.z, hei⟩, if_pos (by rw [hL.el.len, hr.len]; exact hlen)]
    simp [isFull, Fr.put]
    simpa using hne
  · have := MS.of (hL.el.app hr) hsh
    rwa [List.length_append] at this
end

-- ---- a slice over a box, or an empty one
def DY {α : Type} (r : α → AV → Prop) (ag : Bool) (sz : Nat) (l : List α) (v : AV) (x : BX) : Prop :=
  (x.b = none ∧ l = [] ∧ ∃ z, (z = sz ∨ z = 0) ∧ v = .sl z true []) ∨ ∃ b n, x.b = some b ∧ v = .ms ag sz b 0 n ∧ MS r ag sz l n x.cs

-- ---- what is handed back
def Fin (s : St) (n k : Nat) (p : AV → Prop) (v : AV) : Prop := (v.canonB n = true → p v) ∧ ∃ v', fin s n k v = some v' ∧ p v'
theorem Fin.of {s : St} {n k : Nat} {p : AV → Prop} {v : AV} (h : Nice k p) (hv : p v) : Fin s n k p v := ⟨fun _ => hv, h.fin s n v hv⟩

theorem chunk_flat {sz : Nat} {ag : Bool} (hag : ag = false → sz = 1) : ∀ {els : List AV}, (∀ el ∈ els, Shp ag sz el) → ∀ ex, chunk sz ag (flatA els ++ ex) els.length = els
  | [], _, ex => rfl
  | a :: els, h, ex => by
    have hf : flatA (a :: els) = a.cells ++ flatA els := by simp [flatA]
    have ha := h a (List.mem_cons_self ..)
    rw [List.length_cons, chunk, hf, List.append_assoc]
    have t1 : (a.cells ++ (flatA els ++ ex)).drop sz = flatA els ++ ex := by rw [← ha.1]; simp
    rw [t1, chunk_flat hag (fun el hel => h el (List.mem_cons_of_mem _ hel)) ex]
    congr 1
    cases ag with
    | true =>
      obtain ⟨h1, h2⟩ := ha
      rw [if_pos rfl] at h2
      obtain ⟨c, rfl, _⟩ := h2
      simp only [if_true, AV.cells] at h1 ⊢
      rw [← h1]; simp
    | false =>
      obtain ⟨h1, h2⟩ := ha
      have h2 : a.one = true := by simpa using h2
      rw [AV.cells_one h2]
      rfl

theorem Fin.ms {α : Type} {r : α → AV → Prop} {ag : Bool} {sz n k : Nat} {l : List α} {s0 s : St} {L : List BX} {i b : Nat} {x : BX} (hH : HS s0 s L) (hi : L[i]? = some x) (hb : x.b = some b) (hM : MS r ag sz l n x.cs) (hr : ∀ x, Nice k (r x)) (hag : ag = false → sz = 1) : Fin s s0.n (k + 1) (rL r sz l) (.ms ag sz b 0 n) := by
  have hx := hH.bx x (List.mem_of_getElem? hi) b hb
  have hc : (AV.ms ag sz b 0 n).canonB s0.n = false := by simp [AV.canonB]; omega
  refine ⟨fun h => (by rw [hc] at h; cases h), ?_⟩
  obtain ⟨els, ex, h1, h2, h3, h4⟩ := hM.ex
  obtain ⟨e', h5, h6⟩ := finL hr s s0.n h3
  refine ⟨.sl sz false e', ?_, sz, false, e', rfl, .inl rfl, h6⟩
  unfold fin
  rw [hc]
  simp only [hx.2.2.1]
  have hlen : (flatA els).length = n * sz := by rw [← h2]; exact flat_len (fun el hel => (h4 el hel).1)
  rw [if_neg (by simp), if_pos ⟨by rw [h1, List.length_append]; omega, by cases ag; exact .inr (hag rfl); exact .inl rfl⟩, List.drop_zero, h1, ← h2, chunk_flat hag h4 ex, h5]
  rfl

theorem Fin.dy {α : Type} {r : α → AV → Prop} {ag : Bool} {sz k : Nat} {l : List α} {s0 s : St} {L : List BX} {i : Nat} {x : BX} {v : AV} (hH : HS s0 s L) (hi : L[i]? = some x) (hD : DY r ag sz l v x) (hr : ∀ x, Nice k (r x)) (hag : ag = false → sz = 1) : Fin s s0.n (k + 1) (rL r sz l) v := by
  rcases hD with ⟨_, rfl, z, hz, rfl⟩ | ⟨b, n, hb, rfl, hM⟩
  · refine .of (Nice.L hr) ⟨z, true, [], rfl, ?_, .nil⟩
    rcases hz with hz | hz
    · exact .inl hz
    · exact .inr ⟨hz, rfl⟩
  · exact .ms hH hi hb hM hr hag

inductive AllF (s : St) (n k : Nat) : List (AV → Prop) → List AV → Prop
  | nil : AllF s n k [] []
  | cons {p ps c cs} (h : Fin s n k p c) (t : AllF s n k ps cs) : AllF s n k (p :: ps) (c :: cs)

theorem AllF.fin {s : St} {n k : Nat} : ∀ {ps : List (AV → Prop)} {cs : List AV}, AllF s n k ps cs → (AV.canonL n cs = true → Cs ps cs) ∧ ∃ cs', cs.mapM (fin s n k) = some cs' ∧ Cs ps cs'
  | _, _, .nil => ⟨fun _ => .nil, [], rfl, .nil⟩
  | _, _, .cons h t => by
    obtain ⟨h1, v', h2, h3⟩ := h
    obtain ⟨t1, cs', t2, t3⟩ := t.fin
    refine ⟨fun hc => ?_, v' :: cs', by simp [List.mapM_cons, h2, t2], .cons h3 t3⟩
    simp only [AV.canonL, Bool.and_eq_true] at hc
    exact .cons (h1 hc.1) (t1 hc.2)

theorem Fin.A {s : St} {n k : Nat} {ps : List (AV → Prop)} {cs : List AV} (h : AllF s n k ps cs) : Fin s n (k + 1) (rA ps) (.agg cs) := by
  obtain ⟨h1, cs', h2, h3⟩ := h.fin
  refine ⟨fun hc => ⟨cs, rfl, h1 (by simpa [AV.canonB] using hc)⟩, ?_⟩
  unfold Ae.fin
  split
  · rename_i hc
    exact ⟨_, rfl, cs, rfl, h1 (by simpa [AV.canonB] using hc)⟩
  · exact ⟨.agg cs', by simp [h2], cs', rfl, h3⟩
theorem Fin.T {s : St} {n k : Nat} {ps : List (AV → Prop)} {cs : List AV} (h : AllF s n k ps cs) : Fin s n (k + 1) (rT ps) (.tup cs) := by
  obtain ⟨h1, cs', h2, h3⟩ := h.fin
  refine ⟨fun hc => ⟨cs, rfl, h1 (by simpa [AV.canonB] using hc)⟩, ?_⟩
  unfold Ae.fin
  split
  · rename_i hc
    exact ⟨_, rfl, cs, rfl, h1 (by simpa [AV.canonB] using hc)⟩
  · exact ⟨.tup cs', by simp [h2], cs', rfl, h3⟩
end Ae
/- Boxes where ways meet; slices that may be over a box. -/
namespace Ae
open Go

def noBX : BX := ⟨none, [], fun _ => false⟩
def pickB (L : List BX) : Option Nat → BX
  | some i => L.getD i noBX
  | none => noBX

theorem HS.sel {s0 s : St} {L : List BX} (h : HS s0 s L) (ps : List (Option Nat)) (hd : (ps.filterMap id).Nodup) : HS s0 s (ps.map (pickB L)) where
  n := h.n
  ro := h.ro
  lo := h.lo
  wf := h.wf
  old := h.old
  bx := fun x hx b hb => by
    obtain ⟨p, _, rfl⟩ := List.mem_map.1 hx
    cases p with
    | none => cases hb
    | some i =>
      simp only [pickB, List.getD_eq_getElem?_getD] at hb ⊢
      cases hi : L[i]? with
      | none => rw [hi] at hb; cases hb
      | some y =>
        rw [hi] at hb
        exact h.bx y (List.mem_of_getElem? hi) b hb
  nd := by
    induction ps with
    | nil => exact List.nodup_nil
    | cons p ps ih =>
      cases p with
      | none => simpa [pickB, noBX] using ih (by simpa using hd)
      | some i =>
        simp only [List.filterMap_cons, id, List.nodup_cons] at hd
        have ih' := ih hd.2
        cases hi : L[i]? with
        | none =>
          have : (pickB L (some i)).b = none := by simp [pickB, List.getD_eq_getElem?_getD, hi, noBX]
          simpa [List.filterMap_cons, this] using ih'
        | some y =>
          have e : pickB L (some i) = y := by simp [pickB, List.getD_eq_getElem?_getD, hi]
          rw [List.map_cons, e]
          cases hb : y.b with
          | none => simpa [List.filterMap_cons, hb] using ih'
          | some b =>
            simp only [List.filterMap_cons, hb, List.nodup_cons]
            refine ⟨fun hm => ?_, ih'⟩
            obtain ⟨z, hz, hzb⟩ := List.mem_filterMap.1 hm
            obtain ⟨q, hq, rfl⟩ := List.mem_map.1 hz
            cases q with
            | none => cases hzb
            | some j =>
              cases hj : L[j]? with
              | none => simp [pickB, List.getD_eq_getElem?_getD, hj, noBX] at hzb
              | some w =>
                have e2 : pickB L (some j) = w := by simp [pickB, List.getD_eq_getElem?_getD, hj]
                rw [e2] at hzb
                have := nodup_inj h.nd hi hj hb hzb
                subst this
                exact hd.1 (List.mem_filterMap.2 ⟨some i, hq, rfl⟩)

section
variable {α : Type} {r : α → AV → Prop} {ag : Bool} {sz n b : Nat} {l m : List α} {v : AV} {x : BX}
theorem DY.e {z : Nat} (h : z = sz ∨ z = 0) : DY r ag sz ([] : List α) (.sl z true []) noBX := .inl ⟨rfl, rfl, z, h, rfl⟩
theorem DY.nil : DY r ag sz ([] : List α) (.sl 0 true []) noBX := .inl ⟨rfl, rfl, 0, .inr rfl, rfl⟩
theorem DY.nil' : DY r ag sz ([] : List α) (.sl sz true []) noBX := .inl ⟨rfl, rfl, sz, .inl rfl, rfl⟩
theorem DY.ms (hb : x.b = some b) (h : MS r ag sz l n x.cs) : DY r ag sz l (.ms ag sz b 0 n) x := .inr ⟨b, n, hb, rfl, h⟩
/-- It holds something: it is over a box. -/
theorem DY.has (h : DY r ag sz l v x) {i : Int} {y : α} (hy : ix l i = some y) : ∃ b n, x.b = some b ∧ v = .ms ag sz b 0 n ∧ MS r ag sz l n x.cs := by
  rcases h with ⟨_, rfl, _⟩ | h
  · simp [ix] at hy
  · exact h
theorem DY.one (h : DY r ag sz l v x) : v.one = true := by
  rcases h with ⟨_, _, z, _, rfl⟩ | ⟨b, n, _, rfl, _⟩ <;> rfl
theorem DY.lay (h : DY r ag sz l v x) : layable v = true := by
  rcases h with ⟨_, _, z, _, rfl⟩ | ⟨b, n, _, rfl, _⟩ <;> rfl
theorem DY.cells (h : DY r ag sz l v x) : v.cells = [v] := AV.cells_one h.one
theorem DY.len {C : Cfg} {o : Oper} {tm : Nat → AV} {X : Operand} {ty et a c : Nat} {zz : AV} (h : DY r ag sz l v x) (ho : o.op = .call { callee := .builtin .len, args := #[X], argTypes := #[ty] }) (hT : C.ty ty = some ⟨.slice et, a, c, zz⟩) (hX : evalO tm X = v) : pureOp C o tm = some (.int .i64 (l.length : Nat)) := by
  unfold pureOp
  rcases h with ⟨_, rfl, z, _, rfl⟩ | ⟨b, n, _, rfl, hM⟩
  · simp [ho, hT, hX]
  · simp [ho, hT, hX, hM.len]
/-- It is cut. -/
theorem DY.cut {C : Cfg} {o : Oper} {tm : Nat → AV} {X H : Operand} {ty et : Nat} {a c : Nat} {zz : AV} {ei : TI} {k : IntKind} {hi : Int} (h : DY r ag ei.size l v x) (ho : o.op = .slice ty X none (some H) none) (hT : C.ty ty = some ⟨.slice et, a, c, zz⟩) (hE : C.ty et = some ei) (hX : evalO tm X = v) (hH : evalO tm H = .int k hi) (hc : Ae.cut l 0 hi = some m) :
    ∃ v', DY r ag ei.size m v' x ∧ pureOp C o tm = some v' := by
  unfold pureOp
  rcases h with ⟨hb, rfl, z, hz, rfl⟩ | ⟨b, n, hb, rfl, hM⟩
  · obtain ⟨h1, h2, h3, rfl⟩ := cut_some hc
    have e : hi = 0 := by simp at h3; omega
    subst e
    refine ⟨.sl z true [], .inl ⟨hb, by simp, z, hz, rfl⟩, ?_⟩
    simp [ho, hT, hE, hX, hH, sliceA, bndO, bnd]
  · obtain ⟨h1, h2⟩ := hM.cut (b := b) (k := k) hc
    refine ⟨.ms ag ei.size b 0 hi.toNat, .inr ⟨b, _, hb, rfl, h1⟩, ?_⟩
    simp only [ho, hT, hE, hX, Option.map_none, Option.map_some, hH]
    rw [if_pos ⟨trivial, rfl⟩]
    exact h2
end

section
variable {C : Cfg} {I : FI} {t : List Item} {tm : Nat → AV} {os : Nat → Bool} {s s0 : St} {L : List BX} {Q : Fr → Prop} {all : Array Oper} {l : List Oper} {o : Oper} {draw : Bool}
/-- An append to what may be over a box. -/
theorem AOps.appD {α : Type} {r : α → AV → Prop} {xs ys zs : List α} {d i : Nat} {x y : Operand} {st yt et : Nat} {T ei : TI} {bx : BX} {v : AV} {z' : Nat} {f' : Bool} {e' : List AV} (hH : HS s0 s L) (hi : L[i]? = some bx) (hD : DY r ei.isAgg ei.size xs v bx) (hsh : Sh ei.isAgg ei.size r)
    (hw : wantedA o all tm = some true) (ho : o.op = .call { callee := .builtin .append, args := #[x, y], argTypes := #[st, yt] }) (hT : C.ty st = some T) (hTu : T.u = .slice et) (hE : C.ty et = some ei) (hX : evalO tm x = v) (hY : evalO tm y = .sl z' f' e') (hs : appSrc C ei yt (.sl z' f' e') = some e') (hr : L2 r ys e') (hne : e'.isEmpty = false)
    (hei : 0 < ei.size ∧ ei.bytes ≤ 256 ∧ layable ei.zero = true ∧ ei.zero.cells.length = ei.size) (hdy : I.dy.contains d = true) (hd : o.dst = some d) (hz : app xs ys = some zs)
    (k : ∀ b' n' cs' s2, MS r ei.isAgg ei.size zs n' cs' → HS s0 s2 (L.set i ⟨some b', cs', fun _ => false⟩) → AOps C I draw all l ⟨upd tm d (.ms ei.isAgg ei.size b' 0 n'), upd os d false, s2⟩ Q) : AOps C I draw all (o :: l) ⟨tm, os, s⟩ Q := by
  rcases hD with ⟨hb, rfl, z, hz0, rfl⟩ | ⟨b, n, hb, rfl, hM⟩
  · refine .appN (z := z) (e := []) hH ⟨?_, .nil⟩ hsh hw ho hT hTu hE hX hY hs hr hne hei hdy hd hz (fun b' cs' s2 h1 h2 h3 => ?_)
    · rcases hz0 with h | h
      · exact .inl h
      · exact .inr ⟨h, rfl⟩
    · subst h2 h3
      exact k _ _ _ _ h1 (hH.re hi rfl rfl rfl rfl (fun _ => .inl rfl) _)
  · exact .appB hH hi hb hM hsh hw ho hT hTu hE hX hY hs hr hei hdy hd hz (fun b' cs' s2 h1 h2 => k _ _ _ _ h1 h2)
/-- An append to an empty slice that is to be over a box. -/
theorem AOps.appE {α : Type} {r : α → AV → Prop} {xs ys zs : List α} {d : Nat} {x y : Operand} {st yt et : Nat} {T ei : TI} {z z' : Nat} {f' : Bool} {e e' : List AV} (hH : HS s0 s L) (hL : LR r ei.size xs z e) (hsh : Sh ei.isAgg ei.size r)
    (hw : wantedA o all tm = some true) (ho : o.op = .call { callee := .builtin .append, args := #[x, y], argTypes := #[st, yt] }) (hT : C.ty st = some T) (hTu : T.u = .slice et) (hE : C.ty et = some ei) (hX : evalO tm x = .sl z true e) (hY : evalO tm y = .sl z' f' e') (hs : appSrc C ei yt (.sl z' f' e') = some e') (hr : L2 r ys e') (hne : e'.isEmpty = false)
    (hei : 0 < ei.size ∧ ei.bytes ≤ 256 ∧ layable ei.zero = true ∧ ei.zero.cells.length = ei.size) (hdy : I.dy.contains d = true) (hd : o.dst = some d) (hz : app xs ys = some zs)
    (k : ∀ b' n' cs' s2, MS r ei.isAgg ei.size zs n' cs' → HS s0 s2 (⟨some b', cs', fun _ => false⟩ :: L) → AOps C I draw all l ⟨upd tm d (.ms ei.isAgg ei.size b' 0 n'), upd os d false, s2⟩ Q) : AOps C I draw all (o :: l) ⟨tm, os, s⟩ Q :=
  .appN hH hL hsh hw ho hT hTu hE hX hY hs hr hne hei hdy hd hz (fun b' cs' s2 h1 h2 h3 => by subst h2 h3; exact k _ _ _ _ h1 (hH.push cs'))
end
end Ae
namespace Ae
open Go
section
variable {C : Cfg} {I : FI} {t : List Item} {tm : Nat → AV} {os : Nat → Bool} {s s0 : St} {L : List BX} {Q : Fr → Prop} {all : Array Oper} {l : List Oper} {o : Oper} {draw : Bool}
theorem len_ms {α : Type} {r : α → AV → Prop} {ag : Bool} {sz n : Nat} {l : List α} {cs : List AV} (h : MS r ag sz l n cs) : AV.int .i64 (n : Nat) = .int .i64 (l.length : Nat) := by rw [h.len]
theorem own_st {f o : Bool} {os : Nat → Bool} {X : Operand} {t j : Nat} {w : Nat → Bool} {v : AV} (h : f = true ∨ o = true) (hw : w j = (v.one && own1 os X)) (hv : v.one = true) (hX : X = .tmp t) (ho : os t = o) : f = true ∨ w j = true := by
  rcases h with h | h
  · exact .inl h
  · refine .inr ?_
    rw [hw, hv, hX]
    simp [own1, ho, h]
theorem AOps.appB' {α : Type} {r : α → AV → Prop} {xs ys zs : List α} {d i b n : Nat} {x y : Operand} {st yt et : Nat} {T ei : TI} {bx : BX} {z' : Nat} {f' : Bool} {e' : List AV} (hH : HS s0 s L) (hi : L[i]? = some bx) (hb : bx.b = some b) (hM : MS r ei.isAgg ei.size xs n bx.cs) (hsh : Sh ei.isAgg ei.size r)
    (hw : wantedA o all tm = some true) (ho : o.op = .call { callee := .builtin .append, args := #[x, y], argTypes := #[st, yt] }) (hT : C.ty st = some T) (hTu : T.u = .slice et) (hE : C.ty et = some ei) (hX : evalO tm x = .ms ei.isAgg ei.size b 0 n) (hY : evalO tm y = .sl z' f' e') (hs : appSrc C ei yt (.sl z' f' e') = some e') (hr : L2 r ys e')
    (hei : 0 < ei.size ∧ ei.bytes ≤ 256 ∧ layable ei.zero = true ∧ ei.zero.cells.length = ei.size) (hdy : I.dy.contains d = true) (hd : o.dst = some d) (hz : app xs ys = some zs)
    (k : ∀ b' n' cs' s2, MS r ei.isAgg ei.size zs n' cs' → HS s0 s2 (L.set i ⟨some b', cs', fun _ => false⟩) → AOps C I draw all l ⟨upd tm d (.ms ei.isAgg ei.size b' 0 n'), upd os d false, s2⟩ Q) : AOps C I draw all (o :: l) ⟨tm, os, s⟩ Q :=
  .appB hH hi hb hM hsh hw ho hT hTu hE hX hY hs hr hei hdy hd hz (fun b' cs' s2 h1 h2 => k _ _ _ _ h1 h2)
end
end Ae
namespace Ae
open Go
theorem lt_b {a b : Nat} (h : Nat.blt a b = true) : a < b := Nat.le_of_ble_eq_true h
theorem le_b {a b : Nat} (h : Nat.ble a b = true) : a ≤ b := Nat.le_of_ble_eq_true h
theorem resA_cell {C : Cfg} {I : FI} {f : Fr} {a ty b off : Nat} {ti : TI} {cs : List AV} {v : AV} (h : I.res = [.cell a ty]) (hT : C.ty ty = some ti) (ha : f.tm a = .ptr b off) (hh : f.s.h b = some cs) (hp : part ti cs off = some v) : resA C I f = some (v, false) := by
  unfold resA
  rw [h]
  simp [resOne, hT, ha, hh, hp]
end Ae
namespace Ae
open Go
theorem resA_dy {α : Type} {C : Cfg} {I : FI} {f : Fr} {t i k : Nat} {r : α → AV → Prop} {ag : Bool} {sz : Nat} {l : List α} {v : AV} {x : BX} {s0 : St} {L : List BX} (hres : I.res = [.tmp t]) (ht : f.tm t = v) (hH : HS s0 f.s L) (hi : L[i]? = some x) (hD : DY r ag sz l v x) (hr : ∀ x, Nice k (r x)) (hag : ag = false → sz = 1) :
    ∃ v o, resA C I f = some (v, o) ∧ ∃ v', fin f.s s0.n (k + 1) v = some v' ∧ rL r sz l v' := by
  unfold resA
  rw [hres]
  rcases hD with ⟨hb, rfl, z, hz, rfl⟩ | ⟨b, n, hb, rfl, hM⟩
  · refine ⟨.sl z false [], f.os t || true, by simp [resOne, ht], ?_⟩
    exact (Fin.of (Nice.L hr) ⟨z, false, [], rfl, by rcases hz with h | h; exact .inl h; exact .inr ⟨h, rfl⟩, .nil⟩).2
  · exact ⟨.ms ag sz b 0 n, false, by simp [resOne, ht], (Fin.ms hH hi hb hM hr hag).2⟩
end Ae
namespace Ae
open Go
theorem HS.fr {s0 s : St} {L : List BX} (h : HS s0 s L) {i : Nat} {x : BX} (hi : L[i]? = some x) : ∀ b, x.b = some b → s.h b = some x.cs := fun b hb => (h.bx x (List.mem_of_getElem? hi) b hb).2.2.1
section
variable {C : Cfg} {I : FI} {tm : Nat → AV} {os : Nat → Bool} {s : St} {Q : Fr → Prop} {all : Array Oper} {l : List Oper} {o : Oper} {draw : Bool}
/-- A copy out of an element's cells, in a box of the caller's. -/
theorem AOps.ldF {α : Type} {r : α → AV → Prop} {xs : List α} {x0 : α} {ag : Bool} {sz n : Nat} {m : Int} {d ty b off a : Nat} {X : Operand} {ti : TI} {cs : List AV} (hh : s.h b = some cs) (hM : MS r ag sz xs n cs) (hx : ix xs m = some x0) (hw : wantedA o all tm = some true) (ho : o.op = .load ty X) (hT : C.ty ty = some ti)
    (hX : evalO tm X = .ptr b a) (hoff : a = 0 + m.toNat * sz + off) (h0 : 0 < ti.size) (h1 : off + ti.size ≤ sz) (hm : I.mv.contains d = false) (hd : o.dst = some d)
    (k : ∀ c, r x0 c → Shp ag sz c → ∀ v, part ti c.cells off = some v → AOps C I draw all l ⟨upd tm d v, upd os d false, s⟩ Q) (hv : ∀ c, r x0 c → Shp ag sz c → ∃ v, part ti c.cells off = some v) : AOps C I draw all (o :: l) ⟨tm, os, s⟩ Q := by
  obtain ⟨c, hr, hs, hp⟩ := part_ms hM hx ti
  obtain ⟨v, hv⟩ := hv c hr hs
  have hp := hp off h0 h1
  rw [hv, ← hoff] at hp
  refine .op hw (by unfold callee?; rw [ho]) (f' := ⟨upd tm d v, upd os d false, s⟩) ?_ (k c hr hs v hv)
  unfold opF
  simp only [moveOp, pureOp, makeOp, ho]
  unfold memOp
  simp only [ho, hT, hX, hh, hp, Option.bind_some, hd, Option.getD_some, hm]
  rfl
end
end Ae
namespace Ae
theorem lay_cons {a : AV} {cs : List AV} (h : a.one = true) (k : layable (.agg cs) = true) : layable (.agg (a :: cs)) = true := by
  simp only [layable, List.all_cons, Bool.and_eq_true] at k ⊢
  exact ⟨h, k⟩
theorem lay_nil : layable (.agg []) = true := rfl
end Ae
/- Functions without a body of their own: internal/bytealg.IndexByteString. -/
namespace Ae
open Go

theorem Ret.pure {E : Env} {s : St} (hc : Core E s) (hlo : s.lo ≤ s.n) {v : AV} {y : Value} (hv : V E v y) : Ret E s v false s y E.w := by
  refine ⟨E, rfl, ?_⟩
  have h := Inv.enter hc hlo (args := [v]) (vs := #[y]) (nt := 1) ⟨rfl, fun i c x hc hx => by
    cases i with
    | zero => simp at hc hx; subst hc hx; exact hv
    | succ i => simp at hc⟩
  have ea : (⟨#[y] ++ Array.replicate (1 - #[y].size) undef, []⟩ : Act) = ⟨#[y], []⟩ := by simp
  rw [ea] at h
  have eos : ∀ t, (retFr v false s).os t = false := fun t => by simp [retFr]
  exact { h with
    v := fun t => by
      cases t with
      | zero => exact hv
      | succ t => exact .undef _
    held := fun t ht => by rw [eos] at ht; cases ht
    dt := fun t t' g h1 _ => by have := h1.1; rw [eos] at this; cases this
    dc := fun t b i g h1 _ => by have := h1.1; rw [eos] at this; cases this
    oT := fun t g h1 => by have := h1.1; rw [eos] at this; cases this }

/-- strings.IndexByte and its kin. -/
def ixByte (s : List UInt8) (c : Int) : Int := Lib.indexByte s c.toNat.toUInt8
def φByte : List AV → Option (AV × Bool)
  | [.str s, .int .u8 c] => some (.int .i64 (ixByte s c), false)
  | _ => none

theorem φByte_ok {P : Program} {g : Nat} {fn : Func} (hf : P.funcs[g]? = some fn) (hname : (fn.name == "runtime.NumGoroutine") = false) (hb : fn.body.isNone = true) (hn : Extern.findNext fn = none) (he : Extern.find fn = some Extern.BytealgIndexByte.indexByte) :
    ∀ args v ow, φByte args = some (v, ow) → ∀ (E : Env) (s : St) (vs : Array Value), Core E s → s.lo ≤ s.n → VA E args vs → Reach P g vs E.w (Ret E s v ow s) := by
  intro args v ow h E s vs hc hlo hva
  unfold φByte at h
  split at h
  · rename_i b c
    cases h
    obtain ⟨hl, hv⟩ := hva
    obtain ⟨x, y, rfl⟩ : ∃ x y, vs = #[x, y] := by
      obtain ⟨l⟩ := vs
      match l, hl with
      | [x, y], _ => exact ⟨x, y, rfl⟩
    have h0 := hv 0 _ _ rfl rfl
    have h1 := hv 1 _ _ rfl rfl
    simp at h0 h1
    cases h1
    generalize hbb : (AV.str b) = bb at h0
    cases h0 <;> cases hbb
    refine .inr ⟨.int .i64 _, E.w, ?_, Ret.pure hc hlo (.int _ _)⟩
    rw [run_callFunc_extern hf hname hb hn he, Lib.run_indexByteString]
    rfl
  · cases h
end Ae
/- strings.Join, by the shelf's contract. -/
namespace Ae
open Go Go.RowKit

theorem Ret.below {E : Env} {s : St} (hc : Core E s) (hlo : s.lo ≤ s.n) {v : AV} {y : Value} {w' : World} (hb : Below E.w.heap.size E.w w') (hv : V E v y) : Ret E s v false s y w' := by
  have hh : ∀ g, g < E.w.heap.size → w'.heap[g]? = E.w.heap[g]? := fun g hg => hb.block g hg
  have hle : E.le { E with w := w' } := ⟨Nat.le_refl _, fun _ _ => rfl, fun _ => Nat.le_refl _, fun g o ho => by
    have hg : g < E.w.heap.size := by
      rcases Nat.lt_or_ge g E.w.heap.size with h | h
      · exact h
      · rw [hc.new g h] at ho; cases ho
    exact cell_heap (hh g hg), fun _ _ => rfl⟩
  obtain ⟨hc', hsp⟩ := hc.step hle rfl (fun _ _ => rfl) hb.size (fun g hg => hc.new g (Nat.le_trans hb.size hg)) (fun b hb' => ⟨hh _ (hc.blt b hb'), rfl⟩) (fun b i g hs => ⟨hh g (hc.lt hs), rfl⟩)
  have eos : ∀ t, (retFr v false s).os t = false := fun t => by simp [retFr]
  refine ⟨{ E with w := w' }, rfl, ?_⟩
  exact {
    core := hc', le := hle, os := hb.os, tape := hb.tape, out := hb.output, size := hb.size
    fr := fun g hg _ => ⟨hh g hg, rfl⟩
    bx := fun b h1 h2 => by have h2' : b < s.n := h2; omega
    v := fun t => by
      cases t with
      | zero => exact hv.le hle
      | succ t => exact .undef _
    held := fun t ht => by rw [eos] at ht; cases ht
    dt := fun t t' g h1 _ => by have := h1.1; rw [eos] at this; cases this
    dc := fun t b i g h1 _ => by have := h1.1; rw [eos] at this; cases this
    oT := fun t g h1 => by have := h1.1; rw [eos] at this; cases this
    oC := fun b i g hs => .inr ⟨b, i, (hsp b i g).1 hs⟩
    ro := rfl, lo := rfl, n := Nat.le_refl _, n0 := hc.n, lon := hlo
    pb := fun k _ h => h
    nt := by simp }

def strs : List AV → Option (List (List UInt8))
  | [] => some []
  | .str s :: l => (strs l).map (s :: ·)
  | _ => none

/-- strings.Join. -/
def joinS (l : List (List UInt8)) (sep : List UInt8) : Option (List UInt8) := if l.length ≤ 140737488355328 ∧ (Lib.join l sep).length ≤ 140737488355328 then some (Lib.join l sep) else none
def φJoin : List AV → Option (AV × Bool)
  | [.sl 1 _ els, .str sep] => (strs els).bind fun l => (joinS l sep).map fun w => (.str w, false)
  | [.sl 0 _ [], .str sep] => (joinS [] sep).map fun w => (.str w, false)
  | _ => none

theorem strs_get : ∀ {els : List AV} {l : List (List UInt8)}, strs els = some l → els = l.map AV.str
  | [], l, h => by cases h; rfl
  | .str s :: els, l, h => by
    simp only [strs, Option.map_eq_some_iff] at h
    obtain ⟨l', h1, rfl⟩ := h
    rw [strs_get h1]; rfl
  | .undef :: _, _, h | .bool _ :: _, _, h | .int _ _ :: _, _, h | .nilp :: _, _, h | .ptr _ _ :: _, _, h | .eptr _ _ :: _, _, h | .sl _ _ _ :: _, _, h | .ms _ _ _ _ _ :: _, _, h | .agg _ :: _, _, h | .tup _ :: _, _, h | .fn _ _ :: _, _, h | .nilfn :: _, _, h | .pend _ :: _, _, h => by simp [strs] at h

theorem strs_rL {l : List (List UInt8)} {z : Nat} {e : List AV} (h : LR rS 1 l z e) : strs e = some l := by
  have : ∀ {l : List (List UInt8)} {e : List AV}, L2 rS l e → strs e = some l := by
    intro l e h
    induction h with
    | nil => rfl
    | cons h k ih => cases h; simp [strs, ih]
  exact this h.el

theorem φJoin_ok {P : Program} {g : Nat} {fn : Func} (hf : P.funcs[g]? = some fn) (hname : (fn.name == "runtime.NumGoroutine") = false) (hb : fn.body.isSome = true)
    (h0 : ∀ (a : Option Addr) (c : Nat) (sep : ByteArray) (w : World), Calls P g #[.slice a 0 c, .string sep] w fun e w' => e = .returned (.string ⟨#[]⟩) ∧ w' = w)
    (hJ : ∀ (bk o c : Nat) (xs : List ByteArray) (sep : ByteArray) (w : World), (∀ (j : Nat) x, xs[j]? = some x → w.cell? ⟨bk, o + j, none⟩ = some (.string x)) → bk < w.heap.size → xs.length ≤ 140737488355328 → xs.length ≤ c → (Lib.join (xs.map (·.data.toList)) sep.data.toList).length ≤ 140737488355328 →
      Calls P g #[.slice (some ⟨bk, o, none⟩) xs.length c, .string sep] w fun e w' => e = .returned (.string ⟨(Lib.join (xs.map (·.data.toList)) sep.data.toList).toArray⟩) ∧ Below w.heap.size w w') :
    ∀ args v ow, φJoin args = some (v, ow) → ∀ (E : Env) (s : St) (vs : Array Value), Core E s → s.lo ≤ s.n → VA E args vs → Reach P g vs E.w (Ret E s v ow s) := by
  have hent : ∀ vs w, (callFunc g vs).run P w = .ok (.enter g vs) w := by
    intro vs w
    have h1 : fn.name ≠ "runtime.NumGoroutine" := by simpa using hname
    obtain ⟨bd, hbd⟩ := Option.isSome_iff_exists.1 hb
    simp [callFunc, hf, h1, hbd]
  have nil : ∀ (sep : ByteArray) (a : Option Addr) (c : Nat) (E : Env) (s : St), Core E s → s.lo ≤ s.n → Reach P g #[.slice a 0 c, .string sep] E.w (Ret E s (.str []) false s) := by
    intro sep a c E s hc hlo
    refine .inl ⟨hent _ _, (h0 a c sep E.w).mono fun e w' h => ?_⟩
    obtain ⟨rfl, rfl⟩ := h
    exact ⟨_, rfl, Ret.pure hc hlo (.str ⟨#[]⟩)⟩
  have two : ∀ {E : Env} {a b : AV} {vs : Array Value}, VA E [a, b] vs → ∃ x y, vs = #[x, y] ∧ V E a x ∧ V E b y := by
    intro E a b vs ⟨hl, hv⟩
    obtain ⟨l⟩ := vs
    match l, hl with
    | [x, y], _ => exact ⟨x, y, rfl, hv 0 _ _ rfl rfl, hv 1 _ _ rfl rfl⟩
  intro args v ow h E s vs hc hlo hva
  unfold φJoin at h
  split at h
  · rename_i f els sepl
    simp only [Option.bind_eq_some_iff, Option.map_eq_some_iff] at h
    obtain ⟨l, hl, w, hj, h⟩ := h
    cases h
    obtain ⟨x, y, rfl, hx, hy⟩ := two hva
    generalize hbb : (AV.str sepl) = bb at hy
    cases hy <;> cases hbb
    rename_i sep
    unfold joinS at hj
    split at hj
    · rename_i hlim
      cases hj
      have he := strs_get hl
      generalize hss : (AV.sl 1 f els) = ss at hx
      cases hx <;> cases hss
      · have : l = [] := by simpa using he.symm
        subst this
        have := nil sep (by assumption) 0 E s hc hlo
        simpa [Lib.join] using this
      · rename_i g' o cap vals hcap k0 k3 hz k1 k2 hfull
        by_cases hnil : l = []
        · subst hnil
          have hels : els = [] := by simpa using he
          subst hels
          have := nil sep (some ⟨g', o, none⟩) cap E s hc hlo
          simpa [Lib.join] using this
        · have hget : ∀ (j : Nat) w, l[j]? = some w → els[j]? = some (.str w) := fun j w hw => by rw [he]; simp [hw]
          have hval : ∀ (j : Nat) w, l[j]? = some w → ∃ b : ByteArray, vals j 0 = .string b ∧ b.data.toList = w := by
            intro j w hw
            have := k3 j _ 0 _ (hget j w hw) rfl
            generalize hq : (AV.str w) = q at this
            generalize hq2 : vals j 0 = q2 at this
            cases this <;> cases hq
            exact ⟨_, rfl, rfl⟩
          let xs : List ByteArray := l.map fun w => ⟨w.toArray⟩
          have hxs : xs.map (·.data.toList) = l := by
            simp only [xs, List.map_map]
            exact (List.map_congr_left (fun _ _ => rfl)).trans (List.map_id l)
          have hlen : xs.length = els.length := by rw [he]; simp [xs]
          have hbk : g' < E.w.heap.size := by
            cases l with
            | nil => exact absurd rfl hnil
            | cons a l =>
              have h1 := k1 0 _ 0 _ (hget 0 a rfl) rfl
              rcases Nat.lt_or_ge g' E.w.heap.size with h | h
              · exact h
              · rw [hc.new g' h] at h1; cases h1
          have hcall := hJ g' o cap xs sep E.w (fun j x hx => by
            simp only [xs, List.getElem?_map, Option.map_eq_some_iff] at hx
            obtain ⟨w, hw, rfl⟩ := hx
            have h1 := k2 j _ 0 _ (hget j w hw) rfl
            obtain ⟨b, h2, h3⟩ := hval j w hw
            have : (⟨w.toArray⟩ : ByteArray) = b := by rw [← h3]
            rw [this, ← h2]
            simpa using h1) hbk (by rw [show xs.length = l.length by simp [xs]]; exact hlim.1) (by rw [hlen]; exact hcap) (by rw [hxs]; exact hlim.2)
          rw [hxs, hlen] at hcall
          refine .inl ⟨hent _ _, hcall.mono fun e w' h => ?_⟩
          obtain ⟨rfl, hbel⟩ := h
          exact ⟨_, rfl, Ret.below hc hlo hbel (.str ⟨(Lib.join l sep.data.toList).toArray⟩)⟩
    · cases hj
  · rename_i f sepl
    simp only [Option.map_eq_some_iff] at h
    obtain ⟨w, hj, h⟩ := h
    cases h
    obtain ⟨x, y, rfl, hx, hy⟩ := two hva
    generalize hbb : (AV.str sepl) = bb at hy
    cases hy <;> cases hbb
    rename_i sep
    have hw : w = [] := by
      unfold joinS at hj
      split at hj <;> cases hj
      rfl
    subst hw
    generalize hss : (AV.sl 0 f []) = ss at hx
    cases hx <;> cases hss
    · exact nil sep _ 0 E s hc hlo
    · exact nil sep _ _ E s hc hlo
  · cases h
end Ae
namespace Ae
def ixByteM (s : List UInt8) (c : Int) : Option Int := some (ixByte s c)
theorem φJoin_run {l : List (List UInt8)} {z : Nat} {f : Bool} {e : List AV} (hL : LR rS 1 l z e) {sep r : List UInt8} (h : joinS l sep = some r) : φJoin [.sl z f e, .str sep] = some (.str r, false) := by
  have hs := strs_rL hL
  rcases hL.z with hz | ⟨hz, he⟩
  · subst hz
    simp [φJoin, hs, h]
  · subst hz he
    simp [strs] at hs
    subst hs
    simp [φJoin, h]
end Ae
/- What a law is handed: whatever can be read as data stands for a plain value. -/
namespace Ae
open Go

/-- Cells stand for cells. -/
def VL (E : Env) (as : List AV) (cs : List Value) : Prop := as.length = cs.length ∧ ∀ (i : Nat) a c, as[i]? = some a → cs[i]? = some c → V E a c ∧ a.one = true

theorem VL.nil {E : Env} : VL E [] [] := ⟨rfl, fun i a c h => by simp at h⟩
theorem VL.one {E : Env} {a : AV} {c : Value} (h : V E a c) (ha : a.one = true) : VL E [a] [c] := ⟨rfl, fun i a' c' h1 h2 => by
  cases i with
  | zero => simp at h1 h2; subst h1 h2; exact ⟨h, ha⟩
  | succ i => simp at h1⟩
theorem VL.cat {E : Env} {as bs : List AV} {cs : List Value} {o n m : Nat} (h : VL E as ((cs.drop o).take n)) (k : VL E bs ((cs.drop (o + n)).take m)) (hn : as.length = n) : VL E (as ++ bs) ((cs.drop o).take (n + m)) := by
  have e : (cs.drop o).take (n + m) = (cs.drop o).take n ++ (cs.drop (o + n)).take m := by
    rw [List.take_add, List.drop_drop]
  rw [e]
  refine ⟨by rw [List.length_append, List.length_append, h.1, k.1], fun i a c h1 h2 => ?_⟩
  by_cases hi : i < as.length
  · rw [List.getElem?_append_left hi] at h1
    rw [List.getElem?_append_left (by rw [← h.1]; exact hi)] at h2
    exact h.2 i a c h1 h2
  · rw [List.getElem?_append_right (by omega)] at h1
    rw [List.getElem?_append_right (by rw [← h.1]; omega), ← h.1] at h2
    exact k.2 _ a c h1 h2

section
variable {H : Type} {enc : TypeId × Value → H} {P : Program} {W : World}

/-- Whatever reads as data of a type stands for a plain value, of which B holds. -/
def Rd (enc : TypeId × Value → H) (P : Program) (W : World) (t : TypeId) {α : Type} (f : α → List (AV → Prop)) (B : α → Prop) : Prop :=
  ∀ fuel cs d p, DataW.trod enc P W 0 (fun _ => true) true fuel t cs = some (d, p) → ∃ (x : α) (as : List AV), Cs (f x) as ∧ VL (Env.of W) as cs ∧ B x

def bI (k : IntKind) (n : Int) : Prop := (Lit.int k n).wf = true
def bB (_ : Bool) : Prop := True
def bS (s : List UInt8) : Prop := s.length ≤ maxLen
def bL {α : Type} (B : α → Prop) (l : List α) : Prop := l.length ≤ maxLen ∧ ∀ x ∈ l, B x

theorem Rd.int {t : TypeId} {k : IntKind} (ht : P.underlying t = some (.int k)) : Rd enc P W t (fun x => [rI k x]) (bI k) := by
  intro fuel cs d p h
  obtain ⟨n, rfl, _, hw⟩ := DataW.trod_int ht h
  exact ⟨n, [_], .cons rfl .nil, .one (.int _ _) rfl, hw⟩
theorem Rd.bool {t : TypeId} (ht : P.underlying t = some .bool) : Rd enc P W t (fun x => [rB x]) bB := by
  intro fuel cs d p h
  obtain ⟨b, rfl, _⟩ := DataW.trod_bool ht h
  exact ⟨b, [_], .cons rfl .nil, .one (.bool _) rfl, trivial⟩
theorem Rd.str {t : TypeId} (ht : P.underlying t = some .string) : Rd enc P W t (fun x => [rS x]) bS := by
  intro fuel cs d p h
  obtain ⟨s, rfl, _, hs⟩ := DataW.trod_string ht h
  exact ⟨_, [_], .cons rfl .nil, .one (.str s) rfl, by unfold bS; simpa using hs⟩

/-- An element that stands in its cells. -/
def elemOf (ag : Bool) (as : List AV) : AV := if ag then .agg as else as.headD .undef

theorem elem_cells {E : Env} {ag : Bool} {sz : Nat} {as : List AV} {cs : List Value} (h : VL E as cs) (hl : as.length = sz) (h0 : ag = false → sz = 1) : (elemOf ag as).cells = as := by
  cases ag with
  | true => rfl
  | false =>
    have h1 := h0 rfl
    match as, hl with
    | [a], _ =>
      have hlen := h.1
      match cs, hlen with
      | [c], _ => exact AV.cells_one (h.2 0 a c rfl rfl).2
    | [], hl => simp at hl; omega
    | _ :: _ :: _, hl => simp at hl; omega

theorem cell_pr {W : World} {g o : Nat} {v : Value} (h : W.cell? ⟨g, o, none⟩ = some v) : o < (Env.of W).pr g := by
  unfold World.cell? at h
  simp only [Env.of]
  split at h
  · rename_i c t fr hg
    simp only [Option.isSome_none, Bool.false_eq_true, if_false] at h
    simp only [hg]
    exact (Array.getElem?_eq_some_iff.1 h).1
  · cases h

theorem Rd.slice {t e : TypeId} {α : Type} {f : α → List (AV → Prop)} {B : α → Prop} {r : α → AV → Prop} {ag : Bool} {sz : Nat} (ht : P.underlying t = some (.slice e)) (hsz : P.cellsOf e = sz) (hpos : 0 < sz) (h0 : ag = false → sz = 1) (hr : Rd enc P W e f B) (hrf : ∀ x as, Cs (f x) as → as.length = sz → r x (elemOf ag as)) :
    Rd enc P W t (fun l => [rL r sz l]) (bL B) := by
  intro fuel cs d p h
  rcases Deep.open_slice ht h with ⟨rfl, _⟩ | ⟨a, len, cap, m, n, D, Pl, rfl, _, hlc, hmax, hm, _, hx⟩
  · exact ⟨[], [.sl 0 false []], .cons ⟨0, false, [], rfl, .inr ⟨rfl, rfl⟩, .nil⟩ .nil, .one (.slNil 0 false none) rfl, by simp [bL]⟩
  · have hm' : m = cap := by simpa using hm
    subst hm'
    by_cases hc0 : m = 0
    · subst hc0
      have hl0 : len = 0 := by omega
      subst hl0
      exact ⟨[], [.sl 0 false []], .cons ⟨0, false, [], rfl, .inr ⟨rfl, rfl⟩, .nil⟩ .nil, .one (.slNil 0 false (some a)) rfl, by simp [bL]⟩
    · have hsp : a.spot = none := by
        obtain ⟨cs', h1, _⟩ := hx 0 (by omega)
        rw [hsz] at h1
        obtain ⟨_, h2, h3⟩ := World.cells?_some h1
        have h4 := h3 0 hpos
        rw [List.getElem?_eq_getElem (by omega)] at h4
        have e : (a.add (0 * sz)).add 0 = a := by simp [Addr.add]
        rw [e] at h4
        unfold World.cell? at h4
        split at h4
        · cases hs : a.spot with
          | none => rfl
          | some sp => rw [hs] at h4; simp at h4
        · cases h4
      obtain ⟨g, o, sp⟩ := a
      simp only at hsp
      subst hsp
      have hel : ∀ i, i < len → ∃ (x : α) (as : List AV) (cs' : List Value), Cs (f x) as ∧ VL (Env.of W) as cs' ∧ B x ∧ as.length = sz ∧ ∀ j, j < sz → W.cell? ⟨g, o + i * sz + j, none⟩ = cs'[j]? := by
        intro i hi
        obtain ⟨cs', h1, h2⟩ := hx i (by omega)
        rw [hsz] at h1
        obtain ⟨x, as, h3, h4, hb⟩ := hr n cs' _ _ h2
        obtain ⟨_, h5, h6⟩ := World.cells?_some h1
        refine ⟨x, as, cs', h3, h4, hb, by rw [h4.1]; exact h5, fun j hj => ?_⟩
        have := h6 j hj
        rwa [addr_add, addr_add] at this
      have key : ∀ k, k ≤ len → ∃ (l : List α) (els : List AV), els.length = k ∧ L2 r l els ∧ (∀ x ∈ l, B x) ∧ ∀ i el, els[i]? = some el → ∃ as cs', el = elemOf ag as ∧ VL (Env.of W) as cs' ∧ as.length = sz ∧ ∀ j, j < sz → W.cell? ⟨g, o + i * sz + j, none⟩ = cs'[j]? := by
        intro k
        induction k with
        | zero => intro _; exact ⟨[], [], rfl, .nil, by simp, fun i el h => by simp at h⟩
        | succ k ih =>
          intro hk
          obtain ⟨l, els, h1, h2, hB, h3⟩ := ih (by omega)
          obtain ⟨x, as, cs', h4, h5, hb, h6, h7⟩ := hel k (by omega)
          refine ⟨l ++ [x], els ++ [elemOf ag as], by simp [h1], h2.app (.cons (hrf x as h4 h6) .nil), (by intro y hy; rcases List.mem_append.1 hy with hy | hy; exact hB y hy; rw [List.mem_singleton.1 hy]; exact hb), fun i el hi => ?_⟩
          by_cases hik : i < k
          · rw [List.getElem?_append_left (by omega)] at hi
            exact h3 i el hi
          · rw [List.getElem?_append_right (by omega)] at hi
            have : i = k := by
              have := (List.getElem?_eq_some_iff.1 hi).1
              simp at this
              omega
            subst this
            rw [h1, Nat.sub_self] at hi
            simp at hi
            exact ⟨as, cs', hi.symm, h5, h6, h7⟩
      obtain ⟨l, els, h1, h2, hB, h3⟩ := key len (Nat.le_refl _)
      refine ⟨l, [.sl sz false els], .cons ⟨sz, false, els, rfl, .inl rfl, h2⟩ .nil, .one ?_ rfl, by rw [← h2.len]; omega, hB⟩
      have cell : ∀ (i : Nat) el (j : Nat) c, els[i]? = some el → el.cells[j]? = some c → ∃ u, W.cell? ⟨g, o + i * sz + j, none⟩ = some u ∧ V (Env.of W) c u ∧ c.one = true := by
        intro i el j c hi hj
        obtain ⟨as, cs', rfl, h4, h5, h6⟩ := h3 i el hi
        rw [elem_cells h4 h5 h0] at hj
        have hlt := (List.getElem?_eq_some_iff.1 hj).1
        have hc : cs'[j]? = some (cs'[j]'(by rw [← h4.1]; exact hlt)) := List.getElem?_eq_getElem _
        exact ⟨_, by rw [h6 j (by omega), hc], h4.2 j c _ hj hc⟩
      have := V.sl (E := Env.of W) sz false els g o m (fun i j => (W.cell? ⟨g, o + i * sz + j, none⟩).getD Go.undef) (by omega) (by simp) (fun i el hi => ?_) (fun i el j c hi hj => ?_) (fun i el j c hi hj => ?_) (fun i el j c hi hj => ?_) (fun i el j c hi hj => ?_)
      · rw [h1] at this; exact this
      · obtain ⟨as, cs', rfl, h4, h5, h6⟩ := h3 i el hi
        rw [elem_cells h4 h5 h0]; exact h5
      · obtain ⟨u, k1, k2, k3⟩ := cell i el j c hi hj
        exact k3
      · obtain ⟨u, k1, k2, k3⟩ := cell i el j c hi hj
        exact cell_pr k1
      · obtain ⟨u, k1, k2, k3⟩ := cell i el j c hi hj
        show W.cell? _ = _
        rw [k1]; rfl
      · obtain ⟨u, k1, k2, k3⟩ := cell i el j c hi hj
        rw [k1]; exact k2

/-- The fields of a struct. -/
theorem trod_fields {t : TypeId} {F : Array Field} (ht : P.underlying t = some (.struct F)) {fuel : Nat} {cs : List Value} {x : DataW H × List MemPlace} (h : DataW.trod enc P W 0 (fun _ => true) true fuel t cs = some x) :
    cs.length = P.cellsOf t ∧ ∃ n, ∀ (i : Nat) f, F[i]? = some f → ∃ d p, DataW.trod enc P W 0 (fun _ => true) true n f.type ((cs.drop f.offset).take (P.cellsOf f.type)) = some (d, p) := by
  obtain ⟨xs, n, _, _, hl, hsz, hget⟩ := DataW.trod_struct ht h
  refine ⟨hl, n, fun i f hi => ?_⟩
  have h1 := hget i f hi
  have hlt : i < xs.length := by rw [hsz]; exact (Array.getElem?_eq_some_iff.1 hi).1
  rw [List.getElem?_eq_getElem hlt] at h1
  exact ⟨_, _, h1⟩

theorem VL.whole {E : Env} {as : List AV} {cs : List Value} {n : Nat} (h : VL E as ((cs.drop 0).take n)) (hl : cs.length = n) : VL E as cs := by
  rw [List.drop_zero, List.take_of_length_le (by omega)] at h; exact h
theorem VL.len {E : Env} {as : List AV} {cs : List Value} {o n N : Nat} (h : VL E as ((cs.drop o).take n)) (hl : cs.length = N) (hn : o + n ≤ N) : as.length = n := by
  rw [h.1, List.length_take, List.length_drop]; omega

/-- A struct's cells behind a law's parameter. -/
theorem VL.agg {E : Env} {as : List AV} {vs : Array Value} (h : VL E as vs.toList) : V E (.agg as) (.agg vs) :=
  .agg as vs (by rw [h.1]; simp) (fun i c hc => by
    have hlt := (List.getElem?_eq_some_iff.1 hc).1
    exact (h.2 i c _ hc (List.getElem?_eq_getElem (by rw [← h.1]; exact hlt))).2) (fun i c v hc hv => (h.2 i c v hc (by simpa using hv)).1)
end
end Ae
/- Plain lemmas about loops and lists. -/
namespace Ae
open Go

theorem w64 {n : Int} (h : -9223372036854775808 ≤ n) (k : n ≤ 9223372036854775807) : IntKind.wrap .i64 n = n := IntWalk.i64_in n ⟨h, k⟩
theorem w1 {i : Nat} {n : Nat} (h : i < n) (k : n ≤ 9223372036854775807) : IntKind.wrap .i64 ((i : Int) + 1) = ((i + 1 : Nat) : Int) := by rw [w64 (by omega) (by omega)]; rfl
theorem ix_nat {α : Type} (l : List α) (i : Nat) : ix l (i : Int) = l[i]? := by unfold ix; rw [if_pos (Int.natCast_nonneg i)]; rfl
theorem ix_some {α : Type} {l : List α} {i : Nat} (h : i < l.length) : ix l (i : Int) = some l[i] := by rw [ix_nat, List.getElem?_eq_getElem h]
theorem ix_lit {α : Type} {l : List α} {i : Nat} {x : α} (h : l[i]? = some x) : ix l (i : Int) = some x := by rw [ix_nat, h]
theorem ltT {i n : Nat} (h : i < n) : decide ((i : Int) < (n : Int)) = true := by simpa using h
theorem ltF (n : Nat) : decide ((n : Int) < (n : Int)) = false := by simp

theorem bL.len {α : Type} {B : α → Prop} {l : List α} (h : bL B l) : l.length ≤ 9223372036854775807 := by have := h.1; unfold maxLen at this; omega
theorem bS.len {l : List UInt8} (h : bS l) : l.length ≤ 9223372036854775807 := by unfold bS maxLen at h; omega

/-- A loop that looks at each number below n, until one is not right. -/
theorem loop_all {ρ : Type} {step : Int → Option (Int ⊕ ρ)} {n : Nat} {p : Nat → Bool} {rt : Option ρ} {rf : ρ} (hend : loop step (n : Int) = rt) (hst : ∀ i, i < n → step (i : Int) = if p i then some (.inl ((i + 1 : Nat) : Int)) else some (.inr rf)) :
    loop step 0 = if (List.range n).all p then rt else some rf := by
  have key : ∀ k i, i + k = n → loop step (i : Int) = if (List.range' i k).all p then rt else some rf := by
    intro k
    induction k with
    | zero =>
      intro i hi
      have e : i = n := by omega
      rw [e, hend]
      simp [List.range']
    | succ k ih =>
      intro i hi
      have h1 := hst i (by omega)
      rw [List.range'_succ, List.all_cons]
      cases hp : p i with
      | true =>
        rw [hp, if_pos rfl] at h1
        rw [loop_L h1, ih (i + 1) (by omega), Bool.true_and]
      | false =>
        rw [hp, if_neg (by simp)] at h1
        rw [loop_R h1, Bool.false_and, if_neg (by simp)]
  have := key n 0 (by omega)
  rw [List.range_eq_range']
  exact this

/-- .. each element of a list. -/
theorem loop_allL {α ρ : Type} {l : List α} {step : Int → Option (Int ⊕ ρ)} {p : α → Bool} {rt : Option ρ} {rf : ρ} (hend : loop step (l.length : Int) = rt) (hst : ∀ (i : Nat) x, l[i]? = some x → step (i : Int) = if p x then some (.inl ((i + 1 : Nat) : Int)) else some (.inr rf)) :
    loop step 0 = if l.all p then rt else some rf := by
  have key : ∀ (m : List α) i, l = l.take i ++ m → i + m.length = l.length → loop step (i : Int) = if m.all p then rt else some rf := by
    intro m
    induction m with
    | nil => intro i _ hi; obtain rfl : i = l.length := by simpa using hi
             simpa using hend
    | cons x m ih =>
      intro i hm hi
      have hx : l[i]? = some x := by
        have hlt : i < l.length := by simp at hi; omega
        rw [hm, List.getElem?_append_right (by rw [List.length_take]; omega), List.length_take, Nat.min_eq_left (Nat.le_of_lt hlt), Nat.sub_self]
        rfl
      have h1 := hst i x hx
      have hm' : l = l.take (i + 1) ++ m := by
        rw [List.take_add_one, hx]
        conv => lhs; rw [hm]
        simp
      rw [List.all_cons]
      cases hp : p x with
      | true =>
        rw [hp, if_pos rfl] at h1
        rw [loop_L h1, ih (i + 1) hm' (by simp at hi; omega), Bool.true_and]
      | false =>
        rw [hp, if_neg (by simp)] at h1
        rw [loop_R h1, Bool.false_and, if_neg (by simp)]
  have := key l 0 (by simp) (by simp)
  exact this

-- ---- the laws' own helpers

def smT {α : Type} (_ : α) : Prop := True
def smS (s : List UInt8) : Prop := s.length ≤ 1048576
def smL {α : Type} (p : α → Prop) (l : List α) : Prop := l.length ≤ 1048576 ∧ ∀ x ∈ l, p x

/-- What a size function tells. -/
def SzOk {α : Type} (p : α → Prop) (f : α → Int → Option Int) (x : α) : Prop := ∀ left, 0 ≤ left → left ≤ 1048576 → ∃ r, f x left = some r ∧ r ≤ left ∧ (r < 0 ∨ 0 ≤ r ∧ p x)

theorem sz_flat {α : Type} {f : List α → Int → Option Int} {a : List α} (hf : ∀ left, f a left = if decide (IntKind.wrap .i64 (left - (a.length : Int)) < 0) = true then some (-1) else some (IntKind.wrap .i64 (left - (a.length : Int)))) (ha : a.length ≤ 9223372036854775807) : SzOk (smL smT) f a := by
  intro left h0 h1
  rw [hf, w64 (by omega) (by omega)]
  by_cases h : left - (a.length : Int) < 0
  · exact ⟨-1, by rw [if_pos (by simpa using h)], by omega, .inl (by omega)⟩
  · exact ⟨_, by rw [if_neg (by simpa using h)], by omega, .inr ⟨by omega, by omega, fun _ _ => trivial⟩⟩

theorem sz_loop {α : Type} {p : α → Prop} {f : List α → Int → Option Int} {sub : α → Int → Option Int} {S : Int × Int → Option ((Int × Int) ⊕ Int)} {a : List α}
    (hS : ∀ left i, S (left, i) = if decide (i < (a.length : Int)) = true then (ix a i).bind fun x => (sub x left).bind fun y => if decide (y < 0) = true then some (.inr (-1)) else some (.inl (y, IntKind.wrap .i64 (i + 1))) else some (.inr left))
    (hf : ∀ left, f a left = if decide (IntKind.wrap .i64 (left - (a.length : Int)) < 0) = true then some (-1) else loop S (IntKind.wrap .i64 (left - (a.length : Int)), 0))
    (ha : a.length ≤ 9223372036854775807) (hsub : ∀ x ∈ a, SzOk p sub x) : SzOk (smL p) f a := by
  have key : ∀ k (i : Nat) left, i + k = a.length → 0 ≤ left → left ≤ 1048576 → ∃ r, loop S (left, (i : Int)) = some r ∧ r ≤ left ∧ (r < 0 ∨ 0 ≤ r ∧ ∀ x ∈ a.drop i, p x) := by
    intro k
    induction k with
    | zero =>
      intro i left hi h0 h1
      have hi' : i = a.length := by omega
      refine ⟨left, loop_R (by rw [hS, hi', ltF]; rfl), Int.le_refl _, .inr ⟨h0, by rw [hi', List.drop_length]; simp⟩⟩
    | succ k ih =>
      intro i left hi h0 h1
      have hlt : i < a.length := by omega
      obtain ⟨y, h2, h3, h4⟩ := hsub a[i] (List.getElem_mem hlt) left h0 h1
      have hst : S (left, (i : Int)) = if decide (y < 0) = true then some (.inr (-1)) else some (.inl (y, ((i + 1 : Nat) : Int))) := by
        rw [hS, ltT hlt, if_pos rfl, ix_some hlt, Option.bind_some, h2, Option.bind_some, w1 hlt ha]
      rcases h4 with h4 | ⟨h4, h5⟩
      · rw [if_pos (by simpa using h4)] at hst
        exact ⟨-1, loop_R hst, by omega, .inl (by omega)⟩
      · rw [if_neg (by simp; omega)] at hst
        obtain ⟨r, h6, h7, h8⟩ := ih (i + 1) y (by omega) h4 (by omega)
        refine ⟨r, (loop_L hst).trans h6, by omega, h8.imp id fun ⟨h9, h10⟩ => ⟨h9, fun x hx => ?_⟩⟩
        rw [List.drop_eq_getElem_cons hlt] at hx
        rcases List.mem_cons.1 hx with rfl | hx
        · exact h5
        · exact h10 x hx
  intro left h0 h1
  rw [hf, w64 (by omega) (by omega)]
  by_cases h : left - (a.length : Int) < 0
  · exact ⟨-1, by rw [if_pos (by simpa using h)], by omega, .inl (by omega)⟩
  · rw [if_neg (by simpa using h)]
    obtain ⟨r, h2, h3, h4⟩ := key a.length 0 (left - (a.length : Int)) (by omega) (by omega) (by omega)
    exact ⟨r, h2, by omega, h4.imp id fun ⟨h5, h6⟩ => ⟨h5, by omega, by simpa using h6⟩⟩

/-- A list that is copied. -/
theorem to_loop {α : Type} {f : List α → Option (List α)} {sub : α → Option α} {S : List α × Int → Option ((List α × Int) ⊕ List α)} {a : List α} {z : α}
    (hS : ∀ out i, S (out, i) = if decide (i < (a.length : Int)) = true then (ix a i).bind fun x => (sub x).bind fun y => (ix out i).bind fun _ => some (.inl (out.set (Int.toNat i) y, IntKind.wrap .i64 (i + 1))) else some (.inr out))
    (hf : f a = (mk z (a.length : Int)).bind fun l => loop S (l, 0)) (ha : a.length ≤ 1048576) (hsub : ∀ x ∈ a, sub x = some x) : f a = some a := by
  have key : ∀ k (i : Nat) (out : List α), i + k = a.length → out.length = a.length → out.take i = a.take i → loop S (out, (i : Int)) = some a := by
    intro k
    induction k with
    | zero =>
      intro i out hi ho ht
      have hi' : i = a.length := by omega
      have : out = a := by
        rw [hi', List.take_length, ← ho, List.take_length] at ht; exact ht
      rw [this]
      exact loop_R (by rw [hS, hi', ltF]; rfl)
    | succ k ih =>
      intro i out hi ho ht
      have hlt : i < a.length := by omega
      have hst : S (out, (i : Int)) = some (.inl (out.set i a[i], ((i + 1 : Nat) : Int))) := by
        rw [hS, ltT hlt, if_pos rfl, ix_some hlt, Option.bind_some, hsub _ (List.getElem_mem hlt), Option.bind_some, ix_some (by omega), Option.bind_some, w1 hlt (by omega)]
        rfl
      rw [loop_L hst]
      refine ih (i + 1) _ (by omega) (by simp [ho]) ?_
      rw [List.take_add_one, List.take_add_one, List.take_set_of_le (Nat.le_refl i), ht]
      congr 1
      rw [List.getElem?_set, if_pos rfl, if_pos (by omega), List.getElem?_eq_getElem hlt]
  rw [hf]
  unfold mk
  rw [if_pos ⟨by omega, by unfold LIM; omega⟩]
  exact key a.length 0 _ (by omega) (by simp) (by simp)

/-- A list is held against itself. -/
theorem eq_loop {α : Type} {f : List α → List α → Option Bool} {sub : α → α → Option Bool} {S : Int → Option (Int ⊕ Bool)} {a : List α}
    (hS : ∀ i, S i = if decide (i < (a.length : Int)) = true then (ix a i).bind fun x => (ix a i).bind fun y => (sub x y).bind fun e => if (!e) = true then some (.inr false) else some (.inl (IntKind.wrap .i64 (i + 1))) else some (.inr true))
    (hf : f a a = if ((a.length : Int) != (a.length : Int)) = true then some false else loop S 0) (ha : a.length ≤ 1048576) (hsub : ∀ x ∈ a, sub x x = some true) : f a a = some true := by
  rw [hf, if_neg (by simp)]
  have := loop_allL (l := a) (step := S) (p := fun _ => true) (rt := some true) (rf := false) (loop_R (by rw [hS, ltF]; rfl)) (fun i x hx => by
    have hlt := (List.getElem?_eq_some_iff.1 hx).1
    have hm : x ∈ a := List.mem_of_getElem? hx
    rw [hS, ltT hlt, if_pos rfl, ix_lit hx, Option.bind_some, Option.bind_some, hsub x hm, Option.bind_some, if_neg (by simp), if_pos rfl, w1 hlt (by omega)])
  rw [this]
  simp
end Ae
/- Plain lemmas about loops and lists, second part. -/
namespace Ae
open Go

theorem bindC {α β : Type} {o : Option α} {f g : α → Option β} (h : ∀ a, o = some a → f a = g a) : o.bind f = o.bind g := by
  cases o with
  | none => rfl
  | some a => exact h a rfl
theorem ix_mem {α : Type} {l : List α} {i : Int} {x : α} (h : ix l i = some x) : x ∈ l := by
  unfold ix at h
  split at h
  · exact List.mem_of_getElem? h
  · cases h

/-- A loop that counts up to n and may stop on its way. -/
theorem loop_tot {ρ : Type} {step : Int → Option (Int ⊕ ρ)} {n : Nat} (Q : ρ → Prop) (hend : ∃ r, loop step (n : Int) = some r ∧ Q r) (hst : ∀ i : Nat, i < n → step (i : Int) = some (.inl ((i + 1 : Nat) : Int)) ∨ ∃ r, step (i : Int) = some (.inr r) ∧ Q r) :
    ∃ r, loop step 0 = some r ∧ Q r := by
  have key : ∀ k i, i + k = n → ∃ r, loop step (i : Int) = some r ∧ Q r := by
    intro k
    induction k with
    | zero => intro i hi; obtain rfl : i = n := by omega
              exact hend
    | succ k ih =>
      intro i hi
      rcases hst i (by omega) with h | ⟨r, h, hq⟩
      · rw [loop_L h]; exact ih (i + 1) (by omega)
      · exact ⟨r, loop_R h, hq⟩
  exact key n 0 (by omega)

/-- The first of a list's elements of which p is true. -/
def fst? {α : Type} (p : α → Bool) : List α → Int
  | [] => -1
  | x :: l => if p x then 0 else if fst? p l == -1 then -1 else fst? p l + 1
theorem fst?_ge {α : Type} (p : α → Bool) : ∀ l, -1 ≤ fst? p l
  | [] => Int.le_refl _
  | x :: l => by
    have := fst?_ge p l
    unfold fst?
    split
    · decide
    · split <;> omega
theorem fst?_any {α : Type} (p : α → Bool) : ∀ l, decide ((fst? p l : Int) ≥ 0) = l.any p
  | [] => rfl
  | x :: l => by
    have h := fst?_ge p l
    have ih := fst?_any p l
    rw [List.any_cons, ← ih, show fst? p (x :: l) = if p x then 0 else if fst? p l == -1 then -1 else fst? p l + 1 from rfl]
    cases hp : p x with
    | true => simp
    | false =>
      simp only [Bool.false_eq_true, if_false, Bool.false_or, decide_eq_decide, beq_iff_eq]
      split <;> omega
theorem loop_find {α : Type} {l : List α} {step : Int → Option (Int ⊕ Int)} (p : α → Bool) (hend : loop step (l.length : Int) = some (-1)) (hst : ∀ (i : Nat) x, l[i]? = some x → step (i : Int) = if p x then some (.inr (i : Int)) else some (.inl ((i + 1 : Nat) : Int))) :
    loop step 0 = some (fst? p l) := by
  have key : ∀ (m : List α) i, l = l.take i ++ m → i + m.length = l.length → loop step (i : Int) = some (if fst? p m == -1 then -1 else fst? p m + i) := by
    intro m
    induction m with
    | nil => intro i _ hi; obtain rfl : i = l.length := by simpa using hi
             simpa [fst?] using hend
    | cons x m ih =>
      intro i hm hi
      have hx : l[i]? = some x := by
        have hlt : i < l.length := by simp at hi; omega
        rw [hm, List.getElem?_append_right (by rw [List.length_take]; omega), List.length_take, Nat.min_eq_left (Nat.le_of_lt hlt), Nat.sub_self]
        rfl
      have h1 := hst i x hx
      have hm' : l = l.take (i + 1) ++ m := by
        rw [List.take_add_one, hx]
        conv => lhs; rw [hm]
        simp
      have hge := fst?_ge p m
      unfold fst?
      cases hp : p x with
      | true =>
        rw [hp, if_pos rfl] at h1
        rw [loop_R h1]; simp
      | false =>
        rw [hp, if_neg (by simp)] at h1
        rw [loop_L h1, ih (i + 1) hm' (by simp at hi; omega)]
        by_cases h2 : fst? p m = -1
        · simp [h2]
        · have h3 : fst? p m + 1 ≠ -1 := by omega
          simp only [beq_iff_eq, h2, h3, if_false, Bool.false_eq_true]
          congr 1; omega
  have := key l 0 (by simp) (by simp)
  have hge := fst?_ge p l
  rw [show ((0 : Nat) : Int) = 0 from rfl] at this
  rw [this]
  split
  · rename_i h; rw [beq_iff_eq] at h; rw [h]
  · rw [Int.add_zero]
theorem fst?_congr {α : Type} {p q : α → Bool} (h : ∀ x, p x = q x) (l : List α) : fst? p l = fst? q l := by rw [show p = q from funext h]
theorem indexByte_fst (l : List UInt8) (c : UInt8) : Lib.indexByte l c = fst? (· == c) l := by
  induction l with
  | nil => rfl
  | cons b l ih => unfold Lib.indexByte fst?; rw [ih]
theorem chr_some {s : List UInt8} {i c : Int} (h : chr s i = some c) : ∃ x : UInt8, c = (x.toNat : Int) := by
  unfold chr at h
  split at h
  · cases h; exact ⟨_, rfl⟩
  · cases h
theorem u8_eq (a b : UInt8) : ((a.toNat : Int) == (b.toNat : Int)) = (a == b) := by
  rw [Bool.eq_iff_iff, beq_iff_eq, beq_iff_eq]
  constructor
  · intro h; exact UInt8.toNat_inj.1 (by omega)
  · rintro rfl; rfl
theorem chr_nat {s : List UInt8} {i : Nat} {x : UInt8} (h : s[i]? = some x) : chr s (i : Int) = some (x.toNat : Int) := by
  have hlt := (List.getElem?_eq_some_iff.1 h).1
  unfold chr
  rw [if_pos ⟨by omega, by omega⟩]
  simp [h]
theorem chr_nat' {s : List UInt8} {i : Nat} (h : i < s.length) : chr s (i : Int) = some (s[i].toNat : Int) := chr_nat (List.getElem?_eq_getElem h)

theorem ite_some {α : Type} {c : Bool} {a b : α} : (if c = true then some a else some b) = some (if c = true then a else b) := by cases c <;> rfl
theorem ite_or {a b : Bool} : (if a = true then true else b) = (a || b) := by cases a <;> rfl
theorem ite_and {a b : Bool} : (if a = true then b else false) = (a && b) := by cases a <;> rfl
theorem flatS_len {l : List (List UInt8)} {m : Nat} (h : ∀ x ∈ l, x.length ≤ m) : l.flatten.length ≤ l.length * m := by
  induction l with
  | nil => simp
  | cons x l ih =>
    rw [List.flatten_cons, List.length_append, List.length_cons, Nat.succ_mul]
    have h1 := h x (List.mem_cons_self ..)
    have h2 := ih fun y hy => h y (List.mem_cons_of_mem _ hy)
    omega
theorem join_flat (l : List (List UInt8)) : Lib.join l [] = l.flatten := by
  cases l with
  | nil => rfl
  | cons x l => rw [Lib.join_cons, Lib.joinTail]; simp
end Ae
/- How a law's row is put together. -/
namespace Ae
open Go

theorem hrf1 {α : Type} {r : α → AV → Prop} (x : α) (as : List AV) (h : Cs [r x] as) (_ : as.length = 1) : r x (elemOf false as) := by
  cases h with
  | cons h k => exact h
theorem hrfA {α : Type} {f : α → List (AV → Prop)} {sz : Nat} (x : α) (as : List AV) (h : Cs (f x) as) (_ : as.length = sz) : rA (f x) (elemOf true as) := ⟨as, rfl, h⟩
theorem VA_1 {E : Env} {a : AV} {v : Value} (h : V E a v) : VA E [a] #[v] := ⟨rfl, fun i x y hx hy => by
  cases i with
  | zero => simp at hx hy; subst hx hy; exact h
  | succ i => simp at hx⟩
theorem VA_2 {E : Env} {a b : AV} {v w : Value} (h : V E a v) (k : V E b w) : VA E [a, b] #[v, w] := ⟨rfl, fun i x y hx hy => by
  match i with
  | 0 => simp at hx hy; subst hx hy; exact h
  | 1 => simp at hx hy; subst hx hy; exact k
  | i + 2 => simp at hx⟩
theorem WF0 : WF St.zero := ⟨Nat.le_refl _, Nat.le_refl _⟩
end Ae
