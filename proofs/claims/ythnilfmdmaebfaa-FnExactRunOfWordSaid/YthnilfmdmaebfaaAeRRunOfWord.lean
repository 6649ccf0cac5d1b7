/- For every program and every word the program's RunOfWord returns what the reference's returns. No conditions. -/
import Derived.Test.YthnilfmdmaebfaaAe4
import Derived.Test.YthnilfmdmaebfaaAeP
import Derived.Test.YthnilfmdmaebfaaAeK3
import Derived.Test.YthnilfmdmaebfaaRows
import Derived.WalkKit
import Derived.ProofKit
import Derived.OpenShut
import Derived.ShutString
import Derived.ChangeOld
import Derived.Below
import Derived.SizedLaws
import Derived.Lib.SmallJoins
set_option linter.unusedVariables false
set_option linter.unusedSimpArgs false
namespace Go.Proofs.Ythnilfmdmaebfaa.law
open Go Go.Proofs Ae Go.ChangeShapes Go.WideShapes Go.ChangeAt Go.RowKit Go.Proofs.Ythnilfmdmaebfaa
open Go.ChangeMaps (open_string shut_string)
set_option linter.unusedVariables false
set_option maxRecDepth 100000
theorem own : ownKnob Try.prog.godebug = none := by kernel_rfl
theorem laidOut : laidOutB Try.prog = true := by kernel_rfl
theorem followsOk : Try.prog.follows .mixedOrders = true := by kernel_rfl
theorem cells2 : Try.prog.cellsOf 2 = 1 := by kernel_rfl
theorem cells9 : Try.prog.cellsOf 9 = 1 := by kernel_rfl
theorem cells22 : Try.prog.cellsOf 22 = 1 := by kernel_rfl
theorem cells24 : Try.prog.cellsOf 24 = 1 := by kernel_rfl
theorem cells53 : Try.prog.cellsOf 53 = 1 := by kernel_rfl
theorem cells55 : Try.prog.cellsOf 55 = 2 := by kernel_rfl
theorem cells102 : Try.prog.cellsOf 102 = 4 := by kernel_rfl
theorem RdLink_102 {H : Type} {enc : TypeId × Value → H} {W : World} : Rd enc Try.prog W 102 csLink bLink := by
  intro fuel cs d p h
  obtain ⟨hl, n, hf⟩ := trod_fields Try.underlying102 h
  rw [cells102] at hl
  have k0 : ∃ d p, DataW.trod enc Try.prog W 0 (fun _ => true) true n 2 ((cs.drop 0).take 1) = some (d, p) := cells2 ▸ hf 0 _ rfl
  obtain ⟨_, _, k0⟩ := k0
  obtain ⟨x0, a0, c0, v0, b0⟩ := (Rd.int Try.underlying2) n _ _ _ k0
  have l0 := v0.len hl (by decide)
  have k1 : ∃ d p, DataW.trod enc Try.prog W 0 (fun _ => true) true n 2 ((cs.drop 1).take 1) = some (d, p) := cells2 ▸ hf 1 _ rfl
  obtain ⟨_, _, k1⟩ := k1
  obtain ⟨x1, a1, c1, v1, b1⟩ := (Rd.int Try.underlying2) n _ _ _ k1
  have l1 := v1.len hl (by decide)
  have k2 : ∃ d p, DataW.trod enc Try.prog W 0 (fun _ => true) true n 9 ((cs.drop 2).take 1) = some (d, p) := cells9 ▸ hf 2 _ rfl
  obtain ⟨_, _, k2⟩ := k2
  obtain ⟨x2, a2, c2, v2, b2⟩ := (Rd.str Try.underlying9) n _ _ _ k2
  have l2 := v2.len hl (by decide)
  have k3 : ∃ d p, DataW.trod enc Try.prog W 0 (fun _ => true) true n 2 ((cs.drop 3).take 1) = some (d, p) := cells2 ▸ hf 3 _ rfl
  obtain ⟨_, _, k3⟩ := k3
  obtain ⟨x3, a3, c3, v3, b3⟩ := (Rd.int Try.underlying2) n _ _ _ k3
  have l3 := v3.len hl (by decide)
  exact ⟨⟨x0, x1, x2, x3⟩, (a0 ++ (a1 ++ (a2 ++ a3))), c0.app (c1.app (c2.app (c3))), VL.whole (v0.cat (v1.cat (v2.cat v3 l2) l1) l0) hl, ⟨b0, b1, b2, b3⟩⟩
theorem RdModule_55 {H : Type} {enc : TypeId × Value → H} {W : World} : Rd enc Try.prog W 55 csModule bModule := by
  intro fuel cs d p h
  obtain ⟨hl, n, hf⟩ := trod_fields Try.underlying55 h
  rw [cells55] at hl
  have k0 : ∃ d p, DataW.trod enc Try.prog W 0 (fun _ => true) true n 2 ((cs.drop 0).take 1) = some (d, p) := cells2 ▸ hf 0 _ rfl
  obtain ⟨_, _, k0⟩ := k0
  obtain ⟨x0, a0, c0, v0, b0⟩ := (Rd.int Try.underlying2) n _ _ _ k0
  have l0 := v0.len hl (by decide)
  have k1 : ∃ d p, DataW.trod enc Try.prog W 0 (fun _ => true) true n 53 ((cs.drop 1).take 1) = some (d, p) := cells53 ▸ hf 1 _ rfl
  obtain ⟨_, _, k1⟩ := k1
  obtain ⟨x1, a1, c1, v1, b1⟩ := (Rd.slice (ag := true) Try.underlying53 cells102 (by decide) (by decide) RdLink_102 hrfA) n _ _ _ k1
  have l1 := v1.len hl (by decide)
  exact ⟨⟨x0, x1⟩, (a0 ++ a1), c0.app (c1), VL.whole (v0.cat v1 l0) hl, ⟨b0, b1⟩⟩
theorem RdProgramT_24 {H : Type} {enc : TypeId × Value → H} {W : World} : Rd enc Try.prog W 24 csProgramT bProgramT := by
  intro fuel cs d p h
  obtain ⟨hl, n, hf⟩ := trod_fields Try.underlying24 h
  rw [cells24] at hl
  have k0 : ∃ d p, DataW.trod enc Try.prog W 0 (fun _ => true) true n 22 ((cs.drop 0).take 1) = some (d, p) := cells22 ▸ hf 0 _ rfl
  obtain ⟨_, _, k0⟩ := k0
  obtain ⟨x0, a0, c0, v0, b0⟩ := (Rd.slice (ag := true) Try.underlying22 cells55 (by decide) (by decide) RdModule_55 hrfA) n _ _ _ k0
  have l0 := v0.len hl (by decide)
  exact ⟨⟨x0⟩, a0, c0, VL.whole v0 hl, b0⟩
theorem CfOk : CfgOk Try.prog Cf drawOk := ⟨fun t ti h => tyB_ok (Tree.all_get tyOk h), fun al g J h => by cases al; exact fnOk.get h; exact fnKOk.get h, fun g φ h => by
  change (bif Nat.beq g 74 then some φByte else none) = some φ at h
  cases h0 : Nat.beq g 74 with
  | true =>
    rw [h0] at h; cases h
    obtain rfl := Nat.eq_of_beq_eq_true h0
    exact ext0 (φByte_ok Try.func74 (by kernel_rfl) (by kernel_rfl) (by kernel_rfl) (by kernel_rfl))
  | false =>
    rw [h0] at h
    cases h⟩
theorem liftedFnExactRunOfWord (os : Os) (started : os.Started) (H : Type) (enc : TypeId × Value → H) :
    ReturnsInHanded {} Try.checked os 3 .any (Rows.fnExactRunOfWordSpec.pre6 enc Try.prog Try.f3 Rows.fnExactRunOfWordRow.domain false) (Rows.fnExactRunOfWordSpec.post enc Try.prog Try.f3 false true false false) := by
  refine returnsInHanded_of_change (C := Try.checked) own started (by kernel_rfl) Try.func3
    (ChangeSpec.witness6 (enc := enc) (C := Try.checked) false ⟨#[], #[.agg #[.slice none 0 0], .string ⟨#[]⟩], []⟩ 8 (by kernel_rfl) (by kernel_rfl) (by kernel_rfl) (by kernel_rfl)) ?_
  intro W base args ds gs before hval0 hW _ _
  have hval : ∀ (j : Nat) t v, Try.f3.params[j]? = some t → args[j]? = some v → Value.okWide Try.prog W .any base t v := hval0
  have hW' := hW
  obtain ⟨p, q, hA0, hV, rfl, _, _⟩ := hW
  have hA : DataW.TrodAll enc Try.prog W 0 (fun _ => true) true Try.f3.params.toList args.toList ds p := hA0
  rw [Try.params3] at hA hval
  obtain ⟨v0, v1, d0, d1, p0, p1, rfl, rfl, rfl, h0, h1⟩ := trodAll_two hA
  obtain ⟨rfl, rfl⟩ := trodVars_none hV
  simp only [List.append_nil] at hW'
  have hlt := hW'.lt
  have w0 : Value.okWide Try.prog W .any base 24 v0 := hval 0 24 v0 rfl rfl
  obtain ⟨vs0, rfl, _⟩ := okWide_struct Try.underlying24 w0
  have r0 := h0
  obtain ⟨_, r0⟩ := r0
  obtain ⟨x0, as0, hc0, hv0, hb0⟩ := RdProgramT_24 _ _ _ _ r0
  have hagg0 := hv0.agg
  obtain ⟨y0_0, t0_0, rfl, g0_0, hc0⟩ := Cs_cons hc0
  obtain rfl := Cs_nil hc0
  obtain ⟨z0_0, f0_0, e0_0, rfl, g0_0⟩ := g0_0
  have w1 : Value.okWide Try.prog W .any base 9 v1 := hval 1 9 v1 rfl rfl
  obtain ⟨sv1, rfl⟩ := okWide_string Try.underlying9 w1
  have r1 := h1
  obtain ⟨_, r1⟩ := r1
  obtain ⟨x1, as1, hc1, hv1, hb1⟩ := (Rd.str Try.underlying9) _ _ _ _ r1
  obtain ⟨y1, t1, rfl, g1, hc1⟩ := Cs_cons hc1
  obtain rfl := Cs_nil hc1
  have hagg1 := (hv1.2 0 _ _ rfl rfl).1
  cases g1
  refine (law_calls CfOk followsOk W rfl (VA_2 hagg0 hagg1) ((laws_FnExactRunOfWord_ok g0_0 (law_RunOfWord hb0 hb1) WF0 ⟨rfl, rfl⟩).mono fun _ _ _ h => h.1)).mono fun e W' ⟨he, bel⟩ => ?_
  subst he
  have hpp := trodAll_mk2 (Below.trod laidOut (by kernel_rfl) (of_decide_eq_true (by kernel_rfl)) h0 bel fun x hx => hlt x (List.mem_append_left _ hx)) (Below.trod laidOut (by kernel_rfl) (of_decide_eq_true (by kernel_rfl)) h1 bel fun x hx => hlt x (List.mem_append_right _ hx))
  exact ⟨_, rfl, _, _, _, [], _, [], hW', trodAll_mk1 (shut_bool Try.underlying4 _), hpp, rfl, bel.frame _, fun h => by cases h⟩
theorem mayEnter : Try.prog.mayEnter = true := by kernel_rfl
theorem inPl : Try.prog.inPlace 3 = Rows.fnExactRunOfWordRow.inPlace := by kernel_rfl
theorem recs : Try.prog.recurses 3 = Rows.fnExactRunOfWordRow.recurses := by kernel_rfl
theorem unfo : Try.prog.unfollowed 3 = Rows.fnExactRunOfWordRow.unfollowed := by kernel_rfl
theorem vnam : Try.prog.varsNamed 3 = Rows.fnExactRunOfWordRow.named := by kernel_rfl
theorem joined : joinedFacts Try.prog 3 Try.f3 Rows.fnExactRunOfWordSpec Rows.fnExactRunOfWordRow = true := by
  unfold joinedFacts
  rw [mayEnter, inPl, recs, unfo, vnam, laidOut]
  kernel_rfl
theorem holdsFnExactRunOfWord : Rows.FnExactRunOfWordSaid :=
  OpenClaim.holds_of_wide 3 Try.f3 rfl rfl rfl rfl rfl rfl rfl ⟨rfl, rfl, rfl, rfl, rfl⟩ rfl rfl rfl rfl rfl (by kernel_rfl) Try.func3 joined
    (of_decide_eq_true (by kernel_rfl)) (by unfold Func.isWrapper; first | (rw [if_pos (by decide +kernel)]; kernel_rfl) | (rw [if_neg (by decide +kernel)]; exact ⟨rfl, rfl⟩))
    (fun os started H enc _ => liftedFnExactRunOfWord os started H enc)
#print axioms holdsFnExactRunOfWord
end Go.Proofs.Ythnilfmdmaebfaa.law
