/- For every checker and every word the program's SummaryOf returns what the reference's returns. No conditions. -/
import Derived.Test.YtddjkclabfmakaaAe4
import Derived.Test.YtddjkclabfmakaaAeP
import Derived.Test.YtddjkclabfmakaaAeK3
import Derived.Test.YtddjkclabfmakaaRows
import Derived.Test.YtddjkclabfmakaaAeShelf
import Derived.WalkKit
import Derived.ProofKit
import Derived.OpenShut
import Derived.ShutString
import Derived.ChangeOld
import Derived.Below
import Derived.SizedLaws
import Derived.Lib.SmallJoins
set_option linter.unusedVariables false
namespace Go.Proofs.Ytddjkclabfmakaa.law
open Go Go.Proofs Ae Go.ChangeShapes Go.WideShapes Go.ChangeAt Go.RowKit Go.Proofs.Ytddjkclabfmakaa
open Go.ChangeMaps (open_string shut_string)
set_option linter.unusedVariables false
set_option maxRecDepth 100000
theorem own : ownKnob Try.prog.godebug = none := by kernel_rfl
theorem laidOut : laidOutB Try.prog = true := by kernel_rfl
theorem followsOk : Try.prog.follows .mixedOrders = true := by kernel_rfl
theorem cells2 : Try.prog.cellsOf 2 = 1 := by kernel_rfl
theorem cells4 : Try.prog.cellsOf 4 = 1 := by kernel_rfl
theorem cells9 : Try.prog.cellsOf 9 = 1 := by kernel_rfl
theorem cells26 : Try.prog.cellsOf 26 = 1 := by kernel_rfl
theorem cells41 : Try.prog.cellsOf 41 = 1 := by kernel_rfl
theorem cells42 : Try.prog.cellsOf 42 = 1 := by kernel_rfl
theorem cells43 : Try.prog.cellsOf 43 = 1 := by kernel_rfl
theorem cells44 : Try.prog.cellsOf 44 = 1 := by kernel_rfl
theorem cells46 : Try.prog.cellsOf 46 = 6 := by kernel_rfl
theorem cells247 : Try.prog.cellsOf 247 = 1 := by kernel_rfl
theorem cells322 : Try.prog.cellsOf 322 = 2 := by kernel_rfl
theorem RdPush_322 {H : Type} {enc : TypeId × Value → H} {W : World} : Rd enc Try.prog W 322 csPush bPush := by
  intro fuel cs d p h
  obtain ⟨hl, n, hf⟩ := trod_fields Try.underlying322 h
  rw [cells322] at hl
  have k0 : ∃ d p, DataW.trod enc Try.prog W 0 (fun _ => true) true n 2 ((cs.drop 0).take 1) = some (d, p) := cells2 ▸ hf 0 _ rfl
  obtain ⟨_, _, k0⟩ := k0
  obtain ⟨x0, a0, c0, v0, b0⟩ := (Rd.int Try.underlying2) n _ _ _ k0
  have l0 := v0.len hl (by decide)
  have k1 : ∃ d p, DataW.trod enc Try.prog W 0 (fun _ => true) true n 2 ((cs.drop 1).take 1) = some (d, p) := cells2 ▸ hf 1 _ rfl
  obtain ⟨_, _, k1⟩ := k1
  obtain ⟨x1, a1, c1, v1, b1⟩ := (Rd.int Try.underlying2) n _ _ _ k1
  have l1 := v1.len hl (by decide)
  exact ⟨⟨x0, x1⟩, (a0 ++ a1), c0.app (c1), VL.whole (v0.cat v1 l0) hl, ⟨b0, b1⟩⟩
theorem RdChecker_46 {H : Type} {enc : TypeId × Value → H} {W : World} : Rd enc Try.prog W 46 csChecker bChecker := by
  intro fuel cs d p h
  obtain ⟨hl, n, hf⟩ := trod_fields Try.underlying46 h
  rw [cells46] at hl
  have k0 : ∃ d p, DataW.trod enc Try.prog W 0 (fun _ => true) true n 2 ((cs.drop 0).take 1) = some (d, p) := cells2 ▸ hf 0 _ rfl
  obtain ⟨_, _, k0⟩ := k0
  obtain ⟨x0, a0, c0, v0, b0⟩ := (Rd.int Try.underlying2) n _ _ _ k0
  have l0 := v0.len hl (by decide)
  have k1 : ∃ d p, DataW.trod enc Try.prog W 0 (fun _ => true) true n 2 ((cs.drop 1).take 1) = some (d, p) := cells2 ▸ hf 1 _ rfl
  obtain ⟨_, _, k1⟩ := k1
  obtain ⟨x1, a1, c1, v1, b1⟩ := (Rd.int Try.underlying2) n _ _ _ k1
  have l1 := v1.len hl (by decide)
  have k2 : ∃ d p, DataW.trod enc Try.prog W 0 (fun _ => true) true n 41 ((cs.drop 2).take 1) = some (d, p) := cells41 ▸ hf 2 _ rfl
  obtain ⟨_, _, k2⟩ := k2
  obtain ⟨x2, a2, c2, v2, b2⟩ := (Rd.slice (ag := false) Try.underlying41 cells4 (by decide) (by decide) (Rd.bool Try.underlying4) hrf1) n _ _ _ k2
  have l2 := v2.len hl (by decide)
  have k3 : ∃ d p, DataW.trod enc Try.prog W 0 (fun _ => true) true n 42 ((cs.drop 3).take 1) = some (d, p) := cells42 ▸ hf 3 _ rfl
  obtain ⟨_, _, k3⟩ := k3
  obtain ⟨x3, a3, c3, v3, b3⟩ := (Rd.slice (ag := false) Try.underlying42 cells247 (by decide) (by decide) (Rd.slice (ag := true) Try.underlying247 cells322 (by decide) (by decide) RdPush_322 hrfA) hrf1) n _ _ _ k3
  have l3 := v3.len hl (by decide)
  have k4 : ∃ d p, DataW.trod enc Try.prog W 0 (fun _ => true) true n 43 ((cs.drop 4).take 1) = some (d, p) := cells43 ▸ hf 4 _ rfl
  obtain ⟨_, _, k4⟩ := k4
  obtain ⟨x4, a4, c4, v4, b4⟩ := (Rd.slice (ag := false) Try.underlying43 cells44 (by decide) (by decide) (Rd.slice (ag := false) Try.underlying44 cells26 (by decide) (by decide) (Rd.slice (ag := false) Try.underlying26 cells2 (by decide) (by decide) (Rd.int Try.underlying2) hrf1) hrf1) hrf1) n _ _ _ k4
  have l4 := v4.len hl (by decide)
  have k5 : ∃ d p, DataW.trod enc Try.prog W 0 (fun _ => true) true n 44 ((cs.drop 5).take 1) = some (d, p) := cells44 ▸ hf 5 _ rfl
  obtain ⟨_, _, k5⟩ := k5
  obtain ⟨x5, a5, c5, v5, b5⟩ := (Rd.slice (ag := false) Try.underlying44 cells26 (by decide) (by decide) (Rd.slice (ag := false) Try.underlying26 cells2 (by decide) (by decide) (Rd.int Try.underlying2) hrf1) hrf1) n _ _ _ k5
  have l5 := v5.len hl (by decide)
  exact ⟨⟨x0, x1, x2, x3, x4, x5⟩, (a0 ++ (a1 ++ (a2 ++ (a3 ++ (a4 ++ a5))))), c0.app (c1.app (c2.app (c3.app (c4.app (c5))))), VL.whole (v0.cat (v1.cat (v2.cat (v3.cat (v4.cat v5 l4) l3) l2) l1) l0) hl, ⟨b0, b1, b2, b3, b4, b5⟩⟩
theorem CfOk : CfgOk Try.prog Cf drawOk := ⟨fun t ti h => tyB_ok (Tree.all_get tyOk h), fun al g J h => by cases al; exact fnOk.get h; exact fnKOk.get h, fun g φ h => by
  change (bif Nat.beq g 289 then some φByte else bif Nat.beq g 205 then some φClone else none) = some φ at h
  cases h0 : Nat.beq g 289 with
  | true =>
    rw [h0] at h; cases h
    obtain rfl := Nat.eq_of_beq_eq_true h0
    exact φByte_ok Try.func289 (by kernel_rfl) (by kernel_rfl) (by kernel_rfl) (by kernel_rfl)
  | false =>
    rw [h0] at h
    cases h1 : Nat.beq g 205 with
    | true =>
      rw [h1] at h; cases h
      obtain rfl := Nat.eq_of_beq_eq_true h1
      exact φClone_ok Try.func205 (by kernel_rfl) (by kernel_rfl) Try.slices_Clone_int_nil Try.slices_Clone_int_zero Try.slices_Clone_int
    | false =>
      rw [h1] at h
      cases h⟩
theorem liftedFnExactSummaryOf (os : Os) (started : os.Started) (H : Type) (enc : TypeId × Value → H) :
    ReturnsInHanded {} Try.checked os 5 .any (Rows.fnExactSummaryOfSpec.pre6 enc Try.prog Try.f5 Rows.fnExactSummaryOfRow.domain false) (Rows.fnExactSummaryOfSpec.post enc Try.prog Try.f5 false true false false) := by
  refine returnsInHanded_of_change (C := Try.checked) own started (by kernel_rfl) Try.func5
    (ChangeSpec.witness6 (enc := enc) (C := Try.checked) false ⟨#[], #[.agg #[.int .i64 0, .int .i64 0, .slice none 0 0, .slice none 0 0, .slice none 0 0, .slice none 0 0], .string ⟨#[]⟩], []⟩ 8 (by kernel_rfl) (by kernel_rfl) (by kernel_rfl) (by kernel_rfl)) ?_
  intro W base args ds gs before hval0 hW _ _
  have hval : ∀ (j : Nat) t v, Try.f5.params[j]? = some t → args[j]? = some v → Value.okWide Try.prog W .any base t v := hval0
  have hW' := hW
  obtain ⟨p, q, hA0, hV, rfl, _, _⟩ := hW
  have hA : DataW.TrodAll enc Try.prog W 0 (fun _ => true) true Try.f5.params.toList args.toList ds p := hA0
  rw [Try.params5] at hA hval
  obtain ⟨v0, v1, d0, d1, p0, p1, rfl, rfl, rfl, h0, h1⟩ := trodAll_two hA
  obtain ⟨rfl, rfl⟩ := trodVars_none hV
  simp only [List.append_nil] at hW'
  have hlt := hW'.lt
  have w0 : Value.okWide Try.prog W .any base 46 v0 := hval 0 46 v0 rfl rfl
  obtain ⟨vs0, rfl, _⟩ := okWide_struct Try.underlying46 w0
  have r0 := h0
  obtain ⟨_, r0⟩ := r0
  obtain ⟨x0, as0, hc0, hv0, hb0⟩ := RdChecker_46 _ _ _ _ r0
  have hagg0 := hv0.agg
  obtain ⟨y0_0, t0_0, rfl, g0_0, hc0⟩ := Cs_cons hc0
  obtain ⟨y0_1, t0_1, rfl, g0_1, hc0⟩ := Cs_cons hc0
  obtain ⟨y0_2, t0_2, rfl, g0_2, hc0⟩ := Cs_cons hc0
  obtain ⟨y0_3, t0_3, rfl, g0_3, hc0⟩ := Cs_cons hc0
  obtain ⟨y0_4, t0_4, rfl, g0_4, hc0⟩ := Cs_cons hc0
  obtain ⟨y0_5, t0_5, rfl, g0_5, hc0⟩ := Cs_cons hc0
  obtain rfl := Cs_nil hc0
  cases g0_0
  cases g0_1
  obtain ⟨z0_2, f0_2, e0_2, rfl, g0_2⟩ := g0_2
  obtain ⟨z0_3, f0_3, e0_3, rfl, g0_3⟩ := g0_3
  obtain ⟨z0_4, f0_4, e0_4, rfl, g0_4⟩ := g0_4
  obtain ⟨z0_5, f0_5, e0_5, rfl, g0_5⟩ := g0_5
  have w1 : Value.okWide Try.prog W .any base 9 v1 := hval 1 9 v1 rfl rfl
  obtain ⟨sv1, rfl⟩ := okWide_string Try.underlying9 w1
  have r1 := h1
  obtain ⟨_, r1⟩ := r1
  obtain ⟨x1, as1, hc1, hv1, hb1⟩ := (Rd.str Try.underlying9) _ _ _ _ r1
  obtain ⟨y1, t1, rfl, g1, hc1⟩ := Cs_cons hc1
  obtain rfl := Cs_nil hc1
  have hagg1 := (hv1.2 0 _ _ rfl rfl).1
  cases g1
  refine (law_calls CfOk followsOk W rfl (VA_2 hagg0 hagg1) ((laws_FnExactSummaryOf_ok g0_2 g0_3 g0_4 g0_5 (law_SummaryOf hb0 hb1) WF0 ⟨rfl, rfl⟩).mono fun _ _ _ h => h.1)).mono fun e W' ⟨he, bel⟩ => ?_
  subst he
  have hpp := trodAll_mk2 (Below.trod laidOut (by kernel_rfl) (of_decide_eq_true (by kernel_rfl)) h0 bel fun x hx => hlt x (List.mem_append_left _ hx)) (Below.trod laidOut (by kernel_rfl) (of_decide_eq_true (by kernel_rfl)) h1 bel fun x hx => hlt x (List.mem_append_right _ hx))
  exact ⟨_, rfl, _, _, _, [], _, [], hW', trodAll_mk1 (shut_bool Try.underlying4 _), hpp, rfl, bel.frame _, fun h => by cases h⟩
theorem mayEnter : Try.prog.mayEnter = true := by kernel_rfl
theorem inPl : Try.prog.inPlace 5 = Rows.fnExactSummaryOfRow.inPlace := by kernel_rfl
theorem recs : Try.prog.recurses 5 = Rows.fnExactSummaryOfRow.recurses := by kernel_rfl
theorem unfo : Try.prog.unfollowed 5 = Rows.fnExactSummaryOfRow.unfollowed := by kernel_rfl
theorem vnam : Try.prog.varsNamed 5 = Rows.fnExactSummaryOfRow.named := by kernel_rfl
theorem joined : joinedFacts Try.prog 5 Try.f5 Rows.fnExactSummaryOfSpec Rows.fnExactSummaryOfRow = true := by
  unfold joinedFacts
  rw [mayEnter, inPl, recs, unfo, vnam, laidOut]
  kernel_rfl
theorem holdsFnExactSummaryOf : Rows.FnExactSummaryOfSaid :=
  OpenClaim.holds_of_wide 5 Try.f5 rfl rfl rfl rfl rfl rfl rfl ⟨rfl, rfl, rfl, rfl, rfl⟩ rfl rfl rfl rfl rfl (by kernel_rfl) Try.func5 joined
    (of_decide_eq_true (by kernel_rfl)) (by unfold Func.isWrapper; first | (rw [if_pos (by decide +kernel)]; kernel_rfl) | (rw [if_neg (by decide +kernel)]; exact ⟨rfl, rfl⟩))
    (fun os started H enc _ => liftedFnExactSummaryOf os started H enc)
#print axioms holdsFnExactSummaryOf
end Go.Proofs.Ytddjkclabfmakaa.law
