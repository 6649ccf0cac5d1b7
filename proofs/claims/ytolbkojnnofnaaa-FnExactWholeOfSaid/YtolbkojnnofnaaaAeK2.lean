import Derived.Test.YtolbkojnnofnaaaAeD
import Derived.Test.YtolbkojnnofnaaaAeK1
set_option linter.unusedVariables false
namespace Go.Proofs.Ytolbkojnnofnaaa.law
open Go Go.Proofs Ae
set_option maxRecDepth 100000
set_option linter.unusedVariables false
theorem impl_ValidWord_ok {w1 : List UInt8} {s : St} {r : Bool} (h : impl_ValidWord w1 = some r) (hs : WF s) : ACall Cf 34 [(AV.str w1)] s fun v _ s' => (rB) r v ∧ s' = s := by
  refine ACall.pure rfl rfl rfl .B ?_
  have hWF := hs.lo'
  unfold impl_ValidWord at h
  refine AW.seq ?_
  refine AW.region ?_
  refine AOps.pureR rfl rfl rfl rfl rfl (rfl : _ = (AV.bool false)) ?_
  refine AOps.nilR ?_
  refine AW.seq ?_
  refine AW.seq ?_
  refine AW.region ?_
  refine AOps.pureR rfl rfl rfl rfl rfl (rfl : _ = (AV.str w1)) ?_
  refine AOps.pureR rfl rfl rfl rfl rfl (rfl : _ = (AV.int .i64 (w1.length : Int))) ?_
  refine AOps.pureR rfl rfl rfl rfl rfl (rfl : _ = (AV.int .i64 0)) ?_
  refine AOps.nilR ?_
  refine AW.meet (σ := Unit) (fun _ tm os => ⟨updL tm [(0, (AV.str w1))], updL os [], { s with lo := s.n }⟩) (fun _ => impl_ValidWord_J1 w1 = some r) ?_ ?_
  · rintro _ tm os h
    unfold impl_ValidWord_J1 at h
    refine AW.seq ?_
    refine AW.region ?_
    refine AOps.pureR rfl rfl rfl rfl rfl (rfl : _ = (AV.str w1)) ?_
    refine AOps.pureR rfl rfl rfl rfl rfl (rfl : _ = (AV.int .i64 (w1.length : Int))) ?_
    refine AOps.pureR rfl rfl rfl rfl rfl (rfl : _ = (AV.bool (decide (((w1.length : Int) : Int) ≤ 60)))) ?_
    refine AOps.assignR rfl rfl rfl (rfl : _ = (AV.bool (decide (((w1.length : Int) : Int) ≤ 60)))) rfl ?_
    refine AOps.nilR ?_
    cases h
    exact AW.ret ⟨rfl, _, _, rfl, rfl⟩
  intro KJ2
  refine AW.block ?_
  refine AW.res [(0, (AV.str w1)), (5, (AV.int .i64 (w1.length : Int))), (6, (AV.int .i64 0))] [] ⟨rfl, rfl, rfl, trivial⟩ trivial ?_
  refine AW.loopF (σ := Int) (τ := Unit) (fun t3 _ => True) (fun t3 _ tm os => ⟨updL tm [(0, (AV.str w1)), (5, (AV.int .i64 (w1.length : Int))), (6, (AV.int .i64 t3))], updL os [], { s with lo := s.n }⟩) ?_ (x := (0)) (y := ()) h trivial
  clear h
  rintro t3 _ tm os - e1 h hL1 hR1
  unfold impl_ValidWord_S1 at h
  refine AW.seq ?_
  refine AW.region ?_
  refine AOps.pureR rfl rfl rfl rfl rfl (rfl : _ = (AV.bool (decide ((t3 : Int) < (w1.length : Int))))) ?_
  refine AOps.nilR ?_
  refine AW.seq ?_
  rcases oite h with ⟨hc4, h⟩ | ⟨hc4, h⟩
  · refine AW.condT (congrArg AV.bool hc4) ?_
    refine AW.skip ?_
    refine AW.seq ?_
    refine AW.block ?_
    refine AW.seq ?_
    refine AW.region ?_
    refine AOps.pureR rfl rfl rfl rfl rfl (rfl : _ = (AV.int .i64 t3)) ?_
    refine AOps.assignR rfl rfl rfl (rfl : _ = (AV.int .i64 t3)) rfl ?_
    refine AOps.nilR ?_
    refine AW.seq ?_
    refine AW.region ?_
    refine AOps.pureR rfl rfl rfl rfl rfl (rfl : _ = (AV.str w1)) ?_
    refine AOps.pureR rfl rfl rfl rfl rfl (rfl : _ = (AV.int .i64 t3)) ?_
    obtain ⟨c5, h6, h⟩ := obind h
    refine AOps.pureR rfl rfl rfl (chr_str h6) rfl (rfl : _ = (AV.int .u8 c5)) ?_
    obtain ⟨y7, h8, h⟩ := obind h
    refine AOps.callP (g := 72) (args := [(AV.str ([40, 91, 41, 93, 97, 98] : List UInt8)), (AV.int .u8 c5)]) (p := (rI .i64) y7) rfl rfl rfl (strings_IndexByte_ok  h8 hWF) ?_
    intro _ o10 h9
    cases h9
    refine AOps.pureR rfl rfl rfl rfl rfl (rfl : _ = (AV.bool (decide ((y7 : Int) < 0)))) ?_
    refine AOps.nilR ?_
    rcases oite h with ⟨hc11, h⟩ | ⟨hc11, h⟩
    · refine AW.condT (congrArg AV.bool hc11) ?_
      refine AW.seq ?_
      refine AW.region ?_
      refine AOps.pureR rfl rfl rfl rfl rfl (rfl : _ = (AV.bool false)) ?_
      refine AOps.nilR ?_
      cases h
      have hr := hR1 _ rfl
      subst hr
      exact AW.ret ⟨rfl, _, _, rfl, rfl⟩
    refine AW.condF (congrArg AV.bool hc11) ?_
    refine AW.skip ?_
    refine AW.inBlock ?_
    refine AW.region ?_
    refine AOps.pureR rfl rfl rfl rfl rfl (rfl : _ = (AV.int .i64 (IntKind.wrap .i64 (t3 + 1)))) ?_
    refine AOps.pureR rfl rfl rfl rfl rfl (rfl : _ = (AV.int .i64 (IntKind.wrap .i64 (t3 + 1)))) ?_
    refine AOps.nilR ?_
    cases h
    exact AW.res [(0, (AV.str w1)), (5, (AV.int .i64 (w1.length : Int))), (6, (AV.int .i64 (IntKind.wrap .i64 (t3 + 1))))] [] ⟨rfl, rfl, rfl, trivial⟩ trivial (hL1 _ rfl () _ _ trivial)
  refine AW.condF (congrArg AV.bool hc4) ?_
  refine AW.exit rfl ?_
  obtain ⟨r12, hm, hx⟩ := omap h
  clear h
  subst hx
  have hx := hR1 _ rfl
  rw [hx] at hm
  have h := hm
  exact AW.res [(0, (AV.str w1))] [] ⟨rfl, trivial⟩ trivial (KJ2 () _ _ h)
theorem impl_ValidStream_1_ok {w1 : List UInt8} {s : St} {r : Bool} (h : impl_ValidStream_1 w1 = some r) (hs : WF s) : ACall Cf 47 [(AV.str w1)] s fun v _ s' => (rB) r v ∧ s' = s := by
  refine ACall.pure rfl rfl rfl .B ?_
  have hWF := hs.lo'
  unfold impl_ValidStream_1 at h
  refine AW.seq ?_
  refine AW.region ?_
  refine AOps.pureR rfl rfl rfl rfl rfl (rfl : _ = (AV.bool false)) ?_
  refine AOps.nilR ?_
  refine AW.seq ?_
  refine AW.region ?_
  refine AOps.pureR rfl rfl rfl rfl rfl (rfl : _ = (AV.str w1)) ?_
  obtain ⟨y2, h3, h⟩ := obind h
  refine AOps.callP (g := 34) (args := [(AV.str w1)]) (p := (rB) y2) rfl rfl rfl (impl_ValidWord_ok  h3 hWF) ?_
  intro _ o5 h4
  cases h4
  refine AOps.pureR rfl rfl rfl rfl rfl (rfl : _ = (AV.bool (!y2))) ?_
  refine AOps.assignR rfl rfl rfl (rfl : _ = (AV.bool (!y2))) rfl ?_
  refine AOps.nilR ?_
  cases h
  exact AW.ret ⟨rfl, _, _, rfl, rfl⟩
theorem impl_ValidStream_ok {v1 : Stream} {z2 : Nat} {f3 : Bool} {e4 : List AV} {z6 : Nat} {f7 : Bool} {e8 : List AV} {z10 : Nat} {f11 : Bool} {e12 : List AV} {z14 : Nat} {f15 : Bool} {e16 : List AV} {z18 : Nat} {f19 : Bool} {e20 : List AV} {s : St} (h5 : LR rB 1 v1.Checker.Accept z2 e4) (h9 : LR (rL rPush 2) 1 v1.Checker.Call z6 e8) (h13 : LR (rL (rL (rI .i64) 1) 1) 1 v1.Checker.Return z10 e12) (h17 : LR (rL (rI .i64) 1) 1 v1.Checker.Inner z14 e16) (h21 : LR rS 1 v1.Pieces z18 e20) {r : Bool} (h : impl_ValidStream v1 = some r) (hs : WF s) : ACall Cf 19 [(AV.agg [(AV.int .i64 v1.Checker.Stack), (AV.int .i64 v1.Checker.Start), (AV.sl z2 f3 e4), (AV.sl z6 f7 e8), (AV.sl z10 f11 e12), (AV.sl z14 f15 e16), (AV.sl z18 f19 e20)])] s fun v _ s' => (rB) r v ∧ s' = s := by
  refine ACall.pure rfl rfl rfl .B ?_
  have hWF := hs.lo'
  unfold impl_ValidStream at h
  refine AW.seq ?_
  refine AW.region ?_
  refine AOps.makeR rfl rfl rfl rfl rfl rfl (rfl : _ = (AV.eptr [(AV.int .i64 v1.Checker.Stack), (AV.int .i64 v1.Checker.Start), (AV.sl z2 f3 e4), (AV.sl z6 f7 e8), (AV.sl z10 f11 e12), (AV.sl z14 f15 e16), (AV.sl z18 f19 e20)] 0)) ?_
  refine AOps.pureR rfl rfl rfl rfl rfl (rfl : _ = (AV.bool false)) ?_
  refine AOps.nilR ?_
  refine AW.seq ?_
  refine AW.region ?_
  refine AOps.pureR rfl rfl rfl rfl rfl (rfl : _ = (AV.eptr [(AV.int .i64 v1.Checker.Stack), (AV.int .i64 v1.Checker.Start), (AV.sl z2 f3 e4), (AV.sl z6 f7 e8), (AV.sl z10 f11 e12), (AV.sl z14 f15 e16), (AV.sl z18 f19 e20)] 0)) ?_
  refine AOps.ldE (v := (AV.agg [(AV.int .i64 v1.Checker.Stack), (AV.int .i64 v1.Checker.Start), (AV.sl z2 f3 e4), (AV.sl z6 f7 e8), (AV.sl z10 f11 e12), (AV.sl z14 f15 e16)])) rfl rfl rfl rfl rfl rfl ?_
  obtain ⟨y22, h23, h⟩ := obind h
  refine AOps.callP (g := 44) (args := [(AV.agg [(AV.int .i64 v1.Checker.Stack), (AV.int .i64 v1.Checker.Start), (AV.sl z2 f3 e4), (AV.sl z6 f7 e8), (AV.sl z10 f11 e12), (AV.sl z14 f15 e16)])]) (p := (rB) y22) rfl rfl rfl (impl_ValidChecker_ok h5 h9 h13 h17 h23 hWF) ?_
  intro _ o25 h24
  cases h24
  refine AOps.pureR rfl rfl rfl rfl rfl (rfl : _ = (AV.bool y22)) ?_
  obtain ⟨b27, hb, h⟩ := obind h
  refine AOps.split 5 (fun f' => ∃ tm' os', f' = ⟨updL tm' [(1, (AV.eptr [(AV.int .i64 v1.Checker.Stack), (AV.int .i64 v1.Checker.Start), (AV.sl z2 f3 e4), (AV.sl z6 f7 e8), (AV.sl z10 f11 e12), (AV.sl z14 f15 e16), (AV.sl z18 f19 e20)] 0)), (11, (AV.bool b27))], updL os' [], { s with lo := s.n }⟩) ?_ ?_
  · rcases oite hb with ⟨hc26, hb⟩ | ⟨hc26, hb⟩
    · have h := hb
      refine AOps.know (d := 6) rfl hc26 ?_
      refine AOps.pureR rfl rfl rfl rfl rfl (rfl : _ = (AV.eptr [(AV.int .i64 v1.Checker.Stack), (AV.int .i64 v1.Checker.Start), (AV.sl z2 f3 e4), (AV.sl z6 f7 e8), (AV.sl z10 f11 e12), (AV.sl z14 f15 e16), (AV.sl z18 f19 e20)] 6)) ?_
      refine AOps.ldE (v := (AV.sl z18 f19 e20)) rfl rfl rfl rfl rfl rfl ?_
      obtain ⟨y28, h29, h⟩ := obind h
      refine AOps.callP (g := 45) (args := [(AV.sl z18 f19 e20)]) (p := (rI .i64) y28) rfl rfl rfl (impl_size_string_ok h21 h29 hWF) ?_
      intro _ o31 h30
      cases h30
      obtain ⟨y32, h33, h⟩ := obind h
      refine AOps.callP (g := 27) (args := [(AV.int .i64 y28), (AV.int .i64 1), (AV.int .i64 20)]) (p := (rB) y32) rfl rfl rfl (impl_within_ok  h33 hWF) ?_
      intro _ o35 h34
      cases h34
      refine AOps.pureR rfl rfl rfl rfl rfl (rfl : _ = (AV.bool y32)) ?_
      refine AOps.resR [(1, (AV.eptr [(AV.int .i64 v1.Checker.Stack), (AV.int .i64 v1.Checker.Start), (AV.sl z2 f3 e4), (AV.sl z6 f7 e8), (AV.sl z10 f11 e12), (AV.sl z14 f15 e16), (AV.sl z18 f19 e20)] 0)), (11, (AV.bool b27))] [] ?_ ?_ _ ⟨_, _, rfl⟩
      · exact ⟨rfl, congrArg AV.bool (Option.some.inj h), trivial⟩
      exact trivial
    · refine AOps.know (d := 6) rfl hc26 ?_
      refine AOps.skipR rfl rfl ?_
      refine AOps.skipR rfl rfl ?_
      refine AOps.skipR rfl rfl ?_
      refine AOps.skipR rfl rfl ?_
      refine AOps.pureR rfl rfl rfl rfl rfl (rfl : _ = (AV.bool false)) ?_
      refine AOps.resR [(1, (AV.eptr [(AV.int .i64 v1.Checker.Stack), (AV.int .i64 v1.Checker.Start), (AV.sl z2 f3 e4), (AV.sl z6 f7 e8), (AV.sl z10 f11 e12), (AV.sl z14 f15 e16), (AV.sl z18 f19 e20)] 0)), (11, (AV.bool b27))] [] ?_ ?_ _ ⟨_, _, rfl⟩
      · exact ⟨rfl, congrArg AV.bool (Option.some.inj hb), trivial⟩
      exact trivial
  rintro _ ⟨tm, os, rfl⟩
  refine AOps.pureR rfl rfl rfl rfl rfl (rfl : _ = (AV.bool b27)) ?_
  obtain ⟨b37, hb, h⟩ := obind h
  refine AOps.split 5 (fun f' => ∃ tm' os', f' = ⟨updL tm' [(1, (AV.eptr [(AV.int .i64 v1.Checker.Stack), (AV.int .i64 v1.Checker.Start), (AV.sl z2 f3 e4), (AV.sl z6 f7 e8), (AV.sl z10 f11 e12), (AV.sl z14 f15 e16), (AV.sl z18 f19 e20)] 0)), (17, (AV.bool b37))], updL os' [], { s with lo := s.n }⟩) ?_ ?_
  · rcases oite hb with ⟨hc36, hb⟩ | ⟨hc36, hb⟩
    · have h := hb
      refine AOps.know (d := 12) rfl hc36 ?_
      refine AOps.pureR rfl rfl rfl rfl rfl (rfl : _ = (AV.eptr [(AV.int .i64 v1.Checker.Stack), (AV.int .i64 v1.Checker.Start), (AV.sl z2 f3 e4), (AV.sl z6 f7 e8), (AV.sl z10 f11 e12), (AV.sl z14 f15 e16), (AV.sl z18 f19 e20)] 6)) ?_
      refine AOps.ldE (v := (AV.sl z18 f19 e20)) rfl rfl rfl rfl rfl rfl ?_
      obtain ⟨y38, h39, h⟩ := obind h
      refine AOps.callP (g := 46) (args := [(AV.sl z18 f19 e20), (AV.fn 47 [])]) (p := (rB) y38) rfl rfl rfl (slices_ContainsFunc_sstring_string_ok h21 (by intro x vs y hc hx s hs; obtain ⟨_, _, rfl, hv0, hd0⟩ := Cs_cons hc; cases hv0; cases Cs_nil hd0; exact impl_ValidStream_1_ok  hx hs) h39 hWF) ?_
      intro _ o41 h40
      cases h40
      refine AOps.pureR rfl rfl rfl rfl rfl (rfl : _ = (AV.bool (!y38))) ?_
      refine AOps.pureR rfl rfl rfl rfl rfl (rfl : _ = (AV.bool (!y38))) ?_
      refine AOps.resR [(1, (AV.eptr [(AV.int .i64 v1.Checker.Stack), (AV.int .i64 v1.Checker.Start), (AV.sl z2 f3 e4), (AV.sl z6 f7 e8), (AV.sl z10 f11 e12), (AV.sl z14 f15 e16), (AV.sl z18 f19 e20)] 0)), (17, (AV.bool b37))] [] ?_ ?_ _ ⟨_, _, rfl⟩
      · exact ⟨rfl, congrArg AV.bool (Option.some.inj h), trivial⟩
      exact trivial
    · refine AOps.know (d := 12) rfl hc36 ?_
      refine AOps.skipR rfl rfl ?_
      refine AOps.skipR rfl rfl ?_
      refine AOps.skipR rfl rfl ?_
      refine AOps.skipR rfl rfl ?_
      refine AOps.pureR rfl rfl rfl rfl rfl (rfl : _ = (AV.bool false)) ?_
      refine AOps.resR [(1, (AV.eptr [(AV.int .i64 v1.Checker.Stack), (AV.int .i64 v1.Checker.Start), (AV.sl z2 f3 e4), (AV.sl z6 f7 e8), (AV.sl z10 f11 e12), (AV.sl z14 f15 e16), (AV.sl z18 f19 e20)] 0)), (17, (AV.bool b37))] [] ?_ ?_ _ ⟨_, _, rfl⟩
      · exact ⟨rfl, congrArg AV.bool (Option.some.inj hb), trivial⟩
      exact trivial
  rintro _ ⟨tm, os, rfl⟩
  refine AOps.pureR rfl rfl rfl rfl rfl (rfl : _ = (AV.bool b37)) ?_
  obtain ⟨b43, hb, h⟩ := obind h
  refine AOps.split 5 (fun f' => ∃ tm' os', f' = ⟨updL tm' [(23, (AV.bool b43))], updL os' [], { s with lo := s.n }⟩) ?_ ?_
  · rcases oite hb with ⟨hc42, hb⟩ | ⟨hc42, hb⟩
    · have h := hb
      refine AOps.know (d := 18) rfl hc42 ?_
      refine AOps.pureR rfl rfl rfl rfl rfl (rfl : _ = (AV.eptr [(AV.int .i64 v1.Checker.Stack), (AV.int .i64 v1.Checker.Start), (AV.sl z2 f3 e4), (AV.sl z6 f7 e8), (AV.sl z10 f11 e12), (AV.sl z14 f15 e16), (AV.sl z18 f19 e20)] 6)) ?_
      refine AOps.ldE (v := (AV.sl z18 f19 e20)) rfl rfl rfl rfl rfl rfl ?_
      obtain ⟨y44, h45, h⟩ := obind h
      refine AOps.callP (g := 48) (args := [(AV.sl z18 f19 e20), (AV.str ([] : List UInt8))]) (p := (rS) y44) rfl rfl rfl (ext_join_ok h21 h45 hWF) ?_
      intro _ o47 h46
      cases h46
      obtain ⟨y48, h49, h⟩ := obind h
      refine AOps.callP (g := 34) (args := [(AV.str y44)]) (p := (rB) y48) rfl rfl rfl (impl_ValidWord_ok  h49 hWF) ?_
      intro _ o51 h50
      cases h50
      refine AOps.pureR rfl rfl rfl rfl rfl (rfl : _ = (AV.bool y48)) ?_
      refine AOps.resR [(23, (AV.bool b43))] [] ?_ ?_ _ ⟨_, _, rfl⟩
      · exact ⟨congrArg AV.bool (Option.some.inj h), trivial⟩
      exact trivial
    · refine AOps.know (d := 18) rfl hc42 ?_
      refine AOps.skipR rfl rfl ?_
      refine AOps.skipR rfl rfl ?_
      refine AOps.skipR rfl rfl ?_
      refine AOps.skipR rfl rfl ?_
      refine AOps.pureR rfl rfl rfl rfl rfl (rfl : _ = (AV.bool false)) ?_
      refine AOps.resR [(23, (AV.bool b43))] [] ?_ ?_ _ ⟨_, _, rfl⟩
      · exact ⟨congrArg AV.bool (Option.some.inj hb), trivial⟩
      exact trivial
  rintro _ ⟨tm, os, rfl⟩
  refine AOps.assignR rfl rfl rfl (rfl : _ = (AV.bool b43)) rfl ?_
  refine AOps.nilR ?_
  cases h
  exact AW.ret ⟨rfl, _, _, rfl, rfl⟩
theorem laws_eqBoolS_ok {a1 : List Bool} {b6 : List Bool} {z2 : Nat} {f3 : Bool} {e4 : List AV} {z7 : Nat} {f8 : Bool} {e9 : List AV} {s : St} (h5 : LR rB 1 a1 z2 e4) (h10 : LR rB 1 b6 z7 e9) {r : Bool} (h : laws_eqBoolS a1 b6 = some r) (hs : WF s) : ACall Cf 100 [(AV.sl z2 f3 e4), (AV.sl z7 f8 e9)] s fun v _ s' => (rB) r v ∧ s' = s := by
  refine ACall.pure rfl rfl rfl .B ?_
  have hWF := hs.lo'
  unfold laws_eqBoolS at h
  refine AW.seq ?_
  refine AW.region ?_
  refine AOps.pureR rfl rfl rfl rfl rfl (rfl : _ = (AV.bool false)) ?_
  refine AOps.nilR ?_
  refine AW.seq ?_
  refine AW.seq ?_
  refine AW.region ?_
  refine AOps.pureR rfl rfl rfl rfl rfl (rfl : _ = (AV.sl z2 f3 e4)) ?_
  refine AOps.pureR rfl rfl rfl rfl rfl (len_eq h5) ?_
  refine AOps.pureR rfl rfl rfl rfl rfl (rfl : _ = (AV.sl z7 f8 e9)) ?_
  refine AOps.pureR rfl rfl rfl rfl rfl (len_eq h10) ?_
  refine AOps.pureR rfl rfl rfl rfl rfl (rfl : _ = (AV.bool ((a1.length : Int) != (b6.length : Int)))) ?_
  refine AOps.nilR ?_
  rcases oite h with ⟨hc11, h⟩ | ⟨hc11, h⟩
  · refine AW.condT (congrArg AV.bool hc11) ?_
    refine AW.seq ?_
    refine AW.region ?_
    refine AOps.pureR rfl rfl rfl rfl rfl (rfl : _ = (AV.bool false)) ?_
    refine AOps.nilR ?_
    cases h
    exact AW.ret ⟨rfl, _, _, rfl, rfl⟩
  refine AW.condF (congrArg AV.bool hc11) ?_
  refine AW.skip ?_
  refine AW.seq ?_
  refine AW.seq ?_
  refine AW.region ?_
  refine AOps.pureR rfl rfl rfl rfl rfl (rfl : _ = (AV.int .i64 0)) ?_
  refine AOps.nilR ?_
  refine AW.meet (σ := Unit) (fun _ tm os => ⟨updL tm [], updL os [], { s with lo := s.n }⟩) (fun _ => laws_eqBoolS_J1 = some r) ?_ ?_
  · rintro _ tm os h
    unfold laws_eqBoolS_J1 at h
    refine AW.seq ?_
    refine AW.region ?_
    refine AOps.pureR rfl rfl rfl rfl rfl (rfl : _ = (AV.bool true)) ?_
    refine AOps.nilR ?_
    cases h
    exact AW.ret ⟨rfl, _, _, rfl, rfl⟩
  intro KJ12
  refine AW.block ?_
  refine AW.res [(0, (AV.sl z2 f3 e4)), (1, (AV.sl z7 f8 e9)), (5, (AV.int .i64 0))] [] ⟨rfl, rfl, rfl, trivial⟩ trivial ?_
  refine AW.loopF (σ := Int) (τ := Unit) (fun i13 _ => True) (fun i13 _ tm os => ⟨updL tm [(0, (AV.sl z2 f3 e4)), (1, (AV.sl z7 f8 e9)), (5, (AV.int .i64 i13))], updL os [], { s with lo := s.n }⟩) ?_ (x := (0)) (y := ()) h trivial
  clear h
  rintro i13 _ tm os - e1 h hL1 hR1
  unfold laws_eqBoolS_S1 at h
  refine AW.seq ?_
  refine AW.seq ?_
  refine AW.region ?_
  refine AOps.pureR rfl rfl rfl rfl rfl (rfl : _ = (AV.int .i64 i13)) ?_
  refine AOps.pureR rfl rfl rfl rfl rfl (rfl : _ = (AV.sl z2 f3 e4)) ?_
  refine AOps.pureR rfl rfl rfl rfl rfl (len_eq h5) ?_
  refine AOps.pureR rfl rfl rfl rfl rfl (rfl : _ = (AV.bool (decide ((i13 : Int) < (a1.length : Int))))) ?_
  refine AOps.nilR ?_
  rcases oite h with ⟨hc14, h⟩ | ⟨hc14, h⟩
  · refine AW.condT (congrArg AV.bool hc14) ?_
    refine AW.skip ?_
    refine AW.seq ?_
    refine AW.block ?_
    refine AW.seq ?_
    refine AW.region ?_
    refine AOps.pureR rfl rfl rfl rfl rfl (rfl : _ = (AV.sl z2 f3 e4)) ?_
    refine AOps.pureR rfl rfl rfl rfl rfl (rfl : _ = (AV.int .i64 i13)) ?_
    obtain ⟨x15, h16, h⟩ := obind h
    obtain ⟨v19, h17, h18⟩ := idx_sl h5 h16
    cases h17
    refine AOps.pureR rfl rfl rfl h18 rfl (rfl : _ = (AV.eptr [(AV.bool x15)] 0)) ?_
    refine AOps.ldE (v := (AV.bool x15)) rfl rfl rfl rfl rfl rfl ?_
    refine AOps.pureR rfl rfl rfl rfl rfl (rfl : _ = (AV.sl z7 f8 e9)) ?_
    refine AOps.pureR rfl rfl rfl rfl rfl (rfl : _ = (AV.int .i64 i13)) ?_
    obtain ⟨x20, h21, h⟩ := obind h
    obtain ⟨v24, h22, h23⟩ := idx_sl h10 h21
    cases h22
    refine AOps.pureR rfl rfl rfl h23 rfl (rfl : _ = (AV.eptr [(AV.bool x20)] 0)) ?_
    refine AOps.ldE (v := (AV.bool x20)) rfl rfl rfl rfl rfl rfl ?_
    refine AOps.pureR rfl rfl rfl rfl rfl (rfl : _ = (AV.bool (!(x15 == x20)))) ?_
    refine AOps.nilR ?_
    rcases oite h with ⟨hc25, h⟩ | ⟨hc25, h⟩
    · refine AW.condT (congrArg AV.bool hc25) ?_
      refine AW.seq ?_
      refine AW.region ?_
      refine AOps.pureR rfl rfl rfl rfl rfl (rfl : _ = (AV.bool false)) ?_
      refine AOps.nilR ?_
      cases h
      have hr := hR1 _ rfl
      subst hr
      exact AW.ret ⟨rfl, _, _, rfl, rfl⟩
    refine AW.condF (congrArg AV.bool hc25) ?_
    refine AW.skip ?_
    refine AW.inBlock ?_
    refine AW.region ?_
    refine AOps.pureR rfl rfl rfl rfl rfl (rfl : _ = (AV.int .i64 i13)) ?_
    refine AOps.pureR rfl rfl rfl rfl rfl (rfl : _ = (AV.int .i64 (IntKind.wrap .i64 (i13 + 1)))) ?_
    refine AOps.assignR rfl rfl rfl (rfl : _ = (AV.int .i64 (IntKind.wrap .i64 (i13 + 1)))) rfl ?_
    refine AOps.nilR ?_
    cases h
    exact AW.res [(0, (AV.sl z2 f3 e4)), (1, (AV.sl z7 f8 e9)), (5, (AV.int .i64 (IntKind.wrap .i64 (i13 + 1))))] [] ⟨rfl, rfl, rfl, trivial⟩ trivial (hL1 _ rfl () _ _ trivial)
  refine AW.condF (congrArg AV.bool hc14) ?_
  refine AW.exit rfl ?_
  obtain ⟨r26, hm, hx⟩ := omap h
  clear h
  subst hx
  have hx := hR1 _ rfl
  rw [hx] at hm
  have h := hm
  exact AW.res [] [] trivial trivial (KJ12 () _ _ h)
theorem laws_eqPush_ok {a1 : Push} {b2 : Push} {s : St} {r : Bool} (h : laws_eqPush a1 b2 = some r) (hs : WF s) : ACall Cf 145 [(AV.agg [(AV.int .i64 a1.To), (AV.int .i64 a1.Put)]), (AV.agg [(AV.int .i64 b2.To), (AV.int .i64 b2.Put)])] s fun v _ s' => (rB) r v ∧ s' = s := by
  refine ACall.pure rfl rfl rfl .B ?_
  have hWF := hs.lo'
  unfold laws_eqPush at h
  refine AW.seq ?_
  refine AW.region ?_
  refine AOps.makeR rfl rfl rfl rfl rfl rfl (rfl : _ = (AV.eptr [(AV.int .i64 a1.To), (AV.int .i64 a1.Put)] 0)) ?_
  refine AOps.makeR rfl rfl rfl rfl rfl rfl (rfl : _ = (AV.eptr [(AV.int .i64 b2.To), (AV.int .i64 b2.Put)] 0)) ?_
  refine AOps.pureR rfl rfl rfl rfl rfl (rfl : _ = (AV.bool false)) ?_
  refine AOps.nilR ?_
  refine AW.seq ?_
  refine AW.seq ?_
  refine AW.region ?_
  refine AOps.pureR rfl rfl rfl rfl rfl (rfl : _ = (AV.eptr [(AV.int .i64 a1.To), (AV.int .i64 a1.Put)] 0)) ?_
  refine AOps.ldE (v := (AV.int .i64 a1.To)) rfl rfl rfl rfl rfl rfl ?_
  refine AOps.pureR rfl rfl rfl rfl rfl (rfl : _ = (AV.eptr [(AV.int .i64 b2.To), (AV.int .i64 b2.Put)] 0)) ?_
  refine AOps.ldE (v := (AV.int .i64 b2.To)) rfl rfl rfl rfl rfl rfl ?_
  refine AOps.pureR rfl rfl rfl rfl rfl (rfl : _ = (AV.bool (a1.To != b2.To))) ?_
  refine AOps.nilR ?_
  rcases oite h with ⟨hc3, h⟩ | ⟨hc3, h⟩
  · refine AW.condT (congrArg AV.bool hc3) ?_
    refine AW.seq ?_
    refine AW.region ?_
    refine AOps.pureR rfl rfl rfl rfl rfl (rfl : _ = (AV.bool false)) ?_
    refine AOps.nilR ?_
    cases h
    exact AW.ret ⟨rfl, _, _, rfl, rfl⟩
  refine AW.condF (congrArg AV.bool hc3) ?_
  refine AW.skip ?_
  refine AW.seq ?_
  refine AW.seq ?_
  refine AW.region ?_
  refine AOps.pureR rfl rfl rfl rfl rfl (rfl : _ = (AV.eptr [(AV.int .i64 a1.To), (AV.int .i64 a1.Put)] 1)) ?_
  refine AOps.ldE (v := (AV.int .i64 a1.Put)) rfl rfl rfl rfl rfl rfl ?_
  refine AOps.pureR rfl rfl rfl rfl rfl (rfl : _ = (AV.eptr [(AV.int .i64 b2.To), (AV.int .i64 b2.Put)] 1)) ?_
  refine AOps.ldE (v := (AV.int .i64 b2.Put)) rfl rfl rfl rfl rfl rfl ?_
  refine AOps.pureR rfl rfl rfl rfl rfl (rfl : _ = (AV.bool (a1.Put != b2.Put))) ?_
  refine AOps.nilR ?_
  rcases oite h with ⟨hc4, h⟩ | ⟨hc4, h⟩
  · refine AW.condT (congrArg AV.bool hc4) ?_
    refine AW.seq ?_
    refine AW.region ?_
    refine AOps.pureR rfl rfl rfl rfl rfl (rfl : _ = (AV.bool false)) ?_
    refine AOps.nilR ?_
    cases h
    exact AW.ret ⟨rfl, _, _, rfl, rfl⟩
  refine AW.condF (congrArg AV.bool hc4) ?_
  refine AW.skip ?_
  refine AW.seq ?_
  refine AW.region ?_
  refine AOps.pureR rfl rfl rfl rfl rfl (rfl : _ = (AV.bool true)) ?_
  refine AOps.nilR ?_
  cases h
  exact AW.ret ⟨rfl, _, _, rfl, rfl⟩
theorem laws_eqPushS_ok {a1 : List Push} {b6 : List Push} {z2 : Nat} {f3 : Bool} {e4 : List AV} {z7 : Nat} {f8 : Bool} {e9 : List AV} {s : St} (h5 : LR rPush 2 a1 z2 e4) (h10 : LR rPush 2 b6 z7 e9) {r : Bool} (h : laws_eqPushS a1 b6 = some r) (hs : WF s) : ACall Cf 131 [(AV.sl z2 f3 e4), (AV.sl z7 f8 e9)] s fun v _ s' => (rB) r v ∧ s' = s := by
  refine ACall.pure rfl rfl rfl .B ?_
  have hWF := hs.lo'
  unfold laws_eqPushS at h
  refine AW.seq ?_
  refine AW.region ?_
  refine AOps.pureR rfl rfl rfl rfl rfl (rfl : _ = (AV.bool false)) ?_
  refine AOps.nilR ?_
  refine AW.seq ?_
  refine AW.seq ?_
  refine AW.region ?_
  refine AOps.pureR rfl rfl rfl rfl rfl (rfl : _ = (AV.sl z2 f3 e4)) ?_
  refine AOps.pureR rfl rfl rfl rfl rfl (len_eq h5) ?_
  refine AOps.pureR rfl rfl rfl rfl rfl (rfl : _ = (AV.sl z7 f8 e9)) ?_
  refine AOps.pureR rfl rfl rfl rfl rfl (len_eq h10) ?_
  refine AOps.pureR rfl rfl rfl rfl rfl (rfl : _ = (AV.bool ((a1.length : Int) != (b6.length : Int)))) ?_
  refine AOps.nilR ?_
  rcases oite h with ⟨hc11, h⟩ | ⟨hc11, h⟩
  · refine AW.condT (congrArg AV.bool hc11) ?_
    refine AW.seq ?_
    refine AW.region ?_
    refine AOps.pureR rfl rfl rfl rfl rfl (rfl : _ = (AV.bool false)) ?_
    refine AOps.nilR ?_
    cases h
    exact AW.ret ⟨rfl, _, _, rfl, rfl⟩
  refine AW.condF (congrArg AV.bool hc11) ?_
  refine AW.skip ?_
  refine AW.seq ?_
  refine AW.seq ?_
  refine AW.region ?_
  refine AOps.pureR rfl rfl rfl rfl rfl (rfl : _ = (AV.int .i64 0)) ?_
  refine AOps.nilR ?_
  refine AW.meet (σ := Unit) (fun _ tm os => ⟨updL tm [], updL os [], { s with lo := s.n }⟩) (fun _ => laws_eqPushS_J1 = some r) ?_ ?_
  · rintro _ tm os h
    unfold laws_eqPushS_J1 at h
    refine AW.seq ?_
    refine AW.region ?_
    refine AOps.pureR rfl rfl rfl rfl rfl (rfl : _ = (AV.bool true)) ?_
    refine AOps.nilR ?_
    cases h
    exact AW.ret ⟨rfl, _, _, rfl, rfl⟩
  intro KJ12
  refine AW.block ?_
  refine AW.res [(0, (AV.sl z2 f3 e4)), (1, (AV.sl z7 f8 e9)), (5, (AV.int .i64 0))] [] ⟨rfl, rfl, rfl, trivial⟩ trivial ?_
  refine AW.loopF (σ := Int) (τ := Unit) (fun i13 _ => True) (fun i13 _ tm os => ⟨updL tm [(0, (AV.sl z2 f3 e4)), (1, (AV.sl z7 f8 e9)), (5, (AV.int .i64 i13))], updL os [], { s with lo := s.n }⟩) ?_ (x := (0)) (y := ()) h trivial
  clear h
  rintro i13 _ tm os - e1 h hL1 hR1
  unfold laws_eqPushS_S1 at h
  refine AW.seq ?_
  refine AW.seq ?_
  refine AW.region ?_
  refine AOps.pureR rfl rfl rfl rfl rfl (rfl : _ = (AV.int .i64 i13)) ?_
  refine AOps.pureR rfl rfl rfl rfl rfl (rfl : _ = (AV.sl z2 f3 e4)) ?_
  refine AOps.pureR rfl rfl rfl rfl rfl (len_eq h5) ?_
  refine AOps.pureR rfl rfl rfl rfl rfl (rfl : _ = (AV.bool (decide ((i13 : Int) < (a1.length : Int))))) ?_
  refine AOps.nilR ?_
  rcases oite h with ⟨hc14, h⟩ | ⟨hc14, h⟩
  · refine AW.condT (congrArg AV.bool hc14) ?_
    refine AW.skip ?_
    refine AW.seq ?_
    refine AW.block ?_
    refine AW.seq ?_
    refine AW.region ?_
    refine AOps.pureR rfl rfl rfl rfl rfl (rfl : _ = (AV.sl z2 f3 e4)) ?_
    refine AOps.pureR rfl rfl rfl rfl rfl (rfl : _ = (AV.int .i64 i13)) ?_
    obtain ⟨x15, h16, h⟩ := obind h
    obtain ⟨v19, h17, h18⟩ := idx_sl h5 h16
    obtain ⟨_, rfl, h20⟩ := h17
    obtain ⟨_, _, rfl, h21, h22⟩ := Cs_cons h20
    cases h21
    obtain ⟨_, _, rfl, h23, h24⟩ := Cs_cons h22
    cases h23
    cases Cs_nil h24
    refine AOps.pureR rfl rfl rfl h18 rfl (rfl : _ = (AV.eptr [(AV.int .i64 x15.To), (AV.int .i64 x15.Put)] 0)) ?_
    refine AOps.ldE (v := (AV.agg [(AV.int .i64 x15.To), (AV.int .i64 x15.Put)])) rfl rfl rfl rfl rfl rfl ?_
    refine AOps.pureR rfl rfl rfl rfl rfl (rfl : _ = (AV.sl z7 f8 e9)) ?_
    refine AOps.pureR rfl rfl rfl rfl rfl (rfl : _ = (AV.int .i64 i13)) ?_
    obtain ⟨x25, h26, h⟩ := obind h
    obtain ⟨v29, h27, h28⟩ := idx_sl h10 h26
    obtain ⟨_, rfl, h30⟩ := h27
    obtain ⟨_, _, rfl, h31, h32⟩ := Cs_cons h30
    cases h31
    obtain ⟨_, _, rfl, h33, h34⟩ := Cs_cons h32
    cases h33
    cases Cs_nil h34
    refine AOps.pureR rfl rfl rfl h28 rfl (rfl : _ = (AV.eptr [(AV.int .i64 x25.To), (AV.int .i64 x25.Put)] 0)) ?_
    refine AOps.ldE (v := (AV.agg [(AV.int .i64 x25.To), (AV.int .i64 x25.Put)])) rfl rfl rfl rfl rfl rfl ?_
    obtain ⟨y35, h36, h⟩ := obind h
    refine AOps.callDP (g := 145) (args := [(AV.agg [(AV.int .i64 x15.To), (AV.int .i64 x15.Put)]), (AV.agg [(AV.int .i64 x25.To), (AV.int .i64 x25.Put)])]) (p := (rB) y35) rfl rfl rfl (laws_eqPush_ok  h36 hWF.still) (fun v hv => Nice.pure (k := FINK) (p := (rB) y35) .B _ v hv) ?_
    intro _ o38 h37
    cases h37
    refine AOps.pureR rfl rfl rfl rfl rfl (rfl : _ = (AV.bool (!y35))) ?_
    refine AOps.nilR ?_
    rcases oite h with ⟨hc39, h⟩ | ⟨hc39, h⟩
    · refine AW.condT (congrArg AV.bool hc39) ?_
      refine AW.seq ?_
      refine AW.region ?_
      refine AOps.pureR rfl rfl rfl rfl rfl (rfl : _ = (AV.bool false)) ?_
      refine AOps.nilR ?_
      cases h
      have hr := hR1 _ rfl
      subst hr
      exact AW.ret ⟨rfl, _, _, rfl, rfl⟩
    refine AW.condF (congrArg AV.bool hc39) ?_
    refine AW.skip ?_
    refine AW.inBlock ?_
    refine AW.region ?_
    refine AOps.pureR rfl rfl rfl rfl rfl (rfl : _ = (AV.int .i64 i13)) ?_
    refine AOps.pureR rfl rfl rfl rfl rfl (rfl : _ = (AV.int .i64 (IntKind.wrap .i64 (i13 + 1)))) ?_
    refine AOps.assignR rfl rfl rfl (rfl : _ = (AV.int .i64 (IntKind.wrap .i64 (i13 + 1)))) rfl ?_
    refine AOps.nilR ?_
    cases h
    exact AW.res [(0, (AV.sl z2 f3 e4)), (1, (AV.sl z7 f8 e9)), (5, (AV.int .i64 (IntKind.wrap .i64 (i13 + 1))))] [] ⟨rfl, rfl, rfl, trivial⟩ trivial (hL1 _ rfl () _ _ trivial)
  refine AW.condF (congrArg AV.bool hc14) ?_
  refine AW.exit rfl ?_
  obtain ⟨r40, hm, hx⟩ := omap h
  clear h
  subst hx
  have hx := hR1 _ rfl
  rw [hx] at hm
  have h := hm
  exact AW.res [] [] trivial trivial (KJ12 () _ _ h)
theorem laws_eqPushSS_ok {a1 : List (List Push)} {b6 : List (List Push)} {z2 : Nat} {f3 : Bool} {e4 : List AV} {z7 : Nat} {f8 : Bool} {e9 : List AV} {s : St} (h5 : LR (rL rPush 2) 1 a1 z2 e4) (h10 : LR (rL rPush 2) 1 b6 z7 e9) {r : Bool} (h : laws_eqPushSS a1 b6 = some r) (hs : WF s) : ACall Cf 101 [(AV.sl z2 f3 e4), (AV.sl z7 f8 e9)] s fun v _ s' => (rB) r v ∧ s' = s := by
  refine ACall.pure rfl rfl rfl .B ?_
  have hWF := hs.lo'
  unfold laws_eqPushSS at h
  refine AW.seq ?_
  refine AW.region ?_
  refine AOps.pureR rfl rfl rfl rfl rfl (rfl : _ = (AV.bool false)) ?_
  refine AOps.nilR ?_
  refine AW.seq ?_
  refine AW.seq ?_
  refine AW.region ?_
  refine AOps.pureR rfl rfl rfl rfl rfl (rfl : _ = (AV.sl z2 f3 e4)) ?_
  refine AOps.pureR rfl rfl rfl rfl rfl (len_eq h5) ?_
  refine AOps.pureR rfl rfl rfl rfl rfl (rfl : _ = (AV.sl z7 f8 e9)) ?_
  refine AOps.pureR rfl rfl rfl rfl rfl (len_eq h10) ?_
  refine AOps.pureR rfl rfl rfl rfl rfl (rfl : _ = (AV.bool ((a1.length : Int) != (b6.length : Int)))) ?_
  refine AOps.nilR ?_
  rcases oite h with ⟨hc11, h⟩ | ⟨hc11, h⟩
  · refine AW.condT (congrArg AV.bool hc11) ?_
    refine AW.seq ?_
    refine AW.region ?_
    refine AOps.pureR rfl rfl rfl rfl rfl (rfl : _ = (AV.bool false)) ?_
    refine AOps.nilR ?_
    cases h
    exact AW.ret ⟨rfl, _, _, rfl, rfl⟩
  refine AW.condF (congrArg AV.bool hc11) ?_
  refine AW.skip ?_
  refine AW.seq ?_
  refine AW.seq ?_
  refine AW.region ?_
  refine AOps.pureR rfl rfl rfl rfl rfl (rfl : _ = (AV.int .i64 0)) ?_
  refine AOps.nilR ?_
  refine AW.meet (σ := Unit) (fun _ tm os => ⟨updL tm [], updL os [], { s with lo := s.n }⟩) (fun _ => laws_eqPushSS_J1 = some r) ?_ ?_
  · rintro _ tm os h
    unfold laws_eqPushSS_J1 at h
    refine AW.seq ?_
    refine AW.region ?_
    refine AOps.pureR rfl rfl rfl rfl rfl (rfl : _ = (AV.bool true)) ?_
    refine AOps.nilR ?_
    cases h
    exact AW.ret ⟨rfl, _, _, rfl, rfl⟩
  intro KJ12
  refine AW.block ?_
  refine AW.res [(0, (AV.sl z2 f3 e4)), (1, (AV.sl z7 f8 e9)), (5, (AV.int .i64 0))] [] ⟨rfl, rfl, rfl, trivial⟩ trivial ?_
  refine AW.loopF (σ := Int) (τ := Unit) (fun i13 _ => True) (fun i13 _ tm os => ⟨updL tm [(0, (AV.sl z2 f3 e4)), (1, (AV.sl z7 f8 e9)), (5, (AV.int .i64 i13))], updL os [], { s with lo := s.n }⟩) ?_ (x := (0)) (y := ()) h trivial
  clear h
  rintro i13 _ tm os - e1 h hL1 hR1
  unfold laws_eqPushSS_S1 at h
  refine AW.seq ?_
  refine AW.seq ?_
  refine AW.region ?_
  refine AOps.pureR rfl rfl rfl rfl rfl (rfl : _ = (AV.int .i64 i13)) ?_
  refine AOps.pureR rfl rfl rfl rfl rfl (rfl : _ = (AV.sl z2 f3 e4)) ?_
  refine AOps.pureR rfl rfl rfl rfl rfl (len_eq h5) ?_
  refine AOps.pureR rfl rfl rfl rfl rfl (rfl : _ = (AV.bool (decide ((i13 : Int) < (a1.length : Int))))) ?_
  refine AOps.nilR ?_
  rcases oite h with ⟨hc14, h⟩ | ⟨hc14, h⟩
  · refine AW.condT (congrArg AV.bool hc14) ?_
    refine AW.skip ?_
    refine AW.seq ?_
    refine AW.block ?_
    refine AW.seq ?_
    refine AW.region ?_
    refine AOps.pureR rfl rfl rfl rfl rfl (rfl : _ = (AV.sl z2 f3 e4)) ?_
    refine AOps.pureR rfl rfl rfl rfl rfl (rfl : _ = (AV.int .i64 i13)) ?_
    obtain ⟨x15, h16, h⟩ := obind h
    obtain ⟨v19, h17, h18⟩ := idx_sl h5 h16
    obtain ⟨z20, f21, e22, rfl, h23⟩ := h17
    refine AOps.pureR rfl rfl rfl h18 rfl (rfl : _ = (AV.eptr [(AV.sl z20 f21 e22)] 0)) ?_
    refine AOps.ldE (v := (AV.sl z20 f21 e22)) rfl rfl rfl rfl rfl rfl ?_
    refine AOps.pureR rfl rfl rfl rfl rfl (rfl : _ = (AV.sl z7 f8 e9)) ?_
    refine AOps.pureR rfl rfl rfl rfl rfl (rfl : _ = (AV.int .i64 i13)) ?_
    obtain ⟨x24, h25, h⟩ := obind h
    obtain ⟨v28, h26, h27⟩ := idx_sl h10 h25
    obtain ⟨z29, f30, e31, rfl, h32⟩ := h26
    refine AOps.pureR rfl rfl rfl h27 rfl (rfl : _ = (AV.eptr [(AV.sl z29 f30 e31)] 0)) ?_
    refine AOps.ldE (v := (AV.sl z29 f30 e31)) rfl rfl rfl rfl rfl rfl ?_
    obtain ⟨y33, h34, h⟩ := obind h
    refine AOps.callDP (g := 131) (args := [(AV.sl z20 f21 e22), (AV.sl z29 f30 e31)]) (p := (rB) y33) rfl rfl rfl (laws_eqPushS_ok h23 h32 h34 hWF.still) (fun v hv => Nice.pure (k := FINK) (p := (rB) y33) .B _ v hv) ?_
    intro _ o36 h35
    cases h35
    refine AOps.pureR rfl rfl rfl rfl rfl (rfl : _ = (AV.bool (!y33))) ?_
    refine AOps.nilR ?_
    rcases oite h with ⟨hc37, h⟩ | ⟨hc37, h⟩
    · refine AW.condT (congrArg AV.bool hc37) ?_
      refine AW.seq ?_
      refine AW.region ?_
      refine AOps.pureR rfl rfl rfl rfl rfl (rfl : _ = (AV.bool false)) ?_
      refine AOps.nilR ?_
      cases h
      have hr := hR1 _ rfl
      subst hr
      exact AW.ret ⟨rfl, _, _, rfl, rfl⟩
    refine AW.condF (congrArg AV.bool hc37) ?_
    refine AW.skip ?_
    refine AW.inBlock ?_
    refine AW.region ?_
    refine AOps.pureR rfl rfl rfl rfl rfl (rfl : _ = (AV.int .i64 i13)) ?_
    refine AOps.pureR rfl rfl rfl rfl rfl (rfl : _ = (AV.int .i64 (IntKind.wrap .i64 (i13 + 1)))) ?_
    refine AOps.assignR rfl rfl rfl (rfl : _ = (AV.int .i64 (IntKind.wrap .i64 (i13 + 1)))) rfl ?_
    refine AOps.nilR ?_
    cases h
    exact AW.res [(0, (AV.sl z2 f3 e4)), (1, (AV.sl z7 f8 e9)), (5, (AV.int .i64 (IntKind.wrap .i64 (i13 + 1))))] [] ⟨rfl, rfl, rfl, trivial⟩ trivial (hL1 _ rfl () _ _ trivial)
  refine AW.condF (congrArg AV.bool hc14) ?_
  refine AW.exit rfl ?_
  obtain ⟨r38, hm, hx⟩ := omap h
  clear h
  subst hx
  have hx := hR1 _ rfl
  rw [hx] at hm
  have h := hm
  exact AW.res [] [] trivial trivial (KJ12 () _ _ h)
theorem laws_eqInt64S_ok {a1 : List Int} {b6 : List Int} {z2 : Nat} {f3 : Bool} {e4 : List AV} {z7 : Nat} {f8 : Bool} {e9 : List AV} {s : St} (h5 : LR (rI .i64) 1 a1 z2 e4) (h10 : LR (rI .i64) 1 b6 z7 e9) {r : Bool} (h : laws_eqInt64S a1 b6 = some r) (hs : WF s) : ACall Cf 132 [(AV.sl z2 f3 e4), (AV.sl z7 f8 e9)] s fun v _ s' => (rB) r v ∧ s' = s := by
  refine ACall.pure rfl rfl rfl .B ?_
  have hWF := hs.lo'
  unfold laws_eqInt64S at h
  refine AW.seq ?_
  refine AW.region ?_
  refine AOps.pureR rfl rfl rfl rfl rfl (rfl : _ = (AV.bool false)) ?_
  refine AOps.nilR ?_
  refine AW.seq ?_
  refine AW.seq ?_
  refine AW.region ?_
  refine AOps.pureR rfl rfl rfl rfl rfl (rfl : _ = (AV.sl z2 f3 e4)) ?_
  refine AOps.pureR rfl rfl rfl rfl rfl (len_eq h5) ?_
  refine AOps.pureR rfl rfl rfl rfl rfl (rfl : _ = (AV.sl z7 f8 e9)) ?_
  refine AOps.pureR rfl rfl rfl rfl rfl (len_eq h10) ?_
  refine AOps.pureR rfl rfl rfl rfl rfl (rfl : _ = (AV.bool ((a1.length : Int) != (b6.length : Int)))) ?_
  refine AOps.nilR ?_
  rcases oite h with ⟨hc11, h⟩ | ⟨hc11, h⟩
  · refine AW.condT (congrArg AV.bool hc11) ?_
    refine AW.seq ?_
    refine AW.region ?_
    refine AOps.pureR rfl rfl rfl rfl rfl (rfl : _ = (AV.bool false)) ?_
    refine AOps.nilR ?_
    cases h
    exact AW.ret ⟨rfl, _, _, rfl, rfl⟩
  refine AW.condF (congrArg AV.bool hc11) ?_
  refine AW.skip ?_
  refine AW.seq ?_
  refine AW.seq ?_
  refine AW.region ?_
  refine AOps.pureR rfl rfl rfl rfl rfl (rfl : _ = (AV.int .i64 0)) ?_
  refine AOps.nilR ?_
  refine AW.meet (σ := Unit) (fun _ tm os => ⟨updL tm [], updL os [], { s with lo := s.n }⟩) (fun _ => laws_eqInt64S_J1 = some r) ?_ ?_
  · rintro _ tm os h
    unfold laws_eqInt64S_J1 at h
    refine AW.seq ?_
    refine AW.region ?_
    refine AOps.pureR rfl rfl rfl rfl rfl (rfl : _ = (AV.bool true)) ?_
    refine AOps.nilR ?_
    cases h
    exact AW.ret ⟨rfl, _, _, rfl, rfl⟩
  intro KJ12
  refine AW.block ?_
  refine AW.res [(0, (AV.sl z2 f3 e4)), (1, (AV.sl z7 f8 e9)), (5, (AV.int .i64 0))] [] ⟨rfl, rfl, rfl, trivial⟩ trivial ?_
  refine AW.loopF (σ := Int) (τ := Unit) (fun i13 _ => True) (fun i13 _ tm os => ⟨updL tm [(0, (AV.sl z2 f3 e4)), (1, (AV.sl z7 f8 e9)), (5, (AV.int .i64 i13))], updL os [], { s with lo := s.n }⟩) ?_ (x := (0)) (y := ()) h trivial
  clear h
  rintro i13 _ tm os - e1 h hL1 hR1
  unfold laws_eqInt64S_S1 at h
  refine AW.seq ?_
  refine AW.seq ?_
  refine AW.region ?_
  refine AOps.pureR rfl rfl rfl rfl rfl (rfl : _ = (AV.int .i64 i13)) ?_
  refine AOps.pureR rfl rfl rfl rfl rfl (rfl : _ = (AV.sl z2 f3 e4)) ?_
  refine AOps.pureR rfl rfl rfl rfl rfl (len_eq h5) ?_
  refine AOps.pureR rfl rfl rfl rfl rfl (rfl : _ = (AV.bool (decide ((i13 : Int) < (a1.length : Int))))) ?_
  refine AOps.nilR ?_
  rcases oite h with ⟨hc14, h⟩ | ⟨hc14, h⟩
  · refine AW.condT (congrArg AV.bool hc14) ?_
    refine AW.skip ?_
    refine AW.seq ?_
    refine AW.block ?_
    refine AW.seq ?_
    refine AW.region ?_
    refine AOps.pureR rfl rfl rfl rfl rfl (rfl : _ = (AV.sl z2 f3 e4)) ?_
    refine AOps.pureR rfl rfl rfl rfl rfl (rfl : _ = (AV.int .i64 i13)) ?_
    obtain ⟨x15, h16, h⟩ := obind h
    obtain ⟨v19, h17, h18⟩ := idx_sl h5 h16
    cases h17
    refine AOps.pureR rfl rfl rfl h18 rfl (rfl : _ = (AV.eptr [(AV.int .i64 x15)] 0)) ?_
    refine AOps.ldE (v := (AV.int .i64 x15)) rfl rfl rfl rfl rfl rfl ?_
    refine AOps.pureR rfl rfl rfl rfl rfl (rfl : _ = (AV.sl z7 f8 e9)) ?_
    refine AOps.pureR rfl rfl rfl rfl rfl (rfl : _ = (AV.int .i64 i13)) ?_
    obtain ⟨x20, h21, h⟩ := obind h
    obtain ⟨v24, h22, h23⟩ := idx_sl h10 h21
    cases h22
    refine AOps.pureR rfl rfl rfl h23 rfl (rfl : _ = (AV.eptr [(AV.int .i64 x20)] 0)) ?_
    refine AOps.ldE (v := (AV.int .i64 x20)) rfl rfl rfl rfl rfl rfl ?_
    refine AOps.pureR rfl rfl rfl rfl rfl (rfl : _ = (AV.bool (x15 != x20))) ?_
    refine AOps.nilR ?_
    rcases oite h with ⟨hc25, h⟩ | ⟨hc25, h⟩
    · refine AW.condT (congrArg AV.bool hc25) ?_
      refine AW.seq ?_
      refine AW.region ?_
      refine AOps.pureR rfl rfl rfl rfl rfl (rfl : _ = (AV.bool false)) ?_
      refine AOps.nilR ?_
      cases h
      have hr := hR1 _ rfl
      subst hr
      exact AW.ret ⟨rfl, _, _, rfl, rfl⟩
    refine AW.condF (congrArg AV.bool hc25) ?_
    refine AW.skip ?_
    refine AW.inBlock ?_
    refine AW.region ?_
    refine AOps.pureR rfl rfl rfl rfl rfl (rfl : _ = (AV.int .i64 i13)) ?_
    refine AOps.pureR rfl rfl rfl rfl rfl (rfl : _ = (AV.int .i64 (IntKind.wrap .i64 (i13 + 1)))) ?_
    refine AOps.assignR rfl rfl rfl (rfl : _ = (AV.int .i64 (IntKind.wrap .i64 (i13 + 1)))) rfl ?_
    refine AOps.nilR ?_
    cases h
    exact AW.res [(0, (AV.sl z2 f3 e4)), (1, (AV.sl z7 f8 e9)), (5, (AV.int .i64 (IntKind.wrap .i64 (i13 + 1))))] [] ⟨rfl, rfl, rfl, trivial⟩ trivial (hL1 _ rfl () _ _ trivial)
  refine AW.condF (congrArg AV.bool hc14) ?_
  refine AW.exit rfl ?_
  obtain ⟨r26, hm, hx⟩ := omap h
  clear h
  subst hx
  have hx := hR1 _ rfl
  rw [hx] at hm
  have h := hm
  exact AW.res [] [] trivial trivial (KJ12 () _ _ h)
theorem laws_eqInt64SS_ok {a1 : List (List Int)} {b6 : List (List Int)} {z2 : Nat} {f3 : Bool} {e4 : List AV} {z7 : Nat} {f8 : Bool} {e9 : List AV} {s : St} (h5 : LR (rL (rI .i64) 1) 1 a1 z2 e4) (h10 : LR (rL (rI .i64) 1) 1 b6 z7 e9) {r : Bool} (h : laws_eqInt64SS a1 b6 = some r) (hs : WF s) : ACall Cf 103 [(AV.sl z2 f3 e4), (AV.sl z7 f8 e9)] s fun v _ s' => (rB) r v ∧ s' = s := by
  refine ACall.pure rfl rfl rfl .B ?_
  have hWF := hs.lo'
  unfold laws_eqInt64SS at h
  refine AW.seq ?_
  refine AW.region ?_
  refine AOps.pureR rfl rfl rfl rfl rfl (rfl : _ = (AV.bool false)) ?_
  refine AOps.nilR ?_
  refine AW.seq ?_
  refine AW.seq ?_
  refine AW.region ?_
  refine AOps.pureR rfl rfl rfl rfl rfl (rfl : _ = (AV.sl z2 f3 e4)) ?_
  refine AOps.pureR rfl rfl rfl rfl rfl (len_eq h5) ?_
  refine AOps.pureR rfl rfl rfl rfl rfl (rfl : _ = (AV.sl z7 f8 e9)) ?_
  refine AOps.pureR rfl rfl rfl rfl rfl (len_eq h10) ?_
  refine AOps.pureR rfl rfl rfl rfl rfl (rfl : _ = (AV.bool ((a1.length : Int) != (b6.length : Int)))) ?_
  refine AOps.nilR ?_
  rcases oite h with ⟨hc11, h⟩ | ⟨hc11, h⟩
  · refine AW.condT (congrArg AV.bool hc11) ?_
    refine AW.seq ?_
    refine AW.region ?_
    refine AOps.pureR rfl rfl rfl rfl rfl (rfl : _ = (AV.bool false)) ?_
    refine AOps.nilR ?_
    cases h
    exact AW.ret ⟨rfl, _, _, rfl, rfl⟩
  refine AW.condF (congrArg AV.bool hc11) ?_
  refine AW.skip ?_
  refine AW.seq ?_
  refine AW.seq ?_
  refine AW.region ?_
  refine AOps.pureR rfl rfl rfl rfl rfl (rfl : _ = (AV.int .i64 0)) ?_
  refine AOps.nilR ?_
  refine AW.meet (σ := Unit) (fun _ tm os => ⟨updL tm [], updL os [], { s with lo := s.n }⟩) (fun _ => laws_eqInt64SS_J1 = some r) ?_ ?_
  · rintro _ tm os h
    unfold laws_eqInt64SS_J1 at h
    refine AW.seq ?_
    refine AW.region ?_
    refine AOps.pureR rfl rfl rfl rfl rfl (rfl : _ = (AV.bool true)) ?_
    refine AOps.nilR ?_
    cases h
    exact AW.ret ⟨rfl, _, _, rfl, rfl⟩
  intro KJ12
  refine AW.block ?_
  refine AW.res [(0, (AV.sl z2 f3 e4)), (1, (AV.sl z7 f8 e9)), (5, (AV.int .i64 0))] [] ⟨rfl, rfl, rfl, trivial⟩ trivial ?_
  refine AW.loopF (σ := Int) (τ := Unit) (fun i13 _ => True) (fun i13 _ tm os => ⟨updL tm [(0, (AV.sl z2 f3 e4)), (1, (AV.sl z7 f8 e9)), (5, (AV.int .i64 i13))], updL os [], { s with lo := s.n }⟩) ?_ (x := (0)) (y := ()) h trivial
  clear h
  rintro i13 _ tm os - e1 h hL1 hR1
  unfold laws_eqInt64SS_S1 at h
  refine AW.seq ?_
  refine AW.seq ?_
  refine AW.region ?_
  refine AOps.pureR rfl rfl rfl rfl rfl (rfl : _ = (AV.int .i64 i13)) ?_
  refine AOps.pureR rfl rfl rfl rfl rfl (rfl : _ = (AV.sl z2 f3 e4)) ?_
  refine AOps.pureR rfl rfl rfl rfl rfl (len_eq h5) ?_
  refine AOps.pureR rfl rfl rfl rfl rfl (rfl : _ = (AV.bool (decide ((i13 : Int) < (a1.length : Int))))) ?_
  refine AOps.nilR ?_
  rcases oite h with ⟨hc14, h⟩ | ⟨hc14, h⟩
  · refine AW.condT (congrArg AV.bool hc14) ?_
    refine AW.skip ?_
    refine AW.seq ?_
    refine AW.block ?_
    refine AW.seq ?_
    refine AW.region ?_
    refine AOps.pureR rfl rfl rfl rfl rfl (rfl : _ = (AV.sl z2 f3 e4)) ?_
    refine AOps.pureR rfl rfl rfl rfl rfl (rfl : _ = (AV.int .i64 i13)) ?_
    obtain ⟨x15, h16, h⟩ := obind h
    obtain ⟨v19, h17, h18⟩ := idx_sl h5 h16
    obtain ⟨z20, f21, e22, rfl, h23⟩ := h17
    refine AOps.pureR rfl rfl rfl h18 rfl (rfl : _ = (AV.eptr [(AV.sl z20 f21 e22)] 0)) ?_
    refine AOps.ldE (v := (AV.sl z20 f21 e22)) rfl rfl rfl rfl rfl rfl ?_
    refine AOps.pureR rfl rfl rfl rfl rfl (rfl : _ = (AV.sl z7 f8 e9)) ?_
    refine AOps.pureR rfl rfl rfl rfl rfl (rfl : _ = (AV.int .i64 i13)) ?_
    obtain ⟨x24, h25, h⟩ := obind h
    obtain ⟨v28, h26, h27⟩ := idx_sl h10 h25
    obtain ⟨z29, f30, e31, rfl, h32⟩ := h26
    refine AOps.pureR rfl rfl rfl h27 rfl (rfl : _ = (AV.eptr [(AV.sl z29 f30 e31)] 0)) ?_
    refine AOps.ldE (v := (AV.sl z29 f30 e31)) rfl rfl rfl rfl rfl rfl ?_
    obtain ⟨y33, h34, h⟩ := obind h
    refine AOps.callDP (g := 132) (args := [(AV.sl z20 f21 e22), (AV.sl z29 f30 e31)]) (p := (rB) y33) rfl rfl rfl (laws_eqInt64S_ok h23 h32 h34 hWF.still) (fun v hv => Nice.pure (k := FINK) (p := (rB) y33) .B _ v hv) ?_
    intro _ o36 h35
    cases h35
    refine AOps.pureR rfl rfl rfl rfl rfl (rfl : _ = (AV.bool (!y33))) ?_
    refine AOps.nilR ?_
    rcases oite h with ⟨hc37, h⟩ | ⟨hc37, h⟩
    · refine AW.condT (congrArg AV.bool hc37) ?_
      refine AW.seq ?_
      refine AW.region ?_
      refine AOps.pureR rfl rfl rfl rfl rfl (rfl : _ = (AV.bool false)) ?_
      refine AOps.nilR ?_
      cases h
      have hr := hR1 _ rfl
      subst hr
      exact AW.ret ⟨rfl, _, _, rfl, rfl⟩
    refine AW.condF (congrArg AV.bool hc37) ?_
    refine AW.skip ?_
    refine AW.inBlock ?_
    refine AW.region ?_
    refine AOps.pureR rfl rfl rfl rfl rfl (rfl : _ = (AV.int .i64 i13)) ?_
    refine AOps.pureR rfl rfl rfl rfl rfl (rfl : _ = (AV.int .i64 (IntKind.wrap .i64 (i13 + 1)))) ?_
    refine AOps.assignR rfl rfl rfl (rfl : _ = (AV.int .i64 (IntKind.wrap .i64 (i13 + 1)))) rfl ?_
    refine AOps.nilR ?_
    cases h
    exact AW.res [(0, (AV.sl z2 f3 e4)), (1, (AV.sl z7 f8 e9)), (5, (AV.int .i64 (IntKind.wrap .i64 (i13 + 1))))] [] ⟨rfl, rfl, rfl, trivial⟩ trivial (hL1 _ rfl () _ _ trivial)
  refine AW.condF (congrArg AV.bool hc14) ?_
  refine AW.exit rfl ?_
  obtain ⟨r38, hm, hx⟩ := omap h
  clear h
  subst hx
  have hx := hR1 _ rfl
  rw [hx] at hm
  have h := hm
  exact AW.res [] [] trivial trivial (KJ12 () _ _ h)
theorem laws_eqInt64SSS_ok {a1 : List (List (List Int))} {b6 : List (List (List Int))} {z2 : Nat} {f3 : Bool} {e4 : List AV} {z7 : Nat} {f8 : Bool} {e9 : List AV} {s : St} (h5 : LR (rL (rL (rI .i64) 1) 1) 1 a1 z2 e4) (h10 : LR (rL (rL (rI .i64) 1) 1) 1 b6 z7 e9) {r : Bool} (h : laws_eqInt64SSS a1 b6 = some r) (hs : WF s) : ACall Cf 102 [(AV.sl z2 f3 e4), (AV.sl z7 f8 e9)] s fun v _ s' => (rB) r v ∧ s' = s := by
  refine ACall.pure rfl rfl rfl .B ?_
  have hWF := hs.lo'
  unfold laws_eqInt64SSS at h
  refine AW.seq ?_
  refine AW.region ?_
  refine AOps.pureR rfl rfl rfl rfl rfl (rfl : _ = (AV.bool false)) ?_
  refine AOps.nilR ?_
  refine AW.seq ?_
  refine AW.seq ?_
  refine AW.region ?_
  refine AOps.pureR rfl rfl rfl rfl rfl (rfl : _ = (AV.sl z2 f3 e4)) ?_
  refine AOps.pureR rfl rfl rfl rfl rfl (len_eq h5) ?_
  refine AOps.pureR rfl rfl rfl rfl rfl (rfl : _ = (AV.sl z7 f8 e9)) ?_
  refine AOps.pureR rfl rfl rfl rfl rfl (len_eq h10) ?_
  refine AOps.pureR rfl rfl rfl rfl rfl (rfl : _ = (AV.bool ((a1.length : Int) != (b6.length : Int)))) ?_
  refine AOps.nilR ?_
  rcases oite h with ⟨hc11, h⟩ | ⟨hc11, h⟩
  · refine AW.condT (congrArg AV.bool hc11) ?_
    refine AW.seq ?_
    refine AW.region ?_
    refine AOps.pureR rfl rfl rfl rfl rfl (rfl : _ = (AV.bool false)) ?_
    refine AOps.nilR ?_
    cases h
    exact AW.ret ⟨rfl, _, _, rfl, rfl⟩
  refine AW.condF (congrArg AV.bool hc11) ?_
  refine AW.skip ?_
  refine AW.seq ?_
  refine AW.seq ?_
  refine AW.region ?_
  refine AOps.pureR rfl rfl rfl rfl rfl (rfl : _ = (AV.int .i64 0)) ?_
  refine AOps.nilR ?_
  refine AW.meet (σ := Unit) (fun _ tm os => ⟨updL tm [], updL os [], { s with lo := s.n }⟩) (fun _ => laws_eqInt64SSS_J1 = some r) ?_ ?_
  · rintro _ tm os h
    unfold laws_eqInt64SSS_J1 at h
    refine AW.seq ?_
    refine AW.region ?_
    refine AOps.pureR rfl rfl rfl rfl rfl (rfl : _ = (AV.bool true)) ?_
    refine AOps.nilR ?_
    cases h
    exact AW.ret ⟨rfl, _, _, rfl, rfl⟩
  intro KJ12
  refine AW.block ?_
  refine AW.res [(0, (AV.sl z2 f3 e4)), (1, (AV.sl z7 f8 e9)), (5, (AV.int .i64 0))] [] ⟨rfl, rfl, rfl, trivial⟩ trivial ?_
  refine AW.loopF (σ := Int) (τ := Unit) (fun i13 _ => True) (fun i13 _ tm os => ⟨updL tm [(0, (AV.sl z2 f3 e4)), (1, (AV.sl z7 f8 e9)), (5, (AV.int .i64 i13))], updL os [], { s with lo := s.n }⟩) ?_ (x := (0)) (y := ()) h trivial
  clear h
  rintro i13 _ tm os - e1 h hL1 hR1
  unfold laws_eqInt64SSS_S1 at h
  refine AW.seq ?_
  refine AW.seq ?_
  refine AW.region ?_
  refine AOps.pureR rfl rfl rfl rfl rfl (rfl : _ = (AV.int .i64 i13)) ?_
  refine AOps.pureR rfl rfl rfl rfl rfl (rfl : _ = (AV.sl z2 f3 e4)) ?_
  refine AOps.pureR rfl rfl rfl rfl rfl (len_eq h5) ?_
  refine AOps.pureR rfl rfl rfl rfl rfl (rfl : _ = (AV.bool (decide ((i13 : Int) < (a1.length : Int))))) ?_
  refine AOps.nilR ?_
  rcases oite h with ⟨hc14, h⟩ | ⟨hc14, h⟩
  · refine AW.condT (congrArg AV.bool hc14) ?_
    refine AW.skip ?_
    refine AW.seq ?_
    refine AW.block ?_
    refine AW.seq ?_
    refine AW.region ?_
    refine AOps.pureR rfl rfl rfl rfl rfl (rfl : _ = (AV.sl z2 f3 e4)) ?_
    refine AOps.pureR rfl rfl rfl rfl rfl (rfl : _ = (AV.int .i64 i13)) ?_
    obtain ⟨x15, h16, h⟩ := obind h
    obtain ⟨v19, h17, h18⟩ := idx_sl h5 h16
    obtain ⟨z20, f21, e22, rfl, h23⟩ := h17
    refine AOps.pureR rfl rfl rfl h18 rfl (rfl : _ = (AV.eptr [(AV.sl z20 f21 e22)] 0)) ?_
    refine AOps.ldE (v := (AV.sl z20 f21 e22)) rfl rfl rfl rfl rfl rfl ?_
    refine AOps.pureR rfl rfl rfl rfl rfl (rfl : _ = (AV.sl z7 f8 e9)) ?_
    refine AOps.pureR rfl rfl rfl rfl rfl (rfl : _ = (AV.int .i64 i13)) ?_
    obtain ⟨x24, h25, h⟩ := obind h
    obtain ⟨v28, h26, h27⟩ := idx_sl h10 h25
    obtain ⟨z29, f30, e31, rfl, h32⟩ := h26
    refine AOps.pureR rfl rfl rfl h27 rfl (rfl : _ = (AV.eptr [(AV.sl z29 f30 e31)] 0)) ?_
    refine AOps.ldE (v := (AV.sl z29 f30 e31)) rfl rfl rfl rfl rfl rfl ?_
    obtain ⟨y33, h34, h⟩ := obind h
    refine AOps.callDP (g := 103) (args := [(AV.sl z20 f21 e22), (AV.sl z29 f30 e31)]) (p := (rB) y33) rfl rfl rfl (laws_eqInt64SS_ok h23 h32 h34 hWF.still) (fun v hv => Nice.pure (k := FINK) (p := (rB) y33) .B _ v hv) ?_
    intro _ o36 h35
    cases h35
    refine AOps.pureR rfl rfl rfl rfl rfl (rfl : _ = (AV.bool (!y33))) ?_
    refine AOps.nilR ?_
    rcases oite h with ⟨hc37, h⟩ | ⟨hc37, h⟩
    · refine AW.condT (congrArg AV.bool hc37) ?_
      refine AW.seq ?_
      refine AW.region ?_
      refine AOps.pureR rfl rfl rfl rfl rfl (rfl : _ = (AV.bool false)) ?_
      refine AOps.nilR ?_
      cases h
      have hr := hR1 _ rfl
      subst hr
      exact AW.ret ⟨rfl, _, _, rfl, rfl⟩
    refine AW.condF (congrArg AV.bool hc37) ?_
    refine AW.skip ?_
    refine AW.inBlock ?_
    refine AW.region ?_
    refine AOps.pureR rfl rfl rfl rfl rfl (rfl : _ = (AV.int .i64 i13)) ?_
    refine AOps.pureR rfl rfl rfl rfl rfl (rfl : _ = (AV.int .i64 (IntKind.wrap .i64 (i13 + 1)))) ?_
    refine AOps.assignR rfl rfl rfl (rfl : _ = (AV.int .i64 (IntKind.wrap .i64 (i13 + 1)))) rfl ?_
    refine AOps.nilR ?_
    cases h
    exact AW.res [(0, (AV.sl z2 f3 e4)), (1, (AV.sl z7 f8 e9)), (5, (AV.int .i64 (IntKind.wrap .i64 (i13 + 1))))] [] ⟨rfl, rfl, rfl, trivial⟩ trivial (hL1 _ rfl () _ _ trivial)
  refine AW.condF (congrArg AV.bool hc14) ?_
  refine AW.exit rfl ?_
  obtain ⟨r38, hm, hx⟩ := omap h
  clear h
  subst hx
  have hx := hR1 _ rfl
  rw [hx] at hm
  have h := hm
  exact AW.res [] [] trivial trivial (KJ12 () _ _ h)
theorem laws_eqChecker_ok {a1 : Checker} {b18 : Checker} {z2 : Nat} {f3 : Bool} {e4 : List AV} {z6 : Nat} {f7 : Bool} {e8 : List AV} {z10 : Nat} {f11 : Bool} {e12 : List AV} {z14 : Nat} {f15 : Bool} {e16 : List AV} {z19 : Nat} {f20 : Bool} {e21 : List AV} {z23 : Nat} {f24 : Bool} {e25 : List AV} {z27 : Nat} {f28 : Bool} {e29 : List AV} {z31 : Nat} {f32 : Bool} {e33 : List AV} {s : St} (h5 : LR rB 1 a1.Accept z2 e4) (h9 : LR (rL rPush 2) 1 a1.Call z6 e8) (h13 : LR (rL (rL (rI .i64) 1) 1) 1 a1.Return z10 e12) (h17 : LR (rL (rI .i64) 1) 1 a1.Inner z14 e16) (h22 : LR rB 1 b18.Accept z19 e21) (h26 : LR (rL rPush 2) 1 b18.Call z23 e25) (h30 : LR (rL (rL (rI .i64) 1) 1) 1 b18.Return z27 e29) (h34 : LR (rL (rI .i64) 1) 1 b18.Inner z31 e33) {r : Bool} (h : laws_eqChecker a1 b18 = some r) (hs : WF s) : ACall Cf 49 [(AV.agg [(AV.int .i64 a1.Stack), (AV.int .i64 a1.Start), (AV.sl z2 f3 e4), (AV.sl z6 f7 e8), (AV.sl z10 f11 e12), (AV.sl z14 f15 e16)]), (AV.agg [(AV.int .i64 b18.Stack), (AV.int .i64 b18.Start), (AV.sl z19 f20 e21), (AV.sl z23 f24 e25), (AV.sl z27 f28 e29), (AV.sl z31 f32 e33)])] s fun v _ s' => (rB) r v ∧ s' = s := by
  refine ACall.pure rfl rfl rfl .B ?_
  have hWF := hs.lo'
  unfold laws_eqChecker at h
  refine AW.seq ?_
  refine AW.region ?_
  refine AOps.makeR rfl rfl rfl rfl rfl rfl (rfl : _ = (AV.eptr [(AV.int .i64 a1.Stack), (AV.int .i64 a1.Start), (AV.sl z2 f3 e4), (AV.sl z6 f7 e8), (AV.sl z10 f11 e12), (AV.sl z14 f15 e16)] 0)) ?_
  refine AOps.makeR rfl rfl rfl rfl rfl rfl (rfl : _ = (AV.eptr [(AV.int .i64 b18.Stack), (AV.int .i64 b18.Start), (AV.sl z19 f20 e21), (AV.sl z23 f24 e25), (AV.sl z27 f28 e29), (AV.sl z31 f32 e33)] 0)) ?_
  refine AOps.pureR rfl rfl rfl rfl rfl (rfl : _ = (AV.bool false)) ?_
  refine AOps.nilR ?_
  refine AW.seq ?_
  refine AW.seq ?_
  refine AW.region ?_
  refine AOps.pureR rfl rfl rfl rfl rfl (rfl : _ = (AV.eptr [(AV.int .i64 a1.Stack), (AV.int .i64 a1.Start), (AV.sl z2 f3 e4), (AV.sl z6 f7 e8), (AV.sl z10 f11 e12), (AV.sl z14 f15 e16)] 0)) ?_
  refine AOps.ldE (v := (AV.int .i64 a1.Stack)) rfl rfl rfl rfl rfl rfl ?_
  refine AOps.pureR rfl rfl rfl rfl rfl (rfl : _ = (AV.eptr [(AV.int .i64 b18.Stack), (AV.int .i64 b18.Start), (AV.sl z19 f20 e21), (AV.sl z23 f24 e25), (AV.sl z27 f28 e29), (AV.sl z31 f32 e33)] 0)) ?_
  refine AOps.ldE (v := (AV.int .i64 b18.Stack)) rfl rfl rfl rfl rfl rfl ?_
  refine AOps.pureR rfl rfl rfl rfl rfl (rfl : _ = (AV.bool (a1.Stack != b18.Stack))) ?_
  refine AOps.nilR ?_
  rcases oite h with ⟨hc35, h⟩ | ⟨hc35, h⟩
  · refine AW.condT (congrArg AV.bool hc35) ?_
    refine AW.seq ?_
    refine AW.region ?_
    refine AOps.pureR rfl rfl rfl rfl rfl (rfl : _ = (AV.bool false)) ?_
    refine AOps.nilR ?_
    cases h
    exact AW.ret ⟨rfl, _, _, rfl, rfl⟩
  refine AW.condF (congrArg AV.bool hc35) ?_
  refine AW.skip ?_
  refine AW.seq ?_
  refine AW.seq ?_
  refine AW.region ?_
  refine AOps.pureR rfl rfl rfl rfl rfl (rfl : _ = (AV.eptr [(AV.int .i64 a1.Stack), (AV.int .i64 a1.Start), (AV.sl z2 f3 e4), (AV.sl z6 f7 e8), (AV.sl z10 f11 e12), (AV.sl z14 f15 e16)] 1)) ?_
  refine AOps.ldE (v := (AV.int .i64 a1.Start)) rfl rfl rfl rfl rfl rfl ?_
  refine AOps.pureR rfl rfl rfl rfl rfl (rfl : _ = (AV.eptr [(AV.int .i64 b18.Stack), (AV.int .i64 b18.Start), (AV.sl z19 f20 e21), (AV.sl z23 f24 e25), (AV.sl z27 f28 e29), (AV.sl z31 f32 e33)] 1)) ?_
  refine AOps.ldE (v := (AV.int .i64 b18.Start)) rfl rfl rfl rfl rfl rfl ?_
  refine AOps.pureR rfl rfl rfl rfl rfl (rfl : _ = (AV.bool (a1.Start != b18.Start))) ?_
  refine AOps.nilR ?_
  rcases oite h with ⟨hc36, h⟩ | ⟨hc36, h⟩
  · refine AW.condT (congrArg AV.bool hc36) ?_
    refine AW.seq ?_
    refine AW.region ?_
    refine AOps.pureR rfl rfl rfl rfl rfl (rfl : _ = (AV.bool false)) ?_
    refine AOps.nilR ?_
    cases h
    exact AW.ret ⟨rfl, _, _, rfl, rfl⟩
  refine AW.condF (congrArg AV.bool hc36) ?_
  refine AW.skip ?_
  refine AW.seq ?_
  refine AW.seq ?_
  refine AW.region ?_
  refine AOps.pureR rfl rfl rfl rfl rfl (rfl : _ = (AV.eptr [(AV.int .i64 a1.Stack), (AV.int .i64 a1.Start), (AV.sl z2 f3 e4), (AV.sl z6 f7 e8), (AV.sl z10 f11 e12), (AV.sl z14 f15 e16)] 2)) ?_
  refine AOps.ldE (v := (AV.sl z2 f3 e4)) rfl rfl rfl rfl rfl rfl ?_
  refine AOps.pureR rfl rfl rfl rfl rfl (rfl : _ = (AV.eptr [(AV.int .i64 b18.Stack), (AV.int .i64 b18.Start), (AV.sl z19 f20 e21), (AV.sl z23 f24 e25), (AV.sl z27 f28 e29), (AV.sl z31 f32 e33)] 2)) ?_
  refine AOps.ldE (v := (AV.sl z19 f20 e21)) rfl rfl rfl rfl rfl rfl ?_
  obtain ⟨y37, h38, h⟩ := obind h
  refine AOps.callP (g := 100) (args := [(AV.sl z2 f3 e4), (AV.sl z19 f20 e21)]) (p := (rB) y37) rfl rfl rfl (laws_eqBoolS_ok h5 h22 h38 hWF) ?_
  intro _ o40 h39
  cases h39
  refine AOps.pureR rfl rfl rfl rfl rfl (rfl : _ = (AV.bool (!y37))) ?_
  refine AOps.nilR ?_
  rcases oite h with ⟨hc41, h⟩ | ⟨hc41, h⟩
  · refine AW.condT (congrArg AV.bool hc41) ?_
    refine AW.seq ?_
    refine AW.region ?_
    refine AOps.pureR rfl rfl rfl rfl rfl (rfl : _ = (AV.bool false)) ?_
    refine AOps.nilR ?_
    cases h
    exact AW.ret ⟨rfl, _, _, rfl, rfl⟩
  refine AW.condF (congrArg AV.bool hc41) ?_
  refine AW.skip ?_
  refine AW.seq ?_
  refine AW.seq ?_
  refine AW.region ?_
  refine AOps.pureR rfl rfl rfl rfl rfl (rfl : _ = (AV.eptr [(AV.int .i64 a1.Stack), (AV.int .i64 a1.Start), (AV.sl z2 f3 e4), (AV.sl z6 f7 e8), (AV.sl z10 f11 e12), (AV.sl z14 f15 e16)] 3)) ?_
  refine AOps.ldE (v := (AV.sl z6 f7 e8)) rfl rfl rfl rfl rfl rfl ?_
  refine AOps.pureR rfl rfl rfl rfl rfl (rfl : _ = (AV.eptr [(AV.int .i64 b18.Stack), (AV.int .i64 b18.Start), (AV.sl z19 f20 e21), (AV.sl z23 f24 e25), (AV.sl z27 f28 e29), (AV.sl z31 f32 e33)] 3)) ?_
  refine AOps.ldE (v := (AV.sl z23 f24 e25)) rfl rfl rfl rfl rfl rfl ?_
  obtain ⟨y42, h43, h⟩ := obind h
  refine AOps.callP (g := 101) (args := [(AV.sl z6 f7 e8), (AV.sl z23 f24 e25)]) (p := (rB) y42) rfl rfl rfl (laws_eqPushSS_ok h9 h26 h43 hWF) ?_
  intro _ o45 h44
  cases h44
  refine AOps.pureR rfl rfl rfl rfl rfl (rfl : _ = (AV.bool (!y42))) ?_
  refine AOps.nilR ?_
  rcases oite h with ⟨hc46, h⟩ | ⟨hc46, h⟩
  · refine AW.condT (congrArg AV.bool hc46) ?_
    refine AW.seq ?_
    refine AW.region ?_
    refine AOps.pureR rfl rfl rfl rfl rfl (rfl : _ = (AV.bool false)) ?_
    refine AOps.nilR ?_
    cases h
    exact AW.ret ⟨rfl, _, _, rfl, rfl⟩
  refine AW.condF (congrArg AV.bool hc46) ?_
  refine AW.skip ?_
  refine AW.seq ?_
  refine AW.seq ?_
  refine AW.region ?_
  refine AOps.pureR rfl rfl rfl rfl rfl (rfl : _ = (AV.eptr [(AV.int .i64 a1.Stack), (AV.int .i64 a1.Start), (AV.sl z2 f3 e4), (AV.sl z6 f7 e8), (AV.sl z10 f11 e12), (AV.sl z14 f15 e16)] 4)) ?_
  refine AOps.ldE (v := (AV.sl z10 f11 e12)) rfl rfl rfl rfl rfl rfl ?_
  refine AOps.pureR rfl rfl rfl rfl rfl (rfl : _ = (AV.eptr [(AV.int .i64 b18.Stack), (AV.int .i64 b18.Start), (AV.sl z19 f20 e21), (AV.sl z23 f24 e25), (AV.sl z27 f28 e29), (AV.sl z31 f32 e33)] 4)) ?_
  refine AOps.ldE (v := (AV.sl z27 f28 e29)) rfl rfl rfl rfl rfl rfl ?_
  obtain ⟨y47, h48, h⟩ := obind h
  refine AOps.callP (g := 102) (args := [(AV.sl z10 f11 e12), (AV.sl z27 f28 e29)]) (p := (rB) y47) rfl rfl rfl (laws_eqInt64SSS_ok h13 h30 h48 hWF) ?_
  intro _ o50 h49
  cases h49
  refine AOps.pureR rfl rfl rfl rfl rfl (rfl : _ = (AV.bool (!y47))) ?_
  refine AOps.nilR ?_
  rcases oite h with ⟨hc51, h⟩ | ⟨hc51, h⟩
  · refine AW.condT (congrArg AV.bool hc51) ?_
    refine AW.seq ?_
    refine AW.region ?_
    refine AOps.pureR rfl rfl rfl rfl rfl (rfl : _ = (AV.bool false)) ?_
    refine AOps.nilR ?_
    cases h
    exact AW.ret ⟨rfl, _, _, rfl, rfl⟩
  refine AW.condF (congrArg AV.bool hc51) ?_
  refine AW.skip ?_
  refine AW.seq ?_
  refine AW.seq ?_
  refine AW.region ?_
  refine AOps.pureR rfl rfl rfl rfl rfl (rfl : _ = (AV.eptr [(AV.int .i64 a1.Stack), (AV.int .i64 a1.Start), (AV.sl z2 f3 e4), (AV.sl z6 f7 e8), (AV.sl z10 f11 e12), (AV.sl z14 f15 e16)] 5)) ?_
  refine AOps.ldE (v := (AV.sl z14 f15 e16)) rfl rfl rfl rfl rfl rfl ?_
  refine AOps.pureR rfl rfl rfl rfl rfl (rfl : _ = (AV.eptr [(AV.int .i64 b18.Stack), (AV.int .i64 b18.Start), (AV.sl z19 f20 e21), (AV.sl z23 f24 e25), (AV.sl z27 f28 e29), (AV.sl z31 f32 e33)] 5)) ?_
  refine AOps.ldE (v := (AV.sl z31 f32 e33)) rfl rfl rfl rfl rfl rfl ?_
  obtain ⟨y52, h53, h⟩ := obind h
  refine AOps.callP (g := 103) (args := [(AV.sl z14 f15 e16), (AV.sl z31 f32 e33)]) (p := (rB) y52) rfl rfl rfl (laws_eqInt64SS_ok h17 h34 h53 hWF) ?_
  intro _ o55 h54
  cases h54
  refine AOps.pureR rfl rfl rfl rfl rfl (rfl : _ = (AV.bool (!y52))) ?_
  refine AOps.nilR ?_
  rcases oite h with ⟨hc56, h⟩ | ⟨hc56, h⟩
  · refine AW.condT (congrArg AV.bool hc56) ?_
    refine AW.seq ?_
    refine AW.region ?_
    refine AOps.pureR rfl rfl rfl rfl rfl (rfl : _ = (AV.bool false)) ?_
    refine AOps.nilR ?_
    cases h
    exact AW.ret ⟨rfl, _, _, rfl, rfl⟩
  refine AW.condF (congrArg AV.bool hc56) ?_
  refine AW.skip ?_
  refine AW.seq ?_
  refine AW.region ?_
  refine AOps.pureR rfl rfl rfl rfl rfl (rfl : _ = (AV.bool true)) ?_
  refine AOps.nilR ?_
  cases h
  exact AW.ret ⟨rfl, _, _, rfl, rfl⟩
theorem laws_eqStringS_ok {a1 : List (List UInt8)} {b6 : List (List UInt8)} {z2 : Nat} {f3 : Bool} {e4 : List AV} {z7 : Nat} {f8 : Bool} {e9 : List AV} {s : St} (h5 : LR rS 1 a1 z2 e4) (h10 : LR rS 1 b6 z7 e9) {r : Bool} (h : laws_eqStringS a1 b6 = some r) (hs : WF s) : ACall Cf 50 [(AV.sl z2 f3 e4), (AV.sl z7 f8 e9)] s fun v _ s' => (rB) r v ∧ s' = s := by
  refine ACall.pure rfl rfl rfl .B ?_
  have hWF := hs.lo'
  unfold laws_eqStringS at h
  refine AW.seq ?_
  refine AW.region ?_
  refine AOps.pureR rfl rfl rfl rfl rfl (rfl : _ = (AV.bool false)) ?_
  refine AOps.nilR ?_
  refine AW.seq ?_
  refine AW.seq ?_
  refine AW.region ?_
  refine AOps.pureR rfl rfl rfl rfl rfl (rfl : _ = (AV.sl z2 f3 e4)) ?_
  refine AOps.pureR rfl rfl rfl rfl rfl (len_eq h5) ?_
  refine AOps.pureR rfl rfl rfl rfl rfl (rfl : _ = (AV.sl z7 f8 e9)) ?_
  refine AOps.pureR rfl rfl rfl rfl rfl (len_eq h10) ?_
  refine AOps.pureR rfl rfl rfl rfl rfl (rfl : _ = (AV.bool ((a1.length : Int) != (b6.length : Int)))) ?_
  refine AOps.nilR ?_
  rcases oite h with ⟨hc11, h⟩ | ⟨hc11, h⟩
  · refine AW.condT (congrArg AV.bool hc11) ?_
    refine AW.seq ?_
    refine AW.region ?_
    refine AOps.pureR rfl rfl rfl rfl rfl (rfl : _ = (AV.bool false)) ?_
    refine AOps.nilR ?_
    cases h
    exact AW.ret ⟨rfl, _, _, rfl, rfl⟩
  refine AW.condF (congrArg AV.bool hc11) ?_
  refine AW.skip ?_
  refine AW.seq ?_
  refine AW.seq ?_
  refine AW.region ?_
  refine AOps.pureR rfl rfl rfl rfl rfl (rfl : _ = (AV.int .i64 0)) ?_
  refine AOps.nilR ?_
  refine AW.meet (σ := Unit) (fun _ tm os => ⟨updL tm [], updL os [], { s with lo := s.n }⟩) (fun _ => laws_eqStringS_J1 = some r) ?_ ?_
  · rintro _ tm os h
    unfold laws_eqStringS_J1 at h
    refine AW.seq ?_
    refine AW.region ?_
    refine AOps.pureR rfl rfl rfl rfl rfl (rfl : _ = (AV.bool true)) ?_
    refine AOps.nilR ?_
    cases h
    exact AW.ret ⟨rfl, _, _, rfl, rfl⟩
  intro KJ12
  refine AW.block ?_
  refine AW.res [(0, (AV.sl z2 f3 e4)), (1, (AV.sl z7 f8 e9)), (5, (AV.int .i64 0))] [] ⟨rfl, rfl, rfl, trivial⟩ trivial ?_
  refine AW.loopF (σ := Int) (τ := Unit) (fun i13 _ => True) (fun i13 _ tm os => ⟨updL tm [(0, (AV.sl z2 f3 e4)), (1, (AV.sl z7 f8 e9)), (5, (AV.int .i64 i13))], updL os [], { s with lo := s.n }⟩) ?_ (x := (0)) (y := ()) h trivial
  clear h
  rintro i13 _ tm os - e1 h hL1 hR1
  unfold laws_eqStringS_S1 at h
  refine AW.seq ?_
  refine AW.seq ?_
  refine AW.region ?_
  refine AOps.pureR rfl rfl rfl rfl rfl (rfl : _ = (AV.int .i64 i13)) ?_
  refine AOps.pureR rfl rfl rfl rfl rfl (rfl : _ = (AV.sl z2 f3 e4)) ?_
  refine AOps.pureR rfl rfl rfl rfl rfl (len_eq h5) ?_
  refine AOps.pureR rfl rfl rfl rfl rfl (rfl : _ = (AV.bool (decide ((i13 : Int) < (a1.length : Int))))) ?_
  refine AOps.nilR ?_
  rcases oite h with ⟨hc14, h⟩ | ⟨hc14, h⟩
  · refine AW.condT (congrArg AV.bool hc14) ?_
    refine AW.skip ?_
    refine AW.seq ?_
    refine AW.block ?_
    refine AW.seq ?_
    refine AW.region ?_
    refine AOps.pureR rfl rfl rfl rfl rfl (rfl : _ = (AV.sl z2 f3 e4)) ?_
    refine AOps.pureR rfl rfl rfl rfl rfl (rfl : _ = (AV.int .i64 i13)) ?_
    obtain ⟨x15, h16, h⟩ := obind h
    obtain ⟨v19, h17, h18⟩ := idx_sl h5 h16
    cases h17
    refine AOps.pureR rfl rfl rfl h18 rfl (rfl : _ = (AV.eptr [(AV.str x15)] 0)) ?_
    refine AOps.ldE (v := (AV.str x15)) rfl rfl rfl rfl rfl rfl ?_
    refine AOps.pureR rfl rfl rfl rfl rfl (rfl : _ = (AV.sl z7 f8 e9)) ?_
    refine AOps.pureR rfl rfl rfl rfl rfl (rfl : _ = (AV.int .i64 i13)) ?_
    obtain ⟨x20, h21, h⟩ := obind h
    obtain ⟨v24, h22, h23⟩ := idx_sl h10 h21
    cases h22
    refine AOps.pureR rfl rfl rfl h23 rfl (rfl : _ = (AV.eptr [(AV.str x20)] 0)) ?_
    refine AOps.ldE (v := (AV.str x20)) rfl rfl rfl rfl rfl rfl ?_
    refine AOps.pureR rfl rfl rfl rfl rfl (rfl : _ = (AV.bool (!(x15 == x20)))) ?_
    refine AOps.nilR ?_
    rcases oite h with ⟨hc25, h⟩ | ⟨hc25, h⟩
    · refine AW.condT (congrArg AV.bool hc25) ?_
      refine AW.seq ?_
      refine AW.region ?_
      refine AOps.pureR rfl rfl rfl rfl rfl (rfl : _ = (AV.bool false)) ?_
      refine AOps.nilR ?_
      cases h
      have hr := hR1 _ rfl
      subst hr
      exact AW.ret ⟨rfl, _, _, rfl, rfl⟩
    refine AW.condF (congrArg AV.bool hc25) ?_
    refine AW.skip ?_
    refine AW.inBlock ?_
    refine AW.region ?_
    refine AOps.pureR rfl rfl rfl rfl rfl (rfl : _ = (AV.int .i64 i13)) ?_
    refine AOps.pureR rfl rfl rfl rfl rfl (rfl : _ = (AV.int .i64 (IntKind.wrap .i64 (i13 + 1)))) ?_
    refine AOps.assignR rfl rfl rfl (rfl : _ = (AV.int .i64 (IntKind.wrap .i64 (i13 + 1)))) rfl ?_
    refine AOps.nilR ?_
    cases h
    exact AW.res [(0, (AV.sl z2 f3 e4)), (1, (AV.sl z7 f8 e9)), (5, (AV.int .i64 (IntKind.wrap .i64 (i13 + 1))))] [] ⟨rfl, rfl, rfl, trivial⟩ trivial (hL1 _ rfl () _ _ trivial)
  refine AW.condF (congrArg AV.bool hc14) ?_
  refine AW.exit rfl ?_
  obtain ⟨r26, hm, hx⟩ := omap h
  clear h
  subst hx
  have hx := hR1 _ rfl
  rw [hx] at hm
  have h := hm
  exact AW.res [] [] trivial trivial (KJ12 () _ _ h)
theorem laws_eqStream_ok {a1 : Stream} {b22 : Stream} {z2 : Nat} {f3 : Bool} {e4 : List AV} {z6 : Nat} {f7 : Bool} {e8 : List AV} {z10 : Nat} {f11 : Bool} {e12 : List AV} {z14 : Nat} {f15 : Bool} {e16 : List AV} {z18 : Nat} {f19 : Bool} {e20 : List AV} {z23 : Nat} {f24 : Bool} {e25 : List AV} {z27 : Nat} {f28 : Bool} {e29 : List AV} {z31 : Nat} {f32 : Bool} {e33 : List AV} {z35 : Nat} {f36 : Bool} {e37 : List AV} {z39 : Nat} {f40 : Bool} {e41 : List AV} {s : St} (h5 : LR rB 1 a1.Checker.Accept z2 e4) (h9 : LR (rL rPush 2) 1 a1.Checker.Call z6 e8) (h13 : LR (rL (rL (rI .i64) 1) 1) 1 a1.Checker.Return z10 e12) (h17 : LR (rL (rI .i64) 1) 1 a1.Checker.Inner z14 e16) (h21 : LR rS 1 a1.Pieces z18 e20) (h26 : LR rB 1 b22.Checker.Accept z23 e25) (h30 : LR (rL rPush 2) 1 b22.Checker.Call z27 e29) (h34 : LR (rL (rL (rI .i64) 1) 1) 1 b22.Checker.Return z31 e33) (h38 : LR (rL (rI .i64) 1) 1 b22.Checker.Inner z35 e37) (h42 : LR rS 1 b22.Pieces z39 e41) {r : Bool} (h : laws_eqStream a1 b22 = some r) (hs : WF s) : ACall Cf 20 [(AV.agg [(AV.int .i64 a1.Checker.Stack), (AV.int .i64 a1.Checker.Start), (AV.sl z2 f3 e4), (AV.sl z6 f7 e8), (AV.sl z10 f11 e12), (AV.sl z14 f15 e16), (AV.sl z18 f19 e20)]), (AV.agg [(AV.int .i64 b22.Checker.Stack), (AV.int .i64 b22.Checker.Start), (AV.sl z23 f24 e25), (AV.sl z27 f28 e29), (AV.sl z31 f32 e33), (AV.sl z35 f36 e37), (AV.sl z39 f40 e41)])] s fun v _ s' => (rB) r v ∧ s' = s := by
  refine ACall.pure rfl rfl rfl .B ?_
  have hWF := hs.lo'
  unfold laws_eqStream at h
  refine AW.seq ?_
  refine AW.region ?_
  refine AOps.makeR rfl rfl rfl rfl rfl rfl (rfl : _ = (AV.eptr [(AV.int .i64 a1.Checker.Stack), (AV.int .i64 a1.Checker.Start), (AV.sl z2 f3 e4), (AV.sl z6 f7 e8), (AV.sl z10 f11 e12), (AV.sl z14 f15 e16), (AV.sl z18 f19 e20)] 0)) ?_
  refine AOps.makeR rfl rfl rfl rfl rfl rfl (rfl : _ = (AV.eptr [(AV.int .i64 b22.Checker.Stack), (AV.int .i64 b22.Checker.Start), (AV.sl z23 f24 e25), (AV.sl z27 f28 e29), (AV.sl z31 f32 e33), (AV.sl z35 f36 e37), (AV.sl z39 f40 e41)] 0)) ?_
  refine AOps.pureR rfl rfl rfl rfl rfl (rfl : _ = (AV.bool false)) ?_
  refine AOps.nilR ?_
  refine AW.seq ?_
  refine AW.seq ?_
  refine AW.region ?_
  refine AOps.pureR rfl rfl rfl rfl rfl (rfl : _ = (AV.eptr [(AV.int .i64 a1.Checker.Stack), (AV.int .i64 a1.Checker.Start), (AV.sl z2 f3 e4), (AV.sl z6 f7 e8), (AV.sl z10 f11 e12), (AV.sl z14 f15 e16), (AV.sl z18 f19 e20)] 0)) ?_
  refine AOps.ldE (v := (AV.agg [(AV.int .i64 a1.Checker.Stack), (AV.int .i64 a1.Checker.Start), (AV.sl z2 f3 e4), (AV.sl z6 f7 e8), (AV.sl z10 f11 e12), (AV.sl z14 f15 e16)])) rfl rfl rfl rfl rfl rfl ?_
  refine AOps.pureR rfl rfl rfl rfl rfl (rfl : _ = (AV.eptr [(AV.int .i64 b22.Checker.Stack), (AV.int .i64 b22.Checker.Start), (AV.sl z23 f24 e25), (AV.sl z27 f28 e29), (AV.sl z31 f32 e33), (AV.sl z35 f36 e37), (AV.sl z39 f40 e41)] 0)) ?_
  refine AOps.ldE (v := (AV.agg [(AV.int .i64 b22.Checker.Stack), (AV.int .i64 b22.Checker.Start), (AV.sl z23 f24 e25), (AV.sl z27 f28 e29), (AV.sl z31 f32 e33), (AV.sl z35 f36 e37)])) rfl rfl rfl rfl rfl rfl ?_
  obtain ⟨y43, h44, h⟩ := obind h
  refine AOps.callP (g := 49) (args := [(AV.agg [(AV.int .i64 a1.Checker.Stack), (AV.int .i64 a1.Checker.Start), (AV.sl z2 f3 e4), (AV.sl z6 f7 e8), (AV.sl z10 f11 e12), (AV.sl z14 f15 e16)]), (AV.agg [(AV.int .i64 b22.Checker.Stack), (AV.int .i64 b22.Checker.Start), (AV.sl z23 f24 e25), (AV.sl z27 f28 e29), (AV.sl z31 f32 e33), (AV.sl z35 f36 e37)])]) (p := (rB) y43) rfl rfl rfl (laws_eqChecker_ok h5 h9 h13 h17 h26 h30 h34 h38 h44 hWF) ?_
  intro _ o46 h45
  cases h45
  refine AOps.pureR rfl rfl rfl rfl rfl (rfl : _ = (AV.bool (!y43))) ?_
  refine AOps.nilR ?_
  rcases oite h with ⟨hc47, h⟩ | ⟨hc47, h⟩
  · refine AW.condT (congrArg AV.bool hc47) ?_
    refine AW.seq ?_
    refine AW.region ?_
    refine AOps.pureR rfl rfl rfl rfl rfl (rfl : _ = (AV.bool false)) ?_
    refine AOps.nilR ?_
    cases h
    exact AW.ret ⟨rfl, _, _, rfl, rfl⟩
  refine AW.condF (congrArg AV.bool hc47) ?_
  refine AW.skip ?_
  refine AW.seq ?_
  refine AW.seq ?_
  refine AW.region ?_
  refine AOps.pureR rfl rfl rfl rfl rfl (rfl : _ = (AV.eptr [(AV.int .i64 a1.Checker.Stack), (AV.int .i64 a1.Checker.Start), (AV.sl z2 f3 e4), (AV.sl z6 f7 e8), (AV.sl z10 f11 e12), (AV.sl z14 f15 e16), (AV.sl z18 f19 e20)] 6)) ?_
  refine AOps.ldE (v := (AV.sl z18 f19 e20)) rfl rfl rfl rfl rfl rfl ?_
  refine AOps.pureR rfl rfl rfl rfl rfl (rfl : _ = (AV.eptr [(AV.int .i64 b22.Checker.Stack), (AV.int .i64 b22.Checker.Start), (AV.sl z23 f24 e25), (AV.sl z27 f28 e29), (AV.sl z31 f32 e33), (AV.sl z35 f36 e37), (AV.sl z39 f40 e41)] 6)) ?_
  refine AOps.ldE (v := (AV.sl z39 f40 e41)) rfl rfl rfl rfl rfl rfl ?_
  obtain ⟨y48, h49, h⟩ := obind h
  refine AOps.callP (g := 50) (args := [(AV.sl z18 f19 e20), (AV.sl z39 f40 e41)]) (p := (rB) y48) rfl rfl rfl (laws_eqStringS_ok h21 h42 h49 hWF) ?_
  intro _ o51 h50
  cases h50
  refine AOps.pureR rfl rfl rfl rfl rfl (rfl : _ = (AV.bool (!y48))) ?_
  refine AOps.nilR ?_
  rcases oite h with ⟨hc52, h⟩ | ⟨hc52, h⟩
  · refine AW.condT (congrArg AV.bool hc52) ?_
    refine AW.seq ?_
    refine AW.region ?_
    refine AOps.pureR rfl rfl rfl rfl rfl (rfl : _ = (AV.bool false)) ?_
    refine AOps.nilR ?_
    cases h
    exact AW.ret ⟨rfl, _, _, rfl, rfl⟩
  refine AW.condF (congrArg AV.bool hc52) ?_
  refine AW.skip ?_
  refine AW.seq ?_
  refine AW.region ?_
  refine AOps.pureR rfl rfl rfl rfl rfl (rfl : _ = (AV.bool true)) ?_
  refine AOps.nilR ?_
  cases h
  exact AW.ret ⟨rfl, _, _, rfl, rfl⟩
theorem laws_FnExactValidStream_ok {aV1 : Stream} {z2 : Nat} {f3 : Bool} {e4 : List AV} {z6 : Nat} {f7 : Bool} {e8 : List AV} {z10 : Nat} {f11 : Bool} {e12 : List AV} {z14 : Nat} {f15 : Bool} {e16 : List AV} {z18 : Nat} {f19 : Bool} {e20 : List AV} {s : St} (h5 : LR rB 1 aV1.Checker.Accept z2 e4) (h9 : LR (rL rPush 2) 1 aV1.Checker.Call z6 e8) (h13 : LR (rL (rL (rI .i64) 1) 1) 1 aV1.Checker.Return z10 e12) (h17 : LR (rL (rI .i64) 1) 1 aV1.Checker.Inner z14 e16) (h21 : LR rS 1 aV1.Pieces z18 e20) {r : Bool} (h : laws_FnExactValidStream aV1 = some r) (hs : WF s) : ACall Cf 5 [(AV.agg [(AV.int .i64 aV1.Checker.Stack), (AV.int .i64 aV1.Checker.Start), (AV.sl z2 f3 e4), (AV.sl z6 f7 e8), (AV.sl z10 f11 e12), (AV.sl z14 f15 e16), (AV.sl z18 f19 e20)])] s fun v _ s' => (rB) r v ∧ s' = s := by
  refine ACall.pure rfl rfl rfl .B ?_
  have hWF := hs.lo'
  unfold laws_FnExactValidStream at h
  refine AW.seq ?_
  refine AW.region ?_
  refine AOps.makeR rfl rfl rfl rfl rfl rfl (rfl : _ = (AV.eptr [(AV.int .i64 aV1.Checker.Stack), (AV.int .i64 aV1.Checker.Start), (AV.sl z2 f3 e4), (AV.sl z6 f7 e8), (AV.sl z10 f11 e12), (AV.sl z14 f15 e16), (AV.sl z18 f19 e20)] 0)) ?_
  refine AOps.pureR rfl rfl rfl rfl rfl (rfl : _ = (AV.bool false)) ?_
  refine AOps.nilR ?_
  refine AW.seq ?_
  refine AW.region ?_
  refine AOps.pureR rfl rfl rfl rfl rfl (rfl : _ = (AV.int .i64 1048576)) ?_
  refine AOps.nilR ?_
  refine AW.seq ?_
  refine AW.region ?_
  refine AOps.ldE (v := (AV.agg [(AV.int .i64 aV1.Checker.Stack), (AV.int .i64 aV1.Checker.Start), (AV.sl z2 f3 e4), (AV.sl z6 f7 e8), (AV.sl z10 f11 e12), (AV.sl z14 f15 e16), (AV.sl z18 f19 e20)])) rfl rfl rfl rfl rfl rfl ?_
  refine AOps.pureR rfl rfl rfl rfl rfl (rfl : _ = (AV.int .i64 1048576)) ?_
  obtain ⟨y22, h23, h⟩ := obind h
  refine AOps.callP (g := 16) (args := [(AV.agg [(AV.int .i64 aV1.Checker.Stack), (AV.int .i64 aV1.Checker.Start), (AV.sl z2 f3 e4), (AV.sl z6 f7 e8), (AV.sl z10 f11 e12), (AV.sl z14 f15 e16), (AV.sl z18 f19 e20)]), (AV.int .i64 1048576)]) (p := (rI .i64) y22) rfl rfl rfl (laws_szStream_ok h5 h9 h13 h17 h21 h23 hWF) ?_
  intro _ o25 h24
  cases h24
  refine AOps.assignR rfl rfl rfl (rfl : _ = (AV.int .i64 y22)) rfl ?_
  refine AOps.nilR ?_
  refine AW.seq ?_
  refine AW.seq ?_
  refine AW.region ?_
  refine AOps.pureR rfl rfl rfl rfl rfl (rfl : _ = (AV.int .i64 y22)) ?_
  refine AOps.pureR rfl rfl rfl rfl rfl (rfl : _ = (AV.bool (decide ((y22 : Int) < 0)))) ?_
  refine AOps.nilR ?_
  rcases oite h with ⟨hc26, h⟩ | ⟨hc26, h⟩
  · refine AW.condT (congrArg AV.bool hc26) ?_
    refine AW.seq ?_
    refine AW.region ?_
    refine AOps.pureR rfl rfl rfl rfl rfl (rfl : _ = (AV.bool true)) ?_
    refine AOps.nilR ?_
    cases h
    exact AW.ret ⟨rfl, _, _, rfl, rfl⟩
  refine AW.condF (congrArg AV.bool hc26) ?_
  refine AW.skip ?_
  refine AW.seq ?_
  refine AW.region ?_
  refine AOps.ldE (v := (AV.agg [(AV.int .i64 aV1.Checker.Stack), (AV.int .i64 aV1.Checker.Start), (AV.sl z2 f3 e4), (AV.sl z6 f7 e8), (AV.sl z10 f11 e12), (AV.sl z14 f15 e16), (AV.sl z18 f19 e20)])) rfl rfl rfl rfl rfl rfl ?_
  obtain ⟨y27, h28, h⟩ := obind h
  refine AOps.callP (g := 18) (args := [(AV.agg [(AV.int .i64 aV1.Checker.Stack), (AV.int .i64 aV1.Checker.Start), (AV.sl z2 f3 e4), (AV.sl z6 f7 e8), (AV.sl z10 f11 e12), (AV.sl z14 f15 e16), (AV.sl z18 f19 e20)])]) (p := (rStream) y27) rfl rfl rfl (laws_toStream_ok h5 h9 h13 h17 h21 h28 hWF) ?_
  intro _ o65 h29
  obtain ⟨_, rfl, h30⟩ := h29
  obtain ⟨_, _, rfl, h31, h32⟩ := Cs_cons h30
  cases h31
  obtain ⟨_, _, rfl, h33, h34⟩ := Cs_cons h32
  cases h33
  obtain ⟨_, _, rfl, h35, h36⟩ := Cs_cons h34
  obtain ⟨z37, f38, e39, rfl, h40⟩ := h35
  obtain ⟨_, _, rfl, h41, h42⟩ := Cs_cons h36
  obtain ⟨z43, f44, e45, rfl, h46⟩ := h41
  obtain ⟨_, _, rfl, h47, h48⟩ := Cs_cons h42
  obtain ⟨z49, f50, e51, rfl, h52⟩ := h47
  obtain ⟨_, _, rfl, h53, h54⟩ := Cs_cons h48
  obtain ⟨z55, f56, e57, rfl, h58⟩ := h53
  obtain ⟨_, _, rfl, h59, h60⟩ := Cs_cons h54
  obtain ⟨z61, f62, e63, rfl, h64⟩ := h59
  cases Cs_nil h60
  obtain ⟨y66, h67, h⟩ := obind h
  refine AOps.callP (g := 17) (args := [(AV.agg [(AV.int .i64 y27.Checker.Stack), (AV.int .i64 y27.Checker.Start), (AV.sl z37 f38 e39), (AV.sl z43 f44 e45), (AV.sl z49 f50 e51), (AV.sl z55 f56 e57), (AV.sl z61 f62 e63)])]) (p := (rB) y66) rfl rfl rfl (spec_ValidStream_ok h40 h46 h52 h58 h64 h67 hWF) ?_
  intro _ o69 h68
  cases h68
  refine AOps.assignR rfl rfl rfl (rfl : _ = (AV.bool y66)) rfl ?_
  refine AOps.nilR ?_
  refine AW.seq ?_
  refine AW.region ?_
  refine AOps.ldE (v := (AV.agg [(AV.int .i64 aV1.Checker.Stack), (AV.int .i64 aV1.Checker.Start), (AV.sl z2 f3 e4), (AV.sl z6 f7 e8), (AV.sl z10 f11 e12), (AV.sl z14 f15 e16), (AV.sl z18 f19 e20)])) rfl rfl rfl rfl rfl rfl ?_
  obtain ⟨y70, h71, h⟩ := obind h
  refine AOps.callP (g := 18) (args := [(AV.agg [(AV.int .i64 aV1.Checker.Stack), (AV.int .i64 aV1.Checker.Start), (AV.sl z2 f3 e4), (AV.sl z6 f7 e8), (AV.sl z10 f11 e12), (AV.sl z14 f15 e16), (AV.sl z18 f19 e20)])]) (p := (rStream) y70) rfl rfl rfl (laws_toStream_ok h5 h9 h13 h17 h21 h71 hWF) ?_
  intro _ o108 h72
  obtain ⟨_, rfl, h73⟩ := h72
  obtain ⟨_, _, rfl, h74, h75⟩ := Cs_cons h73
  cases h74
  obtain ⟨_, _, rfl, h76, h77⟩ := Cs_cons h75
  cases h76
  obtain ⟨_, _, rfl, h78, h79⟩ := Cs_cons h77
  obtain ⟨z80, f81, e82, rfl, h83⟩ := h78
  obtain ⟨_, _, rfl, h84, h85⟩ := Cs_cons h79
  obtain ⟨z86, f87, e88, rfl, h89⟩ := h84
  obtain ⟨_, _, rfl, h90, h91⟩ := Cs_cons h85
  obtain ⟨z92, f93, e94, rfl, h95⟩ := h90
  obtain ⟨_, _, rfl, h96, h97⟩ := Cs_cons h91
  obtain ⟨z98, f99, e100, rfl, h101⟩ := h96
  obtain ⟨_, _, rfl, h102, h103⟩ := Cs_cons h97
  obtain ⟨z104, f105, e106, rfl, h107⟩ := h102
  cases Cs_nil h103
  refine AOps.allocP rfl rfl rfl rfl ⟨rfl, rfl⟩ rfl ?_
  refine AOps.stP (v := (AV.agg [(AV.int .i64 y70.Checker.Stack), (AV.int .i64 y70.Checker.Start), (AV.sl z80 f81 e82), (AV.sl z86 f87 e88), (AV.sl z92 f93 e94), (AV.sl z98 f99 e100), (AV.sl z104 f105 e106)])) rfl rfl rfl rfl rfl rfl rfl rfl rfl (lt_b rfl) rfl ?_
  refine AOps.nilR ?_
  refine AW.seq ?_
  refine AW.region ?_
  refine AOps.ldE (v := (AV.agg [(AV.int .i64 y70.Checker.Stack), (AV.int .i64 y70.Checker.Start), (AV.sl z80 f81 e82), (AV.sl z86 f87 e88), (AV.sl z92 f93 e94), (AV.sl z98 f99 e100), (AV.sl z104 f105 e106)])) rfl rfl rfl rfl rfl rfl ?_
  obtain ⟨y109, h110, h⟩ := obind h
  refine AOps.callP (g := 19) (args := [(AV.agg [(AV.int .i64 y70.Checker.Stack), (AV.int .i64 y70.Checker.Start), (AV.sl z80 f81 e82), (AV.sl z86 f87 e88), (AV.sl z92 f93 e94), (AV.sl z98 f99 e100), (AV.sl z104 f105 e106)])]) (p := (rB) y109) rfl rfl rfl (impl_ValidStream_ok h83 h89 h95 h101 h107 h110 hWF) ?_
  intro _ o112 h111
  cases h111
  refine AOps.assignR rfl rfl rfl (rfl : _ = (AV.bool y109)) rfl ?_
  refine AOps.nilR ?_
  refine AW.seq ?_
  refine AW.seq ?_
  refine AW.region ?_
  refine AOps.pureR rfl rfl rfl rfl rfl (rfl : _ = (AV.bool y109)) ?_
  refine AOps.pureR rfl rfl rfl rfl rfl (rfl : _ = (AV.bool y66)) ?_
  refine AOps.pureR rfl rfl rfl rfl rfl (rfl : _ = (AV.bool (!(y109 == y66)))) ?_
  refine AOps.nilR ?_
  rcases oite h with ⟨hc113, h⟩ | ⟨hc113, h⟩
  · refine AW.condT (congrArg AV.bool hc113) ?_
    refine AW.seq ?_
    refine AW.region ?_
    refine AOps.pureR rfl rfl rfl rfl rfl (rfl : _ = (AV.bool false)) ?_
    refine AOps.nilR ?_
    cases h
    exact AW.ret ⟨rfl, _, _, rfl, rfl⟩
  refine AW.condF (congrArg AV.bool hc113) ?_
  refine AW.skip ?_
  refine AW.seq ?_
  refine AW.seq ?_
  refine AW.region ?_
  refine AOps.ldE (v := (AV.agg [(AV.int .i64 y70.Checker.Stack), (AV.int .i64 y70.Checker.Start), (AV.sl z80 f81 e82), (AV.sl z86 f87 e88), (AV.sl z92 f93 e94), (AV.sl z98 f99 e100), (AV.sl z104 f105 e106)])) rfl rfl rfl rfl rfl rfl ?_
  refine AOps.ldE (v := (AV.agg [(AV.int .i64 aV1.Checker.Stack), (AV.int .i64 aV1.Checker.Start), (AV.sl z2 f3 e4), (AV.sl z6 f7 e8), (AV.sl z10 f11 e12), (AV.sl z14 f15 e16), (AV.sl z18 f19 e20)])) rfl rfl rfl rfl rfl rfl ?_
  obtain ⟨y114, h115, h⟩ := obind h
  refine AOps.callDP (g := 18) (args := [(AV.agg [(AV.int .i64 aV1.Checker.Stack), (AV.int .i64 aV1.Checker.Start), (AV.sl z2 f3 e4), (AV.sl z6 f7 e8), (AV.sl z10 f11 e12), (AV.sl z14 f15 e16), (AV.sl z18 f19 e20)])]) (p := (rStream) y114) rfl rfl rfl (laws_toStream_ok h5 h9 h13 h17 h21 h115 hWF.still) (fun v hv => Nice.pure (k := FINK) (p := (rStream) y114) (.A (.cons .I (.cons .I (.cons (.L fun _ => .B) (.cons (.L fun _ => (.L fun _ => (.A (.cons .I (.cons .I .nil))))) (.cons (.L fun _ => (.L fun _ => (.L fun _ => .I))) (.cons (.L fun _ => (.L fun _ => .I)) (.cons (.L fun _ => .S) .nil)))))))) _ v hv) ?_
  intro _ o152 h116
  obtain ⟨_, rfl, h117⟩ := h116
  obtain ⟨_, _, rfl, h118, h119⟩ := Cs_cons h117
  cases h118
  obtain ⟨_, _, rfl, h120, h121⟩ := Cs_cons h119
  cases h120
  obtain ⟨_, _, rfl, h122, h123⟩ := Cs_cons h121
  obtain ⟨z124, f125, e126, rfl, h127⟩ := h122
  obtain ⟨_, _, rfl, h128, h129⟩ := Cs_cons h123
  obtain ⟨z130, f131, e132, rfl, h133⟩ := h128
  obtain ⟨_, _, rfl, h134, h135⟩ := Cs_cons h129
  obtain ⟨z136, f137, e138, rfl, h139⟩ := h134
  obtain ⟨_, _, rfl, h140, h141⟩ := Cs_cons h135
  obtain ⟨z142, f143, e144, rfl, h145⟩ := h140
  obtain ⟨_, _, rfl, h146, h147⟩ := Cs_cons h141
  obtain ⟨z148, f149, e150, rfl, h151⟩ := h146
  cases Cs_nil h147
  obtain ⟨y153, h154, h⟩ := obind h
  refine AOps.callDP (g := 20) (args := [(AV.agg [(AV.int .i64 y70.Checker.Stack), (AV.int .i64 y70.Checker.Start), (AV.sl z80 f81 e82), (AV.sl z86 f87 e88), (AV.sl z92 f93 e94), (AV.sl z98 f99 e100), (AV.sl z104 f105 e106)]), (AV.agg [(AV.int .i64 y114.Checker.Stack), (AV.int .i64 y114.Checker.Start), (AV.sl z124 f125 e126), (AV.sl z130 f131 e132), (AV.sl z136 f137 e138), (AV.sl z142 f143 e144), (AV.sl z148 f149 e150)])]) (p := (rB) y153) rfl rfl rfl (laws_eqStream_ok h83 h89 h95 h101 h107 h127 h133 h139 h145 h151 h154 hWF.still) (fun v hv => Nice.pure (k := FINK) (p := (rB) y153) .B _ v hv) ?_
  intro _ o156 h155
  cases h155
  refine AOps.pureR rfl rfl rfl rfl rfl (rfl : _ = (AV.bool (!y153))) ?_
  refine AOps.nilR ?_
  rcases oite h with ⟨hc157, h⟩ | ⟨hc157, h⟩
  · refine AW.condT (congrArg AV.bool hc157) ?_
    refine AW.seq ?_
    refine AW.region ?_
    refine AOps.pureR rfl rfl rfl rfl rfl (rfl : _ = (AV.bool false)) ?_
    refine AOps.nilR ?_
    cases h
    exact AW.ret ⟨rfl, _, _, rfl, rfl⟩
  refine AW.condF (congrArg AV.bool hc157) ?_
  refine AW.skip ?_
  refine AW.seq ?_
  refine AW.region ?_
  refine AOps.pureR rfl rfl rfl rfl rfl (rfl : _ = (AV.bool true)) ?_
  refine AOps.nilR ?_
  cases h
  exact AW.ret ⟨rfl, _, _, rfl, rfl⟩
theorem spec_WholeOf_ok {v1 : Stream} {z2 : Nat} {f3 : Bool} {e4 : List AV} {z6 : Nat} {f7 : Bool} {e8 : List AV} {z10 : Nat} {f11 : Bool} {e12 : List AV} {z14 : Nat} {f15 : Bool} {e16 : List AV} {z18 : Nat} {f19 : Bool} {e20 : List AV} {s : St} (h5 : LR rB 1 v1.Checker.Accept z2 e4) (h9 : LR (rL rPush 2) 1 v1.Checker.Call z6 e8) (h13 : LR (rL (rL (rI .i64) 1) 1) 1 v1.Checker.Return z10 e12) (h17 : LR (rL (rI .i64) 1) 1 v1.Checker.Inner z14 e16) (h21 : LR rS 1 v1.Pieces z18 e20) {r : (List UInt8) × Int} (h : spec_WholeOf v1 = some r) (hs : WF s) : ACall Cf 21 [(AV.agg [(AV.int .i64 v1.Checker.Stack), (AV.int .i64 v1.Checker.Start), (AV.sl z2 f3 e4), (AV.sl z6 f7 e8), (AV.sl z10 f11 e12), (AV.sl z14 f15 e16), (AV.sl z18 f19 e20)])] s fun v _ s' => (fun x => rT [rS x.1, (rI .i64) x.2]) r v ∧ s' = s := by
  refine ACall.pure rfl rfl rfl (.T (.cons .S (.cons .I .nil))) ?_
  have hWF := hs.lo'
  unfold spec_WholeOf at h
  refine AW.seq ?_
  refine AW.region ?_
  refine AOps.makeR rfl rfl rfl rfl rfl rfl (rfl : _ = (AV.eptr [(AV.int .i64 v1.Checker.Stack), (AV.int .i64 v1.Checker.Start), (AV.sl z2 f3 e4), (AV.sl z6 f7 e8), (AV.sl z10 f11 e12), (AV.sl z14 f15 e16), (AV.sl z18 f19 e20)] 0)) ?_
  refine AOps.pureR rfl rfl rfl rfl rfl (rfl : _ = (AV.str ([] : List UInt8))) ?_
  refine AOps.pureR rfl rfl rfl rfl rfl (rfl : _ = (AV.int .i64 0)) ?_
  refine AOps.nilR ?_
  refine AW.seq ?_
  refine AW.seq ?_
  refine AW.region ?_
  obtain ⟨y22, h23, h⟩ := obind h
  refine AOps.callP (g := 41) (args := [(AV.eptr [(AV.int .i64 v1.Checker.Stack), (AV.int .i64 v1.Checker.Start), (AV.sl z2 f3 e4), (AV.sl z6 f7 e8), (AV.sl z10 f11 e12), (AV.sl z14 f15 e16), (AV.sl z18 f19 e20)] 0)]) (p := (rB) y22) rfl rfl rfl (spec_l08Ok_ok h5 h9 h13 h17 h21 h23 hWF) ?_
  intro _ o25 h24
  cases h24
  refine AOps.pureR rfl rfl rfl rfl rfl (rfl : _ = (AV.bool (!y22))) ?_
  refine AOps.nilR ?_
  rcases oite h with ⟨hc26, h⟩ | ⟨hc26, h⟩
  · refine AW.condT (congrArg AV.bool hc26) ?_
    refine AW.seq ?_
    refine AW.region ?_
    refine AOps.pureR rfl rfl rfl rfl rfl (rfl : _ = (AV.str ([] : List UInt8))) ?_
    refine AOps.pureR rfl rfl rfl rfl rfl (rfl : _ = (AV.int .i64 1)) ?_
    refine AOps.nilR ?_
    cases h
    exact AW.ret ⟨rfl, _, _, rfl, ⟨_, rfl, (.cons rfl (.cons rfl .nil))⟩⟩
  refine AW.condF (congrArg AV.bool hc26) ?_
  refine AW.skip ?_
  refine AW.seq ?_
  refine AW.region ?_
  refine AOps.pureR rfl rfl rfl rfl rfl (rfl : _ = (AV.eptr [(AV.int .i64 v1.Checker.Stack), (AV.int .i64 v1.Checker.Start), (AV.sl z2 f3 e4), (AV.sl z6 f7 e8), (AV.sl z10 f11 e12), (AV.sl z14 f15 e16), (AV.sl z18 f19 e20)] 6)) ?_
  refine AOps.ldE (v := (AV.sl z18 f19 e20)) rfl rfl rfl rfl rfl rfl ?_
  obtain ⟨y27, h28, h⟩ := obind h
  refine AOps.callP (g := 51) (args := [(AV.sl z18 f19 e20)]) (p := (rS) y27) rfl rfl rfl (spec_l08Whole_ok h21 h28 hWF) ?_
  intro _ o30 h29
  cases h29
  refine AOps.assignR rfl rfl rfl (rfl : _ = (AV.str y27)) rfl ?_
  refine AOps.pureR rfl rfl rfl rfl rfl (rfl : _ = (AV.int .i64 0)) ?_
  refine AOps.nilR ?_
  cases h
  exact AW.ret ⟨rfl, _, _, rfl, ⟨_, rfl, (.cons rfl (.cons rfl .nil))⟩⟩
theorem impl_WholeOf_ok {v1 : Stream} {z2 : Nat} {f3 : Bool} {e4 : List AV} {z6 : Nat} {f7 : Bool} {e8 : List AV} {z10 : Nat} {f11 : Bool} {e12 : List AV} {z14 : Nat} {f15 : Bool} {e16 : List AV} {z18 : Nat} {f19 : Bool} {e20 : List AV} {s : St} (h5 : LR rB 1 v1.Checker.Accept z2 e4) (h9 : LR (rL rPush 2) 1 v1.Checker.Call z6 e8) (h13 : LR (rL (rL (rI .i64) 1) 1) 1 v1.Checker.Return z10 e12) (h17 : LR (rL (rI .i64) 1) 1 v1.Checker.Inner z14 e16) (h21 : LR rS 1 v1.Pieces z18 e20) {r : (List UInt8) × Int} (h : impl_WholeOf v1 = some r) (hs : WF s) : ACall Cf 22 [(AV.agg [(AV.int .i64 v1.Checker.Stack), (AV.int .i64 v1.Checker.Start), (AV.sl z2 f3 e4), (AV.sl z6 f7 e8), (AV.sl z10 f11 e12), (AV.sl z14 f15 e16), (AV.sl z18 f19 e20)])] s fun v _ s' => (fun x => rT [rS x.1, (rI .i64) x.2]) r v ∧ s' = s := by
  refine ACall.pure rfl rfl rfl (.T (.cons .S (.cons .I .nil))) ?_
  have hWF := hs.lo'
  unfold impl_WholeOf at h
  refine AW.seq ?_
  refine AW.region ?_
  refine AOps.makeR rfl rfl rfl rfl rfl rfl (rfl : _ = (AV.eptr [(AV.int .i64 v1.Checker.Stack), (AV.int .i64 v1.Checker.Start), (AV.sl z2 f3 e4), (AV.sl z6 f7 e8), (AV.sl z10 f11 e12), (AV.sl z14 f15 e16), (AV.sl z18 f19 e20)] 0)) ?_
  refine AOps.pureR rfl rfl rfl rfl rfl (rfl : _ = (AV.str ([] : List UInt8))) ?_
  refine AOps.pureR rfl rfl rfl rfl rfl (rfl : _ = (AV.int .i64 0)) ?_
  refine AOps.nilR ?_
  refine AW.seq ?_
  refine AW.seq ?_
  refine AW.region ?_
  refine AOps.ldE (v := (AV.agg [(AV.int .i64 v1.Checker.Stack), (AV.int .i64 v1.Checker.Start), (AV.sl z2 f3 e4), (AV.sl z6 f7 e8), (AV.sl z10 f11 e12), (AV.sl z14 f15 e16), (AV.sl z18 f19 e20)])) rfl rfl rfl rfl rfl rfl ?_
  obtain ⟨y22, h23, h⟩ := obind h
  refine AOps.callP (g := 19) (args := [(AV.agg [(AV.int .i64 v1.Checker.Stack), (AV.int .i64 v1.Checker.Start), (AV.sl z2 f3 e4), (AV.sl z6 f7 e8), (AV.sl z10 f11 e12), (AV.sl z14 f15 e16), (AV.sl z18 f19 e20)])]) (p := (rB) y22) rfl rfl rfl (impl_ValidStream_ok h5 h9 h13 h17 h21 h23 hWF) ?_
  intro _ o25 h24
  cases h24
  refine AOps.pureR rfl rfl rfl rfl rfl (rfl : _ = (AV.bool (!y22))) ?_
  refine AOps.nilR ?_
  rcases oite h with ⟨hc26, h⟩ | ⟨hc26, h⟩
  · refine AW.condT (congrArg AV.bool hc26) ?_
    refine AW.seq ?_
    refine AW.region ?_
    refine AOps.pureR rfl rfl rfl rfl rfl (rfl : _ = (AV.str ([] : List UInt8))) ?_
    refine AOps.pureR rfl rfl rfl rfl rfl (rfl : _ = (AV.int .i64 1)) ?_
    refine AOps.nilR ?_
    cases h
    exact AW.ret ⟨rfl, _, _, rfl, ⟨_, rfl, (.cons rfl (.cons rfl .nil))⟩⟩
  refine AW.condF (congrArg AV.bool hc26) ?_
  refine AW.skip ?_
  refine AW.seq ?_
  refine AW.region ?_
  refine AOps.pureR rfl rfl rfl rfl rfl (rfl : _ = (AV.eptr [(AV.int .i64 v1.Checker.Stack), (AV.int .i64 v1.Checker.Start), (AV.sl z2 f3 e4), (AV.sl z6 f7 e8), (AV.sl z10 f11 e12), (AV.sl z14 f15 e16), (AV.sl z18 f19 e20)] 6)) ?_
  refine AOps.ldE (v := (AV.sl z18 f19 e20)) rfl rfl rfl rfl rfl rfl ?_
  obtain ⟨y27, h28, h⟩ := obind h
  refine AOps.callP (g := 48) (args := [(AV.sl z18 f19 e20), (AV.str ([] : List UInt8))]) (p := (rS) y27) rfl rfl rfl (ext_join_ok h21 h28 hWF) ?_
  intro _ o30 h29
  cases h29
  refine AOps.assignR rfl rfl rfl (rfl : _ = (AV.str y27)) rfl ?_
  refine AOps.pureR rfl rfl rfl rfl rfl (rfl : _ = (AV.int .i64 0)) ?_
  refine AOps.nilR ?_
  cases h
  exact AW.ret ⟨rfl, _, _, rfl, ⟨_, rfl, (.cons rfl (.cons rfl .nil))⟩⟩
theorem laws_FnExactWholeOf_ok {aV1 : Stream} {z2 : Nat} {f3 : Bool} {e4 : List AV} {z6 : Nat} {f7 : Bool} {e8 : List AV} {z10 : Nat} {f11 : Bool} {e12 : List AV} {z14 : Nat} {f15 : Bool} {e16 : List AV} {z18 : Nat} {f19 : Bool} {e20 : List AV} {s : St} (h5 : LR rB 1 aV1.Checker.Accept z2 e4) (h9 : LR (rL rPush 2) 1 aV1.Checker.Call z6 e8) (h13 : LR (rL (rL (rI .i64) 1) 1) 1 aV1.Checker.Return z10 e12) (h17 : LR (rL (rI .i64) 1) 1 aV1.Checker.Inner z14 e16) (h21 : LR rS 1 aV1.Pieces z18 e20) {r : Bool} (h : laws_FnExactWholeOf aV1 = some r) (hs : WF s) : ACall Cf 6 [(AV.agg [(AV.int .i64 aV1.Checker.Stack), (AV.int .i64 aV1.Checker.Start), (AV.sl z2 f3 e4), (AV.sl z6 f7 e8), (AV.sl z10 f11 e12), (AV.sl z14 f15 e16), (AV.sl z18 f19 e20)])] s fun v _ s' => (rB) r v ∧ s' = s := by
  refine ACall.pure rfl rfl rfl .B ?_
  have hWF := hs.lo'
  unfold laws_FnExactWholeOf at h
  refine AW.seq ?_
  refine AW.region ?_
  refine AOps.makeR rfl rfl rfl rfl rfl rfl (rfl : _ = (AV.eptr [(AV.int .i64 aV1.Checker.Stack), (AV.int .i64 aV1.Checker.Start), (AV.sl z2 f3 e4), (AV.sl z6 f7 e8), (AV.sl z10 f11 e12), (AV.sl z14 f15 e16), (AV.sl z18 f19 e20)] 0)) ?_
  refine AOps.pureR rfl rfl rfl rfl rfl (rfl : _ = (AV.bool false)) ?_
  refine AOps.nilR ?_
  refine AW.seq ?_
  refine AW.region ?_
  refine AOps.pureR rfl rfl rfl rfl rfl (rfl : _ = (AV.int .i64 1048576)) ?_
  refine AOps.nilR ?_
  refine AW.seq ?_
  refine AW.region ?_
  refine AOps.ldE (v := (AV.agg [(AV.int .i64 aV1.Checker.Stack), (AV.int .i64 aV1.Checker.Start), (AV.sl z2 f3 e4), (AV.sl z6 f7 e8), (AV.sl z10 f11 e12), (AV.sl z14 f15 e16), (AV.sl z18 f19 e20)])) rfl rfl rfl rfl rfl rfl ?_
  refine AOps.pureR rfl rfl rfl rfl rfl (rfl : _ = (AV.int .i64 1048576)) ?_
  obtain ⟨y22, h23, h⟩ := obind h
  refine AOps.callP (g := 16) (args := [(AV.agg [(AV.int .i64 aV1.Checker.Stack), (AV.int .i64 aV1.Checker.Start), (AV.sl z2 f3 e4), (AV.sl z6 f7 e8), (AV.sl z10 f11 e12), (AV.sl z14 f15 e16), (AV.sl z18 f19 e20)]), (AV.int .i64 1048576)]) (p := (rI .i64) y22) rfl rfl rfl (laws_szStream_ok h5 h9 h13 h17 h21 h23 hWF) ?_
  intro _ o25 h24
  cases h24
  refine AOps.assignR rfl rfl rfl (rfl : _ = (AV.int .i64 y22)) rfl ?_
  refine AOps.nilR ?_
  refine AW.seq ?_
  refine AW.seq ?_
  refine AW.region ?_
  refine AOps.pureR rfl rfl rfl rfl rfl (rfl : _ = (AV.int .i64 y22)) ?_
  refine AOps.pureR rfl rfl rfl rfl rfl (rfl : _ = (AV.bool (decide ((y22 : Int) < 0)))) ?_
  refine AOps.nilR ?_
  rcases oite h with ⟨hc26, h⟩ | ⟨hc26, h⟩
  · refine AW.condT (congrArg AV.bool hc26) ?_
    refine AW.seq ?_
    refine AW.region ?_
    refine AOps.pureR rfl rfl rfl rfl rfl (rfl : _ = (AV.bool true)) ?_
    refine AOps.nilR ?_
    cases h
    exact AW.ret ⟨rfl, _, _, rfl, rfl⟩
  refine AW.condF (congrArg AV.bool hc26) ?_
  refine AW.skip ?_
  refine AW.seq ?_
  refine AW.region ?_
  refine AOps.ldE (v := (AV.agg [(AV.int .i64 aV1.Checker.Stack), (AV.int .i64 aV1.Checker.Start), (AV.sl z2 f3 e4), (AV.sl z6 f7 e8), (AV.sl z10 f11 e12), (AV.sl z14 f15 e16), (AV.sl z18 f19 e20)])) rfl rfl rfl rfl rfl rfl ?_
  obtain ⟨y27, h28, h⟩ := obind h
  refine AOps.callP (g := 18) (args := [(AV.agg [(AV.int .i64 aV1.Checker.Stack), (AV.int .i64 aV1.Checker.Start), (AV.sl z2 f3 e4), (AV.sl z6 f7 e8), (AV.sl z10 f11 e12), (AV.sl z14 f15 e16), (AV.sl z18 f19 e20)])]) (p := (rStream) y27) rfl rfl rfl (laws_toStream_ok h5 h9 h13 h17 h21 h28 hWF) ?_
  intro _ o65 h29
  obtain ⟨_, rfl, h30⟩ := h29
  obtain ⟨_, _, rfl, h31, h32⟩ := Cs_cons h30
  cases h31
  obtain ⟨_, _, rfl, h33, h34⟩ := Cs_cons h32
  cases h33
  obtain ⟨_, _, rfl, h35, h36⟩ := Cs_cons h34
  obtain ⟨z37, f38, e39, rfl, h40⟩ := h35
  obtain ⟨_, _, rfl, h41, h42⟩ := Cs_cons h36
  obtain ⟨z43, f44, e45, rfl, h46⟩ := h41
  obtain ⟨_, _, rfl, h47, h48⟩ := Cs_cons h42
  obtain ⟨z49, f50, e51, rfl, h52⟩ := h47
  obtain ⟨_, _, rfl, h53, h54⟩ := Cs_cons h48
  obtain ⟨z55, f56, e57, rfl, h58⟩ := h53
  obtain ⟨_, _, rfl, h59, h60⟩ := Cs_cons h54
  obtain ⟨z61, f62, e63, rfl, h64⟩ := h59
  cases Cs_nil h60
  obtain ⟨y66, h67, h⟩ := obind h
  refine AOps.callP (g := 21) (args := [(AV.agg [(AV.int .i64 y27.Checker.Stack), (AV.int .i64 y27.Checker.Start), (AV.sl z37 f38 e39), (AV.sl z43 f44 e45), (AV.sl z49 f50 e51), (AV.sl z55 f56 e57), (AV.sl z61 f62 e63)])]) (p := (fun x => rT [rS x.1, (rI .i64) x.2]) y66) rfl rfl rfl (spec_WholeOf_ok h40 h46 h52 h58 h64 h67 hWF) ?_
  intro _ o74 h68
  obtain ⟨_, rfl, h69⟩ := h68
  obtain ⟨_, _, rfl, h70, h71⟩ := Cs_cons h69
  cases h70
  obtain ⟨_, _, rfl, h72, h73⟩ := Cs_cons h71
  cases h72
  cases Cs_nil h73
  refine AOps.pureR rfl rfl rfl rfl rfl (rfl : _ = (AV.tup [(AV.str y66.1), (AV.int .i64 y66.2)])) ?_
  refine AOps.pureR rfl rfl rfl rfl rfl (rfl : _ = (AV.str y66.1)) ?_
  refine AOps.pureR rfl rfl rfl rfl rfl (rfl : _ = (AV.int .i64 y66.2)) ?_
  refine AOps.assignR rfl rfl rfl (rfl : _ = (AV.str y66.1)) rfl ?_
  refine AOps.assignR rfl rfl rfl (rfl : _ = (AV.int .i64 y66.2)) rfl ?_
  refine AOps.nilR ?_
  refine AW.seq ?_
  refine AW.region ?_
  refine AOps.ldE (v := (AV.agg [(AV.int .i64 aV1.Checker.Stack), (AV.int .i64 aV1.Checker.Start), (AV.sl z2 f3 e4), (AV.sl z6 f7 e8), (AV.sl z10 f11 e12), (AV.sl z14 f15 e16), (AV.sl z18 f19 e20)])) rfl rfl rfl rfl rfl rfl ?_
  obtain ⟨y75, h76, h⟩ := obind h
  refine AOps.callP (g := 18) (args := [(AV.agg [(AV.int .i64 aV1.Checker.Stack), (AV.int .i64 aV1.Checker.Start), (AV.sl z2 f3 e4), (AV.sl z6 f7 e8), (AV.sl z10 f11 e12), (AV.sl z14 f15 e16), (AV.sl z18 f19 e20)])]) (p := (rStream) y75) rfl rfl rfl (laws_toStream_ok h5 h9 h13 h17 h21 h76 hWF) ?_
  intro _ o113 h77
  obtain ⟨_, rfl, h78⟩ := h77
  obtain ⟨_, _, rfl, h79, h80⟩ := Cs_cons h78
  cases h79
  obtain ⟨_, _, rfl, h81, h82⟩ := Cs_cons h80
  cases h81
  obtain ⟨_, _, rfl, h83, h84⟩ := Cs_cons h82
  obtain ⟨z85, f86, e87, rfl, h88⟩ := h83
  obtain ⟨_, _, rfl, h89, h90⟩ := Cs_cons h84
  obtain ⟨z91, f92, e93, rfl, h94⟩ := h89
  obtain ⟨_, _, rfl, h95, h96⟩ := Cs_cons h90
  obtain ⟨z97, f98, e99, rfl, h100⟩ := h95
  obtain ⟨_, _, rfl, h101, h102⟩ := Cs_cons h96
  obtain ⟨z103, f104, e105, rfl, h106⟩ := h101
  obtain ⟨_, _, rfl, h107, h108⟩ := Cs_cons h102
  obtain ⟨z109, f110, e111, rfl, h112⟩ := h107
  cases Cs_nil h108
  refine AOps.allocP rfl rfl rfl rfl ⟨rfl, rfl⟩ rfl ?_
  refine AOps.stP (v := (AV.agg [(AV.int .i64 y75.Checker.Stack), (AV.int .i64 y75.Checker.Start), (AV.sl z85 f86 e87), (AV.sl z91 f92 e93), (AV.sl z97 f98 e99), (AV.sl z103 f104 e105), (AV.sl z109 f110 e111)])) rfl rfl rfl rfl rfl rfl rfl rfl rfl (lt_b rfl) rfl ?_
  refine AOps.nilR ?_
  refine AW.seq ?_
  refine AW.region ?_
  refine AOps.ldE (v := (AV.agg [(AV.int .i64 y75.Checker.Stack), (AV.int .i64 y75.Checker.Start), (AV.sl z85 f86 e87), (AV.sl z91 f92 e93), (AV.sl z97 f98 e99), (AV.sl z103 f104 e105), (AV.sl z109 f110 e111)])) rfl rfl rfl rfl rfl rfl ?_
  obtain ⟨y114, h115, h⟩ := obind h
  refine AOps.callP (g := 22) (args := [(AV.agg [(AV.int .i64 y75.Checker.Stack), (AV.int .i64 y75.Checker.Start), (AV.sl z85 f86 e87), (AV.sl z91 f92 e93), (AV.sl z97 f98 e99), (AV.sl z103 f104 e105), (AV.sl z109 f110 e111)])]) (p := (fun x => rT [rS x.1, (rI .i64) x.2]) y114) rfl rfl rfl (impl_WholeOf_ok h88 h94 h100 h106 h112 h115 hWF) ?_
  intro _ o122 h116
  obtain ⟨_, rfl, h117⟩ := h116
  obtain ⟨_, _, rfl, h118, h119⟩ := Cs_cons h117
  cases h118
  obtain ⟨_, _, rfl, h120, h121⟩ := Cs_cons h119
  cases h120
  cases Cs_nil h121
  refine AOps.pureR rfl rfl rfl rfl rfl (rfl : _ = (AV.tup [(AV.str y114.1), (AV.int .i64 y114.2)])) ?_
  refine AOps.pureR rfl rfl rfl rfl rfl (rfl : _ = (AV.str y114.1)) ?_
  refine AOps.pureR rfl rfl rfl rfl rfl (rfl : _ = (AV.int .i64 y114.2)) ?_
  refine AOps.assignR rfl rfl rfl (rfl : _ = (AV.str y114.1)) rfl ?_
  refine AOps.assignR rfl rfl rfl (rfl : _ = (AV.int .i64 y114.2)) rfl ?_
  refine AOps.nilR ?_
  refine AW.seq ?_
  refine AW.seq ?_
  refine AW.region ?_
  refine AOps.pureR rfl rfl rfl rfl rfl (rfl : _ = (AV.str y114.1)) ?_
  refine AOps.pureR rfl rfl rfl rfl rfl (rfl : _ = (AV.str y66.1)) ?_
  refine AOps.pureR rfl rfl rfl rfl rfl (rfl : _ = (AV.bool (!(y114.1 == y66.1)))) ?_
  refine AOps.pureR rfl rfl rfl rfl rfl (rfl : _ = (AV.bool (!(y114.1 == y66.1)))) ?_
  refine AOps.split 4 (fun f' => ∃ tm' os', f' = ⟨updL tm' [(1, (AV.eptr [(AV.int .i64 aV1.Checker.Stack), (AV.int .i64 aV1.Checker.Start), (AV.sl z2 f3 e4), (AV.sl z6 f7 e8), (AV.sl z10 f11 e12), (AV.sl z14 f15 e16), (AV.sl z18 f19 e20)] 0)), (6, (AV.eptr [(AV.int .i64 y75.Checker.Stack), (AV.int .i64 y75.Checker.Start), (AV.sl z85 f86 e87), (AV.sl z91 f92 e93), (AV.sl z97 f98 e99), (AV.sl z103 f104 e105), (AV.sl z109 f110 e111)] 0)), (34, (AV.bool ((!(y114.1 == y66.1)) || (y114.2 != y66.2))))], updL os' [], { s with lo := s.n }⟩) ?_ ?_
  · rcases Bool.eq_false_or_eq_true (!(y114.1 == y66.1)) with hc123 | hc123
    · refine AOps.know (d := 30) rfl hc123 ?_
      refine AOps.skipR rfl rfl ?_
      refine AOps.skipR rfl rfl ?_
      refine AOps.skipR rfl rfl ?_
      refine AOps.pureR rfl rfl rfl rfl rfl (rfl : _ = (AV.bool true)) ?_
      refine AOps.resR [(1, (AV.eptr [(AV.int .i64 aV1.Checker.Stack), (AV.int .i64 aV1.Checker.Start), (AV.sl z2 f3 e4), (AV.sl z6 f7 e8), (AV.sl z10 f11 e12), (AV.sl z14 f15 e16), (AV.sl z18 f19 e20)] 0)), (6, (AV.eptr [(AV.int .i64 y75.Checker.Stack), (AV.int .i64 y75.Checker.Start), (AV.sl z85 f86 e87), (AV.sl z91 f92 e93), (AV.sl z97 f98 e99), (AV.sl z103 f104 e105), (AV.sl z109 f110 e111)] 0)), (34, (AV.bool ((!(y114.1 == y66.1)) || (y114.2 != y66.2))))] [] ?_ ?_ _ ⟨_, _, rfl⟩
      · exact ⟨rfl, rfl, congrArg AV.bool (or_t hc123), trivial⟩
      exact trivial
    · refine AOps.know (d := 30) rfl hc123 ?_
      refine AOps.pureR rfl rfl rfl rfl rfl (rfl : _ = (AV.int .i64 y114.2)) ?_
      refine AOps.pureR rfl rfl rfl rfl rfl (rfl : _ = (AV.int .i64 y66.2)) ?_
      refine AOps.pureR rfl rfl rfl rfl rfl (rfl : _ = (AV.bool (y114.2 != y66.2))) ?_
      refine AOps.pureR rfl rfl rfl rfl rfl (rfl : _ = (AV.bool (y114.2 != y66.2))) ?_
      refine AOps.resR [(1, (AV.eptr [(AV.int .i64 aV1.Checker.Stack), (AV.int .i64 aV1.Checker.Start), (AV.sl z2 f3 e4), (AV.sl z6 f7 e8), (AV.sl z10 f11 e12), (AV.sl z14 f15 e16), (AV.sl z18 f19 e20)] 0)), (6, (AV.eptr [(AV.int .i64 y75.Checker.Stack), (AV.int .i64 y75.Checker.Start), (AV.sl z85 f86 e87), (AV.sl z91 f92 e93), (AV.sl z97 f98 e99), (AV.sl z103 f104 e105), (AV.sl z109 f110 e111)] 0)), (34, (AV.bool ((!(y114.1 == y66.1)) || (y114.2 != y66.2))))] [] ?_ ?_ _ ⟨_, _, rfl⟩
      · exact ⟨rfl, rfl, congrArg AV.bool (or_f hc123), trivial⟩
      exact trivial
  rintro _ ⟨tm, os, rfl⟩
  refine AOps.nilR ?_
  rcases oite h with ⟨hc124, h⟩ | ⟨hc124, h⟩
  · refine AW.condT (congrArg AV.bool hc124) ?_
    refine AW.seq ?_
    refine AW.region ?_
    refine AOps.pureR rfl rfl rfl rfl rfl (rfl : _ = (AV.bool false)) ?_
    refine AOps.nilR ?_
    cases h
    exact AW.ret ⟨rfl, _, _, rfl, rfl⟩
  refine AW.condF (congrArg AV.bool hc124) ?_
  refine AW.skip ?_
  refine AW.seq ?_
  refine AW.seq ?_
  refine AW.region ?_
  refine AOps.ldE (v := (AV.agg [(AV.int .i64 y75.Checker.Stack), (AV.int .i64 y75.Checker.Start), (AV.sl z85 f86 e87), (AV.sl z91 f92 e93), (AV.sl z97 f98 e99), (AV.sl z103 f104 e105), (AV.sl z109 f110 e111)])) rfl rfl rfl rfl rfl rfl ?_
  refine AOps.ldE (v := (AV.agg [(AV.int .i64 aV1.Checker.Stack), (AV.int .i64 aV1.Checker.Start), (AV.sl z2 f3 e4), (AV.sl z6 f7 e8), (AV.sl z10 f11 e12), (AV.sl z14 f15 e16), (AV.sl z18 f19 e20)])) rfl rfl rfl rfl rfl rfl ?_
  obtain ⟨y125, h126, h⟩ := obind h
  refine AOps.callDP (g := 18) (args := [(AV.agg [(AV.int .i64 aV1.Checker.Stack), (AV.int .i64 aV1.Checker.Start), (AV.sl z2 f3 e4), (AV.sl z6 f7 e8), (AV.sl z10 f11 e12), (AV.sl z14 f15 e16), (AV.sl z18 f19 e20)])]) (p := (rStream) y125) rfl rfl rfl (laws_toStream_ok h5 h9 h13 h17 h21 h126 hWF.still) (fun v hv => Nice.pure (k := FINK) (p := (rStream) y125) (.A (.cons .I (.cons .I (.cons (.L fun _ => .B) (.cons (.L fun _ => (.L fun _ => (.A (.cons .I (.cons .I .nil))))) (.cons (.L fun _ => (.L fun _ => (.L fun _ => .I))) (.cons (.L fun _ => (.L fun _ => .I)) (.cons (.L fun _ => .S) .nil)))))))) _ v hv) ?_
  intro _ o163 h127
  obtain ⟨_, rfl, h128⟩ := h127
  obtain ⟨_, _, rfl, h129, h130⟩ := Cs_cons h128
  cases h129
  obtain ⟨_, _, rfl, h131, h132⟩ := Cs_cons h130
  cases h131
  obtain ⟨_, _, rfl, h133, h134⟩ := Cs_cons h132
  obtain ⟨z135, f136, e137, rfl, h138⟩ := h133
  obtain ⟨_, _, rfl, h139, h140⟩ := Cs_cons h134
  obtain ⟨z141, f142, e143, rfl, h144⟩ := h139
  obtain ⟨_, _, rfl, h145, h146⟩ := Cs_cons h140
  obtain ⟨z147, f148, e149, rfl, h150⟩ := h145
  obtain ⟨_, _, rfl, h151, h152⟩ := Cs_cons h146
  obtain ⟨z153, f154, e155, rfl, h156⟩ := h151
  obtain ⟨_, _, rfl, h157, h158⟩ := Cs_cons h152
  obtain ⟨z159, f160, e161, rfl, h162⟩ := h157
  cases Cs_nil h158
  obtain ⟨y164, h165, h⟩ := obind h
  refine AOps.callDP (g := 20) (args := [(AV.agg [(AV.int .i64 y75.Checker.Stack), (AV.int .i64 y75.Checker.Start), (AV.sl z85 f86 e87), (AV.sl z91 f92 e93), (AV.sl z97 f98 e99), (AV.sl z103 f104 e105), (AV.sl z109 f110 e111)]), (AV.agg [(AV.int .i64 y125.Checker.Stack), (AV.int .i64 y125.Checker.Start), (AV.sl z135 f136 e137), (AV.sl z141 f142 e143), (AV.sl z147 f148 e149), (AV.sl z153 f154 e155), (AV.sl z159 f160 e161)])]) (p := (rB) y164) rfl rfl rfl (laws_eqStream_ok h88 h94 h100 h106 h112 h138 h144 h150 h156 h162 h165 hWF.still) (fun v hv => Nice.pure (k := FINK) (p := (rB) y164) .B _ v hv) ?_
  intro _ o167 h166
  cases h166
  refine AOps.pureR rfl rfl rfl rfl rfl (rfl : _ = (AV.bool (!y164))) ?_
  refine AOps.nilR ?_
  rcases oite h with ⟨hc168, h⟩ | ⟨hc168, h⟩
  · refine AW.condT (congrArg AV.bool hc168) ?_
    refine AW.seq ?_
    refine AW.region ?_
    refine AOps.pureR rfl rfl rfl rfl rfl (rfl : _ = (AV.bool false)) ?_
    refine AOps.nilR ?_
    cases h
    exact AW.ret ⟨rfl, _, _, rfl, rfl⟩
  refine AW.condF (congrArg AV.bool hc168) ?_
  refine AW.skip ?_
  refine AW.seq ?_
  refine AW.region ?_
  refine AOps.pureR rfl rfl rfl rfl rfl (rfl : _ = (AV.bool true)) ?_
  refine AOps.nilR ?_
  cases h
  exact AW.ret ⟨rfl, _, _, rfl, rfl⟩
end Go.Proofs.Ytolbkojnnofnaaa.law
