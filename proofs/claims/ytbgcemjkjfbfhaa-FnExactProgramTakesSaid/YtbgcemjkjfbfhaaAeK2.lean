import Derived.Test.YtbgcemjkjfbfhaaAeD
import Derived.Test.YtbgcemjkjfbfhaaAe4
import Derived.Test.YtbgcemjkjfbfhaaAeK1
set_option linter.unusedVariables false
set_option linter.unusedSimpArgs false
namespace Go.Proofs.Ytbgcemjkjfbfhaa.law
open Go Go.Proofs Ae
set_option maxRecDepth 100000
set_option linter.unusedVariables false
theorem impl_ValidProgram_1_1_ok {l1 : Link} {c2 : Module} {c7 : Int} {z3 : Nat} {f4 : Bool} {e5 : List AV} {s : St} (h6 : LR rLink 4 c2.Links z3 e5) {r : Bool} (h : impl_ValidProgram_1_1 l1 c2 c7 = some r) (hs : WF s) : ACall Cf 33 [(AV.agg [(AV.int .i64 l1.From), (AV.int .i64 l1.To), (AV.str l1.Act), (AV.int .i64 l1.Module)]), (AV.eptr [(AV.int .i64 c2.Nodes), (AV.sl z3 f4 e5)] 0), (AV.eptr [(AV.int .i64 c7)] 0)] s fun v _ s' => (rB) r v ∧ s' = s := by
 refine ACall.pure rfl rfl rfl .B ?_
 have hWF := hs.lo'
 unfold impl_ValidProgram_1_1 at h
 refine AW.sr ?_
 refine AOps.makeR rfl rfl rfl rfl rfl rfl (rfl : _ = (AV.eptr [(AV.int .i64 l1.From), (AV.int .i64 l1.To), (AV.str l1.Act), (AV.int .i64 l1.Module)] 0)) ?_
 refine AOps.p rfl (rfl : _ = (AV.bool false)) ?_
 refine AOps.nilR ?_
 refine AW.seq ?_
 refine AW.sr ?_
 refine AOps.p rfl (rfl : _ = (AV.eptr [(AV.int .i64 l1.From), (AV.int .i64 l1.To), (AV.str l1.Act), (AV.int .i64 l1.Module)] 0)) ?_
 refine AOps.ldE (v := (AV.int .i64 l1.From)) rfl rfl rfl rfl rfl rfl ?_
 refine AOps.p rfl (rfl : _ = (AV.eptr [(AV.int .i64 c2.Nodes), (AV.sl z3 f4 e5)] 0)) ?_
 refine AOps.ldE (v := (AV.int .i64 c2.Nodes)) rfl rfl rfl rfl rfl rfl ?_
 refine AOps.p rfl (rfl : _ = (AV.int .i64 (IntKind.wrap .i64 (c2.Nodes - 1)))) ?_
 obtain ⟨y8, h9, h⟩ := obind h
 refine AOps.callP (g := 29) (args := [(AV.int .i64 l1.From), (AV.int .i64 0), (AV.int .i64 (IntKind.wrap .i64 (c2.Nodes - 1)))]) (p := (rB) y8) rfl rfl rfl (impl_within_ok  h9 hWF) ?_
 intro _ o11 h10
 cases h10
 refine AOps.p rfl (rfl : _ = (AV.bool (!y8))) ?_
 refine AOps.p rfl (rfl : _ = (AV.bool (!y8))) ?_
 obtain ⟨b13, hb, h⟩ := obind h
 refine AOps.split 8 (fun f' => ∃ tm' os', f' = ⟨updL tm' [(2, (AV.eptr [(AV.int .i64 c7)] 0)), (3, (AV.eptr [(AV.int .i64 l1.From), (AV.int .i64 l1.To), (AV.str l1.Act), (AV.int .i64 l1.Module)] 0)), (20, (AV.bool b13))], updL os' [], { s with lo := s.n }⟩) ?_ ?_
 ·rcases oite hb with ⟨hc12, hb⟩ | ⟨hc12, hb⟩
  ·refine AOps.know (d := 12) rfl hc12 ?_
   refine AOps.skipR rfl rfl ?_
   refine AOps.skipR rfl rfl ?_
   refine AOps.skipR rfl rfl ?_
   refine AOps.skipR rfl rfl ?_
   refine AOps.skipR rfl rfl ?_
   refine AOps.skipR rfl rfl ?_
   refine AOps.skipR rfl rfl ?_
   refine AOps.p rfl (rfl : _ = (AV.bool true)) ?_
   refine AOps.resR [(2, (AV.eptr [(AV.int .i64 c7)] 0)), (3, (AV.eptr [(AV.int .i64 l1.From), (AV.int .i64 l1.To), (AV.str l1.Act), (AV.int .i64 l1.Module)] 0)), (20, (AV.bool b13))] [] ?_ ?_ _ ⟨_, _, rfl⟩
   ·exact ⟨rfl, rfl, congrArg AV.bool (Option.some.inj hb), trivial⟩
   exact trivial
  ·have h := hb
   refine AOps.know (d := 12) rfl hc12 ?_
   refine AOps.p rfl (rfl : _ = (AV.eptr [(AV.int .i64 l1.From), (AV.int .i64 l1.To), (AV.str l1.Act), (AV.int .i64 l1.Module)] 1)) ?_
   refine AOps.ldE (v := (AV.int .i64 l1.To)) rfl rfl rfl rfl rfl rfl ?_
   refine AOps.p rfl (rfl : _ = (AV.eptr [(AV.int .i64 c2.Nodes), (AV.sl z3 f4 e5)] 0)) ?_
   refine AOps.ldE (v := (AV.int .i64 c2.Nodes)) rfl rfl rfl rfl rfl rfl ?_
   refine AOps.p rfl (rfl : _ = (AV.int .i64 (IntKind.wrap .i64 (c2.Nodes - 1)))) ?_
   obtain ⟨y14, h15, h⟩ := obind h
   refine AOps.callP (g := 29) (args := [(AV.int .i64 l1.To), (AV.int .i64 0), (AV.int .i64 (IntKind.wrap .i64 (c2.Nodes - 1)))]) (p := (rB) y14) rfl rfl rfl (impl_within_ok  h15 hWF) ?_
   intro _ o17 h16
   cases h16
   refine AOps.p rfl (rfl : _ = (AV.bool (!y14))) ?_
   refine AOps.p rfl (rfl : _ = (AV.bool (!y14))) ?_
   refine AOps.resR [(2, (AV.eptr [(AV.int .i64 c7)] 0)), (3, (AV.eptr [(AV.int .i64 l1.From), (AV.int .i64 l1.To), (AV.str l1.Act), (AV.int .i64 l1.Module)] 0)), (20, (AV.bool b13))] [] ?_ ?_ _ ⟨_, _, rfl⟩
   ·exact ⟨rfl, rfl, congrArg AV.bool (Option.some.inj h), trivial⟩
   exact trivial
 rintro _ ⟨tm, os, rfl⟩
 refine AOps.p rfl (rfl : _ = (AV.bool b13)) ?_
 obtain ⟨b19, hb, h⟩ := obind h
 refine AOps.split 7 (fun f' => ∃ tm' os', f' = ⟨updL tm' [(3, (AV.eptr [(AV.int .i64 l1.From), (AV.int .i64 l1.To), (AV.str l1.Act), (AV.int .i64 l1.Module)] 0)), (28, (AV.bool b19))], updL os' [], { s with lo := s.n }⟩) ?_ ?_
 ·rcases oite hb with ⟨hc18, hb⟩ | ⟨hc18, hb⟩
  ·refine AOps.know (d := 21) rfl hc18 ?_
   refine AOps.skipR rfl rfl ?_
   refine AOps.skipR rfl rfl ?_
   refine AOps.skipR rfl rfl ?_
   refine AOps.skipR rfl rfl ?_
   refine AOps.skipR rfl rfl ?_
   refine AOps.skipR rfl rfl ?_
   refine AOps.p rfl (rfl : _ = (AV.bool true)) ?_
   refine AOps.resR [(3, (AV.eptr [(AV.int .i64 l1.From), (AV.int .i64 l1.To), (AV.str l1.Act), (AV.int .i64 l1.Module)] 0)), (28, (AV.bool b19))] [] ?_ ?_ _ ⟨_, _, rfl⟩
   ·exact ⟨rfl, congrArg AV.bool (Option.some.inj hb), trivial⟩
   exact trivial
  ·have h := hb
   refine AOps.know (d := 21) rfl hc18 ?_
   refine AOps.p rfl (rfl : _ = (AV.eptr [(AV.int .i64 l1.From), (AV.int .i64 l1.To), (AV.str l1.Act), (AV.int .i64 l1.Module)] 3)) ?_
   refine AOps.ldE (v := (AV.int .i64 l1.Module)) rfl rfl rfl rfl rfl rfl ?_
   refine AOps.ldE (v := (AV.int .i64 c7)) rfl rfl rfl rfl rfl rfl ?_
   refine AOps.p rfl (rfl : _ = (AV.int .i64 (IntKind.wrap .i64 (c7 - 1)))) ?_
   obtain ⟨y20, h21, h⟩ := obind h
   refine AOps.callP (g := 29) (args := [(AV.int .i64 l1.Module), (AV.int .i64 0), (AV.int .i64 (IntKind.wrap .i64 (c7 - 1)))]) (p := (rB) y20) rfl rfl rfl (impl_within_ok  h21 hWF) ?_
   intro _ o23 h22
   cases h22
   refine AOps.p rfl (rfl : _ = (AV.bool (!y20))) ?_
   refine AOps.p rfl (rfl : _ = (AV.bool (!y20))) ?_
   refine AOps.resR [(3, (AV.eptr [(AV.int .i64 l1.From), (AV.int .i64 l1.To), (AV.str l1.Act), (AV.int .i64 l1.Module)] 0)), (28, (AV.bool b19))] [] ?_ ?_ _ ⟨_, _, rfl⟩
   ·exact ⟨rfl, congrArg AV.bool (Option.some.inj h), trivial⟩
   exact trivial
 rintro _ ⟨tm, os, rfl⟩
 refine AOps.nilR ?_
 rcases oite h with ⟨hc24, h⟩ | ⟨hc24, h⟩
 ·refine AW.condT (congrArg AV.bool hc24) ?_
  refine AW.sr ?_
  refine AOps.p rfl (rfl : _ = (AV.bool true)) ?_
  refine AOps.nilR ?_
  cases h
  exact AW.ret ⟨rfl, _, _, rfl, rfl⟩
 refine AW.condF (congrArg AV.bool hc24) ?_
 refine AW.skip ?_
 refine AW.sr ?_
 refine AOps.p rfl (rfl : _ = (AV.eptr [(AV.int .i64 l1.From), (AV.int .i64 l1.To), (AV.str l1.Act), (AV.int .i64 l1.Module)] 2)) ?_
 refine AOps.ldE (v := (AV.str l1.Act)) rfl rfl rfl rfl rfl rfl ?_
 obtain ⟨y25, h26, h⟩ := obind h
 refine AOps.callP (g := 34) (args := [(AV.str l1.Act)]) (p := (rB) y25) rfl rfl rfl (impl_isBrackets_ok  h26 hWF) ?_
 intro _ o28 h27
 cases h27
 refine AOps.p rfl (rfl : _ = (AV.bool (!y25))) ?_
 refine AOps.p rfl (rfl : _ = (AV.bool (!y25))) ?_
 obtain ⟨b30, hb, h⟩ := obind h
 refine AOps.split 10 (fun f' => ∃ tm' os', f' = ⟨updL tm' [(43, (AV.bool b30))], updL os' [], { s with lo := s.n }⟩) ?_ ?_
 ·rcases oite hb with ⟨hc29, hb⟩ | ⟨hc29, hb⟩
  ·have h := hb
   refine AOps.know (d := 33) rfl hc29 ?_
   refine AOps.p rfl (rfl : _ = (AV.eptr [(AV.int .i64 l1.From), (AV.int .i64 l1.To), (AV.str l1.Act), (AV.int .i64 l1.Module)] 2)) ?_
   refine AOps.ldE (v := (AV.str l1.Act)) rfl rfl rfl rfl rfl rfl ?_
   obtain ⟨y31, h32, h⟩ := obind h
   refine AOps.callP (g := 35) (args := [(AV.str l1.Act)]) (p := (rB) y31) rfl rfl rfl (impl_isLetter_ok  h32 hWF) ?_
   intro _ o34 h33
   cases h33
   refine AOps.p rfl (rfl : _ = (AV.bool (!y31))) ?_
   refine AOps.p rfl (rfl : _ = (AV.bool (!y31))) ?_
   refine AOps.split 4 (fun f' => ∃ tm' os', f' = ⟨updL tm' [(33, (AV.bool true)), (42, (AV.bool ((!y31) || (l1.Module != 0))))], updL os' [], { s with lo := s.n }⟩) ?_ ?_
   ·rcases Bool.eq_false_or_eq_true (!y31) with hc35 | hc35
    ·refine AOps.know (d := 38) rfl hc35 ?_
     refine AOps.skipR rfl rfl ?_
     refine AOps.skipR rfl rfl ?_
     refine AOps.skipR rfl rfl ?_
     refine AOps.p rfl (rfl : _ = (AV.bool true)) ?_
     refine AOps.resR [(33, (AV.bool true)), (42, (AV.bool ((!y31) || (l1.Module != 0))))] [] ?_ ?_ _ ⟨_, _, rfl⟩
     ·exact ⟨rfl, congrArg AV.bool (or_t hc35), trivial⟩
     exact trivial
    ·refine AOps.know (d := 38) rfl hc35 ?_
     refine AOps.p rfl (rfl : _ = (AV.eptr [(AV.int .i64 l1.From), (AV.int .i64 l1.To), (AV.str l1.Act), (AV.int .i64 l1.Module)] 3)) ?_
     refine AOps.ldE (v := (AV.int .i64 l1.Module)) rfl rfl rfl rfl rfl rfl ?_
     refine AOps.p rfl (rfl : _ = (AV.bool (l1.Module != 0))) ?_
     refine AOps.p rfl (rfl : _ = (AV.bool (l1.Module != 0))) ?_
     refine AOps.resR [(33, (AV.bool true)), (42, (AV.bool ((!y31) || (l1.Module != 0))))] [] ?_ ?_ _ ⟨_, _, rfl⟩
     ·exact ⟨rfl, congrArg AV.bool (or_f hc35), trivial⟩
     exact trivial
   rintro _ ⟨tm, os, rfl⟩
   refine AOps.p rfl (rfl : _ = (AV.bool ((!y31) || (l1.Module != 0)))) ?_
   refine AOps.resR [(43, (AV.bool b30))] [] ?_ ?_ _ ⟨_, _, rfl⟩
   ·exact ⟨congrArg AV.bool (Option.some.inj h), trivial⟩
   exact trivial
  ·refine AOps.know (d := 33) rfl hc29 ?_
   refine AOps.skipR rfl rfl ?_
   refine AOps.skipR rfl rfl ?_
   refine AOps.skipR rfl rfl ?_
   refine AOps.skipR rfl rfl ?_
   refine AOps.skipR rfl rfl ?_
   refine AOps.skipR rfl rfl ?_
   refine AOps.skipR rfl rfl ?_
   refine AOps.skipR rfl rfl ?_
   refine AOps.skipR rfl rfl ?_
   refine AOps.p rfl (rfl : _ = (AV.bool false)) ?_
   refine AOps.resR [(43, (AV.bool b30))] [] ?_ ?_ _ ⟨_, _, rfl⟩
   ·exact ⟨congrArg AV.bool (Option.some.inj hb), trivial⟩
   exact trivial
 rintro _ ⟨tm, os, rfl⟩
 refine AOps.assignR rfl rfl rfl (rfl : _ = (AV.bool b30)) rfl ?_
 refine AOps.nilR ?_
 cases h
 exact AW.ret ⟨rfl, _, _, rfl, rfl⟩
theorem impl_ValidProgram_1_ok {m1 : Module} {c6 : Int} {z2 : Nat} {f3 : Bool} {e4 : List AV} {s : St} (h5 : LR rLink 4 m1.Links z2 e4) {r : Bool} (h : impl_ValidProgram_1 m1 c6 = some r) (hs : WF s) : ACall Cf 31 [(AV.agg [(AV.int .i64 m1.Nodes), (AV.sl z2 f3 e4)]), (AV.eptr [(AV.int .i64 c6)] 0)] s fun v _ s' => (rB) r v ∧ s' = s := by
 refine ACall.pure rfl rfl rfl .B ?_
 have hWF := hs.lo'
 unfold impl_ValidProgram_1 at h
 refine AW.sr ?_
 refine AOps.makeR rfl rfl rfl rfl rfl rfl (rfl : _ = (AV.eptr [(AV.int .i64 m1.Nodes), (AV.sl z2 f3 e4)] 0)) ?_
 refine AOps.p rfl (rfl : _ = (AV.bool false)) ?_
 refine AOps.nilR ?_
 refine AW.sr ?_
 refine AOps.p rfl (rfl : _ = (AV.eptr [(AV.int .i64 m1.Nodes), (AV.sl z2 f3 e4)] 0)) ?_
 refine AOps.ldE (v := (AV.int .i64 m1.Nodes)) rfl rfl rfl rfl rfl rfl ?_
 obtain ⟨y7, h8, h⟩ := obind h
 refine AOps.callP (g := 29) (args := [(AV.int .i64 m1.Nodes), (AV.int .i64 1), (AV.int .i64 8)]) (p := (rB) y7) rfl rfl rfl (impl_within_ok  h8 hWF) ?_
 intro _ o10 h9
 cases h9
 refine AOps.p rfl (rfl : _ = (AV.bool (!y7))) ?_
 refine AOps.p rfl (rfl : _ = (AV.bool (!y7))) ?_
 refine AOps.split 5 (fun f' => ∃ tm' os', f' = ⟨updL tm' [(1, (AV.eptr [(AV.int .i64 c6)] 0)), (2, (AV.eptr [(AV.int .i64 m1.Nodes), (AV.sl z2 f3 e4)] 0)), (13, (AV.bool ((!y7) || (decide (((m1.Links.length : Int) : Int) > 12)))))], updL os' [], { s with lo := s.n }⟩) ?_ ?_
 ·rcases Bool.eq_false_or_eq_true (!y7) with hc11 | hc11
  ·refine AOps.know (d := 8) rfl hc11 ?_
   refine AOps.skipR rfl rfl ?_
   refine AOps.skipR rfl rfl ?_
   refine AOps.skipR rfl rfl ?_
   refine AOps.skipR rfl rfl ?_
   refine AOps.p rfl (rfl : _ = (AV.bool true)) ?_
   refine AOps.resR [(1, (AV.eptr [(AV.int .i64 c6)] 0)), (2, (AV.eptr [(AV.int .i64 m1.Nodes), (AV.sl z2 f3 e4)] 0)), (13, (AV.bool ((!y7) || (decide (((m1.Links.length : Int) : Int) > 12)))))] [] ?_ ?_ _ ⟨_, _, rfl⟩
   ·exact ⟨rfl, rfl, congrArg AV.bool (or_t hc11), trivial⟩
   exact trivial
  ·refine AOps.know (d := 8) rfl hc11 ?_
   refine AOps.p rfl (rfl : _ = (AV.eptr [(AV.int .i64 m1.Nodes), (AV.sl z2 f3 e4)] 1)) ?_
   refine AOps.ldE (v := (AV.sl z2 f3 e4)) rfl rfl rfl rfl rfl rfl ?_
   refine AOps.p rfl (len_eq h5) ?_
   refine AOps.p rfl (rfl : _ = (AV.bool (decide (((m1.Links.length : Int) : Int) > 12)))) ?_
   refine AOps.p rfl (rfl : _ = (AV.bool (decide (((m1.Links.length : Int) : Int) > 12)))) ?_
   refine AOps.resR [(1, (AV.eptr [(AV.int .i64 c6)] 0)), (2, (AV.eptr [(AV.int .i64 m1.Nodes), (AV.sl z2 f3 e4)] 0)), (13, (AV.bool ((!y7) || (decide (((m1.Links.length : Int) : Int) > 12)))))] [] ?_ ?_ _ ⟨_, _, rfl⟩
   ·exact ⟨rfl, rfl, congrArg AV.bool (or_f hc11), trivial⟩
   exact trivial
 rintro _ ⟨tm, os, rfl⟩
 refine AOps.p rfl (rfl : _ = (AV.bool ((!y7) || (decide (((m1.Links.length : Int) : Int) > 12))))) ?_
 obtain ⟨b13, hb, h⟩ := obind h
 refine AOps.split 5 (fun f' => ∃ tm' os', f' = ⟨updL tm' [(19, (AV.bool b13))], updL os' [], { s with lo := s.n }⟩) ?_ ?_
 ·rcases oite hb with ⟨hc12, hb⟩ | ⟨hc12, hb⟩
  ·refine AOps.know (d := 14) rfl hc12 ?_
   refine AOps.skipR rfl rfl ?_
   refine AOps.skipR rfl rfl ?_
   refine AOps.skipR rfl rfl ?_
   refine AOps.skipR rfl rfl ?_
   refine AOps.p rfl (rfl : _ = (AV.bool true)) ?_
   refine AOps.resR [(19, (AV.bool b13))] [] ?_ ?_ _ ⟨_, _, rfl⟩
   ·exact ⟨congrArg AV.bool (Option.some.inj hb), trivial⟩
   exact trivial
  ·have h := hb
   refine AOps.know (d := 14) rfl hc12 ?_
   refine AOps.p rfl (rfl : _ = (AV.eptr [(AV.int .i64 m1.Nodes), (AV.sl z2 f3 e4)] 1)) ?_
   refine AOps.ldE (v := (AV.sl z2 f3 e4)) rfl rfl rfl rfl rfl rfl ?_
   refine AOps.p rfl (rfl : _ = (AV.fn 33 [(AV.eptr [(AV.int .i64 m1.Nodes), (AV.sl z2 f3 e4)] 0), (AV.eptr [(AV.int .i64 c6)] 0)])) ?_
   obtain ⟨y23, h24, h⟩ := obind h
   refine AOps.callP (g := 32) (args := [(AV.sl z2 f3 e4), (AV.fn 33 [(AV.eptr [(AV.int .i64 m1.Nodes), (AV.sl z2 f3 e4)] 0), (AV.eptr [(AV.int .i64 c6)] 0)])]) (p := (rB) y23) rfl rfl rfl (slices_ContainsFunc_simpl_Link_impl_Link_ok h5 (by intro x vs y hc hx s hs; obtain ⟨_, _, rfl, hv0, hd0⟩ := Cs_cons hc; obtain ⟨_, rfl, h14⟩ := hv0; obtain ⟨_, _, rfl, h15, h16⟩ := Cs_cons h14; cases h15; obtain ⟨_, _, rfl, h17, h18⟩ := Cs_cons h16; cases h17; obtain ⟨_, _, rfl, h19, h20⟩ := Cs_cons h18; cases h19; obtain ⟨_, _, rfl, h21, h22⟩ := Cs_cons h20; cases h21; cases Cs_nil h22; cases Cs_nil hd0; exact impl_ValidProgram_1_1_ok h5 hx hs) h24 hWF) ?_
   intro _ o26 h25
   cases h25
   refine AOps.p rfl (rfl : _ = (AV.bool y23)) ?_
   refine AOps.resR [(19, (AV.bool b13))] [] ?_ ?_ _ ⟨_, _, rfl⟩
   ·exact ⟨congrArg AV.bool (Option.some.inj h), trivial⟩
   exact trivial
 rintro _ ⟨tm, os, rfl⟩
 refine AOps.assignR rfl rfl rfl (rfl : _ = (AV.bool b13)) rfl ?_
 refine AOps.nilR ?_
 cases h
 exact AW.ret ⟨rfl, _, _, rfl, rfl⟩
theorem impl_ValidProgram_ok {p1 : ProgramT} {z2 : Nat} {f3 : Bool} {e4 : List AV} {s : St} (h5 : LR rModule 2 p1.Modules z2 e4) {r : Bool} (h : impl_ValidProgram p1 = some r) (hs : WF s) : ACall Cf 14 [(AV.agg [(AV.sl z2 f3 e4)])] s fun v _ s' => (rB) r v ∧ s' = s := by
 refine ACall.pure rfl rfl rfl .B ?_
 have hWF := hs.lo'
 unfold impl_ValidProgram at h
 refine AW.sr ?_
 refine AOps.makeR rfl rfl rfl rfl rfl rfl (rfl : _ = (AV.eptr [(AV.sl z2 f3 e4)] 0)) ?_
 refine AOps.p rfl (rfl : _ = (AV.bool false)) ?_
 refine AOps.nilR ?_
 refine AW.sr ?_
 refine AOps.p rfl (rfl : _ = (AV.eptr [(AV.sl z2 f3 e4)] 0)) ?_
 refine AOps.ldE (v := (AV.sl z2 f3 e4)) rfl rfl rfl rfl rfl rfl ?_
 obtain ⟨y6, h7, h⟩ := obind h
 refine AOps.callP (g := 28) (args := [(AV.sl z2 f3 e4)]) (p := (rI .i64) y6) rfl rfl rfl (impl_size_impl_Module_ok h5 h7 hWF) ?_
 intro _ o9 h8
 cases h8
 refine AOps.allocP rfl rfl rfl rfl ⟨rfl, rfl⟩ rfl ?_
 refine AOps.stP (v := (AV.int .i64 y6)) rfl rfl rfl rfl rfl rfl rfl rfl rfl (lt_b rfl) rfl ?_
 refine AOps.nilR ?_
 refine AW.sr ?_
 refine AOps.ldE (v := (AV.int .i64 y6)) rfl rfl rfl rfl rfl rfl ?_
 obtain ⟨y10, h11, h⟩ := obind h
 refine AOps.callP (g := 29) (args := [(AV.int .i64 y6), (AV.int .i64 1), (AV.int .i64 4)]) (p := (rB) y10) rfl rfl rfl (impl_within_ok  h11 hWF) ?_
 intro _ o13 h12
 cases h12
 refine AOps.p rfl (rfl : _ = (AV.bool y10)) ?_
 obtain ⟨b15, hb, h⟩ := obind h
 refine AOps.split 6 (fun f' => ∃ tm' os', f' = ⟨updL tm' [(15, (AV.bool b15))], updL os' [], { s with lo := s.n }⟩) ?_ ?_
 ·rcases oite hb with ⟨hc14, hb⟩ | ⟨hc14, hb⟩
  ·have h := hb
   refine AOps.know (d := 9) rfl hc14 ?_
   refine AOps.p rfl (rfl : _ = (AV.eptr [(AV.sl z2 f3 e4)] 0)) ?_
   refine AOps.ldE (v := (AV.sl z2 f3 e4)) rfl rfl rfl rfl rfl rfl ?_
   refine AOps.p rfl (rfl : _ = (AV.fn 31 [(AV.eptr [(AV.int .i64 y6)] 0)])) ?_
   obtain ⟨y25, h26, h⟩ := obind h
   refine AOps.callP (g := 30) (args := [(AV.sl z2 f3 e4), (AV.fn 31 [(AV.eptr [(AV.int .i64 y6)] 0)])]) (p := (rB) y25) rfl rfl rfl (slices_ContainsFunc_simpl_Module_impl_Module_ok h5 (by intro x vs y hc hx s hs; obtain ⟨_, _, rfl, hv0, hd0⟩ := Cs_cons hc; obtain ⟨_, rfl, h16⟩ := hv0; obtain ⟨_, _, rfl, h17, h18⟩ := Cs_cons h16; cases h17; obtain ⟨_, _, rfl, h19, h20⟩ := Cs_cons h18; obtain ⟨z21, f22, e23, rfl, h24⟩ := h19; cases Cs_nil h20; cases Cs_nil hd0; exact impl_ValidProgram_1_ok h24 hx hs) h26 hWF) ?_
   intro _ o28 h27
   cases h27
   refine AOps.p rfl (rfl : _ = (AV.bool (!y25))) ?_
   refine AOps.p rfl (rfl : _ = (AV.bool (!y25))) ?_
   refine AOps.resR [(15, (AV.bool b15))] [] ?_ ?_ _ ⟨_, _, rfl⟩
   ·exact ⟨congrArg AV.bool (Option.some.inj h), trivial⟩
   exact trivial
  ·refine AOps.know (d := 9) rfl hc14 ?_
   refine AOps.skipR rfl rfl ?_
   refine AOps.skipR rfl rfl ?_
   refine AOps.skipR rfl rfl ?_
   refine AOps.skipR rfl rfl ?_
   refine AOps.skipR rfl rfl ?_
   refine AOps.p rfl (rfl : _ = (AV.bool false)) ?_
   refine AOps.resR [(15, (AV.bool b15))] [] ?_ ?_ _ ⟨_, _, rfl⟩
   ·exact ⟨congrArg AV.bool (Option.some.inj hb), trivial⟩
   exact trivial
 rintro _ ⟨tm, os, rfl⟩
 refine AOps.assignR rfl rfl rfl (rfl : _ = (AV.bool b15)) rfl ?_
 refine AOps.nilR ?_
 cases h
 exact AW.ret ⟨rfl, _, _, rfl, rfl⟩
theorem internal_stringslite_IndexByte_ok {s1 : List UInt8} {c2 : Int} {s : St} {r : Int} (h : internal_stringslite_IndexByte s1 c2 = some r) (hs : WF s) : ACall Cf 52 [(AV.str s1), (AV.int .u8 c2)] s fun v _ s' => (rI .i64) r v ∧ s' = s := by
 refine ACall.pure rfl rfl rfl .I ?_
 have hWF := hs.lo'
 unfold internal_stringslite_IndexByte at h
 refine AW.sr ?_
 refine AOps.p rfl (rfl : _ = (AV.int .i64 0)) ?_
 refine AOps.nilR ?_
 refine AW.sr ?_
 refine AOps.p rfl (rfl : _ = (AV.str s1)) ?_
 refine AOps.p rfl (rfl : _ = (AV.int .u8 c2)) ?_
 obtain ⟨y3, h4, h⟩ := obind h
 refine AOps.callP (g := 62) (args := [(AV.str s1), (AV.int .u8 c2)]) (p := (rI .i64) y3) rfl rfl rfl (ext_byte_ok h4 hWF) ?_
 intro _ o6 h5
 cases h5
 refine AOps.assignR rfl rfl rfl (rfl : _ = (AV.int .i64 y3)) rfl ?_
 refine AOps.nilR ?_
 cases h
 exact AW.ret ⟨rfl, _, _, rfl, rfl⟩
theorem strings_IndexByte_ok {s1 : List UInt8} {c2 : Int} {s : St} {r : Int} (h : strings_IndexByte s1 c2 = some r) (hs : WF s) : ACall Cf 36 [(AV.str s1), (AV.int .u8 c2)] s fun v _ s' => (rI .i64) r v ∧ s' = s := by
 refine ACall.pure rfl rfl rfl .I ?_
 have hWF := hs.lo'
 unfold strings_IndexByte at h
 refine AW.sr ?_
 refine AOps.p rfl (rfl : _ = (AV.int .i64 0)) ?_
 refine AOps.nilR ?_
 refine AW.sr ?_
 refine AOps.p rfl (rfl : _ = (AV.str s1)) ?_
 refine AOps.p rfl (rfl : _ = (AV.int .u8 c2)) ?_
 obtain ⟨y3, h4, h⟩ := obind h
 refine AOps.callP (g := 52) (args := [(AV.str s1), (AV.int .u8 c2)]) (p := (rI .i64) y3) rfl rfl rfl (internal_stringslite_IndexByte_ok  h4 hWF) ?_
 intro _ o6 h5
 cases h5
 refine AOps.assignR rfl rfl rfl (rfl : _ = (AV.int .i64 y3)) rfl ?_
 refine AOps.nilR ?_
 cases h
 exact AW.ret ⟨rfl, _, _, rfl, rfl⟩
theorem impl_ValidWord_ok {w1 : List UInt8} {s : St} {r : Bool} (h : impl_ValidWord w1 = some r) (hs : WF s) : ACall Cf 15 [(AV.str w1)] s fun v _ s' => (rB) r v ∧ s' = s := by
 refine ACall.pure rfl rfl rfl .B ?_
 have hWF := hs.lo'
 unfold impl_ValidWord at h
 refine AW.sr ?_
 refine AOps.p rfl (rfl : _ = (AV.bool false)) ?_
 refine AOps.nilR ?_
 refine AW.seq ?_
 refine AW.sr ?_
 refine AOps.p rfl (rfl : _ = (AV.str w1)) ?_
 refine AOps.p rfl (rfl : _ = (AV.int .i64 (w1.length : Int))) ?_
 refine AOps.p rfl (rfl : _ = (AV.int .i64 0)) ?_
 refine AOps.nilR ?_
 refine AW.meet (σ := Unit) (fun _ tm os => ⟨updL tm [(0, (AV.str w1))], updL os [], { s with lo := s.n }⟩) (fun _ => impl_ValidWord_J1 w1 = some r) ?_ ?_
 ·rintro _ tm os h
  unfold impl_ValidWord_J1 at h
  refine AW.sr ?_
  refine AOps.p rfl (rfl : _ = (AV.str w1)) ?_
  refine AOps.p rfl (rfl : _ = (AV.int .i64 (w1.length : Int))) ?_
  refine AOps.p rfl (rfl : _ = (AV.bool (decide (((w1.length : Int) : Int) ≤ 60)))) ?_
  refine AOps.assignR rfl rfl rfl (rfl : _ = (AV.bool (decide (((w1.length : Int) : Int) ≤ 60)))) rfl ?_
  refine AOps.nilR ?_
  cases h
  exact AW.ret ⟨rfl, _, _, rfl, rfl⟩
 intro KJ2
 refine AW.block ?_
 refine AW.res [(0, (AV.str w1)), (5, (AV.int .i64 (w1.length : Int))), (6, (AV.int .i64 0))] [] ⟨rfl, rfl, rfl, trivial⟩ trivial ?_
 refine AW.loopF (σ := Int) (τ := Unit) (fun t3 _ => True) (fun t3 _ tm os => ⟨updL tm [(0, (AV.str w1)), (5, (AV.int .i64 (w1.length : Int))), (6, (AV.int .i64 t3))], updL os [], { s with lo := s.n }⟩) ?_ (x := (0)) (y := ()) h trivial
 clear h
 rintro t3 _ tm os - ee1 h hL1 hR1
 unfold impl_ValidWord_S1 at h
 refine AW.sr ?_
 refine AOps.p rfl (rfl : _ = (AV.bool (decide ((t3 : Int) < (w1.length : Int))))) ?_
 refine AOps.nilR ?_
 refine AW.seq ?_
 rcases oite h with ⟨hc4, h⟩ | ⟨hc4, h⟩
 ·refine AW.condT (congrArg AV.bool hc4) ?_
  refine AW.skip ?_
  refine AW.seq ?_
  refine AW.block ?_
  refine AW.sr ?_
  refine AOps.p rfl (rfl : _ = (AV.int .i64 t3)) ?_
  refine AOps.assignR rfl rfl rfl (rfl : _ = (AV.int .i64 t3)) rfl ?_
  refine AOps.nilR ?_
  refine AW.sr ?_
  refine AOps.p rfl (rfl : _ = (AV.str w1)) ?_
  refine AOps.p rfl (rfl : _ = (AV.int .i64 t3)) ?_
  obtain ⟨c5, h6, h⟩ := obind h
  refine AOps.pureR rfl rfl rfl (chr_str h6) rfl (rfl : _ = (AV.int .u8 c5)) ?_
  obtain ⟨y7, h8, h⟩ := obind h
  refine AOps.callP (g := 36) (args := [(AV.str ([40, 91, 41, 93, 97, 98] : List UInt8)), (AV.int .u8 c5)]) (p := (rI .i64) y7) rfl rfl rfl (strings_IndexByte_ok  h8 hWF) ?_
  intro _ o10 h9
  cases h9
  refine AOps.p rfl (rfl : _ = (AV.bool (decide ((y7 : Int) < 0)))) ?_
  refine AOps.nilR ?_
  rcases oite h with ⟨hc11, h⟩ | ⟨hc11, h⟩
  ·refine AW.condT (congrArg AV.bool hc11) ?_
   refine AW.sr ?_
   refine AOps.p rfl (rfl : _ = (AV.bool false)) ?_
   refine AOps.nilR ?_
   cases h
   have hr := hR1 _ rfl
   subst hr
   exact AW.ret ⟨rfl, _, _, rfl, rfl⟩
  refine AW.condF (congrArg AV.bool hc11) ?_
  refine AW.skip ?_
  refine AW.inBlock ?_
  refine AW.region ?_
  refine AOps.p rfl (rfl : _ = (AV.int .i64 (IntKind.wrap .i64 (t3 + 1)))) ?_
  refine AOps.p rfl (rfl : _ = (AV.int .i64 (IntKind.wrap .i64 (t3 + 1)))) ?_
  refine AOps.nilR ?_
  cases h
  exact AW.res [(0, (AV.str w1)), (5, (AV.int .i64 (w1.length : Int))), (6, (AV.int .i64 (IntKind.wrap .i64 (t3 + 1))))] [] ⟨rfl, rfl, rfl, trivial⟩ trivial (hL1 _ rfl () _ _ trivial)
 refine AW.condF (congrArg AV.bool hc4) ?_
 refine AW.exit rfl ?_
 obtain ⟨r12, hm, hx⟩ := omap h
 clear h
 subst hx
 have hx := hR1 _ rfl
 rw [hx] at hm
 have h := hm
 exact AW.res [(0, (AV.str w1))] [] ⟨rfl, trivial⟩ trivial (KJ2 () _ _ h)
theorem impl_size_int64_d_ok {list1 : List Int} {v2 : AV} {x3 : BX} {s : St} (h4 : DY (rI .i64) false 1 list1 v2 x3) (h5 : ∀ b, x3.b = some b → s.h b = some x3.cs) {r : Int} (h : impl_size_int64_d list1 = some r) (hs : WF s) : ACall Cf 53 [v2] s fun v _ s' => (rI .i64) r v ∧ s' = s := by
 refine ACall.pure rfl rfl rfl .I ?_
 have hWF := hs.lo'
 unfold impl_size_int64_d at h
 refine AW.sr ?_
 refine AOps.p rfl (rfl : _ = (AV.int .i64 0)) ?_
 refine AOps.nilR ?_
 refine AW.sr ?_
 refine AOps.p rfl (rfl : _ = v2) ?_
 refine AOps.pureR rfl rfl rfl (DY.len h4 rfl rfl rfl) rfl (rfl : _ = (AV.int .i64 (list1.length : Int))) ?_
 refine AOps.assignR rfl rfl rfl (rfl : _ = (AV.int .i64 (list1.length : Int))) rfl ?_
 refine AOps.nilR ?_
 cases h
 exact AW.ret ⟨rfl, _, _, rfl, rfl⟩
theorem impl_match_ok {p1 : List UInt8} {s : St} {r : Matching} (h : impl_match p1 = some r) (hs : WF s) : ACall Cf 37 [(AV.str p1)] s fun v _ s' => (rMatching) r v ∧ s' = s := by
 refine ACall.boxes rfl rfl rfl ?_
 have hH0 := HS.init hs
 unfold impl_match at h
 refine AW.sr ?_
 refine AOps.allocP rfl rfl rfl rfl ⟨rfl, rfl⟩ rfl ?_
 refine AOps.nilR ?_
 refine AW.sr ?_
 refine AOps.makeR rfl rfl rfl rfl rfl rfl (rfl : _ = (AV.sl 1 true [(AV.int .i64 0)])) ?_
 refine AOps.p rfl (rfl : _ = (AV.agg [(AV.sl 0 true []), (AV.sl 0 true []), (AV.sl 0 true []), (AV.sl 1 true [(AV.int .i64 0)]), (AV.sl 0 true [])])) ?_
 refine AOps.alloc1 hH0 rfl rfl rfl rfl rfl rfl ?_
 intro b2 s3 hH4
 change HS [] false s s3 [⟨some b2, [(AV.sl 0 true []), (AV.sl 0 true []), (AV.sl 0 true []), (AV.sl 0 true []), (AV.sl 0 true [])], (fun _ => false)⟩] at hH4
 refine AOps.stB (i := 0) (v := (AV.agg [(AV.sl 0 true []), (AV.sl 0 true []), (AV.sl 0 true []), (AV.sl 1 true [(AV.int .i64 0)]), (AV.sl 0 true [])])) hH4 rfl rfl rfl rfl rfl rfl rfl rfl rfl (lt_b rfl) (le_b rfl) rfl ?_
 intro w5 s6 h7 h8 hH9
 change HS [] false s s6 [⟨some b2, [(AV.sl 0 true []), (AV.sl 0 true []), (AV.sl 0 true []), (AV.sl 1 true [(AV.int .i64 0)]), (AV.sl 0 true [])], w5⟩] at hH9
 refine AOps.nilR ?_
 refine AW.seq ?_
 refine AW.sr ?_
 refine AOps.p rfl (rfl : _ = (AV.str p1)) ?_
 refine AOps.p rfl (rfl : _ = (AV.int .i64 (p1.length : Int))) ?_
 refine AOps.p rfl (rfl : _ = (AV.int .i64 0)) ?_
 refine AOps.nilR ?_
 refine AW.meet (σ := (List Int) × (List Int) × (List Int) × (List Int) × (List Int) × (Nat → Bool) × BX × AV × Nat × Bool × (List AV) × BX × AV × Nat × Bool × (List AV) × Nat × Bool × (List AV) × St) (fun (m11, m15, m21, m25, m31, w10, x12, v13, z16, f17, e18, x22, v23, z26, f27, e28, z32, f33, e34, s37) tm os => ⟨updL tm [(2, (AV.pend 5)), (3, (AV.ptr b2 0))], updL os [(2, true)], s37⟩) (fun (m11, m15, m21, m25, m31, w10, x12, v13, z16, f17, e18, x22, v23, z26, f27, e28, z32, f33, e34, s37) => (DY (rI .i64) false 1 m11 v13 x12) ∧ (LR (rI .i64) 1 m15 z16 e18) ∧ (f17 = true ∨ w10 1 = true) ∧ (DY (rI .i64) false 1 m21 v23 x22) ∧ (LR (rI .i64) 1 m25 z26 e28) ∧ (f27 = true ∨ w10 3 = true) ∧ (LR (rI .i64) 1 m31 z32 e34) ∧ (f33 = true ∨ w10 4 = true) ∧ (HS [] false s s37 [⟨some b2, [v13, (AV.sl z16 f17 e18), v23, (AV.sl z26 f27 e28), (AV.sl z32 f33 e34)], w10⟩, x12, x22]) ∧ impl_match_J1 m11 m15 m21 m25 m31 = some r) ?_ ?_
 ·rintro ⟨m11, m15, m21, m25, m31, w10, x12, v13, z16, f17, e18, x22, v23, z26, f27, e28, z32, f33, e34, s37⟩ tm os ⟨h14, h19, h20, h24, h29, h30, h35, h36, hH38, h⟩
  unfold impl_match_J1 at h
  refine AW.sr ?_
  refine AOps.ldB (i := 0) (v := (AV.agg [v13, (AV.sl z16 f17 e18), v23, (AV.sl z26 f27 e28), (AV.sl z32 f33 e34)])) hH38 rfl rfl rfl rfl rfl rfl rfl rfl rfl ?_
  refine AOps.stP (v := (AV.agg [v13, (AV.sl z16 f17 e18), v23, (AV.sl z26 f27 e28), (AV.sl z32 f33 e34)])) rfl rfl rfl rfl rfl rfl rfl (lay_cons (DY.one h14) (lay_cons rfl (lay_cons (DY.one h24) (lay_cons rfl (lay_cons rfl lay_nil))))) rfl (lt_b rfl) rfl ?_
  refine AOps.nilR ?_
  cases h
  exact AW.ret ⟨⟨_, hH38⟩, _, _, rfl, (Fin.A (.cons (Fin.dy (r := rI .i64) hH38 (i := 1) rfl h14 (fun _ => .I) (fun _ => rfl)) (.cons (Fin.of (p := (rL (rI .i64) 1) m15) (.L fun _ => .I) (⟨_, _, _, rfl, h19⟩)) (.cons (Fin.dy (r := rI .i64) hH38 (i := 2) rfl h24 (fun _ => .I) (fun _ => rfl)) (.cons (Fin.of (p := (rL (rI .i64) 1) m25) (.L fun _ => .I) (⟨_, _, _, rfl, h29⟩)) (.cons (Fin.of (p := (rL (rI .i64) 1) m31) (.L fun _ => .I) (⟨_, _, _, rfl, h35⟩)) .nil)))))).2⟩
 intro KJ39
 refine AW.block ?_
 refine AW.res [(0, (AV.str p1)), (2, (AV.pend 5)), (3, (AV.ptr b2 0)), (13, (AV.int .i64 (p1.length : Int))), (14, (AV.int .i64 0))] [(2, true)] ⟨rfl, rfl, rfl, rfl, rfl, trivial⟩ ⟨rfl, trivial⟩ ?_
 refine AW.loopF (σ := (List Int) × (List Int) × (List Int) × (List Int) × (List Int) × Int) (τ := (Nat → Bool) × BX × AV × Nat × Bool × (List AV) × BX × AV × Nat × Bool × (List AV) × Nat × Bool × (List AV) × St) (fun (m41, m45, m51, m55, m61, t67) (w40, x42, v43, z46, f47, e48, x52, v53, z56, f57, e58, z62, f63, e64, s68) => (DY (rI .i64) false 1 m41 v43 x42) ∧ (LR (rI .i64) 1 m45 z46 e48) ∧ (f47 = true ∨ w40 1 = true) ∧ (DY (rI .i64) false 1 m51 v53 x52) ∧ (LR (rI .i64) 1 m55 z56 e58) ∧ (f57 = true ∨ w40 3 = true) ∧ (LR (rI .i64) 1 m61 z62 e64) ∧ (f63 = true ∨ w40 4 = true) ∧ (HS [] false s s68 [⟨some b2, [v43, (AV.sl z46 f47 e48), v53, (AV.sl z56 f57 e58), (AV.sl z62 f63 e64)], w40⟩, x42, x52])) (fun (m41, m45, m51, m55, m61, t67) (w40, x42, v43, z46, f47, e48, x52, v53, z56, f57, e58, z62, f63, e64, s68) tm os => ⟨updL tm [(0, (AV.str p1)), (2, (AV.pend 5)), (3, (AV.ptr b2 0)), (13, (AV.int .i64 (p1.length : Int))), (14, (AV.int .i64 t67))], updL os [(2, true)], s68⟩) ?_ (x := (([] : List Int), ([] : List Int), ([] : List Int), ([0] : List Int), ([] : List Int), 0)) (y := (w5, noBX, (AV.sl 0 true []), 0, true, [], noBX, (AV.sl 0 true []), 1, true, [(AV.int .i64 0)], 0, true, [], s6)) h ⟨DY.nil, ⟨.inr ⟨rfl, rfl⟩, .nil⟩, (Or.inl rfl), DY.nil, LR.lit (r := rI .i64) (sz := 1) (.cons rfl .nil), (Or.inl rfl), ⟨.inr ⟨rfl, rfl⟩, .nil⟩, (Or.inl rfl), (HS.sel hH9 [some 0, none, none] (by decide))⟩
 clear h
 rintro ⟨m41, m45, m51, m55, m61, t67⟩ ⟨w40, x42, v43, z46, f47, e48, x52, v53, z56, f57, e58, z62, f63, e64, s68⟩ tm os ⟨h44, h49, h50, h54, h59, h60, h65, h66, hH69⟩ ee1 h hL1 hR1
 unfold impl_match_S1 at h
 dsimp only at h
 refine AW.sr ?_
 refine AOps.p rfl (rfl : _ = (AV.bool (decide ((t67 : Int) < (p1.length : Int))))) ?_
 refine AOps.nilR ?_
 refine AW.seq ?_
 rcases oite h with ⟨hc70, h⟩ | ⟨hc70, h⟩
 ·refine AW.condT (congrArg AV.bool hc70) ?_
  refine AW.skip ?_
  refine AW.seq ?_
  refine AW.block ?_
  refine AW.sr ?_
  refine AOps.p rfl (rfl : _ = (AV.int .i64 t67)) ?_
  refine AOps.assignR rfl rfl rfl (rfl : _ = (AV.int .i64 t67)) rfl ?_
  refine AOps.nilR ?_
  refine AW.sr ?_
  refine AOps.p rfl (rfl : _ = (AV.int .i64 t67)) ?_
  refine AOps.assignR rfl rfl rfl (rfl : _ = (AV.int .i64 t67)) rfl ?_
  refine AOps.p rfl (rfl : _ = (AV.int .i64 (-1))) ?_
  refine AOps.nilR ?_
  refine AW.sr ?_
  refine AOps.p rfl (rfl : _ = (AV.ptr b2 2)) ?_
  refine AOps.ldB (i := 0) (v := v53) hH69 rfl rfl rfl rfl rfl rfl rfl rfl rfl ?_
  refine AOps.pureR rfl rfl rfl (DY.len h54 rfl rfl rfl) rfl (rfl : _ = (AV.int .i64 (m51.length : Int))) ?_
  refine AOps.assignR rfl rfl rfl (rfl : _ = (AV.int .i64 (m51.length : Int))) rfl ?_
  refine AOps.nilR ?_
  refine AW.seq ?_
  refine AW.block ?_
  refine AW.sr ?_
  refine AOps.p rfl (rfl : _ = (AV.str p1)) ?_
  refine AOps.p rfl (rfl : _ = (AV.int .i64 t67)) ?_
  obtain ⟨c71, h72, h⟩ := obind h
  refine AOps.pureR rfl rfl rfl (chr_str h72) rfl (rfl : _ = (AV.int .u8 c71)) ?_
  obtain ⟨y73, h74, h⟩ := obind h
  refine AOps.callP (g := 51) (args := [(AV.int .u8 c71)]) (p := (rB) y73) rfl rfl rfl (impl_isReturn_ok  h74 (HS.wf' hH69)) ?_
  intro _ o76 h75
  cases h75
  refine AOps.p rfl (rfl : _ = (AV.bool y73)) ?_
  refine AOps.split 3 (fun f' => ∃ tm' os', f' = ⟨updL tm' [(0, (AV.str p1)), (2, (AV.pend 5)), (3, (AV.ptr b2 0)), (4, (AV.int .i64 t67)), (5, (AV.int .i64 t67)), (6, (AV.int .i64 (-1))), (7, (AV.int .i64 (m51.length : Int))), (13, (AV.int .i64 (p1.length : Int))), (14, (AV.int .i64 t67)), (29, (AV.bool (y73 && ((m51.length : Int) == 0))))], updL os' [(2, true)], s68⟩) ?_ ?_
  ·rcases Bool.eq_false_or_eq_true y73 with hc77 | hc77
   ·refine AOps.know (d := 26) rfl hc77 ?_
    refine AOps.p rfl (rfl : _ = (AV.int .i64 (m51.length : Int))) ?_
    refine AOps.p rfl (rfl : _ = (AV.bool ((m51.length : Int) == 0))) ?_
    refine AOps.p rfl (rfl : _ = (AV.bool ((m51.length : Int) == 0))) ?_
    refine AOps.resR [(0, (AV.str p1)), (2, (AV.pend 5)), (3, (AV.ptr b2 0)), (4, (AV.int .i64 t67)), (5, (AV.int .i64 t67)), (6, (AV.int .i64 (-1))), (7, (AV.int .i64 (m51.length : Int))), (13, (AV.int .i64 (p1.length : Int))), (14, (AV.int .i64 t67)), (29, (AV.bool (y73 && ((m51.length : Int) == 0))))] [(2, true)] ?_ ?_ _ ⟨_, _, rfl⟩
    ·exact ⟨rfl, rfl, rfl, rfl, rfl, rfl, rfl, rfl, rfl, congrArg AV.bool (and_t hc77), trivial⟩
    exact ⟨rfl, trivial⟩
   ·refine AOps.know (d := 26) rfl hc77 ?_
    refine AOps.skipR rfl rfl ?_
    refine AOps.skipR rfl rfl ?_
    refine AOps.p rfl (rfl : _ = (AV.bool false)) ?_
    refine AOps.resR [(0, (AV.str p1)), (2, (AV.pend 5)), (3, (AV.ptr b2 0)), (4, (AV.int .i64 t67)), (5, (AV.int .i64 t67)), (6, (AV.int .i64 (-1))), (7, (AV.int .i64 (m51.length : Int))), (13, (AV.int .i64 (p1.length : Int))), (14, (AV.int .i64 t67)), (29, (AV.bool (y73 && ((m51.length : Int) == 0))))] [(2, true)] ?_ ?_ _ ⟨_, _, rfl⟩
    ·exact ⟨rfl, rfl, rfl, rfl, rfl, rfl, rfl, rfl, rfl, congrArg AV.bool (and_f hc77), trivial⟩
    exact ⟨rfl, trivial⟩
  rintro _ ⟨tm, os, rfl⟩
  refine AOps.assignR rfl rfl rfl (rfl : _ = (AV.bool (y73 && ((m51.length : Int) == 0)))) rfl ?_
  refine AOps.nilR ?_
  refine AW.meet (σ := (List Int) × (List Int) × (List Int) × Int × (Nat → Bool) × BX × AV × Nat × Bool × (List AV) × BX × AV × St) (fun (m79, m83, m89, t95, w78, x80, v81, z84, f85, e86, x90, v91, s96) tm os => ⟨updL tm [(0, (AV.str p1)), (2, (AV.pend 5)), (3, (AV.ptr b2 0)), (4, (AV.int .i64 t67)), (5, (AV.int .i64 t67)), (6, (AV.int .i64 t95)), (13, (AV.int .i64 (p1.length : Int))), (14, (AV.int .i64 t67))], updL os [(2, true)], s96⟩) (fun (m79, m83, m89, t95, w78, x80, v81, z84, f85, e86, x90, v91, s96) => (DY (rI .i64) false 1 m79 v81 x80) ∧ (LR (rI .i64) 1 m83 z84 e86) ∧ (f85 = true ∨ w78 1 = true) ∧ (DY (rI .i64) false 1 m89 v91 x90) ∧ (f57 = true ∨ w78 3 = true) ∧ (f63 = true ∨ w78 4 = true) ∧ (HS [] false s s96 [⟨some b2, [v81, (AV.sl z84 f85 e86), v91, (AV.sl z56 f57 e58), (AV.sl z62 f63 e64)], w78⟩, x80, x90]) ∧ impl_match_J2 p1 m55 m61 t67 m79 m83 m89 t95 = some ee1) ?_ ?_
  ·rintro ⟨m79, m83, m89, t95, w78, x80, v81, z84, f85, e86, x90, v91, s96⟩ tm os ⟨h82, h87, h88, h92, h93, h94, hH97, h⟩
   unfold impl_match_J2 at h
   refine AW.inBlock ?_
   refine AW.sr ?_
   refine AOps.p rfl (rfl : _ = (AV.int .i64 (-1))) ?_
   refine AOps.nilR ?_
   refine AW.seq ?_
   refine AW.sr ?_
   refine AOps.p rfl (rfl : _ = (AV.ptr b2 2)) ?_
   refine AOps.ldB (i := 0) (v := v91) hH97 rfl rfl rfl rfl rfl rfl rfl rfl rfl ?_
   refine AOps.pureR rfl rfl rfl (DY.len h92 rfl rfl rfl) rfl (rfl : _ = (AV.int .i64 (m89.length : Int))) ?_
   refine AOps.assignR rfl rfl rfl (rfl : _ = (AV.int .i64 (m89.length : Int))) rfl ?_
   refine AOps.nilR ?_
   refine AW.sr ?_
   refine AOps.p rfl (rfl : _ = (AV.int .i64 (m89.length : Int))) ?_
   refine AOps.p rfl (rfl : _ = (AV.bool (decide (((m89.length : Int) : Int) > 0)))) ?_
   refine AOps.nilR ?_
   refine AW.meet (σ := Int × BX × AV × St) (fun (t102, x99, v100, s103) tm os => ⟨updL tm [(0, (AV.str p1)), (2, (AV.pend 5)), (3, (AV.ptr b2 0)), (4, (AV.int .i64 t67)), (5, (AV.int .i64 t67)), (6, (AV.int .i64 t95)), (8, (AV.int .i64 t102)), (13, (AV.int .i64 (p1.length : Int))), (14, (AV.int .i64 t67))], updL os [(2, true)], s103⟩) (fun (t102, x99, v100, s103) => (DY (rI .i64) false 1 m89 v100 x99) ∧ (HS [] false s s103 [⟨some b2, [v81, (AV.sl z84 f85 e86), v100, (AV.sl z56 f57 e58), (AV.sl z62 f63 e64)], w78⟩, x80, x99]) ∧ impl_match_J3 p1 m55 m61 t67 m79 m83 m89 t95 t102 = some ee1) ?_ ?_
   ·rintro ⟨t102, x99, v100, s103⟩ tm os ⟨h101, hH104, h⟩
    unfold impl_match_J3 at h
    refine AW.seq ?_
    refine AW.sr ?_
    refine AOps.p rfl (rfl : _ = (AV.str p1)) ?_
    refine AOps.p rfl (rfl : _ = (AV.int .i64 t67)) ?_
    obtain ⟨c106, h107, h⟩ := obind h
    refine AOps.pureR rfl rfl rfl (chr_str h107) rfl (rfl : _ = (AV.int .u8 c106)) ?_
    obtain ⟨y108, h109, h⟩ := obind h
    refine AOps.callP (g := 50) (args := [(AV.int .u8 c106)]) (p := (rB) y108) rfl rfl rfl (impl_isCall_ok  h109 (HS.wf' hH104)) ?_
    intro _ o111 h110
    cases h110
    refine AOps.nilR ?_
    refine AW.meet (σ := (List Int) × Int × (Nat → Bool) × BX × AV × St) (fun (m114, t120, w112, x115, v116, s121) tm os => ⟨updL tm [(0, (AV.str p1)), (2, (AV.pend 5)), (3, (AV.ptr b2 0)), (6, (AV.int .i64 t120)), (8, (AV.int .i64 t102)), (13, (AV.int .i64 (p1.length : Int))), (14, (AV.int .i64 t67))], updL os [(2, true)], s121⟩) (fun (m114, t120, w112, x115, v116, s121) => (f85 = true ∨ w112 1 = true) ∧ (DY (rI .i64) false 1 m114 v116 x115) ∧ (f57 = true ∨ w112 3 = true) ∧ (f63 = true ∨ w112 4 = true) ∧ (HS [] false s s121 [⟨some b2, [v81, (AV.sl z84 f85 e86), v116, (AV.sl z56 f57 e58), (AV.sl z62 f63 e64)], w112⟩, x80, x115]) ∧ impl_match_J4 m55 m61 t67 m79 m83 t102 m114 t120 = some ee1) ?_ ?_
    ·rintro ⟨m114, t120, w112, x115, v116, s121⟩ tm os ⟨h113, h117, h118, h119, hH122, h⟩
     unfold impl_match_J4 at h
     refine AW.sr ?_
     refine AOps.p rfl (rfl : _ = (AV.ptr b2 0)) ?_
     refine AOps.ldB (i := 0) (v := v81) hH122 rfl rfl rfl rfl rfl rfl rfl rfl rfl ?_
     refine AOps.p rfl (rfl : _ = (AV.int .i64 t120)) ?_
     refine AOps.makeR rfl rfl rfl rfl rfl rfl (rfl : _ = (AV.sl 1 true [(AV.int .i64 t120)])) ?_
     obtain ⟨l124, h125, h⟩ := obind h
     refine AOps.appD (i := 1) (r := rI .i64) (ei := ty2) (z' := 1) (f' := true) (e' := [(AV.int .i64 t120)]) hH122 rfl h82 Sh.I rfl rfl rfl rfl rfl rfl rfl (appSrc_sl (LR.z (LR.lit (r := rI .i64) (sz := 1) (.cons rfl .nil))) rfl) (LR.el (LR.lit (r := rI .i64) (sz := 1) (.cons rfl .nil))) rfl ⟨by decide, by decide, rfl, rfl⟩ rfl rfl h125 ?_
     intro b126 n127 cs128 s129 h130 hH131
     change HS [] false s s129 [⟨some b2, [v81, (AV.sl z84 f85 e86), v116, (AV.sl z56 f57 e58), (AV.sl z62 f63 e64)], w112⟩, ⟨some b126, cs128, fun _ => false⟩, x115] at hH131
     refine AOps.p rfl (rfl : _ = (AV.ptr b2 4)) ?_
     refine AOps.ldMv (i := 0) (v := (AV.sl z62 f63 e64)) hH131 rfl rfl rfl rfl rfl rfl rfl rfl rfl rfl h119 ?_
     intro o132 w133 s137 h134 h135 hH136
     change HS [] false s s137 [⟨some b2, [v81, (AV.sl z84 f85 e86), v116, (AV.sl z56 f57 e58), (AV.sl z62 f63 e64)], w133⟩, ⟨some b126, cs128, fun _ => false⟩, x115] at hH136
     refine AOps.p rfl (rfl : _ = (AV.int .i64 t102)) ?_
     refine AOps.makeR rfl rfl rfl rfl rfl rfl (rfl : _ = (AV.sl 1 true [(AV.int .i64 t102)])) ?_
     obtain ⟨l138, h139, h⟩ := obind h
     obtain ⟨h140, h141⟩ := app_LR h65 (LR.lit (r := rI .i64) (sz := 1) (.cons rfl .nil)) h139
     refine AOps.appL (z := z62) (f := f63) (e := e64) (z' := 1) (f' := true) (e' := [(AV.int .i64 t102)]) rfl rfl rfl rfl rfl rfl rfl (appSrc_sl (LR.z (LR.lit (r := rI .i64) (sz := 1) (.cons rfl .nil))) rfl) (LR.z h65) ⟨by decide, by decide, rfl, rfl⟩ rfl rfl h141 (own_tmp h134 rfl rfl) ?_
     refine AOps.p rfl (rfl : _ = (AV.ptr b2 0)) ?_
     refine AOps.stB (i := 0) (v := (AV.ms false 1 b126 0 n127)) hH136 rfl rfl rfl rfl rfl rfl rfl rfl rfl (lt_b rfl) (le_b rfl) rfl ?_
     intro w142 s143 h144 h145 hH146
     change HS [] false s s143 [⟨some b2, [(AV.ms false 1 b126 0 n127), (AV.sl z84 f85 e86), v116, (AV.sl z56 f57 e58), (AV.sl z62 f63 e64)], w142⟩, ⟨some b126, cs128, fun _ => false⟩, x115] at hH146
     refine AOps.p rfl (rfl : _ = (AV.ptr b2 4)) ?_
     refine AOps.stB (i := 0) (v := (AV.sl 1 false (e64 ++ [(AV.int .i64 t102)]))) hH146 rfl rfl rfl rfl rfl rfl rfl rfl rfl (lt_b rfl) (le_b rfl) rfl ?_
     intro w147 s148 h149 h150 hH151
     change HS [] false s s148 [⟨some b2, [(AV.ms false 1 b126 0 n127), (AV.sl z84 f85 e86), v116, (AV.sl z56 f57 e58), (AV.sl 1 false (e64 ++ [(AV.int .i64 t102)]))], w147⟩, ⟨some b126, cs128, fun _ => false⟩, x115] at hH151
     refine AOps.nilR ?_
     refine AW.region ?_
     refine AOps.p rfl (rfl : _ = (AV.ptr b2 3)) ?_
     refine AOps.ldMv (i := 0) (v := (AV.sl z56 f57 e58)) hH151 rfl rfl rfl rfl rfl rfl rfl rfl rfl rfl (own_keep (own_keep (own_keep h118 (h135 _ (by decide))) (h144 _ (by decide))) (h149 _ (by decide))) ?_
     intro o152 w153 s157 h154 h155 hH156
     change HS [] false s s157 [⟨some b2, [(AV.ms false 1 b126 0 n127), (AV.sl z84 f85 e86), v116, (AV.sl z56 f57 e58), (AV.sl 1 false (e64 ++ [(AV.int .i64 t102)]))], w153⟩, ⟨some b126, cs128, fun _ => false⟩, x115] at hH156
     refine AOps.p rfl (rfl : _ = (AV.ptr b2 2)) ?_
     refine AOps.ldB (i := 0) (v := v116) hH156 rfl rfl rfl rfl rfl rfl rfl rfl rfl ?_
     obtain ⟨y158, h159, h⟩ := obind h
     refine AOps.callDP (g := 53) (args := [v116]) (p := (rI .i64) y158) rfl rfl rfl (impl_size_int64_d_ok (s := St.still s157) h117 (HS.fr hH156 (i := 2) rfl) h159 ((HS.wf' hH156).still)) (fun v hv => Nice.pure (k := FINK) (p := (rI .i64) y158) .I _ v hv) ?_
     intro _ o161 h160
     cases h160
     refine AOps.makeR rfl rfl rfl rfl rfl rfl (rfl : _ = (AV.sl 1 true [(AV.int .i64 y158)])) ?_
     obtain ⟨l162, h163, h⟩ := obind h
     obtain ⟨h164, h165⟩ := app_LR h59 (LR.lit (r := rI .i64) (sz := 1) (.cons rfl .nil)) h163
     refine AOps.appL (z := z56) (f := f57) (e := e58) (z' := 1) (f' := true) (e' := [(AV.int .i64 y158)]) rfl rfl rfl rfl rfl rfl rfl (appSrc_sl (LR.z (LR.lit (r := rI .i64) (sz := 1) (.cons rfl .nil))) rfl) (LR.z h59) ⟨by decide, by decide, rfl, rfl⟩ rfl rfl h165 (own_tmp h154 rfl rfl) ?_
     refine AOps.p rfl (rfl : _ = (AV.ptr b2 3)) ?_
     refine AOps.stB (i := 0) (v := (AV.sl 1 false (e58 ++ [(AV.int .i64 y158)]))) hH156 rfl rfl rfl rfl rfl rfl rfl rfl rfl (lt_b rfl) (le_b rfl) rfl ?_
     intro w166 s167 h168 h169 hH170
     change HS [] false s s167 [⟨some b2, [(AV.ms false 1 b126 0 n127), (AV.sl z84 f85 e86), v116, (AV.sl 1 false (e58 ++ [(AV.int .i64 y158)])), (AV.sl 1 false (e64 ++ [(AV.int .i64 t102)]))], w166⟩, ⟨some b126, cs128, fun _ => false⟩, x115] at hH170
     refine AOps.nilR ?_
     refine AW.inBlock ?_
     refine AW.region ?_
     refine AOps.p rfl (rfl : _ = (AV.int .i64 (IntKind.wrap .i64 (t67 + 1)))) ?_
     refine AOps.p rfl (rfl : _ = (AV.int .i64 (IntKind.wrap .i64 (t67 + 1)))) ?_
     refine AOps.nilR ?_
     cases h
     exact AW.res [(0, (AV.str p1)), (2, (AV.pend 5)), (3, (AV.ptr b2 0)), (13, (AV.int .i64 (p1.length : Int))), (14, (AV.int .i64 (IntKind.wrap .i64 (t67 + 1))))] [(2, true)] ⟨rfl, rfl, rfl, rfl, rfl, trivial⟩ ⟨rfl, trivial⟩ (hL1 _ rfl (w166, ⟨some b126, cs128, fun _ => false⟩, (AV.ms false 1 b126 0 n127), z84, f85, e86, x115, v116, 1, false, (e58 ++ [(AV.int .i64 y158)]), 1, false, (e64 ++ [(AV.int .i64 t102)]), s167) _ _ ⟨(DY.ms rfl h130), h87, (own_keep (own_keep (own_keep (own_keep (own_keep h113 (h135 _ (by decide))) (h144 _ (by decide))) (h149 _ (by decide))) (h155 _ (by decide))) (h168 _ (by decide))), h117, h164, (own_st (Or.inr rfl) h169 rfl rfl rfl), h140, (own_keep (own_keep (own_st (Or.inr rfl) h150 rfl rfl rfl) (h155 _ (by decide))) (h168 _ (by decide))), (HS.sel hH170 [some 0, some 1, some 2] (by decide))⟩)
    intro KJ123
    rcases oite h with ⟨hc171, h⟩ | ⟨hc171, h⟩
    ·refine AW.condT (congrArg AV.bool hc171) ?_
     refine AW.sr ?_
     refine AOps.p rfl (rfl : _ = (AV.int .i64 (-2))) ?_
     refine AOps.nilR ?_
     refine AW.region ?_
     refine AOps.p rfl (rfl : _ = (AV.ptr b2 2)) ?_
     refine AOps.ldB (i := 0) (v := v100) hH104 rfl rfl rfl rfl rfl rfl rfl rfl rfl ?_
     refine AOps.p rfl (rfl : _ = (AV.int .i64 t67)) ?_
     refine AOps.makeR rfl rfl rfl rfl rfl rfl (rfl : _ = (AV.sl 1 true [(AV.int .i64 t67)])) ?_
     obtain ⟨l172, h173, h⟩ := obind h
     refine AOps.appD (i := 2) (r := rI .i64) (ei := ty2) (z' := 1) (f' := true) (e' := [(AV.int .i64 t67)]) hH104 rfl h101 Sh.I rfl rfl rfl rfl rfl rfl rfl (appSrc_sl (LR.z (LR.lit (r := rI .i64) (sz := 1) (.cons rfl .nil))) rfl) (LR.el (LR.lit (r := rI .i64) (sz := 1) (.cons rfl .nil))) rfl ⟨by decide, by decide, rfl, rfl⟩ rfl rfl h173 ?_
     intro b174 n175 cs176 s177 h178 hH179
     change HS [] false s s177 [⟨some b2, [v81, (AV.sl z84 f85 e86), v100, (AV.sl z56 f57 e58), (AV.sl z62 f63 e64)], w78⟩, x80, ⟨some b174, cs176, fun _ => false⟩] at hH179
     refine AOps.p rfl (rfl : _ = (AV.ptr b2 2)) ?_
     refine AOps.stB (i := 0) (v := (AV.ms false 1 b174 0 n175)) hH179 rfl rfl rfl rfl rfl rfl rfl rfl rfl (lt_b rfl) (le_b rfl) rfl ?_
     intro w180 s181 h182 h183 hH184
     change HS [] false s s181 [⟨some b2, [v81, (AV.sl z84 f85 e86), (AV.ms false 1 b174 0 n175), (AV.sl z56 f57 e58), (AV.sl z62 f63 e64)], w180⟩, x80, ⟨some b174, cs176, fun _ => false⟩] at hH184
     refine AOps.nilR ?_
     exact AW.res [(0, (AV.str p1)), (2, (AV.pend 5)), (3, (AV.ptr b2 0)), (6, (AV.int .i64 (-2))), (8, (AV.int .i64 t102)), (13, (AV.int .i64 (p1.length : Int))), (14, (AV.int .i64 t67))] [(2, true)] ⟨rfl, rfl, rfl, rfl, rfl, rfl, rfl, trivial⟩ ⟨rfl, trivial⟩ (KJ123 (l172, (-2), w180, ⟨some b174, cs176, fun _ => false⟩, (AV.ms false 1 b174 0 n175), s181) _ _ ⟨(own_keep h88 (h182 _ (by decide))), (DY.ms rfl h178), (own_keep h93 (h182 _ (by decide))), (own_keep h94 (h182 _ (by decide))), (HS.sel hH184 [some 0, some 1, some 2] (by decide)), h⟩)
    refine AW.condF (congrArg AV.bool hc171) ?_
    refine AW.skip ?_
    exact AW.res [(0, (AV.str p1)), (2, (AV.pend 5)), (3, (AV.ptr b2 0)), (6, (AV.int .i64 t95)), (8, (AV.int .i64 t102)), (13, (AV.int .i64 (p1.length : Int))), (14, (AV.int .i64 t67))] [(2, true)] ⟨rfl, rfl, rfl, rfl, rfl, rfl, rfl, trivial⟩ ⟨rfl, trivial⟩ (KJ123 (m89, t95, w78, x99, v100, s103) _ _ ⟨h88, h101, h93, h94, (HS.sel hH104 [some 0, some 1, some 2] (by decide)), h⟩)
   intro KJ105
   rcases oite h with ⟨hc185, h⟩ | ⟨hc185, h⟩
   ·refine AW.condT (congrArg AV.bool hc185) ?_
    refine AW.region ?_
    refine AOps.p rfl (rfl : _ = (AV.ptr b2 2)) ?_
    refine AOps.ldB (i := 0) (v := v91) hH97 rfl rfl rfl rfl rfl rfl rfl rfl rfl ?_
    refine AOps.p rfl (rfl : _ = (AV.int .i64 (m89.length : Int))) ?_
    refine AOps.p rfl (rfl : _ = (AV.int .i64 (IntKind.wrap .i64 ((m89.length : Int) - 1)))) ?_
    obtain ⟨x186, h187, h⟩ := obind h
    obtain ⟨b188, n189, h190, h192, h191⟩ := DY.has h92 h187
    subst h192
    refine AOps.pureR rfl rfl rfl (idx_ms h191 h187) rfl (rfl : _ = (AV.ptr b188 (0 + Int.toNat (IntKind.wrap .i64 ((m89.length : Int) - 1)) * 1))) ?_
    refine AOps.ldM (i := 2) (r := rI .i64) (off := 0) hH97 rfl h190 h191 h187 rfl rfl rfl rfl rfl (lt_b rfl) (le_b rfl) rfl rfl ?_ (fun c hr hs => by cases hr; exact ⟨_, rfl⟩)
    intro c193 h194 h195 v196 h197
    cases h194
    cases h197
    refine AOps.assignR rfl rfl rfl (rfl : _ = (AV.int .i64 x186)) rfl ?_
    refine AOps.nilR ?_
    exact AW.res [(0, (AV.str p1)), (2, (AV.pend 5)), (3, (AV.ptr b2 0)), (4, (AV.int .i64 t67)), (5, (AV.int .i64 t67)), (6, (AV.int .i64 t95)), (8, (AV.int .i64 x186)), (13, (AV.int .i64 (p1.length : Int))), (14, (AV.int .i64 t67))] [(2, true)] ⟨rfl, rfl, rfl, rfl, rfl, rfl, rfl, rfl, rfl, trivial⟩ ⟨rfl, trivial⟩ (KJ105 (x186, x90, (AV.ms false 1 b188 0 n189), s96) _ _ ⟨(DY.ms h190 h191), (HS.sel hH97 [some 0, some 1, some 2] (by decide)), h⟩)
   refine AW.condF (congrArg AV.bool hc185) ?_
   refine AW.skip ?_
   exact AW.res [(0, (AV.str p1)), (2, (AV.pend 5)), (3, (AV.ptr b2 0)), (4, (AV.int .i64 t67)), (5, (AV.int .i64 t67)), (6, (AV.int .i64 t95)), (8, (AV.int .i64 (-1))), (13, (AV.int .i64 (p1.length : Int))), (14, (AV.int .i64 t67))] [(2, true)] ⟨rfl, rfl, rfl, rfl, rfl, rfl, rfl, rfl, rfl, trivial⟩ ⟨rfl, trivial⟩ (KJ105 ((-1), x90, v91, s96) _ _ ⟨h92, (HS.sel hH97 [some 0, some 1, some 2] (by decide)), h⟩)
  intro KJ98
  rcases oite h with ⟨hc198, h⟩ | ⟨hc198, h⟩
  ·refine AW.condT (congrArg AV.bool hc198) ?_
   refine AW.sr ?_
   refine AOps.p rfl (rfl : _ = (AV.int .i64 (-2))) ?_
   refine AOps.nilR ?_
   refine AW.region ?_
   refine AOps.p rfl (rfl : _ = (AV.ptr b2 1)) ?_
   refine AOps.ldMv (i := 0) (v := (AV.sl z46 f47 e48)) hH69 rfl rfl rfl rfl rfl rfl rfl rfl rfl rfl h50 ?_
   intro o199 w200 s204 h201 h202 hH203
   change HS [] false s s204 [⟨some b2, [v43, (AV.sl z46 f47 e48), v53, (AV.sl z56 f57 e58), (AV.sl z62 f63 e64)], w200⟩, x42, x52] at hH203
   refine AOps.p rfl (rfl : _ = (AV.int .i64 t67)) ?_
   refine AOps.makeR rfl rfl rfl rfl rfl rfl (rfl : _ = (AV.sl 1 true [(AV.int .i64 t67)])) ?_
   obtain ⟨l205, h206, h⟩ := obind h
   obtain ⟨h207, h208⟩ := app_LR h49 (LR.lit (r := rI .i64) (sz := 1) (.cons rfl .nil)) h206
   refine AOps.appL (z := z46) (f := f47) (e := e48) (z' := 1) (f' := true) (e' := [(AV.int .i64 t67)]) rfl rfl rfl rfl rfl rfl rfl (appSrc_sl (LR.z (LR.lit (r := rI .i64) (sz := 1) (.cons rfl .nil))) rfl) (LR.z h49) ⟨by decide, by decide, rfl, rfl⟩ rfl rfl h208 (own_tmp h201 rfl rfl) ?_
   refine AOps.p rfl (rfl : _ = (AV.ptr b2 1)) ?_
   refine AOps.stB (i := 0) (v := (AV.sl 1 false (e48 ++ [(AV.int .i64 t67)]))) hH203 rfl rfl rfl rfl rfl rfl rfl rfl rfl (lt_b rfl) (le_b rfl) rfl ?_
   intro w209 s210 h211 h212 hH213
   change HS [] false s s210 [⟨some b2, [v43, (AV.sl 1 false (e48 ++ [(AV.int .i64 t67)])), v53, (AV.sl z56 f57 e58), (AV.sl z62 f63 e64)], w209⟩, x42, x52] at hH213
   refine AOps.nilR ?_
   exact AW.res [(0, (AV.str p1)), (2, (AV.pend 5)), (3, (AV.ptr b2 0)), (4, (AV.int .i64 t67)), (5, (AV.int .i64 t67)), (6, (AV.int .i64 (-2))), (13, (AV.int .i64 (p1.length : Int))), (14, (AV.int .i64 t67))] [(2, true)] ⟨rfl, rfl, rfl, rfl, rfl, rfl, rfl, rfl, trivial⟩ ⟨rfl, trivial⟩ (KJ98 (m41, l205, m51, (-2), w209, x42, v43, 1, false, (e48 ++ [(AV.int .i64 t67)]), x52, v53, s210) _ _ ⟨h44, h207, (own_st (Or.inr rfl) h212 rfl rfl rfl), h54, (own_keep (own_keep h60 (h202 _ (by decide))) (h211 _ (by decide))), (own_keep (own_keep h66 (h202 _ (by decide))) (h211 _ (by decide))), (HS.sel hH213 [some 0, some 1, some 2] (by decide)), h⟩)
  refine AW.condF (congrArg AV.bool hc198) ?_
  refine AW.sr ?_
  refine AOps.p rfl (rfl : _ = (AV.str p1)) ?_
  refine AOps.p rfl (rfl : _ = (AV.int .i64 t67)) ?_
  obtain ⟨c214, h215, h⟩ := obind h
  refine AOps.pureR rfl rfl rfl (chr_str h215) rfl (rfl : _ = (AV.int .u8 c214)) ?_
  obtain ⟨y216, h217, h⟩ := obind h
  refine AOps.callP (g := 51) (args := [(AV.int .u8 c214)]) (p := (rB) y216) rfl rfl rfl (impl_isReturn_ok  h217 (HS.wf' hH69)) ?_
  intro _ o219 h218
  cases h218
  refine AOps.assignR rfl rfl rfl (rfl : _ = (AV.bool y216)) rfl ?_
  refine AOps.nilR ?_
  rcases oite h with ⟨hc220, h⟩ | ⟨hc220, h⟩
  ·refine AW.condT (congrArg AV.bool hc220) ?_
   refine AW.sr ?_
   refine AOps.p rfl (rfl : _ = (AV.ptr b2 2)) ?_
   refine AOps.ldB (i := 0) (v := v53) hH69 rfl rfl rfl rfl rfl rfl rfl rfl rfl ?_
   refine AOps.p rfl (rfl : _ = (AV.int .i64 (m51.length : Int))) ?_
   refine AOps.p rfl (rfl : _ = (AV.int .i64 (IntKind.wrap .i64 ((m51.length : Int) - 1)))) ?_
   obtain ⟨x221, h222, h⟩ := obind h
   obtain ⟨b223, n224, h225, h227, h226⟩ := DY.has h54 h222
   subst h227
   refine AOps.pureR rfl rfl rfl (idx_ms h226 h222) rfl (rfl : _ = (AV.ptr b223 (0 + Int.toNat (IntKind.wrap .i64 ((m51.length : Int) - 1)) * 1))) ?_
   refine AOps.ldM (i := 2) (r := rI .i64) (off := 0) hH69 rfl h225 h226 h222 rfl rfl rfl rfl rfl (lt_b rfl) (le_b rfl) rfl rfl ?_ (fun c hr hs => by cases hr; exact ⟨_, rfl⟩)
   intro c228 h229 h230 v231 h232
   cases h229
   cases h232
   refine AOps.assignR rfl rfl rfl (rfl : _ = (AV.int .i64 x221)) rfl ?_
   refine AOps.nilR ?_
   refine AW.sr ?_
   refine AOps.p rfl (rfl : _ = (AV.ptr b2 0)) ?_
   refine AOps.ldB (i := 0) (v := v43) hH69 rfl rfl rfl rfl rfl rfl rfl rfl rfl ?_
   refine AOps.p rfl (rfl : _ = (AV.int .i64 x221)) ?_
   refine AOps.p rfl (rfl : _ = (AV.int .i64 t67)) ?_
   obtain ⟨x233, h234, h⟩ := obind h
   obtain ⟨b235, n236, h237, h239, h238⟩ := DY.has h44 h234
   subst h239
   refine AOps.pureR rfl rfl rfl (idx_ms h238 h234) rfl (rfl : _ = (AV.ptr b235 (0 + Int.toNat x221 * 1))) ?_
   refine AOps.stM (i := 1) (r := rI .i64) (v := (AV.int .i64 t67)) (y := t67) hH69 rfl h237 h238 h234 rfl rfl rfl rfl rfl rfl (Sh.I t67 _ rfl) rfl rfl (lt_b rfl) rfl rfl ?_
   intro cs240 w241 s242 h243 hH244
   change HS [] false s s242 [⟨some b2, [(AV.ms false 1 b235 0 n236), (AV.sl z46 f47 e48), (AV.ms false 1 b223 0 n224), (AV.sl z56 f57 e58), (AV.sl z62 f63 e64)], w40⟩, ⟨some b235, cs240, w241⟩, x52] at hH244
   refine AOps.nilR ?_
   refine AW.region ?_
   refine AOps.p rfl (rfl : _ = (AV.ptr b2 2)) ?_
   refine AOps.ldB (i := 0) (v := (AV.ms false 1 b223 0 n224)) hH244 rfl rfl rfl rfl rfl rfl rfl rfl rfl ?_
   refine AOps.p rfl (rfl : _ = (AV.int .i64 (m51.length : Int))) ?_
   refine AOps.p rfl (rfl : _ = (AV.int .i64 (IntKind.wrap .i64 ((m51.length : Int) - 1)))) ?_
   obtain ⟨l245, h246, h⟩ := obind h
   obtain ⟨h247, h248⟩ := MS.cut (b := b223) (k := .i64) h226 h246
   refine AOps.pureR rfl rfl rfl h248 rfl (rfl : _ = (AV.ms false 1 b223 0 (Int.toNat (IntKind.wrap .i64 ((m51.length : Int) - 1))))) ?_
   refine AOps.p rfl (rfl : _ = (AV.ptr b2 2)) ?_
   refine AOps.stB (i := 0) (v := (AV.ms false 1 b223 0 (Int.toNat (IntKind.wrap .i64 ((m51.length : Int) - 1))))) hH244 rfl rfl rfl rfl rfl rfl rfl rfl rfl (lt_b rfl) (le_b rfl) rfl ?_
   intro w249 s250 h251 h252 hH253
   change HS [] false s s250 [⟨some b2, [(AV.ms false 1 b235 0 n236), (AV.sl z46 f47 e48), (AV.ms false 1 b223 0 (Int.toNat (IntKind.wrap .i64 ((m51.length : Int) - 1)))), (AV.sl z56 f57 e58), (AV.sl z62 f63 e64)], w249⟩, ⟨some b235, cs240, w241⟩, x52] at hH253
   refine AOps.nilR ?_
   exact AW.res [(0, (AV.str p1)), (2, (AV.pend 5)), (3, (AV.ptr b2 0)), (4, (AV.int .i64 t67)), (5, (AV.int .i64 t67)), (6, (AV.int .i64 x221)), (13, (AV.int .i64 (p1.length : Int))), (14, (AV.int .i64 t67))] [(2, true)] ⟨rfl, rfl, rfl, rfl, rfl, rfl, rfl, rfl, trivial⟩ ⟨rfl, trivial⟩ (KJ98 ((m41.set (Int.toNat x221) t67), m45, l245, x221, w249, ⟨some b235, cs240, w241⟩, (AV.ms false 1 b235 0 n236), z46, f47, e48, x52, (AV.ms false 1 b223 0 (Int.toNat (IntKind.wrap .i64 ((m51.length : Int) - 1)))), s250) _ _ ⟨(DY.ms rfl h243), h49, (own_keep h50 (h251 _ (by decide))), (DY.ms h225 h247), (own_keep h60 (h251 _ (by decide))), (own_keep h66 (h251 _ (by decide))), (HS.sel hH253 [some 0, some 1, some 2] (by decide)), h⟩)
  refine AW.condF (congrArg AV.bool hc220) ?_
  refine AW.skip ?_
  exact AW.res [(0, (AV.str p1)), (2, (AV.pend 5)), (3, (AV.ptr b2 0)), (4, (AV.int .i64 t67)), (5, (AV.int .i64 t67)), (6, (AV.int .i64 (-1))), (13, (AV.int .i64 (p1.length : Int))), (14, (AV.int .i64 t67))] [(2, true)] ⟨rfl, rfl, rfl, rfl, rfl, rfl, rfl, rfl, trivial⟩ ⟨rfl, trivial⟩ (KJ98 (m41, m45, m51, (-1), w40, x42, v43, z46, f47, e48, x52, v53, s68) _ _ ⟨h44, h49, h50, h54, h60, h66, (HS.sel hH69 [some 0, some 1, some 2] (by decide)), h⟩)
 refine AW.condF (congrArg AV.bool hc70) ?_
 refine AW.exit rfl ?_
 obtain ⟨r254, hm, hx⟩ := omap h
 clear h
 subst hx
 have hx := hR1 _ rfl
 rw [hx] at hm
 have h := hm
 exact AW.res [(2, (AV.pend 5)), (3, (AV.ptr b2 0))] [(2, true)] ⟨rfl, rfl, trivial⟩ ⟨rfl, trivial⟩ (KJ39 (m41, m45, m51, m55, m61, w40, x42, v43, z46, f47, e48, x52, v53, z56, f57, e58, z62, f63, e64, s68) _ _ ⟨h44, h49, h50, h54, h59, h60, h65, h66, (HS.sel hH69 [some 0, some 1, some 2] (by decide)), h⟩)
theorem impl_isMatched_ok {w1 : List UInt8} {s : St} {r : Bool} (h : impl_isMatched w1 = some r) (hs : WF s) : ACall Cf 16 [(AV.str w1)] s fun v _ s' => (rB) r v ∧ s' = s := by
 refine ACall.pure rfl rfl rfl .B ?_
 have hWF := hs.lo'
 unfold impl_isMatched at h
 refine AW.sr ?_
 refine AOps.p rfl (rfl : _ = (AV.bool false)) ?_
 refine AOps.nilR ?_
 refine AW.sr ?_
 refine AOps.p rfl (rfl : _ = (AV.str w1)) ?_
 obtain ⟨y2, h3, h⟩ := obind h
 refine AOps.callP (g := 37) (args := [(AV.str w1)]) (p := (rMatching) y2) rfl rfl rfl (impl_match_ok  h3 hWF) ?_
 intro _ o36 h4
 obtain ⟨_, rfl, h5⟩ := h4
 obtain ⟨_, _, rfl, h6, h7⟩ := Cs_cons h5
 obtain ⟨z8, f9, e10, rfl, h11⟩ := h6
 obtain ⟨_, _, rfl, h12, h13⟩ := Cs_cons h7
 obtain ⟨z14, f15, e16, rfl, h17⟩ := h12
 obtain ⟨_, _, rfl, h18, h19⟩ := Cs_cons h13
 obtain ⟨z20, f21, e22, rfl, h23⟩ := h18
 obtain ⟨_, _, rfl, h24, h25⟩ := Cs_cons h19
 obtain ⟨z26, f27, e28, rfl, h29⟩ := h24
 obtain ⟨_, _, rfl, h30, h31⟩ := Cs_cons h25
 obtain ⟨z32, f33, e34, rfl, h35⟩ := h30
 cases Cs_nil h31
 refine AOps.allocP rfl rfl rfl rfl ⟨rfl, rfl⟩ rfl ?_
 refine AOps.stP (v := (AV.agg [(AV.sl z8 f9 e10), (AV.sl z14 f15 e16), (AV.sl z20 f21 e22), (AV.sl z26 f27 e28), (AV.sl z32 f33 e34)])) rfl rfl rfl rfl rfl rfl rfl rfl rfl (lt_b rfl) rfl ?_
 refine AOps.nilR ?_
 refine AW.sr ?_
 refine AOps.p rfl (rfl : _ = (AV.eptr [(AV.sl z8 f9 e10), (AV.sl z14 f15 e16), (AV.sl z20 f21 e22), (AV.sl z26 f27 e28), (AV.sl z32 f33 e34)] 1)) ?_
 refine AOps.ldE (v := (AV.sl z14 f15 e16)) rfl rfl rfl rfl rfl rfl ?_
 refine AOps.p rfl (len_eq h17) ?_
 refine AOps.p rfl (rfl : _ = (AV.eptr [(AV.sl z8 f9 e10), (AV.sl z14 f15 e16), (AV.sl z20 f21 e22), (AV.sl z26 f27 e28), (AV.sl z32 f33 e34)] 2)) ?_
 refine AOps.ldE (v := (AV.sl z20 f21 e22)) rfl rfl rfl rfl rfl rfl ?_
 refine AOps.p rfl (len_eq h23) ?_
 refine AOps.p rfl (rfl : _ = (AV.int .i64 (IntKind.wrap .i64 ((y2.returns.length : Int) + (y2.calls.length : Int))))) ?_
 refine AOps.p rfl (rfl : _ = (AV.bool ((IntKind.wrap .i64 ((y2.returns.length : Int) + (y2.calls.length : Int))) == 0))) ?_
 refine AOps.assignR rfl rfl rfl (rfl : _ = (AV.bool ((IntKind.wrap .i64 ((y2.returns.length : Int) + (y2.calls.length : Int))) == 0))) rfl ?_
 refine AOps.nilR ?_
 cases h
 exact AW.ret ⟨rfl, _, _, rfl, rfl⟩
theorem impl_factors_ok {w1 : List UInt8} {s : St} {r : (List (List UInt8))} (h : impl_factors w1 = some r) (hs : WF s) : ACall Cf 18 [(AV.str w1)] s fun v _ s' => (rL rS 1) r v ∧ s' = s := by
 refine ACall.pure rfl rfl rfl (.L fun _ => .S) ?_
 have hWF := hs.lo'
 unfold impl_factors at h
 refine AW.sr ?_
 refine AOps.p rfl (rfl : _ = (AV.sl 0 true [])) ?_
 refine AOps.nilR ?_
 refine AW.sr ?_
 refine AOps.makeR rfl rfl rfl rfl rfl rfl (rfl : _ = (AV.sl 1 true [])) ?_
 refine AOps.p rfl (rfl : _ = (AV.str w1)) ?_
 obtain ⟨y2, h3, h⟩ := obind h
 refine AOps.callP (g := 37) (args := [(AV.str w1)]) (p := (rMatching) y2) rfl rfl rfl (impl_match_ok  h3 hWF) ?_
 intro _ o36 h4
 obtain ⟨_, rfl, h5⟩ := h4
 obtain ⟨_, _, rfl, h6, h7⟩ := Cs_cons h5
 obtain ⟨z8, f9, e10, rfl, h11⟩ := h6
 obtain ⟨_, _, rfl, h12, h13⟩ := Cs_cons h7
 obtain ⟨z14, f15, e16, rfl, h17⟩ := h12
 obtain ⟨_, _, rfl, h18, h19⟩ := Cs_cons h13
 obtain ⟨z20, f21, e22, rfl, h23⟩ := h18
 obtain ⟨_, _, rfl, h24, h25⟩ := Cs_cons h19
 obtain ⟨z26, f27, e28, rfl, h29⟩ := h24
 obtain ⟨_, _, rfl, h30, h31⟩ := Cs_cons h25
 obtain ⟨z32, f33, e34, rfl, h35⟩ := h30
 cases Cs_nil h31
 refine AOps.allocP rfl rfl rfl rfl ⟨rfl, rfl⟩ rfl ?_
 refine AOps.assignR rfl rfl rfl (rfl : _ = (AV.sl 1 true [])) rfl ?_
 refine AOps.stP (v := (AV.agg [(AV.sl z8 f9 e10), (AV.sl z14 f15 e16), (AV.sl z20 f21 e22), (AV.sl z26 f27 e28), (AV.sl z32 f33 e34)])) rfl rfl rfl rfl rfl rfl rfl rfl rfl (lt_b rfl) rfl ?_
 refine AOps.nilR ?_
 refine AW.seq ?_
 refine AW.sr ?_
 refine AOps.p rfl (rfl : _ = (AV.int .i64 0)) ?_
 refine AOps.nilR ?_
 refine AW.meet (σ := (List (List UInt8)) × Nat × Bool × (List AV) × Bool) (fun (out37, z38, f39, e40, o42) tm os => ⟨updL tm [(3, (AV.sl z38 f39 e40))], updL os [(3, o42)], { s with lo := s.n }⟩) (fun (out37, z38, f39, e40, o42) => (LR rS 1 out37 z38 e40) ∧ (f39 = true ∨ o42 = true) ∧ impl_factors_J1 out37 = some r) ?_ ?_
 ·rintro ⟨out37, z38, f39, e40, o42⟩ tm os ⟨h41, h43, h⟩
  unfold impl_factors_J1 at h
  refine AW.sr ?_
  refine AOps.p rfl (rfl : _ = (AV.sl z38 f39 e40)) ?_
  refine AOps.assignR rfl rfl rfl (rfl : _ = (AV.sl z38 f39 e40)) rfl ?_
  refine AOps.nilR ?_
  cases h
  exact AW.ret ⟨rfl, _, _, rfl, ⟨_, _, _, rfl, h41⟩⟩
 intro KJ44
 refine AW.block ?_
 refine AW.res [(0, (AV.str w1)), (3, (AV.sl 1 true [])), (4, (AV.eptr [(AV.sl z8 f9 e10), (AV.sl z14 f15 e16), (AV.sl z20 f21 e22), (AV.sl z26 f27 e28), (AV.sl z32 f33 e34)] 0)), (5, (AV.int .i64 0))] [(3, false)] ⟨rfl, rfl, rfl, rfl, trivial⟩ ⟨rfl, trivial⟩ ?_
 refine AW.loopF (σ := (List (List UInt8)) × Int) (τ := Nat × Bool × (List AV) × Bool) (fun (out45, i52) (z46, f47, e48, o50) => (LR rS 1 out45 z46 e48) ∧ (f47 = true ∨ o50 = true)) (fun (out45, i52) (z46, f47, e48, o50) tm os => ⟨updL tm [(0, (AV.str w1)), (3, (AV.sl z46 f47 e48)), (4, (AV.eptr [(AV.sl z8 f9 e10), (AV.sl z14 f15 e16), (AV.sl z20 f21 e22), (AV.sl z26 f27 e28), (AV.sl z32 f33 e34)] 0)), (5, (AV.int .i64 i52))], updL os [(3, o50)], { s with lo := s.n }⟩) ?_ (x := (([] : List (List UInt8)), 0)) (y := (1, true, [], false)) h ⟨⟨.inl rfl, .nil⟩, (Or.inl rfl)⟩
 clear h
 rintro ⟨out45, i52⟩ ⟨z46, f47, e48, o50⟩ tm os ⟨h49, h51⟩ ee1 h hL1 hR1
 unfold impl_factors_S1 at h
 dsimp only at h
 refine AW.seq ?_
 refine AW.sr ?_
 refine AOps.p rfl (rfl : _ = (AV.int .i64 i52)) ?_
 refine AOps.p rfl (rfl : _ = (AV.str w1)) ?_
 refine AOps.p rfl (rfl : _ = (AV.int .i64 (w1.length : Int))) ?_
 refine AOps.p rfl (rfl : _ = (AV.bool (decide ((i52 : Int) < (w1.length : Int))))) ?_
 refine AOps.nilR ?_
 rcases oite h with ⟨hc53, h⟩ | ⟨hc53, h⟩
 ·refine AW.condT (congrArg AV.bool hc53) ?_
  refine AW.skip ?_
  refine AW.block ?_
  refine AW.sr ?_
  refine AOps.p rfl (rfl : _ = (AV.int .i64 i52)) ?_
  refine AOps.p rfl (rfl : _ = (AV.eptr [(AV.sl z8 f9 e10), (AV.sl z14 f15 e16), (AV.sl z20 f21 e22), (AV.sl z26 f27 e28), (AV.sl z32 f33 e34)] 0)) ?_
  refine AOps.ldE (v := (AV.sl z8 f9 e10)) rfl rfl rfl rfl rfl rfl ?_
  refine AOps.p rfl (rfl : _ = (AV.int .i64 i52)) ?_
  obtain ⟨x54, h55, h⟩ := obind h
  obtain ⟨v58, h56, h57⟩ := idx_sl h11 h55
  cases h56
  refine AOps.pureR rfl rfl rfl h57 rfl (rfl : _ = (AV.eptr [(AV.int .i64 x54)] 0)) ?_
  refine AOps.ldE (v := (AV.int .i64 x54)) rfl rfl rfl rfl rfl rfl ?_
  refine AOps.p rfl (rfl : _ = (AV.int .i64 (if (i52 : Int) < x54 then x54 else i52))) ?_
  refine AOps.assignR rfl rfl rfl (rfl : _ = (AV.int .i64 (if (i52 : Int) < x54 then x54 else i52))) rfl ?_
  refine AOps.nilR ?_
  refine AW.sr ?_
  refine AOps.moveR rfl rfl rfl rfl (rfl : _ = (AV.sl z46 f47 e48)) rfl ?_
  refine AOps.p rfl (rfl : _ = (AV.str w1)) ?_
  refine AOps.p rfl (rfl : _ = (AV.int .i64 i52)) ?_
  refine AOps.p rfl (rfl : _ = (AV.int .i64 (if (i52 : Int) < x54 then x54 else i52))) ?_
  refine AOps.p rfl (rfl : _ = (AV.int .i64 (IntKind.wrap .i64 ((if (i52 : Int) < x54 then x54 else i52) + 1)))) ?_
  obtain ⟨w59, h60, h⟩ := obind h
  refine AOps.pureR rfl rfl rfl (cut_strLH h60) rfl (rfl : _ = (AV.str w59)) ?_
  refine AOps.makeR rfl rfl rfl rfl rfl rfl (rfl : _ = (AV.sl 1 true [(AV.str w59)])) ?_
  obtain ⟨l61, h62, h⟩ := obind h
  obtain ⟨h63, h64⟩ := app_LR h49 (LR.lit (r := rS) (sz := 1) (.cons rfl .nil)) h62
  refine AOps.appL (z := z46) (f := f47) (e := e48) (z' := 1) (f' := true) (e' := [(AV.str w59)]) rfl rfl rfl rfl rfl rfl rfl (appSrc_sl (LR.z (LR.lit (r := rS) (sz := 1) (.cons rfl .nil))) rfl) (LR.z h49) ⟨by decide, by decide, rfl, rfl⟩ rfl rfl h64 (own_tmp h51 rfl rfl) ?_
  refine AOps.assignR rfl rfl rfl (rfl : _ = (AV.sl 1 false (e48 ++ [(AV.str w59)]))) rfl ?_
  refine AOps.nilR ?_
  refine AW.region ?_
  refine AOps.p rfl (rfl : _ = (AV.int .i64 (if (i52 : Int) < x54 then x54 else i52))) ?_
  refine AOps.p rfl (rfl : _ = (AV.int .i64 (IntKind.wrap .i64 ((if (i52 : Int) < x54 then x54 else i52) + 1)))) ?_
  refine AOps.assignR rfl rfl rfl (rfl : _ = (AV.int .i64 (IntKind.wrap .i64 ((if (i52 : Int) < x54 then x54 else i52) + 1)))) rfl ?_
  refine AOps.nilR ?_
  refine AW.inBlock ?_
  cases h
  exact AW.res [(0, (AV.str w1)), (3, (AV.sl 1 false (e48 ++ [(AV.str w59)]))), (4, (AV.eptr [(AV.sl z8 f9 e10), (AV.sl z14 f15 e16), (AV.sl z20 f21 e22), (AV.sl z26 f27 e28), (AV.sl z32 f33 e34)] 0)), (5, (AV.int .i64 (IntKind.wrap .i64 ((if (i52 : Int) < x54 then x54 else i52) + 1))))] [(3, true)] ⟨rfl, rfl, rfl, rfl, trivial⟩ ⟨rfl, trivial⟩ (hL1 _ rfl (1, false, (e48 ++ [(AV.str w59)]), true) _ _ ⟨h63, (Or.inr rfl)⟩)
 refine AW.condF (congrArg AV.bool hc53) ?_
 refine AW.exit rfl ?_
 obtain ⟨r65, hm, hx⟩ := omap h
 clear h
 subst hx
 have hx := hR1 _ rfl
 rw [hx] at hm
 have h := hm
 exact AW.res [(3, (AV.sl z46 f47 e48))] [(3, o50)] ⟨rfl, trivial⟩ ⟨rfl, trivial⟩ (KJ44 (out45, z46, f47, e48, o50) _ _ ⟨h49, h51, h⟩)
theorem impl_Link_isCallLink_ok {l1 : Link} {s : St} {r : Bool} (h : impl_Link_isCallLink l1 = some r) (hs : WF s) : ACall Cf 63 [(AV.agg [(AV.int .i64 l1.From), (AV.int .i64 l1.To), (AV.str l1.Act), (AV.int .i64 l1.Module)])] s fun v _ s' => (rB) r v ∧ s' = s := by
 refine ACall.pure rfl rfl rfl .B ?_
 have hWF := hs.lo'
 unfold impl_Link_isCallLink at h
 refine AW.sr ?_
 refine AOps.makeR rfl rfl rfl rfl rfl rfl (rfl : _ = (AV.eptr [(AV.int .i64 l1.From), (AV.int .i64 l1.To), (AV.str l1.Act), (AV.int .i64 l1.Module)] 0)) ?_
 refine AOps.p rfl (rfl : _ = (AV.bool false)) ?_
 refine AOps.nilR ?_
 refine AW.sr ?_
 refine AOps.p rfl (rfl : _ = (AV.eptr [(AV.int .i64 l1.From), (AV.int .i64 l1.To), (AV.str l1.Act), (AV.int .i64 l1.Module)] 2)) ?_
 refine AOps.ldE (v := (AV.str l1.Act)) rfl rfl rfl rfl rfl rfl ?_
 refine AOps.p rfl (rfl : _ = (AV.int .i64 (l1.Act.length : Int))) ?_
 refine AOps.p rfl (rfl : _ = (AV.bool ((l1.Act.length : Int) == 2))) ?_
 refine AOps.assignR rfl rfl rfl (rfl : _ = (AV.bool ((l1.Act.length : Int) == 2))) rfl ?_
 refine AOps.nilR ?_
 cases h
 exact AW.ret ⟨rfl, _, _, rfl, rfl⟩
theorem impl_Program_matches_ok {rec17 : ProgramT → Int → Int → (List (List UInt8)) → Option Bool} {p1 : ProgramT} {l6 : Link} {f7 : List UInt8} {z2 : Nat} {f3 : Bool} {e4 : List AV} {s : St} (rec17_ok : ∀ {a1 : ProgramT} {a6 : Int} {a7 : Int} {a8 : List (List UInt8)} {z2 : Nat} {f3 : Bool} {e4 : List AV} {z9 : Nat} {f10 : Bool} {e11 : List AV} {s : St} (h5 : LR rModule 2 a1.Modules z2 e4) (h12 : LR rS 1 a8 z9 e11) {r : Bool}, rec17 a1 a6 a7 a8 = some r → WF s → ACall Cf 17 [(AV.agg [(AV.sl z2 f3 e4)]), (AV.int .i64 a6), (AV.int .i64 a7), (AV.sl z9 f10 e11)] s fun v _ s' => (rB) r v ∧ s' = s) (h5 : LR rModule 2 p1.Modules z2 e4) {r : Bool} (h : impl_Program_matches rec17 p1 l6 f7 = some r) (hs : WF s) : ACall Cf 54 [(AV.agg [(AV.sl z2 f3 e4)]), (AV.agg [(AV.int .i64 l6.From), (AV.int .i64 l6.To), (AV.str l6.Act), (AV.int .i64 l6.Module)]), (AV.str f7)] s fun v _ s' => (rB) r v ∧ s' = s := by
 refine ACall.pure rfl rfl rfl .B ?_
 have hWF := hs.lo'
 unfold impl_Program_matches at h
 refine AW.sr ?_
 refine AOps.makeR rfl rfl rfl rfl rfl rfl (rfl : _ = (AV.eptr [(AV.sl z2 f3 e4)] 0)) ?_
 refine AOps.makeR rfl rfl rfl rfl rfl rfl (rfl : _ = (AV.eptr [(AV.int .i64 l6.From), (AV.int .i64 l6.To), (AV.str l6.Act), (AV.int .i64 l6.Module)] 0)) ?_
 refine AOps.p rfl (rfl : _ = (AV.bool false)) ?_
 refine AOps.nilR ?_
 refine AW.sr ?_
 refine AOps.p rfl (rfl : _ = (AV.str f7)) ?_
 refine AOps.p rfl (rfl : _ = (AV.int .i64 (f7.length : Int))) ?_
 refine AOps.p rfl (rfl : _ = (AV.int .i64 (IntKind.wrap .i64 ((f7.length : Int) - 1)))) ?_
 refine AOps.assignR rfl rfl rfl (rfl : _ = (AV.int .i64 (IntKind.wrap .i64 ((f7.length : Int) - 1)))) rfl ?_
 refine AOps.nilR ?_
 refine AW.seq ?_
 refine AW.sr ?_
 refine AOps.p rfl (rfl : _ = (AV.int .i64 (IntKind.wrap .i64 ((f7.length : Int) - 1)))) ?_
 refine AOps.p rfl (rfl : _ = (AV.bool ((IntKind.wrap .i64 ((f7.length : Int) - 1)) == 0))) ?_
 refine AOps.p rfl (rfl : _ = (AV.bool ((IntKind.wrap .i64 ((f7.length : Int) - 1)) == 0))) ?_
 obtain ⟨b9, hb, h⟩ := obind h
 refine AOps.split 4 (fun f' => ∃ tm' os', f' = ⟨updL tm' [(2, (AV.str f7)), (3, (AV.eptr [(AV.sl z2 f3 e4)] 0)), (4, (AV.eptr [(AV.int .i64 l6.From), (AV.int .i64 l6.To), (AV.str l6.Act), (AV.int .i64 l6.Module)] 0)), (7, (AV.int .i64 (IntKind.wrap .i64 ((f7.length : Int) - 1)))), (17, (AV.bool b9))], updL os' [], { s with lo := s.n }⟩) ?_ ?_
 ·rcases oite hb with ⟨hc8, hb⟩ | ⟨hc8, hb⟩
  ·refine AOps.know (d := 13) rfl hc8 ?_
   refine AOps.skipR rfl rfl ?_
   refine AOps.skipR rfl rfl ?_
   refine AOps.skipR rfl rfl ?_
   refine AOps.p rfl (rfl : _ = (AV.bool true)) ?_
   refine AOps.resR [(2, (AV.str f7)), (3, (AV.eptr [(AV.sl z2 f3 e4)] 0)), (4, (AV.eptr [(AV.int .i64 l6.From), (AV.int .i64 l6.To), (AV.str l6.Act), (AV.int .i64 l6.Module)] 0)), (7, (AV.int .i64 (IntKind.wrap .i64 ((f7.length : Int) - 1)))), (17, (AV.bool b9))] [] ?_ ?_ _ ⟨_, _, rfl⟩
   ·exact ⟨rfl, rfl, rfl, rfl, congrArg AV.bool (Option.some.inj hb), trivial⟩
   exact trivial
  ·have h := hb
   refine AOps.know (d := 13) rfl hc8 ?_
   refine AOps.ldE (v := (AV.agg [(AV.int .i64 l6.From), (AV.int .i64 l6.To), (AV.str l6.Act), (AV.int .i64 l6.Module)])) rfl rfl rfl rfl rfl rfl ?_
   obtain ⟨y10, h11, h⟩ := obind h
   refine AOps.callP (g := 63) (args := [(AV.agg [(AV.int .i64 l6.From), (AV.int .i64 l6.To), (AV.str l6.Act), (AV.int .i64 l6.Module)])]) (p := (rB) y10) rfl rfl rfl (impl_Link_isCallLink_ok  h11 hWF) ?_
   intro _ o13 h12
   cases h12
   refine AOps.p rfl (rfl : _ = (AV.bool (!y10))) ?_
   refine AOps.p rfl (rfl : _ = (AV.bool (!y10))) ?_
   refine AOps.resR [(2, (AV.str f7)), (3, (AV.eptr [(AV.sl z2 f3 e4)] 0)), (4, (AV.eptr [(AV.int .i64 l6.From), (AV.int .i64 l6.To), (AV.str l6.Act), (AV.int .i64 l6.Module)] 0)), (7, (AV.int .i64 (IntKind.wrap .i64 ((f7.length : Int) - 1)))), (17, (AV.bool b9))] [] ?_ ?_ _ ⟨_, _, rfl⟩
   ·exact ⟨rfl, rfl, rfl, rfl, congrArg AV.bool (Option.some.inj h), trivial⟩
   exact trivial
 rintro _ ⟨tm, os, rfl⟩
 refine AOps.nilR ?_
 rcases oite h with ⟨hc14, h⟩ | ⟨hc14, h⟩
 ·refine AW.condT (congrArg AV.bool hc14) ?_
  refine AW.sr ?_
  refine AOps.p rfl (rfl : _ = (AV.eptr [(AV.int .i64 l6.From), (AV.int .i64 l6.To), (AV.str l6.Act), (AV.int .i64 l6.Module)] 2)) ?_
  refine AOps.ldE (v := (AV.str l6.Act)) rfl rfl rfl rfl rfl rfl ?_
  refine AOps.p rfl (rfl : _ = (AV.str f7)) ?_
  refine AOps.p rfl (rfl : _ = (AV.bool (l6.Act == f7))) ?_
  refine AOps.assignR rfl rfl rfl (rfl : _ = (AV.bool (l6.Act == f7))) rfl ?_
  refine AOps.nilR ?_
  cases h
  exact AW.ret ⟨rfl, _, _, rfl, rfl⟩
 refine AW.condF (congrArg AV.bool hc14) ?_
 refine AW.skip ?_
 refine AW.sr ?_
 refine AOps.p rfl (rfl : _ = (AV.eptr [(AV.int .i64 l6.From), (AV.int .i64 l6.To), (AV.str l6.Act), (AV.int .i64 l6.Module)] 2)) ?_
 refine AOps.ldE (v := (AV.str l6.Act)) rfl rfl rfl rfl rfl rfl ?_
 refine AOps.p rfl (rfl : _ = (AV.str f7)) ?_
 obtain ⟨w15, h16, h⟩ := obind h
 refine AOps.pureR rfl rfl rfl (cut_strH h16) rfl (rfl : _ = (AV.str w15)) ?_
 refine AOps.p rfl (rfl : _ = (AV.str f7)) ?_
 refine AOps.p rfl (rfl : _ = (AV.int .i64 (IntKind.wrap .i64 ((f7.length : Int) - 1)))) ?_
 obtain ⟨w17, h18, h⟩ := obind h
 refine AOps.pureR rfl rfl rfl (cut_strL h18) rfl (rfl : _ = (AV.str w17)) ?_
 obtain ⟨w19, h20, h⟩ := obind h
 refine AOps.pureR rfl rfl rfl (add_str h20) rfl (rfl : _ = (AV.str w19)) ?_
 refine AOps.p rfl (rfl : _ = (AV.bool (l6.Act == w19))) ?_
 refine AOps.p rfl (rfl : _ = (AV.bool (l6.Act == w19))) ?_
 obtain ⟨b22, hb, h⟩ := obind h
 refine AOps.split 9 (fun f' => ∃ tm' os', f' = ⟨updL tm' [(40, (AV.bool b22))], updL os' [], { s with lo := s.n }⟩) ?_ ?_
 ·rcases oite hb with ⟨hc21, hb⟩ | ⟨hc21, hb⟩
  ·have h := hb
   refine AOps.know (d := 31) rfl hc21 ?_
   refine AOps.ldE (v := (AV.agg [(AV.sl z2 f3 e4)])) rfl rfl rfl rfl rfl rfl ?_
   refine AOps.p rfl (rfl : _ = (AV.eptr [(AV.int .i64 l6.From), (AV.int .i64 l6.To), (AV.str l6.Act), (AV.int .i64 l6.Module)] 3)) ?_
   refine AOps.ldE (v := (AV.int .i64 l6.Module)) rfl rfl rfl rfl rfl rfl ?_
   refine AOps.p rfl (rfl : _ = (AV.str f7)) ?_
   refine AOps.p rfl (rfl : _ = (AV.int .i64 (IntKind.wrap .i64 ((f7.length : Int) - 1)))) ?_
   obtain ⟨w23, h24, h⟩ := obind h
   refine AOps.pureR rfl rfl rfl (cut_strLH h24) rfl (rfl : _ = (AV.str w23)) ?_
   obtain ⟨y25, h26, h⟩ := obind h
   refine AOps.callDP (g := 18) (args := [(AV.str w23)]) (p := (rL rS 1) y25) rfl rfl rfl (impl_factors_ok  h26 hWF.still) (fun v hv => Nice.pure (k := FINK) (p := (rL rS 1) y25) (.L fun _ => .S) _ v hv) ?_
   intro _ o32 h27
   obtain ⟨z28, f29, e30, rfl, h31⟩ := h27
   obtain ⟨y33, h34, h⟩ := obind h
   refine AOps.callDP (g := 17) (args := [(AV.agg [(AV.sl z2 f3 e4)]), (AV.int .i64 l6.Module), (AV.int .i64 0), (AV.sl z28 f29 e30)]) (p := (rB) y33) rfl rfl rfl (rec17_ok h5 h31 h34 hWF.still) (fun v hv => Nice.pure (k := FINK) (p := (rB) y33) .B _ v hv) ?_
   intro _ o36 h35
   cases h35
   refine AOps.p rfl (rfl : _ = (AV.bool y33)) ?_
   refine AOps.resR [(40, (AV.bool b22))] [] ?_ ?_ _ ⟨_, _, rfl⟩
   ·exact ⟨congrArg AV.bool (Option.some.inj h), trivial⟩
   exact trivial
  ·refine AOps.know (d := 31) rfl hc21 ?_
   refine AOps.skipR rfl rfl ?_
   refine AOps.skipR rfl rfl ?_
   refine AOps.skipR rfl rfl ?_
   refine AOps.skipR rfl rfl ?_
   refine AOps.skipR rfl rfl ?_
   refine AOps.skipR rfl rfl ?_
   refine AOps.skipR rfl rfl ?_
   refine AOps.skipR rfl rfl ?_
   refine AOps.p rfl (rfl : _ = (AV.bool false)) ?_
   refine AOps.resR [(40, (AV.bool b22))] [] ?_ ?_ _ ⟨_, _, rfl⟩
   ·exact ⟨congrArg AV.bool (Option.some.inj hb), trivial⟩
   exact trivial
 rintro _ ⟨tm, os, rfl⟩
 refine AOps.assignR rfl rfl rfl (rfl : _ = (AV.bool b22)) rfl ?_
 refine AOps.nilR ?_
 cases h
 exact AW.ret ⟨rfl, _, _, rfl, rfl⟩
theorem impl_Program_after_ok {rec17 : ProgramT → Int → Int → (List (List UInt8)) → Option Bool} {p1 : ProgramT} {module6 : Int} {from7 : Int} {list8 : List (List UInt8)} {z2 : Nat} {f3 : Bool} {e4 : List AV} {z9 : Nat} {f10 : Bool} {e11 : List AV} {s : St} (rec17_ok : ∀ {a1 : ProgramT} {a6 : Int} {a7 : Int} {a8 : List (List UInt8)} {z2 : Nat} {f3 : Bool} {e4 : List AV} {z9 : Nat} {f10 : Bool} {e11 : List AV} {s : St} (h5 : LR rModule 2 a1.Modules z2 e4) (h12 : LR rS 1 a8 z9 e11) {r : Bool}, rec17 a1 a6 a7 a8 = some r → WF s → ACall Cf 17 [(AV.agg [(AV.sl z2 f3 e4)]), (AV.int .i64 a6), (AV.int .i64 a7), (AV.sl z9 f10 e11)] s fun v _ s' => (rB) r v ∧ s' = s) (h5 : LR rModule 2 p1.Modules z2 e4) (h12 : LR rS 1 list8 z9 e11) {r : Int} (h : impl_Program_after rec17 p1 module6 from7 list8 = some r) (hs : WF s) : ACall Cf 38 [(AV.agg [(AV.sl z2 f3 e4)]), (AV.int .i64 module6), (AV.int .u64 from7), (AV.sl z9 f10 e11)] s fun v _ s' => (rI .u64) r v ∧ s' = s := by
 refine ACall.pure rfl rfl rfl .I ?_
 have hWF := hs.lo'
 unfold impl_Program_after at h
 refine AW.sr ?_
 refine AOps.makeR rfl rfl rfl rfl rfl rfl (rfl : _ = (AV.eptr [(AV.sl z2 f3 e4)] 0)) ?_
 refine AOps.p rfl (rfl : _ = (AV.int .u64 0)) ?_
 refine AOps.nilR ?_
 refine AW.seq ?_
 refine AW.sr ?_
 refine AOps.p rfl (rfl : _ = (AV.sl z9 f10 e11)) ?_
 refine AOps.p rfl (len_eq h12) ?_
 refine AOps.p rfl (rfl : _ = (AV.int .i64 0)) ?_
 refine AOps.nilR ?_
 refine AW.meet (σ := Int) (fun from13 tm os => ⟨updL tm [(2, (AV.int .u64 from13))], updL os [], { s with lo := s.n }⟩) (fun from13 => impl_Program_after_J1 from13 = some r) ?_ ?_
 ·rintro from13 tm os h
  unfold impl_Program_after_J1 at h
  refine AW.sr ?_
  refine AOps.p rfl (rfl : _ = (AV.int .u64 from13)) ?_
  refine AOps.assignR rfl rfl rfl (rfl : _ = (AV.int .u64 from13)) rfl ?_
  refine AOps.nilR ?_
  cases h
  exact AW.ret ⟨rfl, _, _, rfl, rfl⟩
 intro KJ14
 refine AW.block ?_
 refine AW.res [(1, (AV.int .i64 module6)), (2, (AV.int .u64 from7)), (4, (AV.eptr [(AV.sl z2 f3 e4)] 0)), (14, (AV.sl z9 f10 e11)), (15, (AV.int .i64 (list8.length : Int))), (16, (AV.int .i64 0))] [] ⟨rfl, rfl, rfl, rfl, rfl, rfl, trivial⟩ trivial ?_
 refine AW.loopF (σ := Int × Int) (τ := Unit) (fun (from15, t16) _ => True) (fun (from15, t16) _ tm os => ⟨updL tm [(1, (AV.int .i64 module6)), (2, (AV.int .u64 from15)), (4, (AV.eptr [(AV.sl z2 f3 e4)] 0)), (14, (AV.sl z9 f10 e11)), (15, (AV.int .i64 (list8.length : Int))), (16, (AV.int .i64 t16))], updL os [], { s with lo := s.n }⟩) ?_ (x := (from7, 0)) (y := ()) h trivial
 clear h
 rintro ⟨from15, t16⟩ _ tm os - ee1 h hL1 hR1
 unfold impl_Program_after_S1 at h
 dsimp only at h
 refine AW.sr ?_
 refine AOps.p rfl (rfl : _ = (AV.bool (decide ((t16 : Int) < (list8.length : Int))))) ?_
 refine AOps.nilR ?_
 refine AW.seq ?_
 rcases oite h with ⟨hc17, h⟩ | ⟨hc17, h⟩
 ·refine AW.condT (congrArg AV.bool hc17) ?_
  refine AW.skip ?_
  refine AW.seq ?_
  refine AW.block ?_
  refine AW.sr ?_
  obtain ⟨x18, h19, h⟩ := obind h
  obtain ⟨v22, h20, h21⟩ := idx_sl h12 h19
  cases h20
  refine AOps.pureR rfl rfl rfl h21 rfl (rfl : _ = (AV.eptr [(AV.str x18)] 0)) ?_
  refine AOps.ldE (v := (AV.str x18)) rfl rfl rfl rfl rfl rfl ?_
  refine AOps.assignR rfl rfl rfl (rfl : _ = (AV.str x18)) rfl ?_
  refine AOps.nilR ?_
  refine AW.sr ?_
  refine AOps.p rfl (rfl : _ = (AV.int .u64 0)) ?_
  refine AOps.nilR ?_
  refine AW.seq ?_
  refine AW.sr ?_
  refine AOps.p rfl (rfl : _ = (AV.eptr [(AV.sl z2 f3 e4)] 0)) ?_
  refine AOps.ldE (v := (AV.sl z2 f3 e4)) rfl rfl rfl rfl rfl rfl ?_
  refine AOps.p rfl (rfl : _ = (AV.int .i64 module6)) ?_
  obtain ⟨x23, h24, h⟩ := obind h
  obtain ⟨v27, h25, h26⟩ := idx_sl h5 h24
  obtain ⟨_, rfl, h28⟩ := h25
  obtain ⟨_, _, rfl, h29, h30⟩ := Cs_cons h28
  cases h29
  obtain ⟨_, _, rfl, h31, h32⟩ := Cs_cons h30
  obtain ⟨z33, f34, e35, rfl, h36⟩ := h31
  cases Cs_nil h32
  refine AOps.pureR rfl rfl rfl h26 rfl (rfl : _ = (AV.eptr [(AV.int .i64 x23.Nodes), (AV.sl z33 f34 e35)] 0)) ?_
  refine AOps.p rfl (rfl : _ = (AV.eptr [(AV.int .i64 x23.Nodes), (AV.sl z33 f34 e35)] 1)) ?_
  refine AOps.ldE (v := (AV.sl z33 f34 e35)) rfl rfl rfl rfl rfl rfl ?_
  refine AOps.p rfl (len_eq h36) ?_
  refine AOps.p rfl (rfl : _ = (AV.int .i64 0)) ?_
  refine AOps.nilR ?_
  refine AW.meet (σ := Int) (fun to37 tm os => ⟨updL tm [(1, (AV.int .i64 module6)), (4, (AV.eptr [(AV.sl z2 f3 e4)] 0)), (11, (AV.int .u64 to37)), (14, (AV.sl z9 f10 e11)), (15, (AV.int .i64 (list8.length : Int))), (16, (AV.int .i64 t16))], updL os [], { s with lo := s.n }⟩) (fun to37 => impl_Program_after_J2 t16 to37 = some ee1) ?_ ?_
  ·rintro to37 tm os h
   unfold impl_Program_after_J2 at h
   refine AW.region ?_
   refine AOps.p rfl (rfl : _ = (AV.int .u64 to37)) ?_
   refine AOps.assignR rfl rfl rfl (rfl : _ = (AV.int .u64 to37)) rfl ?_
   refine AOps.nilR ?_
   refine AW.inBlock ?_
   refine AW.region ?_
   refine AOps.p rfl (rfl : _ = (AV.int .i64 (IntKind.wrap .i64 (t16 + 1)))) ?_
   refine AOps.p rfl (rfl : _ = (AV.int .i64 (IntKind.wrap .i64 (t16 + 1)))) ?_
   refine AOps.nilR ?_
   cases h
   exact AW.res [(1, (AV.int .i64 module6)), (2, (AV.int .u64 to37)), (4, (AV.eptr [(AV.sl z2 f3 e4)] 0)), (14, (AV.sl z9 f10 e11)), (15, (AV.int .i64 (list8.length : Int))), (16, (AV.int .i64 (IntKind.wrap .i64 (t16 + 1))))] [] ⟨rfl, rfl, rfl, rfl, rfl, rfl, trivial⟩ trivial (hL1 _ rfl () _ _ trivial)
  intro KJ38
  refine AW.block ?_
  refine AW.res [(1, (AV.int .i64 module6)), (2, (AV.int .u64 from15)), (4, (AV.eptr [(AV.sl z2 f3 e4)] 0)), (10, (AV.str x18)), (11, (AV.int .u64 0)), (14, (AV.sl z9 f10 e11)), (15, (AV.int .i64 (list8.length : Int))), (16, (AV.int .i64 t16)), (25, (AV.sl z33 f34 e35)), (26, (AV.int .i64 (x23.Links.length : Int))), (27, (AV.int .i64 0))] [] ⟨rfl, rfl, rfl, rfl, rfl, rfl, rfl, rfl, rfl, rfl, rfl, trivial⟩ trivial ?_
  refine AW.loopF (σ := Int × Int) (τ := Unit) (fun (to39, t40) _ => True) (fun (to39, t40) _ tm os => ⟨updL tm [(1, (AV.int .i64 module6)), (2, (AV.int .u64 from15)), (4, (AV.eptr [(AV.sl z2 f3 e4)] 0)), (10, (AV.str x18)), (11, (AV.int .u64 to39)), (14, (AV.sl z9 f10 e11)), (15, (AV.int .i64 (list8.length : Int))), (16, (AV.int .i64 t16)), (25, (AV.sl z33 f34 e35)), (26, (AV.int .i64 (x23.Links.length : Int))), (27, (AV.int .i64 t40))], updL os [], { s with lo := s.n }⟩) ?_ (x := (0, 0)) (y := ()) h trivial
  clear h
  rintro ⟨to39, t40⟩ _ tm os - ee2 h hL2 hR2
  unfold impl_Program_after_S2 at h
  dsimp only at h
  refine AW.sr ?_
  refine AOps.p rfl (rfl : _ = (AV.bool (decide ((t40 : Int) < (x23.Links.length : Int))))) ?_
  refine AOps.nilR ?_
  refine AW.seq ?_
  rcases oite h with ⟨hc41, h⟩ | ⟨hc41, h⟩
  ·refine AW.condT (congrArg AV.bool hc41) ?_
   refine AW.skip ?_
   refine AW.seq ?_
   refine AW.block ?_
   refine AW.sr ?_
   obtain ⟨x42, h43, h⟩ := obind h
   obtain ⟨v46, h44, h45⟩ := idx_sl h36 h43
   obtain ⟨_, rfl, h47⟩ := h44
   obtain ⟨_, _, rfl, h48, h49⟩ := Cs_cons h47
   cases h48
   obtain ⟨_, _, rfl, h50, h51⟩ := Cs_cons h49
   cases h50
   obtain ⟨_, _, rfl, h52, h53⟩ := Cs_cons h51
   cases h52
   obtain ⟨_, _, rfl, h54, h55⟩ := Cs_cons h53
   cases h54
   cases Cs_nil h55
   refine AOps.pureR rfl rfl rfl h45 rfl (rfl : _ = (AV.eptr [(AV.int .i64 x42.From), (AV.int .i64 x42.To), (AV.str x42.Act), (AV.int .i64 x42.Module)] 0)) ?_
   refine AOps.ldE (v := (AV.agg [(AV.int .i64 x42.From), (AV.int .i64 x42.To), (AV.str x42.Act), (AV.int .i64 x42.Module)])) rfl rfl rfl rfl rfl rfl ?_
   refine AOps.allocP rfl rfl rfl rfl ⟨rfl, rfl⟩ rfl ?_
   refine AOps.stP (v := (AV.agg [(AV.int .i64 x42.From), (AV.int .i64 x42.To), (AV.str x42.Act), (AV.int .i64 x42.Module)])) rfl rfl rfl rfl rfl rfl rfl rfl rfl (lt_b rfl) rfl ?_
   refine AOps.nilR ?_
   refine AW.sr ?_
   refine AOps.p rfl (rfl : _ = (AV.int .u64 from15)) ?_
   refine AOps.p rfl (rfl : _ = (AV.eptr [(AV.int .i64 x42.From), (AV.int .i64 x42.To), (AV.str x42.Act), (AV.int .i64 x42.Module)] 0)) ?_
   refine AOps.ldE (v := (AV.int .i64 x42.From)) rfl rfl rfl rfl rfl rfl ?_
   obtain ⟨q56, h57, h⟩ := obind h
   refine AOps.pureR rfl rfl rfl (shr_ok h57) rfl (rfl : _ = (AV.int .u64 q56)) ?_
   refine AOps.p rfl (rfl : _ = (AV.int .u64 (andI .u64 q56 1))) ?_
   refine AOps.p rfl (rfl : _ = (AV.bool ((andI .u64 q56 1) == 1))) ?_
   refine AOps.p rfl (rfl : _ = (AV.bool ((andI .u64 q56 1) == 1))) ?_
   obtain ⟨b59, hb, h⟩ := obind h
   refine AOps.split 5 (fun f' => ∃ tm' os', f' = ⟨updL tm' [(1, (AV.int .i64 module6)), (2, (AV.int .u64 from15)), (4, (AV.eptr [(AV.sl z2 f3 e4)] 0)), (10, (AV.str x18)), (11, (AV.int .u64 to39)), (13, (AV.eptr [(AV.int .i64 x42.From), (AV.int .i64 x42.To), (AV.str x42.Act), (AV.int .i64 x42.Module)] 0)), (14, (AV.sl z9 f10 e11)), (15, (AV.int .i64 (list8.length : Int))), (16, (AV.int .i64 t16)), (25, (AV.sl z33 f34 e35)), (26, (AV.int .i64 (x23.Links.length : Int))), (27, (AV.int .i64 t40)), (42, (AV.bool b59))], updL os' [], { s with lo := s.n }⟩) ?_ ?_
   ·rcases oite hb with ⟨hc58, hb⟩ | ⟨hc58, hb⟩
    ·have h := hb
     refine AOps.know (d := 37) rfl hc58 ?_
     refine AOps.ldE (v := (AV.agg [(AV.sl z2 f3 e4)])) rfl rfl rfl rfl rfl rfl ?_
     refine AOps.ldE (v := (AV.agg [(AV.int .i64 x42.From), (AV.int .i64 x42.To), (AV.str x42.Act), (AV.int .i64 x42.Module)])) rfl rfl rfl rfl rfl rfl ?_
     refine AOps.p rfl (rfl : _ = (AV.str x18)) ?_
     obtain ⟨y60, h61, h⟩ := obind h
     refine AOps.callP (g := 54) (args := [(AV.agg [(AV.sl z2 f3 e4)]), (AV.agg [(AV.int .i64 x42.From), (AV.int .i64 x42.To), (AV.str x42.Act), (AV.int .i64 x42.Module)]), (AV.str x18)]) (p := (rB) y60) rfl rfl rfl (impl_Program_matches_ok rec17_ok h5 h61 hWF) ?_
     intro _ o63 h62
     cases h62
     refine AOps.p rfl (rfl : _ = (AV.bool y60)) ?_
     refine AOps.resR [(1, (AV.int .i64 module6)), (2, (AV.int .u64 from15)), (4, (AV.eptr [(AV.sl z2 f3 e4)] 0)), (10, (AV.str x18)), (11, (AV.int .u64 to39)), (13, (AV.eptr [(AV.int .i64 x42.From), (AV.int .i64 x42.To), (AV.str x42.Act), (AV.int .i64 x42.Module)] 0)), (14, (AV.sl z9 f10 e11)), (15, (AV.int .i64 (list8.length : Int))), (16, (AV.int .i64 t16)), (25, (AV.sl z33 f34 e35)), (26, (AV.int .i64 (x23.Links.length : Int))), (27, (AV.int .i64 t40)), (42, (AV.bool b59))] [] ?_ ?_ _ ⟨_, _, rfl⟩
     ·exact ⟨rfl, rfl, rfl, rfl, rfl, rfl, rfl, rfl, rfl, rfl, rfl, rfl, congrArg AV.bool (Option.some.inj h), trivial⟩
     exact trivial
    ·refine AOps.know (d := 37) rfl hc58 ?_
     refine AOps.skipR rfl rfl ?_
     refine AOps.skipR rfl rfl ?_
     refine AOps.skipR rfl rfl ?_
     refine AOps.skipR rfl rfl ?_
     refine AOps.p rfl (rfl : _ = (AV.bool false)) ?_
     refine AOps.resR [(1, (AV.int .i64 module6)), (2, (AV.int .u64 from15)), (4, (AV.eptr [(AV.sl z2 f3 e4)] 0)), (10, (AV.str x18)), (11, (AV.int .u64 to39)), (13, (AV.eptr [(AV.int .i64 x42.From), (AV.int .i64 x42.To), (AV.str x42.Act), (AV.int .i64 x42.Module)] 0)), (14, (AV.sl z9 f10 e11)), (15, (AV.int .i64 (list8.length : Int))), (16, (AV.int .i64 t16)), (25, (AV.sl z33 f34 e35)), (26, (AV.int .i64 (x23.Links.length : Int))), (27, (AV.int .i64 t40)), (42, (AV.bool b59))] [] ?_ ?_ _ ⟨_, _, rfl⟩
     ·exact ⟨rfl, rfl, rfl, rfl, rfl, rfl, rfl, rfl, rfl, rfl, rfl, rfl, congrArg AV.bool (Option.some.inj hb), trivial⟩
     exact trivial
   rintro _ ⟨tm, os, rfl⟩
   refine AOps.nilR ?_
   refine AW.meet (σ := Int) (fun to64 tm os => ⟨updL tm [(1, (AV.int .i64 module6)), (2, (AV.int .u64 from15)), (4, (AV.eptr [(AV.sl z2 f3 e4)] 0)), (10, (AV.str x18)), (11, (AV.int .u64 to64)), (14, (AV.sl z9 f10 e11)), (15, (AV.int .i64 (list8.length : Int))), (16, (AV.int .i64 t16)), (25, (AV.sl z33 f34 e35)), (26, (AV.int .i64 (x23.Links.length : Int))), (27, (AV.int .i64 t40))], updL os [], { s with lo := s.n }⟩) (fun to64 => impl_Program_after_J3 t40 to64 = some ee2) ?_ ?_
   ·rintro to64 tm os h
    unfold impl_Program_after_J3 at h
    refine AW.inBlock ?_
    refine AW.region ?_
    refine AOps.p rfl (rfl : _ = (AV.int .i64 (IntKind.wrap .i64 (t40 + 1)))) ?_
    refine AOps.p rfl (rfl : _ = (AV.int .i64 (IntKind.wrap .i64 (t40 + 1)))) ?_
    refine AOps.nilR ?_
    cases h
    exact AW.res [(1, (AV.int .i64 module6)), (2, (AV.int .u64 from15)), (4, (AV.eptr [(AV.sl z2 f3 e4)] 0)), (10, (AV.str x18)), (11, (AV.int .u64 to64)), (14, (AV.sl z9 f10 e11)), (15, (AV.int .i64 (list8.length : Int))), (16, (AV.int .i64 t16)), (25, (AV.sl z33 f34 e35)), (26, (AV.int .i64 (x23.Links.length : Int))), (27, (AV.int .i64 (IntKind.wrap .i64 (t40 + 1))))] [] ⟨rfl, rfl, rfl, rfl, rfl, rfl, rfl, rfl, rfl, rfl, rfl, trivial⟩ trivial (hL2 _ rfl () _ _ trivial)
   intro KJ65
   rcases oite h with ⟨hc66, h⟩ | ⟨hc66, h⟩
   ·refine AW.condT (congrArg AV.bool hc66) ?_
    refine AW.region ?_
    refine AOps.p rfl (rfl : _ = (AV.int .u64 to39)) ?_
    refine AOps.p rfl (rfl : _ = (AV.eptr [(AV.int .i64 x42.From), (AV.int .i64 x42.To), (AV.str x42.Act), (AV.int .i64 x42.Module)] 1)) ?_
    refine AOps.ldE (v := (AV.int .i64 x42.To)) rfl rfl rfl rfl rfl rfl ?_
    obtain ⟨q67, h68, h⟩ := obind h
    refine AOps.pureR rfl rfl rfl (shl_ok h68) rfl (rfl : _ = (AV.int .u64 q67)) ?_
    refine AOps.p rfl (rfl : _ = (AV.int .u64 (orI .u64 to39 q67))) ?_
    refine AOps.assignR rfl rfl rfl (rfl : _ = (AV.int .u64 (orI .u64 to39 q67))) rfl ?_
    refine AOps.nilR ?_
    exact AW.res [(1, (AV.int .i64 module6)), (2, (AV.int .u64 from15)), (4, (AV.eptr [(AV.sl z2 f3 e4)] 0)), (10, (AV.str x18)), (11, (AV.int .u64 (orI .u64 to39 q67))), (14, (AV.sl z9 f10 e11)), (15, (AV.int .i64 (list8.length : Int))), (16, (AV.int .i64 t16)), (25, (AV.sl z33 f34 e35)), (26, (AV.int .i64 (x23.Links.length : Int))), (27, (AV.int .i64 t40))] [] ⟨rfl, rfl, rfl, rfl, rfl, rfl, rfl, rfl, rfl, rfl, rfl, trivial⟩ trivial (KJ65 (orI .u64 to39 q67) _ _ h)
   refine AW.condF (congrArg AV.bool hc66) ?_
   refine AW.skip ?_
   exact AW.res [(1, (AV.int .i64 module6)), (2, (AV.int .u64 from15)), (4, (AV.eptr [(AV.sl z2 f3 e4)] 0)), (10, (AV.str x18)), (11, (AV.int .u64 to39)), (14, (AV.sl z9 f10 e11)), (15, (AV.int .i64 (list8.length : Int))), (16, (AV.int .i64 t16)), (25, (AV.sl z33 f34 e35)), (26, (AV.int .i64 (x23.Links.length : Int))), (27, (AV.int .i64 t40))] [] ⟨rfl, rfl, rfl, rfl, rfl, rfl, rfl, rfl, rfl, rfl, rfl, trivial⟩ trivial (KJ65 (to39) _ _ h)
  refine AW.condF (congrArg AV.bool hc41) ?_
  refine AW.exit rfl ?_
  obtain ⟨r69, hm, hx⟩ := omap h
  clear h
  subst hx
  have hx := hR2 _ rfl
  rw [hx] at hm
  have h := hm
  exact AW.res [(1, (AV.int .i64 module6)), (4, (AV.eptr [(AV.sl z2 f3 e4)] 0)), (11, (AV.int .u64 to39)), (14, (AV.sl z9 f10 e11)), (15, (AV.int .i64 (list8.length : Int))), (16, (AV.int .i64 t16))] [] ⟨rfl, rfl, rfl, rfl, rfl, rfl, trivial⟩ trivial (KJ38 (to39) _ _ h)
 refine AW.condF (congrArg AV.bool hc17) ?_
 refine AW.exit rfl ?_
 obtain ⟨r70, hm, hx⟩ := omap h
 clear h
 subst hx
 have hx := hR1 _ rfl
 rw [hx] at hm
 have h := hm
 exact AW.res [(2, (AV.int .u64 from15))] [] ⟨rfl, trivial⟩ trivial (KJ14 (from15) _ _ h)
theorem impl_Program_exit_ok {p1 : ProgramT} {module6 : Int} {z2 : Nat} {f3 : Bool} {e4 : List AV} {s : St} (h5 : LR rModule 2 p1.Modules z2 e4) {r : Int} (h : impl_Program_exit p1 module6 = some r) (hs : WF s) : ACall Cf 39 [(AV.agg [(AV.sl z2 f3 e4)]), (AV.int .i64 module6)] s fun v _ s' => (rI .i64) r v ∧ s' = s := by
 refine ACall.pure rfl rfl rfl .I ?_
 have hWF := hs.lo'
 unfold impl_Program_exit at h
 refine AW.sr ?_
 refine AOps.makeR rfl rfl rfl rfl rfl rfl (rfl : _ = (AV.eptr [(AV.sl z2 f3 e4)] 0)) ?_
 refine AOps.p rfl (rfl : _ = (AV.int .i64 0)) ?_
 refine AOps.nilR ?_
 refine AW.sr ?_
 refine AOps.p rfl (rfl : _ = (AV.eptr [(AV.sl z2 f3 e4)] 0)) ?_
 refine AOps.ldE (v := (AV.sl z2 f3 e4)) rfl rfl rfl rfl rfl rfl ?_
 refine AOps.p rfl (rfl : _ = (AV.int .i64 module6)) ?_
 obtain ⟨x7, h8, h⟩ := obind h
 obtain ⟨v11, h9, h10⟩ := idx_sl h5 h8
 obtain ⟨_, rfl, h12⟩ := h9
 obtain ⟨_, _, rfl, h13, h14⟩ := Cs_cons h12
 cases h13
 obtain ⟨_, _, rfl, h15, h16⟩ := Cs_cons h14
 obtain ⟨z17, f18, e19, rfl, h20⟩ := h15
 cases Cs_nil h16
 refine AOps.pureR rfl rfl rfl h10 rfl (rfl : _ = (AV.eptr [(AV.int .i64 x7.Nodes), (AV.sl z17 f18 e19)] 0)) ?_
 refine AOps.p rfl (rfl : _ = (AV.eptr [(AV.int .i64 x7.Nodes), (AV.sl z17 f18 e19)] 0)) ?_
 refine AOps.ldE (v := (AV.int .i64 x7.Nodes)) rfl rfl rfl rfl rfl rfl ?_
 refine AOps.p rfl (rfl : _ = (AV.int .i64 (IntKind.wrap .i64 (x7.Nodes - 1)))) ?_
 refine AOps.assignR rfl rfl rfl (rfl : _ = (AV.int .i64 (IntKind.wrap .i64 (x7.Nodes - 1)))) rfl ?_
 refine AOps.nilR ?_
 cases h
 exact AW.ret ⟨rfl, _, _, rfl, rfl⟩
theorem impl_Program_can_B_ok {rec17 : ProgramT → Int → Int → (List (List UInt8)) → Option Bool} {p1 : ProgramT} {module6 : Int} {node7 : Int} {list8 : List (List UInt8)} {z2 : Nat} {f3 : Bool} {e4 : List AV} {z9 : Nat} {f10 : Bool} {e11 : List AV} {s : St} (rec17_ok : ∀ {a1 : ProgramT} {a6 : Int} {a7 : Int} {a8 : List (List UInt8)} {z2 : Nat} {f3 : Bool} {e4 : List AV} {z9 : Nat} {f10 : Bool} {e11 : List AV} {s : St} (h5 : LR rModule 2 a1.Modules z2 e4) (h12 : LR rS 1 a8 z9 e11) {r : Bool}, rec17 a1 a6 a7 a8 = some r → WF s → ACall Cf 17 [(AV.agg [(AV.sl z2 f3 e4)]), (AV.int .i64 a6), (AV.int .i64 a7), (AV.sl z9 f10 e11)] s fun v _ s' => (rB) r v ∧ s' = s) (h5 : LR rModule 2 p1.Modules z2 e4) (h12 : LR rS 1 list8 z9 e11) {r : Bool} (h : impl_Program_can_B rec17 p1 module6 node7 list8 = some r) (hs : WF s) : ACall Cf 17 [(AV.agg [(AV.sl z2 f3 e4)]), (AV.int .i64 module6), (AV.int .i64 node7), (AV.sl z9 f10 e11)] s fun v _ s' => (rB) r v ∧ s' = s := by
 refine ACall.pure rfl rfl rfl .B ?_
 have hWF := hs.lo'
 unfold impl_Program_can_B at h
 refine AW.sr ?_
 refine AOps.makeR rfl rfl rfl rfl rfl rfl (rfl : _ = (AV.eptr [(AV.sl z2 f3 e4)] 0)) ?_
 refine AOps.p rfl (rfl : _ = (AV.bool false)) ?_
 refine AOps.nilR ?_
 refine AW.sr ?_
 refine AOps.ldE (v := (AV.agg [(AV.sl z2 f3 e4)])) rfl rfl rfl rfl rfl rfl ?_
 refine AOps.p rfl (rfl : _ = (AV.int .i64 module6)) ?_
 refine AOps.p rfl (rfl : _ = (AV.int .i64 node7)) ?_
 obtain ⟨q13, h14, h⟩ := obind h
 refine AOps.pureR rfl rfl rfl (shl_ok h14) rfl (rfl : _ = (AV.int .u64 q13)) ?_
 refine AOps.p rfl (rfl : _ = (AV.sl z9 f10 e11)) ?_
 obtain ⟨y15, h16, h⟩ := obind h
 refine AOps.callDP (g := 38) (args := [(AV.agg [(AV.sl z2 f3 e4)]), (AV.int .i64 module6), (AV.int .u64 q13), (AV.sl z9 f10 e11)]) (p := (rI .u64) y15) rfl rfl rfl (impl_Program_after_ok rec17_ok h5 h12 h16 hWF.still) (fun v hv => Nice.pure (k := FINK) (p := (rI .u64) y15) .I _ v hv) ?_
 intro _ o18 h17
 cases h17
 refine AOps.ldE (v := (AV.agg [(AV.sl z2 f3 e4)])) rfl rfl rfl rfl rfl rfl ?_
 refine AOps.p rfl (rfl : _ = (AV.int .i64 module6)) ?_
 obtain ⟨y19, h20, h⟩ := obind h
 refine AOps.callDP (g := 39) (args := [(AV.agg [(AV.sl z2 f3 e4)]), (AV.int .i64 module6)]) (p := (rI .i64) y19) rfl rfl rfl (impl_Program_exit_ok h5 h20 hWF.still) (fun v hv => Nice.pure (k := FINK) (p := (rI .i64) y19) .I _ v hv) ?_
 intro _ o22 h21
 cases h21
 obtain ⟨q23, h24, h⟩ := obind h
 refine AOps.pureR rfl rfl rfl (shr_ok h24) rfl (rfl : _ = (AV.int .u64 q23)) ?_
 refine AOps.p rfl (rfl : _ = (AV.int .u64 (andI .u64 q23 1))) ?_
 refine AOps.p rfl (rfl : _ = (AV.bool ((andI .u64 q23 1) == 1))) ?_
 refine AOps.assignR rfl rfl rfl (rfl : _ = (AV.bool ((andI .u64 q23 1) == 1))) rfl ?_
 refine AOps.nilR ?_
 cases h
 exact AW.ret ⟨rfl, _, _, rfl, rfl⟩
theorem impl_Program_can_N_ok (n : Nat) : ∀ {a1 : ProgramT} {a6 : Int} {a7 : Int} {a8 : List (List UInt8)} {z2 : Nat} {f3 : Bool} {e4 : List AV} {z9 : Nat} {f10 : Bool} {e11 : List AV} {s : St} (h5 : LR rModule 2 a1.Modules z2 e4) (h12 : LR rS 1 a8 z9 e11) {r : Bool}, impl_Program_can_N n a1 a6 a7 a8 = some r → WF s → ACall Cf 17 [(AV.agg [(AV.sl z2 f3 e4)]), (AV.int .i64 a6), (AV.int .i64 a7), (AV.sl z9 f10 e11)] s fun v _ s' => (rB) r v ∧ s' = s := by
 induction n with
 | zero => intros; rename_i h _; cases h
 | succ n ih =>
  intros
  rename_i h hs
  exact impl_Program_can_B_ok ih ‹_› ‹_› h hs
theorem impl_Program_can_ok {a1 : ProgramT} {a6 : Int} {a7 : Int} {a8 : List (List UInt8)} {z2 : Nat} {f3 : Bool} {e4 : List AV} {z9 : Nat} {f10 : Bool} {e11 : List AV} {s : St} (h5 : LR rModule 2 a1.Modules z2 e4) (h12 : LR rS 1 a8 z9 e11) {r : Bool} (h : impl_Program_can a1 a6 a7 a8 = some r) (hs : WF s) : ACall Cf 17 [(AV.agg [(AV.sl z2 f3 e4)]), (AV.int .i64 a6), (AV.int .i64 a7), (AV.sl z9 f10 e11)] s fun v _ s' => (rB) r v ∧ s' = s := impl_Program_can_N_ok 1000 h5 h12 h hs
theorem impl_ProgramTakes_ok {p1 : ProgramT} {w6 : List UInt8} {z2 : Nat} {f3 : Bool} {e4 : List AV} {s : St} (h5 : LR rModule 2 p1.Modules z2 e4) {r : Bool × Int} (h : impl_ProgramTakes p1 w6 = some r) (hs : WF s) : ACall Cf 7 [(AV.agg [(AV.sl z2 f3 e4)]), (AV.str w6)] s fun v _ s' => (fun x => rT [rB x.1, (rI .i64) x.2]) r v ∧ s' = s := by
 refine ACall.pure rfl rfl rfl (.T (.cons .B (.cons .I .nil))) ?_
 have hWF := hs.lo'
 unfold impl_ProgramTakes at h
 refine AW.sr ?_
 refine AOps.makeR rfl rfl rfl rfl rfl rfl (rfl : _ = (AV.eptr [(AV.sl z2 f3 e4)] 0)) ?_
 refine AOps.p rfl (rfl : _ = (AV.bool false)) ?_
 refine AOps.p rfl (rfl : _ = (AV.int .i64 0)) ?_
 refine AOps.nilR ?_
 refine AW.seq ?_
 refine AW.sr ?_
 refine AOps.ldE (v := (AV.agg [(AV.sl z2 f3 e4)])) rfl rfl rfl rfl rfl rfl ?_
 obtain ⟨y7, h8, h⟩ := obind h
 refine AOps.callP (g := 14) (args := [(AV.agg [(AV.sl z2 f3 e4)])]) (p := (rB) y7) rfl rfl rfl (impl_ValidProgram_ok h5 h8 hWF) ?_
 intro _ o10 h9
 cases h9
 refine AOps.p rfl (rfl : _ = (AV.bool (!y7))) ?_
 refine AOps.p rfl (rfl : _ = (AV.bool (!y7))) ?_
 obtain ⟨b12, hb, h⟩ := obind h
 refine AOps.split 4 (fun f' => ∃ tm' os', f' = ⟨updL tm' [(1, (AV.str w6)), (2, (AV.eptr [(AV.sl z2 f3 e4)] 0)), (13, (AV.bool b12))], updL os' [], { s with lo := s.n }⟩) ?_ ?_
 ·rcases oite hb with ⟨hc11, hb⟩ | ⟨hc11, hb⟩
  ·refine AOps.know (d := 9) rfl hc11 ?_
   refine AOps.skipR rfl rfl ?_
   refine AOps.skipR rfl rfl ?_
   refine AOps.skipR rfl rfl ?_
   refine AOps.p rfl (rfl : _ = (AV.bool true)) ?_
   refine AOps.resR [(1, (AV.str w6)), (2, (AV.eptr [(AV.sl z2 f3 e4)] 0)), (13, (AV.bool b12))] [] ?_ ?_ _ ⟨_, _, rfl⟩
   ·exact ⟨rfl, rfl, congrArg AV.bool (Option.some.inj hb), trivial⟩
   exact trivial
  ·have h := hb
   refine AOps.know (d := 9) rfl hc11 ?_
   refine AOps.p rfl (rfl : _ = (AV.str w6)) ?_
   obtain ⟨y13, h14, h⟩ := obind h
   refine AOps.callP (g := 15) (args := [(AV.str w6)]) (p := (rB) y13) rfl rfl rfl (impl_ValidWord_ok  h14 hWF) ?_
   intro _ o16 h15
   cases h15
   refine AOps.p rfl (rfl : _ = (AV.bool (!y13))) ?_
   refine AOps.p rfl (rfl : _ = (AV.bool (!y13))) ?_
   refine AOps.resR [(1, (AV.str w6)), (2, (AV.eptr [(AV.sl z2 f3 e4)] 0)), (13, (AV.bool b12))] [] ?_ ?_ _ ⟨_, _, rfl⟩
   ·exact ⟨rfl, rfl, congrArg AV.bool (Option.some.inj h), trivial⟩
   exact trivial
 rintro _ ⟨tm, os, rfl⟩
 refine AOps.nilR ?_
 rcases oite h with ⟨hc17, h⟩ | ⟨hc17, h⟩
 ·refine AW.condT (congrArg AV.bool hc17) ?_
  refine AW.sr ?_
  refine AOps.p rfl (rfl : _ = (AV.bool false)) ?_
  refine AOps.p rfl (rfl : _ = (AV.int .i64 1)) ?_
  refine AOps.nilR ?_
  cases h
  exact AW.ret ⟨rfl, _, _, rfl, ⟨_, rfl, (.cons rfl (.cons rfl .nil))⟩⟩
 refine AW.condF (congrArg AV.bool hc17) ?_
 refine AW.skip ?_
 refine AW.sr ?_
 refine AOps.p rfl (rfl : _ = (AV.str w6)) ?_
 obtain ⟨y18, h19, h⟩ := obind h
 refine AOps.callDP (g := 16) (args := [(AV.str w6)]) (p := (rB) y18) rfl rfl rfl (impl_isMatched_ok  h19 hWF.still) (fun v hv => Nice.pure (k := FINK) (p := (rB) y18) .B _ v hv) ?_
 intro _ o21 h20
 cases h20
 refine AOps.p rfl (rfl : _ = (AV.bool y18)) ?_
 obtain ⟨b23, hb, h⟩ := obind h
 refine AOps.split 5 (fun f' => ∃ tm' os', f' = ⟨updL tm' [(21, (AV.bool b23))], updL os' [], { s with lo := s.n }⟩) ?_ ?_
 ·rcases oite hb with ⟨hc22, hb⟩ | ⟨hc22, hb⟩
  ·have h := hb
   refine AOps.know (d := 16) rfl hc22 ?_
   refine AOps.ldE (v := (AV.agg [(AV.sl z2 f3 e4)])) rfl rfl rfl rfl rfl rfl ?_
   refine AOps.p rfl (rfl : _ = (AV.str w6)) ?_
   obtain ⟨y24, h25, h⟩ := obind h
   refine AOps.callDP (g := 18) (args := [(AV.str w6)]) (p := (rL rS 1) y24) rfl rfl rfl (impl_factors_ok  h25 hWF.still) (fun v hv => Nice.pure (k := FINK) (p := (rL rS 1) y24) (.L fun _ => .S) _ v hv) ?_
   intro _ o31 h26
   obtain ⟨z27, f28, e29, rfl, h30⟩ := h26
   obtain ⟨y32, h33, h⟩ := obind h
   refine AOps.callDP (g := 17) (args := [(AV.agg [(AV.sl z2 f3 e4)]), (AV.int .i64 0), (AV.int .i64 0), (AV.sl z27 f28 e29)]) (p := (rB) y32) rfl rfl rfl (impl_Program_can_ok h5 h30 h33 hWF.still) (fun v hv => Nice.pure (k := FINK) (p := (rB) y32) .B _ v hv) ?_
   intro _ o35 h34
   cases h34
   refine AOps.p rfl (rfl : _ = (AV.bool y32)) ?_
   refine AOps.resR [(21, (AV.bool b23))] [] ?_ ?_ _ ⟨_, _, rfl⟩
   ·exact ⟨congrArg AV.bool (Option.some.inj h), trivial⟩
   exact trivial
  ·refine AOps.know (d := 16) rfl hc22 ?_
   refine AOps.skipR rfl rfl ?_
   refine AOps.skipR rfl rfl ?_
   refine AOps.skipR rfl rfl ?_
   refine AOps.skipR rfl rfl ?_
   refine AOps.p rfl (rfl : _ = (AV.bool false)) ?_
   refine AOps.resR [(21, (AV.bool b23))] [] ?_ ?_ _ ⟨_, _, rfl⟩
   ·exact ⟨congrArg AV.bool (Option.some.inj hb), trivial⟩
   exact trivial
 rintro _ ⟨tm, os, rfl⟩
 refine AOps.assignR rfl rfl rfl (rfl : _ = (AV.bool b23)) rfl ?_
 refine AOps.p rfl (rfl : _ = (AV.int .i64 0)) ?_
 refine AOps.nilR ?_
 cases h
 exact AW.ret ⟨rfl, _, _, rfl, ⟨_, rfl, (.cons rfl (.cons rfl .nil))⟩⟩
theorem laws_eqLink_ok {a1 : Link} {b2 : Link} {s : St} {r : Bool} (h : laws_eqLink a1 b2 = some r) (hs : WF s) : ACall Cf 64 [(AV.agg [(AV.int .i64 a1.From), (AV.int .i64 a1.To), (AV.str a1.Act), (AV.int .i64 a1.Module)]), (AV.agg [(AV.int .i64 b2.From), (AV.int .i64 b2.To), (AV.str b2.Act), (AV.int .i64 b2.Module)])] s fun v _ s' => (rB) r v ∧ s' = s := by
 refine ACall.pure rfl rfl rfl .B ?_
 have hWF := hs.lo'
 unfold laws_eqLink at h
 refine AW.sr ?_
 refine AOps.makeR rfl rfl rfl rfl rfl rfl (rfl : _ = (AV.eptr [(AV.int .i64 a1.From), (AV.int .i64 a1.To), (AV.str a1.Act), (AV.int .i64 a1.Module)] 0)) ?_
 refine AOps.makeR rfl rfl rfl rfl rfl rfl (rfl : _ = (AV.eptr [(AV.int .i64 b2.From), (AV.int .i64 b2.To), (AV.str b2.Act), (AV.int .i64 b2.Module)] 0)) ?_
 refine AOps.p rfl (rfl : _ = (AV.bool false)) ?_
 refine AOps.nilR ?_
 refine AW.seq ?_
 refine AW.sr ?_
 refine AOps.p rfl (rfl : _ = (AV.eptr [(AV.int .i64 a1.From), (AV.int .i64 a1.To), (AV.str a1.Act), (AV.int .i64 a1.Module)] 0)) ?_
 refine AOps.ldE (v := (AV.int .i64 a1.From)) rfl rfl rfl rfl rfl rfl ?_
 refine AOps.p rfl (rfl : _ = (AV.eptr [(AV.int .i64 b2.From), (AV.int .i64 b2.To), (AV.str b2.Act), (AV.int .i64 b2.Module)] 0)) ?_
 refine AOps.ldE (v := (AV.int .i64 b2.From)) rfl rfl rfl rfl rfl rfl ?_
 refine AOps.p rfl (rfl : _ = (AV.bool (a1.From != b2.From))) ?_
 refine AOps.nilR ?_
 rcases oite h with ⟨hc3, h⟩ | ⟨hc3, h⟩
 ·refine AW.condT (congrArg AV.bool hc3) ?_
  refine AW.sr ?_
  refine AOps.p rfl (rfl : _ = (AV.bool false)) ?_
  refine AOps.nilR ?_
  cases h
  exact AW.ret ⟨rfl, _, _, rfl, rfl⟩
 refine AW.condF (congrArg AV.bool hc3) ?_
 refine AW.skip ?_
 refine AW.seq ?_
 refine AW.sr ?_
 refine AOps.p rfl (rfl : _ = (AV.eptr [(AV.int .i64 a1.From), (AV.int .i64 a1.To), (AV.str a1.Act), (AV.int .i64 a1.Module)] 1)) ?_
 refine AOps.ldE (v := (AV.int .i64 a1.To)) rfl rfl rfl rfl rfl rfl ?_
 refine AOps.p rfl (rfl : _ = (AV.eptr [(AV.int .i64 b2.From), (AV.int .i64 b2.To), (AV.str b2.Act), (AV.int .i64 b2.Module)] 1)) ?_
 refine AOps.ldE (v := (AV.int .i64 b2.To)) rfl rfl rfl rfl rfl rfl ?_
 refine AOps.p rfl (rfl : _ = (AV.bool (a1.To != b2.To))) ?_
 refine AOps.nilR ?_
 rcases oite h with ⟨hc4, h⟩ | ⟨hc4, h⟩
 ·refine AW.condT (congrArg AV.bool hc4) ?_
  refine AW.sr ?_
  refine AOps.p rfl (rfl : _ = (AV.bool false)) ?_
  refine AOps.nilR ?_
  cases h
  exact AW.ret ⟨rfl, _, _, rfl, rfl⟩
 refine AW.condF (congrArg AV.bool hc4) ?_
 refine AW.skip ?_
 refine AW.seq ?_
 refine AW.sr ?_
 refine AOps.p rfl (rfl : _ = (AV.eptr [(AV.int .i64 a1.From), (AV.int .i64 a1.To), (AV.str a1.Act), (AV.int .i64 a1.Module)] 2)) ?_
 refine AOps.ldE (v := (AV.str a1.Act)) rfl rfl rfl rfl rfl rfl ?_
 refine AOps.p rfl (rfl : _ = (AV.eptr [(AV.int .i64 b2.From), (AV.int .i64 b2.To), (AV.str b2.Act), (AV.int .i64 b2.Module)] 2)) ?_
 refine AOps.ldE (v := (AV.str b2.Act)) rfl rfl rfl rfl rfl rfl ?_
 refine AOps.p rfl (rfl : _ = (AV.bool (!(a1.Act == b2.Act)))) ?_
 refine AOps.nilR ?_
 rcases oite h with ⟨hc5, h⟩ | ⟨hc5, h⟩
 ·refine AW.condT (congrArg AV.bool hc5) ?_
  refine AW.sr ?_
  refine AOps.p rfl (rfl : _ = (AV.bool false)) ?_
  refine AOps.nilR ?_
  cases h
  exact AW.ret ⟨rfl, _, _, rfl, rfl⟩
 refine AW.condF (congrArg AV.bool hc5) ?_
 refine AW.skip ?_
 refine AW.seq ?_
 refine AW.sr ?_
 refine AOps.p rfl (rfl : _ = (AV.eptr [(AV.int .i64 a1.From), (AV.int .i64 a1.To), (AV.str a1.Act), (AV.int .i64 a1.Module)] 3)) ?_
 refine AOps.ldE (v := (AV.int .i64 a1.Module)) rfl rfl rfl rfl rfl rfl ?_
 refine AOps.p rfl (rfl : _ = (AV.eptr [(AV.int .i64 b2.From), (AV.int .i64 b2.To), (AV.str b2.Act), (AV.int .i64 b2.Module)] 3)) ?_
 refine AOps.ldE (v := (AV.int .i64 b2.Module)) rfl rfl rfl rfl rfl rfl ?_
 refine AOps.p rfl (rfl : _ = (AV.bool (a1.Module != b2.Module))) ?_
 refine AOps.nilR ?_
 rcases oite h with ⟨hc6, h⟩ | ⟨hc6, h⟩
 ·refine AW.condT (congrArg AV.bool hc6) ?_
  refine AW.sr ?_
  refine AOps.p rfl (rfl : _ = (AV.bool false)) ?_
  refine AOps.nilR ?_
  cases h
  exact AW.ret ⟨rfl, _, _, rfl, rfl⟩
 refine AW.condF (congrArg AV.bool hc6) ?_
 refine AW.skip ?_
 refine AW.sr ?_
 refine AOps.p rfl (rfl : _ = (AV.bool true)) ?_
 refine AOps.nilR ?_
 cases h
 exact AW.ret ⟨rfl, _, _, rfl, rfl⟩
theorem laws_eqLinkS_ok {a1 : List Link} {b6 : List Link} {z2 : Nat} {f3 : Bool} {e4 : List AV} {z7 : Nat} {f8 : Bool} {e9 : List AV} {s : St} (h5 : LR rLink 4 a1 z2 e4) (h10 : LR rLink 4 b6 z7 e9) {r : Bool} (h : laws_eqLinkS a1 b6 = some r) (hs : WF s) : ACall Cf 55 [(AV.sl z2 f3 e4), (AV.sl z7 f8 e9)] s fun v _ s' => (rB) r v ∧ s' = s := by
 refine ACall.pure rfl rfl rfl .B ?_
 have hWF := hs.lo'
 unfold laws_eqLinkS at h
 refine AW.sr ?_
 refine AOps.p rfl (rfl : _ = (AV.bool false)) ?_
 refine AOps.nilR ?_
 refine AW.seq ?_
 refine AW.sr ?_
 refine AOps.p rfl (rfl : _ = (AV.sl z2 f3 e4)) ?_
 refine AOps.p rfl (len_eq h5) ?_
 refine AOps.p rfl (rfl : _ = (AV.sl z7 f8 e9)) ?_
 refine AOps.p rfl (len_eq h10) ?_
 refine AOps.p rfl (rfl : _ = (AV.bool ((a1.length : Int) != (b6.length : Int)))) ?_
 refine AOps.nilR ?_
 rcases oite h with ⟨hc11, h⟩ | ⟨hc11, h⟩
 ·refine AW.condT (congrArg AV.bool hc11) ?_
  refine AW.sr ?_
  refine AOps.p rfl (rfl : _ = (AV.bool false)) ?_
  refine AOps.nilR ?_
  cases h
  exact AW.ret ⟨rfl, _, _, rfl, rfl⟩
 refine AW.condF (congrArg AV.bool hc11) ?_
 refine AW.skip ?_
 refine AW.seq ?_
 refine AW.sr ?_
 refine AOps.p rfl (rfl : _ = (AV.int .i64 0)) ?_
 refine AOps.nilR ?_
 refine AW.meet (σ := Unit) (fun _ tm os => ⟨updL tm [], updL os [], { s with lo := s.n }⟩) (fun _ => laws_eqLinkS_J1 = some r) ?_ ?_
 ·rintro _ tm os h
  unfold laws_eqLinkS_J1 at h
  refine AW.sr ?_
  refine AOps.p rfl (rfl : _ = (AV.bool true)) ?_
  refine AOps.nilR ?_
  cases h
  exact AW.ret ⟨rfl, _, _, rfl, rfl⟩
 intro KJ12
 refine AW.block ?_
 refine AW.res [(0, (AV.sl z2 f3 e4)), (1, (AV.sl z7 f8 e9)), (5, (AV.int .i64 0))] [] ⟨rfl, rfl, rfl, trivial⟩ trivial ?_
 refine AW.loopF (σ := Int) (τ := Unit) (fun i13 _ => True) (fun i13 _ tm os => ⟨updL tm [(0, (AV.sl z2 f3 e4)), (1, (AV.sl z7 f8 e9)), (5, (AV.int .i64 i13))], updL os [], { s with lo := s.n }⟩) ?_ (x := (0)) (y := ()) h trivial
 clear h
 rintro i13 _ tm os - ee1 h hL1 hR1
 unfold laws_eqLinkS_S1 at h
 refine AW.seq ?_
 refine AW.sr ?_
 refine AOps.p rfl (rfl : _ = (AV.int .i64 i13)) ?_
 refine AOps.p rfl (rfl : _ = (AV.sl z2 f3 e4)) ?_
 refine AOps.p rfl (len_eq h5) ?_
 refine AOps.p rfl (rfl : _ = (AV.bool (decide ((i13 : Int) < (a1.length : Int))))) ?_
 refine AOps.nilR ?_
 rcases oite h with ⟨hc14, h⟩ | ⟨hc14, h⟩
 ·refine AW.condT (congrArg AV.bool hc14) ?_
  refine AW.skip ?_
  refine AW.seq ?_
  refine AW.block ?_
  refine AW.sr ?_
  refine AOps.p rfl (rfl : _ = (AV.sl z2 f3 e4)) ?_
  refine AOps.p rfl (rfl : _ = (AV.int .i64 i13)) ?_
  obtain ⟨x15, h16, h⟩ := obind h
  obtain ⟨v19, h17, h18⟩ := idx_sl h5 h16
  obtain ⟨_, rfl, h20⟩ := h17
  obtain ⟨_, _, rfl, h21, h22⟩ := Cs_cons h20
  cases h21
  obtain ⟨_, _, rfl, h23, h24⟩ := Cs_cons h22
  cases h23
  obtain ⟨_, _, rfl, h25, h26⟩ := Cs_cons h24
  cases h25
  obtain ⟨_, _, rfl, h27, h28⟩ := Cs_cons h26
  cases h27
  cases Cs_nil h28
  refine AOps.pureR rfl rfl rfl h18 rfl (rfl : _ = (AV.eptr [(AV.int .i64 x15.From), (AV.int .i64 x15.To), (AV.str x15.Act), (AV.int .i64 x15.Module)] 0)) ?_
  refine AOps.ldE (v := (AV.agg [(AV.int .i64 x15.From), (AV.int .i64 x15.To), (AV.str x15.Act), (AV.int .i64 x15.Module)])) rfl rfl rfl rfl rfl rfl ?_
  refine AOps.p rfl (rfl : _ = (AV.sl z7 f8 e9)) ?_
  refine AOps.p rfl (rfl : _ = (AV.int .i64 i13)) ?_
  obtain ⟨x29, h30, h⟩ := obind h
  obtain ⟨v33, h31, h32⟩ := idx_sl h10 h30
  obtain ⟨_, rfl, h34⟩ := h31
  obtain ⟨_, _, rfl, h35, h36⟩ := Cs_cons h34
  cases h35
  obtain ⟨_, _, rfl, h37, h38⟩ := Cs_cons h36
  cases h37
  obtain ⟨_, _, rfl, h39, h40⟩ := Cs_cons h38
  cases h39
  obtain ⟨_, _, rfl, h41, h42⟩ := Cs_cons h40
  cases h41
  cases Cs_nil h42
  refine AOps.pureR rfl rfl rfl h32 rfl (rfl : _ = (AV.eptr [(AV.int .i64 x29.From), (AV.int .i64 x29.To), (AV.str x29.Act), (AV.int .i64 x29.Module)] 0)) ?_
  refine AOps.ldE (v := (AV.agg [(AV.int .i64 x29.From), (AV.int .i64 x29.To), (AV.str x29.Act), (AV.int .i64 x29.Module)])) rfl rfl rfl rfl rfl rfl ?_
  obtain ⟨y43, h44, h⟩ := obind h
  refine AOps.callDP (g := 64) (args := [(AV.agg [(AV.int .i64 x15.From), (AV.int .i64 x15.To), (AV.str x15.Act), (AV.int .i64 x15.Module)]), (AV.agg [(AV.int .i64 x29.From), (AV.int .i64 x29.To), (AV.str x29.Act), (AV.int .i64 x29.Module)])]) (p := (rB) y43) rfl rfl rfl (laws_eqLink_ok  h44 hWF.still) (fun v hv => Nice.pure (k := FINK) (p := (rB) y43) .B _ v hv) ?_
  intro _ o46 h45
  cases h45
  refine AOps.p rfl (rfl : _ = (AV.bool (!y43))) ?_
  refine AOps.nilR ?_
  rcases oite h with ⟨hc47, h⟩ | ⟨hc47, h⟩
  ·refine AW.condT (congrArg AV.bool hc47) ?_
   refine AW.sr ?_
   refine AOps.p rfl (rfl : _ = (AV.bool false)) ?_
   refine AOps.nilR ?_
   cases h
   have hr := hR1 _ rfl
   subst hr
   exact AW.ret ⟨rfl, _, _, rfl, rfl⟩
  refine AW.condF (congrArg AV.bool hc47) ?_
  refine AW.skip ?_
  refine AW.inBlock ?_
  refine AW.region ?_
  refine AOps.p rfl (rfl : _ = (AV.int .i64 i13)) ?_
  refine AOps.p rfl (rfl : _ = (AV.int .i64 (IntKind.wrap .i64 (i13 + 1)))) ?_
  refine AOps.assignR rfl rfl rfl (rfl : _ = (AV.int .i64 (IntKind.wrap .i64 (i13 + 1)))) rfl ?_
  refine AOps.nilR ?_
  cases h
  exact AW.res [(0, (AV.sl z2 f3 e4)), (1, (AV.sl z7 f8 e9)), (5, (AV.int .i64 (IntKind.wrap .i64 (i13 + 1))))] [] ⟨rfl, rfl, rfl, trivial⟩ trivial (hL1 _ rfl () _ _ trivial)
 refine AW.condF (congrArg AV.bool hc14) ?_
 refine AW.exit rfl ?_
 obtain ⟨r48, hm, hx⟩ := omap h
 clear h
 subst hx
 have hx := hR1 _ rfl
 rw [hx] at hm
 have h := hm
 exact AW.res [] [] trivial trivial (KJ12 () _ _ h)
theorem laws_eqModule_ok {a1 : Module} {b6 : Module} {z2 : Nat} {f3 : Bool} {e4 : List AV} {z7 : Nat} {f8 : Bool} {e9 : List AV} {s : St} (h5 : LR rLink 4 a1.Links z2 e4) (h10 : LR rLink 4 b6.Links z7 e9) {r : Bool} (h : laws_eqModule a1 b6 = some r) (hs : WF s) : ACall Cf 40 [(AV.agg [(AV.int .i64 a1.Nodes), (AV.sl z2 f3 e4)]), (AV.agg [(AV.int .i64 b6.Nodes), (AV.sl z7 f8 e9)])] s fun v _ s' => (rB) r v ∧ s' = s := by
 refine ACall.pure rfl rfl rfl .B ?_
 have hWF := hs.lo'
 unfold laws_eqModule at h
 refine AW.sr ?_
 refine AOps.makeR rfl rfl rfl rfl rfl rfl (rfl : _ = (AV.eptr [(AV.int .i64 a1.Nodes), (AV.sl z2 f3 e4)] 0)) ?_
 refine AOps.makeR rfl rfl rfl rfl rfl rfl (rfl : _ = (AV.eptr [(AV.int .i64 b6.Nodes), (AV.sl z7 f8 e9)] 0)) ?_
 refine AOps.p rfl (rfl : _ = (AV.bool false)) ?_
 refine AOps.nilR ?_
 refine AW.seq ?_
 refine AW.sr ?_
 refine AOps.p rfl (rfl : _ = (AV.eptr [(AV.int .i64 a1.Nodes), (AV.sl z2 f3 e4)] 0)) ?_
 refine AOps.ldE (v := (AV.int .i64 a1.Nodes)) rfl rfl rfl rfl rfl rfl ?_
 refine AOps.p rfl (rfl : _ = (AV.eptr [(AV.int .i64 b6.Nodes), (AV.sl z7 f8 e9)] 0)) ?_
 refine AOps.ldE (v := (AV.int .i64 b6.Nodes)) rfl rfl rfl rfl rfl rfl ?_
 refine AOps.p rfl (rfl : _ = (AV.bool (a1.Nodes != b6.Nodes))) ?_
 refine AOps.nilR ?_
 rcases oite h with ⟨hc11, h⟩ | ⟨hc11, h⟩
 ·refine AW.condT (congrArg AV.bool hc11) ?_
  refine AW.sr ?_
  refine AOps.p rfl (rfl : _ = (AV.bool false)) ?_
  refine AOps.nilR ?_
  cases h
  exact AW.ret ⟨rfl, _, _, rfl, rfl⟩
 refine AW.condF (congrArg AV.bool hc11) ?_
 refine AW.skip ?_
 refine AW.seq ?_
 refine AW.sr ?_
 refine AOps.p rfl (rfl : _ = (AV.eptr [(AV.int .i64 a1.Nodes), (AV.sl z2 f3 e4)] 1)) ?_
 refine AOps.ldE (v := (AV.sl z2 f3 e4)) rfl rfl rfl rfl rfl rfl ?_
 refine AOps.p rfl (rfl : _ = (AV.eptr [(AV.int .i64 b6.Nodes), (AV.sl z7 f8 e9)] 1)) ?_
 refine AOps.ldE (v := (AV.sl z7 f8 e9)) rfl rfl rfl rfl rfl rfl ?_
 obtain ⟨y12, h13, h⟩ := obind h
 refine AOps.callP (g := 55) (args := [(AV.sl z2 f3 e4), (AV.sl z7 f8 e9)]) (p := (rB) y12) rfl rfl rfl (laws_eqLinkS_ok h5 h10 h13 hWF) ?_
 intro _ o15 h14
 cases h14
 refine AOps.p rfl (rfl : _ = (AV.bool (!y12))) ?_
 refine AOps.nilR ?_
 rcases oite h with ⟨hc16, h⟩ | ⟨hc16, h⟩
 ·refine AW.condT (congrArg AV.bool hc16) ?_
  refine AW.sr ?_
  refine AOps.p rfl (rfl : _ = (AV.bool false)) ?_
  refine AOps.nilR ?_
  cases h
  exact AW.ret ⟨rfl, _, _, rfl, rfl⟩
 refine AW.condF (congrArg AV.bool hc16) ?_
 refine AW.skip ?_
 refine AW.sr ?_
 refine AOps.p rfl (rfl : _ = (AV.bool true)) ?_
 refine AOps.nilR ?_
 cases h
 exact AW.ret ⟨rfl, _, _, rfl, rfl⟩
theorem laws_eqModuleS_ok {a1 : List Module} {b6 : List Module} {z2 : Nat} {f3 : Bool} {e4 : List AV} {z7 : Nat} {f8 : Bool} {e9 : List AV} {s : St} (h5 : LR rModule 2 a1 z2 e4) (h10 : LR rModule 2 b6 z7 e9) {r : Bool} (h : laws_eqModuleS a1 b6 = some r) (hs : WF s) : ACall Cf 19 [(AV.sl z2 f3 e4), (AV.sl z7 f8 e9)] s fun v _ s' => (rB) r v ∧ s' = s := by
 refine ACall.pure rfl rfl rfl .B ?_
 have hWF := hs.lo'
 unfold laws_eqModuleS at h
 refine AW.sr ?_
 refine AOps.p rfl (rfl : _ = (AV.bool false)) ?_
 refine AOps.nilR ?_
 refine AW.seq ?_
 refine AW.sr ?_
 refine AOps.p rfl (rfl : _ = (AV.sl z2 f3 e4)) ?_
 refine AOps.p rfl (len_eq h5) ?_
 refine AOps.p rfl (rfl : _ = (AV.sl z7 f8 e9)) ?_
 refine AOps.p rfl (len_eq h10) ?_
 refine AOps.p rfl (rfl : _ = (AV.bool ((a1.length : Int) != (b6.length : Int)))) ?_
 refine AOps.nilR ?_
 rcases oite h with ⟨hc11, h⟩ | ⟨hc11, h⟩
 ·refine AW.condT (congrArg AV.bool hc11) ?_
  refine AW.sr ?_
  refine AOps.p rfl (rfl : _ = (AV.bool false)) ?_
  refine AOps.nilR ?_
  cases h
  exact AW.ret ⟨rfl, _, _, rfl, rfl⟩
 refine AW.condF (congrArg AV.bool hc11) ?_
 refine AW.skip ?_
 refine AW.seq ?_
 refine AW.sr ?_
 refine AOps.p rfl (rfl : _ = (AV.int .i64 0)) ?_
 refine AOps.nilR ?_
 refine AW.meet (σ := Unit) (fun _ tm os => ⟨updL tm [], updL os [], { s with lo := s.n }⟩) (fun _ => laws_eqModuleS_J1 = some r) ?_ ?_
 ·rintro _ tm os h
  unfold laws_eqModuleS_J1 at h
  refine AW.sr ?_
  refine AOps.p rfl (rfl : _ = (AV.bool true)) ?_
  refine AOps.nilR ?_
  cases h
  exact AW.ret ⟨rfl, _, _, rfl, rfl⟩
 intro KJ12
 refine AW.block ?_
 refine AW.res [(0, (AV.sl z2 f3 e4)), (1, (AV.sl z7 f8 e9)), (5, (AV.int .i64 0))] [] ⟨rfl, rfl, rfl, trivial⟩ trivial ?_
 refine AW.loopF (σ := Int) (τ := Unit) (fun i13 _ => True) (fun i13 _ tm os => ⟨updL tm [(0, (AV.sl z2 f3 e4)), (1, (AV.sl z7 f8 e9)), (5, (AV.int .i64 i13))], updL os [], { s with lo := s.n }⟩) ?_ (x := (0)) (y := ()) h trivial
 clear h
 rintro i13 _ tm os - ee1 h hL1 hR1
 unfold laws_eqModuleS_S1 at h
 refine AW.seq ?_
 refine AW.sr ?_
 refine AOps.p rfl (rfl : _ = (AV.int .i64 i13)) ?_
 refine AOps.p rfl (rfl : _ = (AV.sl z2 f3 e4)) ?_
 refine AOps.p rfl (len_eq h5) ?_
 refine AOps.p rfl (rfl : _ = (AV.bool (decide ((i13 : Int) < (a1.length : Int))))) ?_
 refine AOps.nilR ?_
 rcases oite h with ⟨hc14, h⟩ | ⟨hc14, h⟩
 ·refine AW.condT (congrArg AV.bool hc14) ?_
  refine AW.skip ?_
  refine AW.seq ?_
  refine AW.block ?_
  refine AW.sr ?_
  refine AOps.p rfl (rfl : _ = (AV.sl z2 f3 e4)) ?_
  refine AOps.p rfl (rfl : _ = (AV.int .i64 i13)) ?_
  obtain ⟨x15, h16, h⟩ := obind h
  obtain ⟨v19, h17, h18⟩ := idx_sl h5 h16
  obtain ⟨_, rfl, h20⟩ := h17
  obtain ⟨_, _, rfl, h21, h22⟩ := Cs_cons h20
  cases h21
  obtain ⟨_, _, rfl, h23, h24⟩ := Cs_cons h22
  obtain ⟨z25, f26, e27, rfl, h28⟩ := h23
  cases Cs_nil h24
  refine AOps.pureR rfl rfl rfl h18 rfl (rfl : _ = (AV.eptr [(AV.int .i64 x15.Nodes), (AV.sl z25 f26 e27)] 0)) ?_
  refine AOps.ldE (v := (AV.agg [(AV.int .i64 x15.Nodes), (AV.sl z25 f26 e27)])) rfl rfl rfl rfl rfl rfl ?_
  refine AOps.p rfl (rfl : _ = (AV.sl z7 f8 e9)) ?_
  refine AOps.p rfl (rfl : _ = (AV.int .i64 i13)) ?_
  obtain ⟨x29, h30, h⟩ := obind h
  obtain ⟨v33, h31, h32⟩ := idx_sl h10 h30
  obtain ⟨_, rfl, h34⟩ := h31
  obtain ⟨_, _, rfl, h35, h36⟩ := Cs_cons h34
  cases h35
  obtain ⟨_, _, rfl, h37, h38⟩ := Cs_cons h36
  obtain ⟨z39, f40, e41, rfl, h42⟩ := h37
  cases Cs_nil h38
  refine AOps.pureR rfl rfl rfl h32 rfl (rfl : _ = (AV.eptr [(AV.int .i64 x29.Nodes), (AV.sl z39 f40 e41)] 0)) ?_
  refine AOps.ldE (v := (AV.agg [(AV.int .i64 x29.Nodes), (AV.sl z39 f40 e41)])) rfl rfl rfl rfl rfl rfl ?_
  obtain ⟨y43, h44, h⟩ := obind h
  refine AOps.callDP (g := 40) (args := [(AV.agg [(AV.int .i64 x15.Nodes), (AV.sl z25 f26 e27)]), (AV.agg [(AV.int .i64 x29.Nodes), (AV.sl z39 f40 e41)])]) (p := (rB) y43) rfl rfl rfl (laws_eqModule_ok h28 h42 h44 hWF.still) (fun v hv => Nice.pure (k := FINK) (p := (rB) y43) .B _ v hv) ?_
  intro _ o46 h45
  cases h45
  refine AOps.p rfl (rfl : _ = (AV.bool (!y43))) ?_
  refine AOps.nilR ?_
  rcases oite h with ⟨hc47, h⟩ | ⟨hc47, h⟩
  ·refine AW.condT (congrArg AV.bool hc47) ?_
   refine AW.sr ?_
   refine AOps.p rfl (rfl : _ = (AV.bool false)) ?_
   refine AOps.nilR ?_
   cases h
   have hr := hR1 _ rfl
   subst hr
   exact AW.ret ⟨rfl, _, _, rfl, rfl⟩
  refine AW.condF (congrArg AV.bool hc47) ?_
  refine AW.skip ?_
  refine AW.inBlock ?_
  refine AW.region ?_
  refine AOps.p rfl (rfl : _ = (AV.int .i64 i13)) ?_
  refine AOps.p rfl (rfl : _ = (AV.int .i64 (IntKind.wrap .i64 (i13 + 1)))) ?_
  refine AOps.assignR rfl rfl rfl (rfl : _ = (AV.int .i64 (IntKind.wrap .i64 (i13 + 1)))) rfl ?_
  refine AOps.nilR ?_
  cases h
  exact AW.res [(0, (AV.sl z2 f3 e4)), (1, (AV.sl z7 f8 e9)), (5, (AV.int .i64 (IntKind.wrap .i64 (i13 + 1))))] [] ⟨rfl, rfl, rfl, trivial⟩ trivial (hL1 _ rfl () _ _ trivial)
 refine AW.condF (congrArg AV.bool hc14) ?_
 refine AW.exit rfl ?_
 obtain ⟨r48, hm, hx⟩ := omap h
 clear h
 subst hx
 have hx := hR1 _ rfl
 rw [hx] at hm
 have h := hm
 exact AW.res [] [] trivial trivial (KJ12 () _ _ h)
theorem laws_eqProgram_ok {a1 : ProgramT} {b6 : ProgramT} {z2 : Nat} {f3 : Bool} {e4 : List AV} {z7 : Nat} {f8 : Bool} {e9 : List AV} {s : St} (h5 : LR rModule 2 a1.Modules z2 e4) (h10 : LR rModule 2 b6.Modules z7 e9) {r : Bool} (h : laws_eqProgram a1 b6 = some r) (hs : WF s) : ACall Cf 8 [(AV.agg [(AV.sl z2 f3 e4)]), (AV.agg [(AV.sl z7 f8 e9)])] s fun v _ s' => (rB) r v ∧ s' = s := by
 refine ACall.pure rfl rfl rfl .B ?_
 have hWF := hs.lo'
 unfold laws_eqProgram at h
 refine AW.sr ?_
 refine AOps.makeR rfl rfl rfl rfl rfl rfl (rfl : _ = (AV.eptr [(AV.sl z2 f3 e4)] 0)) ?_
 refine AOps.makeR rfl rfl rfl rfl rfl rfl (rfl : _ = (AV.eptr [(AV.sl z7 f8 e9)] 0)) ?_
 refine AOps.p rfl (rfl : _ = (AV.bool false)) ?_
 refine AOps.nilR ?_
 refine AW.seq ?_
 refine AW.sr ?_
 refine AOps.p rfl (rfl : _ = (AV.eptr [(AV.sl z2 f3 e4)] 0)) ?_
 refine AOps.ldE (v := (AV.sl z2 f3 e4)) rfl rfl rfl rfl rfl rfl ?_
 refine AOps.p rfl (rfl : _ = (AV.eptr [(AV.sl z7 f8 e9)] 0)) ?_
 refine AOps.ldE (v := (AV.sl z7 f8 e9)) rfl rfl rfl rfl rfl rfl ?_
 obtain ⟨y11, h12, h⟩ := obind h
 refine AOps.callP (g := 19) (args := [(AV.sl z2 f3 e4), (AV.sl z7 f8 e9)]) (p := (rB) y11) rfl rfl rfl (laws_eqModuleS_ok h5 h10 h12 hWF) ?_
 intro _ o14 h13
 cases h13
 refine AOps.p rfl (rfl : _ = (AV.bool (!y11))) ?_
 refine AOps.nilR ?_
 rcases oite h with ⟨hc15, h⟩ | ⟨hc15, h⟩
 ·refine AW.condT (congrArg AV.bool hc15) ?_
  refine AW.sr ?_
  refine AOps.p rfl (rfl : _ = (AV.bool false)) ?_
  refine AOps.nilR ?_
  cases h
  exact AW.ret ⟨rfl, _, _, rfl, rfl⟩
 refine AW.condF (congrArg AV.bool hc15) ?_
 refine AW.skip ?_
 refine AW.sr ?_
 refine AOps.p rfl (rfl : _ = (AV.bool true)) ?_
 refine AOps.nilR ?_
 cases h
 exact AW.ret ⟨rfl, _, _, rfl, rfl⟩
theorem laws_FnExactProgramTakes_ok {aP1 : ProgramT} {aW6 : List UInt8} {z2 : Nat} {f3 : Bool} {e4 : List AV} {s : St} (h5 : LR rModule 2 aP1.Modules z2 e4) {r : Bool} (h : laws_FnExactProgramTakes aP1 aW6 = some r) (hs : WF s) : ACall Cf 3 [(AV.agg [(AV.sl z2 f3 e4)]), (AV.str aW6)] s fun v _ s' => (rB) r v ∧ s' = s := by
 refine ACall.pure rfl rfl rfl .B ?_
 have hWF := hs.lo'
 unfold laws_FnExactProgramTakes at h
 refine AW.sr ?_
 refine AOps.makeR rfl rfl rfl rfl rfl rfl (rfl : _ = (AV.eptr [(AV.sl z2 f3 e4)] 0)) ?_
 refine AOps.p rfl (rfl : _ = (AV.bool false)) ?_
 refine AOps.nilR ?_
 refine AW.seq ?_
 refine AW.sr ?_
 refine AOps.p rfl (rfl : _ = (AV.str aW6)) ?_
 refine AOps.p rfl (rfl : _ = (AV.int .i64 (aW6.length : Int))) ?_
 refine AOps.p rfl (rfl : _ = (AV.bool (decide (((aW6.length : Int) : Int) > 1048576)))) ?_
 refine AOps.nilR ?_
 rcases oite h with ⟨hc7, h⟩ | ⟨hc7, h⟩
 ·refine AW.condT (congrArg AV.bool hc7) ?_
  refine AW.sr ?_
  refine AOps.p rfl (rfl : _ = (AV.bool true)) ?_
  refine AOps.nilR ?_
  cases h
  exact AW.ret ⟨rfl, _, _, rfl, rfl⟩
 refine AW.condF (congrArg AV.bool hc7) ?_
 refine AW.skip ?_
 refine AW.sr ?_
 refine AOps.p rfl (rfl : _ = (AV.int .i64 1048576)) ?_
 refine AOps.nilR ?_
 refine AW.sr ?_
 refine AOps.ldE (v := (AV.agg [(AV.sl z2 f3 e4)])) rfl rfl rfl rfl rfl rfl ?_
 refine AOps.p rfl (rfl : _ = (AV.int .i64 1048576)) ?_
 obtain ⟨y8, h9, h⟩ := obind h
 refine AOps.callP (g := 4) (args := [(AV.agg [(AV.sl z2 f3 e4)]), (AV.int .i64 1048576)]) (p := (rI .i64) y8) rfl rfl rfl (laws_szProgram_ok h5 h9 hWF) ?_
 intro _ o11 h10
 cases h10
 refine AOps.assignR rfl rfl rfl (rfl : _ = (AV.int .i64 y8)) rfl ?_
 refine AOps.nilR ?_
 refine AW.seq ?_
 refine AW.sr ?_
 refine AOps.p rfl (rfl : _ = (AV.int .i64 y8)) ?_
 refine AOps.p rfl (rfl : _ = (AV.bool (decide ((y8 : Int) < 0)))) ?_
 refine AOps.nilR ?_
 rcases oite h with ⟨hc12, h⟩ | ⟨hc12, h⟩
 ·refine AW.condT (congrArg AV.bool hc12) ?_
  refine AW.sr ?_
  refine AOps.p rfl (rfl : _ = (AV.bool true)) ?_
  refine AOps.nilR ?_
  cases h
  exact AW.ret ⟨rfl, _, _, rfl, rfl⟩
 refine AW.condF (congrArg AV.bool hc12) ?_
 refine AW.skip ?_
 refine AW.sr ?_
 refine AOps.ldE (v := (AV.agg [(AV.sl z2 f3 e4)])) rfl rfl rfl rfl rfl rfl ?_
 obtain ⟨y13, h14, h⟩ := obind h
 refine AOps.callP (g := 6) (args := [(AV.agg [(AV.sl z2 f3 e4)])]) (p := (rProgramT) y13) rfl rfl rfl (laws_toProgram_ok h5 h14 hWF) ?_
 intro _ o23 h15
 obtain ⟨_, rfl, h16⟩ := h15
 obtain ⟨_, _, rfl, h17, h18⟩ := Cs_cons h16
 obtain ⟨z19, f20, e21, rfl, h22⟩ := h17
 cases Cs_nil h18
 refine AOps.p rfl (rfl : _ = (AV.str aW6)) ?_
 obtain ⟨y24, h25, h⟩ := obind h
 refine AOps.callP (g := 5) (args := [(AV.agg [(AV.sl z19 f20 e21)]), (AV.str aW6)]) (p := (fun x => rT [rB x.1, (rI .i64) x.2]) y24) rfl rfl rfl (spec_ProgramTakes_ok h22 h25 hWF) ?_
 intro _ o32 h26
 obtain ⟨_, rfl, h27⟩ := h26
 obtain ⟨_, _, rfl, h28, h29⟩ := Cs_cons h27
 cases h28
 obtain ⟨_, _, rfl, h30, h31⟩ := Cs_cons h29
 cases h30
 cases Cs_nil h31
 refine AOps.p rfl (rfl : _ = (AV.tup [(AV.bool y24.1), (AV.int .i64 y24.2)])) ?_
 refine AOps.p rfl (rfl : _ = (AV.bool y24.1)) ?_
 refine AOps.p rfl (rfl : _ = (AV.int .i64 y24.2)) ?_
 refine AOps.assignR rfl rfl rfl (rfl : _ = (AV.bool y24.1)) rfl ?_
 refine AOps.assignR rfl rfl rfl (rfl : _ = (AV.int .i64 y24.2)) rfl ?_
 refine AOps.nilR ?_
 refine AW.sr ?_
 refine AOps.ldE (v := (AV.agg [(AV.sl z2 f3 e4)])) rfl rfl rfl rfl rfl rfl ?_
 obtain ⟨y33, h34, h⟩ := obind h
 refine AOps.callP (g := 6) (args := [(AV.agg [(AV.sl z2 f3 e4)])]) (p := (rProgramT) y33) rfl rfl rfl (laws_toProgram_ok h5 h34 hWF) ?_
 intro _ o43 h35
 obtain ⟨_, rfl, h36⟩ := h35
 obtain ⟨_, _, rfl, h37, h38⟩ := Cs_cons h36
 obtain ⟨z39, f40, e41, rfl, h42⟩ := h37
 cases Cs_nil h38
 refine AOps.allocP rfl rfl rfl rfl ⟨rfl, rfl⟩ rfl ?_
 refine AOps.stP (v := (AV.agg [(AV.sl z39 f40 e41)])) rfl rfl rfl rfl rfl rfl rfl rfl rfl (lt_b rfl) rfl ?_
 refine AOps.nilR ?_
 refine AW.sr ?_
 refine AOps.ldE (v := (AV.agg [(AV.sl z39 f40 e41)])) rfl rfl rfl rfl rfl rfl ?_
 refine AOps.p rfl (rfl : _ = (AV.str aW6)) ?_
 obtain ⟨y44, h45, h⟩ := obind h
 refine AOps.callP (g := 7) (args := [(AV.agg [(AV.sl z39 f40 e41)]), (AV.str aW6)]) (p := (fun x => rT [rB x.1, (rI .i64) x.2]) y44) rfl rfl rfl (impl_ProgramTakes_ok h42 h45 hWF) ?_
 intro _ o52 h46
 obtain ⟨_, rfl, h47⟩ := h46
 obtain ⟨_, _, rfl, h48, h49⟩ := Cs_cons h47
 cases h48
 obtain ⟨_, _, rfl, h50, h51⟩ := Cs_cons h49
 cases h50
 cases Cs_nil h51
 refine AOps.p rfl (rfl : _ = (AV.tup [(AV.bool y44.1), (AV.int .i64 y44.2)])) ?_
 refine AOps.p rfl (rfl : _ = (AV.bool y44.1)) ?_
 refine AOps.p rfl (rfl : _ = (AV.int .i64 y44.2)) ?_
 refine AOps.assignR rfl rfl rfl (rfl : _ = (AV.bool y44.1)) rfl ?_
 refine AOps.assignR rfl rfl rfl (rfl : _ = (AV.int .i64 y44.2)) rfl ?_
 refine AOps.nilR ?_
 refine AW.seq ?_
 refine AW.sr ?_
 refine AOps.p rfl (rfl : _ = (AV.bool y44.1)) ?_
 refine AOps.p rfl (rfl : _ = (AV.bool y24.1)) ?_
 refine AOps.p rfl (rfl : _ = (AV.bool (!(y44.1 == y24.1)))) ?_
 refine AOps.p rfl (rfl : _ = (AV.bool (!(y44.1 == y24.1)))) ?_
 refine AOps.split 4 (fun f' => ∃ tm' os', f' = ⟨updL tm' [(2, (AV.eptr [(AV.sl z2 f3 e4)] 0)), (8, (AV.eptr [(AV.sl z39 f40 e41)] 0)), (41, (AV.bool ((!(y44.1 == y24.1)) || (y44.2 != y24.2))))], updL os' [], { s with lo := s.n }⟩) ?_ ?_
 ·rcases Bool.eq_false_or_eq_true (!(y44.1 == y24.1)) with hc53 | hc53
  ·refine AOps.know (d := 37) rfl hc53 ?_
   refine AOps.skipR rfl rfl ?_
   refine AOps.skipR rfl rfl ?_
   refine AOps.skipR rfl rfl ?_
   refine AOps.p rfl (rfl : _ = (AV.bool true)) ?_
   refine AOps.resR [(2, (AV.eptr [(AV.sl z2 f3 e4)] 0)), (8, (AV.eptr [(AV.sl z39 f40 e41)] 0)), (41, (AV.bool ((!(y44.1 == y24.1)) || (y44.2 != y24.2))))] [] ?_ ?_ _ ⟨_, _, rfl⟩
   ·exact ⟨rfl, rfl, congrArg AV.bool (or_t hc53), trivial⟩
   exact trivial
  ·refine AOps.know (d := 37) rfl hc53 ?_
   refine AOps.p rfl (rfl : _ = (AV.int .i64 y44.2)) ?_
   refine AOps.p rfl (rfl : _ = (AV.int .i64 y24.2)) ?_
   refine AOps.p rfl (rfl : _ = (AV.bool (y44.2 != y24.2))) ?_
   refine AOps.p rfl (rfl : _ = (AV.bool (y44.2 != y24.2))) ?_
   refine AOps.resR [(2, (AV.eptr [(AV.sl z2 f3 e4)] 0)), (8, (AV.eptr [(AV.sl z39 f40 e41)] 0)), (41, (AV.bool ((!(y44.1 == y24.1)) || (y44.2 != y24.2))))] [] ?_ ?_ _ ⟨_, _, rfl⟩
   ·exact ⟨rfl, rfl, congrArg AV.bool (or_f hc53), trivial⟩
   exact trivial
 rintro _ ⟨tm, os, rfl⟩
 refine AOps.nilR ?_
 rcases oite h with ⟨hc54, h⟩ | ⟨hc54, h⟩
 ·refine AW.condT (congrArg AV.bool hc54) ?_
  refine AW.sr ?_
  refine AOps.p rfl (rfl : _ = (AV.bool false)) ?_
  refine AOps.nilR ?_
  cases h
  exact AW.ret ⟨rfl, _, _, rfl, rfl⟩
 refine AW.condF (congrArg AV.bool hc54) ?_
 refine AW.skip ?_
 refine AW.seq ?_
 refine AW.sr ?_
 refine AOps.ldE (v := (AV.agg [(AV.sl z39 f40 e41)])) rfl rfl rfl rfl rfl rfl ?_
 refine AOps.ldE (v := (AV.agg [(AV.sl z2 f3 e4)])) rfl rfl rfl rfl rfl rfl ?_
 obtain ⟨y55, h56, h⟩ := obind h
 refine AOps.callDP (g := 6) (args := [(AV.agg [(AV.sl z2 f3 e4)])]) (p := (rProgramT) y55) rfl rfl rfl (laws_toProgram_ok h5 h56 hWF.still) (fun v hv => Nice.pure (k := FINK) (p := (rProgramT) y55) (.A (.cons (.L fun _ => (.A (.cons .I (.cons (.L fun _ => (.A (.cons .I (.cons .I (.cons .S (.cons .I .nil)))))) .nil)))) .nil)) _ v hv) ?_
 intro _ o65 h57
 obtain ⟨_, rfl, h58⟩ := h57
 obtain ⟨_, _, rfl, h59, h60⟩ := Cs_cons h58
 obtain ⟨z61, f62, e63, rfl, h64⟩ := h59
 cases Cs_nil h60
 obtain ⟨y66, h67, h⟩ := obind h
 refine AOps.callDP (g := 8) (args := [(AV.agg [(AV.sl z39 f40 e41)]), (AV.agg [(AV.sl z61 f62 e63)])]) (p := (rB) y66) rfl rfl rfl (laws_eqProgram_ok h42 h64 h67 hWF.still) (fun v hv => Nice.pure (k := FINK) (p := (rB) y66) .B _ v hv) ?_
 intro _ o69 h68
 cases h68
 refine AOps.p rfl (rfl : _ = (AV.bool (!y66))) ?_
 refine AOps.nilR ?_
 rcases oite h with ⟨hc70, h⟩ | ⟨hc70, h⟩
 ·refine AW.condT (congrArg AV.bool hc70) ?_
  refine AW.sr ?_
  refine AOps.p rfl (rfl : _ = (AV.bool false)) ?_
  refine AOps.nilR ?_
  cases h
  exact AW.ret ⟨rfl, _, _, rfl, rfl⟩
 refine AW.condF (congrArg AV.bool hc70) ?_
 refine AW.skip ?_
 refine AW.sr ?_
 refine AOps.p rfl (rfl : _ = (AV.bool true)) ?_
 refine AOps.nilR ?_
 cases h
 exact AW.ret ⟨rfl, _, _, rfl, rfl⟩
end Go.Proofs.Ytbgcemjkjfbfhaa.law
