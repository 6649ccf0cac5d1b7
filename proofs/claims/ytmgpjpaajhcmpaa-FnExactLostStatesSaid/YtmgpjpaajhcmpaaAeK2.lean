import Derived.Test.YtmgpjpaajhcmpaaAeD
import Derived.Test.YtmgpjpaajhcmpaaAe4
import Derived.Test.YtmgpjpaajhcmpaaAeK1
set_option linter.unusedVariables false
set_option linter.unusedSimpArgs false
namespace Go.Proofs.Ytmgpjpaajhcmpaa.law
open Go Go.Proofs Ae
set_option maxRecDepth 100000
set_option linter.unusedVariables false
theorem impl_ValidChecker_ok {p1 : Checker} {z2 : Nat} {f3 : Bool} {e4 : List AV} {z6 : Nat} {f7 : Bool} {e8 : List AV} {z10 : Nat} {f11 : Bool} {e12 : List AV} {z14 : Nat} {f15 : Bool} {e16 : List AV} {s : St} (h5 : LR rB 1 p1.Accept z2 e4) (h9 : LR (rL rPush 2) 1 p1.Call z6 e8) (h13 : LR (rL (rL (rI .i64) 1) 1) 1 p1.Return z10 e12) (h17 : LR (rL (rI .i64) 1) 1 p1.Inner z14 e16) {r : Bool} (h : impl_ValidChecker p1 = some r) (hs : WF s) : ACall Cf 23 [(AV.agg [(AV.int .i64 p1.Stack), (AV.int .i64 p1.Start), (AV.sl z2 f3 e4), (AV.sl z6 f7 e8), (AV.sl z10 f11 e12), (AV.sl z14 f15 e16)])] s fun v _ s' => (rB) r v ∧ s' = s := by
 refine ACall.pure rfl rfl rfl .B ?_
 have hWF := hs.lo'
 unfold impl_ValidChecker at h
 refine AW.sr ?_
 refine AOps.makeR rfl rfl rfl rfl rfl rfl (rfl : _ = (AV.eptr [(AV.int .i64 p1.Stack), (AV.int .i64 p1.Start), (AV.sl z2 f3 e4), (AV.sl z6 f7 e8), (AV.sl z10 f11 e12), (AV.sl z14 f15 e16)] 0)) ?_
 refine AOps.p rfl (rfl : _ = (AV.bool false)) ?_
 refine AOps.nilR ?_
 refine AW.sr ?_
 refine AOps.p rfl (rfl : _ = (AV.eptr [(AV.int .i64 p1.Stack), (AV.int .i64 p1.Start), (AV.sl z2 f3 e4), (AV.sl z6 f7 e8), (AV.sl z10 f11 e12), (AV.sl z14 f15 e16)] 2)) ?_
 refine AOps.ldE (v := (AV.sl z2 f3 e4)) rfl rfl rfl rfl rfl rfl ?_
 obtain ⟨y18, h19, h⟩ := obind h
 refine AOps.callP (g := 40) (args := [(AV.sl z2 f3 e4)]) (p := (rI .i64) y18) rfl rfl rfl (impl_size_bool_ok h5 h19 hWF) ?_
 intro _ o21 h20
 cases h20
 refine AOps.assignR rfl rfl rfl (rfl : _ = (AV.int .i64 y18)) rfl ?_
 refine AOps.nilR ?_
 refine AW.seq ?_
 refine AW.sr ?_
 refine AOps.p rfl (rfl : _ = (AV.int .i64 y18)) ?_
 obtain ⟨y22, h23, h⟩ := obind h
 refine AOps.callP (g := 41) (args := [(AV.int .i64 y18), (AV.int .i64 1), (AV.int .i64 40)]) (p := (rB) y22) rfl rfl rfl (impl_within_ok  h23 hWF) ?_
 intro _ o25 h24
 cases h24
 refine AOps.p rfl (rfl : _ = (AV.bool (!y22))) ?_
 refine AOps.p rfl (rfl : _ = (AV.bool (!y22))) ?_
 obtain ⟨b27, hb, h⟩ := obind h
 refine AOps.split 5 (fun f' => ∃ tm' os', f' = ⟨updL tm' [(1, (AV.eptr [(AV.int .i64 p1.Stack), (AV.int .i64 p1.Start), (AV.sl z2 f3 e4), (AV.sl z6 f7 e8), (AV.sl z10 f11 e12), (AV.sl z14 f15 e16)] 0)), (3, (AV.int .i64 y18)), (19, (AV.bool b27))], updL os' [], { s with lo := s.n }⟩) ?_ ?_
 ·rcases oite hb with ⟨hc26, hb⟩ | ⟨hc26, hb⟩
  ·refine AOps.know (d := 14) rfl hc26 ?_
   refine AOps.skipR rfl rfl ?_
   refine AOps.skipR rfl rfl ?_
   refine AOps.skipR rfl rfl ?_
   refine AOps.skipR rfl rfl ?_
   refine AOps.p rfl (rfl : _ = (AV.bool true)) ?_
   refine AOps.resR [(1, (AV.eptr [(AV.int .i64 p1.Stack), (AV.int .i64 p1.Start), (AV.sl z2 f3 e4), (AV.sl z6 f7 e8), (AV.sl z10 f11 e12), (AV.sl z14 f15 e16)] 0)), (3, (AV.int .i64 y18)), (19, (AV.bool b27))] [] ?_ ?_ _ ⟨_, _, rfl⟩
   ·exact ⟨rfl, rfl, congrArg AV.bool (Option.some.inj hb), trivial⟩
   exact trivial
  ·have h := hb
   refine AOps.know (d := 14) rfl hc26 ?_
   refine AOps.p rfl (rfl : _ = (AV.eptr [(AV.int .i64 p1.Stack), (AV.int .i64 p1.Start), (AV.sl z2 f3 e4), (AV.sl z6 f7 e8), (AV.sl z10 f11 e12), (AV.sl z14 f15 e16)] 0)) ?_
   refine AOps.ldE (v := (AV.int .i64 p1.Stack)) rfl rfl rfl rfl rfl rfl ?_
   obtain ⟨y28, h29, h⟩ := obind h
   refine AOps.callP (g := 41) (args := [(AV.int .i64 p1.Stack), (AV.int .i64 1), (AV.int .i64 80)]) (p := (rB) y28) rfl rfl rfl (impl_within_ok  h29 hWF) ?_
   intro _ o31 h30
   cases h30
   refine AOps.p rfl (rfl : _ = (AV.bool (!y28))) ?_
   refine AOps.p rfl (rfl : _ = (AV.bool (!y28))) ?_
   refine AOps.resR [(1, (AV.eptr [(AV.int .i64 p1.Stack), (AV.int .i64 p1.Start), (AV.sl z2 f3 e4), (AV.sl z6 f7 e8), (AV.sl z10 f11 e12), (AV.sl z14 f15 e16)] 0)), (3, (AV.int .i64 y18)), (19, (AV.bool b27))] [] ?_ ?_ _ ⟨_, _, rfl⟩
   ·exact ⟨rfl, rfl, congrArg AV.bool (Option.some.inj h), trivial⟩
   exact trivial
 rintro _ ⟨tm, os, rfl⟩
 refine AOps.p rfl (rfl : _ = (AV.bool b27)) ?_
 obtain ⟨b33, hb, h⟩ := obind h
 refine AOps.split 6 (fun f' => ∃ tm' os', f' = ⟨updL tm' [(1, (AV.eptr [(AV.int .i64 p1.Stack), (AV.int .i64 p1.Start), (AV.sl z2 f3 e4), (AV.sl z6 f7 e8), (AV.sl z10 f11 e12), (AV.sl z14 f15 e16)] 0)), (3, (AV.int .i64 y18)), (26, (AV.bool b33))], updL os' [], { s with lo := s.n }⟩) ?_ ?_
 ·rcases oite hb with ⟨hc32, hb⟩ | ⟨hc32, hb⟩
  ·refine AOps.know (d := 20) rfl hc32 ?_
   refine AOps.skipR rfl rfl ?_
   refine AOps.skipR rfl rfl ?_
   refine AOps.skipR rfl rfl ?_
   refine AOps.skipR rfl rfl ?_
   refine AOps.skipR rfl rfl ?_
   refine AOps.p rfl (rfl : _ = (AV.bool true)) ?_
   refine AOps.resR [(1, (AV.eptr [(AV.int .i64 p1.Stack), (AV.int .i64 p1.Start), (AV.sl z2 f3 e4), (AV.sl z6 f7 e8), (AV.sl z10 f11 e12), (AV.sl z14 f15 e16)] 0)), (3, (AV.int .i64 y18)), (26, (AV.bool b33))] [] ?_ ?_ _ ⟨_, _, rfl⟩
   ·exact ⟨rfl, rfl, congrArg AV.bool (Option.some.inj hb), trivial⟩
   exact trivial
  ·have h := hb
   refine AOps.know (d := 20) rfl hc32 ?_
   refine AOps.ldE (v := (AV.agg [(AV.int .i64 p1.Stack), (AV.int .i64 p1.Start), (AV.sl z2 f3 e4), (AV.sl z6 f7 e8), (AV.sl z10 f11 e12), (AV.sl z14 f15 e16)])) rfl rfl rfl rfl rfl rfl ?_
   refine AOps.p rfl (rfl : _ = (AV.eptr [(AV.int .i64 p1.Stack), (AV.int .i64 p1.Start), (AV.sl z2 f3 e4), (AV.sl z6 f7 e8), (AV.sl z10 f11 e12), (AV.sl z14 f15 e16)] 1)) ?_
   refine AOps.ldE (v := (AV.int .i64 p1.Start)) rfl rfl rfl rfl rfl rfl ?_
   obtain ⟨y34, h35, h⟩ := obind h
   refine AOps.callP (g := 42) (args := [(AV.agg [(AV.int .i64 p1.Stack), (AV.int .i64 p1.Start), (AV.sl z2 f3 e4), (AV.sl z6 f7 e8), (AV.sl z10 f11 e12), (AV.sl z14 f15 e16)]), (AV.int .i64 p1.Start)]) (p := (rB) y34) rfl rfl rfl (impl_Checker_isState_ok h5 h9 h13 h17 h35 hWF) ?_
   intro _ o37 h36
   cases h36
   refine AOps.p rfl (rfl : _ = (AV.bool (!y34))) ?_
   refine AOps.p rfl (rfl : _ = (AV.bool (!y34))) ?_
   refine AOps.resR [(1, (AV.eptr [(AV.int .i64 p1.Stack), (AV.int .i64 p1.Start), (AV.sl z2 f3 e4), (AV.sl z6 f7 e8), (AV.sl z10 f11 e12), (AV.sl z14 f15 e16)] 0)), (3, (AV.int .i64 y18)), (26, (AV.bool b33))] [] ?_ ?_ _ ⟨_, _, rfl⟩
   ·exact ⟨rfl, rfl, congrArg AV.bool (Option.some.inj h), trivial⟩
   exact trivial
 rintro _ ⟨tm, os, rfl⟩
 refine AOps.p rfl (rfl : _ = (AV.bool b33)) ?_
 obtain ⟨b39, hb, h⟩ := obind h
 refine AOps.split 6 (fun f' => ∃ tm' os', f' = ⟨updL tm' [(1, (AV.eptr [(AV.int .i64 p1.Stack), (AV.int .i64 p1.Start), (AV.sl z2 f3 e4), (AV.sl z6 f7 e8), (AV.sl z10 f11 e12), (AV.sl z14 f15 e16)] 0)), (3, (AV.int .i64 y18)), (33, (AV.bool b39))], updL os' [], { s with lo := s.n }⟩) ?_ ?_
 ·rcases oite hb with ⟨hc38, hb⟩ | ⟨hc38, hb⟩
  ·refine AOps.know (d := 27) rfl hc38 ?_
   refine AOps.skipR rfl rfl ?_
   refine AOps.skipR rfl rfl ?_
   refine AOps.skipR rfl rfl ?_
   refine AOps.skipR rfl rfl ?_
   refine AOps.skipR rfl rfl ?_
   refine AOps.p rfl (rfl : _ = (AV.bool true)) ?_
   refine AOps.resR [(1, (AV.eptr [(AV.int .i64 p1.Stack), (AV.int .i64 p1.Start), (AV.sl z2 f3 e4), (AV.sl z6 f7 e8), (AV.sl z10 f11 e12), (AV.sl z14 f15 e16)] 0)), (3, (AV.int .i64 y18)), (33, (AV.bool b39))] [] ?_ ?_ _ ⟨_, _, rfl⟩
   ·exact ⟨rfl, rfl, congrArg AV.bool (Option.some.inj hb), trivial⟩
   exact trivial
  ·have h := hb
   refine AOps.know (d := 27) rfl hc38 ?_
   refine AOps.p rfl (rfl : _ = (AV.eptr [(AV.int .i64 p1.Stack), (AV.int .i64 p1.Start), (AV.sl z2 f3 e4), (AV.sl z6 f7 e8), (AV.sl z10 f11 e12), (AV.sl z14 f15 e16)] 3)) ?_
   refine AOps.ldE (v := (AV.sl z6 f7 e8)) rfl rfl rfl rfl rfl rfl ?_
   obtain ⟨y40, h41, h⟩ := obind h
   refine AOps.callP (g := 43) (args := [(AV.sl z6 f7 e8)]) (p := (rI .i64) y40) rfl rfl rfl (impl_size_simpl_Push_ok h9 h41 hWF) ?_
   intro _ o43 h42
   cases h42
   refine AOps.p rfl (rfl : _ = (AV.int .i64 y18)) ?_
   refine AOps.p rfl (rfl : _ = (AV.bool (y40 != y18))) ?_
   refine AOps.p rfl (rfl : _ = (AV.bool (y40 != y18))) ?_
   refine AOps.resR [(1, (AV.eptr [(AV.int .i64 p1.Stack), (AV.int .i64 p1.Start), (AV.sl z2 f3 e4), (AV.sl z6 f7 e8), (AV.sl z10 f11 e12), (AV.sl z14 f15 e16)] 0)), (3, (AV.int .i64 y18)), (33, (AV.bool b39))] [] ?_ ?_ _ ⟨_, _, rfl⟩
   ·exact ⟨rfl, rfl, congrArg AV.bool (Option.some.inj h), trivial⟩
   exact trivial
 rintro _ ⟨tm, os, rfl⟩
 refine AOps.p rfl (rfl : _ = (AV.bool b39)) ?_
 obtain ⟨b45, hb, h⟩ := obind h
 refine AOps.split 6 (fun f' => ∃ tm' os', f' = ⟨updL tm' [(1, (AV.eptr [(AV.int .i64 p1.Stack), (AV.int .i64 p1.Start), (AV.sl z2 f3 e4), (AV.sl z6 f7 e8), (AV.sl z10 f11 e12), (AV.sl z14 f15 e16)] 0)), (3, (AV.int .i64 y18)), (40, (AV.bool b45))], updL os' [], { s with lo := s.n }⟩) ?_ ?_
 ·rcases oite hb with ⟨hc44, hb⟩ | ⟨hc44, hb⟩
  ·refine AOps.know (d := 34) rfl hc44 ?_
   refine AOps.skipR rfl rfl ?_
   refine AOps.skipR rfl rfl ?_
   refine AOps.skipR rfl rfl ?_
   refine AOps.skipR rfl rfl ?_
   refine AOps.skipR rfl rfl ?_
   refine AOps.p rfl (rfl : _ = (AV.bool true)) ?_
   refine AOps.resR [(1, (AV.eptr [(AV.int .i64 p1.Stack), (AV.int .i64 p1.Start), (AV.sl z2 f3 e4), (AV.sl z6 f7 e8), (AV.sl z10 f11 e12), (AV.sl z14 f15 e16)] 0)), (3, (AV.int .i64 y18)), (40, (AV.bool b45))] [] ?_ ?_ _ ⟨_, _, rfl⟩
   ·exact ⟨rfl, rfl, congrArg AV.bool (Option.some.inj hb), trivial⟩
   exact trivial
  ·have h := hb
   refine AOps.know (d := 34) rfl hc44 ?_
   refine AOps.p rfl (rfl : _ = (AV.eptr [(AV.int .i64 p1.Stack), (AV.int .i64 p1.Start), (AV.sl z2 f3 e4), (AV.sl z6 f7 e8), (AV.sl z10 f11 e12), (AV.sl z14 f15 e16)] 4)) ?_
   refine AOps.ldE (v := (AV.sl z10 f11 e12)) rfl rfl rfl rfl rfl rfl ?_
   obtain ⟨y46, h47, h⟩ := obind h
   refine AOps.callP (g := 44) (args := [(AV.sl z10 f11 e12)]) (p := (rI .i64) y46) rfl rfl rfl (impl_size_s_int64_ok h13 h47 hWF) ?_
   intro _ o49 h48
   cases h48
   refine AOps.p rfl (rfl : _ = (AV.int .i64 y18)) ?_
   refine AOps.p rfl (rfl : _ = (AV.bool (y46 != y18))) ?_
   refine AOps.p rfl (rfl : _ = (AV.bool (y46 != y18))) ?_
   refine AOps.resR [(1, (AV.eptr [(AV.int .i64 p1.Stack), (AV.int .i64 p1.Start), (AV.sl z2 f3 e4), (AV.sl z6 f7 e8), (AV.sl z10 f11 e12), (AV.sl z14 f15 e16)] 0)), (3, (AV.int .i64 y18)), (40, (AV.bool b45))] [] ?_ ?_ _ ⟨_, _, rfl⟩
   ·exact ⟨rfl, rfl, congrArg AV.bool (Option.some.inj h), trivial⟩
   exact trivial
 rintro _ ⟨tm, os, rfl⟩
 refine AOps.p rfl (rfl : _ = (AV.bool b45)) ?_
 obtain ⟨b51, hb, h⟩ := obind h
 refine AOps.split 6 (fun f' => ∃ tm' os', f' = ⟨updL tm' [(1, (AV.eptr [(AV.int .i64 p1.Stack), (AV.int .i64 p1.Start), (AV.sl z2 f3 e4), (AV.sl z6 f7 e8), (AV.sl z10 f11 e12), (AV.sl z14 f15 e16)] 0)), (3, (AV.int .i64 y18)), (47, (AV.bool b51))], updL os' [], { s with lo := s.n }⟩) ?_ ?_
 ·rcases oite hb with ⟨hc50, hb⟩ | ⟨hc50, hb⟩
  ·refine AOps.know (d := 41) rfl hc50 ?_
   refine AOps.skipR rfl rfl ?_
   refine AOps.skipR rfl rfl ?_
   refine AOps.skipR rfl rfl ?_
   refine AOps.skipR rfl rfl ?_
   refine AOps.skipR rfl rfl ?_
   refine AOps.p rfl (rfl : _ = (AV.bool true)) ?_
   refine AOps.resR [(1, (AV.eptr [(AV.int .i64 p1.Stack), (AV.int .i64 p1.Start), (AV.sl z2 f3 e4), (AV.sl z6 f7 e8), (AV.sl z10 f11 e12), (AV.sl z14 f15 e16)] 0)), (3, (AV.int .i64 y18)), (47, (AV.bool b51))] [] ?_ ?_ _ ⟨_, _, rfl⟩
   ·exact ⟨rfl, rfl, congrArg AV.bool (Option.some.inj hb), trivial⟩
   exact trivial
  ·have h := hb
   refine AOps.know (d := 41) rfl hc50 ?_
   refine AOps.p rfl (rfl : _ = (AV.eptr [(AV.int .i64 p1.Stack), (AV.int .i64 p1.Start), (AV.sl z2 f3 e4), (AV.sl z6 f7 e8), (AV.sl z10 f11 e12), (AV.sl z14 f15 e16)] 5)) ?_
   refine AOps.ldE (v := (AV.sl z14 f15 e16)) rfl rfl rfl rfl rfl rfl ?_
   obtain ⟨y52, h53, h⟩ := obind h
   refine AOps.callP (g := 45) (args := [(AV.sl z14 f15 e16)]) (p := (rI .i64) y52) rfl rfl rfl (impl_size_sint64_ok h17 h53 hWF) ?_
   intro _ o55 h54
   cases h54
   refine AOps.p rfl (rfl : _ = (AV.int .i64 y18)) ?_
   refine AOps.p rfl (rfl : _ = (AV.bool (y52 != y18))) ?_
   refine AOps.p rfl (rfl : _ = (AV.bool (y52 != y18))) ?_
   refine AOps.resR [(1, (AV.eptr [(AV.int .i64 p1.Stack), (AV.int .i64 p1.Start), (AV.sl z2 f3 e4), (AV.sl z6 f7 e8), (AV.sl z10 f11 e12), (AV.sl z14 f15 e16)] 0)), (3, (AV.int .i64 y18)), (47, (AV.bool b51))] [] ?_ ?_ _ ⟨_, _, rfl⟩
   ·exact ⟨rfl, rfl, congrArg AV.bool (Option.some.inj h), trivial⟩
   exact trivial
 rintro _ ⟨tm, os, rfl⟩
 refine AOps.nilR ?_
 rcases oite h with ⟨hc56, h⟩ | ⟨hc56, h⟩
 ·refine AW.condT (congrArg AV.bool hc56) ?_
  refine AW.sr ?_
  refine AOps.p rfl (rfl : _ = (AV.bool false)) ?_
  refine AOps.nilR ?_
  cases h
  exact AW.ret ⟨rfl, _, _, rfl, rfl⟩
 refine AW.condF (congrArg AV.bool hc56) ?_
 refine AW.skip ?_
 refine AW.sr ?_
 refine AOps.p rfl (rfl : _ = (AV.fn 46 [(AV.eptr [(AV.int .i64 p1.Stack), (AV.int .i64 p1.Start), (AV.sl z2 f3 e4), (AV.sl z6 f7 e8), (AV.sl z10 f11 e12), (AV.sl z14 f15 e16)] 0)])) ?_
 refine AOps.assignR rfl rfl rfl (rfl : _ = (AV.fn 46 [(AV.eptr [(AV.int .i64 p1.Stack), (AV.int .i64 p1.Start), (AV.sl z2 f3 e4), (AV.sl z6 f7 e8), (AV.sl z10 f11 e12), (AV.sl z14 f15 e16)] 0)])) rfl ?_
 refine AOps.nilR ?_
 refine AW.seq ?_
 refine AW.sr ?_
 refine AOps.p rfl (rfl : _ = (AV.int .i64 y18)) ?_
 refine AOps.p rfl (rfl : _ = (AV.int .i64 0)) ?_
 refine AOps.nilR ?_
 refine AW.meet (σ := Unit) (fun _ tm os => ⟨updL tm [], updL os [], { s with lo := s.n }⟩) (fun _ => impl_ValidChecker_J1 = some r) ?_ ?_
 ·rintro _ tm os h
  unfold impl_ValidChecker_J1 at h
  refine AW.sr ?_
  refine AOps.p rfl (rfl : _ = (AV.bool true)) ?_
  refine AOps.nilR ?_
  cases h
  exact AW.ret ⟨rfl, _, _, rfl, rfl⟩
 intro KJ57
 refine AW.block ?_
 refine AW.res [(1, (AV.eptr [(AV.int .i64 p1.Stack), (AV.int .i64 p1.Start), (AV.sl z2 f3 e4), (AV.sl z6 f7 e8), (AV.sl z10 f11 e12), (AV.sl z14 f15 e16)] 0)), (4, (AV.fn 46 [(AV.eptr [(AV.int .i64 p1.Stack), (AV.int .i64 p1.Start), (AV.sl z2 f3 e4), (AV.sl z6 f7 e8), (AV.sl z10 f11 e12), (AV.sl z14 f15 e16)] 0)])), (49, (AV.int .i64 y18)), (50, (AV.int .i64 0))] [] ⟨rfl, rfl, rfl, rfl, trivial⟩ trivial ?_
 refine AW.loopF (σ := Int) (τ := Unit) (fun t58 _ => True) (fun t58 _ tm os => ⟨updL tm [(1, (AV.eptr [(AV.int .i64 p1.Stack), (AV.int .i64 p1.Start), (AV.sl z2 f3 e4), (AV.sl z6 f7 e8), (AV.sl z10 f11 e12), (AV.sl z14 f15 e16)] 0)), (4, (AV.fn 46 [(AV.eptr [(AV.int .i64 p1.Stack), (AV.int .i64 p1.Start), (AV.sl z2 f3 e4), (AV.sl z6 f7 e8), (AV.sl z10 f11 e12), (AV.sl z14 f15 e16)] 0)])), (49, (AV.int .i64 y18)), (50, (AV.int .i64 t58))], updL os [], { s with lo := s.n }⟩) ?_ (x := (0)) (y := ()) h trivial
 clear h
 rintro t58 _ tm os - ee1 h hL1 hR1
 unfold impl_ValidChecker_S1 at h
 refine AW.sr ?_
 refine AOps.p rfl (rfl : _ = (AV.bool (decide ((t58 : Int) < y18)))) ?_
 refine AOps.nilR ?_
 refine AW.seq ?_
 rcases oite h with ⟨hc59, h⟩ | ⟨hc59, h⟩
 ·refine AW.condT (congrArg AV.bool hc59) ?_
  refine AW.skip ?_
  refine AW.seq ?_
  refine AW.block ?_
  refine AW.sr ?_
  refine AOps.p rfl (rfl : _ = (AV.int .i64 t58)) ?_
  refine AOps.assignR rfl rfl rfl (rfl : _ = (AV.int .i64 t58)) rfl ?_
  refine AOps.nilR ?_
  refine AW.seq ?_
  refine AW.sr ?_
  refine AOps.p rfl (rfl : _ = (AV.eptr [(AV.int .i64 p1.Stack), (AV.int .i64 p1.Start), (AV.sl z2 f3 e4), (AV.sl z6 f7 e8), (AV.sl z10 f11 e12), (AV.sl z14 f15 e16)] 3)) ?_
  refine AOps.ldE (v := (AV.sl z6 f7 e8)) rfl rfl rfl rfl rfl rfl ?_
  refine AOps.p rfl (rfl : _ = (AV.int .i64 t58)) ?_
  obtain ⟨x60, h61, h⟩ := obind h
  obtain ⟨v64, h62, h63⟩ := idx_sl h9 h61
  obtain ⟨z65, f66, e67, rfl, h68⟩ := h62
  refine AOps.pureR rfl rfl rfl h63 rfl (rfl : _ = (AV.eptr [(AV.sl z65 f66 e67)] 0)) ?_
  refine AOps.ldE (v := (AV.sl z65 f66 e67)) rfl rfl rfl rfl rfl rfl ?_
  refine AOps.p rfl (len_eq h68) ?_
  refine AOps.p rfl (rfl : _ = (AV.bool ((x60.length : Int) != 2))) ?_
  refine AOps.p rfl (rfl : _ = (AV.bool ((x60.length : Int) != 2))) ?_
  obtain ⟨b70, hb, h⟩ := obind h
  refine AOps.split 8 (fun f' => ∃ tm' os', f' = ⟨updL tm' [(1, (AV.eptr [(AV.int .i64 p1.Stack), (AV.int .i64 p1.Start), (AV.sl z2 f3 e4), (AV.sl z6 f7 e8), (AV.sl z10 f11 e12), (AV.sl z14 f15 e16)] 0)), (4, (AV.fn 46 [(AV.eptr [(AV.int .i64 p1.Stack), (AV.int .i64 p1.Start), (AV.sl z2 f3 e4), (AV.sl z6 f7 e8), (AV.sl z10 f11 e12), (AV.sl z14 f15 e16)] 0)])), (5, (AV.int .i64 t58)), (49, (AV.int .i64 y18)), (50, (AV.int .i64 t58)), (68, (AV.bool b70))], updL os' [], { s with lo := s.n }⟩) ?_ ?_
  ·rcases oite hb with ⟨hc69, hb⟩ | ⟨hc69, hb⟩
   ·refine AOps.know (d := 60) rfl hc69 ?_
    refine AOps.skipR rfl rfl ?_
    refine AOps.skipR rfl rfl ?_
    refine AOps.skipR rfl rfl ?_
    refine AOps.skipR rfl rfl ?_
    refine AOps.skipR rfl rfl ?_
    refine AOps.skipR rfl rfl ?_
    refine AOps.skipR rfl rfl ?_
    refine AOps.p rfl (rfl : _ = (AV.bool true)) ?_
    refine AOps.resR [(1, (AV.eptr [(AV.int .i64 p1.Stack), (AV.int .i64 p1.Start), (AV.sl z2 f3 e4), (AV.sl z6 f7 e8), (AV.sl z10 f11 e12), (AV.sl z14 f15 e16)] 0)), (4, (AV.fn 46 [(AV.eptr [(AV.int .i64 p1.Stack), (AV.int .i64 p1.Start), (AV.sl z2 f3 e4), (AV.sl z6 f7 e8), (AV.sl z10 f11 e12), (AV.sl z14 f15 e16)] 0)])), (5, (AV.int .i64 t58)), (49, (AV.int .i64 y18)), (50, (AV.int .i64 t58)), (68, (AV.bool b70))] [] ?_ ?_ _ ⟨_, _, rfl⟩
    ·exact ⟨rfl, rfl, rfl, rfl, rfl, congrArg AV.bool (Option.some.inj hb), trivial⟩
    exact trivial
   ·have h := hb
    refine AOps.know (d := 60) rfl hc69 ?_
    refine AOps.p rfl (rfl : _ = (AV.eptr [(AV.int .i64 p1.Stack), (AV.int .i64 p1.Start), (AV.sl z2 f3 e4), (AV.sl z6 f7 e8), (AV.sl z10 f11 e12), (AV.sl z14 f15 e16)] 4)) ?_
    refine AOps.ldE (v := (AV.sl z10 f11 e12)) rfl rfl rfl rfl rfl rfl ?_
    refine AOps.p rfl (rfl : _ = (AV.int .i64 t58)) ?_
    obtain ⟨x71, h72, h⟩ := obind h
    obtain ⟨v75, h73, h74⟩ := idx_sl h13 h72
    obtain ⟨z76, f77, e78, rfl, h79⟩ := h73
    refine AOps.pureR rfl rfl rfl h74 rfl (rfl : _ = (AV.eptr [(AV.sl z76 f77 e78)] 0)) ?_
    refine AOps.ldE (v := (AV.sl z76 f77 e78)) rfl rfl rfl rfl rfl rfl ?_
    refine AOps.p rfl (len_eq h79) ?_
    refine AOps.p rfl (rfl : _ = (AV.bool ((x71.length : Int) != 2))) ?_
    refine AOps.p rfl (rfl : _ = (AV.bool ((x71.length : Int) != 2))) ?_
    refine AOps.resR [(1, (AV.eptr [(AV.int .i64 p1.Stack), (AV.int .i64 p1.Start), (AV.sl z2 f3 e4), (AV.sl z6 f7 e8), (AV.sl z10 f11 e12), (AV.sl z14 f15 e16)] 0)), (4, (AV.fn 46 [(AV.eptr [(AV.int .i64 p1.Stack), (AV.int .i64 p1.Start), (AV.sl z2 f3 e4), (AV.sl z6 f7 e8), (AV.sl z10 f11 e12), (AV.sl z14 f15 e16)] 0)])), (5, (AV.int .i64 t58)), (49, (AV.int .i64 y18)), (50, (AV.int .i64 t58)), (68, (AV.bool b70))] [] ?_ ?_ _ ⟨_, _, rfl⟩
    ·exact ⟨rfl, rfl, rfl, rfl, rfl, congrArg AV.bool (Option.some.inj h), trivial⟩
    exact trivial
  rintro _ ⟨tm, os, rfl⟩
  refine AOps.p rfl (rfl : _ = (AV.bool b70)) ?_
  obtain ⟨b81, hb, h⟩ := obind h
  refine AOps.split 9 (fun f' => ∃ tm' os', f' = ⟨updL tm' [(1, (AV.eptr [(AV.int .i64 p1.Stack), (AV.int .i64 p1.Start), (AV.sl z2 f3 e4), (AV.sl z6 f7 e8), (AV.sl z10 f11 e12), (AV.sl z14 f15 e16)] 0)), (4, (AV.fn 46 [(AV.eptr [(AV.int .i64 p1.Stack), (AV.int .i64 p1.Start), (AV.sl z2 f3 e4), (AV.sl z6 f7 e8), (AV.sl z10 f11 e12), (AV.sl z14 f15 e16)] 0)])), (5, (AV.int .i64 t58)), (49, (AV.int .i64 y18)), (50, (AV.int .i64 t58)), (78, (AV.bool b81))], updL os' [], { s with lo := s.n }⟩) ?_ ?_
  ·rcases oite hb with ⟨hc80, hb⟩ | ⟨hc80, hb⟩
   ·refine AOps.know (d := 69) rfl hc80 ?_
    refine AOps.skipR rfl rfl ?_
    refine AOps.skipR rfl rfl ?_
    refine AOps.skipR rfl rfl ?_
    refine AOps.skipR rfl rfl ?_
    refine AOps.skipR rfl rfl ?_
    refine AOps.skipR rfl rfl ?_
    refine AOps.skipR rfl rfl ?_
    refine AOps.skipR rfl rfl ?_
    refine AOps.p rfl (rfl : _ = (AV.bool true)) ?_
    refine AOps.resR [(1, (AV.eptr [(AV.int .i64 p1.Stack), (AV.int .i64 p1.Start), (AV.sl z2 f3 e4), (AV.sl z6 f7 e8), (AV.sl z10 f11 e12), (AV.sl z14 f15 e16)] 0)), (4, (AV.fn 46 [(AV.eptr [(AV.int .i64 p1.Stack), (AV.int .i64 p1.Start), (AV.sl z2 f3 e4), (AV.sl z6 f7 e8), (AV.sl z10 f11 e12), (AV.sl z14 f15 e16)] 0)])), (5, (AV.int .i64 t58)), (49, (AV.int .i64 y18)), (50, (AV.int .i64 t58)), (78, (AV.bool b81))] [] ?_ ?_ _ ⟨_, _, rfl⟩
    ·exact ⟨rfl, rfl, rfl, rfl, rfl, congrArg AV.bool (Option.some.inj hb), trivial⟩
    exact trivial
   ·have h := hb
    refine AOps.know (d := 69) rfl hc80 ?_
    refine AOps.p rfl (rfl : _ = (AV.fn 46 [(AV.eptr [(AV.int .i64 p1.Stack), (AV.int .i64 p1.Start), (AV.sl z2 f3 e4), (AV.sl z6 f7 e8), (AV.sl z10 f11 e12), (AV.sl z14 f15 e16)] 0)])) ?_
    refine AOps.p rfl (rfl : _ = (AV.eptr [(AV.int .i64 p1.Stack), (AV.int .i64 p1.Start), (AV.sl z2 f3 e4), (AV.sl z6 f7 e8), (AV.sl z10 f11 e12), (AV.sl z14 f15 e16)] 5)) ?_
    refine AOps.ldE (v := (AV.sl z14 f15 e16)) rfl rfl rfl rfl rfl rfl ?_
    refine AOps.p rfl (rfl : _ = (AV.int .i64 t58)) ?_
    obtain ⟨x82, h83, h⟩ := obind h
    obtain ⟨v86, h84, h85⟩ := idx_sl h17 h83
    obtain ⟨z87, f88, e89, rfl, h90⟩ := h84
    refine AOps.pureR rfl rfl rfl h85 rfl (rfl : _ = (AV.eptr [(AV.sl z87 f88 e89)] 0)) ?_
    refine AOps.ldE (v := (AV.sl z87 f88 e89)) rfl rfl rfl rfl rfl rfl ?_
    obtain ⟨y91, h92, h⟩ := obind h
    refine AOps.callP (g := 46) (args := [(AV.sl z87 f88 e89), (AV.int .i64 2), (AV.eptr [(AV.int .i64 p1.Stack), (AV.int .i64 p1.Start), (AV.sl z2 f3 e4), (AV.sl z6 f7 e8), (AV.sl z10 f11 e12), (AV.sl z14 f15 e16)] 0)]) (p := (rB) y91) rfl rfl rfl (impl_ValidChecker_1_ok h90 h5 h9 h13 h17 h92 hWF) ?_
    intro _ o94 h93
    cases h93
    refine AOps.p rfl (rfl : _ = (AV.bool (!y91))) ?_
    refine AOps.p rfl (rfl : _ = (AV.bool (!y91))) ?_
    refine AOps.resR [(1, (AV.eptr [(AV.int .i64 p1.Stack), (AV.int .i64 p1.Start), (AV.sl z2 f3 e4), (AV.sl z6 f7 e8), (AV.sl z10 f11 e12), (AV.sl z14 f15 e16)] 0)), (4, (AV.fn 46 [(AV.eptr [(AV.int .i64 p1.Stack), (AV.int .i64 p1.Start), (AV.sl z2 f3 e4), (AV.sl z6 f7 e8), (AV.sl z10 f11 e12), (AV.sl z14 f15 e16)] 0)])), (5, (AV.int .i64 t58)), (49, (AV.int .i64 y18)), (50, (AV.int .i64 t58)), (78, (AV.bool b81))] [] ?_ ?_ _ ⟨_, _, rfl⟩
    ·exact ⟨rfl, rfl, rfl, rfl, rfl, congrArg AV.bool (Option.some.inj h), trivial⟩
    exact trivial
  rintro _ ⟨tm, os, rfl⟩
  refine AOps.nilR ?_
  rcases oite h with ⟨hc95, h⟩ | ⟨hc95, h⟩
  ·refine AW.condT (congrArg AV.bool hc95) ?_
   refine AW.sr ?_
   refine AOps.p rfl (rfl : _ = (AV.bool false)) ?_
   refine AOps.nilR ?_
   cases h
   have hr := hR1 _ rfl
   subst hr
   exact AW.ret ⟨rfl, _, _, rfl, rfl⟩
  refine AW.condF (congrArg AV.bool hc95) ?_
  refine AW.skip ?_
  refine AW.sr ?_
  refine AOps.p rfl (rfl : _ = (AV.int .i64 0)) ?_
  refine AOps.nilR ?_
  refine AW.meet (σ := Unit) (fun _ tm os => ⟨updL tm [(1, (AV.eptr [(AV.int .i64 p1.Stack), (AV.int .i64 p1.Start), (AV.sl z2 f3 e4), (AV.sl z6 f7 e8), (AV.sl z10 f11 e12), (AV.sl z14 f15 e16)] 0)), (4, (AV.fn 46 [(AV.eptr [(AV.int .i64 p1.Stack), (AV.int .i64 p1.Start), (AV.sl z2 f3 e4), (AV.sl z6 f7 e8), (AV.sl z10 f11 e12), (AV.sl z14 f15 e16)] 0)])), (49, (AV.int .i64 y18)), (50, (AV.int .i64 t58))], updL os [], { s with lo := s.n }⟩) (fun _ => impl_ValidChecker_J2 t58 = some ee1) ?_ ?_
  ·rintro _ tm os h
   unfold impl_ValidChecker_J2 at h
   refine AW.inBlock ?_
   refine AW.region ?_
   refine AOps.p rfl (rfl : _ = (AV.int .i64 (IntKind.wrap .i64 (t58 + 1)))) ?_
   refine AOps.p rfl (rfl : _ = (AV.int .i64 (IntKind.wrap .i64 (t58 + 1)))) ?_
   refine AOps.nilR ?_
   cases h
   exact AW.res [(1, (AV.eptr [(AV.int .i64 p1.Stack), (AV.int .i64 p1.Start), (AV.sl z2 f3 e4), (AV.sl z6 f7 e8), (AV.sl z10 f11 e12), (AV.sl z14 f15 e16)] 0)), (4, (AV.fn 46 [(AV.eptr [(AV.int .i64 p1.Stack), (AV.int .i64 p1.Start), (AV.sl z2 f3 e4), (AV.sl z6 f7 e8), (AV.sl z10 f11 e12), (AV.sl z14 f15 e16)] 0)])), (49, (AV.int .i64 y18)), (50, (AV.int .i64 (IntKind.wrap .i64 (t58 + 1))))] [] ⟨rfl, rfl, rfl, rfl, trivial⟩ trivial (hL1 _ rfl () _ _ trivial)
  intro KJ96
  refine AW.block ?_
  refine AW.res [(1, (AV.eptr [(AV.int .i64 p1.Stack), (AV.int .i64 p1.Start), (AV.sl z2 f3 e4), (AV.sl z6 f7 e8), (AV.sl z10 f11 e12), (AV.sl z14 f15 e16)] 0)), (4, (AV.fn 46 [(AV.eptr [(AV.int .i64 p1.Stack), (AV.int .i64 p1.Start), (AV.sl z2 f3 e4), (AV.sl z6 f7 e8), (AV.sl z10 f11 e12), (AV.sl z14 f15 e16)] 0)])), (5, (AV.int .i64 t58)), (49, (AV.int .i64 y18)), (50, (AV.int .i64 t58)), (79, (AV.int .i64 0))] [] ⟨rfl, rfl, rfl, rfl, rfl, rfl, trivial⟩ trivial ?_
  refine AW.loopF (σ := Int) (τ := Unit) (fun t97 _ => True) (fun t97 _ tm os => ⟨updL tm [(1, (AV.eptr [(AV.int .i64 p1.Stack), (AV.int .i64 p1.Start), (AV.sl z2 f3 e4), (AV.sl z6 f7 e8), (AV.sl z10 f11 e12), (AV.sl z14 f15 e16)] 0)), (4, (AV.fn 46 [(AV.eptr [(AV.int .i64 p1.Stack), (AV.int .i64 p1.Start), (AV.sl z2 f3 e4), (AV.sl z6 f7 e8), (AV.sl z10 f11 e12), (AV.sl z14 f15 e16)] 0)])), (5, (AV.int .i64 t58)), (49, (AV.int .i64 y18)), (50, (AV.int .i64 t58)), (79, (AV.int .i64 t97))], updL os [], { s with lo := s.n }⟩) ?_ (x := (0)) (y := ()) h trivial
  clear h
  rintro t97 _ tm os - ee2 h hL2 hR2
  unfold impl_ValidChecker_S2 at h
  refine AW.sr ?_
  refine AOps.p rfl (rfl : _ = (AV.bool (decide ((t97 : Int) < 2)))) ?_
  refine AOps.nilR ?_
  refine AW.seq ?_
  rcases oite h with ⟨hc98, h⟩ | ⟨hc98, h⟩
  ·refine AW.condT (congrArg AV.bool hc98) ?_
   refine AW.skip ?_
   refine AW.seq ?_
   refine AW.block ?_
   refine AW.sr ?_
   refine AOps.p rfl (rfl : _ = (AV.int .i64 t97)) ?_
   refine AOps.assignR rfl rfl rfl (rfl : _ = (AV.int .i64 t97)) rfl ?_
   refine AOps.nilR ?_
   refine AW.sr ?_
   refine AOps.p rfl (rfl : _ = (AV.eptr [(AV.int .i64 p1.Stack), (AV.int .i64 p1.Start), (AV.sl z2 f3 e4), (AV.sl z6 f7 e8), (AV.sl z10 f11 e12), (AV.sl z14 f15 e16)] 3)) ?_
   refine AOps.ldE (v := (AV.sl z6 f7 e8)) rfl rfl rfl rfl rfl rfl ?_
   refine AOps.p rfl (rfl : _ = (AV.int .i64 t58)) ?_
   obtain ⟨x99, h100, h⟩ := obind h
   obtain ⟨v103, h101, h102⟩ := idx_sl h9 h100
   obtain ⟨z104, f105, e106, rfl, h107⟩ := h101
   refine AOps.pureR rfl rfl rfl h102 rfl (rfl : _ = (AV.eptr [(AV.sl z104 f105 e106)] 0)) ?_
   refine AOps.ldE (v := (AV.sl z104 f105 e106)) rfl rfl rfl rfl rfl rfl ?_
   refine AOps.p rfl (rfl : _ = (AV.int .i64 t97)) ?_
   obtain ⟨x108, h109, h⟩ := obind h
   obtain ⟨v112, h110, h111⟩ := idx_sl h107 h109
   obtain ⟨_, rfl, h113⟩ := h110
   obtain ⟨_, _, rfl, h114, h115⟩ := Cs_cons h113
   cases h114
   obtain ⟨_, _, rfl, h116, h117⟩ := Cs_cons h115
   cases h116
   cases Cs_nil h117
   refine AOps.pureR rfl rfl rfl h111 rfl (rfl : _ = (AV.eptr [(AV.int .i64 x108.To), (AV.int .i64 x108.Put)] 0)) ?_
   refine AOps.ldE (v := (AV.agg [(AV.int .i64 x108.To), (AV.int .i64 x108.Put)])) rfl rfl rfl rfl rfl rfl ?_
   refine AOps.allocP rfl rfl rfl rfl ⟨rfl, rfl⟩ rfl ?_
   refine AOps.stP (v := (AV.agg [(AV.int .i64 x108.To), (AV.int .i64 x108.Put)])) rfl rfl rfl rfl rfl rfl rfl rfl rfl (lt_b rfl) rfl ?_
   refine AOps.nilR ?_
   refine AW.sr ?_
   refine AOps.ldE (v := (AV.agg [(AV.int .i64 p1.Stack), (AV.int .i64 p1.Start), (AV.sl z2 f3 e4), (AV.sl z6 f7 e8), (AV.sl z10 f11 e12), (AV.sl z14 f15 e16)])) rfl rfl rfl rfl rfl rfl ?_
   refine AOps.p rfl (rfl : _ = (AV.eptr [(AV.int .i64 x108.To), (AV.int .i64 x108.Put)] 0)) ?_
   refine AOps.ldE (v := (AV.int .i64 x108.To)) rfl rfl rfl rfl rfl rfl ?_
   obtain ⟨y118, h119, h⟩ := obind h
   refine AOps.callDP (g := 42) (args := [(AV.agg [(AV.int .i64 p1.Stack), (AV.int .i64 p1.Start), (AV.sl z2 f3 e4), (AV.sl z6 f7 e8), (AV.sl z10 f11 e12), (AV.sl z14 f15 e16)]), (AV.int .i64 x108.To)]) (p := (rB) y118) rfl rfl rfl (impl_Checker_isState_ok h5 h9 h13 h17 h119 hWF.still) (fun v hv => Nice.pure (k := FINK) (p := (rB) y118) .B _ v hv) ?_
   intro _ o121 h120
   cases h120
   refine AOps.p rfl (rfl : _ = (AV.bool (!y118))) ?_
   refine AOps.p rfl (rfl : _ = (AV.bool (!y118))) ?_
   obtain ⟨b123, hb, h⟩ := obind h
   refine AOps.split 6 (fun f' => ∃ tm' os', f' = ⟨updL tm' [(1, (AV.eptr [(AV.int .i64 p1.Stack), (AV.int .i64 p1.Start), (AV.sl z2 f3 e4), (AV.sl z6 f7 e8), (AV.sl z10 f11 e12), (AV.sl z14 f15 e16)] 0)), (4, (AV.fn 46 [(AV.eptr [(AV.int .i64 p1.Stack), (AV.int .i64 p1.Start), (AV.sl z2 f3 e4), (AV.sl z6 f7 e8), (AV.sl z10 f11 e12), (AV.sl z14 f15 e16)] 0)])), (5, (AV.int .i64 t58)), (6, (AV.int .i64 t97)), (49, (AV.int .i64 y18)), (50, (AV.int .i64 t58)), (79, (AV.int .i64 t97)), (101, (AV.bool b123))], updL os' [], { s with lo := s.n }⟩) ?_ ?_
   ·rcases oite hb with ⟨hc122, hb⟩ | ⟨hc122, hb⟩
    ·refine AOps.know (d := 95) rfl hc122 ?_
     refine AOps.skipR rfl rfl ?_
     refine AOps.skipR rfl rfl ?_
     refine AOps.skipR rfl rfl ?_
     refine AOps.skipR rfl rfl ?_
     refine AOps.skipR rfl rfl ?_
     refine AOps.p rfl (rfl : _ = (AV.bool true)) ?_
     refine AOps.resR [(1, (AV.eptr [(AV.int .i64 p1.Stack), (AV.int .i64 p1.Start), (AV.sl z2 f3 e4), (AV.sl z6 f7 e8), (AV.sl z10 f11 e12), (AV.sl z14 f15 e16)] 0)), (4, (AV.fn 46 [(AV.eptr [(AV.int .i64 p1.Stack), (AV.int .i64 p1.Start), (AV.sl z2 f3 e4), (AV.sl z6 f7 e8), (AV.sl z10 f11 e12), (AV.sl z14 f15 e16)] 0)])), (5, (AV.int .i64 t58)), (6, (AV.int .i64 t97)), (49, (AV.int .i64 y18)), (50, (AV.int .i64 t58)), (79, (AV.int .i64 t97)), (101, (AV.bool b123))] [] ?_ ?_ _ ⟨_, _, rfl⟩
     ·exact ⟨rfl, rfl, rfl, rfl, rfl, rfl, rfl, congrArg AV.bool (Option.some.inj hb), trivial⟩
     exact trivial
    ·have h := hb
     refine AOps.know (d := 95) rfl hc122 ?_
     refine AOps.ldE (v := (AV.agg [(AV.int .i64 p1.Stack), (AV.int .i64 p1.Start), (AV.sl z2 f3 e4), (AV.sl z6 f7 e8), (AV.sl z10 f11 e12), (AV.sl z14 f15 e16)])) rfl rfl rfl rfl rfl rfl ?_
     refine AOps.p rfl (rfl : _ = (AV.eptr [(AV.int .i64 x108.To), (AV.int .i64 x108.Put)] 1)) ?_
     refine AOps.ldE (v := (AV.int .i64 x108.Put)) rfl rfl rfl rfl rfl rfl ?_
     obtain ⟨y124, h125, h⟩ := obind h
     refine AOps.callDP (g := 50) (args := [(AV.agg [(AV.int .i64 p1.Stack), (AV.int .i64 p1.Start), (AV.sl z2 f3 e4), (AV.sl z6 f7 e8), (AV.sl z10 f11 e12), (AV.sl z14 f15 e16)]), (AV.int .i64 x108.Put)]) (p := (rB) y124) rfl rfl rfl (impl_Checker_isMark_ok h5 h9 h13 h17 h125 hWF.still) (fun v hv => Nice.pure (k := FINK) (p := (rB) y124) .B _ v hv) ?_
     intro _ o127 h126
     cases h126
     refine AOps.p rfl (rfl : _ = (AV.bool (!y124))) ?_
     refine AOps.p rfl (rfl : _ = (AV.bool (!y124))) ?_
     refine AOps.resR [(1, (AV.eptr [(AV.int .i64 p1.Stack), (AV.int .i64 p1.Start), (AV.sl z2 f3 e4), (AV.sl z6 f7 e8), (AV.sl z10 f11 e12), (AV.sl z14 f15 e16)] 0)), (4, (AV.fn 46 [(AV.eptr [(AV.int .i64 p1.Stack), (AV.int .i64 p1.Start), (AV.sl z2 f3 e4), (AV.sl z6 f7 e8), (AV.sl z10 f11 e12), (AV.sl z14 f15 e16)] 0)])), (5, (AV.int .i64 t58)), (6, (AV.int .i64 t97)), (49, (AV.int .i64 y18)), (50, (AV.int .i64 t58)), (79, (AV.int .i64 t97)), (101, (AV.bool b123))] [] ?_ ?_ _ ⟨_, _, rfl⟩
     ·exact ⟨rfl, rfl, rfl, rfl, rfl, rfl, rfl, congrArg AV.bool (Option.some.inj h), trivial⟩
     exact trivial
   rintro _ ⟨tm, os, rfl⟩
   refine AOps.p rfl (rfl : _ = (AV.bool b123)) ?_
   obtain ⟨b129, hb, h⟩ := obind h
   refine AOps.split 15 (fun f' => ∃ tm' os', f' = ⟨updL tm' [(1, (AV.eptr [(AV.int .i64 p1.Stack), (AV.int .i64 p1.Start), (AV.sl z2 f3 e4), (AV.sl z6 f7 e8), (AV.sl z10 f11 e12), (AV.sl z14 f15 e16)] 0)), (4, (AV.fn 46 [(AV.eptr [(AV.int .i64 p1.Stack), (AV.int .i64 p1.Start), (AV.sl z2 f3 e4), (AV.sl z6 f7 e8), (AV.sl z10 f11 e12), (AV.sl z14 f15 e16)] 0)])), (5, (AV.int .i64 t58)), (49, (AV.int .i64 y18)), (50, (AV.int .i64 t58)), (79, (AV.int .i64 t97)), (117, (AV.bool b129))], updL os' [], { s with lo := s.n }⟩) ?_ ?_
   ·rcases oite hb with ⟨hc128, hb⟩ | ⟨hc128, hb⟩
    ·refine AOps.know (d := 102) rfl hc128 ?_
     refine AOps.skipR rfl rfl ?_
     refine AOps.skipR rfl rfl ?_
     refine AOps.skipR rfl rfl ?_
     refine AOps.skipR rfl rfl ?_
     refine AOps.skipR rfl rfl ?_
     refine AOps.skipR rfl rfl ?_
     refine AOps.skipR rfl rfl ?_
     refine AOps.skipR rfl rfl ?_
     refine AOps.skipR rfl rfl ?_
     refine AOps.skipR rfl rfl ?_
     refine AOps.skipR rfl rfl ?_
     refine AOps.skipR rfl rfl ?_
     refine AOps.skipR rfl rfl ?_
     refine AOps.skipR rfl rfl ?_
     refine AOps.p rfl (rfl : _ = (AV.bool true)) ?_
     refine AOps.resR [(1, (AV.eptr [(AV.int .i64 p1.Stack), (AV.int .i64 p1.Start), (AV.sl z2 f3 e4), (AV.sl z6 f7 e8), (AV.sl z10 f11 e12), (AV.sl z14 f15 e16)] 0)), (4, (AV.fn 46 [(AV.eptr [(AV.int .i64 p1.Stack), (AV.int .i64 p1.Start), (AV.sl z2 f3 e4), (AV.sl z6 f7 e8), (AV.sl z10 f11 e12), (AV.sl z14 f15 e16)] 0)])), (5, (AV.int .i64 t58)), (49, (AV.int .i64 y18)), (50, (AV.int .i64 t58)), (79, (AV.int .i64 t97)), (117, (AV.bool b129))] [] ?_ ?_ _ ⟨_, _, rfl⟩
     ·exact ⟨rfl, rfl, rfl, rfl, rfl, rfl, congrArg AV.bool (Option.some.inj hb), trivial⟩
     exact trivial
    ·have h := hb
     refine AOps.know (d := 102) rfl hc128 ?_
     refine AOps.p rfl (rfl : _ = (AV.fn 46 [(AV.eptr [(AV.int .i64 p1.Stack), (AV.int .i64 p1.Start), (AV.sl z2 f3 e4), (AV.sl z6 f7 e8), (AV.sl z10 f11 e12), (AV.sl z14 f15 e16)] 0)])) ?_
     refine AOps.p rfl (rfl : _ = (AV.eptr [(AV.int .i64 p1.Stack), (AV.int .i64 p1.Start), (AV.sl z2 f3 e4), (AV.sl z6 f7 e8), (AV.sl z10 f11 e12), (AV.sl z14 f15 e16)] 4)) ?_
     refine AOps.ldE (v := (AV.sl z10 f11 e12)) rfl rfl rfl rfl rfl rfl ?_
     refine AOps.p rfl (rfl : _ = (AV.int .i64 t58)) ?_
     obtain ⟨x130, h131, h⟩ := obind h
     obtain ⟨v134, h132, h133⟩ := idx_sl h13 h131
     obtain ⟨z135, f136, e137, rfl, h138⟩ := h132
     refine AOps.pureR rfl rfl rfl h133 rfl (rfl : _ = (AV.eptr [(AV.sl z135 f136 e137)] 0)) ?_
     refine AOps.ldE (v := (AV.sl z135 f136 e137)) rfl rfl rfl rfl rfl rfl ?_
     refine AOps.p rfl (rfl : _ = (AV.int .i64 t97)) ?_
     obtain ⟨x139, h140, h⟩ := obind h
     obtain ⟨v143, h141, h142⟩ := idx_sl h138 h140
     obtain ⟨z144, f145, e146, rfl, h147⟩ := h141
     refine AOps.pureR rfl rfl rfl h142 rfl (rfl : _ = (AV.eptr [(AV.sl z144 f145 e146)] 0)) ?_
     refine AOps.ldE (v := (AV.sl z144 f145 e146)) rfl rfl rfl rfl rfl rfl ?_
     refine AOps.p rfl (rfl : _ = (AV.eptr [(AV.int .i64 p1.Stack), (AV.int .i64 p1.Start), (AV.sl z2 f3 e4), (AV.sl z6 f7 e8), (AV.sl z10 f11 e12), (AV.sl z14 f15 e16)] 0)) ?_
     refine AOps.ldE (v := (AV.int .i64 p1.Stack)) rfl rfl rfl rfl rfl rfl ?_
     refine AOps.p rfl (rfl : _ = (AV.int .i64 (IntKind.wrap .i64 (p1.Stack + 1)))) ?_
     obtain ⟨y148, h149, h⟩ := obind h
     refine AOps.callDP (g := 46) (args := [(AV.sl z144 f145 e146), (AV.int .i64 (IntKind.wrap .i64 (p1.Stack + 1))), (AV.eptr [(AV.int .i64 p1.Stack), (AV.int .i64 p1.Start), (AV.sl z2 f3 e4), (AV.sl z6 f7 e8), (AV.sl z10 f11 e12), (AV.sl z14 f15 e16)] 0)]) (p := (rB) y148) rfl rfl rfl (impl_ValidChecker_1_ok h147 h5 h9 h13 h17 h149 hWF.still) (fun v hv => Nice.pure (k := FINK) (p := (rB) y148) .B _ v hv) ?_
     intro _ o151 h150
     cases h150
     refine AOps.p rfl (rfl : _ = (AV.bool (!y148))) ?_
     refine AOps.p rfl (rfl : _ = (AV.bool (!y148))) ?_
     refine AOps.resR [(1, (AV.eptr [(AV.int .i64 p1.Stack), (AV.int .i64 p1.Start), (AV.sl z2 f3 e4), (AV.sl z6 f7 e8), (AV.sl z10 f11 e12), (AV.sl z14 f15 e16)] 0)), (4, (AV.fn 46 [(AV.eptr [(AV.int .i64 p1.Stack), (AV.int .i64 p1.Start), (AV.sl z2 f3 e4), (AV.sl z6 f7 e8), (AV.sl z10 f11 e12), (AV.sl z14 f15 e16)] 0)])), (5, (AV.int .i64 t58)), (49, (AV.int .i64 y18)), (50, (AV.int .i64 t58)), (79, (AV.int .i64 t97)), (117, (AV.bool b129))] [] ?_ ?_ _ ⟨_, _, rfl⟩
     ·exact ⟨rfl, rfl, rfl, rfl, rfl, rfl, congrArg AV.bool (Option.some.inj h), trivial⟩
     exact trivial
   rintro _ ⟨tm, os, rfl⟩
   refine AOps.nilR ?_
   rcases oite h with ⟨hc152, h⟩ | ⟨hc152, h⟩
   ·refine AW.condT (congrArg AV.bool hc152) ?_
    refine AW.sr ?_
    refine AOps.p rfl (rfl : _ = (AV.bool false)) ?_
    refine AOps.nilR ?_
    cases h
    have hr := hR2 _ rfl
    cases hr
    have hr := hR1 _ rfl
    subst hr
    exact AW.ret ⟨rfl, _, _, rfl, rfl⟩
   refine AW.condF (congrArg AV.bool hc152) ?_
   refine AW.skip ?_
   refine AW.inBlock ?_
   refine AW.region ?_
   refine AOps.p rfl (rfl : _ = (AV.int .i64 (IntKind.wrap .i64 (t97 + 1)))) ?_
   refine AOps.p rfl (rfl : _ = (AV.int .i64 (IntKind.wrap .i64 (t97 + 1)))) ?_
   refine AOps.nilR ?_
   cases h
   exact AW.res [(1, (AV.eptr [(AV.int .i64 p1.Stack), (AV.int .i64 p1.Start), (AV.sl z2 f3 e4), (AV.sl z6 f7 e8), (AV.sl z10 f11 e12), (AV.sl z14 f15 e16)] 0)), (4, (AV.fn 46 [(AV.eptr [(AV.int .i64 p1.Stack), (AV.int .i64 p1.Start), (AV.sl z2 f3 e4), (AV.sl z6 f7 e8), (AV.sl z10 f11 e12), (AV.sl z14 f15 e16)] 0)])), (5, (AV.int .i64 t58)), (49, (AV.int .i64 y18)), (50, (AV.int .i64 t58)), (79, (AV.int .i64 (IntKind.wrap .i64 (t97 + 1))))] [] ⟨rfl, rfl, rfl, rfl, rfl, rfl, trivial⟩ trivial (hL2 _ rfl () _ _ trivial)
  refine AW.condF (congrArg AV.bool hc98) ?_
  refine AW.exit rfl ?_
  obtain ⟨r153, hm, hx⟩ := omap h
  clear h
  subst hx
  have hx := hR2 _ rfl
  rw [hx] at hm
  have h := hm
  exact AW.res [(1, (AV.eptr [(AV.int .i64 p1.Stack), (AV.int .i64 p1.Start), (AV.sl z2 f3 e4), (AV.sl z6 f7 e8), (AV.sl z10 f11 e12), (AV.sl z14 f15 e16)] 0)), (4, (AV.fn 46 [(AV.eptr [(AV.int .i64 p1.Stack), (AV.int .i64 p1.Start), (AV.sl z2 f3 e4), (AV.sl z6 f7 e8), (AV.sl z10 f11 e12), (AV.sl z14 f15 e16)] 0)])), (49, (AV.int .i64 y18)), (50, (AV.int .i64 t58))] [] ⟨rfl, rfl, rfl, rfl, trivial⟩ trivial (KJ96 () _ _ h)
 refine AW.condF (congrArg AV.bool hc59) ?_
 refine AW.exit rfl ?_
 obtain ⟨r154, hm, hx⟩ := omap h
 clear h
 subst hx
 have hx := hR1 _ rfl
 rw [hx] at hm
 have h := hm
 exact AW.res [] [] trivial trivial (KJ57 () _ _ h)
theorem slices_Concat_sint64_int64_ok {slices1 : List (List Int)} {z2 : Nat} {f3 : Bool} {e4 : List AV} {s : St} (h5 : LR (rL (rI .i64) 1) 1 slices1 z2 e4) {r : (List Int)} (h : slices_Concat_sint64_int64 slices1 = some r) (hs : WF s) : ACall Cf 60 [(AV.sl z2 f3 e4)] s fun v _ s' => (rL (rI .i64) 1) r v ∧ s' = s := by
 refine ACall.pure rfl rfl rfl (.L fun _ => .I) ?_
 have hWF := hs.lo'
 unfold slices_Concat_sint64_int64 at h
 refine AW.sr ?_
 refine AOps.p rfl (rfl : _ = (AV.sl 0 true [])) ?_
 refine AOps.nilR ?_
 refine AW.sr ?_
 refine AOps.p rfl (rfl : _ = (AV.int .i64 0)) ?_
 refine AOps.nilR ?_
 refine AW.seq ?_
 refine AW.sr ?_
 refine AOps.p rfl (rfl : _ = (AV.sl z2 f3 e4)) ?_
 refine AOps.p rfl (len_eq h5) ?_
 refine AOps.p rfl (rfl : _ = (AV.int .i64 0)) ?_
 refine AOps.nilR ?_
 refine AW.meet (σ := Int) (fun size6 tm os => ⟨updL tm [(0, (AV.sl z2 f3 e4)), (3, (AV.int .i64 size6))], updL os [], { s with lo := s.n }⟩) (fun size6 => slices_Concat_sint64_int64_J1 slices1 size6 = some r) ?_ ?_
 ·rintro size6 tm os h
  unfold slices_Concat_sint64_int64_J1 at h
  refine AW.sr ?_
  refine AOps.p rfl (rfl : _ = (AV.int .i64 size6)) ?_
  obtain ⟨y8, h9, h⟩ := obind h
  refine AOps.callPO (g := 64) (args := [(AV.sl 0 true []), (AV.int .i64 size6)]) (p := (rL (rI .i64) 1) y8) rfl rfl rfl (ext_grow64_ok (⟨.inr ⟨rfl, rfl⟩, .nil⟩) h9 hWF) ?_
  intro _ h10
  obtain ⟨z11, f12, e13, rfl, h14⟩ := h10
  refine AOps.assignR rfl rfl rfl (rfl : _ = (AV.sl z11 f12 e13)) rfl ?_
  refine AOps.nilR ?_
  refine AW.seq ?_
  refine AW.sr ?_
  refine AOps.p rfl (rfl : _ = (AV.sl z2 f3 e4)) ?_
  refine AOps.p rfl (len_eq h5) ?_
  refine AOps.p rfl (rfl : _ = (AV.int .i64 0)) ?_
  refine AOps.nilR ?_
  refine AW.meet (σ := (List Int) × Nat × Bool × (List AV)) (fun (newslice16, z17, f18, e19) tm os => ⟨updL tm [(6, (AV.sl z17 f18 e19))], updL os [(6, true)], { s with lo := s.n }⟩) (fun (newslice16, z17, f18, e19) => (LR (rI .i64) 1 newslice16 z17 e19) ∧ slices_Concat_sint64_int64_J2 newslice16 = some r) ?_ ?_
  ·rintro ⟨newslice16, z17, f18, e19⟩ tm os ⟨h20, h⟩
   unfold slices_Concat_sint64_int64_J2 at h
   refine AW.sr ?_
   refine AOps.p rfl (rfl : _ = (AV.sl z17 f18 e19)) ?_
   refine AOps.assignR rfl rfl rfl (rfl : _ = (AV.sl z17 f18 e19)) rfl ?_
   refine AOps.nilR ?_
   cases h
   exact AW.ret ⟨rfl, _, _, rfl, ⟨_, _, _, rfl, h20⟩⟩
  intro KJ21
  refine AW.block ?_
  refine AW.res [(6, (AV.sl z11 f12 e13)), (25, (AV.sl z2 f3 e4)), (26, (AV.int .i64 (slices1.length : Int))), (27, (AV.int .i64 0))] [(6, true)] ⟨rfl, rfl, rfl, rfl, trivial⟩ ⟨rfl, trivial⟩ ?_
  refine AW.loopF (σ := (List Int) × Int) (τ := Nat × Bool × (List AV)) (fun (newslice22, t27) (z23, f24, e25) => (LR (rI .i64) 1 newslice22 z23 e25)) (fun (newslice22, t27) (z23, f24, e25) tm os => ⟨updL tm [(6, (AV.sl z23 f24 e25)), (25, (AV.sl z2 f3 e4)), (26, (AV.int .i64 (slices1.length : Int))), (27, (AV.int .i64 t27))], updL os [(6, true)], { s with lo := s.n }⟩) ?_ (x := (y8, 0)) (y := (z11, f12, e13)) h h14
  clear h
  rintro ⟨newslice22, t27⟩ ⟨z23, f24, e25⟩ tm os h26 ee1 h hL1 hR1
  unfold slices_Concat_sint64_int64_S1 at h
  dsimp only at h
  refine AW.sr ?_
  refine AOps.p rfl (rfl : _ = (AV.bool (decide ((t27 : Int) < (slices1.length : Int))))) ?_
  refine AOps.nilR ?_
  refine AW.seq ?_
  rcases oite h with ⟨hc28, h⟩ | ⟨hc28, h⟩
  ·refine AW.condT (congrArg AV.bool hc28) ?_
   refine AW.skip ?_
   refine AW.seq ?_
   refine AW.block ?_
   refine AW.sr ?_
   obtain ⟨x29, h30, h⟩ := obind h
   obtain ⟨v33, h31, h32⟩ := idx_sl h5 h30
   obtain ⟨z34, f35, e36, rfl, h37⟩ := h31
   refine AOps.pureR rfl rfl rfl h32 rfl (rfl : _ = (AV.eptr [(AV.sl z34 f35 e36)] 0)) ?_
   refine AOps.ldE (v := (AV.sl z34 f35 e36)) rfl rfl rfl rfl rfl rfl ?_
   refine AOps.assignR rfl rfl rfl (rfl : _ = (AV.sl z34 f35 e36)) rfl ?_
   refine AOps.nilR ?_
   refine AW.region ?_
   refine AOps.moveR rfl rfl rfl rfl (rfl : _ = (AV.sl z23 f24 e25)) rfl ?_
   refine AOps.p rfl (rfl : _ = (AV.sl z34 f35 e36)) ?_
   obtain ⟨l38, h39, h⟩ := obind h
   obtain ⟨h40, h41⟩ := app_LR h26 h37 h39
   refine AOps.appL (z := z23) (f := f24) (e := e25) (z' := z34) (f' := f35) (e' := e36) rfl rfl rfl rfl rfl rfl rfl (appSrc_sl (LR.z h37) rfl) (LR.z h26) ⟨by decide, by decide, rfl, rfl⟩ rfl rfl h41 (Or.inr ⟨31, rfl, rfl⟩) ?_
   refine AOps.assignR rfl rfl rfl (rfl : _ = (AV.sl 1 false (e25 ++ e36))) rfl ?_
   refine AOps.nilR ?_
   refine AW.inBlock ?_
   refine AW.region ?_
   refine AOps.p rfl (rfl : _ = (AV.int .i64 (IntKind.wrap .i64 (t27 + 1)))) ?_
   refine AOps.p rfl (rfl : _ = (AV.int .i64 (IntKind.wrap .i64 (t27 + 1)))) ?_
   refine AOps.nilR ?_
   cases h
   exact AW.res [(6, (AV.sl 1 false (e25 ++ e36))), (25, (AV.sl z2 f3 e4)), (26, (AV.int .i64 (slices1.length : Int))), (27, (AV.int .i64 (IntKind.wrap .i64 (t27 + 1))))] [(6, true)] ⟨rfl, rfl, rfl, rfl, trivial⟩ ⟨rfl, trivial⟩ (hL1 _ rfl (1, false, (e25 ++ e36)) _ _ h40)
  refine AW.condF (congrArg AV.bool hc28) ?_
  refine AW.exit rfl ?_
  obtain ⟨r42, hm, hx⟩ := omap h
  clear h
  subst hx
  have hx := hR1 _ rfl
  rw [hx] at hm
  have h := hm
  exact AW.res [(6, (AV.sl z23 f24 e25))] [(6, true)] ⟨rfl, trivial⟩ ⟨rfl, trivial⟩ (KJ21 (newslice22, z23, f24, e25) _ _ ⟨h26, h⟩)
 intro KJ7
 refine AW.block ?_
 refine AW.res [(0, (AV.sl z2 f3 e4)), (3, (AV.int .i64 0)), (9, (AV.sl z2 f3 e4)), (10, (AV.int .i64 (slices1.length : Int))), (11, (AV.int .i64 0))] [] ⟨rfl, rfl, rfl, rfl, rfl, trivial⟩ trivial ?_
 refine AW.loopF (σ := Int × Int) (τ := Unit) (fun (size43, t44) _ => True) (fun (size43, t44) _ tm os => ⟨updL tm [(0, (AV.sl z2 f3 e4)), (3, (AV.int .i64 size43)), (9, (AV.sl z2 f3 e4)), (10, (AV.int .i64 (slices1.length : Int))), (11, (AV.int .i64 t44))], updL os [], { s with lo := s.n }⟩) ?_ (x := (0, 0)) (y := ()) h trivial
 clear h
 rintro ⟨size43, t44⟩ _ tm os - ee1 h hL1 hR1
 unfold slices_Concat_sint64_int64_S2 at h
 dsimp only at h
 refine AW.sr ?_
 refine AOps.p rfl (rfl : _ = (AV.bool (decide ((t44 : Int) < (slices1.length : Int))))) ?_
 refine AOps.nilR ?_
 refine AW.seq ?_
 rcases oite h with ⟨hc45, h⟩ | ⟨hc45, h⟩
 ·refine AW.condT (congrArg AV.bool hc45) ?_
  refine AW.skip ?_
  refine AW.seq ?_
  refine AW.block ?_
  refine AW.sr ?_
  obtain ⟨x46, h47, h⟩ := obind h
  obtain ⟨v50, h48, h49⟩ := idx_sl h5 h47
  obtain ⟨z51, f52, e53, rfl, h54⟩ := h48
  refine AOps.pureR rfl rfl rfl h49 rfl (rfl : _ = (AV.eptr [(AV.sl z51 f52 e53)] 0)) ?_
  refine AOps.ldE (v := (AV.sl z51 f52 e53)) rfl rfl rfl rfl rfl rfl ?_
  refine AOps.assignR rfl rfl rfl (rfl : _ = (AV.sl z51 f52 e53)) rfl ?_
  refine AOps.nilR ?_
  refine AW.sr ?_
  refine AOps.p rfl (rfl : _ = (AV.int .i64 size43)) ?_
  refine AOps.p rfl (rfl : _ = (AV.sl z51 f52 e53)) ?_
  refine AOps.p rfl (len_eq h54) ?_
  refine AOps.p rfl (rfl : _ = (AV.int .i64 (IntKind.wrap .i64 (size43 + (x46.length : Int))))) ?_
  refine AOps.assignR rfl rfl rfl (rfl : _ = (AV.int .i64 (IntKind.wrap .i64 (size43 + (x46.length : Int))))) rfl ?_
  refine AOps.nilR ?_
  refine AW.sr ?_
  refine AOps.p rfl (rfl : _ = (AV.int .i64 (IntKind.wrap .i64 (size43 + (x46.length : Int))))) ?_
  refine AOps.p rfl (rfl : _ = (AV.bool (decide ((IntKind.wrap .i64 (size43 + (x46.length : Int)) : Int) < 0)))) ?_
  refine AOps.nilR ?_
  rcases oite h with ⟨hc55, h⟩ | ⟨hc55, h⟩
  ·refine AW.condT (congrArg AV.bool hc55) ?_
   refine AW.region ?_
   cases h
  refine AW.condF (congrArg AV.bool hc55) ?_
  refine AW.skip ?_
  refine AW.inBlock ?_
  refine AW.region ?_
  refine AOps.p rfl (rfl : _ = (AV.int .i64 (IntKind.wrap .i64 (t44 + 1)))) ?_
  refine AOps.p rfl (rfl : _ = (AV.int .i64 (IntKind.wrap .i64 (t44 + 1)))) ?_
  refine AOps.nilR ?_
  cases h
  exact AW.res [(0, (AV.sl z2 f3 e4)), (3, (AV.int .i64 (IntKind.wrap .i64 (size43 + (x46.length : Int))))), (9, (AV.sl z2 f3 e4)), (10, (AV.int .i64 (slices1.length : Int))), (11, (AV.int .i64 (IntKind.wrap .i64 (t44 + 1))))] [] ⟨rfl, rfl, rfl, rfl, rfl, trivial⟩ trivial (hL1 _ rfl () _ _ trivial)
 refine AW.condF (congrArg AV.bool hc45) ?_
 refine AW.exit rfl ?_
 obtain ⟨r56, hm, hx⟩ := omap h
 clear h
 subst hx
 have hx := hR1 _ rfl
 rw [hx] at hm
 have h := hm
 exact AW.res [(0, (AV.sl z2 f3 e4)), (3, (AV.int .i64 size43))] [] ⟨rfl, rfl, trivial⟩ trivial (KJ7 (size43) _ _ h)
theorem slices_Index_sint64_int64_ok {s1 : List Int} {v6 : Int} {z2 : Nat} {f3 : Bool} {e4 : List AV} {s : St} (h5 : LR (rI .i64) 1 s1 z2 e4) {r : Int} (h : slices_Index_sint64_int64 s1 v6 = some r) (hs : WF s) : ACall Cf 65 [(AV.sl z2 f3 e4), (AV.int .i64 v6)] s fun v _ s' => (rI .i64) r v ∧ s' = s := by
 refine ACall.pure rfl rfl rfl .I ?_
 have hWF := hs.lo'
 unfold slices_Index_sint64_int64 at h
 refine AW.sr ?_
 refine AOps.p rfl (rfl : _ = (AV.int .i64 0)) ?_
 refine AOps.nilR ?_
 refine AW.seq ?_
 refine AW.sr ?_
 refine AOps.p rfl (rfl : _ = (AV.sl z2 f3 e4)) ?_
 refine AOps.p rfl (len_eq h5) ?_
 refine AOps.p rfl (rfl : _ = (AV.int .i64 0)) ?_
 refine AOps.nilR ?_
 refine AW.meet (σ := Unit) (fun _ tm os => ⟨updL tm [], updL os [], { s with lo := s.n }⟩) (fun _ => slices_Index_sint64_int64_J1 = some r) ?_ ?_
 ·rintro _ tm os h
  unfold slices_Index_sint64_int64_J1 at h
  refine AW.sr ?_
  refine AOps.p rfl (rfl : _ = (AV.int .i64 (-1))) ?_
  refine AOps.nilR ?_
  cases h
  exact AW.ret ⟨rfl, _, _, rfl, rfl⟩
 intro KJ7
 refine AW.block ?_
 refine AW.res [(0, (AV.sl z2 f3 e4)), (1, (AV.int .i64 v6)), (7, (AV.int .i64 (s1.length : Int))), (8, (AV.int .i64 0))] [] ⟨rfl, rfl, rfl, rfl, trivial⟩ trivial ?_
 refine AW.loopF (σ := Int) (τ := Unit) (fun t8 _ => True) (fun t8 _ tm os => ⟨updL tm [(0, (AV.sl z2 f3 e4)), (1, (AV.int .i64 v6)), (7, (AV.int .i64 (s1.length : Int))), (8, (AV.int .i64 t8))], updL os [], { s with lo := s.n }⟩) ?_ (x := (0)) (y := ()) h trivial
 clear h
 rintro t8 _ tm os - ee1 h hL1 hR1
 unfold slices_Index_sint64_int64_S1 at h
 refine AW.sr ?_
 refine AOps.p rfl (rfl : _ = (AV.bool (decide ((t8 : Int) < (s1.length : Int))))) ?_
 refine AOps.nilR ?_
 refine AW.seq ?_
 rcases oite h with ⟨hc9, h⟩ | ⟨hc9, h⟩
 ·refine AW.condT (congrArg AV.bool hc9) ?_
  refine AW.skip ?_
  refine AW.seq ?_
  refine AW.block ?_
  refine AW.sr ?_
  refine AOps.p rfl (rfl : _ = (AV.int .i64 t8)) ?_
  refine AOps.assignR rfl rfl rfl (rfl : _ = (AV.int .i64 t8)) rfl ?_
  refine AOps.nilR ?_
  refine AW.sr ?_
  refine AOps.p rfl (rfl : _ = (AV.int .i64 v6)) ?_
  refine AOps.p rfl (rfl : _ = (AV.sl z2 f3 e4)) ?_
  refine AOps.p rfl (rfl : _ = (AV.int .i64 t8)) ?_
  obtain ⟨x10, h11, h⟩ := obind h
  obtain ⟨v14, h12, h13⟩ := idx_sl h5 h11
  cases h12
  refine AOps.pureR rfl rfl rfl h13 rfl (rfl : _ = (AV.eptr [(AV.int .i64 x10)] 0)) ?_
  refine AOps.ldE (v := (AV.int .i64 x10)) rfl rfl rfl rfl rfl rfl ?_
  refine AOps.p rfl (rfl : _ = (AV.bool (v6 == x10))) ?_
  refine AOps.nilR ?_
  rcases oite h with ⟨hc15, h⟩ | ⟨hc15, h⟩
  ·refine AW.condT (congrArg AV.bool hc15) ?_
   refine AW.sr ?_
   refine AOps.p rfl (rfl : _ = (AV.int .i64 t8)) ?_
   refine AOps.assignR rfl rfl rfl (rfl : _ = (AV.int .i64 t8)) rfl ?_
   refine AOps.nilR ?_
   cases h
   have hr := hR1 _ rfl
   subst hr
   exact AW.ret ⟨rfl, _, _, rfl, rfl⟩
  refine AW.condF (congrArg AV.bool hc15) ?_
  refine AW.skip ?_
  refine AW.inBlock ?_
  refine AW.region ?_
  refine AOps.p rfl (rfl : _ = (AV.int .i64 (IntKind.wrap .i64 (t8 + 1)))) ?_
  refine AOps.p rfl (rfl : _ = (AV.int .i64 (IntKind.wrap .i64 (t8 + 1)))) ?_
  refine AOps.nilR ?_
  cases h
  exact AW.res [(0, (AV.sl z2 f3 e4)), (1, (AV.int .i64 v6)), (7, (AV.int .i64 (s1.length : Int))), (8, (AV.int .i64 (IntKind.wrap .i64 (t8 + 1))))] [] ⟨rfl, rfl, rfl, rfl, trivial⟩ trivial (hL1 _ rfl () _ _ trivial)
 refine AW.condF (congrArg AV.bool hc9) ?_
 refine AW.exit rfl ?_
 obtain ⟨r16, hm, hx⟩ := omap h
 clear h
 subst hx
 have hx := hR1 _ rfl
 rw [hx] at hm
 have h := hm
 exact AW.res [] [] trivial trivial (KJ7 () _ _ h)
theorem slices_Contains_sint64_int64_okN {s1 : List Int} {v6 : Int} {z2 : Nat} {f3 : Bool} {e4 : List AV} {s : St} (h5 : LR (rI .i64) 1 s1 z2 e4) {r : Bool} (h : slices_Contains_sint64_int64 s1 v6 = some r) (hs : WF s) : ACallN Cf 61 [(AV.sl z2 f3 e4), (AV.int .i64 v6)] s fun v _ s' => (rB) r v ∧ s' = s := by
 refine ACallN.pure rfl rfl rfl .B ?_
 have hWF := hs.lo'
 unfold slices_Contains_sint64_int64 at h
 refine AW.sr ?_
 refine AOps.p rfl (rfl : _ = (AV.bool false)) ?_
 refine AOps.nilR ?_
 refine AW.sr ?_
 refine AOps.p rfl (rfl : _ = (AV.sl z2 f3 e4)) ?_
 refine AOps.p rfl (rfl : _ = (AV.int .i64 v6)) ?_
 obtain ⟨y7, h8, h⟩ := obind h
 refine AOps.callP (g := 65) (args := [(AV.sl z2 f3 e4), (AV.int .i64 v6)]) (p := (rI .i64) y7) rfl rfl rfl (slices_Index_sint64_int64_ok h5 h8 hWF) ?_
 intro _ o10 h9
 cases h9
 refine AOps.p rfl (rfl : _ = (AV.bool (decide ((y7 : Int) ≥ 0)))) ?_
 refine AOps.assignR rfl rfl rfl (rfl : _ = (AV.bool (decide ((y7 : Int) ≥ 0)))) rfl ?_
 refine AOps.nilR ?_
 cases h
 exact AW.ret ⟨rfl, _, _, rfl, rfl⟩
theorem impl_Checker_used_ok {p1 : Checker} {z2 : Nat} {f3 : Bool} {e4 : List AV} {z6 : Nat} {f7 : Bool} {e8 : List AV} {z10 : Nat} {f11 : Bool} {e12 : List AV} {z14 : Nat} {f15 : Bool} {e16 : List AV} {s : St} (h5 : LR rB 1 p1.Accept z2 e4) (h9 : LR (rL rPush 2) 1 p1.Call z6 e8) (h13 : LR (rL (rL (rI .i64) 1) 1) 1 p1.Return z10 e12) (h17 : LR (rL (rI .i64) 1) 1 p1.Inner z14 e16) {r : (List Int)} (h : impl_Checker_used p1 = some r) (hs : WF s) : ACall Cf 51 [(AV.agg [(AV.int .i64 p1.Stack), (AV.int .i64 p1.Start), (AV.sl z2 f3 e4), (AV.sl z6 f7 e8), (AV.sl z10 f11 e12), (AV.sl z14 f15 e16)])] s fun v _ s' => (rL (rI .i64) 1) r v ∧ s' = s := by
 refine ACall.boxes rfl rfl rfl ?_
 have hH0 := HS.g0 (HS.init hs)
 have hG0 := AllG.nil
 have hl : LoOK [] false s := LoOK.nil
 unfold impl_Checker_used at h
 refine AW.sr ?_
 refine AOps.makeR rfl rfl rfl rfl rfl rfl (rfl : _ = (AV.eptr [(AV.int .i64 p1.Stack), (AV.int .i64 p1.Start), (AV.sl z2 f3 e4), (AV.sl z6 f7 e8), (AV.sl z10 f11 e12), (AV.sl z14 f15 e16)] 0)) ?_
 refine AOps.p rfl (rfl : _ = (AV.sl 0 true [])) ?_
 refine AOps.nilR ?_
 refine AW.sr ?_
 refine AOps.p rfl (rfl : _ = (AV.eptr [(AV.int .i64 p1.Stack), (AV.int .i64 p1.Start), (AV.sl z2 f3 e4), (AV.sl z6 f7 e8), (AV.sl z10 f11 e12), (AV.sl z14 f15 e16)] 1)) ?_
 refine AOps.ldE (v := (AV.int .i64 p1.Start)) rfl rfl rfl rfl rfl rfl ?_
 refine AOps.litO (e := oE2) (xs := ([p1.Start] : List Int)) (els := [(AV.int .i64 p1.Start)]) hH0 hG0 rfl rfl rfl rfl rfl rfl (le_b rfl) rfl ⟨rfl, rfl⟩ rfl (fun _ => AV.undef) (OL.leaf (LR.el (LR.lit (r := rI .i64) (sz := 1) (.cons rfl .nil))) 0) rfl ?_
 intro h18 k20 Ls21 s22 ho19 hG23 hH24
 change HS [] false s s22 (([] : List BX) ++ List.flatten Ls21) at hH24
 change AllG [OS oE2 h18 k20 ([p1.Start] : List Int)] Ls21 at hG23
 refine AOps.assignR rfl rfl rfl (rfl : _ = h18) rfl ?_
 refine AOps.nilR ?_
 refine AW.seq ?_
 refine AW.sr ?_
 refine AOps.p rfl (rfl : _ = (AV.int .i64 0)) ?_
 refine AOps.nilR ?_
 refine AW.meet (σ := (List Int) × AV × KT × St × (List (List BX))) (fun (t25, h26, k27, s30, Ls31) tm os => ⟨updL tm [(3, h26)], updL os [], s30⟩) (fun (t25, h26, k27, s30, Ls31) => (h26.one = true) ∧ (t25 ≠ []) ∧ (HS [] false s s30 (([] : List BX) ++ List.flatten Ls31)) ∧ (AllG [OS oE2 h26 k27 t25] Ls31) ∧ impl_Checker_used_J1 t25 = some r) ?_ ?_
 ·rintro ⟨t25, h26, k27, s30, Ls31⟩ tm os ⟨ho28, hne29, hH32, hG33, h⟩
  unfold impl_Checker_used_J1 at h
  refine AW.sr ?_
  refine AOps.p rfl (rfl : _ = h26) ?_
  obtain ⟨y35, h36, h⟩ := obind h
  have hP37 := HS.pop0 hH32
  have hF0 : AllG ([] : List (List BX → Prop)) [] := AllG.nil
  obtain ⟨Ls39, Lf40, hG41, hF42, hP38⟩ := HS.popG hP37 hG33 hF0 (j := 0) rfl
  refine AOps.callF (al := false) (g := 62) (args := [h26]) rfl rfl rfl (sortK (e := oE2) own_int rfl rfl rfl (HS.enterK hP38) hF42 (HS.enterLo hP38 hl) h36) ?_
  rintro _ _ s43 ⟨Ls44, rfl, hH45, hG46⟩
  have hJ47 := HS.joinK hP38 hH45
  obtain ⟨Ls48, Lf49, hG50, hF51, hP52⟩ := HS.putG hJ47 hG41 hG46 (j := 0) rfl
  cases hF51
  have hH53 := HS.push0 hP52
  change HS [] false s s43 (([] : List BX) ++ List.flatten Ls48) at hH53
  change AllG [OS oE2 h26 k27 y35] Ls48 at hG50
  refine AOps.nilR ?_
  refine AW.sr ?_
  refine AOps.p rfl (rfl : _ = h26) ?_
  refine AOps.assignR rfl rfl rfl (rfl : _ = h26) rfl ?_
  refine AOps.nilR ?_
  cases h
  obtain ⟨_, _, hr54, hf55⟩ := HS.resO hH53 hG50 (j := 0) rfl (Or.inr ⟨rfl, rfl⟩) (by decide) _
  exact AW.ret ⟨⟨_, hH53⟩, _, _, congrArg some hr54, hf55⟩
 intro KJ34
 refine AW.block ?_
 refine AW.res [(1, (AV.eptr [(AV.int .i64 p1.Stack), (AV.int .i64 p1.Start), (AV.sl z2 f3 e4), (AV.sl z6 f7 e8), (AV.sl z10 f11 e12), (AV.sl z14 f15 e16)] 0)), (3, h18), (4, (AV.int .i64 0))] [] ⟨rfl, rfl, rfl, trivial⟩ trivial ?_
 refine AW.loopF (σ := (List Int) × Int) (τ := AV × KT × St × (List (List BX))) (fun (t56, t61) (h57, k58, s62, Ls63) => (h57.one = true) ∧ (t56 ≠ []) ∧ (HS [] false s s62 (([] : List BX) ++ List.flatten Ls63)) ∧ (AllG [OS oE2 h57 k58 t56] Ls63)) (fun (t56, t61) (h57, k58, s62, Ls63) tm os => ⟨updL tm [(1, (AV.eptr [(AV.int .i64 p1.Stack), (AV.int .i64 p1.Start), (AV.sl z2 f3 e4), (AV.sl z6 f7 e8), (AV.sl z10 f11 e12), (AV.sl z14 f15 e16)] 0)), (3, h57), (4, (AV.int .i64 t61))], updL os [], s62⟩) ?_ (x := (([p1.Start] : List Int), 0)) (y := (h18, k20, s22, Ls21)) h ⟨ho19, (List.cons_ne_nil _ _), hH24, hG23⟩
 clear h
 rintro ⟨t56, t61⟩ ⟨h57, k58, s62, Ls63⟩ tm os ⟨ho59, hne60, hH64, hG65⟩ ee1 h hL1 hR1
 unfold impl_Checker_used_S1 at h
 dsimp only at h
 refine AW.seq ?_
 refine AW.sr ?_
 refine AOps.p rfl (rfl : _ = (AV.int .i64 t61)) ?_
 refine AOps.p rfl (rfl : _ = h57) ?_
 refine AOps.lenO (j := 0) hG65 rfl Sub.here rfl rfl rfl rfl rfl ?_
 refine AOps.p rfl (rfl : _ = (AV.bool (decide ((t61 : Int) < (t56.length : Int))))) ?_
 refine AOps.nilR ?_
 rcases oite h with ⟨hc66, h⟩ | ⟨hc66, h⟩
 ·refine AW.condT (congrArg AV.bool hc66) ?_
  refine AW.skip ?_
  refine AW.seq ?_
  refine AW.block ?_
  refine AW.sr ?_
  refine AOps.p rfl (rfl : _ = h57) ?_
  refine AOps.p rfl (rfl : _ = (AV.int .i64 t61)) ?_
  obtain ⟨x69, h70, h⟩ := obind h
  refine AOps.idxO (j := 0) hG65 rfl Sub.here h70 rfl rfl rfl rfl rfl rfl rfl rfl rfl ?_
  intro b67 hb68
  refine AOps.ldO (j := 0) (q := 0) hH64 hG65 rfl Sub.here h70 hb68 rfl rfl rfl rfl rfl (lt_b rfl) (le_b rfl) rfl rfl ?_ (fun c B hc => by obtain ⟨⟨_, hr, rfl⟩, rfl⟩ := hc; cases hr; exact ⟨_, rfl⟩)
  intro c71 B72 v73 h74 h75
  obtain ⟨⟨_, h76, rfl⟩, rfl⟩ := h74
  cases h76
  cases h75
  refine AOps.assignR rfl rfl rfl (rfl : _ = (AV.int .i64 x69)) rfl ?_
  refine AOps.nilR ?_
  refine AW.sr ?_
  refine AOps.p rfl (rfl : _ = (AV.eptr [(AV.int .i64 p1.Stack), (AV.int .i64 p1.Start), (AV.sl z2 f3 e4), (AV.sl z6 f7 e8), (AV.sl z10 f11 e12), (AV.sl z14 f15 e16)] 4)) ?_
  refine AOps.ldE (v := (AV.sl z10 f11 e12)) rfl rfl rfl rfl rfl rfl ?_
  refine AOps.p rfl (rfl : _ = (AV.int .i64 x69)) ?_
  obtain ⟨x77, h78, h⟩ := obind h
  obtain ⟨v81, h79, h80⟩ := idx_sl h13 h78
  obtain ⟨z82, f83, e84, rfl, h85⟩ := h79
  refine AOps.pureR rfl rfl rfl h80 rfl (rfl : _ = (AV.eptr [(AV.sl z82 f83 e84)] 0)) ?_
  refine AOps.ldE (v := (AV.sl z82 f83 e84)) rfl rfl rfl rfl rfl rfl ?_
  obtain ⟨x86, h87, h⟩ := obind h
  obtain ⟨v90, h88, h89⟩ := idx_sl h85 h87
  obtain ⟨z91, f92, e93, rfl, h94⟩ := h88
  refine AOps.pureR rfl rfl rfl h89 rfl (rfl : _ = (AV.eptr [(AV.sl z91 f92 e93)] 0)) ?_
  refine AOps.ldE (v := (AV.sl z91 f92 e93)) rfl rfl rfl rfl rfl rfl ?_
  refine AOps.p rfl (rfl : _ = (AV.eptr [(AV.int .i64 p1.Stack), (AV.int .i64 p1.Start), (AV.sl z2 f3 e4), (AV.sl z6 f7 e8), (AV.sl z10 f11 e12), (AV.sl z14 f15 e16)] 4)) ?_
  refine AOps.ldE (v := (AV.sl z10 f11 e12)) rfl rfl rfl rfl rfl rfl ?_
  refine AOps.p rfl (rfl : _ = (AV.int .i64 x69)) ?_
  obtain ⟨x95, h96, h⟩ := obind h
  obtain ⟨v99, h97, h98⟩ := idx_sl h13 h96
  obtain ⟨z100, f101, e102, rfl, h103⟩ := h97
  refine AOps.pureR rfl rfl rfl h98 rfl (rfl : _ = (AV.eptr [(AV.sl z100 f101 e102)] 0)) ?_
  refine AOps.ldE (v := (AV.sl z100 f101 e102)) rfl rfl rfl rfl rfl rfl ?_
  obtain ⟨x104, h105, h⟩ := obind h
  obtain ⟨v108, h106, h107⟩ := idx_sl h103 h105
  obtain ⟨z109, f110, e111, rfl, h112⟩ := h106
  refine AOps.pureR rfl rfl rfl h107 rfl (rfl : _ = (AV.eptr [(AV.sl z109 f110 e111)] 0)) ?_
  refine AOps.ldE (v := (AV.sl z109 f110 e111)) rfl rfl rfl rfl rfl rfl ?_
  refine AOps.p rfl (rfl : _ = (AV.eptr [(AV.int .i64 p1.Stack), (AV.int .i64 p1.Start), (AV.sl z2 f3 e4), (AV.sl z6 f7 e8), (AV.sl z10 f11 e12), (AV.sl z14 f15 e16)] 5)) ?_
  refine AOps.ldE (v := (AV.sl z14 f15 e16)) rfl rfl rfl rfl rfl rfl ?_
  refine AOps.p rfl (rfl : _ = (AV.int .i64 x69)) ?_
  obtain ⟨x113, h114, h⟩ := obind h
  obtain ⟨v117, h115, h116⟩ := idx_sl h17 h114
  obtain ⟨z118, f119, e120, rfl, h121⟩ := h115
  refine AOps.pureR rfl rfl rfl h116 rfl (rfl : _ = (AV.eptr [(AV.sl z118 f119 e120)] 0)) ?_
  refine AOps.ldE (v := (AV.sl z118 f119 e120)) rfl rfl rfl rfl rfl rfl ?_
  refine AOps.p rfl (rfl : _ = (AV.eptr [(AV.int .i64 p1.Stack), (AV.int .i64 p1.Start), (AV.sl z2 f3 e4), (AV.sl z6 f7 e8), (AV.sl z10 f11 e12), (AV.sl z14 f15 e16)] 3)) ?_
  refine AOps.ldE (v := (AV.sl z6 f7 e8)) rfl rfl rfl rfl rfl rfl ?_
  refine AOps.p rfl (rfl : _ = (AV.int .i64 x69)) ?_
  obtain ⟨x122, h123, h⟩ := obind h
  obtain ⟨v126, h124, h125⟩ := idx_sl h9 h123
  obtain ⟨z127, f128, e129, rfl, h130⟩ := h124
  refine AOps.pureR rfl rfl rfl h125 rfl (rfl : _ = (AV.eptr [(AV.sl z127 f128 e129)] 0)) ?_
  refine AOps.ldE (v := (AV.sl z127 f128 e129)) rfl rfl rfl rfl rfl rfl ?_
  obtain ⟨x131, h132, h⟩ := obind h
  obtain ⟨v135, h133, h134⟩ := idx_sl h130 h132
  obtain ⟨_, rfl, h136⟩ := h133
  obtain ⟨_, _, rfl, h137, h138⟩ := Cs_cons h136
  cases h137
  obtain ⟨_, _, rfl, h139, h140⟩ := Cs_cons h138
  cases h139
  cases Cs_nil h140
  refine AOps.pureR rfl rfl rfl h134 rfl (rfl : _ = (AV.eptr [(AV.int .i64 x131.To), (AV.int .i64 x131.Put)] 0)) ?_
  refine AOps.p rfl (rfl : _ = (AV.eptr [(AV.int .i64 x131.To), (AV.int .i64 x131.Put)] 0)) ?_
  refine AOps.ldE (v := (AV.int .i64 x131.To)) rfl rfl rfl rfl rfl rfl ?_
  refine AOps.p rfl (rfl : _ = (AV.eptr [(AV.int .i64 p1.Stack), (AV.int .i64 p1.Start), (AV.sl z2 f3 e4), (AV.sl z6 f7 e8), (AV.sl z10 f11 e12), (AV.sl z14 f15 e16)] 3)) ?_
  refine AOps.ldE (v := (AV.sl z6 f7 e8)) rfl rfl rfl rfl rfl rfl ?_
  refine AOps.p rfl (rfl : _ = (AV.int .i64 x69)) ?_
  obtain ⟨x141, h142, h⟩ := obind h
  obtain ⟨v145, h143, h144⟩ := idx_sl h9 h142
  obtain ⟨z146, f147, e148, rfl, h149⟩ := h143
  refine AOps.pureR rfl rfl rfl h144 rfl (rfl : _ = (AV.eptr [(AV.sl z146 f147 e148)] 0)) ?_
  refine AOps.ldE (v := (AV.sl z146 f147 e148)) rfl rfl rfl rfl rfl rfl ?_
  obtain ⟨x150, h151, h⟩ := obind h
  obtain ⟨v154, h152, h153⟩ := idx_sl h149 h151
  obtain ⟨_, rfl, h155⟩ := h152
  obtain ⟨_, _, rfl, h156, h157⟩ := Cs_cons h155
  cases h156
  obtain ⟨_, _, rfl, h158, h159⟩ := Cs_cons h157
  cases h158
  cases Cs_nil h159
  refine AOps.pureR rfl rfl rfl h153 rfl (rfl : _ = (AV.eptr [(AV.int .i64 x150.To), (AV.int .i64 x150.Put)] 0)) ?_
  refine AOps.p rfl (rfl : _ = (AV.eptr [(AV.int .i64 x150.To), (AV.int .i64 x150.Put)] 0)) ?_
  refine AOps.ldE (v := (AV.int .i64 x150.To)) rfl rfl rfl rfl rfl rfl ?_
  refine AOps.makeR rfl rfl rfl rfl rfl rfl (rfl : _ = (AV.sl 1 true [(AV.int .i64 x131.To), (AV.int .i64 x150.To)])) ?_
  refine AOps.makeR rfl rfl rfl rfl rfl rfl (rfl : _ = (AV.sl 1 true [(AV.sl z91 f92 e93), (AV.sl z109 f110 e111), (AV.sl z118 f119 e120), (AV.sl 1 true [(AV.int .i64 x131.To), (AV.int .i64 x150.To)])])) ?_
  obtain ⟨y160, h161, h⟩ := obind h
  refine AOps.callDP (g := 60) (args := [(AV.sl 1 true [(AV.sl z91 f92 e93), (AV.sl z109 f110 e111), (AV.sl z118 f119 e120), (AV.sl 1 true [(AV.int .i64 x131.To), (AV.int .i64 x150.To)])])]) (p := (rL (rI .i64) 1) y160) rfl rfl rfl (slices_Concat_sint64_int64_ok (LR.lit (r := rL (rI .i64) 1) (sz := 1) (.cons ⟨_, _, _, rfl, h94⟩ (.cons ⟨_, _, _, rfl, h112⟩ (.cons ⟨_, _, _, rfl, h121⟩ (.cons ⟨_, _, _, rfl, LR.lit (r := rI .i64) (sz := 1) (.cons rfl (.cons rfl .nil))⟩ .nil))))) h161 ((HS.wf' hH64).still)) (fun v hv => Nice.pure (k := FINK) (p := (rL (rI .i64) 1) y160) (.L fun _ => .I) _ v hv) ?_
  intro _ o167 h162
  obtain ⟨z163, f164, e165, rfl, h166⟩ := h162
  refine AOps.assignR rfl rfl rfl (rfl : _ = (AV.sl z163 f164 e165)) rfl ?_
  refine AOps.nilR ?_
  refine AW.sr ?_
  refine AOps.p rfl (rfl : _ = (AV.sl z163 f164 e165)) ?_
  refine AOps.p rfl (len_eq h166) ?_
  refine AOps.p rfl (rfl : _ = (AV.int .i64 0)) ?_
  refine AOps.nilR ?_
  refine AW.meet (σ := (List Int) × AV × KT × St × (List (List BX))) (fun (t168, h169, k170, s173, Ls174) tm os => ⟨updL tm [(1, (AV.eptr [(AV.int .i64 p1.Stack), (AV.int .i64 p1.Start), (AV.sl z2 f3 e4), (AV.sl z6 f7 e8), (AV.sl z10 f11 e12), (AV.sl z14 f15 e16)] 0)), (3, h169), (4, (AV.int .i64 t61))], updL os [], s173⟩) (fun (t168, h169, k170, s173, Ls174) => (h169.one = true) ∧ (t168 ≠ []) ∧ (HS [] false s s173 (([] : List BX) ++ List.flatten Ls174)) ∧ (AllG [OS oE2 h169 k170 t168] Ls174) ∧ impl_Checker_used_J2 t61 t168 = some ee1) ?_ ?_
  ·rintro ⟨t168, h169, k170, s173, Ls174⟩ tm os ⟨ho171, hne172, hH175, hG176, h⟩
   unfold impl_Checker_used_J2 at h
   refine AW.inBlock ?_
   refine AW.region ?_
   refine AOps.p rfl (rfl : _ = (AV.int .i64 t61)) ?_
   refine AOps.p rfl (rfl : _ = (AV.int .i64 (IntKind.wrap .i64 (t61 + 1)))) ?_
   refine AOps.assignR rfl rfl rfl (rfl : _ = (AV.int .i64 (IntKind.wrap .i64 (t61 + 1)))) rfl ?_
   refine AOps.nilR ?_
   cases h
   exact AW.res [(1, (AV.eptr [(AV.int .i64 p1.Stack), (AV.int .i64 p1.Start), (AV.sl z2 f3 e4), (AV.sl z6 f7 e8), (AV.sl z10 f11 e12), (AV.sl z14 f15 e16)] 0)), (3, h169), (4, (AV.int .i64 (IntKind.wrap .i64 (t61 + 1))))] [] ⟨rfl, rfl, rfl, trivial⟩ trivial (hL1 _ rfl (h169, k170, s173, Ls174) _ _ ⟨ho171, hne172, hH175, hG176⟩)
  intro KJ177
  refine AW.block ?_
  refine AW.res [(1, (AV.eptr [(AV.int .i64 p1.Stack), (AV.int .i64 p1.Start), (AV.sl z2 f3 e4), (AV.sl z6 f7 e8), (AV.sl z10 f11 e12), (AV.sl z14 f15 e16)] 0)), (3, h57), (4, (AV.int .i64 t61)), (60, (AV.sl z163 f164 e165)), (61, (AV.int .i64 (y160.length : Int))), (62, (AV.int .i64 0))] [] ⟨rfl, rfl, rfl, rfl, rfl, rfl, trivial⟩ trivial ?_
  refine AW.loopF (σ := (List Int) × Int) (τ := AV × KT × St × (List (List BX))) (fun (t178, t183) (h179, k180, s184, Ls185) => (h179.one = true) ∧ (t178 ≠ []) ∧ (HS [] false s s184 (([] : List BX) ++ List.flatten Ls185)) ∧ (AllG [OS oE2 h179 k180 t178] Ls185)) (fun (t178, t183) (h179, k180, s184, Ls185) tm os => ⟨updL tm [(1, (AV.eptr [(AV.int .i64 p1.Stack), (AV.int .i64 p1.Start), (AV.sl z2 f3 e4), (AV.sl z6 f7 e8), (AV.sl z10 f11 e12), (AV.sl z14 f15 e16)] 0)), (3, h179), (4, (AV.int .i64 t61)), (60, (AV.sl z163 f164 e165)), (61, (AV.int .i64 (y160.length : Int))), (62, (AV.int .i64 t183))], updL os [], s184⟩) ?_ (x := (t56, 0)) (y := (h57, k58, s62, Ls63)) h ⟨ho59, hne60, hH64, hG65⟩
  clear h
  rintro ⟨t178, t183⟩ ⟨h179, k180, s184, Ls185⟩ tm os ⟨ho181, hne182, hH186, hG187⟩ ee2 h hL2 hR2
  unfold impl_Checker_used_S2 at h
  dsimp only at h
  refine AW.sr ?_
  refine AOps.p rfl (rfl : _ = (AV.bool (decide ((t183 : Int) < (y160.length : Int))))) ?_
  refine AOps.nilR ?_
  refine AW.seq ?_
  rcases oite h with ⟨hc188, h⟩ | ⟨hc188, h⟩
  ·refine AW.condT (congrArg AV.bool hc188) ?_
   refine AW.skip ?_
   refine AW.seq ?_
   refine AW.block ?_
   refine AW.sr ?_
   obtain ⟨x189, h190, h⟩ := obind h
   obtain ⟨v193, h191, h192⟩ := idx_sl h166 h190
   cases h191
   refine AOps.pureR rfl rfl rfl h192 rfl (rfl : _ = (AV.eptr [(AV.int .i64 x189)] 0)) ?_
   refine AOps.ldE (v := (AV.int .i64 x189)) rfl rfl rfl rfl rfl rfl ?_
   refine AOps.assignR rfl rfl rfl (rfl : _ = (AV.int .i64 x189)) rfl ?_
   refine AOps.nilR ?_
   refine AW.sr ?_
   refine AOps.p rfl (rfl : _ = h179) ?_
   refine AOps.p rfl (rfl : _ = (AV.int .i64 x189)) ?_
   obtain ⟨y194, h195, h⟩ := obind h
   refine AOps.lendP (g := 61) (args := [h179, (AV.int .i64 x189)]) (ps := [(rL (rI .i64) 1) t178, (rI .i64) x189]) (p := (rB) y194) rfl rfl rfl rfl rfl rfl rfl (.cons (Fin.up (by decide) (HS.finS hH186 hG187 (j := 0) rfl Sub.here (Or.inl rfl))) (.cons (Fin.of (p := (rI .i64) x189) .I rfl) .nil)) (fun args' hc => by obtain ⟨_, _, rfl, hv0, hd0⟩ := Cs_cons hc; obtain ⟨z196, f197, e198, rfl, h199⟩ := hv0; obtain ⟨_, _, rfl, hv1, hd1⟩ := Cs_cons hd0; cases hv1; cases Cs_nil hd1; exact slices_Contains_sint64_int64_okN h199 h195 WF.blind) (fun v n hv => by cases hv; rfl) ?_
   intro _ h200
   cases h200
   refine AOps.p rfl (rfl : _ = (AV.bool (!y194))) ?_
   refine AOps.nilR ?_
   refine AW.meet (σ := (List Int) × AV × KT × St × (List (List BX))) (fun (t201, h202, k203, s206, Ls207) tm os => ⟨updL tm [(1, (AV.eptr [(AV.int .i64 p1.Stack), (AV.int .i64 p1.Start), (AV.sl z2 f3 e4), (AV.sl z6 f7 e8), (AV.sl z10 f11 e12), (AV.sl z14 f15 e16)] 0)), (3, h202), (4, (AV.int .i64 t61)), (60, (AV.sl z163 f164 e165)), (61, (AV.int .i64 (y160.length : Int))), (62, (AV.int .i64 t183))], updL os [], s206⟩) (fun (t201, h202, k203, s206, Ls207) => (h202.one = true) ∧ (t201 ≠ []) ∧ (HS [] false s s206 (([] : List BX) ++ List.flatten Ls207)) ∧ (AllG [OS oE2 h202 k203 t201] Ls207) ∧ impl_Checker_used_J3 t183 t201 = some ee2) ?_ ?_
   ·rintro ⟨t201, h202, k203, s206, Ls207⟩ tm os ⟨ho204, hne205, hH208, hG209, h⟩
    unfold impl_Checker_used_J3 at h
    refine AW.inBlock ?_
    refine AW.region ?_
    refine AOps.p rfl (rfl : _ = (AV.int .i64 (IntKind.wrap .i64 (t183 + 1)))) ?_
    refine AOps.p rfl (rfl : _ = (AV.int .i64 (IntKind.wrap .i64 (t183 + 1)))) ?_
    refine AOps.nilR ?_
    cases h
    exact AW.res [(1, (AV.eptr [(AV.int .i64 p1.Stack), (AV.int .i64 p1.Start), (AV.sl z2 f3 e4), (AV.sl z6 f7 e8), (AV.sl z10 f11 e12), (AV.sl z14 f15 e16)] 0)), (3, h202), (4, (AV.int .i64 t61)), (60, (AV.sl z163 f164 e165)), (61, (AV.int .i64 (y160.length : Int))), (62, (AV.int .i64 (IntKind.wrap .i64 (t183 + 1))))] [] ⟨rfl, rfl, rfl, rfl, rfl, rfl, trivial⟩ trivial (hL2 _ rfl (h202, k203, s206, Ls207) _ _ ⟨ho204, hne205, hH208, hG209⟩)
   intro KJ210
   rcases oite h with ⟨hc211, h⟩ | ⟨hc211, h⟩
   ·refine AW.condT (congrArg AV.bool hc211) ?_
    refine AW.region ?_
    refine AOps.p rfl (rfl : _ = h179) ?_
    refine AOps.p rfl (rfl : _ = (AV.int .i64 x189)) ?_
    refine AOps.makeR rfl rfl rfl rfl rfl rfl (rfl : _ = (AV.sl 1 true [(AV.int .i64 x189)])) ?_
    obtain ⟨l212, h213, h⟩ := obind h
    refine AOps.appLf (j := 0) (z' := 1) (f' := true) (e' := [(AV.int .i64 x189)]) hH186 hG187 rfl rfl rfl rfl rfl rfl rfl rfl (appSrc_sl (LR.z (LR.lit (r := rI .i64) (sz := 1) (.cons rfl .nil))) rfl) ⟨by decide, by decide, rfl, rfl⟩ ⟨rfl, rfl⟩ rfl rfl h213 (Or.inl rfl) (LR.el (LR.lit (r := rI .i64) (sz := 1) (.cons rfl .nil))).len (fun i => OL.leaf (LR.el (LR.lit (r := rI .i64) (sz := 1) (.cons rfl .nil))) i) ?_
    intro h214 k216 Ls217 s218 ho215 hG219 hH220
    change HS [] false s s218 (([] : List BX) ++ List.flatten Ls217) at hH220
    change AllG [OS oE2 h214 k216 l212] Ls217 at hG219
    refine AOps.assignR rfl rfl rfl (rfl : _ = h214) rfl ?_
    refine AOps.nilR ?_
    exact AW.res [(1, (AV.eptr [(AV.int .i64 p1.Stack), (AV.int .i64 p1.Start), (AV.sl z2 f3 e4), (AV.sl z6 f7 e8), (AV.sl z10 f11 e12), (AV.sl z14 f15 e16)] 0)), (3, h214), (4, (AV.int .i64 t61)), (60, (AV.sl z163 f164 e165)), (61, (AV.int .i64 (y160.length : Int))), (62, (AV.int .i64 t183))] [] ⟨rfl, rfl, rfl, rfl, rfl, rfl, trivial⟩ trivial (KJ210 (l212, h214, k216, s218, Ls217) _ _ ⟨ho215, (app_ne h213 hne182), hH220, hG219, h⟩)
   refine AW.condF (congrArg AV.bool hc211) ?_
   refine AW.skip ?_
   exact AW.res [(1, (AV.eptr [(AV.int .i64 p1.Stack), (AV.int .i64 p1.Start), (AV.sl z2 f3 e4), (AV.sl z6 f7 e8), (AV.sl z10 f11 e12), (AV.sl z14 f15 e16)] 0)), (3, h179), (4, (AV.int .i64 t61)), (60, (AV.sl z163 f164 e165)), (61, (AV.int .i64 (y160.length : Int))), (62, (AV.int .i64 t183))] [] ⟨rfl, rfl, rfl, rfl, rfl, rfl, trivial⟩ trivial (KJ210 (t178, h179, k180, s184, Ls185) _ _ ⟨ho181, hne182, hH186, hG187, h⟩)
  refine AW.condF (congrArg AV.bool hc188) ?_
  refine AW.exit rfl ?_
  obtain ⟨r221, hm, hx⟩ := omap h
  clear h
  subst hx
  have hx := hR2 _ rfl
  rw [hx] at hm
  have h := hm
  exact AW.res [(1, (AV.eptr [(AV.int .i64 p1.Stack), (AV.int .i64 p1.Start), (AV.sl z2 f3 e4), (AV.sl z6 f7 e8), (AV.sl z10 f11 e12), (AV.sl z14 f15 e16)] 0)), (3, h179), (4, (AV.int .i64 t61))] [] ⟨rfl, rfl, rfl, trivial⟩ trivial (KJ177 (t178, h179, k180, s184, Ls185) _ _ ⟨ho181, hne182, hH186, hG187, h⟩)
 refine AW.condF (congrArg AV.bool hc66) ?_
 refine AW.exit rfl ?_
 obtain ⟨r222, hm, hx⟩ := omap h
 clear h
 subst hx
 have hx := hR1 _ rfl
 rw [hx] at hm
 have h := hm
 exact AW.res [(3, h57)] [] ⟨rfl, trivial⟩ trivial (KJ34 (t56, h57, k58, s62, Ls63) _ _ ⟨ho59, hne60, hH64, hG65, h⟩)
theorem impl_Checker_lost_1_ok {p0_1 : Int} {c2 : Checker} {z3 : Nat} {f4 : Bool} {e5 : List AV} {z7 : Nat} {f8 : Bool} {e9 : List AV} {z11 : Nat} {f12 : Bool} {e13 : List AV} {z15 : Nat} {f16 : Bool} {e17 : List AV} {s : St} (h6 : LR rB 1 c2.Accept z3 e5) (h10 : LR (rL rPush 2) 1 c2.Call z7 e9) (h14 : LR (rL (rL (rI .i64) 1) 1) 1 c2.Return z11 e13) (h18 : LR (rL (rI .i64) 1) 1 c2.Inner z15 e17) {r : Bool} (h : impl_Checker_lost_1 p0_1 c2 = some r) (hs : WF s) : ACall Cf 52 [(AV.int .i64 p0_1), (AV.eptr [(AV.int .i64 c2.Stack), (AV.int .i64 c2.Start), (AV.sl z3 f4 e5), (AV.sl z7 f8 e9), (AV.sl z11 f12 e13), (AV.sl z15 f16 e17)] 0)] s fun v _ s' => (rB) r v ∧ s' = s := by
 refine ACall.pure rfl rfl rfl .B ?_
 have hWF := hs.lo'
 unfold impl_Checker_lost_1 at h
 refine AW.sr ?_
 refine AOps.p rfl (rfl : _ = (AV.bool false)) ?_
 refine AOps.nilR ?_
 refine AW.sr ?_
 refine AOps.p rfl (rfl : _ = (AV.eptr [(AV.int .i64 c2.Stack), (AV.int .i64 c2.Start), (AV.sl z3 f4 e5), (AV.sl z7 f8 e9), (AV.sl z11 f12 e13), (AV.sl z15 f16 e17)] 2)) ?_
 refine AOps.ldE (v := (AV.sl z3 f4 e5)) rfl rfl rfl rfl rfl rfl ?_
 refine AOps.p rfl (rfl : _ = (AV.int .i64 p0_1)) ?_
 obtain ⟨x19, h20, h⟩ := obind h
 obtain ⟨v23, h21, h22⟩ := idx_sl h6 h20
 cases h21
 refine AOps.pureR rfl rfl rfl h22 rfl (rfl : _ = (AV.eptr [(AV.bool x19)] 0)) ?_
 refine AOps.ldE (v := (AV.bool x19)) rfl rfl rfl rfl rfl rfl ?_
 refine AOps.assignR rfl rfl rfl (rfl : _ = (AV.bool x19)) rfl ?_
 refine AOps.nilR ?_
 cases h
 exact AW.ret ⟨rfl, _, _, rfl, rfl⟩
theorem impl_Checker_lost_K0_ok {c1 : Checker} {z2 : Nat} {f3 : Bool} {e4 : List AV} {z6 : Nat} {f7 : Bool} {e8 : List AV} {z10 : Nat} {f11 : Bool} {e12 : List AV} {z14 : Nat} {f15 : Bool} {e16 : List AV} {s : St} (h5 : LR rB 1 c1.Accept z2 e4) (h9 : LR (rL rPush 2) 1 c1.Call z6 e8) (h13 : LR (rL (rL (rI .i64) 1) 1) 1 c1.Return z10 e12) (h17 : LR (rL (rI .i64) 1) 1 c1.Inner z14 e16) {r : (List Int)} (h : impl_Checker_lost_K0 c1 = some r) (hs : WF s) : ACall Cf 24 [(AV.agg [(AV.int .i64 c1.Stack), (AV.int .i64 c1.Start), (AV.sl z2 f3 e4), (AV.sl z6 f7 e8), (AV.sl z10 f11 e12), (AV.sl z14 f15 e16)])] s (fun v _ s' => ∃ (h1' : AV) (k2' : KT) (Ls' : List (List BX)), v = h1' ∧ HS [] true s s' (([] : List BX) ++ List.flatten Ls') ∧ AllG [OS oE2 h1' k2' r] Ls' ∧ h1'.one = true) true := by
 refine ACall.keepR rfl rfl rfl ?_
 have hH0 := HS.g0 (HS.initK hs)
 have hG0 := AllG.nil
 have hl : LoOK [] true s := LoOK.nil
 unfold impl_Checker_lost_K0 at h
 refine AW.sr ?_
 refine AOps.makeR rfl rfl rfl rfl rfl rfl (rfl : _ = (AV.eptr [(AV.int .i64 c1.Stack), (AV.int .i64 c1.Start), (AV.sl z2 f3 e4), (AV.sl z6 f7 e8), (AV.sl z10 f11 e12), (AV.sl z14 f15 e16)] 0)) ?_
 refine AOps.p rfl (rfl : _ = (AV.sl 0 true [])) ?_
 refine AOps.nilR ?_
 refine AW.sr ?_
 refine AOps.makeR rfl rfl rfl rfl rfl rfl (rfl : _ = (AV.sl 1 true [])) ?_
 refine AOps.assignR rfl rfl rfl (rfl : _ = (AV.sl 1 true [])) rfl ?_
 refine AOps.nilR ?_
 refine AW.seq ?_
 refine AW.sr ?_
 refine AOps.p rfl (rfl : _ = (AV.eptr [(AV.int .i64 c1.Stack), (AV.int .i64 c1.Start), (AV.sl z2 f3 e4), (AV.sl z6 f7 e8), (AV.sl z10 f11 e12), (AV.sl z14 f15 e16)] 2)) ?_
 refine AOps.ldE (v := (AV.sl z2 f3 e4)) rfl rfl rfl rfl rfl rfl ?_
 refine AOps.p rfl (len_eq h5) ?_
 refine AOps.p rfl (rfl : _ = (AV.int .i64 0)) ?_
 refine AOps.nilR ?_
 refine AW.meet (σ := (List Int) × AV × KT × St × (List (List BX))) (fun (out18, h19, k20, s22, Ls23) tm os => ⟨updL tm [(3, h19)], updL os [], s22⟩) (fun (out18, h19, k20, s22, Ls23) => (h19.one = true) ∧ (HS [] true s s22 (([] : List BX) ++ List.flatten Ls23)) ∧ (AllG [OS oE2 h19 k20 out18] Ls23) ∧ impl_Checker_lost_K0_J1 out18 = some r) ?_ ?_
 ·rintro ⟨out18, h19, k20, s22, Ls23⟩ tm os ⟨ho21, hH24, hG25, h⟩
  unfold impl_Checker_lost_K0_J1 at h
  refine AW.sr ?_
  refine AOps.p rfl (rfl : _ = h19) ?_
  refine AOps.assignR rfl rfl rfl (rfl : _ = h19) rfl ?_
  refine AOps.nilR ?_
  cases h
  exact AW.ret ⟨_, _, rfl, ⟨h19, k20, Ls23, rfl, hH24, hG25, ho21⟩⟩
 intro KJ26
 refine AW.block ?_
 obtain ⟨Ls88, hG89, hH90⟩ := HS.selEG hH0 hG0 [] [none]
 change HS [] true s s (([] : List BX) ++ List.flatten Ls88) at hH90
 change AllG [Non] Ls88 at hG89
 have hG91 := AllG.imp hG89 0 rfl (P' := OS oE2 (AV.sl 1 true []) (fun _ => AV.undef) []) (fun L hL => by cases hL; exact OS.nil (Or.inl rfl))
 change AllG [OS oE2 (AV.sl 1 true []) (fun _ => AV.undef) ([] : List Int)] Ls88 at hG91
 refine AW.res [(1, (AV.eptr [(AV.int .i64 c1.Stack), (AV.int .i64 c1.Start), (AV.sl z2 f3 e4), (AV.sl z6 f7 e8), (AV.sl z10 f11 e12), (AV.sl z14 f15 e16)] 0)), (3, (AV.sl 1 true [])), (9, (AV.int .i64 (c1.Accept.length : Int))), (10, (AV.int .i64 0))] [] ⟨rfl, rfl, rfl, rfl, trivial⟩ trivial ?_
 refine AW.loopF (σ := (List Int) × Int) (τ := AV × KT × St × (List (List BX))) (fun (out27, t31) (h28, k29, s32, Ls33) => (h28.one = true) ∧ (HS [] true s s32 (([] : List BX) ++ List.flatten Ls33)) ∧ (AllG [OS oE2 h28 k29 out27] Ls33)) (fun (out27, t31) (h28, k29, s32, Ls33) tm os => ⟨updL tm [(1, (AV.eptr [(AV.int .i64 c1.Stack), (AV.int .i64 c1.Start), (AV.sl z2 f3 e4), (AV.sl z6 f7 e8), (AV.sl z10 f11 e12), (AV.sl z14 f15 e16)] 0)), (3, h28), (9, (AV.int .i64 (c1.Accept.length : Int))), (10, (AV.int .i64 t31))], updL os [], s32⟩) ?_ (x := (([] : List Int), 0)) (y := ((AV.sl 1 true []), (fun _ => AV.undef), s, Ls88)) h ⟨rfl, hH90, hG91⟩
 clear h
 rintro ⟨out27, t31⟩ ⟨h28, k29, s32, Ls33⟩ tm os ⟨ho30, hH34, hG35⟩ ee1 h hL1 hR1
 unfold impl_Checker_lost_K0_S1 at h
 dsimp only at h
 refine AW.sr ?_
 refine AOps.p rfl (rfl : _ = (AV.bool (decide ((t31 : Int) < (c1.Accept.length : Int))))) ?_
 refine AOps.nilR ?_
 refine AW.seq ?_
 rcases oite h with ⟨hc36, h⟩ | ⟨hc36, h⟩
 ·refine AW.condT (congrArg AV.bool hc36) ?_
  refine AW.skip ?_
  refine AW.seq ?_
  refine AW.block ?_
  refine AW.sr ?_
  refine AOps.p rfl (rfl : _ = (AV.int .i64 t31)) ?_
  refine AOps.assignR rfl rfl rfl (rfl : _ = (AV.int .i64 t31)) rfl ?_
  refine AOps.nilR ?_
  refine AW.sr ?_
  refine AOps.ldE (v := (AV.agg [(AV.int .i64 c1.Stack), (AV.int .i64 c1.Start), (AV.sl z2 f3 e4), (AV.sl z6 f7 e8), (AV.sl z10 f11 e12), (AV.sl z14 f15 e16)])) rfl rfl rfl rfl rfl rfl ?_
  refine AOps.alloc1 hH34 rfl rfl rfl rfl rfl rfl ?_
  intro b37 s38 hH39
  change HS [] true s s38 (([⟨some b37, [(AV.int .i64 0), (AV.int .i64 0), (AV.sl 0 true []), (AV.sl 0 true []), (AV.sl 0 true []), (AV.sl 0 true [])], (fun _ => false)⟩] : List BX) ++ List.flatten Ls33) at hH39
  refine AOps.stE (i := 0) (v := (AV.agg [(AV.int .i64 c1.Stack), (AV.int .i64 c1.Start), (AV.sl z2 f3 e4), (AV.sl z6 f7 e8), (AV.sl z10 f11 e12), (AV.sl z14 f15 e16)])) hH39 hl rfl rfl rfl rfl rfl rfl rfl rfl rfl (lt_b rfl) (le_b rfl) rfl ?_
  intro w40 s41 h42 h43 hH44
  change HS [] true s s41 (([⟨some b37, [(AV.int .i64 c1.Stack), (AV.int .i64 c1.Start), (AV.sl z2 f3 e4), (AV.sl z6 f7 e8), (AV.sl z10 f11 e12), (AV.sl z14 f15 e16)], w40⟩] : List BX) ++ List.flatten Ls33) at hH44
  refine AOps.nilR ?_
  refine AW.sr ?_
  refine AOps.p rfl (rfl : _ = (AV.int .i64 t31)) ?_
  refine AOps.p rfl (rfl : _ = (AV.ptr b37 1)) ?_
  refine AOps.stE (i := 0) (v := (AV.int .i64 t31)) hH44 hl rfl rfl rfl rfl rfl rfl rfl rfl rfl (lt_b rfl) (le_b rfl) rfl ?_
  intro w45 s46 h47 h48 hH49
  change HS [] true s s46 (([⟨some b37, [(AV.int .i64 c1.Stack), (AV.int .i64 t31), (AV.sl z2 f3 e4), (AV.sl z6 f7 e8), (AV.sl z10 f11 e12), (AV.sl z14 f15 e16)], w45⟩] : List BX) ++ List.flatten Ls33) at hH49
  refine AOps.nilR ?_
  refine AW.sr ?_
  refine AOps.ldB (i := 0) (v := (AV.agg [(AV.int .i64 c1.Stack), (AV.int .i64 t31), (AV.sl z2 f3 e4), (AV.sl z6 f7 e8), (AV.sl z10 f11 e12), (AV.sl z14 f15 e16)])) hH49 rfl rfl rfl rfl rfl rfl rfl rfl rfl ?_
  obtain ⟨y50, h51, h⟩ := obind h
  refine AOps.callP (g := 51) (args := [(AV.agg [(AV.int .i64 c1.Stack), (AV.int .i64 t31), (AV.sl z2 f3 e4), (AV.sl z6 f7 e8), (AV.sl z10 f11 e12), (AV.sl z14 f15 e16)])]) (p := (rL (rI .i64) 1) y50) rfl rfl rfl (impl_Checker_used_ok (p1 := ⟨c1.Stack, t31, c1.Accept, c1.Call, c1.Return, c1.Inner⟩) h5 h9 h13 h17 h51 (HS.wf' hH49)) ?_
  intro _ o57 h52
  obtain ⟨z53, f54, e55, rfl, h56⟩ := h52
  refine AOps.p rfl (rfl : _ = (AV.fn 52 [(AV.eptr [(AV.int .i64 c1.Stack), (AV.int .i64 c1.Start), (AV.sl z2 f3 e4), (AV.sl z6 f7 e8), (AV.sl z10 f11 e12), (AV.sl z14 f15 e16)] 0)])) ?_
  obtain ⟨y58, h59, h⟩ := obind h
  refine AOps.callP (g := 48) (args := [(AV.sl z53 f54 e55), (AV.fn 52 [(AV.eptr [(AV.int .i64 c1.Stack), (AV.int .i64 c1.Start), (AV.sl z2 f3 e4), (AV.sl z6 f7 e8), (AV.sl z10 f11 e12), (AV.sl z14 f15 e16)] 0)])]) (p := (rB) y58) rfl rfl rfl (slices_ContainsFunc_sint64_int64_ok h56 (by intro x vs y hc hx s hs; obtain ⟨_, _, rfl, hv0, hd0⟩ := Cs_cons hc; cases hv0; cases Cs_nil hd0; exact impl_Checker_lost_1_ok h5 h9 h13 h17 hx hs) h59 (HS.wf' hH49)) ?_
  intro _ o61 h60
  cases h60
  refine AOps.p rfl (rfl : _ = (AV.bool (!y58))) ?_
  refine AOps.nilR ?_
  refine AW.meet (σ := (List Int) × AV × KT × St × (List (List BX))) (fun (out62, h63, k64, s66, Ls67) tm os => ⟨updL tm [(1, (AV.eptr [(AV.int .i64 c1.Stack), (AV.int .i64 c1.Start), (AV.sl z2 f3 e4), (AV.sl z6 f7 e8), (AV.sl z10 f11 e12), (AV.sl z14 f15 e16)] 0)), (3, h63), (9, (AV.int .i64 (c1.Accept.length : Int))), (10, (AV.int .i64 t31))], updL os [], s66⟩) (fun (out62, h63, k64, s66, Ls67) => (h63.one = true) ∧ (HS [] true s s66 (([] : List BX) ++ List.flatten Ls67)) ∧ (AllG [OS oE2 h63 k64 out62] Ls67) ∧ impl_Checker_lost_K0_J2 t31 out62 = some ee1) ?_ ?_
  ·rintro ⟨out62, h63, k64, s66, Ls67⟩ tm os ⟨ho65, hH68, hG69, h⟩
   unfold impl_Checker_lost_K0_J2 at h
   refine AW.inBlock ?_
   refine AW.region ?_
   refine AOps.p rfl (rfl : _ = (AV.int .i64 (IntKind.wrap .i64 (t31 + 1)))) ?_
   refine AOps.p rfl (rfl : _ = (AV.int .i64 (IntKind.wrap .i64 (t31 + 1)))) ?_
   refine AOps.nilR ?_
   cases h
   exact AW.res [(1, (AV.eptr [(AV.int .i64 c1.Stack), (AV.int .i64 c1.Start), (AV.sl z2 f3 e4), (AV.sl z6 f7 e8), (AV.sl z10 f11 e12), (AV.sl z14 f15 e16)] 0)), (3, h63), (9, (AV.int .i64 (c1.Accept.length : Int))), (10, (AV.int .i64 (IntKind.wrap .i64 (t31 + 1))))] [] ⟨rfl, rfl, rfl, rfl, trivial⟩ trivial (hL1 _ rfl (h63, k64, s66, Ls67) _ _ ⟨ho65, hH68, hG69⟩)
  intro KJ70
  rcases oite h with ⟨hc71, h⟩ | ⟨hc71, h⟩
  ·refine AW.condT (congrArg AV.bool hc71) ?_
   refine AW.region ?_
   refine AOps.p rfl (rfl : _ = h28) ?_
   refine AOps.p rfl (rfl : _ = (AV.int .i64 t31)) ?_
   refine AOps.makeR rfl rfl rfl rfl rfl rfl (rfl : _ = (AV.sl 1 true [(AV.int .i64 t31)])) ?_
   obtain ⟨l72, h73, h⟩ := obind h
   refine AOps.appLf (j := 0) (z' := 1) (f' := true) (e' := [(AV.int .i64 t31)]) hH49 hG35 rfl rfl rfl rfl rfl rfl rfl rfl (appSrc_sl (LR.z (LR.lit (r := rI .i64) (sz := 1) (.cons rfl .nil))) rfl) ⟨by decide, by decide, rfl, rfl⟩ ⟨rfl, rfl⟩ rfl rfl h73 (Or.inl rfl) (LR.el (LR.lit (r := rI .i64) (sz := 1) (.cons rfl .nil))).len (fun i => OL.leaf (LR.el (LR.lit (r := rI .i64) (sz := 1) (.cons rfl .nil))) i) ?_
   intro h74 k76 Ls77 s78 ho75 hG79 hH80
   change HS [] true s s78 (([⟨some b37, [(AV.int .i64 c1.Stack), (AV.int .i64 t31), (AV.sl z2 f3 e4), (AV.sl z6 f7 e8), (AV.sl z10 f11 e12), (AV.sl z14 f15 e16)], w45⟩] : List BX) ++ List.flatten Ls77) at hH80
   change AllG [OS oE2 h74 k76 l72] Ls77 at hG79
   refine AOps.assignR rfl rfl rfl (rfl : _ = h74) rfl ?_
   refine AOps.nilR ?_
   obtain ⟨Ls81, hG82, hH83⟩ := HS.selEG hH80 hG79 [] [some 0]
   change HS [] true s s78 (([] : List BX) ++ List.flatten Ls81) at hH83
   change AllG [OS oE2 h74 k76 l72] Ls81 at hG82
   exact AW.res [(1, (AV.eptr [(AV.int .i64 c1.Stack), (AV.int .i64 c1.Start), (AV.sl z2 f3 e4), (AV.sl z6 f7 e8), (AV.sl z10 f11 e12), (AV.sl z14 f15 e16)] 0)), (3, h74), (9, (AV.int .i64 (c1.Accept.length : Int))), (10, (AV.int .i64 t31))] [] ⟨rfl, rfl, rfl, rfl, trivial⟩ trivial (KJ70 (l72, h74, k76, s78, Ls81) _ _ ⟨ho75, hH83, hG82, h⟩)
  refine AW.condF (congrArg AV.bool hc71) ?_
  refine AW.skip ?_
  obtain ⟨Ls84, hG85, hH86⟩ := HS.selEG hH49 hG35 [] [some 0]
  change HS [] true s s46 (([] : List BX) ++ List.flatten Ls84) at hH86
  change AllG [OS oE2 h28 k29 out27] Ls84 at hG85
  exact AW.res [(1, (AV.eptr [(AV.int .i64 c1.Stack), (AV.int .i64 c1.Start), (AV.sl z2 f3 e4), (AV.sl z6 f7 e8), (AV.sl z10 f11 e12), (AV.sl z14 f15 e16)] 0)), (3, h28), (9, (AV.int .i64 (c1.Accept.length : Int))), (10, (AV.int .i64 t31))] [] ⟨rfl, rfl, rfl, rfl, trivial⟩ trivial (KJ70 (out27, h28, k29, s46, Ls84) _ _ ⟨ho30, hH86, hG85, h⟩)
 refine AW.condF (congrArg AV.bool hc36) ?_
 refine AW.exit rfl ?_
 obtain ⟨r87, hm, hx⟩ := omap h
 clear h
 subst hx
 have hx := hR1 _ rfl
 rw [hx] at hm
 have h := hm
 exact AW.res [(3, h28)] [] ⟨rfl, trivial⟩ trivial (KJ26 (out27, h28, k29, s32, Ls33) _ _ ⟨ho30, hH34, hG35, h⟩)
theorem impl_LostStates_K0_okN {c1 : Checker} {z2 : Nat} {f3 : Bool} {e4 : List AV} {z6 : Nat} {f7 : Bool} {e8 : List AV} {z10 : Nat} {f11 : Bool} {e12 : List AV} {z14 : Nat} {f15 : Bool} {e16 : List AV} {s : St} (h5 : LR rB 1 c1.Accept z2 e4) (h9 : LR (rL rPush 2) 1 c1.Call z6 e8) (h13 : LR (rL (rL (rI .i64) 1) 1) 1 c1.Return z10 e12) (h17 : LR (rL (rI .i64) 1) 1 c1.Inner z14 e16) {r : (List Int) × Int} (h : impl_LostStates_K0 c1 = some r) (hs : WF s) : ACallN Cf 7 [(AV.agg [(AV.int .i64 c1.Stack), (AV.int .i64 c1.Start), (AV.sl z2 f3 e4), (AV.sl z6 f7 e8), (AV.sl z10 f11 e12), (AV.sl z14 f15 e16)])] s (fun v _ s' => ∃ (h1' : AV) (k2' : KT) (Ls' : List (List BX)), v = (AV.tup [h1', (AV.int .i64 r.2)]) ∧ HS [] true s s' (([] : List BX) ++ List.flatten Ls') ∧ AllG [OS oE2 h1' k2' r.1] Ls' ∧ h1'.one = true) true := by
 refine ACallN.keepR rfl rfl rfl ?_
 have hH0 := HS.g0 (HS.initK hs)
 have hG0 := AllG.nil
 have hl : LoOK [] true s := LoOK.nil
 unfold impl_LostStates_K0 at h
 refine AW.sr ?_
 refine AOps.makeR rfl rfl rfl rfl rfl rfl (rfl : _ = (AV.eptr [(AV.int .i64 c1.Stack), (AV.int .i64 c1.Start), (AV.sl z2 f3 e4), (AV.sl z6 f7 e8), (AV.sl z10 f11 e12), (AV.sl z14 f15 e16)] 0)) ?_
 refine AOps.p rfl (rfl : _ = (AV.sl 0 true [])) ?_
 refine AOps.p rfl (rfl : _ = (AV.int .i64 0)) ?_
 refine AOps.nilR ?_
 refine AW.seq ?_
 refine AW.sr ?_
 refine AOps.ldE (v := (AV.agg [(AV.int .i64 c1.Stack), (AV.int .i64 c1.Start), (AV.sl z2 f3 e4), (AV.sl z6 f7 e8), (AV.sl z10 f11 e12), (AV.sl z14 f15 e16)])) rfl rfl rfl rfl rfl rfl ?_
 obtain ⟨y18, h19, h⟩ := obind h
 refine AOps.callP (g := 23) (args := [(AV.agg [(AV.int .i64 c1.Stack), (AV.int .i64 c1.Start), (AV.sl z2 f3 e4), (AV.sl z6 f7 e8), (AV.sl z10 f11 e12), (AV.sl z14 f15 e16)])]) (p := (rB) y18) rfl rfl rfl (impl_ValidChecker_ok h5 h9 h13 h17 h19 (HS.wf' hH0)) ?_
 intro _ o21 h20
 cases h20
 refine AOps.p rfl (rfl : _ = (AV.bool (!y18))) ?_
 refine AOps.nilR ?_
 rcases oite h with ⟨hc22, h⟩ | ⟨hc22, h⟩
 ·refine AW.condT (congrArg AV.bool hc22) ?_
  refine AW.sr ?_
  refine AOps.p rfl (rfl : _ = (AV.sl 0 true [])) ?_
  refine AOps.p rfl (rfl : _ = (AV.int .i64 1)) ?_
  refine AOps.nilR ?_
  cases h
  have hG23 := AllG.cons (OS.nil (e := oE2) (k := fun _ => AV.undef) (z := 0) (Or.inr rfl)) hG0
  have hH24 := HS.addNil hH0
  change HS [] true s s (([] : List BX) ++ List.flatten ([] :: ([] : List (List BX)))) at hH24
  change AllG [OS oE2 (AV.sl 0 true []) (fun _ => AV.undef) ([] : List Int)] ([] :: ([] : List (List BX))) at hG23
  exact AW.ret ⟨_, _, rfl, ⟨(AV.sl 0 true []), (fun _ => AV.undef), ([] :: ([] : List (List BX))), rfl, hH24, hG23, rfl⟩⟩
 refine AW.condF (congrArg AV.bool hc22) ?_
 refine AW.skip ?_
 refine AW.sr ?_
 refine AOps.ldE (v := (AV.agg [(AV.int .i64 c1.Stack), (AV.int .i64 c1.Start), (AV.sl z2 f3 e4), (AV.sl z6 f7 e8), (AV.sl z10 f11 e12), (AV.sl z14 f15 e16)])) rfl rfl rfl rfl rfl rfl ?_
 obtain ⟨y25, h26, h⟩ := obind h
 have hP30 := HS.pop0 hH0
 refine AOps.callF (al := true) (g := 24) (args := [(AV.agg [(AV.int .i64 c1.Stack), (AV.int .i64 c1.Start), (AV.sl z2 f3 e4), (AV.sl z6 f7 e8), (AV.sl z10 f11 e12), (AV.sl z14 f15 e16)])]) rfl rfl rfl (impl_Checker_lost_K0_ok h5 h9 h13 h17  h26 (HS.wf' hH0)) ?_
 rintro h27 _ s31 ⟨_, k28, Ls33, rfl, hH34, hG35, ho29⟩
 have hJ36 := HS.joinK0 hP30 hH34
 obtain ⟨Ls37, Lf38, hG39, hF40, hP41⟩ := HS.pushN hJ36 hG0 hG35
 cases hF40
 have hH42 := HS.push0 hP41
 change HS [] true s s31 (([] : List BX) ++ List.flatten Ls37) at hH42
 change AllG [OS oE2 h27 k28 y25] Ls37 at hG39
 refine AOps.assignR rfl rfl rfl (rfl : _ = h27) rfl ?_
 refine AOps.p rfl (rfl : _ = (AV.int .i64 0)) ?_
 refine AOps.nilR ?_
 cases h
 exact AW.ret ⟨_, _, rfl, ⟨h27, k28, Ls37, rfl, hH42, hG39, ho29⟩⟩
theorem laws_eqInt64S_okN {a1 : List Int} {b6 : List Int} {z2 : Nat} {f3 : Bool} {e4 : List AV} {z7 : Nat} {f8 : Bool} {e9 : List AV} {s : St} (h5 : LR (rI .i64) 1 a1 z2 e4) (h10 : LR (rI .i64) 1 b6 z7 e9) {r : Bool} (h : laws_eqInt64S a1 b6 = some r) (hs : WF s) : ACallN Cf 8 [(AV.sl z2 f3 e4), (AV.sl z7 f8 e9)] s fun v _ s' => (rB) r v ∧ s' = s := by
 refine ACallN.pure rfl rfl rfl .B ?_
 have hWF := hs.lo'
 unfold laws_eqInt64S at h
 refine AW.sr ?_
 refine AOps.p rfl (rfl : _ = (AV.bool false)) ?_
 refine AOps.nilR ?_
 refine AW.seq ?_
 refine AW.sr ?_
 refine AOps.p rfl (rfl : _ = (AV.sl z2 f3 e4)) ?_
 refine AOps.p rfl (len_eq h5) ?_
 refine AOps.p rfl (rfl : _ = (AV.sl z7 f8 e9)) ?_
 refine AOps.p rfl (len_eq h10) ?_
 refine AOps.p rfl (rfl : _ = (AV.bool ((a1.length : Int) != (b6.length : Int)))) ?_
 refine AOps.nilR ?_
 rcases oite h with ⟨hc11, h⟩ | ⟨hc11, h⟩
 ·refine AW.condT (congrArg AV.bool hc11) ?_
  refine AW.sr ?_
  refine AOps.p rfl (rfl : _ = (AV.bool false)) ?_
  refine AOps.nilR ?_
  cases h
  exact AW.ret ⟨rfl, _, _, rfl, rfl⟩
 refine AW.condF (congrArg AV.bool hc11) ?_
 refine AW.skip ?_
 refine AW.seq ?_
 refine AW.sr ?_
 refine AOps.p rfl (rfl : _ = (AV.int .i64 0)) ?_
 refine AOps.nilR ?_
 refine AW.meet (σ := Unit) (fun _ tm os => ⟨updL tm [], updL os [], { s with lo := s.n }⟩) (fun _ => laws_eqInt64S_J1 = some r) ?_ ?_
 ·rintro _ tm os h
  unfold laws_eqInt64S_J1 at h
  refine AW.sr ?_
  refine AOps.p rfl (rfl : _ = (AV.bool true)) ?_
  refine AOps.nilR ?_
  cases h
  exact AW.ret ⟨rfl, _, _, rfl, rfl⟩
 intro KJ12
 refine AW.block ?_
 refine AW.res [(0, (AV.sl z2 f3 e4)), (1, (AV.sl z7 f8 e9)), (5, (AV.int .i64 0))] [] ⟨rfl, rfl, rfl, trivial⟩ trivial ?_
 refine AW.loopF (σ := Int) (τ := Unit) (fun i13 _ => True) (fun i13 _ tm os => ⟨updL tm [(0, (AV.sl z2 f3 e4)), (1, (AV.sl z7 f8 e9)), (5, (AV.int .i64 i13))], updL os [], { s with lo := s.n }⟩) ?_ (x := (0)) (y := ()) h trivial
 clear h
 rintro i13 _ tm os - ee1 h hL1 hR1
 unfold laws_eqInt64S_S1 at h
 refine AW.seq ?_
 refine AW.sr ?_
 refine AOps.p rfl (rfl : _ = (AV.int .i64 i13)) ?_
 refine AOps.p rfl (rfl : _ = (AV.sl z2 f3 e4)) ?_
 refine AOps.p rfl (len_eq h5) ?_
 refine AOps.p rfl (rfl : _ = (AV.bool (decide ((i13 : Int) < (a1.length : Int))))) ?_
 refine AOps.nilR ?_
 rcases oite h with ⟨hc14, h⟩ | ⟨hc14, h⟩
 ·refine AW.condT (congrArg AV.bool hc14) ?_
  refine AW.skip ?_
  refine AW.seq ?_
  refine AW.block ?_
  refine AW.sr ?_
  refine AOps.p rfl (rfl : _ = (AV.sl z2 f3 e4)) ?_
  refine AOps.p rfl (rfl : _ = (AV.int .i64 i13)) ?_
  obtain ⟨x15, h16, h⟩ := obind h
  obtain ⟨v19, h17, h18⟩ := idx_sl h5 h16
  cases h17
  refine AOps.pureR rfl rfl rfl h18 rfl (rfl : _ = (AV.eptr [(AV.int .i64 x15)] 0)) ?_
  refine AOps.ldE (v := (AV.int .i64 x15)) rfl rfl rfl rfl rfl rfl ?_
  refine AOps.p rfl (rfl : _ = (AV.sl z7 f8 e9)) ?_
  refine AOps.p rfl (rfl : _ = (AV.int .i64 i13)) ?_
  obtain ⟨x20, h21, h⟩ := obind h
  obtain ⟨v24, h22, h23⟩ := idx_sl h10 h21
  cases h22
  refine AOps.pureR rfl rfl rfl h23 rfl (rfl : _ = (AV.eptr [(AV.int .i64 x20)] 0)) ?_
  refine AOps.ldE (v := (AV.int .i64 x20)) rfl rfl rfl rfl rfl rfl ?_
  refine AOps.p rfl (rfl : _ = (AV.bool (x15 != x20))) ?_
  refine AOps.nilR ?_
  rcases oite h with ⟨hc25, h⟩ | ⟨hc25, h⟩
  ·refine AW.condT (congrArg AV.bool hc25) ?_
   refine AW.sr ?_
   refine AOps.p rfl (rfl : _ = (AV.bool false)) ?_
   refine AOps.nilR ?_
   cases h
   have hr := hR1 _ rfl
   subst hr
   exact AW.ret ⟨rfl, _, _, rfl, rfl⟩
  refine AW.condF (congrArg AV.bool hc25) ?_
  refine AW.skip ?_
  refine AW.inBlock ?_
  refine AW.region ?_
  refine AOps.p rfl (rfl : _ = (AV.int .i64 i13)) ?_
  refine AOps.p rfl (rfl : _ = (AV.int .i64 (IntKind.wrap .i64 (i13 + 1)))) ?_
  refine AOps.assignR rfl rfl rfl (rfl : _ = (AV.int .i64 (IntKind.wrap .i64 (i13 + 1)))) rfl ?_
  refine AOps.nilR ?_
  cases h
  exact AW.res [(0, (AV.sl z2 f3 e4)), (1, (AV.sl z7 f8 e9)), (5, (AV.int .i64 (IntKind.wrap .i64 (i13 + 1))))] [] ⟨rfl, rfl, rfl, trivial⟩ trivial (hL1 _ rfl () _ _ trivial)
 refine AW.condF (congrArg AV.bool hc14) ?_
 refine AW.exit rfl ?_
 obtain ⟨r26, hm, hx⟩ := omap h
 clear h
 subst hx
 have hx := hR1 _ rfl
 rw [hx] at hm
 have h := hm
 exact AW.res [] [] trivial trivial (KJ12 () _ _ h)
theorem laws_eqBoolS_okN {a1 : List Bool} {b6 : List Bool} {z2 : Nat} {f3 : Bool} {e4 : List AV} {z7 : Nat} {f8 : Bool} {e9 : List AV} {s : St} (h5 : LR rB 1 a1 z2 e4) (h10 : LR rB 1 b6 z7 e9) {r : Bool} (h : laws_eqBoolS a1 b6 = some r) (hs : WF s) : ACallN Cf 25 [(AV.sl z2 f3 e4), (AV.sl z7 f8 e9)] s fun v _ s' => (rB) r v ∧ s' = s := by
 refine ACallN.pure rfl rfl rfl .B ?_
 have hWF := hs.lo'
 unfold laws_eqBoolS at h
 refine AW.sr ?_
 refine AOps.p rfl (rfl : _ = (AV.bool false)) ?_
 refine AOps.nilR ?_
 refine AW.seq ?_
 refine AW.sr ?_
 refine AOps.p rfl (rfl : _ = (AV.sl z2 f3 e4)) ?_
 refine AOps.p rfl (len_eq h5) ?_
 refine AOps.p rfl (rfl : _ = (AV.sl z7 f8 e9)) ?_
 refine AOps.p rfl (len_eq h10) ?_
 refine AOps.p rfl (rfl : _ = (AV.bool ((a1.length : Int) != (b6.length : Int)))) ?_
 refine AOps.nilR ?_
 rcases oite h with ⟨hc11, h⟩ | ⟨hc11, h⟩
 ·refine AW.condT (congrArg AV.bool hc11) ?_
  refine AW.sr ?_
  refine AOps.p rfl (rfl : _ = (AV.bool false)) ?_
  refine AOps.nilR ?_
  cases h
  exact AW.ret ⟨rfl, _, _, rfl, rfl⟩
 refine AW.condF (congrArg AV.bool hc11) ?_
 refine AW.skip ?_
 refine AW.seq ?_
 refine AW.sr ?_
 refine AOps.p rfl (rfl : _ = (AV.int .i64 0)) ?_
 refine AOps.nilR ?_
 refine AW.meet (σ := Unit) (fun _ tm os => ⟨updL tm [], updL os [], { s with lo := s.n }⟩) (fun _ => laws_eqBoolS_J1 = some r) ?_ ?_
 ·rintro _ tm os h
  unfold laws_eqBoolS_J1 at h
  refine AW.sr ?_
  refine AOps.p rfl (rfl : _ = (AV.bool true)) ?_
  refine AOps.nilR ?_
  cases h
  exact AW.ret ⟨rfl, _, _, rfl, rfl⟩
 intro KJ12
 refine AW.block ?_
 refine AW.res [(0, (AV.sl z2 f3 e4)), (1, (AV.sl z7 f8 e9)), (5, (AV.int .i64 0))] [] ⟨rfl, rfl, rfl, trivial⟩ trivial ?_
 refine AW.loopF (σ := Int) (τ := Unit) (fun i13 _ => True) (fun i13 _ tm os => ⟨updL tm [(0, (AV.sl z2 f3 e4)), (1, (AV.sl z7 f8 e9)), (5, (AV.int .i64 i13))], updL os [], { s with lo := s.n }⟩) ?_ (x := (0)) (y := ()) h trivial
 clear h
 rintro i13 _ tm os - ee1 h hL1 hR1
 unfold laws_eqBoolS_S1 at h
 refine AW.seq ?_
 refine AW.sr ?_
 refine AOps.p rfl (rfl : _ = (AV.int .i64 i13)) ?_
 refine AOps.p rfl (rfl : _ = (AV.sl z2 f3 e4)) ?_
 refine AOps.p rfl (len_eq h5) ?_
 refine AOps.p rfl (rfl : _ = (AV.bool (decide ((i13 : Int) < (a1.length : Int))))) ?_
 refine AOps.nilR ?_
 rcases oite h with ⟨hc14, h⟩ | ⟨hc14, h⟩
 ·refine AW.condT (congrArg AV.bool hc14) ?_
  refine AW.skip ?_
  refine AW.seq ?_
  refine AW.block ?_
  refine AW.sr ?_
  refine AOps.p rfl (rfl : _ = (AV.sl z2 f3 e4)) ?_
  refine AOps.p rfl (rfl : _ = (AV.int .i64 i13)) ?_
  obtain ⟨x15, h16, h⟩ := obind h
  obtain ⟨v19, h17, h18⟩ := idx_sl h5 h16
  cases h17
  refine AOps.pureR rfl rfl rfl h18 rfl (rfl : _ = (AV.eptr [(AV.bool x15)] 0)) ?_
  refine AOps.ldE (v := (AV.bool x15)) rfl rfl rfl rfl rfl rfl ?_
  refine AOps.p rfl (rfl : _ = (AV.sl z7 f8 e9)) ?_
  refine AOps.p rfl (rfl : _ = (AV.int .i64 i13)) ?_
  obtain ⟨x20, h21, h⟩ := obind h
  obtain ⟨v24, h22, h23⟩ := idx_sl h10 h21
  cases h22
  refine AOps.pureR rfl rfl rfl h23 rfl (rfl : _ = (AV.eptr [(AV.bool x20)] 0)) ?_
  refine AOps.ldE (v := (AV.bool x20)) rfl rfl rfl rfl rfl rfl ?_
  refine AOps.p rfl (rfl : _ = (AV.bool (!(x15 == x20)))) ?_
  refine AOps.nilR ?_
  rcases oite h with ⟨hc25, h⟩ | ⟨hc25, h⟩
  ·refine AW.condT (congrArg AV.bool hc25) ?_
   refine AW.sr ?_
   refine AOps.p rfl (rfl : _ = (AV.bool false)) ?_
   refine AOps.nilR ?_
   cases h
   have hr := hR1 _ rfl
   subst hr
   exact AW.ret ⟨rfl, _, _, rfl, rfl⟩
  refine AW.condF (congrArg AV.bool hc25) ?_
  refine AW.skip ?_
  refine AW.inBlock ?_
  refine AW.region ?_
  refine AOps.p rfl (rfl : _ = (AV.int .i64 i13)) ?_
  refine AOps.p rfl (rfl : _ = (AV.int .i64 (IntKind.wrap .i64 (i13 + 1)))) ?_
  refine AOps.assignR rfl rfl rfl (rfl : _ = (AV.int .i64 (IntKind.wrap .i64 (i13 + 1)))) rfl ?_
  refine AOps.nilR ?_
  cases h
  exact AW.res [(0, (AV.sl z2 f3 e4)), (1, (AV.sl z7 f8 e9)), (5, (AV.int .i64 (IntKind.wrap .i64 (i13 + 1))))] [] ⟨rfl, rfl, rfl, trivial⟩ trivial (hL1 _ rfl () _ _ trivial)
 refine AW.condF (congrArg AV.bool hc14) ?_
 refine AW.exit rfl ?_
 obtain ⟨r26, hm, hx⟩ := omap h
 clear h
 subst hx
 have hx := hR1 _ rfl
 rw [hx] at hm
 have h := hm
 exact AW.res [] [] trivial trivial (KJ12 () _ _ h)
theorem laws_eqPush_ok {a1 : Push} {b2 : Push} {s : St} {r : Bool} (h : laws_eqPush a1 b2 = some r) (hs : WF s) : ACall Cf 63 [(AV.agg [(AV.int .i64 a1.To), (AV.int .i64 a1.Put)]), (AV.agg [(AV.int .i64 b2.To), (AV.int .i64 b2.Put)])] s fun v _ s' => (rB) r v ∧ s' = s := by
 refine ACall.pure rfl rfl rfl .B ?_
 have hWF := hs.lo'
 unfold laws_eqPush at h
 refine AW.sr ?_
 refine AOps.makeR rfl rfl rfl rfl rfl rfl (rfl : _ = (AV.eptr [(AV.int .i64 a1.To), (AV.int .i64 a1.Put)] 0)) ?_
 refine AOps.makeR rfl rfl rfl rfl rfl rfl (rfl : _ = (AV.eptr [(AV.int .i64 b2.To), (AV.int .i64 b2.Put)] 0)) ?_
 refine AOps.p rfl (rfl : _ = (AV.bool false)) ?_
 refine AOps.nilR ?_
 refine AW.seq ?_
 refine AW.sr ?_
 refine AOps.p rfl (rfl : _ = (AV.eptr [(AV.int .i64 a1.To), (AV.int .i64 a1.Put)] 0)) ?_
 refine AOps.ldE (v := (AV.int .i64 a1.To)) rfl rfl rfl rfl rfl rfl ?_
 refine AOps.p rfl (rfl : _ = (AV.eptr [(AV.int .i64 b2.To), (AV.int .i64 b2.Put)] 0)) ?_
 refine AOps.ldE (v := (AV.int .i64 b2.To)) rfl rfl rfl rfl rfl rfl ?_
 refine AOps.p rfl (rfl : _ = (AV.bool (a1.To != b2.To))) ?_
 refine AOps.nilR ?_
 rcases oite h with ⟨hc3, h⟩ | ⟨hc3, h⟩
 ·refine AW.condT (congrArg AV.bool hc3) ?_
  refine AW.sr ?_
  refine AOps.p rfl (rfl : _ = (AV.bool false)) ?_
  refine AOps.nilR ?_
  cases h
  exact AW.ret ⟨rfl, _, _, rfl, rfl⟩
 refine AW.condF (congrArg AV.bool hc3) ?_
 refine AW.skip ?_
 refine AW.seq ?_
 refine AW.sr ?_
 refine AOps.p rfl (rfl : _ = (AV.eptr [(AV.int .i64 a1.To), (AV.int .i64 a1.Put)] 1)) ?_
 refine AOps.ldE (v := (AV.int .i64 a1.Put)) rfl rfl rfl rfl rfl rfl ?_
 refine AOps.p rfl (rfl : _ = (AV.eptr [(AV.int .i64 b2.To), (AV.int .i64 b2.Put)] 1)) ?_
 refine AOps.ldE (v := (AV.int .i64 b2.Put)) rfl rfl rfl rfl rfl rfl ?_
 refine AOps.p rfl (rfl : _ = (AV.bool (a1.Put != b2.Put))) ?_
 refine AOps.nilR ?_
 rcases oite h with ⟨hc4, h⟩ | ⟨hc4, h⟩
 ·refine AW.condT (congrArg AV.bool hc4) ?_
  refine AW.sr ?_
  refine AOps.p rfl (rfl : _ = (AV.bool false)) ?_
  refine AOps.nilR ?_
  cases h
  exact AW.ret ⟨rfl, _, _, rfl, rfl⟩
 refine AW.condF (congrArg AV.bool hc4) ?_
 refine AW.skip ?_
 refine AW.sr ?_
 refine AOps.p rfl (rfl : _ = (AV.bool true)) ?_
 refine AOps.nilR ?_
 cases h
 exact AW.ret ⟨rfl, _, _, rfl, rfl⟩
theorem laws_eqPushS_okN {a1 : List Push} {b6 : List Push} {z2 : Nat} {f3 : Bool} {e4 : List AV} {z7 : Nat} {f8 : Bool} {e9 : List AV} {s : St} (h5 : LR rPush 2 a1 z2 e4) (h10 : LR rPush 2 b6 z7 e9) {r : Bool} (h : laws_eqPushS a1 b6 = some r) (hs : WF s) : ACallN Cf 53 [(AV.sl z2 f3 e4), (AV.sl z7 f8 e9)] s fun v _ s' => (rB) r v ∧ s' = s := by
 refine ACallN.pure rfl rfl rfl .B ?_
 have hWF := hs.lo'
 unfold laws_eqPushS at h
 refine AW.sr ?_
 refine AOps.p rfl (rfl : _ = (AV.bool false)) ?_
 refine AOps.nilR ?_
 refine AW.seq ?_
 refine AW.sr ?_
 refine AOps.p rfl (rfl : _ = (AV.sl z2 f3 e4)) ?_
 refine AOps.p rfl (len_eq h5) ?_
 refine AOps.p rfl (rfl : _ = (AV.sl z7 f8 e9)) ?_
 refine AOps.p rfl (len_eq h10) ?_
 refine AOps.p rfl (rfl : _ = (AV.bool ((a1.length : Int) != (b6.length : Int)))) ?_
 refine AOps.nilR ?_
 rcases oite h with ⟨hc11, h⟩ | ⟨hc11, h⟩
 ·refine AW.condT (congrArg AV.bool hc11) ?_
  refine AW.sr ?_
  refine AOps.p rfl (rfl : _ = (AV.bool false)) ?_
  refine AOps.nilR ?_
  cases h
  exact AW.ret ⟨rfl, _, _, rfl, rfl⟩
 refine AW.condF (congrArg AV.bool hc11) ?_
 refine AW.skip ?_
 refine AW.seq ?_
 refine AW.sr ?_
 refine AOps.p rfl (rfl : _ = (AV.int .i64 0)) ?_
 refine AOps.nilR ?_
 refine AW.meet (σ := Unit) (fun _ tm os => ⟨updL tm [], updL os [], { s with lo := s.n }⟩) (fun _ => laws_eqPushS_J1 = some r) ?_ ?_
 ·rintro _ tm os h
  unfold laws_eqPushS_J1 at h
  refine AW.sr ?_
  refine AOps.p rfl (rfl : _ = (AV.bool true)) ?_
  refine AOps.nilR ?_
  cases h
  exact AW.ret ⟨rfl, _, _, rfl, rfl⟩
 intro KJ12
 refine AW.block ?_
 refine AW.res [(0, (AV.sl z2 f3 e4)), (1, (AV.sl z7 f8 e9)), (5, (AV.int .i64 0))] [] ⟨rfl, rfl, rfl, trivial⟩ trivial ?_
 refine AW.loopF (σ := Int) (τ := Unit) (fun i13 _ => True) (fun i13 _ tm os => ⟨updL tm [(0, (AV.sl z2 f3 e4)), (1, (AV.sl z7 f8 e9)), (5, (AV.int .i64 i13))], updL os [], { s with lo := s.n }⟩) ?_ (x := (0)) (y := ()) h trivial
 clear h
 rintro i13 _ tm os - ee1 h hL1 hR1
 unfold laws_eqPushS_S1 at h
 refine AW.seq ?_
 refine AW.sr ?_
 refine AOps.p rfl (rfl : _ = (AV.int .i64 i13)) ?_
 refine AOps.p rfl (rfl : _ = (AV.sl z2 f3 e4)) ?_
 refine AOps.p rfl (len_eq h5) ?_
 refine AOps.p rfl (rfl : _ = (AV.bool (decide ((i13 : Int) < (a1.length : Int))))) ?_
 refine AOps.nilR ?_
 rcases oite h with ⟨hc14, h⟩ | ⟨hc14, h⟩
 ·refine AW.condT (congrArg AV.bool hc14) ?_
  refine AW.skip ?_
  refine AW.seq ?_
  refine AW.block ?_
  refine AW.sr ?_
  refine AOps.p rfl (rfl : _ = (AV.sl z2 f3 e4)) ?_
  refine AOps.p rfl (rfl : _ = (AV.int .i64 i13)) ?_
  obtain ⟨x15, h16, h⟩ := obind h
  obtain ⟨v19, h17, h18⟩ := idx_sl h5 h16
  obtain ⟨_, rfl, h20⟩ := h17
  obtain ⟨_, _, rfl, h21, h22⟩ := Cs_cons h20
  cases h21
  obtain ⟨_, _, rfl, h23, h24⟩ := Cs_cons h22
  cases h23
  cases Cs_nil h24
  refine AOps.pureR rfl rfl rfl h18 rfl (rfl : _ = (AV.eptr [(AV.int .i64 x15.To), (AV.int .i64 x15.Put)] 0)) ?_
  refine AOps.ldE (v := (AV.agg [(AV.int .i64 x15.To), (AV.int .i64 x15.Put)])) rfl rfl rfl rfl rfl rfl ?_
  refine AOps.p rfl (rfl : _ = (AV.sl z7 f8 e9)) ?_
  refine AOps.p rfl (rfl : _ = (AV.int .i64 i13)) ?_
  obtain ⟨x25, h26, h⟩ := obind h
  obtain ⟨v29, h27, h28⟩ := idx_sl h10 h26
  obtain ⟨_, rfl, h30⟩ := h27
  obtain ⟨_, _, rfl, h31, h32⟩ := Cs_cons h30
  cases h31
  obtain ⟨_, _, rfl, h33, h34⟩ := Cs_cons h32
  cases h33
  cases Cs_nil h34
  refine AOps.pureR rfl rfl rfl h28 rfl (rfl : _ = (AV.eptr [(AV.int .i64 x25.To), (AV.int .i64 x25.Put)] 0)) ?_
  refine AOps.ldE (v := (AV.agg [(AV.int .i64 x25.To), (AV.int .i64 x25.Put)])) rfl rfl rfl rfl rfl rfl ?_
  obtain ⟨y35, h36, h⟩ := obind h
  refine AOps.callDP (g := 63) (args := [(AV.agg [(AV.int .i64 x15.To), (AV.int .i64 x15.Put)]), (AV.agg [(AV.int .i64 x25.To), (AV.int .i64 x25.Put)])]) (p := (rB) y35) rfl rfl rfl (laws_eqPush_ok  h36 hWF.still) (fun v hv => Nice.pure (k := FINK) (p := (rB) y35) .B _ v hv) ?_
  intro _ o38 h37
  cases h37
  refine AOps.p rfl (rfl : _ = (AV.bool (!y35))) ?_
  refine AOps.nilR ?_
  rcases oite h with ⟨hc39, h⟩ | ⟨hc39, h⟩
  ·refine AW.condT (congrArg AV.bool hc39) ?_
   refine AW.sr ?_
   refine AOps.p rfl (rfl : _ = (AV.bool false)) ?_
   refine AOps.nilR ?_
   cases h
   have hr := hR1 _ rfl
   subst hr
   exact AW.ret ⟨rfl, _, _, rfl, rfl⟩
  refine AW.condF (congrArg AV.bool hc39) ?_
  refine AW.skip ?_
  refine AW.inBlock ?_
  refine AW.region ?_
  refine AOps.p rfl (rfl : _ = (AV.int .i64 i13)) ?_
  refine AOps.p rfl (rfl : _ = (AV.int .i64 (IntKind.wrap .i64 (i13 + 1)))) ?_
  refine AOps.assignR rfl rfl rfl (rfl : _ = (AV.int .i64 (IntKind.wrap .i64 (i13 + 1)))) rfl ?_
  refine AOps.nilR ?_
  cases h
  exact AW.res [(0, (AV.sl z2 f3 e4)), (1, (AV.sl z7 f8 e9)), (5, (AV.int .i64 (IntKind.wrap .i64 (i13 + 1))))] [] ⟨rfl, rfl, rfl, trivial⟩ trivial (hL1 _ rfl () _ _ trivial)
 refine AW.condF (congrArg AV.bool hc14) ?_
 refine AW.exit rfl ?_
 obtain ⟨r40, hm, hx⟩ := omap h
 clear h
 subst hx
 have hx := hR1 _ rfl
 rw [hx] at hm
 have h := hm
 exact AW.res [] [] trivial trivial (KJ12 () _ _ h)
theorem laws_eqPushSS_okN {a1 : List (List Push)} {b6 : List (List Push)} {z2 : Nat} {f3 : Bool} {e4 : List AV} {z7 : Nat} {f8 : Bool} {e9 : List AV} {s : St} (h5 : LR (rL rPush 2) 1 a1 z2 e4) (h10 : LR (rL rPush 2) 1 b6 z7 e9) {r : Bool} (h : laws_eqPushSS a1 b6 = some r) (hs : WF s) : ACallN Cf 26 [(AV.sl z2 f3 e4), (AV.sl z7 f8 e9)] s fun v _ s' => (rB) r v ∧ s' = s := by
 refine ACallN.pure rfl rfl rfl .B ?_
 have hWF := hs.lo'
 unfold laws_eqPushSS at h
 refine AW.sr ?_
 refine AOps.p rfl (rfl : _ = (AV.bool false)) ?_
 refine AOps.nilR ?_
 refine AW.seq ?_
 refine AW.sr ?_
 refine AOps.p rfl (rfl : _ = (AV.sl z2 f3 e4)) ?_
 refine AOps.p rfl (len_eq h5) ?_
 refine AOps.p rfl (rfl : _ = (AV.sl z7 f8 e9)) ?_
 refine AOps.p rfl (len_eq h10) ?_
 refine AOps.p rfl (rfl : _ = (AV.bool ((a1.length : Int) != (b6.length : Int)))) ?_
 refine AOps.nilR ?_
 rcases oite h with ⟨hc11, h⟩ | ⟨hc11, h⟩
 ·refine AW.condT (congrArg AV.bool hc11) ?_
  refine AW.sr ?_
  refine AOps.p rfl (rfl : _ = (AV.bool false)) ?_
  refine AOps.nilR ?_
  cases h
  exact AW.ret ⟨rfl, _, _, rfl, rfl⟩
 refine AW.condF (congrArg AV.bool hc11) ?_
 refine AW.skip ?_
 refine AW.seq ?_
 refine AW.sr ?_
 refine AOps.p rfl (rfl : _ = (AV.int .i64 0)) ?_
 refine AOps.nilR ?_
 refine AW.meet (σ := Unit) (fun _ tm os => ⟨updL tm [], updL os [], { s with lo := s.n }⟩) (fun _ => laws_eqPushSS_J1 = some r) ?_ ?_
 ·rintro _ tm os h
  unfold laws_eqPushSS_J1 at h
  refine AW.sr ?_
  refine AOps.p rfl (rfl : _ = (AV.bool true)) ?_
  refine AOps.nilR ?_
  cases h
  exact AW.ret ⟨rfl, _, _, rfl, rfl⟩
 intro KJ12
 refine AW.block ?_
 refine AW.res [(0, (AV.sl z2 f3 e4)), (1, (AV.sl z7 f8 e9)), (5, (AV.int .i64 0))] [] ⟨rfl, rfl, rfl, trivial⟩ trivial ?_
 refine AW.loopF (σ := Int) (τ := Unit) (fun i13 _ => True) (fun i13 _ tm os => ⟨updL tm [(0, (AV.sl z2 f3 e4)), (1, (AV.sl z7 f8 e9)), (5, (AV.int .i64 i13))], updL os [], { s with lo := s.n }⟩) ?_ (x := (0)) (y := ()) h trivial
 clear h
 rintro i13 _ tm os - ee1 h hL1 hR1
 unfold laws_eqPushSS_S1 at h
 refine AW.seq ?_
 refine AW.sr ?_
 refine AOps.p rfl (rfl : _ = (AV.int .i64 i13)) ?_
 refine AOps.p rfl (rfl : _ = (AV.sl z2 f3 e4)) ?_
 refine AOps.p rfl (len_eq h5) ?_
 refine AOps.p rfl (rfl : _ = (AV.bool (decide ((i13 : Int) < (a1.length : Int))))) ?_
 refine AOps.nilR ?_
 rcases oite h with ⟨hc14, h⟩ | ⟨hc14, h⟩
 ·refine AW.condT (congrArg AV.bool hc14) ?_
  refine AW.skip ?_
  refine AW.seq ?_
  refine AW.block ?_
  refine AW.sr ?_
  refine AOps.p rfl (rfl : _ = (AV.sl z2 f3 e4)) ?_
  refine AOps.p rfl (rfl : _ = (AV.int .i64 i13)) ?_
  obtain ⟨x15, h16, h⟩ := obind h
  obtain ⟨v19, h17, h18⟩ := idx_sl h5 h16
  obtain ⟨z20, f21, e22, rfl, h23⟩ := h17
  refine AOps.pureR rfl rfl rfl h18 rfl (rfl : _ = (AV.eptr [(AV.sl z20 f21 e22)] 0)) ?_
  refine AOps.ldE (v := (AV.sl z20 f21 e22)) rfl rfl rfl rfl rfl rfl ?_
  refine AOps.p rfl (rfl : _ = (AV.sl z7 f8 e9)) ?_
  refine AOps.p rfl (rfl : _ = (AV.int .i64 i13)) ?_
  obtain ⟨x24, h25, h⟩ := obind h
  obtain ⟨v28, h26, h27⟩ := idx_sl h10 h25
  obtain ⟨z29, f30, e31, rfl, h32⟩ := h26
  refine AOps.pureR rfl rfl rfl h27 rfl (rfl : _ = (AV.eptr [(AV.sl z29 f30 e31)] 0)) ?_
  refine AOps.ldE (v := (AV.sl z29 f30 e31)) rfl rfl rfl rfl rfl rfl ?_
  obtain ⟨y33, h34, h⟩ := obind h
  refine AOps.lendD (g := 53) (args := [(AV.sl z20 f21 e22), (AV.sl z29 f30 e31)]) (ps := [(rL rPush 2) x15, (rL rPush 2) x24]) (p := (rB) y33) rfl rfl rfl rfl rfl rfl rfl (.cons (Fin.of (p := (rL rPush 2) x15) (.L fun _ => (.A (.cons .I (.cons .I .nil)))) (⟨_, _, _, rfl, h23⟩)) (.cons (Fin.of (p := (rL rPush 2) x24) (.L fun _ => (.A (.cons .I (.cons .I .nil)))) (⟨_, _, _, rfl, h32⟩)) .nil)) (fun args' hc => by obtain ⟨_, _, rfl, hv0, hd0⟩ := Cs_cons hc; obtain ⟨z35, f36, e37, rfl, h38⟩ := hv0; obtain ⟨_, _, rfl, hv1, hd1⟩ := Cs_cons hd0; obtain ⟨z39, f40, e41, rfl, h42⟩ := hv1; cases Cs_nil hd1; exact laws_eqPushS_okN h38 h42 h34 WF.blind) (fun v n hv => by cases hv; rfl) (fun v hv => Nice.pure (k := FINK) (p := (rB) y33) .B _ v hv) ?_
  intro _ h43
  cases h43
  refine AOps.p rfl (rfl : _ = (AV.bool (!y33))) ?_
  refine AOps.nilR ?_
  rcases oite h with ⟨hc44, h⟩ | ⟨hc44, h⟩
  ·refine AW.condT (congrArg AV.bool hc44) ?_
   refine AW.sr ?_
   refine AOps.p rfl (rfl : _ = (AV.bool false)) ?_
   refine AOps.nilR ?_
   cases h
   have hr := hR1 _ rfl
   subst hr
   exact AW.ret ⟨rfl, _, _, rfl, rfl⟩
  refine AW.condF (congrArg AV.bool hc44) ?_
  refine AW.skip ?_
  refine AW.inBlock ?_
  refine AW.region ?_
  refine AOps.p rfl (rfl : _ = (AV.int .i64 i13)) ?_
  refine AOps.p rfl (rfl : _ = (AV.int .i64 (IntKind.wrap .i64 (i13 + 1)))) ?_
  refine AOps.assignR rfl rfl rfl (rfl : _ = (AV.int .i64 (IntKind.wrap .i64 (i13 + 1)))) rfl ?_
  refine AOps.nilR ?_
  cases h
  exact AW.res [(0, (AV.sl z2 f3 e4)), (1, (AV.sl z7 f8 e9)), (5, (AV.int .i64 (IntKind.wrap .i64 (i13 + 1))))] [] ⟨rfl, rfl, rfl, trivial⟩ trivial (hL1 _ rfl () _ _ trivial)
 refine AW.condF (congrArg AV.bool hc14) ?_
 refine AW.exit rfl ?_
 obtain ⟨r45, hm, hx⟩ := omap h
 clear h
 subst hx
 have hx := hR1 _ rfl
 rw [hx] at hm
 have h := hm
 exact AW.res [] [] trivial trivial (KJ12 () _ _ h)
theorem laws_eqInt64SS_okN {a1 : List (List Int)} {b6 : List (List Int)} {z2 : Nat} {f3 : Bool} {e4 : List AV} {z7 : Nat} {f8 : Bool} {e9 : List AV} {s : St} (h5 : LR (rL (rI .i64) 1) 1 a1 z2 e4) (h10 : LR (rL (rI .i64) 1) 1 b6 z7 e9) {r : Bool} (h : laws_eqInt64SS a1 b6 = some r) (hs : WF s) : ACallN Cf 28 [(AV.sl z2 f3 e4), (AV.sl z7 f8 e9)] s fun v _ s' => (rB) r v ∧ s' = s := by
 refine ACallN.pure rfl rfl rfl .B ?_
 have hWF := hs.lo'
 unfold laws_eqInt64SS at h
 refine AW.sr ?_
 refine AOps.p rfl (rfl : _ = (AV.bool false)) ?_
 refine AOps.nilR ?_
 refine AW.seq ?_
 refine AW.sr ?_
 refine AOps.p rfl (rfl : _ = (AV.sl z2 f3 e4)) ?_
 refine AOps.p rfl (len_eq h5) ?_
 refine AOps.p rfl (rfl : _ = (AV.sl z7 f8 e9)) ?_
 refine AOps.p rfl (len_eq h10) ?_
 refine AOps.p rfl (rfl : _ = (AV.bool ((a1.length : Int) != (b6.length : Int)))) ?_
 refine AOps.nilR ?_
 rcases oite h with ⟨hc11, h⟩ | ⟨hc11, h⟩
 ·refine AW.condT (congrArg AV.bool hc11) ?_
  refine AW.sr ?_
  refine AOps.p rfl (rfl : _ = (AV.bool false)) ?_
  refine AOps.nilR ?_
  cases h
  exact AW.ret ⟨rfl, _, _, rfl, rfl⟩
 refine AW.condF (congrArg AV.bool hc11) ?_
 refine AW.skip ?_
 refine AW.seq ?_
 refine AW.sr ?_
 refine AOps.p rfl (rfl : _ = (AV.int .i64 0)) ?_
 refine AOps.nilR ?_
 refine AW.meet (σ := Unit) (fun _ tm os => ⟨updL tm [], updL os [], { s with lo := s.n }⟩) (fun _ => laws_eqInt64SS_J1 = some r) ?_ ?_
 ·rintro _ tm os h
  unfold laws_eqInt64SS_J1 at h
  refine AW.sr ?_
  refine AOps.p rfl (rfl : _ = (AV.bool true)) ?_
  refine AOps.nilR ?_
  cases h
  exact AW.ret ⟨rfl, _, _, rfl, rfl⟩
 intro KJ12
 refine AW.block ?_
 refine AW.res [(0, (AV.sl z2 f3 e4)), (1, (AV.sl z7 f8 e9)), (5, (AV.int .i64 0))] [] ⟨rfl, rfl, rfl, trivial⟩ trivial ?_
 refine AW.loopF (σ := Int) (τ := Unit) (fun i13 _ => True) (fun i13 _ tm os => ⟨updL tm [(0, (AV.sl z2 f3 e4)), (1, (AV.sl z7 f8 e9)), (5, (AV.int .i64 i13))], updL os [], { s with lo := s.n }⟩) ?_ (x := (0)) (y := ()) h trivial
 clear h
 rintro i13 _ tm os - ee1 h hL1 hR1
 unfold laws_eqInt64SS_S1 at h
 refine AW.seq ?_
 refine AW.sr ?_
 refine AOps.p rfl (rfl : _ = (AV.int .i64 i13)) ?_
 refine AOps.p rfl (rfl : _ = (AV.sl z2 f3 e4)) ?_
 refine AOps.p rfl (len_eq h5) ?_
 refine AOps.p rfl (rfl : _ = (AV.bool (decide ((i13 : Int) < (a1.length : Int))))) ?_
 refine AOps.nilR ?_
 rcases oite h with ⟨hc14, h⟩ | ⟨hc14, h⟩
 ·refine AW.condT (congrArg AV.bool hc14) ?_
  refine AW.skip ?_
  refine AW.seq ?_
  refine AW.block ?_
  refine AW.sr ?_
  refine AOps.p rfl (rfl : _ = (AV.sl z2 f3 e4)) ?_
  refine AOps.p rfl (rfl : _ = (AV.int .i64 i13)) ?_
  obtain ⟨x15, h16, h⟩ := obind h
  obtain ⟨v19, h17, h18⟩ := idx_sl h5 h16
  obtain ⟨z20, f21, e22, rfl, h23⟩ := h17
  refine AOps.pureR rfl rfl rfl h18 rfl (rfl : _ = (AV.eptr [(AV.sl z20 f21 e22)] 0)) ?_
  refine AOps.ldE (v := (AV.sl z20 f21 e22)) rfl rfl rfl rfl rfl rfl ?_
  refine AOps.p rfl (rfl : _ = (AV.sl z7 f8 e9)) ?_
  refine AOps.p rfl (rfl : _ = (AV.int .i64 i13)) ?_
  obtain ⟨x24, h25, h⟩ := obind h
  obtain ⟨v28, h26, h27⟩ := idx_sl h10 h25
  obtain ⟨z29, f30, e31, rfl, h32⟩ := h26
  refine AOps.pureR rfl rfl rfl h27 rfl (rfl : _ = (AV.eptr [(AV.sl z29 f30 e31)] 0)) ?_
  refine AOps.ldE (v := (AV.sl z29 f30 e31)) rfl rfl rfl rfl rfl rfl ?_
  obtain ⟨y33, h34, h⟩ := obind h
  refine AOps.lendD (g := 8) (args := [(AV.sl z20 f21 e22), (AV.sl z29 f30 e31)]) (ps := [(rL (rI .i64) 1) x15, (rL (rI .i64) 1) x24]) (p := (rB) y33) rfl rfl rfl rfl rfl rfl rfl (.cons (Fin.of (p := (rL (rI .i64) 1) x15) (.L fun _ => .I) (⟨_, _, _, rfl, h23⟩)) (.cons (Fin.of (p := (rL (rI .i64) 1) x24) (.L fun _ => .I) (⟨_, _, _, rfl, h32⟩)) .nil)) (fun args' hc => by obtain ⟨_, _, rfl, hv0, hd0⟩ := Cs_cons hc; obtain ⟨z35, f36, e37, rfl, h38⟩ := hv0; obtain ⟨_, _, rfl, hv1, hd1⟩ := Cs_cons hd0; obtain ⟨z39, f40, e41, rfl, h42⟩ := hv1; cases Cs_nil hd1; exact laws_eqInt64S_okN h38 h42 h34 WF.blind) (fun v n hv => by cases hv; rfl) (fun v hv => Nice.pure (k := FINK) (p := (rB) y33) .B _ v hv) ?_
  intro _ h43
  cases h43
  refine AOps.p rfl (rfl : _ = (AV.bool (!y33))) ?_
  refine AOps.nilR ?_
  rcases oite h with ⟨hc44, h⟩ | ⟨hc44, h⟩
  ·refine AW.condT (congrArg AV.bool hc44) ?_
   refine AW.sr ?_
   refine AOps.p rfl (rfl : _ = (AV.bool false)) ?_
   refine AOps.nilR ?_
   cases h
   have hr := hR1 _ rfl
   subst hr
   exact AW.ret ⟨rfl, _, _, rfl, rfl⟩
  refine AW.condF (congrArg AV.bool hc44) ?_
  refine AW.skip ?_
  refine AW.inBlock ?_
  refine AW.region ?_
  refine AOps.p rfl (rfl : _ = (AV.int .i64 i13)) ?_
  refine AOps.p rfl (rfl : _ = (AV.int .i64 (IntKind.wrap .i64 (i13 + 1)))) ?_
  refine AOps.assignR rfl rfl rfl (rfl : _ = (AV.int .i64 (IntKind.wrap .i64 (i13 + 1)))) rfl ?_
  refine AOps.nilR ?_
  cases h
  exact AW.res [(0, (AV.sl z2 f3 e4)), (1, (AV.sl z7 f8 e9)), (5, (AV.int .i64 (IntKind.wrap .i64 (i13 + 1))))] [] ⟨rfl, rfl, rfl, trivial⟩ trivial (hL1 _ rfl () _ _ trivial)
 refine AW.condF (congrArg AV.bool hc14) ?_
 refine AW.exit rfl ?_
 obtain ⟨r45, hm, hx⟩ := omap h
 clear h
 subst hx
 have hx := hR1 _ rfl
 rw [hx] at hm
 have h := hm
 exact AW.res [] [] trivial trivial (KJ12 () _ _ h)
theorem laws_eqInt64SSS_okN {a1 : List (List (List Int))} {b6 : List (List (List Int))} {z2 : Nat} {f3 : Bool} {e4 : List AV} {z7 : Nat} {f8 : Bool} {e9 : List AV} {s : St} (h5 : LR (rL (rL (rI .i64) 1) 1) 1 a1 z2 e4) (h10 : LR (rL (rL (rI .i64) 1) 1) 1 b6 z7 e9) {r : Bool} (h : laws_eqInt64SSS a1 b6 = some r) (hs : WF s) : ACallN Cf 27 [(AV.sl z2 f3 e4), (AV.sl z7 f8 e9)] s fun v _ s' => (rB) r v ∧ s' = s := by
 refine ACallN.pure rfl rfl rfl .B ?_
 have hWF := hs.lo'
 unfold laws_eqInt64SSS at h
 refine AW.sr ?_
 refine AOps.p rfl (rfl : _ = (AV.bool false)) ?_
 refine AOps.nilR ?_
 refine AW.seq ?_
 refine AW.sr ?_
 refine AOps.p rfl (rfl : _ = (AV.sl z2 f3 e4)) ?_
 refine AOps.p rfl (len_eq h5) ?_
 refine AOps.p rfl (rfl : _ = (AV.sl z7 f8 e9)) ?_
 refine AOps.p rfl (len_eq h10) ?_
 refine AOps.p rfl (rfl : _ = (AV.bool ((a1.length : Int) != (b6.length : Int)))) ?_
 refine AOps.nilR ?_
 rcases oite h with ⟨hc11, h⟩ | ⟨hc11, h⟩
 ·refine AW.condT (congrArg AV.bool hc11) ?_
  refine AW.sr ?_
  refine AOps.p rfl (rfl : _ = (AV.bool false)) ?_
  refine AOps.nilR ?_
  cases h
  exact AW.ret ⟨rfl, _, _, rfl, rfl⟩
 refine AW.condF (congrArg AV.bool hc11) ?_
 refine AW.skip ?_
 refine AW.seq ?_
 refine AW.sr ?_
 refine AOps.p rfl (rfl : _ = (AV.int .i64 0)) ?_
 refine AOps.nilR ?_
 refine AW.meet (σ := Unit) (fun _ tm os => ⟨updL tm [], updL os [], { s with lo := s.n }⟩) (fun _ => laws_eqInt64SSS_J1 = some r) ?_ ?_
 ·rintro _ tm os h
  unfold laws_eqInt64SSS_J1 at h
  refine AW.sr ?_
  refine AOps.p rfl (rfl : _ = (AV.bool true)) ?_
  refine AOps.nilR ?_
  cases h
  exact AW.ret ⟨rfl, _, _, rfl, rfl⟩
 intro KJ12
 refine AW.block ?_
 refine AW.res [(0, (AV.sl z2 f3 e4)), (1, (AV.sl z7 f8 e9)), (5, (AV.int .i64 0))] [] ⟨rfl, rfl, rfl, trivial⟩ trivial ?_
 refine AW.loopF (σ := Int) (τ := Unit) (fun i13 _ => True) (fun i13 _ tm os => ⟨updL tm [(0, (AV.sl z2 f3 e4)), (1, (AV.sl z7 f8 e9)), (5, (AV.int .i64 i13))], updL os [], { s with lo := s.n }⟩) ?_ (x := (0)) (y := ()) h trivial
 clear h
 rintro i13 _ tm os - ee1 h hL1 hR1
 unfold laws_eqInt64SSS_S1 at h
 refine AW.seq ?_
 refine AW.sr ?_
 refine AOps.p rfl (rfl : _ = (AV.int .i64 i13)) ?_
 refine AOps.p rfl (rfl : _ = (AV.sl z2 f3 e4)) ?_
 refine AOps.p rfl (len_eq h5) ?_
 refine AOps.p rfl (rfl : _ = (AV.bool (decide ((i13 : Int) < (a1.length : Int))))) ?_
 refine AOps.nilR ?_
 rcases oite h with ⟨hc14, h⟩ | ⟨hc14, h⟩
 ·refine AW.condT (congrArg AV.bool hc14) ?_
  refine AW.skip ?_
  refine AW.seq ?_
  refine AW.block ?_
  refine AW.sr ?_
  refine AOps.p rfl (rfl : _ = (AV.sl z2 f3 e4)) ?_
  refine AOps.p rfl (rfl : _ = (AV.int .i64 i13)) ?_
  obtain ⟨x15, h16, h⟩ := obind h
  obtain ⟨v19, h17, h18⟩ := idx_sl h5 h16
  obtain ⟨z20, f21, e22, rfl, h23⟩ := h17
  refine AOps.pureR rfl rfl rfl h18 rfl (rfl : _ = (AV.eptr [(AV.sl z20 f21 e22)] 0)) ?_
  refine AOps.ldE (v := (AV.sl z20 f21 e22)) rfl rfl rfl rfl rfl rfl ?_
  refine AOps.p rfl (rfl : _ = (AV.sl z7 f8 e9)) ?_
  refine AOps.p rfl (rfl : _ = (AV.int .i64 i13)) ?_
  obtain ⟨x24, h25, h⟩ := obind h
  obtain ⟨v28, h26, h27⟩ := idx_sl h10 h25
  obtain ⟨z29, f30, e31, rfl, h32⟩ := h26
  refine AOps.pureR rfl rfl rfl h27 rfl (rfl : _ = (AV.eptr [(AV.sl z29 f30 e31)] 0)) ?_
  refine AOps.ldE (v := (AV.sl z29 f30 e31)) rfl rfl rfl rfl rfl rfl ?_
  obtain ⟨y33, h34, h⟩ := obind h
  refine AOps.lendD (g := 28) (args := [(AV.sl z20 f21 e22), (AV.sl z29 f30 e31)]) (ps := [(rL (rL (rI .i64) 1) 1) x15, (rL (rL (rI .i64) 1) 1) x24]) (p := (rB) y33) rfl rfl rfl rfl rfl rfl rfl (.cons (Fin.of (p := (rL (rL (rI .i64) 1) 1) x15) (.L fun _ => (.L fun _ => .I)) (⟨_, _, _, rfl, h23⟩)) (.cons (Fin.of (p := (rL (rL (rI .i64) 1) 1) x24) (.L fun _ => (.L fun _ => .I)) (⟨_, _, _, rfl, h32⟩)) .nil)) (fun args' hc => by obtain ⟨_, _, rfl, hv0, hd0⟩ := Cs_cons hc; obtain ⟨z35, f36, e37, rfl, h38⟩ := hv0; obtain ⟨_, _, rfl, hv1, hd1⟩ := Cs_cons hd0; obtain ⟨z39, f40, e41, rfl, h42⟩ := hv1; cases Cs_nil hd1; exact laws_eqInt64SS_okN h38 h42 h34 WF.blind) (fun v n hv => by cases hv; rfl) (fun v hv => Nice.pure (k := FINK) (p := (rB) y33) .B _ v hv) ?_
  intro _ h43
  cases h43
  refine AOps.p rfl (rfl : _ = (AV.bool (!y33))) ?_
  refine AOps.nilR ?_
  rcases oite h with ⟨hc44, h⟩ | ⟨hc44, h⟩
  ·refine AW.condT (congrArg AV.bool hc44) ?_
   refine AW.sr ?_
   refine AOps.p rfl (rfl : _ = (AV.bool false)) ?_
   refine AOps.nilR ?_
   cases h
   have hr := hR1 _ rfl
   subst hr
   exact AW.ret ⟨rfl, _, _, rfl, rfl⟩
  refine AW.condF (congrArg AV.bool hc44) ?_
  refine AW.skip ?_
  refine AW.inBlock ?_
  refine AW.region ?_
  refine AOps.p rfl (rfl : _ = (AV.int .i64 i13)) ?_
  refine AOps.p rfl (rfl : _ = (AV.int .i64 (IntKind.wrap .i64 (i13 + 1)))) ?_
  refine AOps.assignR rfl rfl rfl (rfl : _ = (AV.int .i64 (IntKind.wrap .i64 (i13 + 1)))) rfl ?_
  refine AOps.nilR ?_
  cases h
  exact AW.res [(0, (AV.sl z2 f3 e4)), (1, (AV.sl z7 f8 e9)), (5, (AV.int .i64 (IntKind.wrap .i64 (i13 + 1))))] [] ⟨rfl, rfl, rfl, trivial⟩ trivial (hL1 _ rfl () _ _ trivial)
 refine AW.condF (congrArg AV.bool hc14) ?_
 refine AW.exit rfl ?_
 obtain ⟨r45, hm, hx⟩ := omap h
 clear h
 subst hx
 have hx := hR1 _ rfl
 rw [hx] at hm
 have h := hm
 exact AW.res [] [] trivial trivial (KJ12 () _ _ h)
theorem laws_eqChecker_okN {a1 : Checker} {b18 : Checker} {z2 : Nat} {f3 : Bool} {e4 : List AV} {z6 : Nat} {f7 : Bool} {e8 : List AV} {z10 : Nat} {f11 : Bool} {e12 : List AV} {z14 : Nat} {f15 : Bool} {e16 : List AV} {z19 : Nat} {f20 : Bool} {e21 : List AV} {z23 : Nat} {f24 : Bool} {e25 : List AV} {z27 : Nat} {f28 : Bool} {e29 : List AV} {z31 : Nat} {f32 : Bool} {e33 : List AV} {s : St} (h5 : LR rB 1 a1.Accept z2 e4) (h9 : LR (rL rPush 2) 1 a1.Call z6 e8) (h13 : LR (rL (rL (rI .i64) 1) 1) 1 a1.Return z10 e12) (h17 : LR (rL (rI .i64) 1) 1 a1.Inner z14 e16) (h22 : LR rB 1 b18.Accept z19 e21) (h26 : LR (rL rPush 2) 1 b18.Call z23 e25) (h30 : LR (rL (rL (rI .i64) 1) 1) 1 b18.Return z27 e29) (h34 : LR (rL (rI .i64) 1) 1 b18.Inner z31 e33) {r : Bool} (h : laws_eqChecker a1 b18 = some r) (hs : WF s) : ACallN Cf 9 [(AV.agg [(AV.int .i64 a1.Stack), (AV.int .i64 a1.Start), (AV.sl z2 f3 e4), (AV.sl z6 f7 e8), (AV.sl z10 f11 e12), (AV.sl z14 f15 e16)]), (AV.agg [(AV.int .i64 b18.Stack), (AV.int .i64 b18.Start), (AV.sl z19 f20 e21), (AV.sl z23 f24 e25), (AV.sl z27 f28 e29), (AV.sl z31 f32 e33)])] s fun v _ s' => (rB) r v ∧ s' = s := by
 refine ACallN.pure rfl rfl rfl .B ?_
 have hWF := hs.lo'
 unfold laws_eqChecker at h
 refine AW.sr ?_
 refine AOps.makeR rfl rfl rfl rfl rfl rfl (rfl : _ = (AV.eptr [(AV.int .i64 a1.Stack), (AV.int .i64 a1.Start), (AV.sl z2 f3 e4), (AV.sl z6 f7 e8), (AV.sl z10 f11 e12), (AV.sl z14 f15 e16)] 0)) ?_
 refine AOps.makeR rfl rfl rfl rfl rfl rfl (rfl : _ = (AV.eptr [(AV.int .i64 b18.Stack), (AV.int .i64 b18.Start), (AV.sl z19 f20 e21), (AV.sl z23 f24 e25), (AV.sl z27 f28 e29), (AV.sl z31 f32 e33)] 0)) ?_
 refine AOps.p rfl (rfl : _ = (AV.bool false)) ?_
 refine AOps.nilR ?_
 refine AW.seq ?_
 refine AW.sr ?_
 refine AOps.p rfl (rfl : _ = (AV.eptr [(AV.int .i64 a1.Stack), (AV.int .i64 a1.Start), (AV.sl z2 f3 e4), (AV.sl z6 f7 e8), (AV.sl z10 f11 e12), (AV.sl z14 f15 e16)] 0)) ?_
 refine AOps.ldE (v := (AV.int .i64 a1.Stack)) rfl rfl rfl rfl rfl rfl ?_
 refine AOps.p rfl (rfl : _ = (AV.eptr [(AV.int .i64 b18.Stack), (AV.int .i64 b18.Start), (AV.sl z19 f20 e21), (AV.sl z23 f24 e25), (AV.sl z27 f28 e29), (AV.sl z31 f32 e33)] 0)) ?_
 refine AOps.ldE (v := (AV.int .i64 b18.Stack)) rfl rfl rfl rfl rfl rfl ?_
 refine AOps.p rfl (rfl : _ = (AV.bool (a1.Stack != b18.Stack))) ?_
 refine AOps.nilR ?_
 rcases oite h with ⟨hc35, h⟩ | ⟨hc35, h⟩
 ·refine AW.condT (congrArg AV.bool hc35) ?_
  refine AW.sr ?_
  refine AOps.p rfl (rfl : _ = (AV.bool false)) ?_
  refine AOps.nilR ?_
  cases h
  exact AW.ret ⟨rfl, _, _, rfl, rfl⟩
 refine AW.condF (congrArg AV.bool hc35) ?_
 refine AW.skip ?_
 refine AW.seq ?_
 refine AW.sr ?_
 refine AOps.p rfl (rfl : _ = (AV.eptr [(AV.int .i64 a1.Stack), (AV.int .i64 a1.Start), (AV.sl z2 f3 e4), (AV.sl z6 f7 e8), (AV.sl z10 f11 e12), (AV.sl z14 f15 e16)] 1)) ?_
 refine AOps.ldE (v := (AV.int .i64 a1.Start)) rfl rfl rfl rfl rfl rfl ?_
 refine AOps.p rfl (rfl : _ = (AV.eptr [(AV.int .i64 b18.Stack), (AV.int .i64 b18.Start), (AV.sl z19 f20 e21), (AV.sl z23 f24 e25), (AV.sl z27 f28 e29), (AV.sl z31 f32 e33)] 1)) ?_
 refine AOps.ldE (v := (AV.int .i64 b18.Start)) rfl rfl rfl rfl rfl rfl ?_
 refine AOps.p rfl (rfl : _ = (AV.bool (a1.Start != b18.Start))) ?_
 refine AOps.nilR ?_
 rcases oite h with ⟨hc36, h⟩ | ⟨hc36, h⟩
 ·refine AW.condT (congrArg AV.bool hc36) ?_
  refine AW.sr ?_
  refine AOps.p rfl (rfl : _ = (AV.bool false)) ?_
  refine AOps.nilR ?_
  cases h
  exact AW.ret ⟨rfl, _, _, rfl, rfl⟩
 refine AW.condF (congrArg AV.bool hc36) ?_
 refine AW.skip ?_
 refine AW.seq ?_
 refine AW.sr ?_
 refine AOps.p rfl (rfl : _ = (AV.eptr [(AV.int .i64 a1.Stack), (AV.int .i64 a1.Start), (AV.sl z2 f3 e4), (AV.sl z6 f7 e8), (AV.sl z10 f11 e12), (AV.sl z14 f15 e16)] 2)) ?_
 refine AOps.ldE (v := (AV.sl z2 f3 e4)) rfl rfl rfl rfl rfl rfl ?_
 refine AOps.p rfl (rfl : _ = (AV.eptr [(AV.int .i64 b18.Stack), (AV.int .i64 b18.Start), (AV.sl z19 f20 e21), (AV.sl z23 f24 e25), (AV.sl z27 f28 e29), (AV.sl z31 f32 e33)] 2)) ?_
 refine AOps.ldE (v := (AV.sl z19 f20 e21)) rfl rfl rfl rfl rfl rfl ?_
 obtain ⟨y37, h38, h⟩ := obind h
 refine AOps.lendP (g := 25) (args := [(AV.sl z2 f3 e4), (AV.sl z19 f20 e21)]) (ps := [(rL rB 1) a1.Accept, (rL rB 1) b18.Accept]) (p := (rB) y37) rfl rfl rfl rfl rfl rfl rfl (.cons (Fin.of (p := (rL rB 1) a1.Accept) (.L fun _ => .B) (⟨_, _, _, rfl, h5⟩)) (.cons (Fin.of (p := (rL rB 1) b18.Accept) (.L fun _ => .B) (⟨_, _, _, rfl, h22⟩)) .nil)) (fun args' hc => by obtain ⟨_, _, rfl, hv0, hd0⟩ := Cs_cons hc; obtain ⟨z39, f40, e41, rfl, h42⟩ := hv0; obtain ⟨_, _, rfl, hv1, hd1⟩ := Cs_cons hd0; obtain ⟨z43, f44, e45, rfl, h46⟩ := hv1; cases Cs_nil hd1; exact laws_eqBoolS_okN h42 h46 h38 WF.blind) (fun v n hv => by cases hv; rfl) ?_
 intro _ h47
 cases h47
 refine AOps.p rfl (rfl : _ = (AV.bool (!y37))) ?_
 refine AOps.nilR ?_
 rcases oite h with ⟨hc48, h⟩ | ⟨hc48, h⟩
 ·refine AW.condT (congrArg AV.bool hc48) ?_
  refine AW.sr ?_
  refine AOps.p rfl (rfl : _ = (AV.bool false)) ?_
  refine AOps.nilR ?_
  cases h
  exact AW.ret ⟨rfl, _, _, rfl, rfl⟩
 refine AW.condF (congrArg AV.bool hc48) ?_
 refine AW.skip ?_
 refine AW.seq ?_
 refine AW.sr ?_
 refine AOps.p rfl (rfl : _ = (AV.eptr [(AV.int .i64 a1.Stack), (AV.int .i64 a1.Start), (AV.sl z2 f3 e4), (AV.sl z6 f7 e8), (AV.sl z10 f11 e12), (AV.sl z14 f15 e16)] 3)) ?_
 refine AOps.ldE (v := (AV.sl z6 f7 e8)) rfl rfl rfl rfl rfl rfl ?_
 refine AOps.p rfl (rfl : _ = (AV.eptr [(AV.int .i64 b18.Stack), (AV.int .i64 b18.Start), (AV.sl z19 f20 e21), (AV.sl z23 f24 e25), (AV.sl z27 f28 e29), (AV.sl z31 f32 e33)] 3)) ?_
 refine AOps.ldE (v := (AV.sl z23 f24 e25)) rfl rfl rfl rfl rfl rfl ?_
 obtain ⟨y49, h50, h⟩ := obind h
 refine AOps.lendP (g := 26) (args := [(AV.sl z6 f7 e8), (AV.sl z23 f24 e25)]) (ps := [(rL (rL rPush 2) 1) a1.Call, (rL (rL rPush 2) 1) b18.Call]) (p := (rB) y49) rfl rfl rfl rfl rfl rfl rfl (.cons (Fin.of (p := (rL (rL rPush 2) 1) a1.Call) (.L fun _ => (.L fun _ => (.A (.cons .I (.cons .I .nil))))) (⟨_, _, _, rfl, h9⟩)) (.cons (Fin.of (p := (rL (rL rPush 2) 1) b18.Call) (.L fun _ => (.L fun _ => (.A (.cons .I (.cons .I .nil))))) (⟨_, _, _, rfl, h26⟩)) .nil)) (fun args' hc => by obtain ⟨_, _, rfl, hv0, hd0⟩ := Cs_cons hc; obtain ⟨z51, f52, e53, rfl, h54⟩ := hv0; obtain ⟨_, _, rfl, hv1, hd1⟩ := Cs_cons hd0; obtain ⟨z55, f56, e57, rfl, h58⟩ := hv1; cases Cs_nil hd1; exact laws_eqPushSS_okN h54 h58 h50 WF.blind) (fun v n hv => by cases hv; rfl) ?_
 intro _ h59
 cases h59
 refine AOps.p rfl (rfl : _ = (AV.bool (!y49))) ?_
 refine AOps.nilR ?_
 rcases oite h with ⟨hc60, h⟩ | ⟨hc60, h⟩
 ·refine AW.condT (congrArg AV.bool hc60) ?_
  refine AW.sr ?_
  refine AOps.p rfl (rfl : _ = (AV.bool false)) ?_
  refine AOps.nilR ?_
  cases h
  exact AW.ret ⟨rfl, _, _, rfl, rfl⟩
 refine AW.condF (congrArg AV.bool hc60) ?_
 refine AW.skip ?_
 refine AW.seq ?_
 refine AW.sr ?_
 refine AOps.p rfl (rfl : _ = (AV.eptr [(AV.int .i64 a1.Stack), (AV.int .i64 a1.Start), (AV.sl z2 f3 e4), (AV.sl z6 f7 e8), (AV.sl z10 f11 e12), (AV.sl z14 f15 e16)] 4)) ?_
 refine AOps.ldE (v := (AV.sl z10 f11 e12)) rfl rfl rfl rfl rfl rfl ?_
 refine AOps.p rfl (rfl : _ = (AV.eptr [(AV.int .i64 b18.Stack), (AV.int .i64 b18.Start), (AV.sl z19 f20 e21), (AV.sl z23 f24 e25), (AV.sl z27 f28 e29), (AV.sl z31 f32 e33)] 4)) ?_
 refine AOps.ldE (v := (AV.sl z27 f28 e29)) rfl rfl rfl rfl rfl rfl ?_
 obtain ⟨y61, h62, h⟩ := obind h
 refine AOps.lendP (g := 27) (args := [(AV.sl z10 f11 e12), (AV.sl z27 f28 e29)]) (ps := [(rL (rL (rL (rI .i64) 1) 1) 1) a1.Return, (rL (rL (rL (rI .i64) 1) 1) 1) b18.Return]) (p := (rB) y61) rfl rfl rfl rfl rfl rfl rfl (.cons (Fin.of (p := (rL (rL (rL (rI .i64) 1) 1) 1) a1.Return) (.L fun _ => (.L fun _ => (.L fun _ => .I))) (⟨_, _, _, rfl, h13⟩)) (.cons (Fin.of (p := (rL (rL (rL (rI .i64) 1) 1) 1) b18.Return) (.L fun _ => (.L fun _ => (.L fun _ => .I))) (⟨_, _, _, rfl, h30⟩)) .nil)) (fun args' hc => by obtain ⟨_, _, rfl, hv0, hd0⟩ := Cs_cons hc; obtain ⟨z63, f64, e65, rfl, h66⟩ := hv0; obtain ⟨_, _, rfl, hv1, hd1⟩ := Cs_cons hd0; obtain ⟨z67, f68, e69, rfl, h70⟩ := hv1; cases Cs_nil hd1; exact laws_eqInt64SSS_okN h66 h70 h62 WF.blind) (fun v n hv => by cases hv; rfl) ?_
 intro _ h71
 cases h71
 refine AOps.p rfl (rfl : _ = (AV.bool (!y61))) ?_
 refine AOps.nilR ?_
 rcases oite h with ⟨hc72, h⟩ | ⟨hc72, h⟩
 ·refine AW.condT (congrArg AV.bool hc72) ?_
  refine AW.sr ?_
  refine AOps.p rfl (rfl : _ = (AV.bool false)) ?_
  refine AOps.nilR ?_
  cases h
  exact AW.ret ⟨rfl, _, _, rfl, rfl⟩
 refine AW.condF (congrArg AV.bool hc72) ?_
 refine AW.skip ?_
 refine AW.seq ?_
 refine AW.sr ?_
 refine AOps.p rfl (rfl : _ = (AV.eptr [(AV.int .i64 a1.Stack), (AV.int .i64 a1.Start), (AV.sl z2 f3 e4), (AV.sl z6 f7 e8), (AV.sl z10 f11 e12), (AV.sl z14 f15 e16)] 5)) ?_
 refine AOps.ldE (v := (AV.sl z14 f15 e16)) rfl rfl rfl rfl rfl rfl ?_
 refine AOps.p rfl (rfl : _ = (AV.eptr [(AV.int .i64 b18.Stack), (AV.int .i64 b18.Start), (AV.sl z19 f20 e21), (AV.sl z23 f24 e25), (AV.sl z27 f28 e29), (AV.sl z31 f32 e33)] 5)) ?_
 refine AOps.ldE (v := (AV.sl z31 f32 e33)) rfl rfl rfl rfl rfl rfl ?_
 obtain ⟨y73, h74, h⟩ := obind h
 refine AOps.lendP (g := 28) (args := [(AV.sl z14 f15 e16), (AV.sl z31 f32 e33)]) (ps := [(rL (rL (rI .i64) 1) 1) a1.Inner, (rL (rL (rI .i64) 1) 1) b18.Inner]) (p := (rB) y73) rfl rfl rfl rfl rfl rfl rfl (.cons (Fin.of (p := (rL (rL (rI .i64) 1) 1) a1.Inner) (.L fun _ => (.L fun _ => .I)) (⟨_, _, _, rfl, h17⟩)) (.cons (Fin.of (p := (rL (rL (rI .i64) 1) 1) b18.Inner) (.L fun _ => (.L fun _ => .I)) (⟨_, _, _, rfl, h34⟩)) .nil)) (fun args' hc => by obtain ⟨_, _, rfl, hv0, hd0⟩ := Cs_cons hc; obtain ⟨z75, f76, e77, rfl, h78⟩ := hv0; obtain ⟨_, _, rfl, hv1, hd1⟩ := Cs_cons hd0; obtain ⟨z79, f80, e81, rfl, h82⟩ := hv1; cases Cs_nil hd1; exact laws_eqInt64SS_okN h78 h82 h74 WF.blind) (fun v n hv => by cases hv; rfl) ?_
 intro _ h83
 cases h83
 refine AOps.p rfl (rfl : _ = (AV.bool (!y73))) ?_
 refine AOps.nilR ?_
 rcases oite h with ⟨hc84, h⟩ | ⟨hc84, h⟩
 ·refine AW.condT (congrArg AV.bool hc84) ?_
  refine AW.sr ?_
  refine AOps.p rfl (rfl : _ = (AV.bool false)) ?_
  refine AOps.nilR ?_
  cases h
  exact AW.ret ⟨rfl, _, _, rfl, rfl⟩
 refine AW.condF (congrArg AV.bool hc84) ?_
 refine AW.skip ?_
 refine AW.sr ?_
 refine AOps.p rfl (rfl : _ = (AV.bool true)) ?_
 refine AOps.nilR ?_
 cases h
 exact AW.ret ⟨rfl, _, _, rfl, rfl⟩
theorem laws_markBoolS_K10_ok {a4 : List Bool} {k5 : Int} {h1 : AV} {k2 : KT} {s : St} (ho3 : h1.one = true) {ex : List Nat} {Ls0 : List (List BX)} (hH0 : HS ex true s s (([] : List BX) ++ List.flatten Ls0)) (hG0 : AllG [OS oE4 h1 k2 a4] Ls0) (hl : LoOK ex true s) {r : Int × (List Bool)} (h : laws_markBoolS_K10 a4 k5 = some r) (hs : WF s) : ACall Cf 29 [h1, (AV.int .i64 k5)] s (fun v _ s' => ∃ (Ls' : List (List BX)), v = (AV.int .i64 r.1) ∧ HS ex true s s' (([] : List BX) ++ List.flatten Ls') ∧ AllG [OS oE4 h1 k2 r.2] Ls') true := by
 refine ACall.keepR rfl rfl rfl ?_
 unfold laws_markBoolS_K10 at h
 refine AW.sr ?_
 refine AOps.p rfl (rfl : _ = (AV.int .i64 0)) ?_
 refine AOps.nilR ?_
 refine AW.seq ?_
 refine AW.sr ?_
 refine AOps.p rfl (rfl : _ = (AV.int .i64 0)) ?_
 refine AOps.nilR ?_
 refine AW.meet (σ := (List Bool) × Int × St × (List (List BX))) (fun (m6, k7, s8, Ls9) tm os => ⟨updL tm [(1, (AV.int .i64 k7))], updL os [], s8⟩) (fun (m6, k7, s8, Ls9) => (HS ex true s s8 (([] : List BX) ++ List.flatten Ls9)) ∧ (AllG [OS oE4 h1 k2 m6] Ls9) ∧ laws_markBoolS_K10_J1 m6 k7 = some r) ?_ ?_
 ·rintro ⟨m6, k7, s8, Ls9⟩ tm os ⟨hH10, hG11, h⟩
  unfold laws_markBoolS_K10_J1 at h
  refine AW.sr ?_
  refine AOps.p rfl (rfl : _ = (AV.int .i64 k7)) ?_
  refine AOps.assignR rfl rfl rfl (rfl : _ = (AV.int .i64 k7)) rfl ?_
  refine AOps.nilR ?_
  cases h
  exact AW.ret ⟨_, _, rfl, ⟨Ls9, rfl, hH10, hG11⟩⟩
 intro KJ12
 refine AW.block ?_
 refine AW.res [(0, h1), (1, (AV.int .i64 k5)), (5, (AV.int .i64 0))] [] ⟨rfl, rfl, rfl, trivial⟩ trivial ?_
 refine AW.loopF (σ := (List Bool) × Int × Int) (τ := St × (List (List BX))) (fun (m13, k14, i15) (s16, Ls17) => (HS ex true s s16 (([] : List BX) ++ List.flatten Ls17)) ∧ (AllG [OS oE4 h1 k2 m13] Ls17)) (fun (m13, k14, i15) (s16, Ls17) tm os => ⟨updL tm [(0, h1), (1, (AV.int .i64 k14)), (5, (AV.int .i64 i15))], updL os [], s16⟩) ?_ (x := (a4, k5, 0)) (y := (s, Ls0)) h ⟨hH0, hG0⟩
 clear h
 rintro ⟨m13, k14, i15⟩ ⟨s16, Ls17⟩ tm os ⟨hH18, hG19⟩ ee1 h hL1 hR1
 unfold laws_markBoolS_K10_S1 at h
 dsimp only at h
 refine AW.seq ?_
 refine AW.sr ?_
 refine AOps.p rfl (rfl : _ = (AV.int .i64 i15)) ?_
 refine AOps.p rfl (rfl : _ = h1) ?_
 refine AOps.lenO (j := 0) hG19 rfl Sub.here rfl rfl rfl rfl rfl ?_
 refine AOps.p rfl (rfl : _ = (AV.bool (decide ((i15 : Int) < (m13.length : Int))))) ?_
 refine AOps.nilR ?_
 rcases oite h with ⟨hc20, h⟩ | ⟨hc20, h⟩
 ·refine AW.condT (congrArg AV.bool hc20) ?_
  refine AW.skip ?_
  refine AW.seq ?_
  refine AW.block ?_
  refine AW.sr ?_
  refine AOps.p rfl (rfl : _ = h1) ?_
  refine AOps.p rfl (rfl : _ = (AV.int .i64 i15)) ?_
  refine AOps.p rfl (rfl : _ = (AV.int .i64 k14)) ?_
  obtain ⟨q21, h22, h⟩ := obind h
  refine AOps.pureR rfl rfl rfl (rem_ok h22) rfl (rfl : _ = (AV.int .i64 q21)) ?_
  refine AOps.p rfl (rfl : _ = (AV.bool (q21 == 0))) ?_
  obtain ⟨x25, h26, h⟩ := obind h
  refine AOps.idxO (j := 0) hG19 rfl Sub.here h26 rfl rfl rfl rfl rfl rfl rfl rfl rfl ?_
  intro b23 hb24
  refine AOps.stO (j := 0) (q := 0) (v := (AV.bool (q21 == 0))) (y' := (q21 == 0)) hH18 hG19 hl rfl Sub.here h26 hb24 rfl rfl rfl rfl rfl rfl rfl rfl (lt_b rfl) (le_b rfl) rfl (fun c B hc => oLeaf_set hc rfl) ?_
  intro Ls27 s28 hG29 hH30
  change HS ex true s s28 (([] : List BX) ++ List.flatten Ls27) at hH30
  change AllG [OS oE4 h1 k2 (m13.set (Int.toNat i15) (q21 == 0))] Ls27 at hG29
  refine AOps.nilR ?_
  refine AW.region ?_
  refine AOps.p rfl (rfl : _ = (AV.int .i64 k14)) ?_
  refine AOps.p rfl (rfl : _ = (AV.int .i64 (IntKind.wrap .i64 (k14 + 1)))) ?_
  refine AOps.assignR rfl rfl rfl (rfl : _ = (AV.int .i64 (IntKind.wrap .i64 (k14 + 1)))) rfl ?_
  refine AOps.nilR ?_
  refine AW.inBlock ?_
  refine AW.region ?_
  refine AOps.p rfl (rfl : _ = (AV.int .i64 i15)) ?_
  refine AOps.p rfl (rfl : _ = (AV.int .i64 (IntKind.wrap .i64 (i15 + 1)))) ?_
  refine AOps.assignR rfl rfl rfl (rfl : _ = (AV.int .i64 (IntKind.wrap .i64 (i15 + 1)))) rfl ?_
  refine AOps.nilR ?_
  cases h
  exact AW.res [(0, h1), (1, (AV.int .i64 (IntKind.wrap .i64 (k14 + 1)))), (5, (AV.int .i64 (IntKind.wrap .i64 (i15 + 1))))] [] ⟨rfl, rfl, rfl, trivial⟩ trivial (hL1 _ rfl (s28, Ls27) _ _ ⟨hH30, hG29⟩)
 refine AW.condF (congrArg AV.bool hc20) ?_
 refine AW.exit rfl ?_
 obtain ⟨r31, hm, hx⟩ := omap h
 clear h
 subst hx
 have hx := hR1 _ rfl
 rw [hx] at hm
 have h := hm
 exact AW.res [(1, (AV.int .i64 k14))] [] ⟨rfl, trivial⟩ trivial (KJ12 (m13, k14, s16, Ls17) _ _ ⟨hH18, hG19, h⟩)
theorem laws_markPushS_K10_ok {a4 : List Push} {k5 : Int} {h1 : AV} {k2 : KT} {s : St} (ho3 : h1.one = true) {ex : List Nat} {Ls0 : List (List BX)} (hH0 : HS ex true s s (([] : List BX) ++ List.flatten Ls0)) (hG0 : AllG [OS oE65 h1 k2 a4] Ls0) (hl : LoOK ex true s) {r : Int × (List Push)} (h : laws_markPushS_K10 a4 k5 = some r) (hs : WF s) : ACall Cf 54 [h1, (AV.int .i64 k5)] s (fun v _ s' => ∃ (Ls' : List (List BX)), v = (AV.int .i64 r.1) ∧ HS ex true s s' (([] : List BX) ++ List.flatten Ls') ∧ AllG [OS oE65 h1 k2 r.2] Ls') true := by
 refine ACall.keepR rfl rfl rfl ?_
 unfold laws_markPushS_K10 at h
 refine AW.sr ?_
 refine AOps.p rfl (rfl : _ = (AV.int .i64 0)) ?_
 refine AOps.nilR ?_
 refine AW.seq ?_
 refine AW.sr ?_
 refine AOps.p rfl (rfl : _ = (AV.int .i64 0)) ?_
 refine AOps.nilR ?_
 refine AW.meet (σ := (List Push) × Int × St × (List (List BX))) (fun (m6, k7, s8, Ls9) tm os => ⟨updL tm [(1, (AV.int .i64 k7))], updL os [], s8⟩) (fun (m6, k7, s8, Ls9) => (HS ex true s s8 (([] : List BX) ++ List.flatten Ls9)) ∧ (AllG [OS oE65 h1 k2 m6] Ls9) ∧ laws_markPushS_K10_J1 m6 k7 = some r) ?_ ?_
 ·rintro ⟨m6, k7, s8, Ls9⟩ tm os ⟨hH10, hG11, h⟩
  unfold laws_markPushS_K10_J1 at h
  refine AW.sr ?_
  refine AOps.p rfl (rfl : _ = (AV.int .i64 k7)) ?_
  refine AOps.assignR rfl rfl rfl (rfl : _ = (AV.int .i64 k7)) rfl ?_
  refine AOps.nilR ?_
  cases h
  exact AW.ret ⟨_, _, rfl, ⟨Ls9, rfl, hH10, hG11⟩⟩
 intro KJ12
 refine AW.block ?_
 refine AW.res [(0, h1), (1, (AV.int .i64 k5)), (5, (AV.int .i64 0))] [] ⟨rfl, rfl, rfl, trivial⟩ trivial ?_
 refine AW.loopF (σ := (List Push) × Int × Int) (τ := St × (List (List BX))) (fun (m13, k14, i15) (s16, Ls17) => (HS ex true s s16 (([] : List BX) ++ List.flatten Ls17)) ∧ (AllG [OS oE65 h1 k2 m13] Ls17)) (fun (m13, k14, i15) (s16, Ls17) tm os => ⟨updL tm [(0, h1), (1, (AV.int .i64 k14)), (5, (AV.int .i64 i15))], updL os [], s16⟩) ?_ (x := (a4, k5, 0)) (y := (s, Ls0)) h ⟨hH0, hG0⟩
 clear h
 rintro ⟨m13, k14, i15⟩ ⟨s16, Ls17⟩ tm os ⟨hH18, hG19⟩ ee1 h hL1 hR1
 unfold laws_markPushS_K10_S1 at h
 dsimp only at h
 refine AW.seq ?_
 refine AW.sr ?_
 refine AOps.p rfl (rfl : _ = (AV.int .i64 i15)) ?_
 refine AOps.p rfl (rfl : _ = h1) ?_
 refine AOps.lenO (j := 0) hG19 rfl Sub.here rfl rfl rfl rfl rfl ?_
 refine AOps.p rfl (rfl : _ = (AV.bool (decide ((i15 : Int) < (m13.length : Int))))) ?_
 refine AOps.nilR ?_
 rcases oite h with ⟨hc20, h⟩ | ⟨hc20, h⟩
 ·refine AW.condT (congrArg AV.bool hc20) ?_
  refine AW.skip ?_
  refine AW.seq ?_
  refine AW.block ?_
  refine AW.sr ?_
  refine AOps.p rfl (rfl : _ = h1) ?_
  refine AOps.p rfl (rfl : _ = (AV.int .i64 i15)) ?_
  refine AOps.p rfl (rfl : _ = (AV.int .i64 k14)) ?_
  obtain ⟨x23, h24, h⟩ := obind h
  refine AOps.idxO (j := 0) hG19 rfl Sub.here h24 rfl rfl rfl rfl rfl rfl rfl rfl rfl ?_
  intro b21 hb22
  refine AOps.p rfl (rfl : _ = (AV.ptr b21 (0 + Int.toNat i15 * 2))) ?_
  refine AOps.stO (j := 0) (q := 0) (v := (AV.int .i64 k14)) (y' := ({ x23 with To := k14 } : Push)) hH18 hG19 hl rfl Sub.here h24 hb22 rfl rfl rfl rfl rfl rfl rfl rfl (lt_b rfl) (le_b rfl) rfl (fun c B hc => by obtain ⟨⟨_, hr, rfl⟩, rfl⟩ := hc; obtain ⟨_, rfl, h29⟩ := hr; obtain ⟨_, _, rfl, h30, h31⟩ := Cs_cons h29; cases h30; obtain ⟨_, _, rfl, h32, h33⟩ := Cs_cons h31; cases h32; cases Cs_nil h33; exact ⟨⟨(AV.agg [(AV.int .i64 k14), (AV.int .i64 x23.Put)]), ⟨_, rfl, (.cons rfl (.cons rfl .nil))⟩, rfl⟩, rfl⟩) ?_
  intro Ls25 s26 hG27 hH28
  change HS ex true s s26 (([] : List BX) ++ List.flatten Ls25) at hH28
  change AllG [OS oE65 h1 k2 (m13.set (Int.toNat i15) ({ x23 with To := k14 } : Push))] Ls25 at hG27
  refine AOps.nilR ?_
  refine AW.sr ?_
  refine AOps.p rfl (rfl : _ = (AV.int .i64 k14)) ?_
  refine AOps.p rfl (rfl : _ = (AV.int .i64 (IntKind.wrap .i64 (k14 + 1)))) ?_
  refine AOps.assignR rfl rfl rfl (rfl : _ = (AV.int .i64 (IntKind.wrap .i64 (k14 + 1)))) rfl ?_
  refine AOps.nilR ?_
  refine AW.sr ?_
  refine AOps.p rfl (rfl : _ = h1) ?_
  refine AOps.p rfl (rfl : _ = (AV.int .i64 i15)) ?_
  refine AOps.p rfl (rfl : _ = (AV.int .i64 (IntKind.wrap .i64 (k14 + 1)))) ?_
  refine AOps.idxO (j := 0) hG27 rfl Sub.here (ix_set h24) rfl rfl rfl rfl rfl rfl rfl rfl rfl ?_
  intro b34 hb35
  refine AOps.p rfl (rfl : _ = (AV.ptr b34 (0 + Int.toNat i15 * 2 + 1))) ?_
  refine AOps.stO (j := 0) (q := 1) (v := (AV.int .i64 (IntKind.wrap .i64 (k14 + 1)))) (y' := ({ ({ x23 with To := k14 } : Push) with Put := IntKind.wrap .i64 (k14 + 1) } : Push)) hH28 hG27 hl rfl Sub.here (ix_set h24) hb35 rfl rfl rfl rfl rfl rfl rfl rfl (lt_b rfl) (le_b rfl) rfl (fun c B hc => by obtain ⟨⟨_, hr, rfl⟩, rfl⟩ := hc; obtain ⟨_, rfl, h40⟩ := hr; obtain ⟨_, _, rfl, h41, h42⟩ := Cs_cons h40; cases h41; obtain ⟨_, _, rfl, h43, h44⟩ := Cs_cons h42; cases h43; cases Cs_nil h44; exact ⟨⟨(AV.agg [(AV.int .i64 (({ x23 with To := k14 } : Push).To)), (AV.int .i64 (IntKind.wrap .i64 (k14 + 1)))]), ⟨_, rfl, (.cons rfl (.cons rfl .nil))⟩, rfl⟩, rfl⟩) ?_
  intro Ls36 s37 hG38 hH39
  change HS ex true s s37 (([] : List BX) ++ List.flatten Ls36) at hH39
  change AllG [OS oE65 h1 k2 ((m13.set (Int.toNat i15) ({ x23 with To := k14 } : Push)).set (Int.toNat i15) ({ ({ x23 with To := k14 } : Push) with Put := IntKind.wrap .i64 (k14 + 1) } : Push))] Ls36 at hG38
  refine AOps.nilR ?_
  refine AW.region ?_
  refine AOps.p rfl (rfl : _ = (AV.int .i64 (IntKind.wrap .i64 (k14 + 1)))) ?_
  refine AOps.p rfl (rfl : _ = (AV.int .i64 (IntKind.wrap .i64 ((IntKind.wrap .i64 (k14 + 1)) + 1)))) ?_
  refine AOps.assignR rfl rfl rfl (rfl : _ = (AV.int .i64 (IntKind.wrap .i64 ((IntKind.wrap .i64 (k14 + 1)) + 1)))) rfl ?_
  refine AOps.nilR ?_
  refine AW.inBlock ?_
  refine AW.region ?_
  refine AOps.p rfl (rfl : _ = (AV.int .i64 i15)) ?_
  refine AOps.p rfl (rfl : _ = (AV.int .i64 (IntKind.wrap .i64 (i15 + 1)))) ?_
  refine AOps.assignR rfl rfl rfl (rfl : _ = (AV.int .i64 (IntKind.wrap .i64 (i15 + 1)))) rfl ?_
  refine AOps.nilR ?_
  cases h
  exact AW.res [(0, h1), (1, (AV.int .i64 (IntKind.wrap .i64 ((IntKind.wrap .i64 (k14 + 1)) + 1)))), (5, (AV.int .i64 (IntKind.wrap .i64 (i15 + 1))))] [] ⟨rfl, rfl, rfl, trivial⟩ trivial (hL1 _ rfl (s37, Ls36) _ _ ⟨hH39, hG38⟩)
 refine AW.condF (congrArg AV.bool hc20) ?_
 refine AW.exit rfl ?_
 obtain ⟨r45, hm, hx⟩ := omap h
 clear h
 subst hx
 have hx := hR1 _ rfl
 rw [hx] at hm
 have h := hm
 exact AW.res [(1, (AV.int .i64 k14))] [] ⟨rfl, trivial⟩ trivial (KJ12 (m13, k14, s16, Ls17) _ _ ⟨hH18, hG19, h⟩)
theorem laws_markPushSS_K10_ok {a4 : List (List Push)} {k5 : Int} {h1 : AV} {k2 : KT} {s : St} (ho3 : h1.one = true) {ex : List Nat} {Ls0 : List (List BX)} (hH0 : HS ex true s s (([] : List BX) ++ List.flatten Ls0)) (hG0 : AllG [OS oE62 h1 k2 a4] Ls0) (hl : LoOK ex true s) {r : Int × (List (List Push))} (h : laws_markPushSS_K10 a4 k5 = some r) (hs : WF s) : ACall Cf 30 [h1, (AV.int .i64 k5)] s (fun v _ s' => ∃ (Ls' : List (List BX)), v = (AV.int .i64 r.1) ∧ HS ex true s s' (([] : List BX) ++ List.flatten Ls') ∧ AllG [OS oE62 h1 k2 r.2] Ls') true := by
 refine ACall.keepR rfl rfl rfl ?_
 unfold laws_markPushSS_K10 at h
 refine AW.sr ?_
 refine AOps.p rfl (rfl : _ = (AV.int .i64 0)) ?_
 refine AOps.nilR ?_
 refine AW.seq ?_
 refine AW.sr ?_
 refine AOps.p rfl (rfl : _ = (AV.int .i64 0)) ?_
 refine AOps.nilR ?_
 refine AW.meet (σ := (List (List Push)) × Int × St × (List (List BX))) (fun (m6, k7, s8, Ls9) tm os => ⟨updL tm [(1, (AV.int .i64 k7))], updL os [], s8⟩) (fun (m6, k7, s8, Ls9) => (HS ex true s s8 (([] : List BX) ++ List.flatten Ls9)) ∧ (AllG [OS oE62 h1 k2 m6] Ls9) ∧ laws_markPushSS_K10_J1 m6 k7 = some r) ?_ ?_
 ·rintro ⟨m6, k7, s8, Ls9⟩ tm os ⟨hH10, hG11, h⟩
  unfold laws_markPushSS_K10_J1 at h
  refine AW.sr ?_
  refine AOps.p rfl (rfl : _ = (AV.int .i64 k7)) ?_
  refine AOps.assignR rfl rfl rfl (rfl : _ = (AV.int .i64 k7)) rfl ?_
  refine AOps.nilR ?_
  cases h
  exact AW.ret ⟨_, _, rfl, ⟨Ls9, rfl, hH10, hG11⟩⟩
 intro KJ12
 refine AW.block ?_
 refine AW.res [(0, h1), (1, (AV.int .i64 k5)), (5, (AV.int .i64 0))] [] ⟨rfl, rfl, rfl, trivial⟩ trivial ?_
 refine AW.loopF (σ := (List (List Push)) × Int × Int) (τ := St × (List (List BX))) (fun (m13, k14, i15) (s16, Ls17) => (HS ex true s s16 (([] : List BX) ++ List.flatten Ls17)) ∧ (AllG [OS oE62 h1 k2 m13] Ls17)) (fun (m13, k14, i15) (s16, Ls17) tm os => ⟨updL tm [(0, h1), (1, (AV.int .i64 k14)), (5, (AV.int .i64 i15))], updL os [], s16⟩) ?_ (x := (a4, k5, 0)) (y := (s, Ls0)) h ⟨hH0, hG0⟩
 clear h
 rintro ⟨m13, k14, i15⟩ ⟨s16, Ls17⟩ tm os ⟨hH18, hG19⟩ ee1 h hL1 hR1
 unfold laws_markPushSS_K10_S1 at h
 dsimp only at h
 refine AW.seq ?_
 refine AW.sr ?_
 refine AOps.p rfl (rfl : _ = (AV.int .i64 i15)) ?_
 refine AOps.p rfl (rfl : _ = h1) ?_
 refine AOps.lenO (j := 0) hG19 rfl Sub.here rfl rfl rfl rfl rfl ?_
 refine AOps.p rfl (rfl : _ = (AV.bool (decide ((i15 : Int) < (m13.length : Int))))) ?_
 refine AOps.nilR ?_
 rcases oite h with ⟨hc20, h⟩ | ⟨hc20, h⟩
 ·refine AW.condT (congrArg AV.bool hc20) ?_
  refine AW.skip ?_
  refine AW.seq ?_
  refine AW.block ?_
  refine AW.region ?_
  refine AOps.p rfl (rfl : _ = h1) ?_
  refine AOps.p rfl (rfl : _ = (AV.int .i64 i15)) ?_
  obtain ⟨x23, h24, h⟩ := obind h
  refine AOps.idxO (j := 0) hG19 rfl Sub.here h24 rfl rfl rfl rfl rfl rfl rfl rfl rfl ?_
  intro b21 hb22
  refine AOps.ldO (j := 0) (q := 0) hH18 hG19 rfl Sub.here h24 hb22 rfl rfl rfl rfl rfl (lt_b rfl) (le_b rfl) rfl rfl ?_ (fun c B hc => by obtain ⟨rfl, _⟩ := hc; exact ⟨_, rfl⟩)
  intro c25 B26 v27 h28 h29
  obtain ⟨rfl, _⟩ := h28
  cases h29
  refine AOps.p rfl (rfl : _ = (AV.int .i64 k14)) ?_
  obtain ⟨y30, h31, h⟩ := obind h
  have hP32 := HS.pop0 hH18
  have hF0 : AllG ([] : List (List BX → Prop)) [] := AllG.nil
  obtain ⟨Ls33, Lf34, hG35, hF36, hP37⟩ := HS.popS hP32 hG19 hF0 (j := 0) rfl (Sub.down Sub.here h24)
  refine AOps.callF (al := true) (g := 54) (args := [((KT.at k2 (Int.toNat i15)) []), (AV.int .i64 k14)]) rfl rfl rfl (laws_markPushS_K10_ok (Sub.one hG19 (j := 0) rfl (Sub.down Sub.here h24)) (HS.enterK hP37) hF36 (HS.enterLo hP37 hl) h31 (HS.wf' hH18)) ?_
  rintro _ _ s38 ⟨Ls40, rfl, hH41, hG42⟩
  have hJ43 := HS.joinK hP37 hH41
  obtain ⟨Ls44, Lf45, hG46, hF47, hP48⟩ := HS.pushS hJ43 hG35 hG42 (j := 0) rfl
  cases hF47
  have hH49 := HS.push0 hP48
  change HS ex true s s38 (([] : List BX) ++ List.flatten Ls44) at hH49
  change AllG [OS oE62 h1 k2 (m13.set (Int.toNat i15) y30.2)] Ls44 at hG46
  refine AOps.assignR rfl rfl rfl (rfl : _ = (AV.int .i64 y30.1)) rfl ?_
  refine AOps.nilR ?_
  refine AW.inBlock ?_
  refine AW.region ?_
  refine AOps.p rfl (rfl : _ = (AV.int .i64 i15)) ?_
  refine AOps.p rfl (rfl : _ = (AV.int .i64 (IntKind.wrap .i64 (i15 + 1)))) ?_
  refine AOps.assignR rfl rfl rfl (rfl : _ = (AV.int .i64 (IntKind.wrap .i64 (i15 + 1)))) rfl ?_
  refine AOps.nilR ?_
  cases h
  exact AW.res [(0, h1), (1, (AV.int .i64 y30.1)), (5, (AV.int .i64 (IntKind.wrap .i64 (i15 + 1))))] [] ⟨rfl, rfl, rfl, trivial⟩ trivial (hL1 _ rfl (s38, Ls44) _ _ ⟨hH49, hG46⟩)
 refine AW.condF (congrArg AV.bool hc20) ?_
 refine AW.exit rfl ?_
 obtain ⟨r50, hm, hx⟩ := omap h
 clear h
 subst hx
 have hx := hR1 _ rfl
 rw [hx] at hm
 have h := hm
 exact AW.res [(1, (AV.int .i64 k14))] [] ⟨rfl, trivial⟩ trivial (KJ12 (m13, k14, s16, Ls17) _ _ ⟨hH18, hG19, h⟩)
theorem laws_markInt64S_K10_ok {a4 : List Int} {k5 : Int} {h1 : AV} {k2 : KT} {s : St} (ho3 : h1.one = true) {ex : List Nat} {Ls0 : List (List BX)} (hH0 : HS ex true s s (([] : List BX) ++ List.flatten Ls0)) (hG0 : AllG [OS oE2 h1 k2 a4] Ls0) (hl : LoOK ex true s) {r : Int × (List Int)} (h : laws_markInt64S_K10 a4 k5 = some r) (hs : WF s) : ACall Cf 11 [h1, (AV.int .i64 k5)] s (fun v _ s' => ∃ (Ls' : List (List BX)), v = (AV.int .i64 r.1) ∧ HS ex true s s' (([] : List BX) ++ List.flatten Ls') ∧ AllG [OS oE2 h1 k2 r.2] Ls') true := by
 refine ACall.keepR rfl rfl rfl ?_
 unfold laws_markInt64S_K10 at h
 refine AW.sr ?_
 refine AOps.p rfl (rfl : _ = (AV.int .i64 0)) ?_
 refine AOps.nilR ?_
 refine AW.seq ?_
 refine AW.sr ?_
 refine AOps.p rfl (rfl : _ = (AV.int .i64 0)) ?_
 refine AOps.nilR ?_
 refine AW.meet (σ := (List Int) × Int × St × (List (List BX))) (fun (m6, k7, s8, Ls9) tm os => ⟨updL tm [(1, (AV.int .i64 k7))], updL os [], s8⟩) (fun (m6, k7, s8, Ls9) => (HS ex true s s8 (([] : List BX) ++ List.flatten Ls9)) ∧ (AllG [OS oE2 h1 k2 m6] Ls9) ∧ laws_markInt64S_K10_J1 m6 k7 = some r) ?_ ?_
 ·rintro ⟨m6, k7, s8, Ls9⟩ tm os ⟨hH10, hG11, h⟩
  unfold laws_markInt64S_K10_J1 at h
  refine AW.sr ?_
  refine AOps.p rfl (rfl : _ = (AV.int .i64 k7)) ?_
  refine AOps.assignR rfl rfl rfl (rfl : _ = (AV.int .i64 k7)) rfl ?_
  refine AOps.nilR ?_
  cases h
  exact AW.ret ⟨_, _, rfl, ⟨Ls9, rfl, hH10, hG11⟩⟩
 intro KJ12
 refine AW.block ?_
 refine AW.res [(0, h1), (1, (AV.int .i64 k5)), (5, (AV.int .i64 0))] [] ⟨rfl, rfl, rfl, trivial⟩ trivial ?_
 refine AW.loopF (σ := (List Int) × Int × Int) (τ := St × (List (List BX))) (fun (m13, k14, i15) (s16, Ls17) => (HS ex true s s16 (([] : List BX) ++ List.flatten Ls17)) ∧ (AllG [OS oE2 h1 k2 m13] Ls17)) (fun (m13, k14, i15) (s16, Ls17) tm os => ⟨updL tm [(0, h1), (1, (AV.int .i64 k14)), (5, (AV.int .i64 i15))], updL os [], s16⟩) ?_ (x := (a4, k5, 0)) (y := (s, Ls0)) h ⟨hH0, hG0⟩
 clear h
 rintro ⟨m13, k14, i15⟩ ⟨s16, Ls17⟩ tm os ⟨hH18, hG19⟩ ee1 h hL1 hR1
 unfold laws_markInt64S_K10_S1 at h
 dsimp only at h
 refine AW.seq ?_
 refine AW.sr ?_
 refine AOps.p rfl (rfl : _ = (AV.int .i64 i15)) ?_
 refine AOps.p rfl (rfl : _ = h1) ?_
 refine AOps.lenO (j := 0) hG19 rfl Sub.here rfl rfl rfl rfl rfl ?_
 refine AOps.p rfl (rfl : _ = (AV.bool (decide ((i15 : Int) < (m13.length : Int))))) ?_
 refine AOps.nilR ?_
 rcases oite h with ⟨hc20, h⟩ | ⟨hc20, h⟩
 ·refine AW.condT (congrArg AV.bool hc20) ?_
  refine AW.skip ?_
  refine AW.seq ?_
  refine AW.block ?_
  refine AW.sr ?_
  refine AOps.p rfl (rfl : _ = h1) ?_
  refine AOps.p rfl (rfl : _ = (AV.int .i64 i15)) ?_
  refine AOps.p rfl (rfl : _ = (AV.int .i64 k14)) ?_
  obtain ⟨x23, h24, h⟩ := obind h
  refine AOps.idxO (j := 0) hG19 rfl Sub.here h24 rfl rfl rfl rfl rfl rfl rfl rfl rfl ?_
  intro b21 hb22
  refine AOps.stO (j := 0) (q := 0) (v := (AV.int .i64 k14)) (y' := k14) hH18 hG19 hl rfl Sub.here h24 hb22 rfl rfl rfl rfl rfl rfl rfl rfl (lt_b rfl) (le_b rfl) rfl (fun c B hc => oLeaf_set hc rfl) ?_
  intro Ls25 s26 hG27 hH28
  change HS ex true s s26 (([] : List BX) ++ List.flatten Ls25) at hH28
  change AllG [OS oE2 h1 k2 (m13.set (Int.toNat i15) k14)] Ls25 at hG27
  refine AOps.nilR ?_
  refine AW.region ?_
  refine AOps.p rfl (rfl : _ = (AV.int .i64 k14)) ?_
  refine AOps.p rfl (rfl : _ = (AV.int .i64 (IntKind.wrap .i64 (k14 + 1)))) ?_
  refine AOps.assignR rfl rfl rfl (rfl : _ = (AV.int .i64 (IntKind.wrap .i64 (k14 + 1)))) rfl ?_
  refine AOps.nilR ?_
  refine AW.inBlock ?_
  refine AW.region ?_
  refine AOps.p rfl (rfl : _ = (AV.int .i64 i15)) ?_
  refine AOps.p rfl (rfl : _ = (AV.int .i64 (IntKind.wrap .i64 (i15 + 1)))) ?_
  refine AOps.assignR rfl rfl rfl (rfl : _ = (AV.int .i64 (IntKind.wrap .i64 (i15 + 1)))) rfl ?_
  refine AOps.nilR ?_
  cases h
  exact AW.res [(0, h1), (1, (AV.int .i64 (IntKind.wrap .i64 (k14 + 1)))), (5, (AV.int .i64 (IntKind.wrap .i64 (i15 + 1))))] [] ⟨rfl, rfl, rfl, trivial⟩ trivial (hL1 _ rfl (s26, Ls25) _ _ ⟨hH28, hG27⟩)
 refine AW.condF (congrArg AV.bool hc20) ?_
 refine AW.exit rfl ?_
 obtain ⟨r29, hm, hx⟩ := omap h
 clear h
 subst hx
 have hx := hR1 _ rfl
 rw [hx] at hm
 have h := hm
 exact AW.res [(1, (AV.int .i64 k14))] [] ⟨rfl, trivial⟩ trivial (KJ12 (m13, k14, s16, Ls17) _ _ ⟨hH18, hG19, h⟩)
theorem laws_markInt64SS_K10_ok {a4 : List (List Int)} {k5 : Int} {h1 : AV} {k2 : KT} {s : St} (ho3 : h1.one = true) {ex : List Nat} {Ls0 : List (List BX)} (hH0 : HS ex true s s (([] : List BX) ++ List.flatten Ls0)) (hG0 : AllG [OS oE29 h1 k2 a4] Ls0) (hl : LoOK ex true s) {r : Int × (List (List Int))} (h : laws_markInt64SS_K10 a4 k5 = some r) (hs : WF s) : ACall Cf 32 [h1, (AV.int .i64 k5)] s (fun v _ s' => ∃ (Ls' : List (List BX)), v = (AV.int .i64 r.1) ∧ HS ex true s s' (([] : List BX) ++ List.flatten Ls') ∧ AllG [OS oE29 h1 k2 r.2] Ls') true := by
 refine ACall.keepR rfl rfl rfl ?_
 unfold laws_markInt64SS_K10 at h
 refine AW.sr ?_
 refine AOps.p rfl (rfl : _ = (AV.int .i64 0)) ?_
 refine AOps.nilR ?_
 refine AW.seq ?_
 refine AW.sr ?_
 refine AOps.p rfl (rfl : _ = (AV.int .i64 0)) ?_
 refine AOps.nilR ?_
 refine AW.meet (σ := (List (List Int)) × Int × St × (List (List BX))) (fun (m6, k7, s8, Ls9) tm os => ⟨updL tm [(1, (AV.int .i64 k7))], updL os [], s8⟩) (fun (m6, k7, s8, Ls9) => (HS ex true s s8 (([] : List BX) ++ List.flatten Ls9)) ∧ (AllG [OS oE29 h1 k2 m6] Ls9) ∧ laws_markInt64SS_K10_J1 m6 k7 = some r) ?_ ?_
 ·rintro ⟨m6, k7, s8, Ls9⟩ tm os ⟨hH10, hG11, h⟩
  unfold laws_markInt64SS_K10_J1 at h
  refine AW.sr ?_
  refine AOps.p rfl (rfl : _ = (AV.int .i64 k7)) ?_
  refine AOps.assignR rfl rfl rfl (rfl : _ = (AV.int .i64 k7)) rfl ?_
  refine AOps.nilR ?_
  cases h
  exact AW.ret ⟨_, _, rfl, ⟨Ls9, rfl, hH10, hG11⟩⟩
 intro KJ12
 refine AW.block ?_
 refine AW.res [(0, h1), (1, (AV.int .i64 k5)), (5, (AV.int .i64 0))] [] ⟨rfl, rfl, rfl, trivial⟩ trivial ?_
 refine AW.loopF (σ := (List (List Int)) × Int × Int) (τ := St × (List (List BX))) (fun (m13, k14, i15) (s16, Ls17) => (HS ex true s s16 (([] : List BX) ++ List.flatten Ls17)) ∧ (AllG [OS oE29 h1 k2 m13] Ls17)) (fun (m13, k14, i15) (s16, Ls17) tm os => ⟨updL tm [(0, h1), (1, (AV.int .i64 k14)), (5, (AV.int .i64 i15))], updL os [], s16⟩) ?_ (x := (a4, k5, 0)) (y := (s, Ls0)) h ⟨hH0, hG0⟩
 clear h
 rintro ⟨m13, k14, i15⟩ ⟨s16, Ls17⟩ tm os ⟨hH18, hG19⟩ ee1 h hL1 hR1
 unfold laws_markInt64SS_K10_S1 at h
 dsimp only at h
 refine AW.seq ?_
 refine AW.sr ?_
 refine AOps.p rfl (rfl : _ = (AV.int .i64 i15)) ?_
 refine AOps.p rfl (rfl : _ = h1) ?_
 refine AOps.lenO (j := 0) hG19 rfl Sub.here rfl rfl rfl rfl rfl ?_
 refine AOps.p rfl (rfl : _ = (AV.bool (decide ((i15 : Int) < (m13.length : Int))))) ?_
 refine AOps.nilR ?_
 rcases oite h with ⟨hc20, h⟩ | ⟨hc20, h⟩
 ·refine AW.condT (congrArg AV.bool hc20) ?_
  refine AW.skip ?_
  refine AW.seq ?_
  refine AW.block ?_
  refine AW.region ?_
  refine AOps.p rfl (rfl : _ = h1) ?_
  refine AOps.p rfl (rfl : _ = (AV.int .i64 i15)) ?_
  obtain ⟨x23, h24, h⟩ := obind h
  refine AOps.idxO (j := 0) hG19 rfl Sub.here h24 rfl rfl rfl rfl rfl rfl rfl rfl rfl ?_
  intro b21 hb22
  refine AOps.ldO (j := 0) (q := 0) hH18 hG19 rfl Sub.here h24 hb22 rfl rfl rfl rfl rfl (lt_b rfl) (le_b rfl) rfl rfl ?_ (fun c B hc => by obtain ⟨rfl, _⟩ := hc; exact ⟨_, rfl⟩)
  intro c25 B26 v27 h28 h29
  obtain ⟨rfl, _⟩ := h28
  cases h29
  refine AOps.p rfl (rfl : _ = (AV.int .i64 k14)) ?_
  obtain ⟨y30, h31, h⟩ := obind h
  have hP32 := HS.pop0 hH18
  have hF0 : AllG ([] : List (List BX → Prop)) [] := AllG.nil
  obtain ⟨Ls33, Lf34, hG35, hF36, hP37⟩ := HS.popS hP32 hG19 hF0 (j := 0) rfl (Sub.down Sub.here h24)
  refine AOps.callF (al := true) (g := 11) (args := [((KT.at k2 (Int.toNat i15)) []), (AV.int .i64 k14)]) rfl rfl rfl (laws_markInt64S_K10_ok (Sub.one hG19 (j := 0) rfl (Sub.down Sub.here h24)) (HS.enterK hP37) hF36 (HS.enterLo hP37 hl) h31 (HS.wf' hH18)) ?_
  rintro _ _ s38 ⟨Ls40, rfl, hH41, hG42⟩
  have hJ43 := HS.joinK hP37 hH41
  obtain ⟨Ls44, Lf45, hG46, hF47, hP48⟩ := HS.pushS hJ43 hG35 hG42 (j := 0) rfl
  cases hF47
  have hH49 := HS.push0 hP48
  change HS ex true s s38 (([] : List BX) ++ List.flatten Ls44) at hH49
  change AllG [OS oE29 h1 k2 (m13.set (Int.toNat i15) y30.2)] Ls44 at hG46
  refine AOps.assignR rfl rfl rfl (rfl : _ = (AV.int .i64 y30.1)) rfl ?_
  refine AOps.nilR ?_
  refine AW.inBlock ?_
  refine AW.region ?_
  refine AOps.p rfl (rfl : _ = (AV.int .i64 i15)) ?_
  refine AOps.p rfl (rfl : _ = (AV.int .i64 (IntKind.wrap .i64 (i15 + 1)))) ?_
  refine AOps.assignR rfl rfl rfl (rfl : _ = (AV.int .i64 (IntKind.wrap .i64 (i15 + 1)))) rfl ?_
  refine AOps.nilR ?_
  cases h
  exact AW.res [(0, h1), (1, (AV.int .i64 y30.1)), (5, (AV.int .i64 (IntKind.wrap .i64 (i15 + 1))))] [] ⟨rfl, rfl, rfl, trivial⟩ trivial (hL1 _ rfl (s38, Ls44) _ _ ⟨hH49, hG46⟩)
 refine AW.condF (congrArg AV.bool hc20) ?_
 refine AW.exit rfl ?_
 obtain ⟨r50, hm, hx⟩ := omap h
 clear h
 subst hx
 have hx := hR1 _ rfl
 rw [hx] at hm
 have h := hm
 exact AW.res [(1, (AV.int .i64 k14))] [] ⟨rfl, trivial⟩ trivial (KJ12 (m13, k14, s16, Ls17) _ _ ⟨hH18, hG19, h⟩)
theorem laws_markInt64SSS_K10_ok {a4 : List (List (List Int))} {k5 : Int} {h1 : AV} {k2 : KT} {s : St} (ho3 : h1.one = true) {ex : List Nat} {Ls0 : List (List BX)} (hH0 : HS ex true s s (([] : List BX) ++ List.flatten Ls0)) (hG0 : AllG [OS oE25 h1 k2 a4] Ls0) (hl : LoOK ex true s) {r : Int × (List (List (List Int)))} (h : laws_markInt64SSS_K10 a4 k5 = some r) (hs : WF s) : ACall Cf 31 [h1, (AV.int .i64 k5)] s (fun v _ s' => ∃ (Ls' : List (List BX)), v = (AV.int .i64 r.1) ∧ HS ex true s s' (([] : List BX) ++ List.flatten Ls') ∧ AllG [OS oE25 h1 k2 r.2] Ls') true := by
 refine ACall.keepR rfl rfl rfl ?_
 unfold laws_markInt64SSS_K10 at h
 refine AW.sr ?_
 refine AOps.p rfl (rfl : _ = (AV.int .i64 0)) ?_
 refine AOps.nilR ?_
 refine AW.seq ?_
 refine AW.sr ?_
 refine AOps.p rfl (rfl : _ = (AV.int .i64 0)) ?_
 refine AOps.nilR ?_
 refine AW.meet (σ := (List (List (List Int))) × Int × St × (List (List BX))) (fun (m6, k7, s8, Ls9) tm os => ⟨updL tm [(1, (AV.int .i64 k7))], updL os [], s8⟩) (fun (m6, k7, s8, Ls9) => (HS ex true s s8 (([] : List BX) ++ List.flatten Ls9)) ∧ (AllG [OS oE25 h1 k2 m6] Ls9) ∧ laws_markInt64SSS_K10_J1 m6 k7 = some r) ?_ ?_
 ·rintro ⟨m6, k7, s8, Ls9⟩ tm os ⟨hH10, hG11, h⟩
  unfold laws_markInt64SSS_K10_J1 at h
  refine AW.sr ?_
  refine AOps.p rfl (rfl : _ = (AV.int .i64 k7)) ?_
  refine AOps.assignR rfl rfl rfl (rfl : _ = (AV.int .i64 k7)) rfl ?_
  refine AOps.nilR ?_
  cases h
  exact AW.ret ⟨_, _, rfl, ⟨Ls9, rfl, hH10, hG11⟩⟩
 intro KJ12
 refine AW.block ?_
 refine AW.res [(0, h1), (1, (AV.int .i64 k5)), (5, (AV.int .i64 0))] [] ⟨rfl, rfl, rfl, trivial⟩ trivial ?_
 refine AW.loopF (σ := (List (List (List Int))) × Int × Int) (τ := St × (List (List BX))) (fun (m13, k14, i15) (s16, Ls17) => (HS ex true s s16 (([] : List BX) ++ List.flatten Ls17)) ∧ (AllG [OS oE25 h1 k2 m13] Ls17)) (fun (m13, k14, i15) (s16, Ls17) tm os => ⟨updL tm [(0, h1), (1, (AV.int .i64 k14)), (5, (AV.int .i64 i15))], updL os [], s16⟩) ?_ (x := (a4, k5, 0)) (y := (s, Ls0)) h ⟨hH0, hG0⟩
 clear h
 rintro ⟨m13, k14, i15⟩ ⟨s16, Ls17⟩ tm os ⟨hH18, hG19⟩ ee1 h hL1 hR1
 unfold laws_markInt64SSS_K10_S1 at h
 dsimp only at h
 refine AW.seq ?_
 refine AW.sr ?_
 refine AOps.p rfl (rfl : _ = (AV.int .i64 i15)) ?_
 refine AOps.p rfl (rfl : _ = h1) ?_
 refine AOps.lenO (j := 0) hG19 rfl Sub.here rfl rfl rfl rfl rfl ?_
 refine AOps.p rfl (rfl : _ = (AV.bool (decide ((i15 : Int) < (m13.length : Int))))) ?_
 refine AOps.nilR ?_
 rcases oite h with ⟨hc20, h⟩ | ⟨hc20, h⟩
 ·refine AW.condT (congrArg AV.bool hc20) ?_
  refine AW.skip ?_
  refine AW.seq ?_
  refine AW.block ?_
  refine AW.region ?_
  refine AOps.p rfl (rfl : _ = h1) ?_
  refine AOps.p rfl (rfl : _ = (AV.int .i64 i15)) ?_
  obtain ⟨x23, h24, h⟩ := obind h
  refine AOps.idxO (j := 0) hG19 rfl Sub.here h24 rfl rfl rfl rfl rfl rfl rfl rfl rfl ?_
  intro b21 hb22
  refine AOps.ldO (j := 0) (q := 0) hH18 hG19 rfl Sub.here h24 hb22 rfl rfl rfl rfl rfl (lt_b rfl) (le_b rfl) rfl rfl ?_ (fun c B hc => by obtain ⟨rfl, _⟩ := hc; exact ⟨_, rfl⟩)
  intro c25 B26 v27 h28 h29
  obtain ⟨rfl, _⟩ := h28
  cases h29
  refine AOps.p rfl (rfl : _ = (AV.int .i64 k14)) ?_
  obtain ⟨y30, h31, h⟩ := obind h
  have hP32 := HS.pop0 hH18
  have hF0 : AllG ([] : List (List BX → Prop)) [] := AllG.nil
  obtain ⟨Ls33, Lf34, hG35, hF36, hP37⟩ := HS.popS hP32 hG19 hF0 (j := 0) rfl (Sub.down Sub.here h24)
  refine AOps.callF (al := true) (g := 32) (args := [((KT.at k2 (Int.toNat i15)) []), (AV.int .i64 k14)]) rfl rfl rfl (laws_markInt64SS_K10_ok (Sub.one hG19 (j := 0) rfl (Sub.down Sub.here h24)) (HS.enterK hP37) hF36 (HS.enterLo hP37 hl) h31 (HS.wf' hH18)) ?_
  rintro _ _ s38 ⟨Ls40, rfl, hH41, hG42⟩
  have hJ43 := HS.joinK hP37 hH41
  obtain ⟨Ls44, Lf45, hG46, hF47, hP48⟩ := HS.pushS hJ43 hG35 hG42 (j := 0) rfl
  cases hF47
  have hH49 := HS.push0 hP48
  change HS ex true s s38 (([] : List BX) ++ List.flatten Ls44) at hH49
  change AllG [OS oE25 h1 k2 (m13.set (Int.toNat i15) y30.2)] Ls44 at hG46
  refine AOps.assignR rfl rfl rfl (rfl : _ = (AV.int .i64 y30.1)) rfl ?_
  refine AOps.nilR ?_
  refine AW.inBlock ?_
  refine AW.region ?_
  refine AOps.p rfl (rfl : _ = (AV.int .i64 i15)) ?_
  refine AOps.p rfl (rfl : _ = (AV.int .i64 (IntKind.wrap .i64 (i15 + 1)))) ?_
  refine AOps.assignR rfl rfl rfl (rfl : _ = (AV.int .i64 (IntKind.wrap .i64 (i15 + 1)))) rfl ?_
  refine AOps.nilR ?_
  cases h
  exact AW.res [(0, h1), (1, (AV.int .i64 y30.1)), (5, (AV.int .i64 (IntKind.wrap .i64 (i15 + 1))))] [] ⟨rfl, rfl, rfl, trivial⟩ trivial (hL1 _ rfl (s38, Ls44) _ _ ⟨hH49, hG46⟩)
 refine AW.condF (congrArg AV.bool hc20) ?_
 refine AW.exit rfl ?_
 obtain ⟨r50, hm, hx⟩ := omap h
 clear h
 subst hx
 have hx := hR1 _ rfl
 rw [hx] at hm
 have h := hm
 exact AW.res [(1, (AV.int .i64 k14))] [] ⟨rfl, trivial⟩ trivial (KJ12 (m13, k14, s16, Ls17) _ _ ⟨hH18, hG19, h⟩)
theorem laws_markChecker_K10_ok {a1 : Checker} {k14 : Int} {h2 : AV} {k3 : KT} {h5 : AV} {k6 : KT} {h8 : AV} {k9 : KT} {h11 : AV} {k12 : KT} {s : St} (ho4 : h2.one = true) (ho7 : h5.one = true) (ho10 : h8.one = true) (ho13 : h11.one = true) {ex : List Nat} {Ls0 : List (List BX)} (hH0 : HS ex true s s (([] : List BX) ++ List.flatten Ls0)) (hG0 : AllG [OS oE4 h2 k3 a1.Accept, OS oE62 h5 k6 a1.Call, OS oE25 h8 k9 a1.Return, OS oE29 h11 k12 a1.Inner] Ls0) (hl : LoOK ex true s) {r : Int × (List Bool) × (List (List Push)) × (List (List (List Int))) × (List (List Int))} (h : laws_markChecker_K10 a1 k14 = some r) (hs : WF s) : ACall Cf 10 [(AV.agg [(AV.int .i64 a1.Stack), (AV.int .i64 a1.Start), h2, h5, h8, h11]), (AV.int .i64 k14)] s (fun v _ s' => ∃ (Ls' : List (List BX)), v = (AV.int .i64 r.1) ∧ HS ex true s s' (([] : List BX) ++ List.flatten Ls') ∧ AllG [OS oE4 h2 k3 r.2.1, OS oE62 h5 k6 r.2.2.1, OS oE25 h8 k9 r.2.2.2.1, OS oE29 h11 k12 r.2.2.2.2] Ls') true := by
 refine ACall.keepR rfl rfl rfl ?_
 unfold laws_markChecker_K10 at h
 refine AW.sr ?_
 refine AOps.boxR (v := (AV.agg [(AV.int .i64 a1.Stack), (AV.int .i64 a1.Start), h2, h5, h8, h11])) rfl rfl rfl rfl rfl (lay_cons rfl (lay_cons rfl (lay_cons ho4 (lay_cons ho7 (lay_cons ho10 (lay_cons ho13 lay_nil)))))) rfl rfl ?_
 refine AOps.p rfl (rfl : _ = (AV.int .i64 0)) ?_
 refine AOps.nilR ?_
 refine AW.sr ?_
 refine AOps.p rfl (rfl : _ = (AV.eptr [(AV.int .i64 a1.Stack), (AV.int .i64 a1.Start), h2, h5, h8, h11] 2)) ?_
 refine AOps.ldE (v := h2) rfl rfl rfl rfl rfl rfl ?_
 refine AOps.p rfl (rfl : _ = (AV.int .i64 k14)) ?_
 obtain ⟨y15, h16, h⟩ := obind h
 have hP17 := HS.pop0 hH0
 have hF0 : AllG ([] : List (List BX → Prop)) [] := AllG.nil
 obtain ⟨Ls18, Lf19, hG20, hF21, hP22⟩ := HS.popG hP17 hG0 hF0 (j := 0) rfl
 refine AOps.callF (al := true) (g := 29) (args := [h2, (AV.int .i64 k14)]) rfl rfl rfl (laws_markBoolS_K10_ok ho4 (HS.enterK hP22) hF21 (HS.enterLo hP22 hl) h16 (HS.wf' hH0)) ?_
 rintro _ _ s23 ⟨Ls25, rfl, hH26, hG27⟩
 have hJ28 := HS.joinK hP22 hH26
 obtain ⟨Ls29, Lf30, hG31, hF32, hP33⟩ := HS.putG hJ28 hG20 hG27 (j := 0) rfl
 cases hF32
 have hH34 := HS.push0 hP33
 change HS ex true s s23 (([] : List BX) ++ List.flatten Ls29) at hH34
 change AllG [OS oE4 h2 k3 y15.2, OS oE62 h5 k6 a1.Call, OS oE25 h8 k9 a1.Return, OS oE29 h11 k12 a1.Inner] Ls29 at hG31
 refine AOps.assignR rfl rfl rfl (rfl : _ = (AV.int .i64 y15.1)) rfl ?_
 refine AOps.nilR ?_
 refine AW.sr ?_
 refine AOps.p rfl (rfl : _ = (AV.eptr [(AV.int .i64 a1.Stack), (AV.int .i64 a1.Start), h2, h5, h8, h11] 3)) ?_
 refine AOps.ldE (v := h5) rfl rfl rfl rfl rfl rfl ?_
 refine AOps.p rfl (rfl : _ = (AV.int .i64 y15.1)) ?_
 obtain ⟨y35, h36, h⟩ := obind h
 have hP37 := HS.pop0 hH34
 have hF0 : AllG ([] : List (List BX → Prop)) [] := AllG.nil
 obtain ⟨Ls38, Lf39, hG40, hF41, hP42⟩ := HS.popG hP37 hG31 hF0 (j := 1) rfl
 refine AOps.callF (al := true) (g := 30) (args := [h5, (AV.int .i64 y15.1)]) rfl rfl rfl (laws_markPushSS_K10_ok ho7 (HS.enterK hP42) hF41 (HS.enterLo hP42 hl) h36 (HS.wf' hH34)) ?_
 rintro _ _ s43 ⟨Ls45, rfl, hH46, hG47⟩
 have hJ48 := HS.joinK hP42 hH46
 obtain ⟨Ls49, Lf50, hG51, hF52, hP53⟩ := HS.putG hJ48 hG40 hG47 (j := 1) rfl
 cases hF52
 have hH54 := HS.push0 hP53
 change HS ex true s s43 (([] : List BX) ++ List.flatten Ls49) at hH54
 change AllG [OS oE4 h2 k3 y15.2, OS oE62 h5 k6 y35.2, OS oE25 h8 k9 a1.Return, OS oE29 h11 k12 a1.Inner] Ls49 at hG51
 refine AOps.assignR rfl rfl rfl (rfl : _ = (AV.int .i64 y35.1)) rfl ?_
 refine AOps.nilR ?_
 refine AW.sr ?_
 refine AOps.p rfl (rfl : _ = (AV.eptr [(AV.int .i64 a1.Stack), (AV.int .i64 a1.Start), h2, h5, h8, h11] 4)) ?_
 refine AOps.ldE (v := h8) rfl rfl rfl rfl rfl rfl ?_
 refine AOps.p rfl (rfl : _ = (AV.int .i64 y35.1)) ?_
 obtain ⟨y55, h56, h⟩ := obind h
 have hP57 := HS.pop0 hH54
 have hF0 : AllG ([] : List (List BX → Prop)) [] := AllG.nil
 obtain ⟨Ls58, Lf59, hG60, hF61, hP62⟩ := HS.popG hP57 hG51 hF0 (j := 2) rfl
 refine AOps.callF (al := true) (g := 31) (args := [h8, (AV.int .i64 y35.1)]) rfl rfl rfl (laws_markInt64SSS_K10_ok ho10 (HS.enterK hP62) hF61 (HS.enterLo hP62 hl) h56 (HS.wf' hH54)) ?_
 rintro _ _ s63 ⟨Ls65, rfl, hH66, hG67⟩
 have hJ68 := HS.joinK hP62 hH66
 obtain ⟨Ls69, Lf70, hG71, hF72, hP73⟩ := HS.putG hJ68 hG60 hG67 (j := 2) rfl
 cases hF72
 have hH74 := HS.push0 hP73
 change HS ex true s s63 (([] : List BX) ++ List.flatten Ls69) at hH74
 change AllG [OS oE4 h2 k3 y15.2, OS oE62 h5 k6 y35.2, OS oE25 h8 k9 y55.2, OS oE29 h11 k12 a1.Inner] Ls69 at hG71
 refine AOps.assignR rfl rfl rfl (rfl : _ = (AV.int .i64 y55.1)) rfl ?_
 refine AOps.nilR ?_
 refine AW.sr ?_
 refine AOps.p rfl (rfl : _ = (AV.eptr [(AV.int .i64 a1.Stack), (AV.int .i64 a1.Start), h2, h5, h8, h11] 5)) ?_
 refine AOps.ldE (v := h11) rfl rfl rfl rfl rfl rfl ?_
 refine AOps.p rfl (rfl : _ = (AV.int .i64 y55.1)) ?_
 obtain ⟨y75, h76, h⟩ := obind h
 have hP77 := HS.pop0 hH74
 have hF0 : AllG ([] : List (List BX → Prop)) [] := AllG.nil
 obtain ⟨Ls78, Lf79, hG80, hF81, hP82⟩ := HS.popG hP77 hG71 hF0 (j := 3) rfl
 refine AOps.callF (al := true) (g := 32) (args := [h11, (AV.int .i64 y55.1)]) rfl rfl rfl (laws_markInt64SS_K10_ok ho13 (HS.enterK hP82) hF81 (HS.enterLo hP82 hl) h76 (HS.wf' hH74)) ?_
 rintro _ _ s83 ⟨Ls85, rfl, hH86, hG87⟩
 have hJ88 := HS.joinK hP82 hH86
 obtain ⟨Ls89, Lf90, hG91, hF92, hP93⟩ := HS.putG hJ88 hG80 hG87 (j := 3) rfl
 cases hF92
 have hH94 := HS.push0 hP93
 change HS ex true s s83 (([] : List BX) ++ List.flatten Ls89) at hH94
 change AllG [OS oE4 h2 k3 y15.2, OS oE62 h5 k6 y35.2, OS oE25 h8 k9 y55.2, OS oE29 h11 k12 y75.2] Ls89 at hG91
 refine AOps.assignR rfl rfl rfl (rfl : _ = (AV.int .i64 y75.1)) rfl ?_
 refine AOps.nilR ?_
 refine AW.sr ?_
 refine AOps.p rfl (rfl : _ = (AV.int .i64 y75.1)) ?_
 refine AOps.assignR rfl rfl rfl (rfl : _ = (AV.int .i64 y75.1)) rfl ?_
 refine AOps.nilR ?_
 cases h
 exact AW.ret ⟨_, _, rfl, ⟨Ls89, rfl, hH94, hG91⟩⟩
theorem laws_heldInt64S_okN {a1 : List Int} {k6 : Int} {z2 : Nat} {f3 : Bool} {e4 : List AV} {s : St} (h5 : LR (rI .i64) 1 a1 z2 e4) {r : Int} (h : laws_heldInt64S a1 k6 = some r) (hs : WF s) : ACallN Cf 12 [(AV.sl z2 f3 e4), (AV.int .i64 k6)] s fun v _ s' => (rI .i64) r v ∧ s' = s := by
 refine ACallN.pure rfl rfl rfl .I ?_
 have hWF := hs.lo'
 unfold laws_heldInt64S at h
 refine AW.sr ?_
 refine AOps.p rfl (rfl : _ = (AV.int .i64 0)) ?_
 refine AOps.nilR ?_
 refine AW.seq ?_
 refine AW.sr ?_
 refine AOps.p rfl (rfl : _ = (AV.int .i64 0)) ?_
 refine AOps.nilR ?_
 refine AW.meet (σ := Int) (fun k7 tm os => ⟨updL tm [(1, (AV.int .i64 k7))], updL os [], { s with lo := s.n }⟩) (fun k7 => laws_heldInt64S_J1 k7 = some r) ?_ ?_
 ·rintro k7 tm os h
  unfold laws_heldInt64S_J1 at h
  refine AW.sr ?_
  refine AOps.p rfl (rfl : _ = (AV.int .i64 k7)) ?_
  refine AOps.assignR rfl rfl rfl (rfl : _ = (AV.int .i64 k7)) rfl ?_
  refine AOps.nilR ?_
  cases h
  exact AW.ret ⟨rfl, _, _, rfl, rfl⟩
 intro KJ8
 refine AW.block ?_
 refine AW.res [(0, (AV.sl z2 f3 e4)), (1, (AV.int .i64 k6)), (5, (AV.int .i64 0))] [] ⟨rfl, rfl, rfl, trivial⟩ trivial ?_
 refine AW.loopF (σ := Int × Int) (τ := Unit) (fun (k9, i10) _ => True) (fun (k9, i10) _ tm os => ⟨updL tm [(0, (AV.sl z2 f3 e4)), (1, (AV.int .i64 k9)), (5, (AV.int .i64 i10))], updL os [], { s with lo := s.n }⟩) ?_ (x := (k6, 0)) (y := ()) h trivial
 clear h
 rintro ⟨k9, i10⟩ _ tm os - ee1 h hL1 hR1
 unfold laws_heldInt64S_S1 at h
 dsimp only at h
 refine AW.seq ?_
 refine AW.sr ?_
 refine AOps.p rfl (rfl : _ = (AV.int .i64 i10)) ?_
 refine AOps.p rfl (rfl : _ = (AV.sl z2 f3 e4)) ?_
 refine AOps.p rfl (len_eq h5) ?_
 refine AOps.p rfl (rfl : _ = (AV.bool (decide ((i10 : Int) < (a1.length : Int))))) ?_
 refine AOps.nilR ?_
 rcases oite h with ⟨hc11, h⟩ | ⟨hc11, h⟩
 ·refine AW.condT (congrArg AV.bool hc11) ?_
  refine AW.skip ?_
  refine AW.seq ?_
  refine AW.block ?_
  refine AW.seq ?_
  refine AW.sr ?_
  refine AOps.p rfl (rfl : _ = (AV.sl z2 f3 e4)) ?_
  refine AOps.p rfl (rfl : _ = (AV.int .i64 i10)) ?_
  obtain ⟨x12, h13, h⟩ := obind h
  obtain ⟨v16, h14, h15⟩ := idx_sl h5 h13
  cases h14
  refine AOps.pureR rfl rfl rfl h15 rfl (rfl : _ = (AV.eptr [(AV.int .i64 x12)] 0)) ?_
  refine AOps.ldE (v := (AV.int .i64 x12)) rfl rfl rfl rfl rfl rfl ?_
  refine AOps.p rfl (rfl : _ = (AV.int .i64 k9)) ?_
  refine AOps.p rfl (rfl : _ = (AV.bool (x12 != k9))) ?_
  refine AOps.nilR ?_
  rcases oite h with ⟨hc17, h⟩ | ⟨hc17, h⟩
  ·refine AW.condT (congrArg AV.bool hc17) ?_
   refine AW.sr ?_
   refine AOps.p rfl (rfl : _ = (AV.int .i64 (-1))) ?_
   refine AOps.nilR ?_
   cases h
   have hr := hR1 _ rfl
   subst hr
   exact AW.ret ⟨rfl, _, _, rfl, rfl⟩
  refine AW.condF (congrArg AV.bool hc17) ?_
  refine AW.skip ?_
  refine AW.region ?_
  refine AOps.p rfl (rfl : _ = (AV.int .i64 k9)) ?_
  refine AOps.p rfl (rfl : _ = (AV.int .i64 (IntKind.wrap .i64 (k9 + 1)))) ?_
  refine AOps.assignR rfl rfl rfl (rfl : _ = (AV.int .i64 (IntKind.wrap .i64 (k9 + 1)))) rfl ?_
  refine AOps.nilR ?_
  refine AW.inBlock ?_
  refine AW.region ?_
  refine AOps.p rfl (rfl : _ = (AV.int .i64 i10)) ?_
  refine AOps.p rfl (rfl : _ = (AV.int .i64 (IntKind.wrap .i64 (i10 + 1)))) ?_
  refine AOps.assignR rfl rfl rfl (rfl : _ = (AV.int .i64 (IntKind.wrap .i64 (i10 + 1)))) rfl ?_
  refine AOps.nilR ?_
  cases h
  exact AW.res [(0, (AV.sl z2 f3 e4)), (1, (AV.int .i64 (IntKind.wrap .i64 (k9 + 1)))), (5, (AV.int .i64 (IntKind.wrap .i64 (i10 + 1))))] [] ⟨rfl, rfl, rfl, trivial⟩ trivial (hL1 _ rfl () _ _ trivial)
 refine AW.condF (congrArg AV.bool hc11) ?_
 refine AW.exit rfl ?_
 obtain ⟨r18, hm, hx⟩ := omap h
 clear h
 subst hx
 have hx := hR1 _ rfl
 rw [hx] at hm
 have h := hm
 exact AW.res [(1, (AV.int .i64 k9))] [] ⟨rfl, trivial⟩ trivial (KJ8 (k9) _ _ h)
theorem impl_Checker_lost_ok {c1 : Checker} {z2 : Nat} {f3 : Bool} {e4 : List AV} {z6 : Nat} {f7 : Bool} {e8 : List AV} {z10 : Nat} {f11 : Bool} {e12 : List AV} {z14 : Nat} {f15 : Bool} {e16 : List AV} {s : St} (h5 : LR rB 1 c1.Accept z2 e4) (h9 : LR (rL rPush 2) 1 c1.Call z6 e8) (h13 : LR (rL (rL (rI .i64) 1) 1) 1 c1.Return z10 e12) (h17 : LR (rL (rI .i64) 1) 1 c1.Inner z14 e16) {r : (List Int)} (h : impl_Checker_lost c1 = some r) (hs : WF s) : ACall Cf 24 [(AV.agg [(AV.int .i64 c1.Stack), (AV.int .i64 c1.Start), (AV.sl z2 f3 e4), (AV.sl z6 f7 e8), (AV.sl z10 f11 e12), (AV.sl z14 f15 e16)])] s fun v _ s' => (rL (rI .i64) 1) r v ∧ s' = s := by
 refine ACall.boxes rfl rfl rfl ?_
 have hH0 := HS.init hs
 unfold impl_Checker_lost at h
 refine AW.sr ?_
 refine AOps.makeR rfl rfl rfl rfl rfl rfl (rfl : _ = (AV.eptr [(AV.int .i64 c1.Stack), (AV.int .i64 c1.Start), (AV.sl z2 f3 e4), (AV.sl z6 f7 e8), (AV.sl z10 f11 e12), (AV.sl z14 f15 e16)] 0)) ?_
 refine AOps.p rfl (rfl : _ = (AV.sl 0 true [])) ?_
 refine AOps.nilR ?_
 refine AW.sr ?_
 refine AOps.makeR rfl rfl rfl rfl rfl rfl (rfl : _ = (AV.sl 1 true [])) ?_
 refine AOps.assignR rfl rfl rfl (rfl : _ = (AV.sl 1 true [])) rfl ?_
 refine AOps.nilR ?_
 refine AW.seq ?_
 refine AW.sr ?_
 refine AOps.p rfl (rfl : _ = (AV.eptr [(AV.int .i64 c1.Stack), (AV.int .i64 c1.Start), (AV.sl z2 f3 e4), (AV.sl z6 f7 e8), (AV.sl z10 f11 e12), (AV.sl z14 f15 e16)] 2)) ?_
 refine AOps.ldE (v := (AV.sl z2 f3 e4)) rfl rfl rfl rfl rfl rfl ?_
 refine AOps.p rfl (len_eq h5) ?_
 refine AOps.p rfl (rfl : _ = (AV.int .i64 0)) ?_
 refine AOps.nilR ?_
 refine AW.meet (σ := (List Int) × Nat × Bool × (List AV) × Bool × St) (fun (out18, z19, f20, e21, o23, s25) tm os => ⟨updL tm [(3, (AV.sl z19 f20 e21))], updL os [(3, o23)], s25⟩) (fun (out18, z19, f20, e21, o23, s25) => (LR (rI .i64) 1 out18 z19 e21) ∧ (f20 = true ∨ o23 = true) ∧ (HS [] false s s25 []) ∧ impl_Checker_lost_J1 out18 = some r) ?_ ?_
 ·rintro ⟨out18, z19, f20, e21, o23, s25⟩ tm os ⟨h22, h24, hH26, h⟩
  unfold impl_Checker_lost_J1 at h
  refine AW.sr ?_
  refine AOps.p rfl (rfl : _ = (AV.sl z19 f20 e21)) ?_
  refine AOps.assignR rfl rfl rfl (rfl : _ = (AV.sl z19 f20 e21)) rfl ?_
  refine AOps.nilR ?_
  cases h
  exact AW.ret ⟨⟨_, hH26⟩, _, _, rfl, (Fin.of (p := (rL (rI .i64) 1) _) (.L fun _ => .I) (⟨_, _, _, rfl, h22⟩)).2⟩
 intro KJ27
 refine AW.block ?_
 refine AW.res [(1, (AV.eptr [(AV.int .i64 c1.Stack), (AV.int .i64 c1.Start), (AV.sl z2 f3 e4), (AV.sl z6 f7 e8), (AV.sl z10 f11 e12), (AV.sl z14 f15 e16)] 0)), (3, (AV.sl 1 true [])), (9, (AV.int .i64 (c1.Accept.length : Int))), (10, (AV.int .i64 0))] [(3, false)] ⟨rfl, rfl, rfl, rfl, trivial⟩ ⟨rfl, trivial⟩ ?_
 refine AW.loopF (σ := (List Int) × Int) (τ := Nat × Bool × (List AV) × Bool × St) (fun (out28, t35) (z29, f30, e31, o33, s36) => (LR (rI .i64) 1 out28 z29 e31) ∧ (f30 = true ∨ o33 = true) ∧ (HS [] false s s36 [])) (fun (out28, t35) (z29, f30, e31, o33, s36) tm os => ⟨updL tm [(1, (AV.eptr [(AV.int .i64 c1.Stack), (AV.int .i64 c1.Start), (AV.sl z2 f3 e4), (AV.sl z6 f7 e8), (AV.sl z10 f11 e12), (AV.sl z14 f15 e16)] 0)), (3, (AV.sl z29 f30 e31)), (9, (AV.int .i64 (c1.Accept.length : Int))), (10, (AV.int .i64 t35))], updL os [(3, o33)], s36⟩) ?_ (x := (([] : List Int), 0)) (y := (1, true, [], false, { s with lo := s.n })) h ⟨⟨.inl rfl, .nil⟩, (Or.inl rfl), (HS.sel hH0 [] (by decide))⟩
 clear h
 rintro ⟨out28, t35⟩ ⟨z29, f30, e31, o33, s36⟩ tm os ⟨h32, h34, hH37⟩ ee1 h hL1 hR1
 unfold impl_Checker_lost_S1 at h
 dsimp only at h
 refine AW.sr ?_
 refine AOps.p rfl (rfl : _ = (AV.bool (decide ((t35 : Int) < (c1.Accept.length : Int))))) ?_
 refine AOps.nilR ?_
 refine AW.seq ?_
 rcases oite h with ⟨hc38, h⟩ | ⟨hc38, h⟩
 ·refine AW.condT (congrArg AV.bool hc38) ?_
  refine AW.skip ?_
  refine AW.seq ?_
  refine AW.block ?_
  refine AW.sr ?_
  refine AOps.p rfl (rfl : _ = (AV.int .i64 t35)) ?_
  refine AOps.assignR rfl rfl rfl (rfl : _ = (AV.int .i64 t35)) rfl ?_
  refine AOps.nilR ?_
  refine AW.sr ?_
  refine AOps.ldE (v := (AV.agg [(AV.int .i64 c1.Stack), (AV.int .i64 c1.Start), (AV.sl z2 f3 e4), (AV.sl z6 f7 e8), (AV.sl z10 f11 e12), (AV.sl z14 f15 e16)])) rfl rfl rfl rfl rfl rfl ?_
  refine AOps.alloc1 hH37 rfl rfl rfl rfl rfl rfl ?_
  intro b39 s40 hH41
  change HS [] false s s40 [⟨some b39, [(AV.int .i64 0), (AV.int .i64 0), (AV.sl 0 true []), (AV.sl 0 true []), (AV.sl 0 true []), (AV.sl 0 true [])], (fun _ => false)⟩] at hH41
  refine AOps.stB (i := 0) (v := (AV.agg [(AV.int .i64 c1.Stack), (AV.int .i64 c1.Start), (AV.sl z2 f3 e4), (AV.sl z6 f7 e8), (AV.sl z10 f11 e12), (AV.sl z14 f15 e16)])) hH41 rfl rfl rfl rfl rfl rfl rfl rfl rfl (lt_b rfl) (le_b rfl) rfl ?_
  intro w42 s43 h44 h45 hH46
  change HS [] false s s43 [⟨some b39, [(AV.int .i64 c1.Stack), (AV.int .i64 c1.Start), (AV.sl z2 f3 e4), (AV.sl z6 f7 e8), (AV.sl z10 f11 e12), (AV.sl z14 f15 e16)], w42⟩] at hH46
  refine AOps.nilR ?_
  refine AW.sr ?_
  refine AOps.p rfl (rfl : _ = (AV.int .i64 t35)) ?_
  refine AOps.p rfl (rfl : _ = (AV.ptr b39 1)) ?_
  refine AOps.stB (i := 0) (v := (AV.int .i64 t35)) hH46 rfl rfl rfl rfl rfl rfl rfl rfl rfl (lt_b rfl) (le_b rfl) rfl ?_
  intro w47 s48 h49 h50 hH51
  change HS [] false s s48 [⟨some b39, [(AV.int .i64 c1.Stack), (AV.int .i64 t35), (AV.sl z2 f3 e4), (AV.sl z6 f7 e8), (AV.sl z10 f11 e12), (AV.sl z14 f15 e16)], w47⟩] at hH51
  refine AOps.nilR ?_
  refine AW.sr ?_
  refine AOps.ldB (i := 0) (v := (AV.agg [(AV.int .i64 c1.Stack), (AV.int .i64 t35), (AV.sl z2 f3 e4), (AV.sl z6 f7 e8), (AV.sl z10 f11 e12), (AV.sl z14 f15 e16)])) hH51 rfl rfl rfl rfl rfl rfl rfl rfl rfl ?_
  obtain ⟨y52, h53, h⟩ := obind h
  refine AOps.callP (g := 51) (args := [(AV.agg [(AV.int .i64 c1.Stack), (AV.int .i64 t35), (AV.sl z2 f3 e4), (AV.sl z6 f7 e8), (AV.sl z10 f11 e12), (AV.sl z14 f15 e16)])]) (p := (rL (rI .i64) 1) y52) rfl rfl rfl (impl_Checker_used_ok (p1 := ⟨c1.Stack, t35, c1.Accept, c1.Call, c1.Return, c1.Inner⟩) h5 h9 h13 h17 h53 (HS.wf' hH51)) ?_
  intro _ o59 h54
  obtain ⟨z55, f56, e57, rfl, h58⟩ := h54
  refine AOps.p rfl (rfl : _ = (AV.fn 52 [(AV.eptr [(AV.int .i64 c1.Stack), (AV.int .i64 c1.Start), (AV.sl z2 f3 e4), (AV.sl z6 f7 e8), (AV.sl z10 f11 e12), (AV.sl z14 f15 e16)] 0)])) ?_
  obtain ⟨y60, h61, h⟩ := obind h
  refine AOps.callP (g := 48) (args := [(AV.sl z55 f56 e57), (AV.fn 52 [(AV.eptr [(AV.int .i64 c1.Stack), (AV.int .i64 c1.Start), (AV.sl z2 f3 e4), (AV.sl z6 f7 e8), (AV.sl z10 f11 e12), (AV.sl z14 f15 e16)] 0)])]) (p := (rB) y60) rfl rfl rfl (slices_ContainsFunc_sint64_int64_ok h58 (by intro x vs y hc hx s hs; obtain ⟨_, _, rfl, hv0, hd0⟩ := Cs_cons hc; cases hv0; cases Cs_nil hd0; exact impl_Checker_lost_1_ok h5 h9 h13 h17 hx hs) h61 (HS.wf' hH51)) ?_
  intro _ o63 h62
  cases h62
  refine AOps.p rfl (rfl : _ = (AV.bool (!y60))) ?_
  refine AOps.nilR ?_
  refine AW.meet (σ := (List Int) × Nat × Bool × (List AV) × Bool × St) (fun (out64, z65, f66, e67, o69, s71) tm os => ⟨updL tm [(1, (AV.eptr [(AV.int .i64 c1.Stack), (AV.int .i64 c1.Start), (AV.sl z2 f3 e4), (AV.sl z6 f7 e8), (AV.sl z10 f11 e12), (AV.sl z14 f15 e16)] 0)), (3, (AV.sl z65 f66 e67)), (9, (AV.int .i64 (c1.Accept.length : Int))), (10, (AV.int .i64 t35))], updL os [(3, o69)], s71⟩) (fun (out64, z65, f66, e67, o69, s71) => (LR (rI .i64) 1 out64 z65 e67) ∧ (f66 = true ∨ o69 = true) ∧ (HS [] false s s71 []) ∧ impl_Checker_lost_J2 t35 out64 = some ee1) ?_ ?_
  ·rintro ⟨out64, z65, f66, e67, o69, s71⟩ tm os ⟨h68, h70, hH72, h⟩
   unfold impl_Checker_lost_J2 at h
   refine AW.inBlock ?_
   refine AW.region ?_
   refine AOps.p rfl (rfl : _ = (AV.int .i64 (IntKind.wrap .i64 (t35 + 1)))) ?_
   refine AOps.p rfl (rfl : _ = (AV.int .i64 (IntKind.wrap .i64 (t35 + 1)))) ?_
   refine AOps.nilR ?_
   cases h
   exact AW.res [(1, (AV.eptr [(AV.int .i64 c1.Stack), (AV.int .i64 c1.Start), (AV.sl z2 f3 e4), (AV.sl z6 f7 e8), (AV.sl z10 f11 e12), (AV.sl z14 f15 e16)] 0)), (3, (AV.sl z65 f66 e67)), (9, (AV.int .i64 (c1.Accept.length : Int))), (10, (AV.int .i64 (IntKind.wrap .i64 (t35 + 1))))] [(3, o69)] ⟨rfl, rfl, rfl, rfl, trivial⟩ ⟨rfl, trivial⟩ (hL1 _ rfl (z65, f66, e67, o69, s71) _ _ ⟨h68, h70, (HS.sel hH72 [] (by decide))⟩)
  intro KJ73
  rcases oite h with ⟨hc74, h⟩ | ⟨hc74, h⟩
  ·refine AW.condT (congrArg AV.bool hc74) ?_
   refine AW.region ?_
   refine AOps.moveR rfl rfl rfl rfl (rfl : _ = (AV.sl z29 f30 e31)) rfl ?_
   refine AOps.p rfl (rfl : _ = (AV.int .i64 t35)) ?_
   refine AOps.makeR rfl rfl rfl rfl rfl rfl (rfl : _ = (AV.sl 1 true [(AV.int .i64 t35)])) ?_
   obtain ⟨l75, h76, h⟩ := obind h
   obtain ⟨h77, h78⟩ := app_LR h32 (LR.lit (r := rI .i64) (sz := 1) (.cons rfl .nil)) h76
   refine AOps.appL (z := z29) (f := f30) (e := e31) (z' := 1) (f' := true) (e' := [(AV.int .i64 t35)]) rfl rfl rfl rfl rfl rfl rfl (appSrc_sl (LR.z (LR.lit (r := rI .i64) (sz := 1) (.cons rfl .nil))) rfl) (LR.z h32) ⟨by decide, by decide, rfl, rfl⟩ rfl rfl h78 (own_tmp h34 rfl rfl) ?_
   refine AOps.assignR rfl rfl rfl (rfl : _ = (AV.sl 1 false (e31 ++ [(AV.int .i64 t35)]))) rfl ?_
   refine AOps.nilR ?_
   exact AW.res [(1, (AV.eptr [(AV.int .i64 c1.Stack), (AV.int .i64 c1.Start), (AV.sl z2 f3 e4), (AV.sl z6 f7 e8), (AV.sl z10 f11 e12), (AV.sl z14 f15 e16)] 0)), (3, (AV.sl 1 false (e31 ++ [(AV.int .i64 t35)]))), (9, (AV.int .i64 (c1.Accept.length : Int))), (10, (AV.int .i64 t35))] [(3, true)] ⟨rfl, rfl, rfl, rfl, trivial⟩ ⟨rfl, trivial⟩ (KJ73 (l75, 1, false, (e31 ++ [(AV.int .i64 t35)]), true, s48) _ _ ⟨h77, (Or.inr rfl), (HS.sel hH51 [] (by decide)), h⟩)
  refine AW.condF (congrArg AV.bool hc74) ?_
  refine AW.skip ?_
  exact AW.res [(1, (AV.eptr [(AV.int .i64 c1.Stack), (AV.int .i64 c1.Start), (AV.sl z2 f3 e4), (AV.sl z6 f7 e8), (AV.sl z10 f11 e12), (AV.sl z14 f15 e16)] 0)), (3, (AV.sl z29 f30 e31)), (9, (AV.int .i64 (c1.Accept.length : Int))), (10, (AV.int .i64 t35))] [(3, o33)] ⟨rfl, rfl, rfl, rfl, trivial⟩ ⟨rfl, trivial⟩ (KJ73 (out28, z29, f30, e31, o33, s48) _ _ ⟨h32, h34, (HS.sel hH51 [] (by decide)), h⟩)
 refine AW.condF (congrArg AV.bool hc38) ?_
 refine AW.exit rfl ?_
 obtain ⟨r79, hm, hx⟩ := omap h
 clear h
 subst hx
 have hx := hR1 _ rfl
 rw [hx] at hm
 have h := hm
 exact AW.res [(3, (AV.sl z29 f30 e31))] [(3, o33)] ⟨rfl, trivial⟩ ⟨rfl, trivial⟩ (KJ27 (out28, z29, f30, e31, o33, s36) _ _ ⟨h32, h34, (HS.sel hH37 [] (by decide)), h⟩)
theorem impl_LostStates_ok {c1 : Checker} {z2 : Nat} {f3 : Bool} {e4 : List AV} {z6 : Nat} {f7 : Bool} {e8 : List AV} {z10 : Nat} {f11 : Bool} {e12 : List AV} {z14 : Nat} {f15 : Bool} {e16 : List AV} {s : St} (h5 : LR rB 1 c1.Accept z2 e4) (h9 : LR (rL rPush 2) 1 c1.Call z6 e8) (h13 : LR (rL (rL (rI .i64) 1) 1) 1 c1.Return z10 e12) (h17 : LR (rL (rI .i64) 1) 1 c1.Inner z14 e16) {r : (List Int) × Int} (h : impl_LostStates c1 = some r) (hs : WF s) : ACall Cf 7 [(AV.agg [(AV.int .i64 c1.Stack), (AV.int .i64 c1.Start), (AV.sl z2 f3 e4), (AV.sl z6 f7 e8), (AV.sl z10 f11 e12), (AV.sl z14 f15 e16)])] s fun v _ s' => (fun x => rT [(rL (rI .i64) 1) x.1, (rI .i64) x.2]) r v ∧ s' = s := by
 refine ACall.pure rfl rfl rfl (.T (.cons (.L fun _ => .I) (.cons .I .nil))) ?_
 have hWF := hs.lo'
 unfold impl_LostStates at h
 refine AW.sr ?_
 refine AOps.makeR rfl rfl rfl rfl rfl rfl (rfl : _ = (AV.eptr [(AV.int .i64 c1.Stack), (AV.int .i64 c1.Start), (AV.sl z2 f3 e4), (AV.sl z6 f7 e8), (AV.sl z10 f11 e12), (AV.sl z14 f15 e16)] 0)) ?_
 refine AOps.p rfl (rfl : _ = (AV.sl 0 true [])) ?_
 refine AOps.p rfl (rfl : _ = (AV.int .i64 0)) ?_
 refine AOps.nilR ?_
 refine AW.seq ?_
 refine AW.sr ?_
 refine AOps.ldE (v := (AV.agg [(AV.int .i64 c1.Stack), (AV.int .i64 c1.Start), (AV.sl z2 f3 e4), (AV.sl z6 f7 e8), (AV.sl z10 f11 e12), (AV.sl z14 f15 e16)])) rfl rfl rfl rfl rfl rfl ?_
 obtain ⟨y18, h19, h⟩ := obind h
 refine AOps.callP (g := 23) (args := [(AV.agg [(AV.int .i64 c1.Stack), (AV.int .i64 c1.Start), (AV.sl z2 f3 e4), (AV.sl z6 f7 e8), (AV.sl z10 f11 e12), (AV.sl z14 f15 e16)])]) (p := (rB) y18) rfl rfl rfl (impl_ValidChecker_ok h5 h9 h13 h17 h19 hWF) ?_
 intro _ o21 h20
 cases h20
 refine AOps.p rfl (rfl : _ = (AV.bool (!y18))) ?_
 refine AOps.nilR ?_
 rcases oite h with ⟨hc22, h⟩ | ⟨hc22, h⟩
 ·refine AW.condT (congrArg AV.bool hc22) ?_
  refine AW.sr ?_
  refine AOps.p rfl (rfl : _ = (AV.sl 0 true [])) ?_
  refine AOps.p rfl (rfl : _ = (AV.int .i64 1)) ?_
  refine AOps.nilR ?_
  cases h
  exact AW.ret ⟨rfl, _, _, rfl, ⟨_, rfl, (.cons ⟨_, _, _, rfl, ⟨.inr ⟨rfl, rfl⟩, .nil⟩⟩ (.cons rfl .nil))⟩⟩
 refine AW.condF (congrArg AV.bool hc22) ?_
 refine AW.skip ?_
 refine AW.sr ?_
 refine AOps.ldE (v := (AV.agg [(AV.int .i64 c1.Stack), (AV.int .i64 c1.Start), (AV.sl z2 f3 e4), (AV.sl z6 f7 e8), (AV.sl z10 f11 e12), (AV.sl z14 f15 e16)])) rfl rfl rfl rfl rfl rfl ?_
 obtain ⟨y23, h24, h⟩ := obind h
 refine AOps.callP (g := 24) (args := [(AV.agg [(AV.int .i64 c1.Stack), (AV.int .i64 c1.Start), (AV.sl z2 f3 e4), (AV.sl z6 f7 e8), (AV.sl z10 f11 e12), (AV.sl z14 f15 e16)])]) (p := (rL (rI .i64) 1) y23) rfl rfl rfl (impl_Checker_lost_ok h5 h9 h13 h17 h24 hWF) ?_
 intro _ o30 h25
 obtain ⟨z26, f27, e28, rfl, h29⟩ := h25
 refine AOps.assignR rfl rfl rfl (rfl : _ = (AV.sl z26 f27 e28)) rfl ?_
 refine AOps.p rfl (rfl : _ = (AV.int .i64 0)) ?_
 refine AOps.nilR ?_
 cases h
 exact AW.ret ⟨rfl, _, _, rfl, ⟨_, rfl, (.cons ⟨_, _, _, rfl, h29⟩ (.cons rfl .nil))⟩⟩
theorem laws_FnExactLostStates_ok {p1 : Checker} {z2 : Nat} {f3 : Bool} {e4 : List AV} {z6 : Nat} {f7 : Bool} {e8 : List AV} {z10 : Nat} {f11 : Bool} {e12 : List AV} {z14 : Nat} {f15 : Bool} {e16 : List AV} {s : St} (h5 : LR rB 1 p1.Accept z2 e4) (h9 : LR (rL rPush 2) 1 p1.Call z6 e8) (h13 : LR (rL (rL (rI .i64) 1) 1) 1 p1.Return z10 e12) (h17 : LR (rL (rI .i64) 1) 1 p1.Inner z14 e16) {r : Bool} (h : laws_FnExactLostStates p1 = some r) (hs : WF s) (hz : s.n = 0 ∧ s.ro = 0) : ACall Cf 3 [(AV.agg [(AV.int .i64 p1.Stack), (AV.int .i64 p1.Start), (AV.sl z2 f3 e4), (AV.sl z6 f7 e8), (AV.sl z10 f11 e12), (AV.sl z14 f15 e16)])] s fun v _ s' => (rB) r v ∧ s' = s := by
 refine ACall.boxes rfl rfl rfl ?_
 have hH0 := HS.g0 (HS.init hs)
 have hG0 := AllG.nil
 have hl : LoOK [] false s := LoOK.nil
 unfold laws_FnExactLostStates at h
 refine AW.sr ?_
 refine AOps.makeR rfl rfl rfl rfl rfl rfl (rfl : _ = (AV.eptr [(AV.int .i64 p1.Stack), (AV.int .i64 p1.Start), (AV.sl z2 f3 e4), (AV.sl z6 f7 e8), (AV.sl z10 f11 e12), (AV.sl z14 f15 e16)] 0)) ?_
 refine AOps.p rfl (rfl : _ = (AV.bool false)) ?_
 refine AOps.nilR ?_
 refine AW.sr ?_
 refine AOps.p rfl (rfl : _ = (AV.int .i64 1048576)) ?_
 refine AOps.nilR ?_
 refine AW.sr ?_
 refine AOps.ldE (v := (AV.agg [(AV.int .i64 p1.Stack), (AV.int .i64 p1.Start), (AV.sl z2 f3 e4), (AV.sl z6 f7 e8), (AV.sl z10 f11 e12), (AV.sl z14 f15 e16)])) rfl rfl rfl rfl rfl rfl ?_
 refine AOps.p rfl (rfl : _ = (AV.int .i64 1048576)) ?_
 obtain ⟨y18, h19, h⟩ := obind h
 refine AOps.callP (g := 4) (args := [(AV.agg [(AV.int .i64 p1.Stack), (AV.int .i64 p1.Start), (AV.sl z2 f3 e4), (AV.sl z6 f7 e8), (AV.sl z10 f11 e12), (AV.sl z14 f15 e16)]), (AV.int .i64 1048576)]) (p := (rI .i64) y18) rfl rfl rfl (laws_szChecker_ok h5 h9 h13 h17 h19 (HS.wf' hH0)) ?_
 intro _ o21 h20
 cases h20
 refine AOps.assignR rfl rfl rfl (rfl : _ = (AV.int .i64 y18)) rfl ?_
 refine AOps.nilR ?_
 refine AW.seq ?_
 refine AW.sr ?_
 refine AOps.p rfl (rfl : _ = (AV.int .i64 y18)) ?_
 refine AOps.p rfl (rfl : _ = (AV.bool (decide ((y18 : Int) < 0)))) ?_
 refine AOps.nilR ?_
 rcases oite h with ⟨hc22, h⟩ | ⟨hc22, h⟩
 ·refine AW.condT (congrArg AV.bool hc22) ?_
  refine AW.sr ?_
  refine AOps.p rfl (rfl : _ = (AV.bool true)) ?_
  refine AOps.nilR ?_
  cases h
  exact AW.ret ⟨⟨_, hH0⟩, _, _, rfl, (Fin.of (p := (rB) true) .B rfl).2⟩
 refine AW.condF (congrArg AV.bool hc22) ?_
 refine AW.skip ?_
 refine AW.sr ?_
 refine AOps.ldE (v := (AV.agg [(AV.int .i64 p1.Stack), (AV.int .i64 p1.Start), (AV.sl z2 f3 e4), (AV.sl z6 f7 e8), (AV.sl z10 f11 e12), (AV.sl z14 f15 e16)])) rfl rfl rfl rfl rfl rfl ?_
 obtain ⟨y23, h24, h⟩ := obind h
 refine AOps.callP (g := 6) (args := [(AV.agg [(AV.int .i64 p1.Stack), (AV.int .i64 p1.Start), (AV.sl z2 f3 e4), (AV.sl z6 f7 e8), (AV.sl z10 f11 e12), (AV.sl z14 f15 e16)])]) (p := (rChecker) y23) rfl rfl rfl (laws_toChecker_ok h5 h9 h13 h17 h24 (HS.wf' hH0)) ?_
 intro _ o55 h25
 obtain ⟨_, rfl, h26⟩ := h25
 obtain ⟨_, _, rfl, h27, h28⟩ := Cs_cons h26
 cases h27
 obtain ⟨_, _, rfl, h29, h30⟩ := Cs_cons h28
 cases h29
 obtain ⟨_, _, rfl, h31, h32⟩ := Cs_cons h30
 obtain ⟨z33, f34, e35, rfl, h36⟩ := h31
 obtain ⟨_, _, rfl, h37, h38⟩ := Cs_cons h32
 obtain ⟨z39, f40, e41, rfl, h42⟩ := h37
 obtain ⟨_, _, rfl, h43, h44⟩ := Cs_cons h38
 obtain ⟨z45, f46, e47, rfl, h48⟩ := h43
 obtain ⟨_, _, rfl, h49, h50⟩ := Cs_cons h44
 obtain ⟨z51, f52, e53, rfl, h54⟩ := h49
 cases Cs_nil h50
 obtain ⟨y56, h57, h⟩ := obind h
 refine AOps.callP (g := 5) (args := [(AV.agg [(AV.int .i64 y23.Stack), (AV.int .i64 y23.Start), (AV.sl z33 f34 e35), (AV.sl z39 f40 e41), (AV.sl z45 f46 e47), (AV.sl z51 f52 e53)])]) (p := (fun x => rT [(rL (rI .i64) 1) x.1, (rI .i64) x.2]) y56) rfl rfl rfl (spec_LostStates_ok h36 h42 h48 h54 h57 (HS.wf' hH0)) ?_
 intro _ o68 h58
 obtain ⟨_, rfl, h59⟩ := h58
 obtain ⟨_, _, rfl, h60, h61⟩ := Cs_cons h59
 obtain ⟨z62, f63, e64, rfl, h65⟩ := h60
 obtain ⟨_, _, rfl, h66, h67⟩ := Cs_cons h61
 cases h66
 cases Cs_nil h67
 refine AOps.p rfl (rfl : _ = (AV.tup [(AV.sl z62 f63 e64), (AV.int .i64 y56.2)])) ?_
 refine AOps.p rfl (rfl : _ = (AV.sl z62 f63 e64)) ?_
 refine AOps.p rfl (rfl : _ = (AV.int .i64 y56.2)) ?_
 refine AOps.assignR rfl rfl rfl (rfl : _ = (AV.sl z62 f63 e64)) rfl ?_
 refine AOps.assignR rfl rfl rfl (rfl : _ = (AV.int .i64 y56.2)) rfl ?_
 refine AOps.nilR ?_
 refine AW.sr ?_
 refine AOps.ldE (v := (AV.agg [(AV.int .i64 p1.Stack), (AV.int .i64 p1.Start), (AV.sl z2 f3 e4), (AV.sl z6 f7 e8), (AV.sl z10 f11 e12), (AV.sl z14 f15 e16)])) rfl rfl rfl rfl rfl rfl ?_
 obtain ⟨y69, h70, h⟩ := obind h
 have hP83 := HS.pop0 hH0
 refine AOps.callF (al := true) (g := 6) (args := [(AV.agg [(AV.int .i64 p1.Stack), (AV.int .i64 p1.Start), (AV.sl z2 f3 e4), (AV.sl z6 f7 e8), (AV.sl z10 f11 e12), (AV.sl z14 f15 e16)])]) rfl rfl rfl (laws_toChecker_K0_ok h5 h9 h13 h17  h70 (HS.wf' hH0)) ?_
 rintro _ _ s84 ⟨h71, k72, h74, k75, h77, k78, h80, k81, Ls86, rfl, hH87, hG88, ho73, ho76, ho79, ho82⟩
 have hJ89 := HS.joinK0 hP83 hH87
 obtain ⟨Ls90, Lf91, hG92, hF93, hP94⟩ := HS.pushN hJ89 hG0 hG88
 obtain ⟨Ls95, Lf96, hG97, hF98, hP99⟩ := HS.pushN hP94 hG92 hF93
 obtain ⟨Ls100, Lf101, hG102, hF103, hP104⟩ := HS.pushN hP99 hG97 hF98
 obtain ⟨Ls105, Lf106, hG107, hF108, hP109⟩ := HS.pushN hP104 hG102 hF103
 cases hF108
 have hH110 := HS.push0 hP109
 change HS [] false s s84 (([] : List BX) ++ List.flatten Ls105) at hH110
 change AllG [OS oE29 h80 k81 y69.Inner, OS oE25 h77 k78 y69.Return, OS oE62 h74 k75 y69.Call, OS oE4 h71 k72 y69.Accept] Ls105 at hG107
 refine AOps.allocP rfl rfl rfl rfl ⟨rfl, rfl⟩ rfl ?_
 refine AOps.stP (v := (AV.agg [(AV.int .i64 y69.Stack), (AV.int .i64 y69.Start), h71, h74, h77, h80])) rfl rfl rfl rfl rfl rfl rfl (lay_cons rfl (lay_cons rfl (lay_cons ho73 (lay_cons ho76 (lay_cons ho79 (lay_cons ho82 lay_nil)))))) rfl (lt_b rfl) rfl ?_
 refine AOps.nilR ?_
 refine AW.sr ?_
 refine AOps.ldE (v := (AV.agg [(AV.int .i64 y69.Stack), (AV.int .i64 y69.Start), h71, h74, h77, h80])) rfl rfl rfl rfl rfl rfl ?_
 obtain ⟨y111, h112, h⟩ := obind h
 refine AOps.lendK (al := true) (g := 7) (args := [(AV.agg [(AV.int .i64 y69.Stack), (AV.int .i64 y69.Start), h71, h74, h77, h80])]) (ps := [(rChecker) y69]) (p := fun v s' => ∃ (h142 : AV) (k143 : KT) (Ls' : List (List BX)), v = (AV.tup [h142, (AV.int .i64 y111.2)]) ∧ HS [] true s84.blind s' (([] : List BX) ++ List.flatten Ls') ∧ AllG [OS oE2 h142 k143 y111.1] Ls' ∧ h142.one = true) rfl rfl rfl rfl rfl rfl rfl (.cons (Fin.A (.cons (Fin.of (p := (rI .i64) y69.Stack) .I rfl) (.cons (Fin.of (p := (rI .i64) y69.Start) .I rfl) (.cons (Fin.up (by decide) (HS.finS hH110 hG107 (j := 3) rfl Sub.here (Or.inl rfl))) (.cons (Fin.up (by decide) (HS.finS hH110 hG107 (j := 2) rfl Sub.here (Or.inl rfl))) (.cons (Fin.up (by decide) (HS.finS hH110 hG107 (j := 1) rfl Sub.here (Or.inl rfl))) (.cons (Fin.up (by decide) (HS.finS hH110 hG107 (j := 0) rfl Sub.here (Or.inl rfl))) .nil))))))) .nil) (fun args' hc => by obtain ⟨_, _, rfl, hv0, hd0⟩ := Cs_cons hc; obtain ⟨_, rfl, h113⟩ := hv0; obtain ⟨_, _, rfl, h114, h115⟩ := Cs_cons h113; cases h114; obtain ⟨_, _, rfl, h116, h117⟩ := Cs_cons h115; cases h116; obtain ⟨_, _, rfl, h118, h119⟩ := Cs_cons h117; obtain ⟨z120, f121, e122, rfl, h123⟩ := h118; obtain ⟨_, _, rfl, h124, h125⟩ := Cs_cons h119; obtain ⟨z126, f127, e128, rfl, h129⟩ := h124; obtain ⟨_, _, rfl, h130, h131⟩ := Cs_cons h125; obtain ⟨z132, f133, e134, rfl, h135⟩ := h130; obtain ⟨_, _, rfl, h136, h137⟩ := Cs_cons h131; obtain ⟨z138, f139, e140, rfl, h141⟩ := h136; cases Cs_nil h137; cases Cs_nil hd0; exact impl_LostStates_K0_okN h123 h129 h135 h141 h112 WF.blind) (by rintro v s1 ⟨_, _, Lq, rfl, hHq, hGq, _⟩; simp [AV.flatB, AV.flatL, HS.flatB0 hHq hGq (j := 0) rfl (Flt.leaf (fun x v n hr => by cases hr; rfl))]) ?_
 rintro _ s145 ⟨h142, k143, Ls147, rfl, hH148, hG149, ho144⟩
 have hH150 := HS.joinL (Lf := Ls147) hH110 (by simpa using hH148) hG149 (FG.cons (Flt.leaf (fun x v n hr => by cases hr; rfl)) FG.nil)
 have hG151 := AllG.app hG149 hG107
 have hH152 := HS.reL hH150
 change HS [] false s (St.join s84 s145) (([] : List BX) ++ List.flatten (Ls147 ++ Ls105)) at hH152
 change AllG [OS oE2 h142 k143 y111.1, OS oE29 h80 k81 y69.Inner, OS oE25 h77 k78 y69.Return, OS oE62 h74 k75 y69.Call, OS oE4 h71 k72 y69.Accept] (Ls147 ++ Ls105) at hG151
 refine AOps.p rfl (rfl : _ = (AV.tup [h142, (AV.int .i64 y111.2)])) ?_
 refine AOps.p rfl (rfl : _ = h142) ?_
 refine AOps.p rfl (rfl : _ = (AV.int .i64 y111.2)) ?_
 refine AOps.assignR rfl rfl rfl (rfl : _ = h142) rfl ?_
 refine AOps.assignR rfl rfl rfl (rfl : _ = (AV.int .i64 y111.2)) rfl ?_
 refine AOps.nilR ?_
 refine AW.seq ?_
 refine AW.sr ?_
 refine AOps.p rfl (rfl : _ = h142) ?_
 refine AOps.p rfl (rfl : _ = (AV.sl z62 f63 e64)) ?_
 obtain ⟨y153, h154, h⟩ := obind h
 refine AOps.lendP (g := 8) (args := [h142, (AV.sl z62 f63 e64)]) (ps := [(rL (rI .i64) 1) y111.1, (rL (rI .i64) 1) y56.1]) (p := (rB) y153) rfl rfl rfl rfl rfl rfl rfl (.cons (Fin.up (by decide) (HS.finS hH152 hG151 (j := 0) rfl Sub.here (Or.inl rfl))) (.cons (Fin.of (p := (rL (rI .i64) 1) y56.1) (.L fun _ => .I) (⟨_, _, _, rfl, h65⟩)) .nil)) (fun args' hc => by obtain ⟨_, _, rfl, hv0, hd0⟩ := Cs_cons hc; obtain ⟨z155, f156, e157, rfl, h158⟩ := hv0; obtain ⟨_, _, rfl, hv1, hd1⟩ := Cs_cons hd0; obtain ⟨z159, f160, e161, rfl, h162⟩ := hv1; cases Cs_nil hd1; exact laws_eqInt64S_okN h158 h162 h154 WF.blind) (fun v n hv => by cases hv; rfl) ?_
 intro _ h163
 cases h163
 refine AOps.p rfl (rfl : _ = (AV.bool (!y153))) ?_
 refine AOps.p rfl (rfl : _ = (AV.bool (!y153))) ?_
 refine AOps.split 4 (fun f' => ∃ tm' os', f' = ⟨updL tm' [(1, (AV.eptr [(AV.int .i64 p1.Stack), (AV.int .i64 p1.Start), (AV.sl z2 f3 e4), (AV.sl z6 f7 e8), (AV.sl z10 f11 e12), (AV.sl z14 f15 e16)] 0)), (4, (AV.sl z62 f63 e64)), (5, (AV.int .i64 y56.2)), (6, (AV.eptr [(AV.int .i64 y69.Stack), (AV.int .i64 y69.Start), h71, h74, h77, h80] 0)), (7, h142), (8, (AV.int .i64 y111.2)), (40, (AV.bool ((!y153) || (y111.2 != y56.2))))], updL os' [], (St.join s84 s145)⟩) ?_ ?_
 ·rcases Bool.eq_false_or_eq_true (!y153) with hc164 | hc164
  ·refine AOps.know (d := 36) rfl hc164 ?_
   refine AOps.skipR rfl rfl ?_
   refine AOps.skipR rfl rfl ?_
   refine AOps.skipR rfl rfl ?_
   refine AOps.p rfl (rfl : _ = (AV.bool true)) ?_
   refine AOps.resR [(1, (AV.eptr [(AV.int .i64 p1.Stack), (AV.int .i64 p1.Start), (AV.sl z2 f3 e4), (AV.sl z6 f7 e8), (AV.sl z10 f11 e12), (AV.sl z14 f15 e16)] 0)), (4, (AV.sl z62 f63 e64)), (5, (AV.int .i64 y56.2)), (6, (AV.eptr [(AV.int .i64 y69.Stack), (AV.int .i64 y69.Start), h71, h74, h77, h80] 0)), (7, h142), (8, (AV.int .i64 y111.2)), (40, (AV.bool ((!y153) || (y111.2 != y56.2))))] [] ?_ ?_ _ ⟨_, _, rfl⟩
   ·exact ⟨rfl, rfl, rfl, rfl, rfl, rfl, congrArg AV.bool (or_t hc164), trivial⟩
   exact trivial
  ·refine AOps.know (d := 36) rfl hc164 ?_
   refine AOps.p rfl (rfl : _ = (AV.int .i64 y111.2)) ?_
   refine AOps.p rfl (rfl : _ = (AV.int .i64 y56.2)) ?_
   refine AOps.p rfl (rfl : _ = (AV.bool (y111.2 != y56.2))) ?_
   refine AOps.p rfl (rfl : _ = (AV.bool (y111.2 != y56.2))) ?_
   refine AOps.resR [(1, (AV.eptr [(AV.int .i64 p1.Stack), (AV.int .i64 p1.Start), (AV.sl z2 f3 e4), (AV.sl z6 f7 e8), (AV.sl z10 f11 e12), (AV.sl z14 f15 e16)] 0)), (4, (AV.sl z62 f63 e64)), (5, (AV.int .i64 y56.2)), (6, (AV.eptr [(AV.int .i64 y69.Stack), (AV.int .i64 y69.Start), h71, h74, h77, h80] 0)), (7, h142), (8, (AV.int .i64 y111.2)), (40, (AV.bool ((!y153) || (y111.2 != y56.2))))] [] ?_ ?_ _ ⟨_, _, rfl⟩
   ·exact ⟨rfl, rfl, rfl, rfl, rfl, rfl, congrArg AV.bool (or_f hc164), trivial⟩
   exact trivial
 rintro _ ⟨tm, os, rfl⟩
 refine AOps.nilR ?_
 rcases oite h with ⟨hc165, h⟩ | ⟨hc165, h⟩
 ·refine AW.condT (congrArg AV.bool hc165) ?_
  refine AW.sr ?_
  refine AOps.p rfl (rfl : _ = (AV.bool false)) ?_
  refine AOps.nilR ?_
  cases h
  exact AW.ret ⟨⟨_, hH152⟩, _, _, rfl, (Fin.of (p := (rB) false) .B rfl).2⟩
 refine AW.condF (congrArg AV.bool hc165) ?_
 refine AW.skip ?_
 refine AW.seq ?_
 refine AW.sr ?_
 refine AOps.ldE (v := (AV.agg [(AV.int .i64 y69.Stack), (AV.int .i64 y69.Start), h71, h74, h77, h80])) rfl rfl rfl rfl rfl rfl ?_
 refine AOps.ldE (v := (AV.agg [(AV.int .i64 p1.Stack), (AV.int .i64 p1.Start), (AV.sl z2 f3 e4), (AV.sl z6 f7 e8), (AV.sl z10 f11 e12), (AV.sl z14 f15 e16)])) rfl rfl rfl rfl rfl rfl ?_
 obtain ⟨y166, h167, h⟩ := obind h
 refine AOps.callDP (g := 6) (args := [(AV.agg [(AV.int .i64 p1.Stack), (AV.int .i64 p1.Start), (AV.sl z2 f3 e4), (AV.sl z6 f7 e8), (AV.sl z10 f11 e12), (AV.sl z14 f15 e16)])]) (p := (rChecker) y166) rfl rfl rfl (laws_toChecker_ok h5 h9 h13 h17 h167 ((HS.wf' hH152).still)) (fun v hv => Nice.pure (k := FINK) (p := (rChecker) y166) (.A (.cons .I (.cons .I (.cons (.L fun _ => .B) (.cons (.L fun _ => (.L fun _ => (.A (.cons .I (.cons .I .nil))))) (.cons (.L fun _ => (.L fun _ => (.L fun _ => .I))) (.cons (.L fun _ => (.L fun _ => .I)) .nil))))))) _ v hv) ?_
 intro _ o198 h168
 obtain ⟨_, rfl, h169⟩ := h168
 obtain ⟨_, _, rfl, h170, h171⟩ := Cs_cons h169
 cases h170
 obtain ⟨_, _, rfl, h172, h173⟩ := Cs_cons h171
 cases h172
 obtain ⟨_, _, rfl, h174, h175⟩ := Cs_cons h173
 obtain ⟨z176, f177, e178, rfl, h179⟩ := h174
 obtain ⟨_, _, rfl, h180, h181⟩ := Cs_cons h175
 obtain ⟨z182, f183, e184, rfl, h185⟩ := h180
 obtain ⟨_, _, rfl, h186, h187⟩ := Cs_cons h181
 obtain ⟨z188, f189, e190, rfl, h191⟩ := h186
 obtain ⟨_, _, rfl, h192, h193⟩ := Cs_cons h187
 obtain ⟨z194, f195, e196, rfl, h197⟩ := h192
 cases Cs_nil h193
 obtain ⟨y199, h200, h⟩ := obind h
 refine AOps.lendD (g := 9) (args := [(AV.agg [(AV.int .i64 y69.Stack), (AV.int .i64 y69.Start), h71, h74, h77, h80]), (AV.agg [(AV.int .i64 y166.Stack), (AV.int .i64 y166.Start), (AV.sl z176 f177 e178), (AV.sl z182 f183 e184), (AV.sl z188 f189 e190), (AV.sl z194 f195 e196)])]) (ps := [(rChecker) y69, (rChecker) y166]) (p := (rB) y199) rfl rfl rfl rfl rfl rfl rfl (.cons (Fin.A (.cons (Fin.of (p := (rI .i64) y69.Stack) .I rfl) (.cons (Fin.of (p := (rI .i64) y69.Start) .I rfl) (.cons (Fin.up (by decide) (HS.finSt hH152 hG151 (j := 4) rfl Sub.here)) (.cons (Fin.up (by decide) (HS.finSt hH152 hG151 (j := 3) rfl Sub.here)) (.cons (Fin.up (by decide) (HS.finSt hH152 hG151 (j := 2) rfl Sub.here)) (.cons (Fin.up (by decide) (HS.finSt hH152 hG151 (j := 1) rfl Sub.here)) .nil))))))) (.cons (Fin.of (p := (rChecker) y166) (.A (.cons .I (.cons .I (.cons (.L fun _ => .B) (.cons (.L fun _ => (.L fun _ => (.A (.cons .I (.cons .I .nil))))) (.cons (.L fun _ => (.L fun _ => (.L fun _ => .I))) (.cons (.L fun _ => (.L fun _ => .I)) .nil))))))) (⟨_, rfl, (.cons rfl (.cons rfl (.cons ⟨_, _, _, rfl, h179⟩ (.cons ⟨_, _, _, rfl, h185⟩ (.cons ⟨_, _, _, rfl, h191⟩ (.cons ⟨_, _, _, rfl, h197⟩ .nil))))))⟩)) .nil)) (fun args' hc => by obtain ⟨_, _, rfl, hv0, hd0⟩ := Cs_cons hc; obtain ⟨_, rfl, h201⟩ := hv0; obtain ⟨_, _, rfl, h202, h203⟩ := Cs_cons h201; cases h202; obtain ⟨_, _, rfl, h204, h205⟩ := Cs_cons h203; cases h204; obtain ⟨_, _, rfl, h206, h207⟩ := Cs_cons h205; obtain ⟨z208, f209, e210, rfl, h211⟩ := h206; obtain ⟨_, _, rfl, h212, h213⟩ := Cs_cons h207; obtain ⟨z214, f215, e216, rfl, h217⟩ := h212; obtain ⟨_, _, rfl, h218, h219⟩ := Cs_cons h213; obtain ⟨z220, f221, e222, rfl, h223⟩ := h218; obtain ⟨_, _, rfl, h224, h225⟩ := Cs_cons h219; obtain ⟨z226, f227, e228, rfl, h229⟩ := h224; cases Cs_nil h225; obtain ⟨_, _, rfl, hv1, hd1⟩ := Cs_cons hd0; obtain ⟨_, rfl, h230⟩ := hv1; obtain ⟨_, _, rfl, h231, h232⟩ := Cs_cons h230; cases h231; obtain ⟨_, _, rfl, h233, h234⟩ := Cs_cons h232; cases h233; obtain ⟨_, _, rfl, h235, h236⟩ := Cs_cons h234; obtain ⟨z237, f238, e239, rfl, h240⟩ := h235; obtain ⟨_, _, rfl, h241, h242⟩ := Cs_cons h236; obtain ⟨z243, f244, e245, rfl, h246⟩ := h241; obtain ⟨_, _, rfl, h247, h248⟩ := Cs_cons h242; obtain ⟨z249, f250, e251, rfl, h252⟩ := h247; obtain ⟨_, _, rfl, h253, h254⟩ := Cs_cons h248; obtain ⟨z255, f256, e257, rfl, h258⟩ := h253; cases Cs_nil h254; cases Cs_nil hd1; exact laws_eqChecker_okN h211 h217 h223 h229 h240 h246 h252 h258 h200 WF.blind) (fun v n hv => by cases hv; rfl) (fun v hv => Nice.pure (k := FINK) (p := (rB) y199) .B _ v hv) ?_
 intro _ h259
 cases h259
 refine AOps.p rfl (rfl : _ = (AV.bool (!y199))) ?_
 refine AOps.nilR ?_
 rcases oite h with ⟨hc260, h⟩ | ⟨hc260, h⟩
 ·refine AW.condT (congrArg AV.bool hc260) ?_
  refine AW.sr ?_
  refine AOps.p rfl (rfl : _ = (AV.bool false)) ?_
  refine AOps.nilR ?_
  cases h
  exact AW.ret ⟨⟨_, hH152⟩, _, _, rfl, (Fin.of (p := (rB) false) .B rfl).2⟩
 refine AW.condF (congrArg AV.bool hc260) ?_
 refine AW.skip ?_
 refine AW.sr ?_
 refine AOps.p rfl (rfl : _ = (AV.int .i64 1)) ?_
 refine AOps.nilR ?_
 refine AW.sr ?_
 refine AOps.ldE (v := (AV.agg [(AV.int .i64 y69.Stack), (AV.int .i64 y69.Start), h71, h74, h77, h80])) rfl rfl rfl rfl rfl rfl ?_
 refine AOps.p rfl (rfl : _ = (AV.int .i64 1)) ?_
 obtain ⟨y261, h262, h⟩ := obind h
 have hP263 := HS.pop0 hH152
 have hF0 : AllG ([] : List (List BX → Prop)) [] := AllG.nil
 obtain ⟨Ls264, Lf265, hG266, hF267, hP268⟩ := HS.popG hP263 hG151 hF0 (j := 4) rfl
 obtain ⟨Ls269, Lf270, hG271, hF272, hP273⟩ := HS.popG hP268 hG266 hF267 (j := 3) rfl
 obtain ⟨Ls274, Lf275, hG276, hF277, hP278⟩ := HS.popG hP273 hG271 hF272 (j := 2) rfl
 obtain ⟨Ls279, Lf280, hG281, hF282, hP283⟩ := HS.popG hP278 hG276 hF277 (j := 1) rfl
 refine AOps.callF (al := true) (g := 10) (args := [(AV.agg [(AV.int .i64 y69.Stack), (AV.int .i64 y69.Start), h71, h74, h77, h80]), (AV.int .i64 1)]) rfl rfl rfl (laws_markChecker_K10_ok ho73 ho76 ho79 ho82 (HS.enterK hP283) hF282 (HS.enterLo hP283 hl) h262 (HS.wf' hH152)) ?_
 rintro _ _ s284 ⟨Ls286, rfl, hH287, hG288⟩
 have hJ289 := HS.joinK hP283 hH287
 obtain ⟨Ls290, Lf291, hG292, hF293, hP294⟩ := HS.putG hJ289 hG281 hG288 (j := 4) rfl
 obtain ⟨Ls295, Lf296, hG297, hF298, hP299⟩ := HS.putG hP294 hG292 hF293 (j := 3) rfl
 obtain ⟨Ls300, Lf301, hG302, hF303, hP304⟩ := HS.putG hP299 hG297 hF298 (j := 2) rfl
 obtain ⟨Ls305, Lf306, hG307, hF308, hP309⟩ := HS.putG hP304 hG302 hF303 (j := 1) rfl
 cases hF308
 have hH310 := HS.push0 hP309
 change HS [] false s s284 (([] : List BX) ++ List.flatten Ls305) at hH310
 change AllG [OS oE2 h142 k143 y111.1, OS oE29 h80 k81 y261.2.2.2.2, OS oE25 h77 k78 y261.2.2.2.1, OS oE62 h74 k75 y261.2.2.1, OS oE4 h71 k72 y261.2.1] Ls305 at hG307
 refine AOps.assignR rfl rfl rfl (rfl : _ = (AV.int .i64 y261.1)) rfl ?_
 refine AOps.nilR ?_
 refine AW.seq ?_
 refine AW.sr ?_
 refine AOps.p rfl (rfl : _ = (AV.int .i64 y261.1)) ?_
 refine AOps.p rfl (rfl : _ = (AV.bool (decide ((y261.1 : Int) < 0)))) ?_
 refine AOps.p rfl (rfl : _ = (AV.bool (decide ((y261.1 : Int) < 0)))) ?_
 obtain ⟨b312, hb, h⟩ := obind h
 refine AOps.split 5 (fun f' => ∃ tm' os', f' = ⟨updL tm' [(1, (AV.eptr [(AV.int .i64 p1.Stack), (AV.int .i64 p1.Start), (AV.sl z2 f3 e4), (AV.sl z6 f7 e8), (AV.sl z10 f11 e12), (AV.sl z14 f15 e16)] 0)), (4, (AV.sl z62 f63 e64)), (5, (AV.int .i64 y56.2)), (7, h142), (8, (AV.int .i64 y111.2)), (56, (AV.bool b312))], updL os' [], s284⟩) ?_ ?_
 ·rcases oite hb with ⟨hc311, hb⟩ | ⟨hc311, hb⟩
  ·refine AOps.know (d := 51) rfl hc311 ?_
   refine AOps.skipR rfl rfl ?_
   refine AOps.skipR rfl rfl ?_
   refine AOps.skipR rfl rfl ?_
   refine AOps.skipR rfl rfl ?_
   refine AOps.p rfl (rfl : _ = (AV.bool true)) ?_
   refine AOps.resR [(1, (AV.eptr [(AV.int .i64 p1.Stack), (AV.int .i64 p1.Start), (AV.sl z2 f3 e4), (AV.sl z6 f7 e8), (AV.sl z10 f11 e12), (AV.sl z14 f15 e16)] 0)), (4, (AV.sl z62 f63 e64)), (5, (AV.int .i64 y56.2)), (7, h142), (8, (AV.int .i64 y111.2)), (56, (AV.bool b312))] [] ?_ ?_ _ ⟨_, _, rfl⟩
   ·exact ⟨rfl, rfl, rfl, rfl, rfl, congrArg AV.bool (Option.some.inj hb), trivial⟩
   exact trivial
  ·have h := hb
   refine AOps.know (d := 51) rfl hc311 ?_
   refine AOps.p rfl (rfl : _ = h142) ?_
   refine AOps.p rfl (rfl : _ = (AV.sl z62 f63 e64)) ?_
   obtain ⟨y313, h314, h⟩ := obind h
   refine AOps.lendP (g := 8) (args := [h142, (AV.sl z62 f63 e64)]) (ps := [(rL (rI .i64) 1) y111.1, (rL (rI .i64) 1) y56.1]) (p := (rB) y313) rfl rfl rfl rfl rfl rfl rfl (.cons (Fin.up (by decide) (HS.finS hH310 hG307 (j := 0) rfl Sub.here (Or.inl rfl))) (.cons (Fin.of (p := (rL (rI .i64) 1) y56.1) (.L fun _ => .I) (⟨_, _, _, rfl, h65⟩)) .nil)) (fun args' hc => by obtain ⟨_, _, rfl, hv0, hd0⟩ := Cs_cons hc; obtain ⟨z315, f316, e317, rfl, h318⟩ := hv0; obtain ⟨_, _, rfl, hv1, hd1⟩ := Cs_cons hd0; obtain ⟨z319, f320, e321, rfl, h322⟩ := hv1; cases Cs_nil hd1; exact laws_eqInt64S_okN h318 h322 h314 WF.blind) (fun v n hv => by cases hv; rfl) ?_
   intro _ h323
   cases h323
   refine AOps.p rfl (rfl : _ = (AV.bool (!y313))) ?_
   refine AOps.p rfl (rfl : _ = (AV.bool (!y313))) ?_
   refine AOps.resR [(1, (AV.eptr [(AV.int .i64 p1.Stack), (AV.int .i64 p1.Start), (AV.sl z2 f3 e4), (AV.sl z6 f7 e8), (AV.sl z10 f11 e12), (AV.sl z14 f15 e16)] 0)), (4, (AV.sl z62 f63 e64)), (5, (AV.int .i64 y56.2)), (7, h142), (8, (AV.int .i64 y111.2)), (56, (AV.bool b312))] [] ?_ ?_ _ ⟨_, _, rfl⟩
   ·exact ⟨rfl, rfl, rfl, rfl, rfl, congrArg AV.bool (Option.some.inj h), trivial⟩
   exact trivial
 rintro _ ⟨tm, os, rfl⟩
 refine AOps.p rfl (rfl : _ = (AV.bool b312)) ?_
 refine AOps.split 4 (fun f' => ∃ tm' os', f' = ⟨updL tm' [(1, (AV.eptr [(AV.int .i64 p1.Stack), (AV.int .i64 p1.Start), (AV.sl z2 f3 e4), (AV.sl z6 f7 e8), (AV.sl z10 f11 e12), (AV.sl z14 f15 e16)] 0)), (4, (AV.sl z62 f63 e64)), (5, (AV.int .i64 y56.2)), (7, h142), (61, (AV.bool (b312 || (y111.2 != y56.2))))], updL os' [], s284⟩) ?_ ?_
 ·rcases Bool.eq_false_or_eq_true b312 with hc324 | hc324
  ·refine AOps.know (d := 57) rfl hc324 ?_
   refine AOps.skipR rfl rfl ?_
   refine AOps.skipR rfl rfl ?_
   refine AOps.skipR rfl rfl ?_
   refine AOps.p rfl (rfl : _ = (AV.bool true)) ?_
   refine AOps.resR [(1, (AV.eptr [(AV.int .i64 p1.Stack), (AV.int .i64 p1.Start), (AV.sl z2 f3 e4), (AV.sl z6 f7 e8), (AV.sl z10 f11 e12), (AV.sl z14 f15 e16)] 0)), (4, (AV.sl z62 f63 e64)), (5, (AV.int .i64 y56.2)), (7, h142), (61, (AV.bool (b312 || (y111.2 != y56.2))))] [] ?_ ?_ _ ⟨_, _, rfl⟩
   ·exact ⟨rfl, rfl, rfl, rfl, congrArg AV.bool (or_t hc324), trivial⟩
   exact trivial
  ·refine AOps.know (d := 57) rfl hc324 ?_
   refine AOps.p rfl (rfl : _ = (AV.int .i64 y111.2)) ?_
   refine AOps.p rfl (rfl : _ = (AV.int .i64 y56.2)) ?_
   refine AOps.p rfl (rfl : _ = (AV.bool (y111.2 != y56.2))) ?_
   refine AOps.p rfl (rfl : _ = (AV.bool (y111.2 != y56.2))) ?_
   refine AOps.resR [(1, (AV.eptr [(AV.int .i64 p1.Stack), (AV.int .i64 p1.Start), (AV.sl z2 f3 e4), (AV.sl z6 f7 e8), (AV.sl z10 f11 e12), (AV.sl z14 f15 e16)] 0)), (4, (AV.sl z62 f63 e64)), (5, (AV.int .i64 y56.2)), (7, h142), (61, (AV.bool (b312 || (y111.2 != y56.2))))] [] ?_ ?_ _ ⟨_, _, rfl⟩
   ·exact ⟨rfl, rfl, rfl, rfl, congrArg AV.bool (or_f hc324), trivial⟩
   exact trivial
 rintro _ ⟨tm, os, rfl⟩
 refine AOps.nilR ?_
 rcases oite h with ⟨hc325, h⟩ | ⟨hc325, h⟩
 ·refine AW.condT (congrArg AV.bool hc325) ?_
  refine AW.sr ?_
  refine AOps.p rfl (rfl : _ = (AV.bool false)) ?_
  refine AOps.nilR ?_
  cases h
  exact AW.ret ⟨⟨_, hH310⟩, _, _, rfl, (Fin.of (p := (rB) false) .B rfl).2⟩
 refine AW.condF (congrArg AV.bool hc325) ?_
 refine AW.skip ?_
 refine AW.sr ?_
 refine AOps.p rfl (rfl : _ = (AV.int .i64 1)) ?_
 refine AOps.nilR ?_
 refine AW.sr ?_
 refine AOps.p rfl (rfl : _ = h142) ?_
 refine AOps.p rfl (rfl : _ = (AV.int .i64 1)) ?_
 obtain ⟨y326, h327, h⟩ := obind h
 have hP328 := HS.pop0 hH310
 have hF0 : AllG ([] : List (List BX → Prop)) [] := AllG.nil
 obtain ⟨Ls329, Lf330, hG331, hF332, hP333⟩ := HS.popG hP328 hG307 hF0 (j := 0) rfl
 refine AOps.callF (al := true) (g := 11) (args := [h142, (AV.int .i64 1)]) rfl rfl rfl (laws_markInt64S_K10_ok ho144 (HS.enterK hP333) hF332 (HS.enterLo hP333 hl) h327 (HS.wf' hH310)) ?_
 rintro _ _ s334 ⟨Ls336, rfl, hH337, hG338⟩
 have hJ339 := HS.joinK hP333 hH337
 obtain ⟨Ls340, Lf341, hG342, hF343, hP344⟩ := HS.putG hJ339 hG331 hG338 (j := 0) rfl
 cases hF343
 have hH345 := HS.push0 hP344
 change HS [] false s s334 (([] : List BX) ++ List.flatten Ls340) at hH345
 change AllG [OS oE2 h142 k143 y326.2, OS oE29 h80 k81 y261.2.2.2.2, OS oE25 h77 k78 y261.2.2.2.1, OS oE62 h74 k75 y261.2.2.1, OS oE4 h71 k72 y261.2.1] Ls340 at hG342
 refine AOps.assignR rfl rfl rfl (rfl : _ = (AV.int .i64 y326.1)) rfl ?_
 refine AOps.nilR ?_
 refine AW.sr ?_
 refine AOps.p rfl (rfl : _ = (AV.int .i64 1)) ?_
 refine AOps.nilR ?_
 refine AW.sr ?_
 refine AOps.p rfl (rfl : _ = h142) ?_
 refine AOps.p rfl (rfl : _ = (AV.int .i64 1)) ?_
 obtain ⟨y346, h347, h⟩ := obind h
 refine AOps.lendP (g := 12) (args := [h142, (AV.int .i64 1)]) (ps := [(rL (rI .i64) 1) y326.2, (rI .i64) 1]) (p := (rI .i64) y346) rfl rfl rfl rfl rfl rfl rfl (.cons (Fin.up (by decide) (HS.finS hH345 hG342 (j := 0) rfl Sub.here (Or.inl rfl))) (.cons (Fin.of (p := (rI .i64) 1) .I rfl) .nil)) (fun args' hc => by obtain ⟨_, _, rfl, hv0, hd0⟩ := Cs_cons hc; obtain ⟨z348, f349, e350, rfl, h351⟩ := hv0; obtain ⟨_, _, rfl, hv1, hd1⟩ := Cs_cons hd0; cases hv1; cases Cs_nil hd1; exact laws_heldInt64S_okN h351 h347 WF.blind) (fun v n hv => by cases hv; rfl) ?_
 intro _ h352
 cases h352
 refine AOps.assignR rfl rfl rfl (rfl : _ = (AV.int .i64 y346)) rfl ?_
 refine AOps.nilR ?_
 refine AW.seq ?_
 refine AW.sr ?_
 refine AOps.p rfl (rfl : _ = (AV.int .i64 y346)) ?_
 refine AOps.p rfl (rfl : _ = (AV.bool (decide ((y346 : Int) < 0)))) ?_
 refine AOps.nilR ?_
 rcases oite h with ⟨hc353, h⟩ | ⟨hc353, h⟩
 ·refine AW.condT (congrArg AV.bool hc353) ?_
  refine AW.sr ?_
  refine AOps.p rfl (rfl : _ = (AV.bool false)) ?_
  refine AOps.nilR ?_
  cases h
  exact AW.ret ⟨⟨_, hH345⟩, _, _, rfl, (Fin.of (p := (rB) false) .B rfl).2⟩
 refine AW.condF (congrArg AV.bool hc353) ?_
 refine AW.skip ?_
 refine AW.seq ?_
 refine AW.sr ?_
 refine AOps.p rfl (rfl : _ = (AV.int .i64 y346)) ?_
 refine AOps.p rfl (rfl : _ = (AV.int .i64 y326.1)) ?_
 refine AOps.p rfl (rfl : _ = (AV.bool (y346 != y326.1))) ?_
 refine AOps.nilR ?_
 rcases oite h with ⟨hc354, h⟩ | ⟨hc354, h⟩
 ·refine AW.condT (congrArg AV.bool hc354) ?_
  refine AW.sr ?_
  refine AOps.p rfl (rfl : _ = (AV.bool false)) ?_
  refine AOps.nilR ?_
  cases h
  exact AW.ret ⟨⟨_, hH345⟩, _, _, rfl, (Fin.of (p := (rB) false) .B rfl).2⟩
 refine AW.condF (congrArg AV.bool hc354) ?_
 refine AW.skip ?_
 refine AW.sr ?_
 refine AOps.ldE (v := (AV.agg [(AV.int .i64 p1.Stack), (AV.int .i64 p1.Start), (AV.sl z2 f3 e4), (AV.sl z6 f7 e8), (AV.sl z10 f11 e12), (AV.sl z14 f15 e16)])) rfl rfl rfl rfl rfl rfl ?_
 obtain ⟨y355, h356, h⟩ := obind h
 refine AOps.callP (g := 6) (args := [(AV.agg [(AV.int .i64 p1.Stack), (AV.int .i64 p1.Start), (AV.sl z2 f3 e4), (AV.sl z6 f7 e8), (AV.sl z10 f11 e12), (AV.sl z14 f15 e16)])]) (p := (rChecker) y355) rfl rfl rfl (laws_toChecker_ok h5 h9 h13 h17 h356 (HS.wf' hH345)) ?_
 intro _ o387 h357
 obtain ⟨_, rfl, h358⟩ := h357
 obtain ⟨_, _, rfl, h359, h360⟩ := Cs_cons h358
 cases h359
 obtain ⟨_, _, rfl, h361, h362⟩ := Cs_cons h360
 cases h361
 obtain ⟨_, _, rfl, h363, h364⟩ := Cs_cons h362
 obtain ⟨z365, f366, e367, rfl, h368⟩ := h363
 obtain ⟨_, _, rfl, h369, h370⟩ := Cs_cons h364
 obtain ⟨z371, f372, e373, rfl, h374⟩ := h369
 obtain ⟨_, _, rfl, h375, h376⟩ := Cs_cons h370
 obtain ⟨z377, f378, e379, rfl, h380⟩ := h375
 obtain ⟨_, _, rfl, h381, h382⟩ := Cs_cons h376
 obtain ⟨z383, f384, e385, rfl, h386⟩ := h381
 cases Cs_nil h382
 obtain ⟨y388, h389, h⟩ := obind h
 refine AOps.callP (g := 7) (args := [(AV.agg [(AV.int .i64 y355.Stack), (AV.int .i64 y355.Start), (AV.sl z365 f366 e367), (AV.sl z371 f372 e373), (AV.sl z377 f378 e379), (AV.sl z383 f384 e385)])]) (p := (fun x => rT [(rL (rI .i64) 1) x.1, (rI .i64) x.2]) y388) rfl rfl rfl (impl_LostStates_ok h368 h374 h380 h386 h389 (HS.wf' hH345)) ?_
 intro _ o400 h390
 obtain ⟨_, rfl, h391⟩ := h390
 obtain ⟨_, _, rfl, h392, h393⟩ := Cs_cons h391
 obtain ⟨z394, f395, e396, rfl, h397⟩ := h392
 obtain ⟨_, _, rfl, h398, h399⟩ := Cs_cons h393
 cases h398
 cases Cs_nil h399
 refine AOps.p rfl (rfl : _ = (AV.tup [(AV.sl z394 f395 e396), (AV.int .i64 y388.2)])) ?_
 refine AOps.p rfl (rfl : _ = (AV.sl z394 f395 e396)) ?_
 refine AOps.p rfl (rfl : _ = (AV.int .i64 y388.2)) ?_
 refine AOps.assignR rfl rfl rfl (rfl : _ = (AV.sl z394 f395 e396)) rfl ?_
 refine AOps.assignR rfl rfl rfl (rfl : _ = (AV.int .i64 y388.2)) rfl ?_
 refine AOps.nilR ?_
 refine AW.seq ?_
 refine AW.sr ?_
 refine AOps.p rfl (rfl : _ = (AV.sl z394 f395 e396)) ?_
 refine AOps.p rfl (rfl : _ = (AV.sl z62 f63 e64)) ?_
 obtain ⟨y401, h402, h⟩ := obind h
 refine AOps.lendP (g := 8) (args := [(AV.sl z394 f395 e396), (AV.sl z62 f63 e64)]) (ps := [(rL (rI .i64) 1) y388.1, (rL (rI .i64) 1) y56.1]) (p := (rB) y401) rfl rfl rfl rfl rfl rfl rfl (.cons (Fin.of (p := (rL (rI .i64) 1) y388.1) (.L fun _ => .I) (⟨_, _, _, rfl, h397⟩)) (.cons (Fin.of (p := (rL (rI .i64) 1) y56.1) (.L fun _ => .I) (⟨_, _, _, rfl, h65⟩)) .nil)) (fun args' hc => by obtain ⟨_, _, rfl, hv0, hd0⟩ := Cs_cons hc; obtain ⟨z403, f404, e405, rfl, h406⟩ := hv0; obtain ⟨_, _, rfl, hv1, hd1⟩ := Cs_cons hd0; obtain ⟨z407, f408, e409, rfl, h410⟩ := hv1; cases Cs_nil hd1; exact laws_eqInt64S_okN h406 h410 h402 WF.blind) (fun v n hv => by cases hv; rfl) ?_
 intro _ h411
 cases h411
 refine AOps.p rfl (rfl : _ = (AV.bool (!y401))) ?_
 refine AOps.p rfl (rfl : _ = (AV.bool (!y401))) ?_
 refine AOps.split 4 (fun f' => ∃ tm' os', f' = ⟨updL tm' [(7, h142), (10, (AV.int .i64 y326.1)), (87, (AV.bool ((!y401) || (y388.2 != y56.2))))], updL os' [], s334⟩) ?_ ?_
 ·rcases Bool.eq_false_or_eq_true (!y401) with hc412 | hc412
  ·refine AOps.know (d := 83) rfl hc412 ?_
   refine AOps.skipR rfl rfl ?_
   refine AOps.skipR rfl rfl ?_
   refine AOps.skipR rfl rfl ?_
   refine AOps.p rfl (rfl : _ = (AV.bool true)) ?_
   refine AOps.resR [(7, h142), (10, (AV.int .i64 y326.1)), (87, (AV.bool ((!y401) || (y388.2 != y56.2))))] [] ?_ ?_ _ ⟨_, _, rfl⟩
   ·exact ⟨rfl, rfl, congrArg AV.bool (or_t hc412), trivial⟩
   exact trivial
  ·refine AOps.know (d := 83) rfl hc412 ?_
   refine AOps.p rfl (rfl : _ = (AV.int .i64 y388.2)) ?_
   refine AOps.p rfl (rfl : _ = (AV.int .i64 y56.2)) ?_
   refine AOps.p rfl (rfl : _ = (AV.bool (y388.2 != y56.2))) ?_
   refine AOps.p rfl (rfl : _ = (AV.bool (y388.2 != y56.2))) ?_
   refine AOps.resR [(7, h142), (10, (AV.int .i64 y326.1)), (87, (AV.bool ((!y401) || (y388.2 != y56.2))))] [] ?_ ?_ _ ⟨_, _, rfl⟩
   ·exact ⟨rfl, rfl, congrArg AV.bool (or_f hc412), trivial⟩
   exact trivial
 rintro _ ⟨tm, os, rfl⟩
 refine AOps.nilR ?_
 rcases oite h with ⟨hc413, h⟩ | ⟨hc413, h⟩
 ·refine AW.condT (congrArg AV.bool hc413) ?_
  refine AW.sr ?_
  refine AOps.p rfl (rfl : _ = (AV.bool false)) ?_
  refine AOps.nilR ?_
  cases h
  exact AW.ret ⟨⟨_, hH345⟩, _, _, rfl, (Fin.of (p := (rB) false) .B rfl).2⟩
 refine AW.condF (congrArg AV.bool hc413) ?_
 refine AW.skip ?_
 refine AW.sr ?_
 refine AOps.p rfl (rfl : _ = (AV.int .i64 1)) ?_
 refine AOps.nilR ?_
 refine AW.sr ?_
 refine AOps.p rfl (rfl : _ = h142) ?_
 refine AOps.p rfl (rfl : _ = (AV.int .i64 1)) ?_
 obtain ⟨y414, h415, h⟩ := obind h
 refine AOps.lendP (g := 12) (args := [h142, (AV.int .i64 1)]) (ps := [(rL (rI .i64) 1) y326.2, (rI .i64) 1]) (p := (rI .i64) y414) rfl rfl rfl rfl rfl rfl rfl (.cons (Fin.up (by decide) (HS.finS hH345 hG342 (j := 0) rfl Sub.here (Or.inl rfl))) (.cons (Fin.of (p := (rI .i64) 1) .I rfl) .nil)) (fun args' hc => by obtain ⟨_, _, rfl, hv0, hd0⟩ := Cs_cons hc; obtain ⟨z416, f417, e418, rfl, h419⟩ := hv0; obtain ⟨_, _, rfl, hv1, hd1⟩ := Cs_cons hd0; cases hv1; cases Cs_nil hd1; exact laws_heldInt64S_okN h419 h415 WF.blind) (fun v n hv => by cases hv; rfl) ?_
 intro _ h420
 cases h420
 refine AOps.assignR rfl rfl rfl (rfl : _ = (AV.int .i64 y414)) rfl ?_
 refine AOps.nilR ?_
 refine AW.seq ?_
 refine AW.sr ?_
 refine AOps.p rfl (rfl : _ = (AV.int .i64 y414)) ?_
 refine AOps.p rfl (rfl : _ = (AV.bool (decide ((y414 : Int) < 0)))) ?_
 refine AOps.nilR ?_
 rcases oite h with ⟨hc421, h⟩ | ⟨hc421, h⟩
 ·refine AW.condT (congrArg AV.bool hc421) ?_
  refine AW.sr ?_
  refine AOps.p rfl (rfl : _ = (AV.bool false)) ?_
  refine AOps.nilR ?_
  cases h
  exact AW.ret ⟨⟨_, hH345⟩, _, _, rfl, (Fin.of (p := (rB) false) .B rfl).2⟩
 refine AW.condF (congrArg AV.bool hc421) ?_
 refine AW.skip ?_
 refine AW.seq ?_
 refine AW.sr ?_
 refine AOps.p rfl (rfl : _ = (AV.int .i64 y414)) ?_
 refine AOps.p rfl (rfl : _ = (AV.int .i64 y326.1)) ?_
 refine AOps.p rfl (rfl : _ = (AV.bool (y414 != y326.1))) ?_
 refine AOps.nilR ?_
 rcases oite h with ⟨hc422, h⟩ | ⟨hc422, h⟩
 ·refine AW.condT (congrArg AV.bool hc422) ?_
  refine AW.sr ?_
  refine AOps.p rfl (rfl : _ = (AV.bool false)) ?_
  refine AOps.nilR ?_
  cases h
  exact AW.ret ⟨⟨_, hH345⟩, _, _, rfl, (Fin.of (p := (rB) false) .B rfl).2⟩
 refine AW.condF (congrArg AV.bool hc422) ?_
 refine AW.skip ?_
 refine AW.sr ?_
 refine AOps.p rfl (rfl : _ = (AV.bool true)) ?_
 refine AOps.nilR ?_
 cases h
 exact AW.ret ⟨⟨_, hH345⟩, _, _, rfl, (Fin.of (p := (rB) true) .B rfl).2⟩
end Go.Proofs.Ytmgpjpaajhcmpaa.law
