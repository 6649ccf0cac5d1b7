import Derived.Test.YtchahpmelikoaaaAe4
import Derived.Test.YtchahpmelikoaaaAeT
set_option linter.unusedVariables false
set_option linter.unusedSimpArgs false
namespace Go.Proofs.Ytchahpmelikoaaa.law
open Go Go.Proofs Ae
set_option maxRecDepth 100000
set_option linter.unusedVariables false
noncomputable def Cf : Cfg := { fn := fnT.get, fnK := fnKT.get, ty := tyT.get, ext := fun g => bif Nat.beq g 93 then some φClone else bif Nat.beq g 86 then some φByte else none }
structure Push where
  To : Int
  Put : Int
def csPush (x : Push) : List (AV → Prop) := [(rI .i64) x.To, (rI .i64) x.Put]
def rPush (x : Push) : AV → Prop := rA (csPush x)
structure Checker where
  Stack : Int
  Start : Int
  Accept : List Bool
  Call : List (List Push)
  Return : List (List (List Int))
  Inner : List (List Int)
def csChecker (x : Checker) : List (AV → Prop) := [(rI .i64) x.Stack, (rI .i64) x.Start, (rL rB 1) x.Accept, (rL (rL rPush 2) 1) x.Call, (rL (rL (rL (rI .i64) 1) 1) 1) x.Return, (rL (rL (rI .i64) 1) 1) x.Inner]
def rChecker (x : Checker) : AV → Prop := rA (csChecker x)
structure Context where
  Front : List UInt8
  Back : List UInt8
def csContext (x : Context) : List (AV → Prop) := [rS x.Front, rS x.Back]
def rContext (x : Context) : AV → Prop := rA (csContext x)
structure Matching where
  partners : List Int
  returns : List Int
  calls : List Int
  depths : List Int
  parents : List Int
def csMatching (x : Matching) : List (AV → Prop) := [(rL (rI .i64) 1) x.partners, (rL (rI .i64) 1) x.returns, (rL (rI .i64) 1) x.calls, (rL (rI .i64) 1) x.depths, (rL (rI .i64) 1) x.parents]
def rMatching (x : Matching) : AV → Prop := rA (csMatching x)
structure Asker where
  c : Checker
  isLong : Bool
def csAsker (x : Asker) : List (AV → Prop) := [(rI .i64) x.c.Stack, (rI .i64) x.c.Start, (rL rB 1) x.c.Accept, (rL (rL rPush 2) 1) x.c.Call, (rL (rL (rL (rI .i64) 1) 1) 1) x.c.Return, (rL (rL (rI .i64) 1) 1) x.c.Inner, rB x.isLong]
def rAsker (x : Asker) : AV → Prop := rA (csAsker x)
def bPush (x : Push) : Prop := (bI .i64) x.To ∧ (bI .i64) x.Put
def smPush (x : Push) : Prop := smT x.To ∧ smT x.Put
def bChecker (x : Checker) : Prop := (bI .i64) x.Stack ∧ (bI .i64) x.Start ∧ (bL bB) x.Accept ∧ (bL (bL bPush)) x.Call ∧ (bL (bL (bL (bI .i64)))) x.Return ∧ (bL (bL (bI .i64))) x.Inner
def smChecker (x : Checker) : Prop := smT x.Stack ∧ smT x.Start ∧ (smL smT) x.Accept ∧ (smL (smL smT)) x.Call ∧ (smL (smL (smL smT))) x.Return ∧ (smL (smL smT)) x.Inner
def bContext (x : Context) : Prop := bS x.Front ∧ bS x.Back
def smContext (x : Context) : Prop := smS x.Front ∧ smS x.Back
def bMatching (x : Matching) : Prop := (bL (bI .i64)) x.partners ∧ (bL (bI .i64)) x.returns ∧ (bL (bI .i64)) x.calls ∧ (bL (bI .i64)) x.depths ∧ (bL (bI .i64)) x.parents
def smMatching (x : Matching) : Prop := (smL smT) x.partners ∧ (smL smT) x.returns ∧ (smL smT) x.calls ∧ (smL smT) x.depths ∧ (smL smT) x.parents
def bAsker (x : Asker) : Prop := bChecker x.c ∧ bB x.isLong
def smAsker (x : Asker) : Prop := smChecker x.c ∧ smT x.isLong

noncomputable def laws_szBoolS (a1 : List Bool) (left6 : Int) : Option Int :=
  if (decide ((IntKind.wrap .i64 (left6 - (a1.length : Int)) : Int) < 0)) = true then
    some (-1)
  else
    some (IntKind.wrap .i64 (left6 - (a1.length : Int)))

noncomputable def laws_szPushS (a1 : List Push) (left6 : Int) : Option Int :=
  if (decide ((IntKind.wrap .i64 (left6 - (a1.length : Int)) : Int) < 0)) = true then
    some (-1)
  else
    some (IntKind.wrap .i64 (left6 - (a1.length : Int)))

noncomputable def laws_szPushSS_J1 (left8 : Int) : Option Int :=
  some left8
noncomputable def laws_szPushSS_S1 (a1 : List (List Push)) : (Int × Int) → Option ((Int × Int) ⊕ Int) := fun (left10, i11) =>
  if (decide ((i11 : Int) < (a1.length : Int))) = true then
    ((ix a1 i11).bind fun x13 =>
    (laws_szPushS x13 left10).bind fun y22 =>
    if (decide ((y22 : Int) < 0)) = true then
      some (.inr ((-1)))
    else
      some (.inl (y22, IntKind.wrap .i64 (i11 + 1))))
  else
    ((laws_szPushSS_J1 left10).map Sum.inr)
noncomputable def laws_szPushSS (a1 : List (List Push)) (left6 : Int) : Option Int :=
  if (decide ((IntKind.wrap .i64 (left6 - (a1.length : Int)) : Int) < 0)) = true then
    some (-1)
  else
    loop (laws_szPushSS_S1 a1) (IntKind.wrap .i64 (left6 - (a1.length : Int)), 0)

noncomputable def laws_szInt64S (a1 : List Int) (left6 : Int) : Option Int :=
  if (decide ((IntKind.wrap .i64 (left6 - (a1.length : Int)) : Int) < 0)) = true then
    some (-1)
  else
    some (IntKind.wrap .i64 (left6 - (a1.length : Int)))

noncomputable def laws_szInt64SS_J1 (left8 : Int) : Option Int :=
  some left8
noncomputable def laws_szInt64SS_S1 (a1 : List (List Int)) : (Int × Int) → Option ((Int × Int) ⊕ Int) := fun (left10, i11) =>
  if (decide ((i11 : Int) < (a1.length : Int))) = true then
    ((ix a1 i11).bind fun x13 =>
    (laws_szInt64S x13 left10).bind fun y22 =>
    if (decide ((y22 : Int) < 0)) = true then
      some (.inr ((-1)))
    else
      some (.inl (y22, IntKind.wrap .i64 (i11 + 1))))
  else
    ((laws_szInt64SS_J1 left10).map Sum.inr)
noncomputable def laws_szInt64SS (a1 : List (List Int)) (left6 : Int) : Option Int :=
  if (decide ((IntKind.wrap .i64 (left6 - (a1.length : Int)) : Int) < 0)) = true then
    some (-1)
  else
    loop (laws_szInt64SS_S1 a1) (IntKind.wrap .i64 (left6 - (a1.length : Int)), 0)

noncomputable def laws_szInt64SSS_J1 (left8 : Int) : Option Int :=
  some left8
noncomputable def laws_szInt64SSS_S1 (a1 : List (List (List Int))) : (Int × Int) → Option ((Int × Int) ⊕ Int) := fun (left10, i11) =>
  if (decide ((i11 : Int) < (a1.length : Int))) = true then
    ((ix a1 i11).bind fun x13 =>
    (laws_szInt64SS x13 left10).bind fun y22 =>
    if (decide ((y22 : Int) < 0)) = true then
      some (.inr ((-1)))
    else
      some (.inl (y22, IntKind.wrap .i64 (i11 + 1))))
  else
    ((laws_szInt64SSS_J1 left10).map Sum.inr)
noncomputable def laws_szInt64SSS (a1 : List (List (List Int))) (left6 : Int) : Option Int :=
  if (decide ((IntKind.wrap .i64 (left6 - (a1.length : Int)) : Int) < 0)) = true then
    some (-1)
  else
    loop (laws_szInt64SSS_S1 a1) (IntKind.wrap .i64 (left6 - (a1.length : Int)), 0)

noncomputable def laws_szChecker (a1 : Checker) (left18 : Int) : Option Int :=
  (laws_szBoolS a1.Accept left18).bind fun y19 =>
  if (decide ((y19 : Int) < 0)) = true then
    some (-1)
  else
    ((laws_szPushSS a1.Call y19).bind fun y24 =>
    if (decide ((y24 : Int) < 0)) = true then
      some (-1)
    else
      ((laws_szInt64SSS a1.Return y24).bind fun y29 =>
      if (decide ((y29 : Int) < 0)) = true then
        some (-1)
      else
        ((laws_szInt64SS a1.Inner y29).bind fun y34 =>
        if (decide ((y34 : Int) < 0)) = true then
          some (-1)
        else
          some y34)))

noncomputable def laws_szContext (a1 : Context) (left2 : Int) : Option Int :=
  if (decide ((IntKind.wrap .i64 (left2 - (a1.Front.length : Int)) : Int) < 0)) = true then
    some (-1)
  else
    (if (decide ((IntKind.wrap .i64 ((IntKind.wrap .i64 (left2 - (a1.Front.length : Int))) - (a1.Back.length : Int)) : Int) < 0)) = true then
      some (-1)
    else
      some (IntKind.wrap .i64 ((IntKind.wrap .i64 (left2 - (a1.Front.length : Int))) - (a1.Back.length : Int))))

noncomputable def laws_szContextS_J1 (left8 : Int) : Option Int :=
  some left8
noncomputable def laws_szContextS_S1 (a1 : List Context) : (Int × Int) → Option ((Int × Int) ⊕ Int) := fun (left10, i11) =>
  if (decide ((i11 : Int) < (a1.length : Int))) = true then
    ((ix a1 i11).bind fun x13 =>
    (laws_szContext x13 left10).bind fun y23 =>
    if (decide ((y23 : Int) < 0)) = true then
      some (.inr ((-1)))
    else
      some (.inl (y23, IntKind.wrap .i64 (i11 + 1))))
  else
    ((laws_szContextS_J1 left10).map Sum.inr)
noncomputable def laws_szContextS (a1 : List Context) (left6 : Int) : Option Int :=
  if (decide ((IntKind.wrap .i64 (left6 - (a1.length : Int)) : Int) < 0)) = true then
    some (-1)
  else
    loop (laws_szContextS_S1 a1) (IntKind.wrap .i64 (left6 - (a1.length : Int)), 0)

noncomputable def laws_toBoolS_J1 (out13 : List Bool) : Option (List Bool) :=
  some out13
noncomputable def laws_toBoolS_S1 (a1 : List Bool) : ((List Bool) × Int) → Option (((List Bool) × Int) ⊕ (List Bool)) := fun (out22, i28) =>
  if (decide ((i28 : Int) < (a1.length : Int))) = true then
    ((ix a1 i28).bind fun x32 =>
    (ix out22 i28).bind fun x37 =>
    some (.inl ((out22.set (Int.toNat i28) x32), IntKind.wrap .i64 (i28 + 1))))
  else
    ((laws_toBoolS_J1 out22).map Sum.inr)
noncomputable def laws_toBoolS (a1 : List Bool) : Option (List Bool) :=
  (mk (false : Bool) (a1.length : Int)).bind fun l6 =>
  loop (laws_toBoolS_S1 a1) (l6, 0)

noncomputable def laws_toPush (a1 : Push) : Option Push :=
  some a1

noncomputable def laws_toPushS_J1 (out13 : List Push) : Option (List Push) :=
  some out13
noncomputable def laws_toPushS_S1 (a1 : List Push) : ((List Push) × Int) → Option (((List Push) × Int) ⊕ (List Push)) := fun (out22, i28) =>
  if (decide ((i28 : Int) < (a1.length : Int))) = true then
    ((ix a1 i28).bind fun x32 =>
    (laws_toPush x32).bind fun y42 =>
    (ix out22 i28).bind fun x51 =>
    some (.inl ((out22.set (Int.toNat i28) y42), IntKind.wrap .i64 (i28 + 1))))
  else
    ((laws_toPushS_J1 out22).map Sum.inr)
noncomputable def laws_toPushS (a1 : List Push) : Option (List Push) :=
  (mk ((⟨0, 0⟩ : Push) : Push) (a1.length : Int)).bind fun l6 =>
  loop (laws_toPushS_S1 a1) (l6, 0)

noncomputable def laws_toPushSS_J1 (out13 : List (List Push)) : Option (List (List Push)) :=
  some out13
noncomputable def laws_toPushSS_S1 (a1 : List (List Push)) : ((List (List Push)) × Int) → Option (((List (List Push)) × Int) ⊕ (List (List Push))) := fun (out22, i28) =>
  if (decide ((i28 : Int) < (a1.length : Int))) = true then
    ((ix a1 i28).bind fun x32 =>
    (laws_toPushS x32).bind fun y41 =>
    (ix out22 i28).bind fun x49 =>
    some (.inl ((out22.set (Int.toNat i28) y41), IntKind.wrap .i64 (i28 + 1))))
  else
    ((laws_toPushSS_J1 out22).map Sum.inr)
noncomputable def laws_toPushSS (a1 : List (List Push)) : Option (List (List Push)) :=
  (mk (([] : List Push) : List Push) (a1.length : Int)).bind fun l6 =>
  loop (laws_toPushSS_S1 a1) (l6, 0)

noncomputable def laws_toInt64S_J1 (out13 : List Int) : Option (List Int) :=
  some out13
noncomputable def laws_toInt64S_S1 (a1 : List Int) : ((List Int) × Int) → Option (((List Int) × Int) ⊕ (List Int)) := fun (out22, i28) =>
  if (decide ((i28 : Int) < (a1.length : Int))) = true then
    ((ix a1 i28).bind fun x32 =>
    (ix out22 i28).bind fun x37 =>
    some (.inl ((out22.set (Int.toNat i28) x32), IntKind.wrap .i64 (i28 + 1))))
  else
    ((laws_toInt64S_J1 out22).map Sum.inr)
noncomputable def laws_toInt64S (a1 : List Int) : Option (List Int) :=
  (mk (0 : Int) (a1.length : Int)).bind fun l6 =>
  loop (laws_toInt64S_S1 a1) (l6, 0)

noncomputable def laws_toInt64SS_J1 (out13 : List (List Int)) : Option (List (List Int)) :=
  some out13
noncomputable def laws_toInt64SS_S1 (a1 : List (List Int)) : ((List (List Int)) × Int) → Option (((List (List Int)) × Int) ⊕ (List (List Int))) := fun (out22, i28) =>
  if (decide ((i28 : Int) < (a1.length : Int))) = true then
    ((ix a1 i28).bind fun x32 =>
    (laws_toInt64S x32).bind fun y41 =>
    (ix out22 i28).bind fun x49 =>
    some (.inl ((out22.set (Int.toNat i28) y41), IntKind.wrap .i64 (i28 + 1))))
  else
    ((laws_toInt64SS_J1 out22).map Sum.inr)
noncomputable def laws_toInt64SS (a1 : List (List Int)) : Option (List (List Int)) :=
  (mk (([] : List Int) : List Int) (a1.length : Int)).bind fun l6 =>
  loop (laws_toInt64SS_S1 a1) (l6, 0)

noncomputable def laws_toInt64SSS_J1 (out13 : List (List (List Int))) : Option (List (List (List Int))) :=
  some out13
noncomputable def laws_toInt64SSS_S1 (a1 : List (List (List Int))) : ((List (List (List Int))) × Int) → Option (((List (List (List Int))) × Int) ⊕ (List (List (List Int)))) := fun (out22, i28) =>
  if (decide ((i28 : Int) < (a1.length : Int))) = true then
    ((ix a1 i28).bind fun x32 =>
    (laws_toInt64SS x32).bind fun y41 =>
    (ix out22 i28).bind fun x49 =>
    some (.inl ((out22.set (Int.toNat i28) y41), IntKind.wrap .i64 (i28 + 1))))
  else
    ((laws_toInt64SSS_J1 out22).map Sum.inr)
noncomputable def laws_toInt64SSS (a1 : List (List (List Int))) : Option (List (List (List Int))) :=
  (mk (([] : List (List Int)) : List (List Int)) (a1.length : Int)).bind fun l6 =>
  loop (laws_toInt64SSS_S1 a1) (l6, 0)

noncomputable def laws_toChecker (a1 : Checker) : Option Checker :=
  (laws_toBoolS a1.Accept).bind fun y31 =>
  (laws_toPushSS a1.Call).bind fun y44 =>
  (laws_toInt64SSS a1.Return).bind fun y57 =>
  (laws_toInt64SS a1.Inner).bind fun y70 =>
  some (⟨a1.Stack, a1.Start, y31, y44, y57, y70⟩ : Checker)

noncomputable def laws_toContext (a1 : Context) : Option Context :=
  some a1

noncomputable def laws_toContextS_J1 (out13 : List Context) : Option (List Context) :=
  some out13
noncomputable def laws_toContextS_S1 (a1 : List Context) : ((List Context) × Int) → Option (((List Context) × Int) ⊕ (List Context)) := fun (out22, i28) =>
  if (decide ((i28 : Int) < (a1.length : Int))) = true then
    ((ix a1 i28).bind fun x32 =>
    (laws_toContext x32).bind fun y42 =>
    (ix out22 i28).bind fun x51 =>
    some (.inl ((out22.set (Int.toNat i28) y42), IntKind.wrap .i64 (i28 + 1))))
  else
    ((laws_toContextS_J1 out22).map Sum.inr)
noncomputable def laws_toContextS (a1 : List Context) : Option (List Context) :=
  (mk ((⟨([] : List UInt8), ([] : List UInt8)⟩ : Context) : Context) (a1.length : Int)).bind fun l6 =>
  loop (laws_toContextS_S1 a1) (l6, 0)

noncomputable def spec_l00In (n1 : Int) (low2 : Int) (high3 : Int) : Option Bool :=
  some ((decide ((n1 : Int) ≥ low2)) && (decide ((n1 : Int) ≤ high3)))

noncomputable def spec_l02List_J1 : Option Bool :=
  some true
noncomputable def spec_l02List_S1 (list1 : List Int) (n7 : Int) : Int → Option (Int ⊕ Bool) := fun i10 =>
  if (decide ((i10 : Int) < (list1.length : Int))) = true then
    ((ix list1 i10).bind fun x12 =>
    (spec_l00In x12 0 (IntKind.wrap .i64 (n7 - 1))).bind fun y17 =>
    if (!y17) = true then
      some (.inr (false))
    else
      some (.inl (IntKind.wrap .i64 (i10 + 1))))
  else
    ((spec_l02List_J1).map Sum.inr)
noncomputable def spec_l02List (list1 : List Int) (length6 : Int) (n7 : Int) : Option Bool :=
  if ((list1.length : Int) != length6) = true then
    some false
  else
    loop (spec_l02List_S1 list1 n7) (0)

noncomputable def spec_l02Ok_J1 : Option Bool :=
  some true
noncomputable def spec_l02Ok_J2 (t39 : Int) : Option (Int ⊕ Bool) :=
  some (.inl (IntKind.wrap .i64 (t39 + 1)))
noncomputable def spec_l02Ok_S2 (p1 : Checker) (t39 : Int) : Int → Option (Int ⊕ (Int ⊕ Bool)) := fun t78 =>
  if (decide ((t78 : Int) < 2)) = true then
    ((ix p1.Call t39).bind fun x80 =>
    (ix x80 t78).bind fun x89 =>
    (spec_l00In x89.To 0 (IntKind.wrap .i64 ((p1.Accept.length : Int) - 1))).bind fun y99 =>
    (if (!y99) = true then
        some true
      else
        ((ix p1.Call t39).bind fun x105 =>
        (ix x105 t78).bind fun x114 =>
        (spec_l00In x114.Put 0 (IntKind.wrap .i64 (p1.Stack - 1))).bind fun y124 =>
        some (!y124))).bind fun b104 =>
    (if b104 = true then
        some true
      else
        ((ix p1.Return t39).bind fun x130 =>
        (ix x130 t78).bind fun x139 =>
        (spec_l02List x139 (IntKind.wrap .i64 (p1.Stack + 1)) (p1.Accept.length : Int)).bind fun y148 =>
        some (!y148))).bind fun b129 =>
    if b129 = true then
      some (.inr (.inr (false)))
    else
      some (.inl (IntKind.wrap .i64 (t78 + 1))))
  else
    ((spec_l02Ok_J2 t39).map Sum.inr)
noncomputable def spec_l02Ok_S1 (p1 : Checker) : Int → Option (Int ⊕ Bool) := fun t39 =>
  if (decide ((t39 : Int) < (p1.Accept.length : Int))) = true then
    ((ix p1.Call t39).bind fun x41 =>
    (if ((x41.length : Int) != 2) = true then
        some true
      else
        ((ix p1.Return t39).bind fun x52 =>
        some ((x52.length : Int) != 2))).bind fun b51 =>
    (if b51 = true then
        some true
      else
        ((ix p1.Inner t39).bind fun x63 =>
        (spec_l02List x63 2 (p1.Accept.length : Int)).bind fun y72 =>
        some (!y72))).bind fun b62 =>
    if b62 = true then
      some (.inr (false))
    else
      loop (spec_l02Ok_S2 p1 t39) (0))
  else
    ((spec_l02Ok_J1).map Sum.inr)
noncomputable def spec_l02Ok (p1 : Checker) : Option Bool :=
  (spec_l00In (p1.Accept.length : Int) 1 40).bind fun y18 =>
  (if (!y18) = true then
      some true
    else
      ((spec_l00In p1.Stack 1 80).bind fun y24 =>
      some (!y24))).bind fun b23 =>
  (if b23 = true then
      some true
    else
      ((spec_l00In p1.Start 0 (IntKind.wrap .i64 ((p1.Accept.length : Int) - 1))).bind fun y30 =>
      some (!y30))).bind fun b29 =>
  if (((b29 || ((p1.Call.length : Int) != (p1.Accept.length : Int))) || ((p1.Return.length : Int) != (p1.Accept.length : Int))) || ((p1.Inner.length : Int) != (p1.Accept.length : Int))) = true then
    some false
  else
    loop (spec_l02Ok_S1 p1) (0)

noncomputable def spec_l01Symbol_J1 : Option Int :=
  some (-1)
noncomputable def spec_l01Symbol_S1 (b1 : Int) : Int → Option (Int ⊕ Int) := fun k3 =>
  if (decide ((k3 : Int) < 6)) = true then
    ((chr ([40, 91, 41, 93, 97, 98] : List UInt8) k3).bind fun c5 =>
    if (c5 == b1) = true then
      some (.inr (k3))
    else
      some (.inl (IntKind.wrap .i64 (k3 + 1))))
  else
    ((spec_l01Symbol_J1).map Sum.inr)
noncomputable def spec_l01Symbol (b1 : Int) : Option Int :=
  loop (spec_l01Symbol_S1 b1) (0)

noncomputable def spec_l01Ok_J1 (w1 : List UInt8) : Option Bool :=
  some (decide (((w1.length : Int) : Int) ≤ 60))
noncomputable def spec_l01Ok_S1 (w1 : List UInt8) : Int → Option (Int ⊕ Bool) := fun i3 =>
  if (decide ((i3 : Int) < (w1.length : Int))) = true then
    ((chr w1 i3).bind fun c5 =>
    (spec_l01Symbol c5).bind fun y7 =>
    if (decide ((y7 : Int) < 0)) = true then
      some (.inr (false))
    else
      some (.inl (IntKind.wrap .i64 (i3 + 1))))
  else
    ((spec_l01Ok_J1 w1).map Sum.inr)
noncomputable def spec_l01Ok (w1 : List UInt8) : Option Bool :=
  loop (spec_l01Ok_S1 w1) (0)

noncomputable def spec_l01Call (b1 : Int) : Option Bool :=
  some ((b1 == 40) || (b1 == 91))

noncomputable def spec_l01Return (b1 : Int) : Option Bool :=
  some ((b1 == 41) || (b1 == 93))

noncomputable def spec_l01Partners_J1 (t2 : List Int) : Option (List Int) :=
  some t2
noncomputable def spec_l01Partners_J2 (t17 : Int) (t27 : List Int) (t33 : List Int) : Option (((List Int) × (List Int) × Int) ⊕ (List Int)) :=
  some (.inl (t27, t33, IntKind.wrap .i64 (t17 + 1)))
noncomputable def spec_l01Partners_S1 (p1 : List UInt8) : ((List Int) × (List Int) × Int) → Option (((List Int) × (List Int) × Int) ⊕ (List Int)) := fun (t9, t13, t17) =>
  if (decide ((t17 : Int) < (p1.length : Int))) = true then
    ((chr p1 t17).bind fun c21 =>
    (spec_l01Call c21).bind fun y23 =>
    if y23 = true then
      ((app t9 ([(-2)] : List Int)).bind fun l41 =>
      (app t13 ([t17] : List Int)).bind fun l49 =>
      spec_l01Partners_J2 t17 l41 l49)
    else
      ((chr p1 t17).bind fun c57 =>
      (spec_l01Return c57).bind fun y59 =>
      if (y59 && (decide (((t13.length : Int) : Int) > 0))) = true then
        ((ix t13 (IntKind.wrap .i64 ((t13.length : Int) - 1))).bind fun x65 =>
        (cut t13 0 (IntKind.wrap .i64 ((t13.length : Int) - 1))).bind fun l77 =>
        (ix t9 x65).bind fun x81 =>
        (app (t9.set (Int.toNat x65) t17) ([x65] : List Int)).bind fun l93 =>
        spec_l01Partners_J2 t17 l93 l77)
      else
        ((chr p1 t17).bind fun c101 =>
        (spec_l01Return c101).bind fun y103 =>
        if y103 = true then
          ((app t9 ([(-2)] : List Int)).bind fun l108 =>
          spec_l01Partners_J2 t17 l108 t13)
        else
          ((app t9 ([(-1)] : List Int)).bind fun l116 =>
          spec_l01Partners_J2 t17 l116 t13))))
  else
    ((spec_l01Partners_J1 t9).map Sum.inr)
noncomputable def spec_l01Partners (p1 : List UInt8) : Option (List Int) :=
  loop (spec_l01Partners_S1 p1) (([] : List Int), ([] : List Int), 0)

noncomputable def spec_l01Pending_J1 (returns10 : Int) (calls11 : Int) : Option (Int × Int) :=
  some (returns10, calls11)
noncomputable def spec_l01Pending_J3 (i15 : Int) (returns30 : Int) (calls45 : Int) : Option ((Int × Int × Int) ⊕ (Int × Int)) :=
  some (.inl (returns30, calls45, IntKind.wrap .i64 (i15 + 1)))
noncomputable def spec_l01Pending_J2 (w1 : List UInt8) (y2 : (List Int)) (calls14 : Int) (i15 : Int) (returns30 : Int) : Option ((Int × Int × Int) ⊕ (Int × Int)) :=
  (ix y2 i15).bind fun x32 =>
  (if (x32 == (-2)) = true then
      ((chr w1 i15).bind fun c39 =>
      (spec_l01Call c39).bind fun y41 =>
      some y41)
    else
      some false).bind fun b38 =>
  if b38 = true then
    spec_l01Pending_J3 i15 returns30 (IntKind.wrap .i64 (calls14 + 1))
  else
    spec_l01Pending_J3 i15 returns30 calls14
noncomputable def spec_l01Pending_S1 (w1 : List UInt8) (y2 : (List Int)) : (Int × Int × Int) → Option ((Int × Int × Int) ⊕ (Int × Int)) := fun (returns13, calls14, i15) =>
  if (decide ((i15 : Int) < (w1.length : Int))) = true then
    ((ix y2 i15).bind fun x17 =>
    (if (x17 == (-2)) = true then
        ((chr w1 i15).bind fun c24 =>
        (spec_l01Return c24).bind fun y26 =>
        some y26)
      else
        some false).bind fun b23 =>
    if b23 = true then
      spec_l01Pending_J2 w1 y2 calls14 i15 (IntKind.wrap .i64 (returns13 + 1))
    else
      spec_l01Pending_J2 w1 y2 calls14 i15 returns13)
  else
    ((spec_l01Pending_J1 returns13 calls14).map Sum.inr)
noncomputable def spec_l01Pending (w1 : List UInt8) : Option (Int × Int) :=
  (spec_l01Partners w1).bind fun y2 =>
  loop (spec_l01Pending_S1 w1 y2) (0, 0, 0)

noncomputable def spec_l01Matched (w1 : List UInt8) : Option Bool :=
  (spec_l01Pending w1).bind fun y2 =>
  some ((IntKind.wrap .i64 (y2.1 + y2.2)) == 0)

noncomputable def spec_l00Own (list1 : List Int) : Option (List Int) :=
  (app ([] : List Int) list1).bind fun l6 =>
  some l6

noncomputable def spec_l02Step (p1 : Checker) (p1_18 : Int) (p2_19 : List Int) (p3_24 : Int) : Option (Int × (List Int)) :=
  (spec_l01Symbol p3_24).bind fun y25 =>
  if (decide ((y25 : Int) < 2)) = true then
    ((ix p1.Call p1_18).bind fun x30 =>
    (ix x30 y25).bind fun x39 =>
    (spec_l00Own p2_19).bind fun y49 =>
    (app y49 ([x39.Put] : List Int)).bind fun l57 =>
    some (x39.To, l57))
  else
    (if ((decide ((y25 : Int) < 4)) && ((p2_19.length : Int) == 0)) = true then
      ((ix p1.Return p1_18).bind fun x63 =>
      (ix x63 (IntKind.wrap .i64 (y25 - 2))).bind fun x72 =>
      (ix x72 p1.Stack).bind fun x81 =>
      some (x81, ([] : List Int)))
    else
      (if (decide ((y25 : Int) < 4)) = true then
        ((ix p1.Return p1_18).bind fun x87 =>
        (ix x87 (IntKind.wrap .i64 (y25 - 2))).bind fun x96 =>
        (ix p2_19 (IntKind.wrap .i64 ((p2_19.length : Int) - 1))).bind fun x105 =>
        (ix x96 x105).bind fun x110 =>
        (cut p2_19 0 (IntKind.wrap .i64 ((p2_19.length : Int) - 1))).bind fun l115 =>
        (spec_l00Own l115).bind fun y121 =>
        some (x110, y121))
      else
        ((ix p1.Inner p1_18).bind fun x129 =>
        (ix x129 (IntKind.wrap .i64 (y25 - 4))).bind fun x138 =>
        some (x138, p2_19))))

noncomputable def spec_l02Go_J1 (state25 : Int) (stack26 : List Int) : Option (Int × (List Int)) :=
  some (state25, stack26)
noncomputable def spec_l02Go_S1 (c1 : Checker) (w24 : List UInt8) : (Int × (List Int) × Int) → Option ((Int × (List Int) × Int) ⊕ (Int × (List Int))) := fun (state32, stack33, i38) =>
  if (decide ((i38 : Int) < (w24.length : Int))) = true then
    ((chr w24 i38).bind fun c40 =>
    (spec_l02Step c1 state32 stack33 c40).bind fun y42 =>
    some (.inl (y42.1, y42.2, IntKind.wrap .i64 (i38 + 1))))
  else
    ((spec_l02Go_J1 state32 stack33).map Sum.inr)
noncomputable def spec_l02Go (c1 : Checker) (state18 : Int) (stack19 : List Int) (w24 : List UInt8) : Option (Int × (List Int)) :=
  loop (spec_l02Go_S1 c1 w24) (state18, stack19, 0)

noncomputable def spec_l02Takes (c1 : Checker) (w18 : List UInt8) : Option Bool :=
  (spec_l02Go c1 c1.Start ([] : List Int) w18).bind fun y19 =>
  (ix c1.Accept y19.1).bind fun x32 =>
  some x32

noncomputable def spec_l04Row_J1 (out24 : List Bool) : Option ((List Bool) × Bool) :=
  some (out24, true)
noncomputable def spec_l04Row_S1 (c1 : Checker) (u18 : List UInt8) (list19 : List Context) : ((List Bool) × Int) → Option (((List Bool) × Int) ⊕ ((List Bool) × Bool)) := fun (out32, i39) =>
  if (decide ((i39 : Int) < (list19.length : Int))) = true then
    ((ix list19 i39).bind fun x41 =>
    (app x41.Front u18).bind fun w51 =>
    (ix list19 i39).bind fun x53 =>
    (app w51 x53.Back).bind fun w63 =>
    if (decide (((w63.length : Int) : Int) > 60)) = true then
      some (.inr ((([] : List Bool), false)))
    else
      ((spec_l02Takes c1 w63).bind fun y66 =>
      (app out32 ([y66] : List Bool)).bind fun l70 =>
      some (.inl (l70, IntKind.wrap .i64 (i39 + 1)))))
  else
    ((spec_l04Row_J1 out32).map Sum.inr)
noncomputable def spec_l04Row (c1 : Checker) (u18 : List UInt8) (list19 : List Context) : Option ((List Bool) × Bool) :=
  loop (spec_l04Row_S1 c1 u18 list19) (([] : List Bool), 0)

noncomputable def spec_RowOf_J1 (c1 : Checker) (u18 : List UInt8) (list19 : List Context) (ok35 : Bool) : Option ((List Bool) × Int) :=
  if (!ok35) = true then
    some (([] : List Bool), 2)
  else
    ((spec_l01Matched u18).bind fun y38 =>
    if (!y38) = true then
      some (([] : List Bool), 4)
    else
      ((spec_l04Row c1 u18 list19).bind fun y43 =>
      if (!y43.2) = true then
        some (([] : List Bool), 3)
      else
        some (y43.1, 0)))
noncomputable def spec_RowOf_S1 (c1 : Checker) (u18 : List UInt8) (list19 : List Context) : (Bool × Int) → Option ((Bool × Int) ⊕ ((List Bool) × Int)) := fun (ok57, i58) =>
  if ((decide ((i58 : Int) < (list19.length : Int))) && ok57) = true then
    ((ix list19 i58).bind fun x61 =>
    (spec_l01Ok x61.Front).bind fun y71 =>
    (if y71 = true then
        ((ix list19 i58).bind fun x77 =>
        (spec_l01Ok x77.Back).bind fun y87 =>
        some y87)
      else
        some false).bind fun b76 =>
    some (.inl (b76, IntKind.wrap .i64 (i58 + 1))))
  else
    ((spec_RowOf_J1 c1 u18 list19 ok57).map Sum.inr)
noncomputable def spec_RowOf (c1 : Checker) (u18 : List UInt8) (list19 : List Context) : Option ((List Bool) × Int) :=
  (spec_l02Ok c1).bind fun y24 =>
  (if (!y24) = true then
      some true
    else
      ((spec_l01Ok u18).bind fun y30 =>
      some (!y30))).bind fun b29 =>
  if b29 = true then
    some (([] : List Bool), 1)
  else
    loop (spec_RowOf_S1 c1 u18 list19) (decide (((list19.length : Int) : Int) ≤ 40), 0)

noncomputable def laws_toBoolS_K0_J1 (out15 : List Bool) : Option (List Bool) :=
  some out15
noncomputable def laws_toBoolS_K0_S1 (a1 : List Bool) : ((List Bool) × Int) → Option (((List Bool) × Int) ⊕ (List Bool)) := fun (out21, i22) =>
  if (decide ((i22 : Int) < (a1.length : Int))) = true then
    ((ix a1 i22).bind fun x28 =>
    (ix out21 i22).bind fun x35 =>
    some (.inl ((out21.set (Int.toNat i22) x28), IntKind.wrap .i64 (i22 + 1))))
  else
    ((laws_toBoolS_K0_J1 out21).map Sum.inr)
noncomputable def laws_toBoolS_K0 (a1 : List Bool) : Option (List Bool) :=
  (mk (false : Bool) (a1.length : Int)).bind fun l6 =>
  loop (laws_toBoolS_K0_S1 a1) (l6, 0)

noncomputable def laws_toPushS_K0_J1 (out15 : List Push) : Option (List Push) :=
  some out15
noncomputable def laws_toPushS_K0_S1 (a1 : List Push) : ((List Push) × Int) → Option (((List Push) × Int) ⊕ (List Push)) := fun (out21, i22) =>
  if (decide ((i22 : Int) < (a1.length : Int))) = true then
    ((ix a1 i22).bind fun x28 =>
    (laws_toPush x28).bind fun y38 =>
    (ix out21 i22).bind fun x49 =>
    some (.inl ((out21.set (Int.toNat i22) y38), IntKind.wrap .i64 (i22 + 1))))
  else
    ((laws_toPushS_K0_J1 out21).map Sum.inr)
noncomputable def laws_toPushS_K0 (a1 : List Push) : Option (List Push) :=
  (mk ((⟨0, 0⟩ : Push) : Push) (a1.length : Int)).bind fun l6 =>
  loop (laws_toPushS_K0_S1 a1) (l6, 0)

noncomputable def laws_toPushSS_K0_J1 (out15 : List (List Push)) : Option (List (List Push)) :=
  some out15
noncomputable def laws_toPushSS_K0_S1 (a1 : List (List Push)) : ((List (List Push)) × Int) → Option (((List (List Push)) × Int) ⊕ (List (List Push))) := fun (out22, i24) =>
  if (decide ((i24 : Int) < (a1.length : Int))) = true then
    ((ix a1 i24).bind fun x30 =>
    (laws_toPushS_K0 x30).bind fun y39 =>
    (ix out22 i24).bind fun x59 =>
    some (.inl ((out22.set (Int.toNat i24) y39), IntKind.wrap .i64 (i24 + 1))))
  else
    ((laws_toPushSS_K0_J1 out22).map Sum.inr)
noncomputable def laws_toPushSS_K0 (a1 : List (List Push)) : Option (List (List Push)) :=
  (mk (([] : List Push) : List Push) (a1.length : Int)).bind fun l6 =>
  loop (laws_toPushSS_K0_S1 a1) (l6, 0)

noncomputable def laws_toInt64S_K0_J1 (out15 : List Int) : Option (List Int) :=
  some out15
noncomputable def laws_toInt64S_K0_S1 (a1 : List Int) : ((List Int) × Int) → Option (((List Int) × Int) ⊕ (List Int)) := fun (out21, i22) =>
  if (decide ((i22 : Int) < (a1.length : Int))) = true then
    ((ix a1 i22).bind fun x28 =>
    (ix out21 i22).bind fun x35 =>
    some (.inl ((out21.set (Int.toNat i22) x28), IntKind.wrap .i64 (i22 + 1))))
  else
    ((laws_toInt64S_K0_J1 out21).map Sum.inr)
noncomputable def laws_toInt64S_K0 (a1 : List Int) : Option (List Int) :=
  (mk (0 : Int) (a1.length : Int)).bind fun l6 =>
  loop (laws_toInt64S_K0_S1 a1) (l6, 0)

noncomputable def laws_toInt64SS_K0_J1 (out15 : List (List Int)) : Option (List (List Int)) :=
  some out15
noncomputable def laws_toInt64SS_K0_S1 (a1 : List (List Int)) : ((List (List Int)) × Int) → Option (((List (List Int)) × Int) ⊕ (List (List Int))) := fun (out22, i24) =>
  if (decide ((i24 : Int) < (a1.length : Int))) = true then
    ((ix a1 i24).bind fun x30 =>
    (laws_toInt64S_K0 x30).bind fun y39 =>
    (ix out22 i24).bind fun x59 =>
    some (.inl ((out22.set (Int.toNat i24) y39), IntKind.wrap .i64 (i24 + 1))))
  else
    ((laws_toInt64SS_K0_J1 out22).map Sum.inr)
noncomputable def laws_toInt64SS_K0 (a1 : List (List Int)) : Option (List (List Int)) :=
  (mk (([] : List Int) : List Int) (a1.length : Int)).bind fun l6 =>
  loop (laws_toInt64SS_K0_S1 a1) (l6, 0)

noncomputable def laws_toInt64SSS_K0_J1 (out15 : List (List (List Int))) : Option (List (List (List Int))) :=
  some out15
noncomputable def laws_toInt64SSS_K0_S1 (a1 : List (List (List Int))) : ((List (List (List Int))) × Int) → Option (((List (List (List Int))) × Int) ⊕ (List (List (List Int)))) := fun (out22, i24) =>
  if (decide ((i24 : Int) < (a1.length : Int))) = true then
    ((ix a1 i24).bind fun x30 =>
    (laws_toInt64SS_K0 x30).bind fun y39 =>
    (ix out22 i24).bind fun x59 =>
    some (.inl ((out22.set (Int.toNat i24) y39), IntKind.wrap .i64 (i24 + 1))))
  else
    ((laws_toInt64SSS_K0_J1 out22).map Sum.inr)
noncomputable def laws_toInt64SSS_K0 (a1 : List (List (List Int))) : Option (List (List (List Int))) :=
  (mk (([] : List (List Int)) : List (List Int)) (a1.length : Int)).bind fun l6 =>
  loop (laws_toInt64SSS_K0_S1 a1) (l6, 0)

noncomputable def laws_toChecker_K0 (a1 : Checker) : Option Checker :=
  (laws_toBoolS_K0 a1.Accept).bind fun y31 =>
  (laws_toPushSS_K0 a1.Call).bind fun y54 =>
  (laws_toInt64SSS_K0 a1.Return).bind fun y77 =>
  (laws_toInt64SS_K0 a1.Inner).bind fun y100 =>
  some (⟨a1.Stack, a1.Start, y31, y54, y77, y100⟩ : Checker)

noncomputable def laws_toContextS_K0_J1 (out15 : List Context) : Option (List Context) :=
  some out15
noncomputable def laws_toContextS_K0_S1 (a1 : List Context) : ((List Context) × Int) → Option (((List Context) × Int) ⊕ (List Context)) := fun (out21, i22) =>
  if (decide ((i22 : Int) < (a1.length : Int))) = true then
    ((ix a1 i22).bind fun x28 =>
    (laws_toContext x28).bind fun y38 =>
    (ix out21 i22).bind fun x49 =>
    some (.inl ((out21.set (Int.toNat i22) y38), IntKind.wrap .i64 (i22 + 1))))
  else
    ((laws_toContextS_K0_J1 out21).map Sum.inr)
noncomputable def laws_toContextS_K0 (a1 : List Context) : Option (List Context) :=
  (mk ((⟨([] : List UInt8), ([] : List UInt8)⟩ : Context) : Context) (a1.length : Int)).bind fun l6 =>
  loop (laws_toContextS_K0_S1 a1) (l6, 0)

noncomputable def impl_size_bool (list1 : List Bool) : Option Int :=
  some (list1.length : Int)

noncomputable def impl_within (n1 : Int) (low2 : Int) (high3 : Int) : Option Bool :=
  some ((decide ((n1 : Int) ≥ low2)) && (decide ((n1 : Int) ≤ high3)))

noncomputable def impl_Checker_isState (c1 : Checker) (s18 : Int) : Option Bool :=
  (impl_size_bool c1.Accept).bind fun y19 =>
  (impl_within s18 0 (IntKind.wrap .i64 (y19 - 1))).bind fun y23 =>
  some y23

noncomputable def impl_size_simpl_Push (list1 : List (List Push)) : Option Int :=
  some (list1.length : Int)

noncomputable def impl_size_s_int64 (list1 : List (List (List Int))) : Option Int :=
  some (list1.length : Int)

noncomputable def impl_size_sint64 (list1 : List (List Int)) : Option Int :=
  some (list1.length : Int)

noncomputable def impl_size_int64 (list1 : List Int) : Option Int :=
  some (list1.length : Int)

noncomputable def slices_IndexFunc_sint64_int64_J1 : Option Int :=
  some (-1)
noncomputable def slices_IndexFunc_sint64_int64_S1 (s1 : List Int) (f6 : Int → Option Bool) : Int → Option (Int ⊕ Int) := fun t11 =>
  if (decide ((t11 : Int) < (s1.length : Int))) = true then
    ((ix s1 t11).bind fun x13 =>
    (f6 x13).bind fun y18 =>
    if y18 = true then
      some (.inr (t11))
    else
      some (.inl (IntKind.wrap .i64 (t11 + 1))))
  else
    ((slices_IndexFunc_sint64_int64_J1).map Sum.inr)
noncomputable def slices_IndexFunc_sint64_int64 (s1 : List Int) (f6 : Int → Option Bool) : Option Int :=
  loop (slices_IndexFunc_sint64_int64_S1 s1 f6) (0)

noncomputable def slices_ContainsFunc_sint64_int64 (s1 : List Int) (f6 : Int → Option Bool) : Option Bool :=
  (slices_IndexFunc_sint64_int64 s1 f6).bind fun y10 =>
  some (decide ((y10 : Int) ≥ 0))

noncomputable def impl_ValidChecker_1_1 (s1 : Int) (c2 : Checker) : Option Bool :=
  (impl_Checker_isState c2 s1).bind fun y19 =>
  some (!y19)

noncomputable def impl_ValidChecker_1 (list1 : List Int) (many6 : Int) (c7 : Checker) : Option Bool :=
  (impl_size_int64 list1).bind fun y24 =>
  (if (y24 == many6) = true then
      ((slices_ContainsFunc_sint64_int64 list1 (fun x => impl_ValidChecker_1_1 x c7)).bind fun y30 =>
      some (!y30))
    else
      some false).bind fun b29 =>
  some b29

noncomputable def impl_Checker_isMark (c1 : Checker) (x18 : Int) : Option Bool :=
  (impl_within x18 0 (IntKind.wrap .i64 (c1.Stack - 1))).bind fun y19 =>
  some y19

noncomputable def impl_ValidChecker_J1 : Option Bool :=
  some true
noncomputable def impl_ValidChecker_J2 (t58 : Int) : Option (Int ⊕ Bool) :=
  some (.inl (IntKind.wrap .i64 (t58 + 1)))
noncomputable def impl_ValidChecker_S2 (p1 : Checker) (t58 : Int) : Int → Option (Int ⊕ (Int ⊕ Bool)) := fun t97 =>
  if (decide ((t97 : Int) < 2)) = true then
    ((ix p1.Call t58).bind fun x99 =>
    (ix x99 t97).bind fun x108 =>
    (impl_Checker_isState p1 x108.To).bind fun y118 =>
    (if (!y118) = true then
        some true
      else
        ((impl_Checker_isMark p1 x108.Put).bind fun y124 =>
        some (!y124))).bind fun b123 =>
    (if b123 = true then
        some true
      else
        ((ix p1.Return t58).bind fun x130 =>
        (ix x130 t97).bind fun x139 =>
        (impl_ValidChecker_1 x139 (IntKind.wrap .i64 (p1.Stack + 1)) p1).bind fun y148 =>
        some (!y148))).bind fun b129 =>
    if b129 = true then
      some (.inr (.inr (false)))
    else
      some (.inl (IntKind.wrap .i64 (t97 + 1))))
  else
    ((impl_ValidChecker_J2 t58).map Sum.inr)
noncomputable def impl_ValidChecker_S1 (p1 : Checker) (y18 : Int) : Int → Option (Int ⊕ Bool) := fun t58 =>
  if (decide ((t58 : Int) < y18)) = true then
    ((ix p1.Call t58).bind fun x60 =>
    (if ((x60.length : Int) != 2) = true then
        some true
      else
        ((ix p1.Return t58).bind fun x71 =>
        some ((x71.length : Int) != 2))).bind fun b70 =>
    (if b70 = true then
        some true
      else
        ((ix p1.Inner t58).bind fun x82 =>
        (impl_ValidChecker_1 x82 2 p1).bind fun y91 =>
        some (!y91))).bind fun b81 =>
    if b81 = true then
      some (.inr (false))
    else
      loop (impl_ValidChecker_S2 p1 t58) (0))
  else
    ((impl_ValidChecker_J1).map Sum.inr)
noncomputable def impl_ValidChecker (p1 : Checker) : Option Bool :=
  (impl_size_bool p1.Accept).bind fun y18 =>
  (impl_within y18 1 40).bind fun y22 =>
  (if (!y22) = true then
      some true
    else
      ((impl_within p1.Stack 1 80).bind fun y28 =>
      some (!y28))).bind fun b27 =>
  (if b27 = true then
      some true
    else
      ((impl_Checker_isState p1 p1.Start).bind fun y34 =>
      some (!y34))).bind fun b33 =>
  (if b33 = true then
      some true
    else
      ((impl_size_simpl_Push p1.Call).bind fun y40 =>
      some (y40 != y18))).bind fun b39 =>
  (if b39 = true then
      some true
    else
      ((impl_size_s_int64 p1.Return).bind fun y46 =>
      some (y46 != y18))).bind fun b45 =>
  (if b45 = true then
      some true
    else
      ((impl_size_sint64 p1.Inner).bind fun y52 =>
      some (y52 != y18))).bind fun b51 =>
  if b51 = true then
    some false
  else
    loop (impl_ValidChecker_S1 p1 y18) (0)

noncomputable def internal_stringslite_IndexByte (s1 : List UInt8) (c2 : Int) : Option Int :=
  (ixByteM s1 c2).bind fun y3 =>
  some y3

noncomputable def strings_IndexByte (s1 : List UInt8) (c2 : Int) : Option Int :=
  (internal_stringslite_IndexByte s1 c2).bind fun y3 =>
  some y3

noncomputable def impl_ValidWord_J1 (w1 : List UInt8) : Option Bool :=
  some (decide (((w1.length : Int) : Int) ≤ 60))
noncomputable def impl_ValidWord_S1 (w1 : List UInt8) : Int → Option (Int ⊕ Bool) := fun t3 =>
  if (decide ((t3 : Int) < (w1.length : Int))) = true then
    ((chr w1 t3).bind fun c5 =>
    (strings_IndexByte ([40, 91, 41, 93, 97, 98] : List UInt8) c5).bind fun y7 =>
    if (decide ((y7 : Int) < 0)) = true then
      some (.inr (false))
    else
      some (.inl (IntKind.wrap .i64 (t3 + 1))))
  else
    ((impl_ValidWord_J1 w1).map Sum.inr)
noncomputable def impl_ValidWord (w1 : List UInt8) : Option Bool :=
  loop (impl_ValidWord_S1 w1) (0)

noncomputable def slices_IndexFunc_simpl_Context_impl_Context_J1 : Option Int :=
  some (-1)
noncomputable def slices_IndexFunc_simpl_Context_impl_Context_S1 (s1 : List Context) (f6 : Context → Option Bool) : Int → Option (Int ⊕ Int) := fun t11 =>
  if (decide ((t11 : Int) < (s1.length : Int))) = true then
    ((ix s1 t11).bind fun x13 =>
    (f6 x13).bind fun y23 =>
    if y23 = true then
      some (.inr (t11))
    else
      some (.inl (IntKind.wrap .i64 (t11 + 1))))
  else
    ((slices_IndexFunc_simpl_Context_impl_Context_J1).map Sum.inr)
noncomputable def slices_IndexFunc_simpl_Context_impl_Context (s1 : List Context) (f6 : Context → Option Bool) : Option Int :=
  loop (slices_IndexFunc_simpl_Context_impl_Context_S1 s1 f6) (0)

noncomputable def slices_ContainsFunc_simpl_Context_impl_Context (s1 : List Context) (f6 : Context → Option Bool) : Option Bool :=
  (slices_IndexFunc_simpl_Context_impl_Context s1 f6).bind fun y10 =>
  some (decide ((y10 : Int) ≥ 0))

noncomputable def impl_RowOf_1 (x1 : Context) : Option Bool :=
  (impl_ValidWord x1.Front).bind fun y2 =>
  (if (!y2) = true then
      some true
    else
      ((impl_ValidWord x1.Back).bind fun y8 =>
      some (!y8))).bind fun b7 =>
  some b7

noncomputable def impl_isReturn (c1 : Int) : Option Bool :=
  some ((c1 == 41) || (c1 == 93))

noncomputable def impl_isCall (c1 : Int) : Option Bool :=
  some ((c1 == 40) || (c1 == 91))

noncomputable def impl_size_int64_d (list1 : List Int) : Option Int :=
  some (list1.length : Int)

noncomputable def impl_match_J1 (m11 : List Int) (m15 : List Int) (m21 : List Int) (m25 : List Int) (m31 : List Int) : Option Matching :=
  some (⟨m11, m15, m21, m25, m31⟩ : Matching)
noncomputable def impl_match_J4 (m55 : List Int) (m61 : List Int) (t67 : Int) (m79 : List Int) (m83 : List Int) (t102 : Int) (m114 : List Int) (t120 : Int) : Option (((List Int) × (List Int) × (List Int) × (List Int) × (List Int) × Int) ⊕ Matching) :=
  (app m79 ([t120] : List Int)).bind fun l124 =>
  (app m61 ([t102] : List Int)).bind fun l138 =>
  (impl_size_int64_d m114).bind fun y158 =>
  (app m55 ([y158] : List Int)).bind fun l162 =>
  some (.inl (l124, m83, m114, l162, l138, IntKind.wrap .i64 (t67 + 1)))
noncomputable def impl_match_J3 (p1 : List UInt8) (m55 : List Int) (m61 : List Int) (t67 : Int) (m79 : List Int) (m83 : List Int) (m89 : List Int) (t95 : Int) (t102 : Int) : Option (((List Int) × (List Int) × (List Int) × (List Int) × (List Int) × Int) ⊕ Matching) :=
  (chr p1 t67).bind fun c106 =>
  (impl_isCall c106).bind fun y108 =>
  if y108 = true then
    ((app m89 ([t67] : List Int)).bind fun l172 =>
    impl_match_J4 m55 m61 t67 m79 m83 t102 l172 (-2))
  else
    impl_match_J4 m55 m61 t67 m79 m83 t102 m89 t95
noncomputable def impl_match_J2 (p1 : List UInt8) (m55 : List Int) (m61 : List Int) (t67 : Int) (m79 : List Int) (m83 : List Int) (m89 : List Int) (t95 : Int) : Option (((List Int) × (List Int) × (List Int) × (List Int) × (List Int) × Int) ⊕ Matching) :=
  if (decide (((m89.length : Int) : Int) > 0)) = true then
    ((ix m89 (IntKind.wrap .i64 ((m89.length : Int) - 1))).bind fun x186 =>
    impl_match_J3 p1 m55 m61 t67 m79 m83 m89 t95 x186)
  else
    impl_match_J3 p1 m55 m61 t67 m79 m83 m89 t95 (-1)
noncomputable def impl_match_S1 (p1 : List UInt8) : ((List Int) × (List Int) × (List Int) × (List Int) × (List Int) × Int) → Option (((List Int) × (List Int) × (List Int) × (List Int) × (List Int) × Int) ⊕ Matching) := fun (m41, m45, m51, m55, m61, t67) =>
  if (decide ((t67 : Int) < (p1.length : Int))) = true then
    ((chr p1 t67).bind fun c71 =>
    (impl_isReturn c71).bind fun y73 =>
    if (y73 && ((m51.length : Int) == 0)) = true then
      ((app m45 ([t67] : List Int)).bind fun l205 =>
      impl_match_J2 p1 m55 m61 t67 m41 l205 m51 (-2))
    else
      ((chr p1 t67).bind fun c214 =>
      (impl_isReturn c214).bind fun y216 =>
      if y216 = true then
        ((ix m51 (IntKind.wrap .i64 ((m51.length : Int) - 1))).bind fun x221 =>
        (ix m41 x221).bind fun x233 =>
        (cut m51 0 (IntKind.wrap .i64 ((m51.length : Int) - 1))).bind fun l245 =>
        impl_match_J2 p1 m55 m61 t67 (m41.set (Int.toNat x221) t67) m45 l245 x221)
      else
        impl_match_J2 p1 m55 m61 t67 m41 m45 m51 (-1)))
  else
    ((impl_match_J1 m41 m45 m51 m55 m61).map Sum.inr)
noncomputable def impl_match (p1 : List UInt8) : Option Matching :=
  loop (impl_match_S1 p1) (([] : List Int), ([] : List Int), ([] : List Int), ([0] : List Int), ([] : List Int), 0)

noncomputable def impl_isMatched (w1 : List UInt8) : Option Bool :=
  (impl_match w1).bind fun y2 =>
  some ((IntKind.wrap .i64 ((y2.returns.length : Int) + (y2.calls.length : Int))) == 0)

noncomputable def impl_Context_around (x1 : Context) (u2 : List UInt8) : Option (List UInt8) :=
  (app x1.Front u2).bind fun w3 =>
  (app w3 x1.Back).bind fun w5 =>
  some w5

noncomputable def impl_Checker_end_1_F1 (s1 : Int) (rest2 : List Int) (c710 : Int) (c1114 : List Int) : Option (Unit × Int × (List Int)) :=
  some ((), s1, rest2)

noncomputable def impl_kindOf (c1 : Int) : Option Int :=
  (strings_IndexByte ([40, 91, 41, 93, 97, 98] : List UInt8) c1).bind fun y2 =>
  (remI .i64 y2 2).bind fun q6 =>
  some q6

noncomputable def impl_isInner (c1 : Int) : Option Bool :=
  some ((c1 == 97) || (c1 == 98))

noncomputable def impl_Checker_step_J1 (p1 : Checker) (p1_18 : Int) (y25 : Int) (t84 : List Int) (t89 : Int) : Option (Int × (List Int)) :=
  (ix p1.Return p1_18).bind fun x91 =>
  (ix x91 y25).bind fun x100 =>
  (ix x100 t89).bind fun x109 =>
  some (x109, t84)
noncomputable def impl_Checker_step (p1 : Checker) (p1_18 : Int) (p2_19 : List Int) (p3_24 : Int) : Option (Int × (List Int)) :=
  (impl_kindOf p3_24).bind fun y25 =>
  (impl_isCall p3_24).bind fun y29 =>
  if y29 = true then
    ((ix p1.Call p1_18).bind fun x34 =>
    (ix x34 y25).bind fun x43 =>
    (cloneI p2_19).bind fun y53 =>
    (app y53 ([x43.Put] : List Int)).bind fun l61 =>
    some (x43.To, l61))
  else
    ((impl_isInner p3_24).bind fun y65 =>
    if y65 = true then
      ((ix p1.Inner p1_18).bind fun x70 =>
      (ix x70 y25).bind fun x79 =>
      some (x79, p2_19))
    else
      (if (decide (((p2_19.length : Int) : Int) > 0)) = true then
        ((ix p2_19 (IntKind.wrap .i64 ((p2_19.length : Int) - 1))).bind fun x115 =>
        (cut p2_19 0 (IntKind.wrap .i64 ((p2_19.length : Int) - 1))).bind fun l120 =>
        impl_Checker_step_J1 p1 p1_18 y25 l120 x115)
      else
        impl_Checker_step_J1 p1 p1_18 y25 p2_19 p1.Stack))

noncomputable def impl_Checker_run_F1_J1 (m53 : Int) (m55 : List Int) : Option (Unit × Int × (List Int)) :=
  some ((), m53, m55)
noncomputable def impl_Checker_run_F1_S1 (c1 : Checker) (w24 : List UInt8) : (Int × (List Int) × Int × (List Int) × Int) → Option ((Int × (List Int) × Int × (List Int) × Int) ⊕ (Unit × Int × (List Int))) := fun (state63, stack64, m70, m72, t77) =>
  if (decide ((t77 : Int) < (w24.length : Int))) = true then
    ((chr w24 t77).bind fun c81 =>
    (impl_Checker_step c1 state63 stack64 c81).bind fun y83 =>
    (impl_Checker_end_1_F1 y83.1 y83.2 m70 m72).bind fun y96 =>
    some (.inl (y83.1, y83.2, y96.2.1, y96.2.2, IntKind.wrap .i64 (t77 + 1))))
  else
    ((impl_Checker_run_F1_J1 m70 m72).map Sum.inr)
noncomputable def impl_Checker_run_F1 (c1 : Checker) (state18 : Int) (stack19 : List Int) (w24 : List UInt8) (c2629 : Int) (c3033 : List Int) : Option (Unit × Int × (List Int)) :=
  (impl_Checker_end_1_F1 state18 stack19 c2629 c3033).bind fun y38 =>
  loop (impl_Checker_run_F1_S1 c1 w24) (state18, stack19, y38.2.1, y38.2.2, 0)

noncomputable def impl_Checker_end (c1 : Checker) (state18 : Int) (stack19 : List Int) (w24 : List UInt8) : Option (Int × (List Int)) :=
  (impl_Checker_run_F1 c1 state18 stack19 w24 state18 stack19).bind fun y31 =>
  some (y31.2.1, y31.2.2)

noncomputable def impl_Checker_takes (c1 : Checker) (w18 : List UInt8) : Option Bool :=
  (impl_Checker_end c1 c1.Start ([] : List Int) w18).bind fun y19 =>
  (ix c1.Accept y19.1).bind fun x32 =>
  some x32

noncomputable def impl_asker_takes_F1 (a14 : Int) (a15 : Int) (a16 : List Bool) (a111 : List (List Push)) (a116 : List (List (List Int))) (a121 : List (List Int)) (a126 : Bool) (w27 : List UInt8) : Option (Bool × Bool) :=
  if (decide (((w27.length : Int) : Int) > 60)) = true then
    some (false, true)
  else
    ((impl_Checker_takes (⟨a14, a15, a16, a111, a116, a121⟩ : Checker) w27).bind fun y34 =>
    some (y34, a126))

noncomputable def impl_asker_row_K100_J1 (m33 : Bool) (out34 : List Bool) : Option ((List Bool) × Bool) :=
  some (out34, m33)
noncomputable def impl_asker_row_K100_S1 (a3 : Int) (a4 : Int) (a5 : List Bool) (a10 : List (List Push)) (a15 : List (List (List Int))) (a20 : List (List Int)) (u26 : List UInt8) (list27 : List Context) : (Bool × (List Bool) × Int) → Option ((Bool × (List Bool) × Int) ⊕ ((List Bool) × Bool)) := fun (m44, out45, t49) =>
  if (decide ((t49 : Int) < (list27.length : Int))) = true then
    ((ix list27 t49).bind fun x55 =>
    (impl_Context_around x55 u26).bind fun y65 =>
    (impl_asker_takes_F1 a3 a4 a5 a10 a15 a20 m44 y65).bind fun y69 =>
    (app out45 ([y69.1] : List Bool)).bind fun l78 =>
    some (.inl (y69.2, l78, IntKind.wrap .i64 (t49 + 1))))
  else
    ((impl_asker_row_K100_J1 m44 out45).map Sum.inr)
noncomputable def impl_asker_row_K100 (a3 : Int) (a4 : Int) (a5 : List Bool) (a10 : List (List Push)) (a15 : List (List (List Int))) (a20 : List (List Int)) (a25 : Bool) (u26 : List UInt8) (list27 : List Context) : Option ((List Bool) × Bool) :=
  loop (impl_asker_row_K100_S1 a3 a4 a5 a10 a15 a20 u26 list27) (a25, ([] : List Bool), 0)

noncomputable def impl_RowOf_K000 (c1 : Checker) (u18 : List UInt8) (list19 : List Context) : Option ((List Bool) × Int) :=
  (impl_ValidChecker c1).bind fun y24 =>
  (if (!y24) = true then
      some true
    else
      ((impl_ValidWord u18).bind fun y30 =>
      some (!y30))).bind fun b29 =>
  if b29 = true then
    some (([] : List Bool), 1)
  else
    ((if (decide (((list19.length : Int) : Int) > 40)) = true then
        some true
      else
        ((slices_ContainsFunc_simpl_Context_impl_Context list19 (fun x => impl_RowOf_1 x)).bind fun y44 =>
        some y44)).bind fun b38 =>
    if b38 = true then
      some (([] : List Bool), 2)
    else
      ((impl_isMatched u18).bind fun y51 =>
      if (!y51) = true then
        some (([] : List Bool), 4)
      else
        ((impl_asker_row_K100 c1.Stack c1.Start c1.Accept c1.Call c1.Return c1.Inner false u18 list19).bind fun y61 =>
        if y61.2 = true then
          some (([] : List Bool), 3)
        else
          some (y61.1, 0))))

noncomputable def laws_eqBoolS_J1 : Option Bool :=
  some true
noncomputable def laws_eqBoolS_S1 (a1 : List Bool) (b6 : List Bool) : Int → Option (Int ⊕ Bool) := fun i13 =>
  if (decide ((i13 : Int) < (a1.length : Int))) = true then
    ((ix a1 i13).bind fun x15 =>
    (ix b6 i13).bind fun x20 =>
    if (!(x15 == x20)) = true then
      some (.inr (false))
    else
      some (.inl (IntKind.wrap .i64 (i13 + 1))))
  else
    ((laws_eqBoolS_J1).map Sum.inr)
noncomputable def laws_eqBoolS (a1 : List Bool) (b6 : List Bool) : Option Bool :=
  if ((a1.length : Int) != (b6.length : Int)) = true then
    some false
  else
    loop (laws_eqBoolS_S1 a1 b6) (0)

noncomputable def laws_eqPush (a1 : Push) (b2 : Push) : Option Bool :=
  if (a1.To != b2.To) = true then
    some false
  else
    (if (a1.Put != b2.Put) = true then
      some false
    else
      some true)

noncomputable def laws_eqPushS_J1 : Option Bool :=
  some true
noncomputable def laws_eqPushS_S1 (a1 : List Push) (b6 : List Push) : Int → Option (Int ⊕ Bool) := fun i13 =>
  if (decide ((i13 : Int) < (a1.length : Int))) = true then
    ((ix a1 i13).bind fun x15 =>
    (ix b6 i13).bind fun x25 =>
    (laws_eqPush x15 x25).bind fun y35 =>
    if (!y35) = true then
      some (.inr (false))
    else
      some (.inl (IntKind.wrap .i64 (i13 + 1))))
  else
    ((laws_eqPushS_J1).map Sum.inr)
noncomputable def laws_eqPushS (a1 : List Push) (b6 : List Push) : Option Bool :=
  if ((a1.length : Int) != (b6.length : Int)) = true then
    some false
  else
    loop (laws_eqPushS_S1 a1 b6) (0)

noncomputable def laws_eqPushSS_J1 : Option Bool :=
  some true
noncomputable def laws_eqPushSS_S1 (a1 : List (List Push)) (b6 : List (List Push)) : Int → Option (Int ⊕ Bool) := fun i13 =>
  if (decide ((i13 : Int) < (a1.length : Int))) = true then
    ((ix a1 i13).bind fun x15 =>
    (ix b6 i13).bind fun x24 =>
    (laws_eqPushS x15 x24).bind fun y33 =>
    if (!y33) = true then
      some (.inr (false))
    else
      some (.inl (IntKind.wrap .i64 (i13 + 1))))
  else
    ((laws_eqPushSS_J1).map Sum.inr)
noncomputable def laws_eqPushSS (a1 : List (List Push)) (b6 : List (List Push)) : Option Bool :=
  if ((a1.length : Int) != (b6.length : Int)) = true then
    some false
  else
    loop (laws_eqPushSS_S1 a1 b6) (0)

noncomputable def laws_eqInt64S_J1 : Option Bool :=
  some true
noncomputable def laws_eqInt64S_S1 (a1 : List Int) (b6 : List Int) : Int → Option (Int ⊕ Bool) := fun i13 =>
  if (decide ((i13 : Int) < (a1.length : Int))) = true then
    ((ix a1 i13).bind fun x15 =>
    (ix b6 i13).bind fun x20 =>
    if (x15 != x20) = true then
      some (.inr (false))
    else
      some (.inl (IntKind.wrap .i64 (i13 + 1))))
  else
    ((laws_eqInt64S_J1).map Sum.inr)
noncomputable def laws_eqInt64S (a1 : List Int) (b6 : List Int) : Option Bool :=
  if ((a1.length : Int) != (b6.length : Int)) = true then
    some false
  else
    loop (laws_eqInt64S_S1 a1 b6) (0)

noncomputable def laws_eqInt64SS_J1 : Option Bool :=
  some true
noncomputable def laws_eqInt64SS_S1 (a1 : List (List Int)) (b6 : List (List Int)) : Int → Option (Int ⊕ Bool) := fun i13 =>
  if (decide ((i13 : Int) < (a1.length : Int))) = true then
    ((ix a1 i13).bind fun x15 =>
    (ix b6 i13).bind fun x24 =>
    (laws_eqInt64S x15 x24).bind fun y33 =>
    if (!y33) = true then
      some (.inr (false))
    else
      some (.inl (IntKind.wrap .i64 (i13 + 1))))
  else
    ((laws_eqInt64SS_J1).map Sum.inr)
noncomputable def laws_eqInt64SS (a1 : List (List Int)) (b6 : List (List Int)) : Option Bool :=
  if ((a1.length : Int) != (b6.length : Int)) = true then
    some false
  else
    loop (laws_eqInt64SS_S1 a1 b6) (0)

noncomputable def laws_eqInt64SSS_J1 : Option Bool :=
  some true
noncomputable def laws_eqInt64SSS_S1 (a1 : List (List (List Int))) (b6 : List (List (List Int))) : Int → Option (Int ⊕ Bool) := fun i13 =>
  if (decide ((i13 : Int) < (a1.length : Int))) = true then
    ((ix a1 i13).bind fun x15 =>
    (ix b6 i13).bind fun x24 =>
    (laws_eqInt64SS x15 x24).bind fun y33 =>
    if (!y33) = true then
      some (.inr (false))
    else
      some (.inl (IntKind.wrap .i64 (i13 + 1))))
  else
    ((laws_eqInt64SSS_J1).map Sum.inr)
noncomputable def laws_eqInt64SSS (a1 : List (List (List Int))) (b6 : List (List (List Int))) : Option Bool :=
  if ((a1.length : Int) != (b6.length : Int)) = true then
    some false
  else
    loop (laws_eqInt64SSS_S1 a1 b6) (0)

noncomputable def laws_eqChecker (a1 : Checker) (b18 : Checker) : Option Bool :=
  if (a1.Stack != b18.Stack) = true then
    some false
  else
    (if (a1.Start != b18.Start) = true then
      some false
    else
      ((laws_eqBoolS a1.Accept b18.Accept).bind fun y37 =>
      if (!y37) = true then
        some false
      else
        ((laws_eqPushSS a1.Call b18.Call).bind fun y49 =>
        if (!y49) = true then
          some false
        else
          ((laws_eqInt64SSS a1.Return b18.Return).bind fun y61 =>
          if (!y61) = true then
            some false
          else
            ((laws_eqInt64SS a1.Inner b18.Inner).bind fun y73 =>
            if (!y73) = true then
              some false
            else
              some true)))))

noncomputable def laws_eqContext (a1 : Context) (b2 : Context) : Option Bool :=
  if (!(a1.Front == b2.Front)) = true then
    some false
  else
    (if (!(a1.Back == b2.Back)) = true then
      some false
    else
      some true)

noncomputable def laws_eqContextS_J1 : Option Bool :=
  some true
noncomputable def laws_eqContextS_S1 (a1 : List Context) (b6 : List Context) : Int → Option (Int ⊕ Bool) := fun i13 =>
  if (decide ((i13 : Int) < (a1.length : Int))) = true then
    ((ix a1 i13).bind fun x15 =>
    (ix b6 i13).bind fun x25 =>
    (laws_eqContext x15 x25).bind fun y35 =>
    if (!y35) = true then
      some (.inr (false))
    else
      some (.inl (IntKind.wrap .i64 (i13 + 1))))
  else
    ((laws_eqContextS_J1).map Sum.inr)
noncomputable def laws_eqContextS (a1 : List Context) (b6 : List Context) : Option Bool :=
  if ((a1.length : Int) != (b6.length : Int)) = true then
    some false
  else
    loop (laws_eqContextS_S1 a1 b6) (0)

noncomputable def laws_markBoolS_K10_J1 (m6 : List Bool) (k7 : Int) : Option (Int × (List Bool)) :=
  some (k7, m6)
noncomputable def laws_markBoolS_K10_S1 : ((List Bool) × Int × Int) → Option (((List Bool) × Int × Int) ⊕ (Int × (List Bool))) := fun (m13, k14, i15) =>
  if (decide ((i15 : Int) < (m13.length : Int))) = true then
    ((remI .i64 k14 3).bind fun q21 =>
    (ix m13 i15).bind fun x25 =>
    some (.inl ((m13.set (Int.toNat i15) (q21 == 0)), IntKind.wrap .i64 (k14 + 1), IntKind.wrap .i64 (i15 + 1))))
  else
    ((laws_markBoolS_K10_J1 m13 k14).map Sum.inr)
noncomputable def laws_markBoolS_K10 (a4 : List Bool) (k5 : Int) : Option (Int × (List Bool)) :=
  loop (laws_markBoolS_K10_S1) (a4, k5, 0)

noncomputable def laws_markPushS_K10_J1 (m6 : List Push) (k7 : Int) : Option (Int × (List Push)) :=
  some (k7, m6)
noncomputable def laws_markPushS_K10_S1 : ((List Push) × Int × Int) → Option (((List Push) × Int × Int) ⊕ (Int × (List Push))) := fun (m13, k14, i15) =>
  if (decide ((i15 : Int) < (m13.length : Int))) = true then
    ((ix m13 i15).bind fun x23 =>
    some (.inl (((m13.set (Int.toNat i15) ({ x23 with To := k14 } : Push)).set (Int.toNat i15) ({ ({ x23 with To := k14 } : Push) with Put := IntKind.wrap .i64 (k14 + 1) } : Push)), IntKind.wrap .i64 ((IntKind.wrap .i64 (k14 + 1)) + 1), IntKind.wrap .i64 (i15 + 1))))
  else
    ((laws_markPushS_K10_J1 m13 k14).map Sum.inr)
noncomputable def laws_markPushS_K10 (a4 : List Push) (k5 : Int) : Option (Int × (List Push)) :=
  loop (laws_markPushS_K10_S1) (a4, k5, 0)

noncomputable def laws_markPushSS_K10_J1 (m6 : List (List Push)) (k7 : Int) : Option (Int × (List (List Push))) :=
  some (k7, m6)
noncomputable def laws_markPushSS_K10_S1 : ((List (List Push)) × Int × Int) → Option (((List (List Push)) × Int × Int) ⊕ (Int × (List (List Push)))) := fun (m13, k14, i15) =>
  if (decide ((i15 : Int) < (m13.length : Int))) = true then
    ((ix m13 i15).bind fun x23 =>
    (laws_markPushS_K10 x23 k14).bind fun y30 =>
    some (.inl ((m13.set (Int.toNat i15) y30.2), y30.1, IntKind.wrap .i64 (i15 + 1))))
  else
    ((laws_markPushSS_K10_J1 m13 k14).map Sum.inr)
noncomputable def laws_markPushSS_K10 (a4 : List (List Push)) (k5 : Int) : Option (Int × (List (List Push))) :=
  loop (laws_markPushSS_K10_S1) (a4, k5, 0)

noncomputable def laws_markInt64S_K10_J1 (m6 : List Int) (k7 : Int) : Option (Int × (List Int)) :=
  some (k7, m6)
noncomputable def laws_markInt64S_K10_S1 : ((List Int) × Int × Int) → Option (((List Int) × Int × Int) ⊕ (Int × (List Int))) := fun (m13, k14, i15) =>
  if (decide ((i15 : Int) < (m13.length : Int))) = true then
    ((ix m13 i15).bind fun x23 =>
    some (.inl ((m13.set (Int.toNat i15) k14), IntKind.wrap .i64 (k14 + 1), IntKind.wrap .i64 (i15 + 1))))
  else
    ((laws_markInt64S_K10_J1 m13 k14).map Sum.inr)
noncomputable def laws_markInt64S_K10 (a4 : List Int) (k5 : Int) : Option (Int × (List Int)) :=
  loop (laws_markInt64S_K10_S1) (a4, k5, 0)

noncomputable def laws_markInt64SS_K10_J1 (m6 : List (List Int)) (k7 : Int) : Option (Int × (List (List Int))) :=
  some (k7, m6)
noncomputable def laws_markInt64SS_K10_S1 : ((List (List Int)) × Int × Int) → Option (((List (List Int)) × Int × Int) ⊕ (Int × (List (List Int)))) := fun (m13, k14, i15) =>
  if (decide ((i15 : Int) < (m13.length : Int))) = true then
    ((ix m13 i15).bind fun x23 =>
    (laws_markInt64S_K10 x23 k14).bind fun y30 =>
    some (.inl ((m13.set (Int.toNat i15) y30.2), y30.1, IntKind.wrap .i64 (i15 + 1))))
  else
    ((laws_markInt64SS_K10_J1 m13 k14).map Sum.inr)
noncomputable def laws_markInt64SS_K10 (a4 : List (List Int)) (k5 : Int) : Option (Int × (List (List Int))) :=
  loop (laws_markInt64SS_K10_S1) (a4, k5, 0)

noncomputable def laws_markInt64SSS_K10_J1 (m6 : List (List (List Int))) (k7 : Int) : Option (Int × (List (List (List Int)))) :=
  some (k7, m6)
noncomputable def laws_markInt64SSS_K10_S1 : ((List (List (List Int))) × Int × Int) → Option (((List (List (List Int))) × Int × Int) ⊕ (Int × (List (List (List Int))))) := fun (m13, k14, i15) =>
  if (decide ((i15 : Int) < (m13.length : Int))) = true then
    ((ix m13 i15).bind fun x23 =>
    (laws_markInt64SS_K10 x23 k14).bind fun y30 =>
    some (.inl ((m13.set (Int.toNat i15) y30.2), y30.1, IntKind.wrap .i64 (i15 + 1))))
  else
    ((laws_markInt64SSS_K10_J1 m13 k14).map Sum.inr)
noncomputable def laws_markInt64SSS_K10 (a4 : List (List (List Int))) (k5 : Int) : Option (Int × (List (List (List Int)))) :=
  loop (laws_markInt64SSS_K10_S1) (a4, k5, 0)

noncomputable def laws_markChecker_K10 (a1 : Checker) (k14 : Int) : Option (Int × (List Bool) × (List (List Push)) × (List (List (List Int))) × (List (List Int))) :=
  (laws_markBoolS_K10 a1.Accept k14).bind fun y15 =>
  (laws_markPushSS_K10 a1.Call y15.1).bind fun y35 =>
  (laws_markInt64SSS_K10 a1.Return y35.1).bind fun y55 =>
  (laws_markInt64SS_K10 a1.Inner y55.1).bind fun y75 =>
  some (y75.1, y15.2, y35.2, y55.2, y75.2)

noncomputable def laws_markText_J1 (out3 : List UInt8) : Option (List UInt8) :=
  (app ([109] : List UInt8) out3).bind fun w5 =>
  some w5
noncomputable def laws_markText_S1 : (Int × (List UInt8)) → Option ((Int × (List UInt8)) ⊕ (List UInt8)) := fun (k7, out8) =>
  if (decide ((k7 : Int) > 0)) = true then
    ((remI .i64 k7 10).bind fun q10 =>
    (app (bytesOf ([IntKind.wrap .u8 (IntKind.wrap .i64 (48 + q10))] : List Int)) out8).bind fun w12 =>
    (quoI .i64 k7 10).bind fun q14 =>
    some (.inl (q14, w12)))
  else
    ((laws_markText_J1 out8).map Sum.inr)
noncomputable def laws_markText (k1 : Int) : Option (List UInt8) :=
  if (decide ((k1 : Int) ≤ 0)) = true then
    some ([109, 48] : List UInt8)
  else
    loop (laws_markText_S1) (k1, ([] : List UInt8))

noncomputable def laws_markContextS_K10_J1 (m6 : List Context) (k7 : Int) : Option (Int × (List Context)) :=
  some (k7, m6)
noncomputable def laws_markContextS_K10_S1 : ((List Context) × Int × Int) → Option (((List Context) × Int × Int) ⊕ (Int × (List Context))) := fun (m13, k14, i15) =>
  if (decide ((i15 : Int) < (m13.length : Int))) = true then
    ((laws_markText k14).bind fun y21 =>
    (ix m13 i15).bind fun x27 =>
    (laws_markText (IntKind.wrap .i64 (k14 + 1))).bind fun y38 =>
    some (.inl (((m13.set (Int.toNat i15) ({ x27 with Front := y21 } : Context)).set (Int.toNat i15) ({ ({ x27 with Front := y21 } : Context) with Back := y38 } : Context)), IntKind.wrap .i64 ((IntKind.wrap .i64 (k14 + 1)) + 1), IntKind.wrap .i64 (i15 + 1))))
  else
    ((laws_markContextS_K10_J1 m13 k14).map Sum.inr)
noncomputable def laws_markContextS_K10 (a4 : List Context) (k5 : Int) : Option (Int × (List Context)) :=
  loop (laws_markContextS_K10_S1) (a4, k5, 0)

noncomputable def laws_heldBoolS_J1 (k7 : Int) : Option Int :=
  some k7
noncomputable def laws_heldBoolS_S1 (a1 : List Bool) : (Int × Int) → Option ((Int × Int) ⊕ Int) := fun (k9, i10) =>
  if (decide ((i10 : Int) < (a1.length : Int))) = true then
    ((ix a1 i10).bind fun x12 =>
    (remI .i64 k9 3).bind fun q17 =>
    if (!(x12 == (q17 == 0))) = true then
      some (.inr ((-1)))
    else
      some (.inl (IntKind.wrap .i64 (k9 + 1), IntKind.wrap .i64 (i10 + 1))))
  else
    ((laws_heldBoolS_J1 k9).map Sum.inr)
noncomputable def laws_heldBoolS (a1 : List Bool) (k6 : Int) : Option Int :=
  loop (laws_heldBoolS_S1 a1) (k6, 0)

noncomputable def impl_asker_row_F2_J1 (out33 : List Bool) (m41 : Bool) : Option ((List Bool) × Bool) :=
  some (out33, m41)
noncomputable def impl_asker_row_F2_S1 (a14 : Int) (a15 : Int) (a16 : List Bool) (a111 : List (List Push)) (a116 : List (List (List Int))) (a121 : List (List Int)) (u27 : List UInt8) (list28 : List Context) : (Bool × (List Bool) × Int) → Option ((Bool × (List Bool) × Int) ⊕ ((List Bool) × Bool)) := fun (m46, out47, t54) =>
  if (decide ((t54 : Int) < (list28.length : Int))) = true then
    ((ix list28 t54).bind fun x58 =>
    (impl_Context_around x58 u27).bind fun y68 =>
    (impl_asker_takes_F1 a14 a15 a16 a111 a116 a121 m46 y68).bind fun y72 =>
    (app out47 ([y72.1] : List Bool)).bind fun l81 =>
    some (.inl (y72.2, l81, IntKind.wrap .i64 (t54 + 1))))
  else
    ((impl_asker_row_F2_J1 out47 m46).map Sum.inr)
noncomputable def impl_asker_row_F2 (a14 : Int) (a15 : Int) (a16 : List Bool) (a111 : List (List Push)) (a116 : List (List (List Int))) (a121 : List (List Int)) (a126 : Bool) (u27 : List UInt8) (list28 : List Context) : Option ((List Bool) × Bool) :=
  loop (impl_asker_row_F2_S1 a14 a15 a16 a111 a116 a121 u27 list28) (a126, ([] : List Bool), 0)

noncomputable def impl_RowOf (c1 : Checker) (u18 : List UInt8) (list19 : List Context) : Option ((List Bool) × Int) :=
  (impl_ValidChecker c1).bind fun y24 =>
  (if (!y24) = true then
      some true
    else
      ((impl_ValidWord u18).bind fun y30 =>
      some (!y30))).bind fun b29 =>
  if b29 = true then
    some (([] : List Bool), 1)
  else
    ((if (decide (((list19.length : Int) : Int) > 40)) = true then
        some true
      else
        ((slices_ContainsFunc_simpl_Context_impl_Context list19 (fun x => impl_RowOf_1 x)).bind fun y42 =>
        some y42)).bind fun b36 =>
    if b36 = true then
      some (([] : List Bool), 2)
    else
      ((impl_isMatched u18).bind fun y47 =>
      if (!y47) = true then
        some (([] : List Bool), 4)
      else
        ((impl_asker_row_F2 c1.Stack c1.Start c1.Accept c1.Call c1.Return c1.Inner false u18 list19).bind fun y55 =>
        if y55.2 = true then
          some (([] : List Bool), 3)
        else
          some (y55.1, 0))))

noncomputable def laws_FnExactRowOf (p1 : Checker) (p1_18 : List UInt8) (p2_19 : List Context) : Option Bool :=
  if (decide (((p1_18.length : Int) : Int) > 1048576)) = true then
    some true
  else
    ((laws_szChecker p1 1048576).bind fun y25 =>
    if (decide ((y25 : Int) < 0)) = true then
      some true
    else
      ((laws_szContextS p2_19 y25).bind fun y30 =>
      if (decide ((y30 : Int) < 0)) = true then
        some true
      else
        ((laws_toChecker p1).bind fun y35 =>
        (laws_toContextS p2_19).bind fun y68 =>
        (spec_RowOf y35 p1_18 y68).bind fun y76 =>
        (laws_toChecker_K0 p1).bind fun y89 =>
        (laws_toContextS_K0 p2_19).bind fun y131 =>
        (impl_RowOf_K000 y89 p1_18 y131).bind fun y149 =>
        (laws_eqBoolS y149.1 y76.1).bind fun y195 =>
        if ((!y195) || (y149.2 != y76.2)) = true then
          some false
        else
          ((laws_toChecker p1).bind fun y208 =>
          (laws_eqChecker y89 y208).bind fun y241 =>
          if (!y241) = true then
            some false
          else
            ((laws_toContextS p2_19).bind fun y303 =>
            (laws_eqContextS y131 y303).bind fun y311 =>
            if (!y311) = true then
              some false
            else
              ((laws_markChecker_K10 y89 1).bind fun y323 =>
              (laws_markContextS_K10 y131 y323.1).bind fun y373 =>
              (if (decide ((y373.1 : Int) < 0)) = true then
                  some true
                else
                  ((laws_eqBoolS y149.1 y76.1).bind fun y395 =>
                  some (!y395))).bind fun b394 =>
              if (b394 || (y149.2 != y76.2)) = true then
                some false
              else
                ((laws_markBoolS_K10 y149.1 1).bind fun y408 =>
                (laws_heldBoolS y408.2 1).bind fun y428 =>
                if (decide ((y428 : Int) < 0)) = true then
                  some false
                else
                  (if (y428 != y408.1) = true then
                    some false
                  else
                    ((laws_toChecker p1).bind fun y437 =>
                    (laws_toContextS p2_19).bind fun y470 =>
                    (impl_RowOf y437 p1_18 y470).bind fun y478 =>
                    (laws_eqBoolS y478.1 y76.1).bind fun y491 =>
                    if ((!y491) || (y478.2 != y76.2)) = true then
                      some false
                    else
                      ((laws_heldBoolS y408.2 1).bind fun y504 =>
                      if (decide ((y504 : Int) < 0)) = true then
                        some false
                      else
                        (if (y504 != y408.1) = true then
                          some false
                        else
                          some true)))))))))))
end Go.Proofs.Ytchahpmelikoaaa.law
