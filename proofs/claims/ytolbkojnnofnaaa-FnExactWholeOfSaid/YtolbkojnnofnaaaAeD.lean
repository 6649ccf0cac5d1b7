import Derived.Test.YtolbkojnnofnaaaAe3
import Derived.Test.YtolbkojnnofnaaaAeT
set_option linter.unusedVariables false
namespace Go.Proofs.Ytolbkojnnofnaaa.law
open Go Go.Proofs Ae
set_option maxRecDepth 100000
set_option linter.unusedVariables false
noncomputable def Cf : Cfg := { fn := fnT.get, ty := tyT.get, ext := fun g => bif Nat.beq g 139 then some φByte else bif Nat.beq g 48 then some φJoin else none }
structure Push where
  To : Int
  Put : Int
def csPush (x : Push) : List (AV → Prop) := [(rI .i64) x.To, (rI .i64) x.Put]
def rPush (x : Push) : AV → Prop := rA (csPush x)
structure Checker where
  Stack : Int
  Start : Int
  Accept : List Bool
  Call : List (List Push)
  Return : List (List (List Int))
  Inner : List (List Int)
def csChecker (x : Checker) : List (AV → Prop) := [(rI .i64) x.Stack, (rI .i64) x.Start, (rL rB 1) x.Accept, (rL (rL rPush 2) 1) x.Call, (rL (rL (rL (rI .i64) 1) 1) 1) x.Return, (rL (rL (rI .i64) 1) 1) x.Inner]
def rChecker (x : Checker) : AV → Prop := rA (csChecker x)
structure Stream where
  Checker : Checker
  Pieces : List (List UInt8)
def csStream (x : Stream) : List (AV → Prop) := [(rI .i64) x.Checker.Stack, (rI .i64) x.Checker.Start, (rL rB 1) x.Checker.Accept, (rL (rL rPush 2) 1) x.Checker.Call, (rL (rL (rL (rI .i64) 1) 1) 1) x.Checker.Return, (rL (rL (rI .i64) 1) 1) x.Checker.Inner, (rL rS 1) x.Pieces]
def rStream (x : Stream) : AV → Prop := rA (csStream x)
def bPush (x : Push) : Prop := (bI .i64) x.To ∧ (bI .i64) x.Put
def smPush (x : Push) : Prop := smT x.To ∧ smT x.Put
def bChecker (x : Checker) : Prop := (bI .i64) x.Stack ∧ (bI .i64) x.Start ∧ (bL bB) x.Accept ∧ (bL (bL bPush)) x.Call ∧ (bL (bL (bL (bI .i64)))) x.Return ∧ (bL (bL (bI .i64))) x.Inner
def smChecker (x : Checker) : Prop := smT x.Stack ∧ smT x.Start ∧ (smL smT) x.Accept ∧ (smL (smL smT)) x.Call ∧ (smL (smL (smL smT))) x.Return ∧ (smL (smL smT)) x.Inner
def bStream (x : Stream) : Prop := bChecker x.Checker ∧ (bL bS) x.Pieces
def smStream (x : Stream) : Prop := smChecker x.Checker ∧ (smL smS) x.Pieces

noncomputable def laws_szBoolS (a1 : List Bool) (left6 : Int) : Option Int :=
  if (decide ((IntKind.wrap .i64 (left6 - (a1.length : Int)) : Int) < 0)) = true then
    some (-1)
  else
    some (IntKind.wrap .i64 (left6 - (a1.length : Int)))

noncomputable def laws_szPushS (a1 : List Push) (left6 : Int) : Option Int :=
  if (decide ((IntKind.wrap .i64 (left6 - (a1.length : Int)) : Int) < 0)) = true then
    some (-1)
  else
    some (IntKind.wrap .i64 (left6 - (a1.length : Int)))

noncomputable def laws_szPushSS_J1 (left8 : Int) : Option Int :=
  some left8
noncomputable def laws_szPushSS_S1 (a1 : List (List Push)) : (Int × Int) → Option ((Int × Int) ⊕ Int) := fun (left10, i11) =>
  if (decide ((i11 : Int) < (a1.length : Int))) = true then
    ((ix a1 i11).bind fun x13 =>
    (laws_szPushS x13 left10).bind fun y22 =>
    if (decide ((y22 : Int) < 0)) = true then
      some (.inr ((-1)))
    else
      some (.inl (y22, IntKind.wrap .i64 (i11 + 1))))
  else
    ((laws_szPushSS_J1 left10).map Sum.inr)
noncomputable def laws_szPushSS (a1 : List (List Push)) (left6 : Int) : Option Int :=
  if (decide ((IntKind.wrap .i64 (left6 - (a1.length : Int)) : Int) < 0)) = true then
    some (-1)
  else
    loop (laws_szPushSS_S1 a1) (IntKind.wrap .i64 (left6 - (a1.length : Int)), 0)

noncomputable def laws_szInt64S (a1 : List Int) (left6 : Int) : Option Int :=
  if (decide ((IntKind.wrap .i64 (left6 - (a1.length : Int)) : Int) < 0)) = true then
    some (-1)
  else
    some (IntKind.wrap .i64 (left6 - (a1.length : Int)))

noncomputable def laws_szInt64SS_J1 (left8 : Int) : Option Int :=
  some left8
noncomputable def laws_szInt64SS_S1 (a1 : List (List Int)) : (Int × Int) → Option ((Int × Int) ⊕ Int) := fun (left10, i11) =>
  if (decide ((i11 : Int) < (a1.length : Int))) = true then
    ((ix a1 i11).bind fun x13 =>
    (laws_szInt64S x13 left10).bind fun y22 =>
    if (decide ((y22 : Int) < 0)) = true then
      some (.inr ((-1)))
    else
      some (.inl (y22, IntKind.wrap .i64 (i11 + 1))))
  else
    ((laws_szInt64SS_J1 left10).map Sum.inr)
noncomputable def laws_szInt64SS (a1 : List (List Int)) (left6 : Int) : Option Int :=
  if (decide ((IntKind.wrap .i64 (left6 - (a1.length : Int)) : Int) < 0)) = true then
    some (-1)
  else
    loop (laws_szInt64SS_S1 a1) (IntKind.wrap .i64 (left6 - (a1.length : Int)), 0)

noncomputable def laws_szInt64SSS_J1 (left8 : Int) : Option Int :=
  some left8
noncomputable def laws_szInt64SSS_S1 (a1 : List (List (List Int))) : (Int × Int) → Option ((Int × Int) ⊕ Int) := fun (left10, i11) =>
  if (decide ((i11 : Int) < (a1.length : Int))) = true then
    ((ix a1 i11).bind fun x13 =>
    (laws_szInt64SS x13 left10).bind fun y22 =>
    if (decide ((y22 : Int) < 0)) = true then
      some (.inr ((-1)))
    else
      some (.inl (y22, IntKind.wrap .i64 (i11 + 1))))
  else
    ((laws_szInt64SSS_J1 left10).map Sum.inr)
noncomputable def laws_szInt64SSS (a1 : List (List (List Int))) (left6 : Int) : Option Int :=
  if (decide ((IntKind.wrap .i64 (left6 - (a1.length : Int)) : Int) < 0)) = true then
    some (-1)
  else
    loop (laws_szInt64SSS_S1 a1) (IntKind.wrap .i64 (left6 - (a1.length : Int)), 0)

noncomputable def laws_szChecker (a1 : Checker) (left18 : Int) : Option Int :=
  (laws_szBoolS a1.Accept left18).bind fun y19 =>
  if (decide ((y19 : Int) < 0)) = true then
    some (-1)
  else
    ((laws_szPushSS a1.Call y19).bind fun y24 =>
    if (decide ((y24 : Int) < 0)) = true then
      some (-1)
    else
      ((laws_szInt64SSS a1.Return y24).bind fun y29 =>
      if (decide ((y29 : Int) < 0)) = true then
        some (-1)
      else
        ((laws_szInt64SS a1.Inner y29).bind fun y34 =>
        if (decide ((y34 : Int) < 0)) = true then
          some (-1)
        else
          some y34)))

noncomputable def laws_szStringS_J1 (left8 : Int) : Option Int :=
  some left8
noncomputable def laws_szStringS_S1 (a1 : List (List UInt8)) : (Int × Int) → Option ((Int × Int) ⊕ Int) := fun (left10, i11) =>
  if (decide ((i11 : Int) < (a1.length : Int))) = true then
    ((ix a1 i11).bind fun x13 =>
    if (decide ((IntKind.wrap .i64 (left10 - (x13.length : Int)) : Int) < 0)) = true then
      some (.inr ((-1)))
    else
      some (.inl (IntKind.wrap .i64 (left10 - (x13.length : Int)), IntKind.wrap .i64 (i11 + 1))))
  else
    ((laws_szStringS_J1 left10).map Sum.inr)
noncomputable def laws_szStringS (a1 : List (List UInt8)) (left6 : Int) : Option Int :=
  if (decide ((IntKind.wrap .i64 (left6 - (a1.length : Int)) : Int) < 0)) = true then
    some (-1)
  else
    loop (laws_szStringS_S1 a1) (IntKind.wrap .i64 (left6 - (a1.length : Int)), 0)

noncomputable def laws_szStream (a1 : Stream) (left22 : Int) : Option Int :=
  (laws_szChecker a1.Checker left22).bind fun y23 =>
  if (decide ((y23 : Int) < 0)) = true then
    some (-1)
  else
    ((laws_szStringS a1.Pieces y23).bind fun y28 =>
    if (decide ((y28 : Int) < 0)) = true then
      some (-1)
    else
      some y28)

noncomputable def laws_toBoolS_J1 (out13 : List Bool) : Option (List Bool) :=
  some out13
noncomputable def laws_toBoolS_S1 (a1 : List Bool) : ((List Bool) × Int) → Option (((List Bool) × Int) ⊕ (List Bool)) := fun (out22, i28) =>
  if (decide ((i28 : Int) < (a1.length : Int))) = true then
    ((ix a1 i28).bind fun x32 =>
    (ix out22 i28).bind fun x37 =>
    some (.inl ((out22.set (Int.toNat i28) x32), IntKind.wrap .i64 (i28 + 1))))
  else
    ((laws_toBoolS_J1 out22).map Sum.inr)
noncomputable def laws_toBoolS (a1 : List Bool) : Option (List Bool) :=
  (mk (false : Bool) (a1.length : Int)).bind fun l6 =>
  loop (laws_toBoolS_S1 a1) (l6, 0)

noncomputable def laws_toPush (a1 : Push) : Option Push :=
  some a1

noncomputable def laws_toPushS_J1 (out13 : List Push) : Option (List Push) :=
  some out13
noncomputable def laws_toPushS_S1 (a1 : List Push) : ((List Push) × Int) → Option (((List Push) × Int) ⊕ (List Push)) := fun (out22, i28) =>
  if (decide ((i28 : Int) < (a1.length : Int))) = true then
    ((ix a1 i28).bind fun x32 =>
    (laws_toPush x32).bind fun y42 =>
    (ix out22 i28).bind fun x51 =>
    some (.inl ((out22.set (Int.toNat i28) y42), IntKind.wrap .i64 (i28 + 1))))
  else
    ((laws_toPushS_J1 out22).map Sum.inr)
noncomputable def laws_toPushS (a1 : List Push) : Option (List Push) :=
  (mk ((⟨0, 0⟩ : Push) : Push) (a1.length : Int)).bind fun l6 =>
  loop (laws_toPushS_S1 a1) (l6, 0)

noncomputable def laws_toPushSS_J1 (out13 : List (List Push)) : Option (List (List Push)) :=
  some out13
noncomputable def laws_toPushSS_S1 (a1 : List (List Push)) : ((List (List Push)) × Int) → Option (((List (List Push)) × Int) ⊕ (List (List Push))) := fun (out22, i28) =>
  if (decide ((i28 : Int) < (a1.length : Int))) = true then
    ((ix a1 i28).bind fun x32 =>
    (laws_toPushS x32).bind fun y41 =>
    (ix out22 i28).bind fun x49 =>
    some (.inl ((out22.set (Int.toNat i28) y41), IntKind.wrap .i64 (i28 + 1))))
  else
    ((laws_toPushSS_J1 out22).map Sum.inr)
noncomputable def laws_toPushSS (a1 : List (List Push)) : Option (List (List Push)) :=
  (mk (([] : List Push) : List Push) (a1.length : Int)).bind fun l6 =>
  loop (laws_toPushSS_S1 a1) (l6, 0)

noncomputable def laws_toInt64S_J1 (out13 : List Int) : Option (List Int) :=
  some out13
noncomputable def laws_toInt64S_S1 (a1 : List Int) : ((List Int) × Int) → Option (((List Int) × Int) ⊕ (List Int)) := fun (out22, i28) =>
  if (decide ((i28 : Int) < (a1.length : Int))) = true then
    ((ix a1 i28).bind fun x32 =>
    (ix out22 i28).bind fun x37 =>
    some (.inl ((out22.set (Int.toNat i28) x32), IntKind.wrap .i64 (i28 + 1))))
  else
    ((laws_toInt64S_J1 out22).map Sum.inr)
noncomputable def laws_toInt64S (a1 : List Int) : Option (List Int) :=
  (mk (0 : Int) (a1.length : Int)).bind fun l6 =>
  loop (laws_toInt64S_S1 a1) (l6, 0)

noncomputable def laws_toInt64SS_J1 (out13 : List (List Int)) : Option (List (List Int)) :=
  some out13
noncomputable def laws_toInt64SS_S1 (a1 : List (List Int)) : ((List (List Int)) × Int) → Option (((List (List Int)) × Int) ⊕ (List (List Int))) := fun (out22, i28) =>
  if (decide ((i28 : Int) < (a1.length : Int))) = true then
    ((ix a1 i28).bind fun x32 =>
    (laws_toInt64S x32).bind fun y41 =>
    (ix out22 i28).bind fun x49 =>
    some (.inl ((out22.set (Int.toNat i28) y41), IntKind.wrap .i64 (i28 + 1))))
  else
    ((laws_toInt64SS_J1 out22).map Sum.inr)
noncomputable def laws_toInt64SS (a1 : List (List Int)) : Option (List (List Int)) :=
  (mk (([] : List Int) : List Int) (a1.length : Int)).bind fun l6 =>
  loop (laws_toInt64SS_S1 a1) (l6, 0)

noncomputable def laws_toInt64SSS_J1 (out13 : List (List (List Int))) : Option (List (List (List Int))) :=
  some out13
noncomputable def laws_toInt64SSS_S1 (a1 : List (List (List Int))) : ((List (List (List Int))) × Int) → Option (((List (List (List Int))) × Int) ⊕ (List (List (List Int)))) := fun (out22, i28) =>
  if (decide ((i28 : Int) < (a1.length : Int))) = true then
    ((ix a1 i28).bind fun x32 =>
    (laws_toInt64SS x32).bind fun y41 =>
    (ix out22 i28).bind fun x49 =>
    some (.inl ((out22.set (Int.toNat i28) y41), IntKind.wrap .i64 (i28 + 1))))
  else
    ((laws_toInt64SSS_J1 out22).map Sum.inr)
noncomputable def laws_toInt64SSS (a1 : List (List (List Int))) : Option (List (List (List Int))) :=
  (mk (([] : List (List Int)) : List (List Int)) (a1.length : Int)).bind fun l6 =>
  loop (laws_toInt64SSS_S1 a1) (l6, 0)

noncomputable def laws_toChecker (a1 : Checker) : Option Checker :=
  (laws_toBoolS a1.Accept).bind fun y31 =>
  (laws_toPushSS a1.Call).bind fun y44 =>
  (laws_toInt64SSS a1.Return).bind fun y57 =>
  (laws_toInt64SS a1.Inner).bind fun y70 =>
  some (⟨a1.Stack, a1.Start, y31, y44, y57, y70⟩ : Checker)

noncomputable def laws_toStringS_J1 (out13 : List (List UInt8)) : Option (List (List UInt8)) :=
  some out13
noncomputable def laws_toStringS_S1 (a1 : List (List UInt8)) : ((List (List UInt8)) × Int) → Option (((List (List UInt8)) × Int) ⊕ (List (List UInt8))) := fun (out22, i28) =>
  if (decide ((i28 : Int) < (a1.length : Int))) = true then
    ((ix a1 i28).bind fun x32 =>
    (ix out22 i28).bind fun x37 =>
    some (.inl ((out22.set (Int.toNat i28) x32), IntKind.wrap .i64 (i28 + 1))))
  else
    ((laws_toStringS_J1 out22).map Sum.inr)
noncomputable def laws_toStringS (a1 : List (List UInt8)) : Option (List (List UInt8)) :=
  (mk (([] : List UInt8) : List UInt8) (a1.length : Int)).bind fun l6 =>
  loop (laws_toStringS_S1 a1) (l6, 0)

noncomputable def laws_toStream (a1 : Stream) : Option Stream :=
  (laws_toChecker a1.Checker).bind fun y25 =>
  (laws_toStringS a1.Pieces).bind fun y63 =>
  some (⟨y25, y63⟩ : Stream)

noncomputable def spec_l00In (n1 : Int) (low2 : Int) (high3 : Int) : Option Bool :=
  some ((decide ((n1 : Int) ≥ low2)) && (decide ((n1 : Int) ≤ high3)))

noncomputable def spec_l02List_J1 : Option Bool :=
  some true
noncomputable def spec_l02List_S1 (list1 : List Int) (n7 : Int) : Int → Option (Int ⊕ Bool) := fun i10 =>
  if (decide ((i10 : Int) < (list1.length : Int))) = true then
    ((ix list1 i10).bind fun x12 =>
    (spec_l00In x12 0 (IntKind.wrap .i64 (n7 - 1))).bind fun y17 =>
    if (!y17) = true then
      some (.inr (false))
    else
      some (.inl (IntKind.wrap .i64 (i10 + 1))))
  else
    ((spec_l02List_J1).map Sum.inr)
noncomputable def spec_l02List (list1 : List Int) (length6 : Int) (n7 : Int) : Option Bool :=
  if ((list1.length : Int) != length6) = true then
    some false
  else
    loop (spec_l02List_S1 list1 n7) (0)

noncomputable def spec_l02Ok_w0_7_J1 : Option Bool :=
  some true
noncomputable def spec_l02Ok_w0_7_J2 (t40 : Int) : Option (Int ⊕ Bool) :=
  some (.inl (IntKind.wrap .i64 (t40 + 1)))
noncomputable def spec_l02Ok_w0_7_S2 (p1 : Checker) (t40 : Int) : Int → Option (Int ⊕ (Int ⊕ Bool)) := fun t79 =>
  if (decide ((t79 : Int) < 2)) = true then
    ((ix p1.Call t40).bind fun x81 =>
    (ix x81 t79).bind fun x90 =>
    (spec_l00In x90.To 0 (IntKind.wrap .i64 ((p1.Accept.length : Int) - 1))).bind fun y100 =>
    (if (!y100) = true then
        some true
      else
        ((ix p1.Call t40).bind fun x106 =>
        (ix x106 t79).bind fun x115 =>
        (spec_l00In x115.Put 0 (IntKind.wrap .i64 (p1.Stack - 1))).bind fun y125 =>
        some (!y125))).bind fun b105 =>
    (if b105 = true then
        some true
      else
        ((ix p1.Return t40).bind fun x131 =>
        (ix x131 t79).bind fun x140 =>
        (spec_l02List x140 (IntKind.wrap .i64 (p1.Stack + 1)) (p1.Accept.length : Int)).bind fun y149 =>
        some (!y149))).bind fun b130 =>
    if b130 = true then
      some (.inr (.inr (false)))
    else
      some (.inl (IntKind.wrap .i64 (t79 + 1))))
  else
    ((spec_l02Ok_w0_7_J2 t40).map Sum.inr)
noncomputable def spec_l02Ok_w0_7_S1 (p1 : Checker) : Int → Option (Int ⊕ Bool) := fun t40 =>
  if (decide ((t40 : Int) < (p1.Accept.length : Int))) = true then
    ((ix p1.Call t40).bind fun x42 =>
    (if ((x42.length : Int) != 2) = true then
        some true
      else
        ((ix p1.Return t40).bind fun x53 =>
        some ((x53.length : Int) != 2))).bind fun b52 =>
    (if b52 = true then
        some true
      else
        ((ix p1.Inner t40).bind fun x64 =>
        (spec_l02List x64 2 (p1.Accept.length : Int)).bind fun y73 =>
        some (!y73))).bind fun b63 =>
    if b63 = true then
      some (.inr (false))
    else
      loop (spec_l02Ok_w0_7_S2 p1 t40) (0))
  else
    ((spec_l02Ok_w0_7_J1).map Sum.inr)
noncomputable def spec_l02Ok_w0_7 (p1 : Checker) : Option Bool :=
  (spec_l00In (p1.Accept.length : Int) 1 40).bind fun y19 =>
  (if (!y19) = true then
      some true
    else
      ((spec_l00In p1.Stack 1 80).bind fun y25 =>
      some (!y25))).bind fun b24 =>
  (if b24 = true then
      some true
    else
      ((spec_l00In p1.Start 0 (IntKind.wrap .i64 ((p1.Accept.length : Int) - 1))).bind fun y31 =>
      some (!y31))).bind fun b30 =>
  if (((b30 || ((p1.Call.length : Int) != (p1.Accept.length : Int))) || ((p1.Return.length : Int) != (p1.Accept.length : Int))) || ((p1.Inner.length : Int) != (p1.Accept.length : Int))) = true then
    some false
  else
    loop (spec_l02Ok_w0_7_S1 p1) (0)

noncomputable def spec_l01Symbol_J1 : Option Int :=
  some (-1)
noncomputable def spec_l01Symbol_S1 (b1 : Int) : Int → Option (Int ⊕ Int) := fun k3 =>
  if (decide ((k3 : Int) < 6)) = true then
    ((chr ([40, 91, 41, 93, 97, 98] : List UInt8) k3).bind fun c5 =>
    if (c5 == b1) = true then
      some (.inr (k3))
    else
      some (.inl (IntKind.wrap .i64 (k3 + 1))))
  else
    ((spec_l01Symbol_J1).map Sum.inr)
noncomputable def spec_l01Symbol (b1 : Int) : Option Int :=
  loop (spec_l01Symbol_S1 b1) (0)

noncomputable def spec_l01Ok_J1 (w1 : List UInt8) : Option Bool :=
  some (decide (((w1.length : Int) : Int) ≤ 60))
noncomputable def spec_l01Ok_S1 (w1 : List UInt8) : Int → Option (Int ⊕ Bool) := fun i3 =>
  if (decide ((i3 : Int) < (w1.length : Int))) = true then
    ((chr w1 i3).bind fun c5 =>
    (spec_l01Symbol c5).bind fun y7 =>
    if (decide ((y7 : Int) < 0)) = true then
      some (.inr (false))
    else
      some (.inl (IntKind.wrap .i64 (i3 + 1))))
  else
    ((spec_l01Ok_J1 w1).map Sum.inr)
noncomputable def spec_l01Ok (w1 : List UInt8) : Option Bool :=
  loop (spec_l01Ok_S1 w1) (0)

noncomputable def spec_l08Whole_J1 (out6 : List UInt8) : Option (List UInt8) :=
  some out6
noncomputable def spec_l08Whole_S1 (pieces1 : List (List UInt8)) : ((List UInt8) × Int) → Option (((List UInt8) × Int) ⊕ (List UInt8)) := fun (out8, i9) =>
  if (decide ((i9 : Int) < (pieces1.length : Int))) = true then
    ((ix pieces1 i9).bind fun x11 =>
    (app out8 x11).bind fun w16 =>
    some (.inl (w16, IntKind.wrap .i64 (i9 + 1))))
  else
    ((spec_l08Whole_J1 out8).map Sum.inr)
noncomputable def spec_l08Whole (pieces1 : List (List UInt8)) : Option (List UInt8) :=
  loop (spec_l08Whole_S1 pieces1) (([] : List UInt8), 0)

noncomputable def spec_l08Ok_J1 (v1 : Stream) : Option Bool :=
  (spec_l08Whole v1.Pieces).bind fun y34 =>
  (spec_l01Ok y34).bind fun y38 =>
  some y38
noncomputable def spec_l08Ok_S1 (v1 : Stream) : Int → Option (Int ⊕ Bool) := fun i42 =>
  if (decide ((i42 : Int) < (v1.Pieces.length : Int))) = true then
    ((ix v1.Pieces i42).bind fun x44 =>
    (spec_l01Ok x44).bind fun y49 =>
    if (!y49) = true then
      some (.inr (false))
    else
      some (.inl (IntKind.wrap .i64 (i42 + 1))))
  else
    ((spec_l08Ok_J1 v1).map Sum.inr)
noncomputable def spec_l08Ok (v1 : Stream) : Option Bool :=
  (spec_l02Ok_w0_7 v1.Checker).bind fun y22 =>
  (if (!y22) = true then
      some true
    else
      ((spec_l00In (v1.Pieces.length : Int) 1 20).bind fun y28 =>
      some (!y28))).bind fun b27 =>
  if b27 = true then
    some false
  else
    loop (spec_l08Ok_S1 v1) (0)

noncomputable def spec_ValidStream (v1 : Stream) : Option Bool :=
  (spec_l08Ok v1).bind fun y22 =>
  some y22

noncomputable def impl_size_bool (list1 : List Bool) : Option Int :=
  some (list1.length : Int)

noncomputable def impl_within (n1 : Int) (low2 : Int) (high3 : Int) : Option Bool :=
  some ((decide ((n1 : Int) ≥ low2)) && (decide ((n1 : Int) ≤ high3)))

noncomputable def impl_Checker_isState (c1 : Checker) (s18 : Int) : Option Bool :=
  (impl_size_bool c1.Accept).bind fun y19 =>
  (impl_within s18 0 (IntKind.wrap .i64 (y19 - 1))).bind fun y23 =>
  some y23

noncomputable def impl_size_simpl_Push (list1 : List (List Push)) : Option Int :=
  some (list1.length : Int)

noncomputable def impl_size_s_int64 (list1 : List (List (List Int))) : Option Int :=
  some (list1.length : Int)

noncomputable def impl_size_sint64 (list1 : List (List Int)) : Option Int :=
  some (list1.length : Int)

noncomputable def impl_size_int64 (list1 : List Int) : Option Int :=
  some (list1.length : Int)

noncomputable def slices_IndexFunc_sint64_int64_J1 : Option Int :=
  some (-1)
noncomputable def slices_IndexFunc_sint64_int64_S1 (s1 : List Int) (f6 : Int → Option Bool) : Int → Option (Int ⊕ Int) := fun t11 =>
  if (decide ((t11 : Int) < (s1.length : Int))) = true then
    ((ix s1 t11).bind fun x13 =>
    (f6 x13).bind fun y18 =>
    if y18 = true then
      some (.inr (t11))
    else
      some (.inl (IntKind.wrap .i64 (t11 + 1))))
  else
    ((slices_IndexFunc_sint64_int64_J1).map Sum.inr)
noncomputable def slices_IndexFunc_sint64_int64 (s1 : List Int) (f6 : Int → Option Bool) : Option Int :=
  loop (slices_IndexFunc_sint64_int64_S1 s1 f6) (0)

noncomputable def slices_ContainsFunc_sint64_int64 (s1 : List Int) (f6 : Int → Option Bool) : Option Bool :=
  (slices_IndexFunc_sint64_int64 s1 f6).bind fun y10 =>
  some (decide ((y10 : Int) ≥ 0))

noncomputable def impl_ValidChecker_1_1 (s1 : Int) (c2 : Checker) : Option Bool :=
  (impl_Checker_isState c2 s1).bind fun y19 =>
  some (!y19)

noncomputable def impl_ValidChecker_1 (list1 : List Int) (many6 : Int) (c7 : Checker) : Option Bool :=
  (impl_size_int64 list1).bind fun y24 =>
  (if (y24 == many6) = true then
      ((slices_ContainsFunc_sint64_int64 list1 (fun x => impl_ValidChecker_1_1 x c7)).bind fun y30 =>
      some (!y30))
    else
      some false).bind fun b29 =>
  some b29

noncomputable def impl_Checker_isMark (c1 : Checker) (x18 : Int) : Option Bool :=
  (impl_within x18 0 (IntKind.wrap .i64 (c1.Stack - 1))).bind fun y19 =>
  some y19

noncomputable def impl_ValidChecker_J1 : Option Bool :=
  some true
noncomputable def impl_ValidChecker_J2 (t58 : Int) : Option (Int ⊕ Bool) :=
  some (.inl (IntKind.wrap .i64 (t58 + 1)))
noncomputable def impl_ValidChecker_S2 (p1 : Checker) (t58 : Int) : Int → Option (Int ⊕ (Int ⊕ Bool)) := fun t97 =>
  if (decide ((t97 : Int) < 2)) = true then
    ((ix p1.Call t58).bind fun x99 =>
    (ix x99 t97).bind fun x108 =>
    (impl_Checker_isState p1 x108.To).bind fun y118 =>
    (if (!y118) = true then
        some true
      else
        ((impl_Checker_isMark p1 x108.Put).bind fun y124 =>
        some (!y124))).bind fun b123 =>
    (if b123 = true then
        some true
      else
        ((ix p1.Return t58).bind fun x130 =>
        (ix x130 t97).bind fun x139 =>
        (impl_ValidChecker_1 x139 (IntKind.wrap .i64 (p1.Stack + 1)) p1).bind fun y148 =>
        some (!y148))).bind fun b129 =>
    if b129 = true then
      some (.inr (.inr (false)))
    else
      some (.inl (IntKind.wrap .i64 (t97 + 1))))
  else
    ((impl_ValidChecker_J2 t58).map Sum.inr)
noncomputable def impl_ValidChecker_S1 (p1 : Checker) (y18 : Int) : Int → Option (Int ⊕ Bool) := fun t58 =>
  if (decide ((t58 : Int) < y18)) = true then
    ((ix p1.Call t58).bind fun x60 =>
    (if ((x60.length : Int) != 2) = true then
        some true
      else
        ((ix p1.Return t58).bind fun x71 =>
        some ((x71.length : Int) != 2))).bind fun b70 =>
    (if b70 = true then
        some true
      else
        ((ix p1.Inner t58).bind fun x82 =>
        (impl_ValidChecker_1 x82 2 p1).bind fun y91 =>
        some (!y91))).bind fun b81 =>
    if b81 = true then
      some (.inr (false))
    else
      loop (impl_ValidChecker_S2 p1 t58) (0))
  else
    ((impl_ValidChecker_J1).map Sum.inr)
noncomputable def impl_ValidChecker (p1 : Checker) : Option Bool :=
  (impl_size_bool p1.Accept).bind fun y18 =>
  (impl_within y18 1 40).bind fun y22 =>
  (if (!y22) = true then
      some true
    else
      ((impl_within p1.Stack 1 80).bind fun y28 =>
      some (!y28))).bind fun b27 =>
  (if b27 = true then
      some true
    else
      ((impl_Checker_isState p1 p1.Start).bind fun y34 =>
      some (!y34))).bind fun b33 =>
  (if b33 = true then
      some true
    else
      ((impl_size_simpl_Push p1.Call).bind fun y40 =>
      some (y40 != y18))).bind fun b39 =>
  (if b39 = true then
      some true
    else
      ((impl_size_s_int64 p1.Return).bind fun y46 =>
      some (y46 != y18))).bind fun b45 =>
  (if b45 = true then
      some true
    else
      ((impl_size_sint64 p1.Inner).bind fun y52 =>
      some (y52 != y18))).bind fun b51 =>
  if b51 = true then
    some false
  else
    loop (impl_ValidChecker_S1 p1 y18) (0)

noncomputable def impl_size_string (list1 : List (List UInt8)) : Option Int :=
  some (list1.length : Int)

noncomputable def slices_IndexFunc_sstring_string_J1 : Option Int :=
  some (-1)
noncomputable def slices_IndexFunc_sstring_string_S1 (s1 : List (List UInt8)) (f6 : (List UInt8) → Option Bool) : Int → Option (Int ⊕ Int) := fun t11 =>
  if (decide ((t11 : Int) < (s1.length : Int))) = true then
    ((ix s1 t11).bind fun x13 =>
    (f6 x13).bind fun y18 =>
    if y18 = true then
      some (.inr (t11))
    else
      some (.inl (IntKind.wrap .i64 (t11 + 1))))
  else
    ((slices_IndexFunc_sstring_string_J1).map Sum.inr)
noncomputable def slices_IndexFunc_sstring_string (s1 : List (List UInt8)) (f6 : (List UInt8) → Option Bool) : Option Int :=
  loop (slices_IndexFunc_sstring_string_S1 s1 f6) (0)

noncomputable def slices_ContainsFunc_sstring_string (s1 : List (List UInt8)) (f6 : (List UInt8) → Option Bool) : Option Bool :=
  (slices_IndexFunc_sstring_string s1 f6).bind fun y10 =>
  some (decide ((y10 : Int) ≥ 0))

noncomputable def internal_stringslite_IndexByte (s1 : List UInt8) (c2 : Int) : Option Int :=
  (ixByteM s1 c2).bind fun y3 =>
  some y3

noncomputable def strings_IndexByte (s1 : List UInt8) (c2 : Int) : Option Int :=
  (internal_stringslite_IndexByte s1 c2).bind fun y3 =>
  some y3

noncomputable def impl_ValidWord_J1 (w1 : List UInt8) : Option Bool :=
  some (decide (((w1.length : Int) : Int) ≤ 60))
noncomputable def impl_ValidWord_S1 (w1 : List UInt8) : Int → Option (Int ⊕ Bool) := fun t3 =>
  if (decide ((t3 : Int) < (w1.length : Int))) = true then
    ((chr w1 t3).bind fun c5 =>
    (strings_IndexByte ([40, 91, 41, 93, 97, 98] : List UInt8) c5).bind fun y7 =>
    if (decide ((y7 : Int) < 0)) = true then
      some (.inr (false))
    else
      some (.inl (IntKind.wrap .i64 (t3 + 1))))
  else
    ((impl_ValidWord_J1 w1).map Sum.inr)
noncomputable def impl_ValidWord (w1 : List UInt8) : Option Bool :=
  loop (impl_ValidWord_S1 w1) (0)

noncomputable def impl_ValidStream_1 (w1 : List UInt8) : Option Bool :=
  (impl_ValidWord w1).bind fun y2 =>
  some (!y2)

noncomputable def impl_ValidStream (v1 : Stream) : Option Bool :=
  (impl_ValidChecker v1.Checker).bind fun y22 =>
  (if y22 = true then
      ((impl_size_string v1.Pieces).bind fun y28 =>
      (impl_within y28 1 20).bind fun y32 =>
      some y32)
    else
      some false).bind fun b27 =>
  (if b27 = true then
      ((slices_ContainsFunc_sstring_string v1.Pieces (fun x => impl_ValidStream_1 x)).bind fun y38 =>
      some (!y38))
    else
      some false).bind fun b37 =>
  (if b37 = true then
      ((joinS v1.Pieces ([] : List UInt8)).bind fun y44 =>
      (impl_ValidWord y44).bind fun y48 =>
      some y48)
    else
      some false).bind fun b43 =>
  some b43

noncomputable def laws_eqBoolS_J1 : Option Bool :=
  some true
noncomputable def laws_eqBoolS_S1 (a1 : List Bool) (b6 : List Bool) : Int → Option (Int ⊕ Bool) := fun i13 =>
  if (decide ((i13 : Int) < (a1.length : Int))) = true then
    ((ix a1 i13).bind fun x15 =>
    (ix b6 i13).bind fun x20 =>
    if (!(x15 == x20)) = true then
      some (.inr (false))
    else
      some (.inl (IntKind.wrap .i64 (i13 + 1))))
  else
    ((laws_eqBoolS_J1).map Sum.inr)
noncomputable def laws_eqBoolS (a1 : List Bool) (b6 : List Bool) : Option Bool :=
  if ((a1.length : Int) != (b6.length : Int)) = true then
    some false
  else
    loop (laws_eqBoolS_S1 a1 b6) (0)

noncomputable def laws_eqPush (a1 : Push) (b2 : Push) : Option Bool :=
  if (a1.To != b2.To) = true then
    some false
  else
    (if (a1.Put != b2.Put) = true then
      some false
    else
      some true)

noncomputable def laws_eqPushS_J1 : Option Bool :=
  some true
noncomputable def laws_eqPushS_S1 (a1 : List Push) (b6 : List Push) : Int → Option (Int ⊕ Bool) := fun i13 =>
  if (decide ((i13 : Int) < (a1.length : Int))) = true then
    ((ix a1 i13).bind fun x15 =>
    (ix b6 i13).bind fun x25 =>
    (laws_eqPush x15 x25).bind fun y35 =>
    if (!y35) = true then
      some (.inr (false))
    else
      some (.inl (IntKind.wrap .i64 (i13 + 1))))
  else
    ((laws_eqPushS_J1).map Sum.inr)
noncomputable def laws_eqPushS (a1 : List Push) (b6 : List Push) : Option Bool :=
  if ((a1.length : Int) != (b6.length : Int)) = true then
    some false
  else
    loop (laws_eqPushS_S1 a1 b6) (0)

noncomputable def laws_eqPushSS_J1 : Option Bool :=
  some true
noncomputable def laws_eqPushSS_S1 (a1 : List (List Push)) (b6 : List (List Push)) : Int → Option (Int ⊕ Bool) := fun i13 =>
  if (decide ((i13 : Int) < (a1.length : Int))) = true then
    ((ix a1 i13).bind fun x15 =>
    (ix b6 i13).bind fun x24 =>
    (laws_eqPushS x15 x24).bind fun y33 =>
    if (!y33) = true then
      some (.inr (false))
    else
      some (.inl (IntKind.wrap .i64 (i13 + 1))))
  else
    ((laws_eqPushSS_J1).map Sum.inr)
noncomputable def laws_eqPushSS (a1 : List (List Push)) (b6 : List (List Push)) : Option Bool :=
  if ((a1.length : Int) != (b6.length : Int)) = true then
    some false
  else
    loop (laws_eqPushSS_S1 a1 b6) (0)

noncomputable def laws_eqInt64S_J1 : Option Bool :=
  some true
noncomputable def laws_eqInt64S_S1 (a1 : List Int) (b6 : List Int) : Int → Option (Int ⊕ Bool) := fun i13 =>
  if (decide ((i13 : Int) < (a1.length : Int))) = true then
    ((ix a1 i13).bind fun x15 =>
    (ix b6 i13).bind fun x20 =>
    if (x15 != x20) = true then
      some (.inr (false))
    else
      some (.inl (IntKind.wrap .i64 (i13 + 1))))
  else
    ((laws_eqInt64S_J1).map Sum.inr)
noncomputable def laws_eqInt64S (a1 : List Int) (b6 : List Int) : Option Bool :=
  if ((a1.length : Int) != (b6.length : Int)) = true then
    some false
  else
    loop (laws_eqInt64S_S1 a1 b6) (0)

noncomputable def laws_eqInt64SS_J1 : Option Bool :=
  some true
noncomputable def laws_eqInt64SS_S1 (a1 : List (List Int)) (b6 : List (List Int)) : Int → Option (Int ⊕ Bool) := fun i13 =>
  if (decide ((i13 : Int) < (a1.length : Int))) = true then
    ((ix a1 i13).bind fun x15 =>
    (ix b6 i13).bind fun x24 =>
    (laws_eqInt64S x15 x24).bind fun y33 =>
    if (!y33) = true then
      some (.inr (false))
    else
      some (.inl (IntKind.wrap .i64 (i13 + 1))))
  else
    ((laws_eqInt64SS_J1).map Sum.inr)
noncomputable def laws_eqInt64SS (a1 : List (List Int)) (b6 : List (List Int)) : Option Bool :=
  if ((a1.length : Int) != (b6.length : Int)) = true then
    some false
  else
    loop (laws_eqInt64SS_S1 a1 b6) (0)

noncomputable def laws_eqInt64SSS_J1 : Option Bool :=
  some true
noncomputable def laws_eqInt64SSS_S1 (a1 : List (List (List Int))) (b6 : List (List (List Int))) : Int → Option (Int ⊕ Bool) := fun i13 =>
  if (decide ((i13 : Int) < (a1.length : Int))) = true then
    ((ix a1 i13).bind fun x15 =>
    (ix b6 i13).bind fun x24 =>
    (laws_eqInt64SS x15 x24).bind fun y33 =>
    if (!y33) = true then
      some (.inr (false))
    else
      some (.inl (IntKind.wrap .i64 (i13 + 1))))
  else
    ((laws_eqInt64SSS_J1).map Sum.inr)
noncomputable def laws_eqInt64SSS (a1 : List (List (List Int))) (b6 : List (List (List Int))) : Option Bool :=
  if ((a1.length : Int) != (b6.length : Int)) = true then
    some false
  else
    loop (laws_eqInt64SSS_S1 a1 b6) (0)

noncomputable def laws_eqChecker (a1 : Checker) (b18 : Checker) : Option Bool :=
  if (a1.Stack != b18.Stack) = true then
    some false
  else
    (if (a1.Start != b18.Start) = true then
      some false
    else
      ((laws_eqBoolS a1.Accept b18.Accept).bind fun y37 =>
      if (!y37) = true then
        some false
      else
        ((laws_eqPushSS a1.Call b18.Call).bind fun y42 =>
        if (!y42) = true then
          some false
        else
          ((laws_eqInt64SSS a1.Return b18.Return).bind fun y47 =>
          if (!y47) = true then
            some false
          else
            ((laws_eqInt64SS a1.Inner b18.Inner).bind fun y52 =>
            if (!y52) = true then
              some false
            else
              some true)))))

noncomputable def laws_eqStringS_J1 : Option Bool :=
  some true
noncomputable def laws_eqStringS_S1 (a1 : List (List UInt8)) (b6 : List (List UInt8)) : Int → Option (Int ⊕ Bool) := fun i13 =>
  if (decide ((i13 : Int) < (a1.length : Int))) = true then
    ((ix a1 i13).bind fun x15 =>
    (ix b6 i13).bind fun x20 =>
    if (!(x15 == x20)) = true then
      some (.inr (false))
    else
      some (.inl (IntKind.wrap .i64 (i13 + 1))))
  else
    ((laws_eqStringS_J1).map Sum.inr)
noncomputable def laws_eqStringS (a1 : List (List UInt8)) (b6 : List (List UInt8)) : Option Bool :=
  if ((a1.length : Int) != (b6.length : Int)) = true then
    some false
  else
    loop (laws_eqStringS_S1 a1 b6) (0)

noncomputable def laws_eqStream (a1 : Stream) (b22 : Stream) : Option Bool :=
  (laws_eqChecker a1.Checker b22.Checker).bind fun y43 =>
  if (!y43) = true then
    some false
  else
    ((laws_eqStringS a1.Pieces b22.Pieces).bind fun y48 =>
    if (!y48) = true then
      some false
    else
      some true)

noncomputable def laws_FnExactValidStream (aV1 : Stream) : Option Bool :=
  (laws_szStream aV1 1048576).bind fun y22 =>
  if (decide ((y22 : Int) < 0)) = true then
    some true
  else
    ((laws_toStream aV1).bind fun y27 =>
    (spec_ValidStream y27).bind fun y66 =>
    (laws_toStream aV1).bind fun y70 =>
    (impl_ValidStream y70).bind fun y109 =>
    if (!(y109 == y66)) = true then
      some false
    else
      ((laws_toStream aV1).bind fun y114 =>
      (laws_eqStream y70 y114).bind fun y153 =>
      if (!y153) = true then
        some false
      else
        some true))

noncomputable def spec_WholeOf (v1 : Stream) : Option ((List UInt8) × Int) :=
  (spec_l08Ok v1).bind fun y22 =>
  if (!y22) = true then
    some (([] : List UInt8), 1)
  else
    ((spec_l08Whole v1.Pieces).bind fun y27 =>
    some (y27, 0))

noncomputable def impl_WholeOf (v1 : Stream) : Option ((List UInt8) × Int) :=
  (impl_ValidStream v1).bind fun y22 =>
  if (!y22) = true then
    some (([] : List UInt8), 1)
  else
    ((joinS v1.Pieces ([] : List UInt8)).bind fun y27 =>
    some (y27, 0))

noncomputable def laws_FnExactWholeOf (aV1 : Stream) : Option Bool :=
  (laws_szStream aV1 1048576).bind fun y22 =>
  if (decide ((y22 : Int) < 0)) = true then
    some true
  else
    ((laws_toStream aV1).bind fun y27 =>
    (spec_WholeOf y27).bind fun y66 =>
    (laws_toStream aV1).bind fun y75 =>
    (impl_WholeOf y75).bind fun y114 =>
    if ((!(y114.1 == y66.1)) || (y114.2 != y66.2)) = true then
      some false
    else
      ((laws_toStream aV1).bind fun y125 =>
      (laws_eqStream y75 y125).bind fun y164 =>
      if (!y164) = true then
        some false
      else
        some true))
end Go.Proofs.Ytolbkojnnofnaaa.law
