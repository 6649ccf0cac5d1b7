import Derived.Test.YtmgpjpaajhcmpaaAe4
import Derived.Test.YtmgpjpaajhcmpaaAeT
set_option linter.unusedVariables false
set_option linter.unusedSimpArgs false
namespace Go.Proofs.Ytmgpjpaajhcmpaa.law
open Go Go.Proofs Ae
set_option maxRecDepth 100000
set_option linter.unusedVariables false
noncomputable def Cf : Cfg := { fn := fnT.get, fnK := fnKT.get, ty := tyT.get, ext := fun g => bif Nat.beq g 64 then some (pureX φGrow) else bif Nat.beq g 62 then some φSort else none }
structure Push where
  To : Int
  Put : Int
def csPush (x : Push) : List (AV → Prop) := [(rI .i64) x.To, (rI .i64) x.Put]
def rPush (x : Push) : AV → Prop := rA (csPush x)
structure Checker where
  Stack : Int
  Start : Int
  Accept : List Bool
  Call : List (List Push)
  Return : List (List (List Int))
  Inner : List (List Int)
def csChecker (x : Checker) : List (AV → Prop) := [(rI .i64) x.Stack, (rI .i64) x.Start, (rL rB 1) x.Accept, (rL (rL rPush 2) 1) x.Call, (rL (rL (rL (rI .i64) 1) 1) 1) x.Return, (rL (rL (rI .i64) 1) 1) x.Inner]
def rChecker (x : Checker) : AV → Prop := rA (csChecker x)
def bPush (x : Push) : Prop := (bI .i64) x.To ∧ (bI .i64) x.Put
def smPush (x : Push) : Prop := smT x.To ∧ smT x.Put
def bChecker (x : Checker) : Prop := (bI .i64) x.Stack ∧ (bI .i64) x.Start ∧ (bL bB) x.Accept ∧ (bL (bL bPush)) x.Call ∧ (bL (bL (bL (bI .i64)))) x.Return ∧ (bL (bL (bI .i64))) x.Inner
def smChecker (x : Checker) : Prop := smT x.Stack ∧ smT x.Start ∧ (smL smT) x.Accept ∧ (smL (smL smT)) x.Call ∧ (smL (smL (smL smT))) x.Return ∧ (smL (smL smT)) x.Inner

noncomputable def laws_szBoolS (a1 : List Bool) (left6 : Int) : Option Int :=
  if (decide ((IntKind.wrap .i64 (left6 - (a1.length : Int)) : Int) < 0)) = true then
    some (-1)
  else
    some (IntKind.wrap .i64 (left6 - (a1.length : Int)))

noncomputable def laws_szPushS (a1 : List Push) (left6 : Int) : Option Int :=
  if (decide ((IntKind.wrap .i64 (left6 - (a1.length : Int)) : Int) < 0)) = true then
    some (-1)
  else
    some (IntKind.wrap .i64 (left6 - (a1.length : Int)))

noncomputable def laws_szPushSS_J1 (left8 : Int) : Option Int :=
  some left8
noncomputable def laws_szPushSS_S1 (a1 : List (List Push)) : (Int × Int) → Option ((Int × Int) ⊕ Int) := fun (left10, i11) =>
  if (decide ((i11 : Int) < (a1.length : Int))) = true then
    ((ix a1 i11).bind fun x13 =>
    (laws_szPushS x13 left10).bind fun y22 =>
    if (decide ((y22 : Int) < 0)) = true then
      some (.inr ((-1)))
    else
      some (.inl (y22, IntKind.wrap .i64 (i11 + 1))))
  else
    ((laws_szPushSS_J1 left10).map Sum.inr)
noncomputable def laws_szPushSS (a1 : List (List Push)) (left6 : Int) : Option Int :=
  if (decide ((IntKind.wrap .i64 (left6 - (a1.length : Int)) : Int) < 0)) = true then
    some (-1)
  else
    loop (laws_szPushSS_S1 a1) (IntKind.wrap .i64 (left6 - (a1.length : Int)), 0)

noncomputable def laws_szInt64S (a1 : List Int) (left6 : Int) : Option Int :=
  if (decide ((IntKind.wrap .i64 (left6 - (a1.length : Int)) : Int) < 0)) = true then
    some (-1)
  else
    some (IntKind.wrap .i64 (left6 - (a1.length : Int)))

noncomputable def laws_szInt64SS_J1 (left8 : Int) : Option Int :=
  some left8
noncomputable def laws_szInt64SS_S1 (a1 : List (List Int)) : (Int × Int) → Option ((Int × Int) ⊕ Int) := fun (left10, i11) =>
  if (decide ((i11 : Int) < (a1.length : Int))) = true then
    ((ix a1 i11).bind fun x13 =>
    (laws_szInt64S x13 left10).bind fun y22 =>
    if (decide ((y22 : Int) < 0)) = true then
      some (.inr ((-1)))
    else
      some (.inl (y22, IntKind.wrap .i64 (i11 + 1))))
  else
    ((laws_szInt64SS_J1 left10).map Sum.inr)
noncomputable def laws_szInt64SS (a1 : List (List Int)) (left6 : Int) : Option Int :=
  if (decide ((IntKind.wrap .i64 (left6 - (a1.length : Int)) : Int) < 0)) = true then
    some (-1)
  else
    loop (laws_szInt64SS_S1 a1) (IntKind.wrap .i64 (left6 - (a1.length : Int)), 0)

noncomputable def laws_szInt64SSS_J1 (left8 : Int) : Option Int :=
  some left8
noncomputable def laws_szInt64SSS_S1 (a1 : List (List (List Int))) : (Int × Int) → Option ((Int × Int) ⊕ Int) := fun (left10, i11) =>
  if (decide ((i11 : Int) < (a1.length : Int))) = true then
    ((ix a1 i11).bind fun x13 =>
    (laws_szInt64SS x13 left10).bind fun y22 =>
    if (decide ((y22 : Int) < 0)) = true then
      some (.inr ((-1)))
    else
      some (.inl (y22, IntKind.wrap .i64 (i11 + 1))))
  else
    ((laws_szInt64SSS_J1 left10).map Sum.inr)
noncomputable def laws_szInt64SSS (a1 : List (List (List Int))) (left6 : Int) : Option Int :=
  if (decide ((IntKind.wrap .i64 (left6 - (a1.length : Int)) : Int) < 0)) = true then
    some (-1)
  else
    loop (laws_szInt64SSS_S1 a1) (IntKind.wrap .i64 (left6 - (a1.length : Int)), 0)

noncomputable def laws_szChecker (a1 : Checker) (left18 : Int) : Option Int :=
  (laws_szBoolS a1.Accept left18).bind fun y19 =>
  if (decide ((y19 : Int) < 0)) = true then
    some (-1)
  else
    ((laws_szPushSS a1.Call y19).bind fun y24 =>
    if (decide ((y24 : Int) < 0)) = true then
      some (-1)
    else
      ((laws_szInt64SSS a1.Return y24).bind fun y29 =>
      if (decide ((y29 : Int) < 0)) = true then
        some (-1)
      else
        ((laws_szInt64SS a1.Inner y29).bind fun y34 =>
        if (decide ((y34 : Int) < 0)) = true then
          some (-1)
        else
          some y34)))

noncomputable def laws_toBoolS_J1 (out13 : List Bool) : Option (List Bool) :=
  some out13
noncomputable def laws_toBoolS_S1 (a1 : List Bool) : ((List Bool) × Int) → Option (((List Bool) × Int) ⊕ (List Bool)) := fun (out22, i28) =>
  if (decide ((i28 : Int) < (a1.length : Int))) = true then
    ((ix a1 i28).bind fun x32 =>
    (ix out22 i28).bind fun x37 =>
    some (.inl ((out22.set (Int.toNat i28) x32), IntKind.wrap .i64 (i28 + 1))))
  else
    ((laws_toBoolS_J1 out22).map Sum.inr)
noncomputable def laws_toBoolS (a1 : List Bool) : Option (List Bool) :=
  (mk (false : Bool) (a1.length : Int)).bind fun l6 =>
  loop (laws_toBoolS_S1 a1) (l6, 0)

noncomputable def laws_toPush (a1 : Push) : Option Push :=
  some a1

noncomputable def laws_toPushS_J1 (out13 : List Push) : Option (List Push) :=
  some out13
noncomputable def laws_toPushS_S1 (a1 : List Push) : ((List Push) × Int) → Option (((List Push) × Int) ⊕ (List Push)) := fun (out22, i28) =>
  if (decide ((i28 : Int) < (a1.length : Int))) = true then
    ((ix a1 i28).bind fun x32 =>
    (laws_toPush x32).bind fun y42 =>
    (ix out22 i28).bind fun x51 =>
    some (.inl ((out22.set (Int.toNat i28) y42), IntKind.wrap .i64 (i28 + 1))))
  else
    ((laws_toPushS_J1 out22).map Sum.inr)
noncomputable def laws_toPushS (a1 : List Push) : Option (List Push) :=
  (mk ((⟨0, 0⟩ : Push) : Push) (a1.length : Int)).bind fun l6 =>
  loop (laws_toPushS_S1 a1) (l6, 0)

noncomputable def laws_toPushSS_J1 (out13 : List (List Push)) : Option (List (List Push)) :=
  some out13
noncomputable def laws_toPushSS_S1 (a1 : List (List Push)) : ((List (List Push)) × Int) → Option (((List (List Push)) × Int) ⊕ (List (List Push))) := fun (out22, i28) =>
  if (decide ((i28 : Int) < (a1.length : Int))) = true then
    ((ix a1 i28).bind fun x32 =>
    (laws_toPushS x32).bind fun y41 =>
    (ix out22 i28).bind fun x49 =>
    some (.inl ((out22.set (Int.toNat i28) y41), IntKind.wrap .i64 (i28 + 1))))
  else
    ((laws_toPushSS_J1 out22).map Sum.inr)
noncomputable def laws_toPushSS (a1 : List (List Push)) : Option (List (List Push)) :=
  (mk (([] : List Push) : List Push) (a1.length : Int)).bind fun l6 =>
  loop (laws_toPushSS_S1 a1) (l6, 0)

noncomputable def laws_toInt64S_J1 (out13 : List Int) : Option (List Int) :=
  some out13
noncomputable def laws_toInt64S_S1 (a1 : List Int) : ((List Int) × Int) → Option (((List Int) × Int) ⊕ (List Int)) := fun (out22, i28) =>
  if (decide ((i28 : Int) < (a1.length : Int))) = true then
    ((ix a1 i28).bind fun x32 =>
    (ix out22 i28).bind fun x37 =>
    some (.inl ((out22.set (Int.toNat i28) x32), IntKind.wrap .i64 (i28 + 1))))
  else
    ((laws_toInt64S_J1 out22).map Sum.inr)
noncomputable def laws_toInt64S (a1 : List Int) : Option (List Int) :=
  (mk (0 : Int) (a1.length : Int)).bind fun l6 =>
  loop (laws_toInt64S_S1 a1) (l6, 0)

noncomputable def laws_toInt64SS_J1 (out13 : List (List Int)) : Option (List (List Int)) :=
  some out13
noncomputable def laws_toInt64SS_S1 (a1 : List (List Int)) : ((List (List Int)) × Int) → Option (((List (List Int)) × Int) ⊕ (List (List Int))) := fun (out22, i28) =>
  if (decide ((i28 : Int) < (a1.length : Int))) = true then
    ((ix a1 i28).bind fun x32 =>
    (laws_toInt64S x32).bind fun y41 =>
    (ix out22 i28).bind fun x49 =>
    some (.inl ((out22.set (Int.toNat i28) y41), IntKind.wrap .i64 (i28 + 1))))
  else
    ((laws_toInt64SS_J1 out22).map Sum.inr)
noncomputable def laws_toInt64SS (a1 : List (List Int)) : Option (List (List Int)) :=
  (mk (([] : List Int) : List Int) (a1.length : Int)).bind fun l6 =>
  loop (laws_toInt64SS_S1 a1) (l6, 0)

noncomputable def laws_toInt64SSS_J1 (out13 : List (List (List Int))) : Option (List (List (List Int))) :=
  some out13
noncomputable def laws_toInt64SSS_S1 (a1 : List (List (List Int))) : ((List (List (List Int))) × Int) → Option (((List (List (List Int))) × Int) ⊕ (List (List (List Int)))) := fun (out22, i28) =>
  if (decide ((i28 : Int) < (a1.length : Int))) = true then
    ((ix a1 i28).bind fun x32 =>
    (laws_toInt64SS x32).bind fun y41 =>
    (ix out22 i28).bind fun x49 =>
    some (.inl ((out22.set (Int.toNat i28) y41), IntKind.wrap .i64 (i28 + 1))))
  else
    ((laws_toInt64SSS_J1 out22).map Sum.inr)
noncomputable def laws_toInt64SSS (a1 : List (List (List Int))) : Option (List (List (List Int))) :=
  (mk (([] : List (List Int)) : List (List Int)) (a1.length : Int)).bind fun l6 =>
  loop (laws_toInt64SSS_S1 a1) (l6, 0)

noncomputable def laws_toChecker (a1 : Checker) : Option Checker :=
  (laws_toBoolS a1.Accept).bind fun y31 =>
  (laws_toPushSS a1.Call).bind fun y44 =>
  (laws_toInt64SSS a1.Return).bind fun y57 =>
  (laws_toInt64SS a1.Inner).bind fun y70 =>
  some (⟨a1.Stack, a1.Start, y31, y44, y57, y70⟩ : Checker)

noncomputable def spec_l00In (n1 : Int) (low2 : Int) (high3 : Int) : Option Bool :=
  some ((decide ((n1 : Int) ≥ low2)) && (decide ((n1 : Int) ≤ high3)))

noncomputable def spec_l02List_J1 : Option Bool :=
  some true
noncomputable def spec_l02List_S1 (list1 : List Int) (n7 : Int) : Int → Option (Int ⊕ Bool) := fun i10 =>
  if (decide ((i10 : Int) < (list1.length : Int))) = true then
    ((ix list1 i10).bind fun x12 =>
    (spec_l00In x12 0 (IntKind.wrap .i64 (n7 - 1))).bind fun y17 =>
    if (!y17) = true then
      some (.inr (false))
    else
      some (.inl (IntKind.wrap .i64 (i10 + 1))))
  else
    ((spec_l02List_J1).map Sum.inr)
noncomputable def spec_l02List (list1 : List Int) (length6 : Int) (n7 : Int) : Option Bool :=
  if ((list1.length : Int) != length6) = true then
    some false
  else
    loop (spec_l02List_S1 list1 n7) (0)

noncomputable def spec_l02Ok_J1 : Option Bool :=
  some true
noncomputable def spec_l02Ok_J2 (t39 : Int) : Option (Int ⊕ Bool) :=
  some (.inl (IntKind.wrap .i64 (t39 + 1)))
noncomputable def spec_l02Ok_S2 (p1 : Checker) (t39 : Int) : Int → Option (Int ⊕ (Int ⊕ Bool)) := fun t78 =>
  if (decide ((t78 : Int) < 2)) = true then
    ((ix p1.Call t39).bind fun x80 =>
    (ix x80 t78).bind fun x89 =>
    (spec_l00In x89.To 0 (IntKind.wrap .i64 ((p1.Accept.length : Int) - 1))).bind fun y99 =>
    (if (!y99) = true then
        some true
      else
        ((ix p1.Call t39).bind fun x105 =>
        (ix x105 t78).bind fun x114 =>
        (spec_l00In x114.Put 0 (IntKind.wrap .i64 (p1.Stack - 1))).bind fun y124 =>
        some (!y124))).bind fun b104 =>
    (if b104 = true then
        some true
      else
        ((ix p1.Return t39).bind fun x130 =>
        (ix x130 t78).bind fun x139 =>
        (spec_l02List x139 (IntKind.wrap .i64 (p1.Stack + 1)) (p1.Accept.length : Int)).bind fun y148 =>
        some (!y148))).bind fun b129 =>
    if b129 = true then
      some (.inr (.inr (false)))
    else
      some (.inl (IntKind.wrap .i64 (t78 + 1))))
  else
    ((spec_l02Ok_J2 t39).map Sum.inr)
noncomputable def spec_l02Ok_S1 (p1 : Checker) : Int → Option (Int ⊕ Bool) := fun t39 =>
  if (decide ((t39 : Int) < (p1.Accept.length : Int))) = true then
    ((ix p1.Call t39).bind fun x41 =>
    (if ((x41.length : Int) != 2) = true then
        some true
      else
        ((ix p1.Return t39).bind fun x52 =>
        some ((x52.length : Int) != 2))).bind fun b51 =>
    (if b51 = true then
        some true
      else
        ((ix p1.Inner t39).bind fun x63 =>
        (spec_l02List x63 2 (p1.Accept.length : Int)).bind fun y72 =>
        some (!y72))).bind fun b62 =>
    if b62 = true then
      some (.inr (false))
    else
      loop (spec_l02Ok_S2 p1 t39) (0))
  else
    ((spec_l02Ok_J1).map Sum.inr)
noncomputable def spec_l02Ok (p1 : Checker) : Option Bool :=
  (spec_l00In (p1.Accept.length : Int) 1 40).bind fun y18 =>
  (if (!y18) = true then
      some true
    else
      ((spec_l00In p1.Stack 1 80).bind fun y24 =>
      some (!y24))).bind fun b23 =>
  (if b23 = true then
      some true
    else
      ((spec_l00In p1.Start 0 (IntKind.wrap .i64 ((p1.Accept.length : Int) - 1))).bind fun y30 =>
      some (!y30))).bind fun b29 =>
  if (((b29 || ((p1.Call.length : Int) != (p1.Accept.length : Int))) || ((p1.Return.length : Int) != (p1.Accept.length : Int))) || ((p1.Inner.length : Int) != (p1.Accept.length : Int))) = true then
    some false
  else
    loop (spec_l02Ok_S1 p1) (0)

noncomputable def spec_l00Own (list1 : List Int) : Option (List Int) :=
  (app ([] : List Int) list1).bind fun l6 =>
  some l6

noncomputable def spec_l00Has_J1 : Option Bool :=
  some false
noncomputable def spec_l00Has_S1 (list1 : List Int) (n6 : Int) : Int → Option (Int ⊕ Bool) := fun i8 =>
  if (decide ((i8 : Int) < (list1.length : Int))) = true then
    ((ix list1 i8).bind fun x10 =>
    if (x10 == n6) = true then
      some (.inr (true))
    else
      some (.inl (IntKind.wrap .i64 (i8 + 1))))
  else
    ((spec_l00Has_J1).map Sum.inr)
noncomputable def spec_l00Has (list1 : List Int) (n6 : Int) : Option Bool :=
  loop (spec_l00Has_S1 list1 n6) (0)

noncomputable def spec_l00Put_J2 (out16 : List Int) : Option (List Int) :=
  some out16
noncomputable def spec_l00Put_J1 (n6 : Int) (out7 : List Int) (done14 : Bool) : Option (List Int) :=
  if (!done14) = true then
    ((app out7 ([n6] : List Int)).bind fun l25 =>
    spec_l00Put_J2 l25)
  else
    spec_l00Put_J2 out7
noncomputable def spec_l00Put_J3 (list1 : List Int) (i37 : Int) (out46 : List Int) (done53 : Bool) : Option (((List Int) × Bool × Int) ⊕ (List Int)) :=
  (ix list1 i37).bind fun x55 =>
  (app out46 ([x55] : List Int)).bind fun l60 =>
  some (.inl (l60, done53, IntKind.wrap .i64 (i37 + 1)))
noncomputable def spec_l00Put_S1 (list1 : List Int) (n6 : Int) : ((List Int) × Bool × Int) → Option (((List Int) × Bool × Int) ⊕ (List Int)) := fun (out29, done36, i37) =>
  if (decide ((i37 : Int) < (list1.length : Int))) = true then
    ((if (!done36) = true then
        ((ix list1 i37).bind fun x41 =>
        some (decide ((x41 : Int) ≥ n6)))
      else
        some false).bind fun b40 =>
    if b40 = true then
      ((ix list1 i37).bind fun x65 =>
      if (decide ((x65 : Int) > n6)) = true then
        ((app out29 ([n6] : List Int)).bind fun l71 =>
        spec_l00Put_J3 list1 i37 l71 true)
      else
        spec_l00Put_J3 list1 i37 out29 true)
    else
      spec_l00Put_J3 list1 i37 out29 done36)
  else
    ((spec_l00Put_J1 n6 out29 done36).map Sum.inr)
noncomputable def spec_l00Put (list1 : List Int) (n6 : Int) : Option (List Int) :=
  loop (spec_l00Put_S1 list1 n6) (([] : List Int), false, 0)

noncomputable def spec_l02Used_F1_J1 (t26 : List Int) : Option (List Int) :=
  some t26
noncomputable def spec_l02Used_F1_J3 (t86 : List Int) (t91 : List Int) : Option (((List Int) × (List Int)) ⊕ (List Int)) :=
  some (.inl (t86, t91))
noncomputable def spec_l02Used_F1_J4 (t113 : Int) (t126 : List Int) (t131 : List Int) : Option (((List Int) × (List Int) × Int) ⊕ (((List Int) × (List Int)) ⊕ (List Int))) :=
  some (.inl (t126, t131, IntKind.wrap .i64 (t113 + 1)))
noncomputable def spec_l02Used_F1_S2 (t78 : List Int) : ((List Int) × (List Int) × Int) → Option (((List Int) × (List Int) × Int) ⊕ (((List Int) × (List Int)) ⊕ (List Int))) := fun (t101, t106, t113) =>
  if (decide ((t113 : Int) < (t78.length : Int))) = true then
    ((ix t78 t113).bind fun x117 =>
    (spec_l00Has t101 x117).bind fun y122 =>
    if (!y122) = true then
      ((ix t78 t113).bind fun x142 =>
      (spec_l00Put t101 x142).bind fun y147 =>
      (ix t78 t113).bind fun x155 =>
      (app t106 ([x155] : List Int)).bind fun l160 =>
      spec_l02Used_F1_J4 t113 y147 l160)
    else
      spec_l02Used_F1_J4 t113 t101 t106)
  else
    ((spec_l02Used_F1_J3 t101 t106).map Sum.inr)
noncomputable def spec_l02Used_F1_J2 (t34 : List Int) (l54 : List Int) (t78 : List Int) : Option (((List Int) × (List Int)) ⊕ (List Int)) :=
  loop (spec_l02Used_F1_S2 t78) (t34, l54, 0)
noncomputable def spec_l02Used_F1_S3 (p111 : List (List Push)) (p116 : List (List (List Int))) (t34 : List Int) (x49 : Int) (l54 : List Int) : ((List Int) × Int) → Option (((List Int) × Int) ⊕ (((List Int) × (List Int)) ⊕ (List Int))) := fun (t167, t172) =>
  if (decide ((t172 : Int) < 2)) = true then
    ((ix p111 x49).bind fun x176 =>
    (ix x176 t172).bind fun x185 =>
    (app t167 ([x185.To] : List Int)).bind fun l195 =>
    (ix p116 x49).bind fun x199 =>
    (ix x199 t172).bind fun x208 =>
    (app l195 x208).bind fun l217 =>
    some (.inl (l217, IntKind.wrap .i64 (t172 + 1))))
  else
    ((spec_l02Used_F1_J2 t34 l54 t167).map Sum.inr)
noncomputable def spec_l02Used_F1_S1 (p111 : List (List Push)) (p116 : List (List (List Int))) (p121 : List (List Int)) : ((List Int) × (List Int)) → Option (((List Int) × (List Int)) ⊕ (List Int)) := fun (t34, t39) =>
  if (decide (((t39.length : Int) : Int) > 0)) = true then
    ((ix t39 0).bind fun x49 =>
    (cut t39 1 t39.length).bind fun l54 =>
    (ix p121 x49).bind fun x59 =>
    (spec_l00Own x59).bind fun y68 =>
    loop (spec_l02Used_F1_S3 p111 p116 t34 x49 l54) (y68, 0))
  else
    ((spec_l02Used_F1_J1 t34).map Sum.inr)
noncomputable def spec_l02Used_F1 (p14 : Int) (p15 : Int) (p16 : List Bool) (p111 : List (List Push)) (p116 : List (List (List Int))) (p121 : List (List Int)) : Option (List Int) :=
  loop (spec_l02Used_F1_S1 p111 p116 p121) (([p15] : List Int), ([p15] : List Int))

noncomputable def spec_l08Lost_J1 (out18 : List Int) : Option (List Int) :=
  some out18
noncomputable def spec_l08Lost_J3 (s35 : Int) (out71 : List Int) : Option (((List Int) × Int) ⊕ (List Int)) :=
  some (.inl (out71, IntKind.wrap .i64 (s35 + 1)))
noncomputable def spec_l08Lost_J2 (out28 : List Int) (s35 : Int) (some67 : Bool) : Option (((List Int) × Int) ⊕ (List Int)) :=
  if (!some67) = true then
    ((app out28 ([s35] : List Int)).bind fun l82 =>
    spec_l08Lost_J3 s35 l82)
  else
    spec_l08Lost_J3 s35 out28
noncomputable def spec_l08Lost_S2 (c1 : Checker) (out28 : List Int) (s35 : Int) (y52 : (List Int)) : (Bool × Int) → Option ((Bool × Int) ⊕ (((List Int) × Int) ⊕ (List Int))) := fun (some88, i89) =>
  if (decide ((i89 : Int) < (y52.length : Int))) = true then
    ((if some88 = true then
        some true
      else
        ((ix y52 i89).bind fun x95 =>
        (ix c1.Accept x95).bind fun x100 =>
        some x100)).bind fun b94 =>
    some (.inl (b94, IntKind.wrap .i64 (i89 + 1))))
  else
    ((spec_l08Lost_J2 out28 s35 some88).map Sum.inr)
noncomputable def spec_l08Lost_S1 (c1 : Checker) : ((List Int) × Int) → Option (((List Int) × Int) ⊕ (List Int)) := fun (out28, s35) =>
  if (decide ((s35 : Int) < (c1.Accept.length : Int))) = true then
    ((spec_l02Used_F1 c1.Stack s35 c1.Accept c1.Call c1.Return c1.Inner).bind fun y52 =>
    loop (spec_l08Lost_S2 c1 out28 s35 y52) (false, 0))
  else
    ((spec_l08Lost_J1 out28).map Sum.inr)
noncomputable def spec_l08Lost (c1 : Checker) : Option (List Int) :=
  loop (spec_l08Lost_S1 c1) (([] : List Int), 0)

noncomputable def spec_LostStates (c1 : Checker) : Option ((List Int) × Int) :=
  (spec_l02Ok c1).bind fun y18 =>
  if (!y18) = true then
    some (([] : List Int), 1)
  else
    ((spec_l08Lost c1).bind fun y23 =>
    some (y23, 0))

noncomputable def laws_toBoolS_K0_J1 (out15 : List Bool) : Option (List Bool) :=
  some out15
noncomputable def laws_toBoolS_K0_S1 (a1 : List Bool) : ((List Bool) × Int) → Option (((List Bool) × Int) ⊕ (List Bool)) := fun (out21, i22) =>
  if (decide ((i22 : Int) < (a1.length : Int))) = true then
    ((ix a1 i22).bind fun x28 =>
    (ix out21 i22).bind fun x35 =>
    some (.inl ((out21.set (Int.toNat i22) x28), IntKind.wrap .i64 (i22 + 1))))
  else
    ((laws_toBoolS_K0_J1 out21).map Sum.inr)
noncomputable def laws_toBoolS_K0 (a1 : List Bool) : Option (List Bool) :=
  (mk (false : Bool) (a1.length : Int)).bind fun l6 =>
  loop (laws_toBoolS_K0_S1 a1) (l6, 0)

noncomputable def laws_toPushS_K0_J1 (out15 : List Push) : Option (List Push) :=
  some out15
noncomputable def laws_toPushS_K0_S1 (a1 : List Push) : ((List Push) × Int) → Option (((List Push) × Int) ⊕ (List Push)) := fun (out21, i22) =>
  if (decide ((i22 : Int) < (a1.length : Int))) = true then
    ((ix a1 i22).bind fun x28 =>
    (laws_toPush x28).bind fun y38 =>
    (ix out21 i22).bind fun x49 =>
    some (.inl ((out21.set (Int.toNat i22) y38), IntKind.wrap .i64 (i22 + 1))))
  else
    ((laws_toPushS_K0_J1 out21).map Sum.inr)
noncomputable def laws_toPushS_K0 (a1 : List Push) : Option (List Push) :=
  (mk ((⟨0, 0⟩ : Push) : Push) (a1.length : Int)).bind fun l6 =>
  loop (laws_toPushS_K0_S1 a1) (l6, 0)

noncomputable def laws_toPushSS_K0_J1 (out15 : List (List Push)) : Option (List (List Push)) :=
  some out15
noncomputable def laws_toPushSS_K0_S1 (a1 : List (List Push)) : ((List (List Push)) × Int) → Option (((List (List Push)) × Int) ⊕ (List (List Push))) := fun (out22, i24) =>
  if (decide ((i24 : Int) < (a1.length : Int))) = true then
    ((ix a1 i24).bind fun x30 =>
    (laws_toPushS_K0 x30).bind fun y39 =>
    (ix out22 i24).bind fun x59 =>
    some (.inl ((out22.set (Int.toNat i24) y39), IntKind.wrap .i64 (i24 + 1))))
  else
    ((laws_toPushSS_K0_J1 out22).map Sum.inr)
noncomputable def laws_toPushSS_K0 (a1 : List (List Push)) : Option (List (List Push)) :=
  (mk (([] : List Push) : List Push) (a1.length : Int)).bind fun l6 =>
  loop (laws_toPushSS_K0_S1 a1) (l6, 0)

noncomputable def laws_toInt64S_K0_J1 (out15 : List Int) : Option (List Int) :=
  some out15
noncomputable def laws_toInt64S_K0_S1 (a1 : List Int) : ((List Int) × Int) → Option (((List Int) × Int) ⊕ (List Int)) := fun (out21, i22) =>
  if (decide ((i22 : Int) < (a1.length : Int))) = true then
    ((ix a1 i22).bind fun x28 =>
    (ix out21 i22).bind fun x35 =>
    some (.inl ((out21.set (Int.toNat i22) x28), IntKind.wrap .i64 (i22 + 1))))
  else
    ((laws_toInt64S_K0_J1 out21).map Sum.inr)
noncomputable def laws_toInt64S_K0 (a1 : List Int) : Option (List Int) :=
  (mk (0 : Int) (a1.length : Int)).bind fun l6 =>
  loop (laws_toInt64S_K0_S1 a1) (l6, 0)

noncomputable def laws_toInt64SS_K0_J1 (out15 : List (List Int)) : Option (List (List Int)) :=
  some out15
noncomputable def laws_toInt64SS_K0_S1 (a1 : List (List Int)) : ((List (List Int)) × Int) → Option (((List (List Int)) × Int) ⊕ (List (List Int))) := fun (out22, i24) =>
  if (decide ((i24 : Int) < (a1.length : Int))) = true then
    ((ix a1 i24).bind fun x30 =>
    (laws_toInt64S_K0 x30).bind fun y39 =>
    (ix out22 i24).bind fun x59 =>
    some (.inl ((out22.set (Int.toNat i24) y39), IntKind.wrap .i64 (i24 + 1))))
  else
    ((laws_toInt64SS_K0_J1 out22).map Sum.inr)
noncomputable def laws_toInt64SS_K0 (a1 : List (List Int)) : Option (List (List Int)) :=
  (mk (([] : List Int) : List Int) (a1.length : Int)).bind fun l6 =>
  loop (laws_toInt64SS_K0_S1 a1) (l6, 0)

noncomputable def laws_toInt64SSS_K0_J1 (out15 : List (List (List Int))) : Option (List (List (List Int))) :=
  some out15
noncomputable def laws_toInt64SSS_K0_S1 (a1 : List (List (List Int))) : ((List (List (List Int))) × Int) → Option (((List (List (List Int))) × Int) ⊕ (List (List (List Int)))) := fun (out22, i24) =>
  if (decide ((i24 : Int) < (a1.length : Int))) = true then
    ((ix a1 i24).bind fun x30 =>
    (laws_toInt64SS_K0 x30).bind fun y39 =>
    (ix out22 i24).bind fun x59 =>
    some (.inl ((out22.set (Int.toNat i24) y39), IntKind.wrap .i64 (i24 + 1))))
  else
    ((laws_toInt64SSS_K0_J1 out22).map Sum.inr)
noncomputable def laws_toInt64SSS_K0 (a1 : List (List (List Int))) : Option (List (List (List Int))) :=
  (mk (([] : List (List Int)) : List (List Int)) (a1.length : Int)).bind fun l6 =>
  loop (laws_toInt64SSS_K0_S1 a1) (l6, 0)

noncomputable def laws_toChecker_K0 (a1 : Checker) : Option Checker :=
  (laws_toBoolS_K0 a1.Accept).bind fun y31 =>
  (laws_toPushSS_K0 a1.Call).bind fun y54 =>
  (laws_toInt64SSS_K0 a1.Return).bind fun y77 =>
  (laws_toInt64SS_K0 a1.Inner).bind fun y100 =>
  some (⟨a1.Stack, a1.Start, y31, y54, y77, y100⟩ : Checker)

noncomputable def impl_size_bool (list1 : List Bool) : Option Int :=
  some (list1.length : Int)

noncomputable def impl_within (n1 : Int) (low2 : Int) (high3 : Int) : Option Bool :=
  some ((decide ((n1 : Int) ≥ low2)) && (decide ((n1 : Int) ≤ high3)))

noncomputable def impl_Checker_isState (c1 : Checker) (s18 : Int) : Option Bool :=
  (impl_size_bool c1.Accept).bind fun y19 =>
  (impl_within s18 0 (IntKind.wrap .i64 (y19 - 1))).bind fun y23 =>
  some y23

noncomputable def impl_size_simpl_Push (list1 : List (List Push)) : Option Int :=
  some (list1.length : Int)

noncomputable def impl_size_s_int64 (list1 : List (List (List Int))) : Option Int :=
  some (list1.length : Int)

noncomputable def impl_size_sint64 (list1 : List (List Int)) : Option Int :=
  some (list1.length : Int)

noncomputable def impl_size_int64 (list1 : List Int) : Option Int :=
  some (list1.length : Int)

noncomputable def slices_IndexFunc_sint64_int64_J1 : Option Int :=
  some (-1)
noncomputable def slices_IndexFunc_sint64_int64_S1 (s1 : List Int) (f6 : Int → Option Bool) : Int → Option (Int ⊕ Int) := fun t11 =>
  if (decide ((t11 : Int) < (s1.length : Int))) = true then
    ((ix s1 t11).bind fun x13 =>
    (f6 x13).bind fun y18 =>
    if y18 = true then
      some (.inr (t11))
    else
      some (.inl (IntKind.wrap .i64 (t11 + 1))))
  else
    ((slices_IndexFunc_sint64_int64_J1).map Sum.inr)
noncomputable def slices_IndexFunc_sint64_int64 (s1 : List Int) (f6 : Int → Option Bool) : Option Int :=
  loop (slices_IndexFunc_sint64_int64_S1 s1 f6) (0)

noncomputable def slices_ContainsFunc_sint64_int64 (s1 : List Int) (f6 : Int → Option Bool) : Option Bool :=
  (slices_IndexFunc_sint64_int64 s1 f6).bind fun y10 =>
  some (decide ((y10 : Int) ≥ 0))

noncomputable def impl_ValidChecker_1_1 (s1 : Int) (c2 : Checker) : Option Bool :=
  (impl_Checker_isState c2 s1).bind fun y19 =>
  some (!y19)

noncomputable def impl_ValidChecker_1 (list1 : List Int) (many6 : Int) (c7 : Checker) : Option Bool :=
  (impl_size_int64 list1).bind fun y24 =>
  (if (y24 == many6) = true then
      ((slices_ContainsFunc_sint64_int64 list1 (fun x => impl_ValidChecker_1_1 x c7)).bind fun y30 =>
      some (!y30))
    else
      some false).bind fun b29 =>
  some b29

noncomputable def impl_Checker_isMark (c1 : Checker) (x18 : Int) : Option Bool :=
  (impl_within x18 0 (IntKind.wrap .i64 (c1.Stack - 1))).bind fun y19 =>
  some y19

noncomputable def impl_ValidChecker_J1 : Option Bool :=
  some true
noncomputable def impl_ValidChecker_J2 (t58 : Int) : Option (Int ⊕ Bool) :=
  some (.inl (IntKind.wrap .i64 (t58 + 1)))
noncomputable def impl_ValidChecker_S2 (p1 : Checker) (t58 : Int) : Int → Option (Int ⊕ (Int ⊕ Bool)) := fun t97 =>
  if (decide ((t97 : Int) < 2)) = true then
    ((ix p1.Call t58).bind fun x99 =>
    (ix x99 t97).bind fun x108 =>
    (impl_Checker_isState p1 x108.To).bind fun y118 =>
    (if (!y118) = true then
        some true
      else
        ((impl_Checker_isMark p1 x108.Put).bind fun y124 =>
        some (!y124))).bind fun b123 =>
    (if b123 = true then
        some true
      else
        ((ix p1.Return t58).bind fun x130 =>
        (ix x130 t97).bind fun x139 =>
        (impl_ValidChecker_1 x139 (IntKind.wrap .i64 (p1.Stack + 1)) p1).bind fun y148 =>
        some (!y148))).bind fun b129 =>
    if b129 = true then
      some (.inr (.inr (false)))
    else
      some (.inl (IntKind.wrap .i64 (t97 + 1))))
  else
    ((impl_ValidChecker_J2 t58).map Sum.inr)
noncomputable def impl_ValidChecker_S1 (p1 : Checker) (y18 : Int) : Int → Option (Int ⊕ Bool) := fun t58 =>
  if (decide ((t58 : Int) < y18)) = true then
    ((ix p1.Call t58).bind fun x60 =>
    (if ((x60.length : Int) != 2) = true then
        some true
      else
        ((ix p1.Return t58).bind fun x71 =>
        some ((x71.length : Int) != 2))).bind fun b70 =>
    (if b70 = true then
        some true
      else
        ((ix p1.Inner t58).bind fun x82 =>
        (impl_ValidChecker_1 x82 2 p1).bind fun y91 =>
        some (!y91))).bind fun b81 =>
    if b81 = true then
      some (.inr (false))
    else
      loop (impl_ValidChecker_S2 p1 t58) (0))
  else
    ((impl_ValidChecker_J1).map Sum.inr)
noncomputable def impl_ValidChecker (p1 : Checker) : Option Bool :=
  (impl_size_bool p1.Accept).bind fun y18 =>
  (impl_within y18 1 40).bind fun y22 =>
  (if (!y22) = true then
      some true
    else
      ((impl_within p1.Stack 1 80).bind fun y28 =>
      some (!y28))).bind fun b27 =>
  (if b27 = true then
      some true
    else
      ((impl_Checker_isState p1 p1.Start).bind fun y34 =>
      some (!y34))).bind fun b33 =>
  (if b33 = true then
      some true
    else
      ((impl_size_simpl_Push p1.Call).bind fun y40 =>
      some (y40 != y18))).bind fun b39 =>
  (if b39 = true then
      some true
    else
      ((impl_size_s_int64 p1.Return).bind fun y46 =>
      some (y46 != y18))).bind fun b45 =>
  (if b45 = true then
      some true
    else
      ((impl_size_sint64 p1.Inner).bind fun y52 =>
      some (y52 != y18))).bind fun b51 =>
  if b51 = true then
    some false
  else
    loop (impl_ValidChecker_S1 p1 y18) (0)

noncomputable def slices_Concat_sint64_int64_J2 (newslice16 : List Int) : Option (List Int) :=
  some newslice16
noncomputable def slices_Concat_sint64_int64_S1 (slices1 : List (List Int)) : ((List Int) × Int) → Option (((List Int) × Int) ⊕ (List Int)) := fun (newslice22, t27) =>
  if (decide ((t27 : Int) < (slices1.length : Int))) = true then
    ((ix slices1 t27).bind fun x29 =>
    (app newslice22 x29).bind fun l38 =>
    some (.inl (l38, IntKind.wrap .i64 (t27 + 1))))
  else
    ((slices_Concat_sint64_int64_J2 newslice22).map Sum.inr)
noncomputable def slices_Concat_sint64_int64_J1 (slices1 : List (List Int)) (size6 : Int) : Option (List Int) :=
  (growN ([] : List Int) size6).bind fun y8 =>
  loop (slices_Concat_sint64_int64_S1 slices1) (y8, 0)
noncomputable def slices_Concat_sint64_int64_S2 (slices1 : List (List Int)) : (Int × Int) → Option ((Int × Int) ⊕ (List Int)) := fun (size43, t44) =>
  if (decide ((t44 : Int) < (slices1.length : Int))) = true then
    ((ix slices1 t44).bind fun x46 =>
    if (decide ((IntKind.wrap .i64 (size43 + (x46.length : Int)) : Int) < 0)) = true then
      none
    else
      some (.inl (IntKind.wrap .i64 (size43 + (x46.length : Int)), IntKind.wrap .i64 (t44 + 1))))
  else
    ((slices_Concat_sint64_int64_J1 slices1 size43).map Sum.inr)
noncomputable def slices_Concat_sint64_int64 (slices1 : List (List Int)) : Option (List Int) :=
  loop (slices_Concat_sint64_int64_S2 slices1) (0, 0)

noncomputable def slices_Index_sint64_int64_J1 : Option Int :=
  some (-1)
noncomputable def slices_Index_sint64_int64_S1 (s1 : List Int) (v6 : Int) : Int → Option (Int ⊕ Int) := fun t8 =>
  if (decide ((t8 : Int) < (s1.length : Int))) = true then
    ((ix s1 t8).bind fun x10 =>
    if (v6 == x10) = true then
      some (.inr (t8))
    else
      some (.inl (IntKind.wrap .i64 (t8 + 1))))
  else
    ((slices_Index_sint64_int64_J1).map Sum.inr)
noncomputable def slices_Index_sint64_int64 (s1 : List Int) (v6 : Int) : Option Int :=
  loop (slices_Index_sint64_int64_S1 s1 v6) (0)

noncomputable def slices_Contains_sint64_int64 (s1 : List Int) (v6 : Int) : Option Bool :=
  (slices_Index_sint64_int64 s1 v6).bind fun y7 =>
  some (decide ((y7 : Int) ≥ 0))

noncomputable def impl_Checker_used_J1 (t25 : List Int) : Option (List Int) :=
  (srtM t25).bind fun y35 =>
  some y35
noncomputable def impl_Checker_used_J2 (t61 : Int) (t168 : List Int) : Option (((List Int) × Int) ⊕ (List Int)) :=
  some (.inl (t168, IntKind.wrap .i64 (t61 + 1)))
noncomputable def impl_Checker_used_J3 (t183 : Int) (t201 : List Int) : Option (((List Int) × Int) ⊕ (((List Int) × Int) ⊕ (List Int))) :=
  some (.inl (t201, IntKind.wrap .i64 (t183 + 1)))
noncomputable def impl_Checker_used_S2 (t61 : Int) (y160 : (List Int)) : ((List Int) × Int) → Option (((List Int) × Int) ⊕ (((List Int) × Int) ⊕ (List Int))) := fun (t178, t183) =>
  if (decide ((t183 : Int) < (y160.length : Int))) = true then
    ((ix y160 t183).bind fun x189 =>
    (slices_Contains_sint64_int64 t178 x189).bind fun y194 =>
    if (!y194) = true then
      ((app t178 ([x189] : List Int)).bind fun l212 =>
      impl_Checker_used_J3 t183 l212)
    else
      impl_Checker_used_J3 t183 t178)
  else
    ((impl_Checker_used_J2 t61 t178).map Sum.inr)
noncomputable def impl_Checker_used_S1 (p1 : Checker) : ((List Int) × Int) → Option (((List Int) × Int) ⊕ (List Int)) := fun (t56, t61) =>
  if (decide ((t61 : Int) < (t56.length : Int))) = true then
    ((ix t56 t61).bind fun x69 =>
    (ix p1.Return x69).bind fun x77 =>
    (ix x77 0).bind fun x86 =>
    (ix p1.Return x69).bind fun x95 =>
    (ix x95 1).bind fun x104 =>
    (ix p1.Inner x69).bind fun x113 =>
    (ix p1.Call x69).bind fun x122 =>
    (ix x122 0).bind fun x131 =>
    (ix p1.Call x69).bind fun x141 =>
    (ix x141 1).bind fun x150 =>
    (slices_Concat_sint64_int64 ([x86, x104, x113, ([x131.To, x150.To] : List Int)] : List (List Int))).bind fun y160 =>
    loop (impl_Checker_used_S2 t61 y160) (t56, 0))
  else
    ((impl_Checker_used_J1 t56).map Sum.inr)
noncomputable def impl_Checker_used (p1 : Checker) : Option (List Int) :=
  loop (impl_Checker_used_S1 p1) (([p1.Start] : List Int), 0)

noncomputable def impl_Checker_lost_1 (p0_1 : Int) (c2 : Checker) : Option Bool :=
  (ix c2.Accept p0_1).bind fun x19 =>
  some x19

noncomputable def impl_Checker_lost_K0_J1 (out18 : List Int) : Option (List Int) :=
  some out18
noncomputable def impl_Checker_lost_K0_J2 (t31 : Int) (out62 : List Int) : Option (((List Int) × Int) ⊕ (List Int)) :=
  some (.inl (out62, IntKind.wrap .i64 (t31 + 1)))
noncomputable def impl_Checker_lost_K0_S1 (c1 : Checker) : ((List Int) × Int) → Option (((List Int) × Int) ⊕ (List Int)) := fun (out27, t31) =>
  if (decide ((t31 : Int) < (c1.Accept.length : Int))) = true then
    ((impl_Checker_used (⟨c1.Stack, t31, c1.Accept, c1.Call, c1.Return, c1.Inner⟩ : Checker)).bind fun y50 =>
    (slices_ContainsFunc_sint64_int64 y50 (fun x => impl_Checker_lost_1 x c1)).bind fun y58 =>
    if (!y58) = true then
      ((app out27 ([t31] : List Int)).bind fun l72 =>
      impl_Checker_lost_K0_J2 t31 l72)
    else
      impl_Checker_lost_K0_J2 t31 out27)
  else
    ((impl_Checker_lost_K0_J1 out27).map Sum.inr)
noncomputable def impl_Checker_lost_K0 (c1 : Checker) : Option (List Int) :=
  loop (impl_Checker_lost_K0_S1 c1) (([] : List Int), 0)

noncomputable def impl_LostStates_K0 (c1 : Checker) : Option ((List Int) × Int) :=
  (impl_ValidChecker c1).bind fun y18 =>
  if (!y18) = true then
    some (([] : List Int), 1)
  else
    ((impl_Checker_lost_K0 c1).bind fun y25 =>
    some (y25, 0))

noncomputable def laws_eqInt64S_J1 : Option Bool :=
  some true
noncomputable def laws_eqInt64S_S1 (a1 : List Int) (b6 : List Int) : Int → Option (Int ⊕ Bool) := fun i13 =>
  if (decide ((i13 : Int) < (a1.length : Int))) = true then
    ((ix a1 i13).bind fun x15 =>
    (ix b6 i13).bind fun x20 =>
    if (x15 != x20) = true then
      some (.inr (false))
    else
      some (.inl (IntKind.wrap .i64 (i13 + 1))))
  else
    ((laws_eqInt64S_J1).map Sum.inr)
noncomputable def laws_eqInt64S (a1 : List Int) (b6 : List Int) : Option Bool :=
  if ((a1.length : Int) != (b6.length : Int)) = true then
    some false
  else
    loop (laws_eqInt64S_S1 a1 b6) (0)

noncomputable def laws_eqBoolS_J1 : Option Bool :=
  some true
noncomputable def laws_eqBoolS_S1 (a1 : List Bool) (b6 : List Bool) : Int → Option (Int ⊕ Bool) := fun i13 =>
  if (decide ((i13 : Int) < (a1.length : Int))) = true then
    ((ix a1 i13).bind fun x15 =>
    (ix b6 i13).bind fun x20 =>
    if (!(x15 == x20)) = true then
      some (.inr (false))
    else
      some (.inl (IntKind.wrap .i64 (i13 + 1))))
  else
    ((laws_eqBoolS_J1).map Sum.inr)
noncomputable def laws_eqBoolS (a1 : List Bool) (b6 : List Bool) : Option Bool :=
  if ((a1.length : Int) != (b6.length : Int)) = true then
    some false
  else
    loop (laws_eqBoolS_S1 a1 b6) (0)

noncomputable def laws_eqPush (a1 : Push) (b2 : Push) : Option Bool :=
  if (a1.To != b2.To) = true then
    some false
  else
    (if (a1.Put != b2.Put) = true then
      some false
    else
      some true)

noncomputable def laws_eqPushS_J1 : Option Bool :=
  some true
noncomputable def laws_eqPushS_S1 (a1 : List Push) (b6 : List Push) : Int → Option (Int ⊕ Bool) := fun i13 =>
  if (decide ((i13 : Int) < (a1.length : Int))) = true then
    ((ix a1 i13).bind fun x15 =>
    (ix b6 i13).bind fun x25 =>
    (laws_eqPush x15 x25).bind fun y35 =>
    if (!y35) = true then
      some (.inr (false))
    else
      some (.inl (IntKind.wrap .i64 (i13 + 1))))
  else
    ((laws_eqPushS_J1).map Sum.inr)
noncomputable def laws_eqPushS (a1 : List Push) (b6 : List Push) : Option Bool :=
  if ((a1.length : Int) != (b6.length : Int)) = true then
    some false
  else
    loop (laws_eqPushS_S1 a1 b6) (0)

noncomputable def laws_eqPushSS_J1 : Option Bool :=
  some true
noncomputable def laws_eqPushSS_S1 (a1 : List (List Push)) (b6 : List (List Push)) : Int → Option (Int ⊕ Bool) := fun i13 =>
  if (decide ((i13 : Int) < (a1.length : Int))) = true then
    ((ix a1 i13).bind fun x15 =>
    (ix b6 i13).bind fun x24 =>
    (laws_eqPushS x15 x24).bind fun y33 =>
    if (!y33) = true then
      some (.inr (false))
    else
      some (.inl (IntKind.wrap .i64 (i13 + 1))))
  else
    ((laws_eqPushSS_J1).map Sum.inr)
noncomputable def laws_eqPushSS (a1 : List (List Push)) (b6 : List (List Push)) : Option Bool :=
  if ((a1.length : Int) != (b6.length : Int)) = true then
    some false
  else
    loop (laws_eqPushSS_S1 a1 b6) (0)

noncomputable def laws_eqInt64SS_J1 : Option Bool :=
  some true
noncomputable def laws_eqInt64SS_S1 (a1 : List (List Int)) (b6 : List (List Int)) : Int → Option (Int ⊕ Bool) := fun i13 =>
  if (decide ((i13 : Int) < (a1.length : Int))) = true then
    ((ix a1 i13).bind fun x15 =>
    (ix b6 i13).bind fun x24 =>
    (laws_eqInt64S x15 x24).bind fun y33 =>
    if (!y33) = true then
      some (.inr (false))
    else
      some (.inl (IntKind.wrap .i64 (i13 + 1))))
  else
    ((laws_eqInt64SS_J1).map Sum.inr)
noncomputable def laws_eqInt64SS (a1 : List (List Int)) (b6 : List (List Int)) : Option Bool :=
  if ((a1.length : Int) != (b6.length : Int)) = true then
    some false
  else
    loop (laws_eqInt64SS_S1 a1 b6) (0)

noncomputable def laws_eqInt64SSS_J1 : Option Bool :=
  some true
noncomputable def laws_eqInt64SSS_S1 (a1 : List (List (List Int))) (b6 : List (List (List Int))) : Int → Option (Int ⊕ Bool) := fun i13 =>
  if (decide ((i13 : Int) < (a1.length : Int))) = true then
    ((ix a1 i13).bind fun x15 =>
    (ix b6 i13).bind fun x24 =>
    (laws_eqInt64SS x15 x24).bind fun y33 =>
    if (!y33) = true then
      some (.inr (false))
    else
      some (.inl (IntKind.wrap .i64 (i13 + 1))))
  else
    ((laws_eqInt64SSS_J1).map Sum.inr)
noncomputable def laws_eqInt64SSS (a1 : List (List (List Int))) (b6 : List (List (List Int))) : Option Bool :=
  if ((a1.length : Int) != (b6.length : Int)) = true then
    some false
  else
    loop (laws_eqInt64SSS_S1 a1 b6) (0)

noncomputable def laws_eqChecker (a1 : Checker) (b18 : Checker) : Option Bool :=
  if (a1.Stack != b18.Stack) = true then
    some false
  else
    (if (a1.Start != b18.Start) = true then
      some false
    else
      ((laws_eqBoolS a1.Accept b18.Accept).bind fun y37 =>
      if (!y37) = true then
        some false
      else
        ((laws_eqPushSS a1.Call b18.Call).bind fun y49 =>
        if (!y49) = true then
          some false
        else
          ((laws_eqInt64SSS a1.Return b18.Return).bind fun y61 =>
          if (!y61) = true then
            some false
          else
            ((laws_eqInt64SS a1.Inner b18.Inner).bind fun y73 =>
            if (!y73) = true then
              some false
            else
              some true)))))

noncomputable def laws_markBoolS_K10_J1 (m6 : List Bool) (k7 : Int) : Option (Int × (List Bool)) :=
  some (k7, m6)
noncomputable def laws_markBoolS_K10_S1 : ((List Bool) × Int × Int) → Option (((List Bool) × Int × Int) ⊕ (Int × (List Bool))) := fun (m13, k14, i15) =>
  if (decide ((i15 : Int) < (m13.length : Int))) = true then
    ((remI .i64 k14 3).bind fun q21 =>
    (ix m13 i15).bind fun x25 =>
    some (.inl ((m13.set (Int.toNat i15) (q21 == 0)), IntKind.wrap .i64 (k14 + 1), IntKind.wrap .i64 (i15 + 1))))
  else
    ((laws_markBoolS_K10_J1 m13 k14).map Sum.inr)
noncomputable def laws_markBoolS_K10 (a4 : List Bool) (k5 : Int) : Option (Int × (List Bool)) :=
  loop (laws_markBoolS_K10_S1) (a4, k5, 0)

noncomputable def laws_markPushS_K10_J1 (m6 : List Push) (k7 : Int) : Option (Int × (List Push)) :=
  some (k7, m6)
noncomputable def laws_markPushS_K10_S1 : ((List Push) × Int × Int) → Option (((List Push) × Int × Int) ⊕ (Int × (List Push))) := fun (m13, k14, i15) =>
  if (decide ((i15 : Int) < (m13.length : Int))) = true then
    ((ix m13 i15).bind fun x23 =>
    some (.inl (((m13.set (Int.toNat i15) ({ x23 with To := k14 } : Push)).set (Int.toNat i15) ({ ({ x23 with To := k14 } : Push) with Put := IntKind.wrap .i64 (k14 + 1) } : Push)), IntKind.wrap .i64 ((IntKind.wrap .i64 (k14 + 1)) + 1), IntKind.wrap .i64 (i15 + 1))))
  else
    ((laws_markPushS_K10_J1 m13 k14).map Sum.inr)
noncomputable def laws_markPushS_K10 (a4 : List Push) (k5 : Int) : Option (Int × (List Push)) :=
  loop (laws_markPushS_K10_S1) (a4, k5, 0)

noncomputable def laws_markPushSS_K10_J1 (m6 : List (List Push)) (k7 : Int) : Option (Int × (List (List Push))) :=
  some (k7, m6)
noncomputable def laws_markPushSS_K10_S1 : ((List (List Push)) × Int × Int) → Option (((List (List Push)) × Int × Int) ⊕ (Int × (List (List Push)))) := fun (m13, k14, i15) =>
  if (decide ((i15 : Int) < (m13.length : Int))) = true then
    ((ix m13 i15).bind fun x23 =>
    (laws_markPushS_K10 x23 k14).bind fun y30 =>
    some (.inl ((m13.set (Int.toNat i15) y30.2), y30.1, IntKind.wrap .i64 (i15 + 1))))
  else
    ((laws_markPushSS_K10_J1 m13 k14).map Sum.inr)
noncomputable def laws_markPushSS_K10 (a4 : List (List Push)) (k5 : Int) : Option (Int × (List (List Push))) :=
  loop (laws_markPushSS_K10_S1) (a4, k5, 0)

noncomputable def laws_markInt64S_K10_J1 (m6 : List Int) (k7 : Int) : Option (Int × (List Int)) :=
  some (k7, m6)
noncomputable def laws_markInt64S_K10_S1 : ((List Int) × Int × Int) → Option (((List Int) × Int × Int) ⊕ (Int × (List Int))) := fun (m13, k14, i15) =>
  if (decide ((i15 : Int) < (m13.length : Int))) = true then
    ((ix m13 i15).bind fun x23 =>
    some (.inl ((m13.set (Int.toNat i15) k14), IntKind.wrap .i64 (k14 + 1), IntKind.wrap .i64 (i15 + 1))))
  else
    ((laws_markInt64S_K10_J1 m13 k14).map Sum.inr)
noncomputable def laws_markInt64S_K10 (a4 : List Int) (k5 : Int) : Option (Int × (List Int)) :=
  loop (laws_markInt64S_K10_S1) (a4, k5, 0)

noncomputable def laws_markInt64SS_K10_J1 (m6 : List (List Int)) (k7 : Int) : Option (Int × (List (List Int))) :=
  some (k7, m6)
noncomputable def laws_markInt64SS_K10_S1 : ((List (List Int)) × Int × Int) → Option (((List (List Int)) × Int × Int) ⊕ (Int × (List (List Int)))) := fun (m13, k14, i15) =>
  if (decide ((i15 : Int) < (m13.length : Int))) = true then
    ((ix m13 i15).bind fun x23 =>
    (laws_markInt64S_K10 x23 k14).bind fun y30 =>
    some (.inl ((m13.set (Int.toNat i15) y30.2), y30.1, IntKind.wrap .i64 (i15 + 1))))
  else
    ((laws_markInt64SS_K10_J1 m13 k14).map Sum.inr)
noncomputable def laws_markInt64SS_K10 (a4 : List (List Int)) (k5 : Int) : Option (Int × (List (List Int))) :=
  loop (laws_markInt64SS_K10_S1) (a4, k5, 0)

noncomputable def laws_markInt64SSS_K10_J1 (m6 : List (List (List Int))) (k7 : Int) : Option (Int × (List (List (List Int)))) :=
  some (k7, m6)
noncomputable def laws_markInt64SSS_K10_S1 : ((List (List (List Int))) × Int × Int) → Option (((List (List (List Int))) × Int × Int) ⊕ (Int × (List (List (List Int))))) := fun (m13, k14, i15) =>
  if (decide ((i15 : Int) < (m13.length : Int))) = true then
    ((ix m13 i15).bind fun x23 =>
    (laws_markInt64SS_K10 x23 k14).bind fun y30 =>
    some (.inl ((m13.set (Int.toNat i15) y30.2), y30.1, IntKind.wrap .i64 (i15 + 1))))
  else
    ((laws_markInt64SSS_K10_J1 m13 k14).map Sum.inr)
noncomputable def laws_markInt64SSS_K10 (a4 : List (List (List Int))) (k5 : Int) : Option (Int × (List (List (List Int)))) :=
  loop (laws_markInt64SSS_K10_S1) (a4, k5, 0)

noncomputable def laws_markChecker_K10 (a1 : Checker) (k14 : Int) : Option (Int × (List Bool) × (List (List Push)) × (List (List (List Int))) × (List (List Int))) :=
  (laws_markBoolS_K10 a1.Accept k14).bind fun y15 =>
  (laws_markPushSS_K10 a1.Call y15.1).bind fun y35 =>
  (laws_markInt64SSS_K10 a1.Return y35.1).bind fun y55 =>
  (laws_markInt64SS_K10 a1.Inner y55.1).bind fun y75 =>
  some (y75.1, y15.2, y35.2, y55.2, y75.2)

noncomputable def laws_heldInt64S_J1 (k7 : Int) : Option Int :=
  some k7
noncomputable def laws_heldInt64S_S1 (a1 : List Int) : (Int × Int) → Option ((Int × Int) ⊕ Int) := fun (k9, i10) =>
  if (decide ((i10 : Int) < (a1.length : Int))) = true then
    ((ix a1 i10).bind fun x12 =>
    if (x12 != k9) = true then
      some (.inr ((-1)))
    else
      some (.inl (IntKind.wrap .i64 (k9 + 1), IntKind.wrap .i64 (i10 + 1))))
  else
    ((laws_heldInt64S_J1 k9).map Sum.inr)
noncomputable def laws_heldInt64S (a1 : List Int) (k6 : Int) : Option Int :=
  loop (laws_heldInt64S_S1 a1) (k6, 0)

noncomputable def impl_Checker_lost_J1 (out18 : List Int) : Option (List Int) :=
  some out18
noncomputable def impl_Checker_lost_J2 (t35 : Int) (out64 : List Int) : Option (((List Int) × Int) ⊕ (List Int)) :=
  some (.inl (out64, IntKind.wrap .i64 (t35 + 1)))
noncomputable def impl_Checker_lost_S1 (c1 : Checker) : ((List Int) × Int) → Option (((List Int) × Int) ⊕ (List Int)) := fun (out28, t35) =>
  if (decide ((t35 : Int) < (c1.Accept.length : Int))) = true then
    ((impl_Checker_used (⟨c1.Stack, t35, c1.Accept, c1.Call, c1.Return, c1.Inner⟩ : Checker)).bind fun y52 =>
    (slices_ContainsFunc_sint64_int64 y52 (fun x => impl_Checker_lost_1 x c1)).bind fun y60 =>
    if (!y60) = true then
      ((app out28 ([t35] : List Int)).bind fun l75 =>
      impl_Checker_lost_J2 t35 l75)
    else
      impl_Checker_lost_J2 t35 out28)
  else
    ((impl_Checker_lost_J1 out28).map Sum.inr)
noncomputable def impl_Checker_lost (c1 : Checker) : Option (List Int) :=
  loop (impl_Checker_lost_S1 c1) (([] : List Int), 0)

noncomputable def impl_LostStates (c1 : Checker) : Option ((List Int) × Int) :=
  (impl_ValidChecker c1).bind fun y18 =>
  if (!y18) = true then
    some (([] : List Int), 1)
  else
    ((impl_Checker_lost c1).bind fun y23 =>
    some (y23, 0))

noncomputable def laws_FnExactLostStates (p1 : Checker) : Option Bool :=
  (laws_szChecker p1 1048576).bind fun y18 =>
  if (decide ((y18 : Int) < 0)) = true then
    some true
  else
    ((laws_toChecker p1).bind fun y23 =>
    (spec_LostStates y23).bind fun y56 =>
    (laws_toChecker_K0 p1).bind fun y69 =>
    (impl_LostStates_K0 y69).bind fun y111 =>
    (laws_eqInt64S y111.1 y56.1).bind fun y153 =>
    if ((!y153) || (y111.2 != y56.2)) = true then
      some false
    else
      ((laws_toChecker p1).bind fun y166 =>
      (laws_eqChecker y69 y166).bind fun y199 =>
      if (!y199) = true then
        some false
      else
        ((laws_markChecker_K10 y69 1).bind fun y261 =>
        (if (decide ((y261.1 : Int) < 0)) = true then
            some true
          else
            ((laws_eqInt64S y111.1 y56.1).bind fun y313 =>
            some (!y313))).bind fun b312 =>
        if (b312 || (y111.2 != y56.2)) = true then
          some false
        else
          ((laws_markInt64S_K10 y111.1 1).bind fun y326 =>
          (laws_heldInt64S y326.2 1).bind fun y346 =>
          if (decide ((y346 : Int) < 0)) = true then
            some false
          else
            (if (y346 != y326.1) = true then
              some false
            else
              ((laws_toChecker p1).bind fun y355 =>
              (impl_LostStates y355).bind fun y388 =>
              (laws_eqInt64S y388.1 y56.1).bind fun y401 =>
              if ((!y401) || (y388.2 != y56.2)) = true then
                some false
              else
                ((laws_heldInt64S y326.2 1).bind fun y414 =>
                if (decide ((y414 : Int) < 0)) = true then
                  some false
                else
                  (if (y414 != y326.1) = true then
                    some false
                  else
                    some true))))))))
end Go.Proofs.Ytmgpjpaajhcmpaa.law
