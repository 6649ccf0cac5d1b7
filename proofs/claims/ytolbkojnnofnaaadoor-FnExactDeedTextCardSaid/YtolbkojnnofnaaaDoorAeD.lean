import Derived.Test.YtolbkojnnofnaaaDoorAe4
import Derived.Test.YtolbkojnnofnaaaDoorAeT
set_option linter.unusedVariables false
set_option linter.unusedSimpArgs false
namespace Go.Proofs.YtolbkojnnofnaaaDoor.law
open Go Go.Proofs Ae
set_option maxRecDepth 100000
set_option linter.unusedVariables false
noncomputable def Cf : Cfg := { fn := fnT.get, fnK := fnKT.get, ty := tyT.get, ext := fun g => bif Nat.beq g 16 then some φFmt else none, tab := pow10T Tryd.prog }
structure Deed where
  Kind : Int
  A : Int
  B : Int
def csDeed (x : Deed) : List (AV → Prop) := [(rI .i64) x.Kind, (rI .i64) x.A, (rI .i64) x.B]
def rDeed (x : Deed) : AV → Prop := rA (csDeed x)
def bDeed (x : Deed) : Prop := (bI .i64) x.Kind ∧ (bI .i64) x.A ∧ (bI .i64) x.B
def smDeed (x : Deed) : Prop := smT x.Kind ∧ smT x.A ∧ smT x.B

noncomputable def laws_toDeed (a1 : Deed) : Option Deed :=
  some a1

noncomputable def spec_l00In (n1 : Int) (low2 : Int) (high3 : Int) : Option Bool :=
  some ((decide ((n1 : Int) ≥ low2)) && (decide ((n1 : Int) ≤ high3)))

noncomputable def spec_l08Words : Option ((List (List UInt8)) × (List Int)) :=
  some (([([] : List UInt8), ([115, 101, 110, 100] : List UInt8), ([100, 101, 108, 105, 118, 101, 114] : List UInt8), ([99, 111, 112, 121] : List UInt8), ([100, 114, 111, 112] : List UInt8), ([115, 97, 118, 101] : List UInt8), ([99, 114, 97, 115, 104] : List UInt8)] : List (List UInt8)), ([0, 2, 1, 1, 1, 0, 0] : List Int))

noncomputable def spec_l08Deed (d1 : Deed) : Option Bool :=
  (spec_l00In d1.Kind 1 6).bind fun y2 =>
  (if (!y2) = true then
      some true
    else
      ((spec_l00In d1.A 0 999).bind fun y8 =>
      some (!y8))).bind fun b7 =>
  (if b7 = true then
      some true
    else
      ((spec_l00In d1.B 0 999).bind fun y14 =>
      some (!y14))).bind fun b13 =>
  if b13 = true then
    some false
  else
    ((spec_l08Words ).bind fun y19 =>
    (ix y19.2 d1.Kind).bind fun x36 =>
    (if ((decide ((x36 : Int) > 0)) || (d1.A == 0)) = true then
        ((ix y19.2 d1.Kind).bind fun x44 =>
        some ((decide ((x44 : Int) > 1)) || (d1.B == 0)))
      else
        some false).bind fun b43 =>
    some b43)

noncomputable def spec_Decimal_B (rec14 : Int → Option (List UInt8)) (n1 : Int) : Option (List UInt8) :=
  if (decide ((n1 : Int) ≥ 10)) = true then
    ((quoI .i64 n1 10).bind fun q3 =>
    (rec14 q3).bind fun y5 =>
    (remI .i64 n1 10).bind fun q9 =>
    (app y5 (bytesOf ([IntKind.wrap .u8 (IntKind.wrap .i64 (48 + q9))] : List Int))).bind fun w11 =>
    some w11)
  else
    some (bytesOf ([IntKind.wrap .u8 (IntKind.wrap .i64 (48 + n1))] : List Int))
noncomputable def spec_Decimal_N : Nat → Int → Option (List UInt8)
  | 0 => fun _ => none
  | n + 1 => spec_Decimal_B (spec_Decimal_N n)
noncomputable def spec_Decimal : Int → Option (List UInt8) := spec_Decimal_N 1000

noncomputable def spec_l02Row_J1 (text7 : List UInt8) : Option (List UInt8) :=
  some text7
noncomputable def spec_l02Row_S1 (list2 : List Int) : ((List UInt8) × Int) → Option (((List UInt8) × Int) ⊕ (List UInt8)) := fun (text9, i10) =>
  if (decide ((i10 : Int) < (list2.length : Int))) = true then
    ((ix list2 i10).bind fun x12 =>
    (spec_Decimal x12).bind fun y17 =>
    (app ([32] : List UInt8) y17).bind fun w21 =>
    (app text9 w21).bind fun w23 =>
    some (.inl (w23, IntKind.wrap .i64 (i10 + 1))))
  else
    ((spec_l02Row_J1 text9).map Sum.inr)
noncomputable def spec_l02Row (text1 : List UInt8) (list2 : List Int) : Option (List UInt8) :=
  loop (spec_l02Row_S1 list2) (text1, 0)

noncomputable def spec_DeedText (d1 : Deed) : Option (List UInt8) :=
  (spec_l08Deed d1).bind fun y2 =>
  if (!y2) = true then
    some ([] : List UInt8)
  else
    ((spec_l08Words ).bind fun y7 =>
    (ix y7.1 d1.Kind).bind fun x24 =>
    (ix y7.2 d1.Kind).bind fun x29 =>
    (cut ([d1.A, d1.B] : List Int) 0 x29).bind fun l34 =>
    (spec_l02Row x24 l34).bind fun y40 =>
    some y40)

noncomputable def impl_deedWord (kind1 : Int) : Option ((List UInt8) × Int) :=
  if (kind1 == 1) = true then
    some (([115, 101, 110, 100] : List UInt8), 2)
  else
    (if (kind1 == 2) = true then
      some (([100, 101, 108, 105, 118, 101, 114] : List UInt8), 1)
    else
      (if (kind1 == 3) = true then
        some (([99, 111, 112, 121] : List UInt8), 1)
      else
        (if (kind1 == 4) = true then
          some (([100, 114, 111, 112] : List UInt8), 1)
        else
          (if (kind1 == 5) = true then
            some (([115, 97, 118, 101] : List UInt8), 0)
          else
            (if (kind1 == 6) = true then
              some (([99, 114, 97, 115, 104] : List UInt8), 0)
            else
              some (([] : List UInt8), 0))))))

noncomputable def impl_within (n1 : Int) (low2 : Int) (high3 : Int) : Option Bool :=
  some ((decide ((n1 : Int) ≥ low2)) && (decide ((n1 : Int) ≤ high3)))

noncomputable def impl_ValidDeed (d1 : Deed) : Option Bool :=
  (impl_deedWord d1.Kind).bind fun y2 =>
  (if (!(y2.1 == ([] : List UInt8))) = true then
      ((impl_within d1.A 0 999).bind fun y13 =>
      some y13)
    else
      some false).bind fun b12 =>
  (if b12 = true then
      ((impl_within d1.B 0 999).bind fun y19 =>
      some y19)
    else
      some false).bind fun b18 =>
  some ((b18 && ((decide ((y2.2 : Int) > 0)) || (d1.A == 0))) && ((decide ((y2.2 : Int) > 1)) || (d1.B == 0)))

noncomputable def impl_decimal (n1 : Int) : Option (List UInt8) :=
  (fmtM n1 10).bind fun y2 =>
  some y2

noncomputable def impl_DeedText_J1 (out22 : List UInt8) : Option (List UInt8) :=
  some out22
noncomputable def impl_DeedText_S1 (l16 : List Int) : ((List UInt8) × Int) → Option (((List UInt8) × Int) ⊕ (List UInt8)) := fun (out24, t25) =>
  if (decide ((t25 : Int) < (l16.length : Int))) = true then
    ((ix l16 t25).bind fun x27 =>
    (impl_decimal x27).bind fun y32 =>
    (app ([32] : List UInt8) y32).bind fun w36 =>
    (app out24 w36).bind fun w38 =>
    some (.inl (w38, IntKind.wrap .i64 (t25 + 1))))
  else
    ((impl_DeedText_J1 out24).map Sum.inr)
noncomputable def impl_DeedText (d1 : Deed) : Option (List UInt8) :=
  (impl_ValidDeed d1).bind fun y2 =>
  if (!y2) = true then
    some ([] : List UInt8)
  else
    ((impl_deedWord d1.Kind).bind fun y7 =>
    (cut ([d1.A, d1.B] : List Int) 0 y7.2).bind fun l16 =>
    loop (impl_DeedText_S1 l16) (y7.1, 0))

noncomputable def laws_FnExactDeedText (aD1 : Deed) : Option Bool :=
  (laws_toDeed aD1).bind fun y2 =>
  (spec_DeedText y2).bind fun y13 =>
  (laws_toDeed aD1).bind fun y17 =>
  (impl_DeedText y17).bind fun y28 =>
  if (!(y28 == y13)) = true then
    some false
  else
    some true
end Go.Proofs.YtolbkojnnofnaaaDoor.law
