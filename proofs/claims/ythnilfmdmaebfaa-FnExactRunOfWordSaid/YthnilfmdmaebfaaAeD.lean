import Derived.Test.YthnilfmdmaebfaaAe4
import Derived.Test.YthnilfmdmaebfaaAeT
set_option linter.unusedVariables false
set_option linter.unusedSimpArgs false
namespace Go.Proofs.Ythnilfmdmaebfaa.law
open Go Go.Proofs Ae
set_option maxRecDepth 100000
set_option linter.unusedVariables false
noncomputable def Cf : Cfg := { fn := fnT.get, fnK := fnKT.get, ty := tyT.get, ext := fun g => bif Nat.beq g 74 then some φByte else none }
structure Link where
  From : Int
  To : Int
  Act : List UInt8
  Module : Int
def csLink (x : Link) : List (AV → Prop) := [(rI .i64) x.From, (rI .i64) x.To, rS x.Act, (rI .i64) x.Module]
def rLink (x : Link) : AV → Prop := rA (csLink x)
structure Module where
  Nodes : Int
  Links : List Link
def csModule (x : Module) : List (AV → Prop) := [(rI .i64) x.Nodes, (rL rLink 4) x.Links]
def rModule (x : Module) : AV → Prop := rA (csModule x)
structure ProgramT where
  Modules : List Module
def csProgramT (x : ProgramT) : List (AV → Prop) := [(rL rModule 2) x.Modules]
def rProgramT (x : ProgramT) : AV → Prop := rA (csProgramT x)
structure L07Table where
  rows : List (List Int)
def csL07Table (x : L07Table) : List (AV → Prop) := [(rL (rL (rI .i64) 1) 1) x.rows]
def rL07Table (x : L07Table) : AV → Prop := rA (csL07Table x)
structure Matching where
  partners : List Int
  returns : List Int
  calls : List Int
  depths : List Int
  parents : List Int
def csMatching (x : Matching) : List (AV → Prop) := [(rL (rI .i64) 1) x.partners, (rL (rI .i64) 1) x.returns, (rL (rI .i64) 1) x.calls, (rL (rI .i64) 1) x.depths, (rL (rI .i64) 1) x.parents]
def rMatching (x : Matching) : AV → Prop := rA (csMatching x)
def bLink (x : Link) : Prop := (bI .i64) x.From ∧ (bI .i64) x.To ∧ bS x.Act ∧ (bI .i64) x.Module
def smLink (x : Link) : Prop := smT x.From ∧ smT x.To ∧ smS x.Act ∧ smT x.Module
def bModule (x : Module) : Prop := (bI .i64) x.Nodes ∧ (bL bLink) x.Links
def smModule (x : Module) : Prop := smT x.Nodes ∧ (smL smLink) x.Links
def bProgramT (x : ProgramT) : Prop := (bL bModule) x.Modules
def smProgramT (x : ProgramT) : Prop := (smL smModule) x.Modules
def bL07Table (x : L07Table) : Prop := (bL (bL (bI .i64))) x.rows
def smL07Table (x : L07Table) : Prop := (smL (smL smT)) x.rows
def bMatching (x : Matching) : Prop := (bL (bI .i64)) x.partners ∧ (bL (bI .i64)) x.returns ∧ (bL (bI .i64)) x.calls ∧ (bL (bI .i64)) x.depths ∧ (bL (bI .i64)) x.parents
def smMatching (x : Matching) : Prop := (smL smT) x.partners ∧ (smL smT) x.returns ∧ (smL smT) x.calls ∧ (smL smT) x.depths ∧ (smL smT) x.parents

noncomputable def laws_szLink (a1 : Link) (left2 : Int) : Option Int :=
  if (decide ((IntKind.wrap .i64 (left2 - (a1.Act.length : Int)) : Int) < 0)) = true then
    some (-1)
  else
    some (IntKind.wrap .i64 (left2 - (a1.Act.length : Int)))

noncomputable def laws_szLinkS_J1 (left8 : Int) : Option Int :=
  some left8
noncomputable def laws_szLinkS_S1 (a1 : List Link) : (Int × Int) → Option ((Int × Int) ⊕ Int) := fun (left10, i11) =>
  if (decide ((i11 : Int) < (a1.length : Int))) = true then
    ((ix a1 i11).bind fun x13 =>
    (laws_szLink x13 left10).bind fun y27 =>
    if (decide ((y27 : Int) < 0)) = true then
      some (.inr ((-1)))
    else
      some (.inl (y27, IntKind.wrap .i64 (i11 + 1))))
  else
    ((laws_szLinkS_J1 left10).map Sum.inr)
noncomputable def laws_szLinkS (a1 : List Link) (left6 : Int) : Option Int :=
  if (decide ((IntKind.wrap .i64 (left6 - (a1.length : Int)) : Int) < 0)) = true then
    some (-1)
  else
    loop (laws_szLinkS_S1 a1) (IntKind.wrap .i64 (left6 - (a1.length : Int)), 0)

noncomputable def laws_szModule (a1 : Module) (left6 : Int) : Option Int :=
  (laws_szLinkS a1.Links left6).bind fun y7 =>
  if (decide ((y7 : Int) < 0)) = true then
    some (-1)
  else
    some y7

noncomputable def laws_szModuleS_J1 (left8 : Int) : Option Int :=
  some left8
noncomputable def laws_szModuleS_S1 (a1 : List Module) : (Int × Int) → Option ((Int × Int) ⊕ Int) := fun (left10, i11) =>
  if (decide ((i11 : Int) < (a1.length : Int))) = true then
    ((ix a1 i11).bind fun x13 =>
    (laws_szModule x13 left10).bind fun y27 =>
    if (decide ((y27 : Int) < 0)) = true then
      some (.inr ((-1)))
    else
      some (.inl (y27, IntKind.wrap .i64 (i11 + 1))))
  else
    ((laws_szModuleS_J1 left10).map Sum.inr)
noncomputable def laws_szModuleS (a1 : List Module) (left6 : Int) : Option Int :=
  if (decide ((IntKind.wrap .i64 (left6 - (a1.length : Int)) : Int) < 0)) = true then
    some (-1)
  else
    loop (laws_szModuleS_S1 a1) (IntKind.wrap .i64 (left6 - (a1.length : Int)), 0)

noncomputable def laws_szProgram (a1 : ProgramT) (left6 : Int) : Option Int :=
  (laws_szModuleS a1.Modules left6).bind fun y7 =>
  if (decide ((y7 : Int) < 0)) = true then
    some (-1)
  else
    some y7

noncomputable def laws_toLink (a1 : Link) : Option Link :=
  some a1

noncomputable def laws_toLinkS_J1 (out13 : List Link) : Option (List Link) :=
  some out13
noncomputable def laws_toLinkS_S1 (a1 : List Link) : ((List Link) × Int) → Option (((List Link) × Int) ⊕ (List Link)) := fun (out22, i28) =>
  if (decide ((i28 : Int) < (a1.length : Int))) = true then
    ((ix a1 i28).bind fun x32 =>
    (laws_toLink x32).bind fun y46 =>
    (ix out22 i28).bind fun x59 =>
    some (.inl ((out22.set (Int.toNat i28) y46), IntKind.wrap .i64 (i28 + 1))))
  else
    ((laws_toLinkS_J1 out22).map Sum.inr)
noncomputable def laws_toLinkS (a1 : List Link) : Option (List Link) :=
  (mk ((⟨0, 0, ([] : List UInt8), 0⟩ : Link) : Link) (a1.length : Int)).bind fun l6 =>
  loop (laws_toLinkS_S1 a1) (l6, 0)

noncomputable def laws_toModule (a1 : Module) : Option Module :=
  (laws_toLinkS a1.Links).bind fun y14 =>
  some (⟨a1.Nodes, y14⟩ : Module)

noncomputable def laws_toModuleS_J1 (out13 : List Module) : Option (List Module) :=
  some out13
noncomputable def laws_toModuleS_S1 (a1 : List Module) : ((List Module) × Int) → Option (((List Module) × Int) ⊕ (List Module)) := fun (out22, i28) =>
  if (decide ((i28 : Int) < (a1.length : Int))) = true then
    ((ix a1 i28).bind fun x32 =>
    (laws_toModule x32).bind fun y46 =>
    (ix out22 i28).bind fun x59 =>
    some (.inl ((out22.set (Int.toNat i28) y46), IntKind.wrap .i64 (i28 + 1))))
  else
    ((laws_toModuleS_J1 out22).map Sum.inr)
noncomputable def laws_toModuleS (a1 : List Module) : Option (List Module) :=
  (mk ((⟨0, ([] : List Link)⟩ : Module) : Module) (a1.length : Int)).bind fun l6 =>
  loop (laws_toModuleS_S1 a1) (l6, 0)

noncomputable def laws_toProgram (a1 : ProgramT) : Option ProgramT :=
  (laws_toModuleS a1.Modules).bind fun y9 =>
  some (⟨y9⟩ : ProgramT)

noncomputable def spec_l00In (n1 : Int) (low2 : Int) (high3 : Int) : Option Bool :=
  some ((decide ((n1 : Int) ≥ low2)) && (decide ((n1 : Int) ≤ high3)))

noncomputable def spec_l01Call (b1 : Int) : Option Bool :=
  some ((b1 == 40) || (b1 == 91))

noncomputable def spec_l01Return (b1 : Int) : Option Bool :=
  some ((b1 == 41) || (b1 == 93))

noncomputable def spec_l06Brackets (p0_1 : List UInt8) : Option Bool :=
  (if ((p0_1.length : Int) == 2) = true then
      ((chr p0_1 0).bind fun c4 =>
      (spec_l01Call c4).bind fun y6 =>
      some y6)
    else
      some false).bind fun b3 =>
  (if b3 = true then
      ((chr p0_1 1).bind fun c12 =>
      (spec_l01Return c12).bind fun y14 =>
      some y14)
    else
      some false).bind fun b11 =>
  some b11

noncomputable def spec_l07Inner (l1 : Link) : Option Bool :=
  some ((l1.Act.length : Int) == 1)

noncomputable def spec_l07Ok_J1 : Option Bool :=
  some true
noncomputable def spec_l07Ok_J2 (t12 : Int) : Option (Int ⊕ Bool) :=
  some (.inl (IntKind.wrap .i64 (t12 + 1)))
noncomputable def spec_l07Ok_S2 (p1 : ProgramT) (t12 : Int) (x14 : Module) : Int → Option (Int ⊕ (Int ⊕ Bool)) := fun t35 =>
  if (decide ((t35 : Int) < (x14.Links.length : Int))) = true then
    ((ix x14.Links t35).bind fun x37 =>
    (spec_l00In x37.From 0 (IntKind.wrap .i64 (x14.Nodes - 1))).bind fun y51 =>
    (if (!y51) = true then
        some true
      else
        ((spec_l00In x37.To 0 (IntKind.wrap .i64 (x14.Nodes - 1))).bind fun y57 =>
        some (!y57))).bind fun b56 =>
    if b56 = true then
      some (.inr (.inr (false)))
    else
      ((if ((!(x37.Act == ([97] : List UInt8))) && (!(x37.Act == ([98] : List UInt8)))) = true then
          ((spec_l06Brackets x37.Act).bind fun y65 =>
          some (!y65))
        else
          some false).bind fun b64 =>
      (if b64 = true then
          some true
        else
          ((spec_l00In x37.Module 0 (IntKind.wrap .i64 ((p1.Modules.length : Int) - 1))).bind fun y71 =>
          some (!y71))).bind fun b70 =>
      (if b70 = true then
          some true
        else
          ((spec_l07Inner x37).bind fun y77 =>
          some (y77 && (x37.Module != 0)))).bind fun b76 =>
      if b76 = true then
        some (.inr (.inr (false)))
      else
        some (.inl (IntKind.wrap .i64 (t35 + 1)))))
  else
    ((spec_l07Ok_J2 t12).map Sum.inr)
noncomputable def spec_l07Ok_S1 (p1 : ProgramT) : Int → Option (Int ⊕ Bool) := fun t12 =>
  if (decide ((t12 : Int) < (p1.Modules.length : Int))) = true then
    ((ix p1.Modules t12).bind fun x14 =>
    (spec_l00In x14.Nodes 1 8).bind fun y28 =>
    if ((!y28) || (decide (((x14.Links.length : Int) : Int) > 12))) = true then
      some (.inr (false))
    else
      loop (spec_l07Ok_S2 p1 t12 x14) (0))
  else
    ((spec_l07Ok_J1).map Sum.inr)
noncomputable def spec_l07Ok (p1 : ProgramT) : Option Bool :=
  (spec_l00In (p1.Modules.length : Int) 1 4).bind fun y6 =>
  if (!y6) = true then
    some false
  else
    loop (spec_l07Ok_S1 p1) (0)

noncomputable def spec_l01Symbol_J1 : Option Int :=
  some (-1)
noncomputable def spec_l01Symbol_S1 (b1 : Int) : Int → Option (Int ⊕ Int) := fun k3 =>
  if (decide ((k3 : Int) < 6)) = true then
    ((chr ([40, 91, 41, 93, 97, 98] : List UInt8) k3).bind fun c5 =>
    if (c5 == b1) = true then
      some (.inr (k3))
    else
      some (.inl (IntKind.wrap .i64 (k3 + 1))))
  else
    ((spec_l01Symbol_J1).map Sum.inr)
noncomputable def spec_l01Symbol (b1 : Int) : Option Int :=
  loop (spec_l01Symbol_S1 b1) (0)

noncomputable def spec_l01Ok_J1 (w1 : List UInt8) : Option Bool :=
  some (decide (((w1.length : Int) : Int) ≤ 60))
noncomputable def spec_l01Ok_S1 (w1 : List UInt8) : Int → Option (Int ⊕ Bool) := fun i3 =>
  if (decide ((i3 : Int) < (w1.length : Int))) = true then
    ((chr w1 i3).bind fun c5 =>
    (spec_l01Symbol c5).bind fun y7 =>
    if (decide ((y7 : Int) < 0)) = true then
      some (.inr (false))
    else
      some (.inl (IntKind.wrap .i64 (i3 + 1))))
  else
    ((spec_l01Ok_J1 w1).map Sum.inr)
noncomputable def spec_l01Ok (w1 : List UInt8) : Option Bool :=
  loop (spec_l01Ok_S1 w1) (0)

noncomputable def spec_l01Partners_J1 (t2 : List Int) : Option (List Int) :=
  some t2
noncomputable def spec_l01Partners_J2 (t17 : Int) (t27 : List Int) (t33 : List Int) : Option (((List Int) × (List Int) × Int) ⊕ (List Int)) :=
  some (.inl (t27, t33, IntKind.wrap .i64 (t17 + 1)))
noncomputable def spec_l01Partners_S1 (p1 : List UInt8) : ((List Int) × (List Int) × Int) → Option (((List Int) × (List Int) × Int) ⊕ (List Int)) := fun (t9, t13, t17) =>
  if (decide ((t17 : Int) < (p1.length : Int))) = true then
    ((chr p1 t17).bind fun c21 =>
    (spec_l01Call c21).bind fun y23 =>
    if y23 = true then
      ((app t9 ([(-2)] : List Int)).bind fun l41 =>
      (app t13 ([t17] : List Int)).bind fun l49 =>
      spec_l01Partners_J2 t17 l41 l49)
    else
      ((chr p1 t17).bind fun c57 =>
      (spec_l01Return c57).bind fun y59 =>
      if (y59 && (decide (((t13.length : Int) : Int) > 0))) = true then
        ((ix t13 (IntKind.wrap .i64 ((t13.length : Int) - 1))).bind fun x65 =>
        (cut t13 0 (IntKind.wrap .i64 ((t13.length : Int) - 1))).bind fun l77 =>
        (ix t9 x65).bind fun x81 =>
        (app (t9.set (Int.toNat x65) t17) ([x65] : List Int)).bind fun l93 =>
        spec_l01Partners_J2 t17 l93 l77)
      else
        ((chr p1 t17).bind fun c101 =>
        (spec_l01Return c101).bind fun y103 =>
        if y103 = true then
          ((app t9 ([(-2)] : List Int)).bind fun l108 =>
          spec_l01Partners_J2 t17 l108 t13)
        else
          ((app t9 ([(-1)] : List Int)).bind fun l116 =>
          spec_l01Partners_J2 t17 l116 t13))))
  else
    ((spec_l01Partners_J1 t9).map Sum.inr)
noncomputable def spec_l01Partners (p1 : List UInt8) : Option (List Int) :=
  loop (spec_l01Partners_S1 p1) (([] : List Int), ([] : List Int), 0)

noncomputable def spec_l01Pending_J1 (returns10 : Int) (calls11 : Int) : Option (Int × Int) :=
  some (returns10, calls11)
noncomputable def spec_l01Pending_J3 (i15 : Int) (returns30 : Int) (calls45 : Int) : Option ((Int × Int × Int) ⊕ (Int × Int)) :=
  some (.inl (returns30, calls45, IntKind.wrap .i64 (i15 + 1)))
noncomputable def spec_l01Pending_J2 (w1 : List UInt8) (y2 : (List Int)) (calls14 : Int) (i15 : Int) (returns30 : Int) : Option ((Int × Int × Int) ⊕ (Int × Int)) :=
  (ix y2 i15).bind fun x32 =>
  (if (x32 == (-2)) = true then
      ((chr w1 i15).bind fun c39 =>
      (spec_l01Call c39).bind fun y41 =>
      some y41)
    else
      some false).bind fun b38 =>
  if b38 = true then
    spec_l01Pending_J3 i15 returns30 (IntKind.wrap .i64 (calls14 + 1))
  else
    spec_l01Pending_J3 i15 returns30 calls14
noncomputable def spec_l01Pending_S1 (w1 : List UInt8) (y2 : (List Int)) : (Int × Int × Int) → Option ((Int × Int × Int) ⊕ (Int × Int)) := fun (returns13, calls14, i15) =>
  if (decide ((i15 : Int) < (w1.length : Int))) = true then
    ((ix y2 i15).bind fun x17 =>
    (if (x17 == (-2)) = true then
        ((chr w1 i15).bind fun c24 =>
        (spec_l01Return c24).bind fun y26 =>
        some y26)
      else
        some false).bind fun b23 =>
    if b23 = true then
      spec_l01Pending_J2 w1 y2 calls14 i15 (IntKind.wrap .i64 (returns13 + 1))
    else
      spec_l01Pending_J2 w1 y2 calls14 i15 returns13)
  else
    ((spec_l01Pending_J1 returns13 calls14).map Sum.inr)
noncomputable def spec_l01Pending (w1 : List UInt8) : Option (Int × Int) :=
  (spec_l01Partners w1).bind fun y2 =>
  loop (spec_l01Pending_S1 w1 y2) (0, 0, 0)

noncomputable def spec_l01Matched (w1 : List UInt8) : Option Bool :=
  (spec_l01Pending w1).bind fun y2 =>
  some ((IntKind.wrap .i64 (y2.1 + y2.2)) == 0)

noncomputable def spec_l07None_J1 (m10 : List (List Int)) : Option L07Table :=
  some (⟨m10⟩ : L07Table)
noncomputable def spec_l07None_J2 (m20 : List (List Int)) (k26 : Int) (row30 : List Int) : Option (((List (List Int)) × Int) ⊕ L07Table) :=
  (app m20 ([row30] : List (List Int))).bind fun l46 =>
  some (.inl (l46, IntKind.wrap .i64 (k26 + 1)))
noncomputable def spec_l07None_S2 (p1 : ProgramT) (m20 : List (List Int)) (k26 : Int) : ((List Int) × Int) → Option (((List Int) × Int) ⊕ (((List (List Int)) × Int) ⊕ L07Table)) := fun (row55, s62) =>
  (ix p1.Modules k26).bind fun x65 =>
  if (decide ((s62 : Int) < x65.Nodes)) = true then
    ((shlI .i64 1 (IntKind.wrap .u64 s62)).bind fun q80 =>
    (app row55 ([q80] : List Int)).bind fun l82 =>
    some (.inl (l82, IntKind.wrap .i64 (s62 + 1))))
  else
    ((spec_l07None_J2 m20 k26 row55).map Sum.inr)
noncomputable def spec_l07None_S1 (p1 : ProgramT) : ((List (List Int)) × Int) → Option (((List (List Int)) × Int) ⊕ L07Table) := fun (m20, k26) =>
  if (decide ((k26 : Int) < (p1.Modules.length : Int))) = true then
    loop (spec_l07None_S2 p1 m20 k26) (([] : List Int), 0)
  else
    ((spec_l07None_J1 m20).map Sum.inr)
noncomputable def spec_l07None (p1 : ProgramT) : Option L07Table :=
  loop (spec_l07None_S1 p1) (([] : List (List Int)), 0)

noncomputable def spec_l01Factors_J1 (out10 : List (List UInt8)) : Option (List (List UInt8)) :=
  some out10
noncomputable def spec_l01Factors_J2 (w1 : List UInt8) (out18 : List (List UInt8)) (i25 : Int) (end35 : Int) : Option (((List (List UInt8)) × Int) ⊕ (List (List UInt8))) :=
  (cut w1 i25 end35).bind fun w37 =>
  (app out18 ([w37] : List (List UInt8))).bind fun l39 =>
  some (.inl (l39, end35))
noncomputable def spec_l01Factors_S1 (w1 : List UInt8) (y2 : (List Int)) : ((List (List UInt8)) × Int) → Option (((List (List UInt8)) × Int) ⊕ (List (List UInt8))) := fun (out18, i25) =>
  if (decide ((i25 : Int) < (w1.length : Int))) = true then
    ((chr w1 i25).bind fun c27 =>
    (spec_l01Call c27).bind fun y29 =>
    if y29 = true then
      ((ix y2 i25).bind fun x44 =>
      spec_l01Factors_J2 w1 out18 i25 (IntKind.wrap .i64 (x44 + 1)))
    else
      spec_l01Factors_J2 w1 out18 i25 (IntKind.wrap .i64 (i25 + 1)))
  else
    ((spec_l01Factors_J1 out18).map Sum.inr)
noncomputable def spec_l01Factors (w1 : List UInt8) : Option (List (List UInt8)) :=
  (spec_l01Partners w1).bind fun y2 =>
  loop (spec_l01Factors_S1 w1 y2) (([] : List (List UInt8)), 0)

noncomputable def spec_l07Exit (p1 : ProgramT) (k6 : Int) : Option Int :=
  (ix p1.Modules k6).bind fun x7 =>
  some (IntKind.wrap .i64 (x7.Nodes - 1))

noncomputable def spec_l07Factor_J2 (m32 : List (List Int)) : Option L07Table :=
  some (⟨m32⟩ : L07Table)
noncomputable def spec_l07Factor_J3 (m42 : List (List Int)) (t46 : Int) (t75 : List Int) : Option (((List (List Int)) × Int) ⊕ L07Table) :=
  (app m42 [t75]).bind fun l81 =>
  some (.inl (l81, IntKind.wrap .i64 (t46 + 1)))
noncomputable def spec_l07Factor_J5 (t99 : Int) (t163 : List Int) : Option (((List Int) × Int) ⊕ (((List (List Int)) × Int) ⊕ L07Table)) :=
  some (.inl (t163, IntKind.wrap .i64 (t99 + 1)))
noncomputable def spec_l07Factor_J4 (t98 : List Int) (t99 : Int) (x133 : Link) (t157 : Bool) : Option (((List Int) × Int) ⊕ (((List (List Int)) × Int) ⊕ L07Table)) :=
  if t157 = true then
    ((ix t98 x133.From).bind fun x172 =>
    (shlI .i64 1 (IntKind.wrap .u64 x133.To)).bind fun q180 =>
    spec_l07Factor_J5 t99 (t98.set (Int.toNat x133.From) (orI .i64 x172 q180)))
  else
    spec_l07Factor_J5 t99 t98
noncomputable def spec_l07Factor_S2 (p1 : ProgramT) (p1_6 : List UInt8) (t21 : L07Table) (m42 : List (List Int)) (t46 : Int) : ((List Int) × Int) → Option (((List Int) × Int) ⊕ (((List (List Int)) × Int) ⊕ L07Table)) := fun (t98, t99) =>
  (ix p1.Modules t46).bind fun x104 =>
  if (decide ((t99 : Int) < (x104.Links.length : Int))) = true then
    ((ix p1.Modules t46).bind fun x119 =>
    (ix x119.Links t99).bind fun x133 =>
    (spec_l07Inner x133).bind fun y147 =>
    (spec_l07Inner x133).bind fun y152 =>
    if ((!y152) && (decide (((p1_6.length : Int) : Int) > 1))) = true then
      ((cut p1_6 0 1).bind fun w189 =>
      (cut p1_6 (IntKind.wrap .i64 ((p1_6.length : Int) - 1)) p1_6.length).bind fun w191 =>
      (app w189 w191).bind fun w193 =>
      (if (x133.Act == w193) = true then
          ((ix t21.rows x133.Module).bind fun x197 =>
          (ix x197 0).bind fun x206 =>
          (spec_l07Exit p1 x133.Module).bind fun y211 =>
          (shrI .i64 x206 (IntKind.wrap .u64 y211)).bind fun q215 =>
          some ((andI .i64 q215 1) == 1))
        else
          some false).bind fun b196 =>
      spec_l07Factor_J4 t98 t99 x133 b196)
    else
      spec_l07Factor_J4 t98 t99 x133 (y147 && (x133.Act == p1_6)))
  else
    ((spec_l07Factor_J3 m42 t46 t98).map Sum.inr)
noncomputable def spec_l07Factor_S1 (p1 : ProgramT) (p1_6 : List UInt8) (t21 : L07Table) : ((List (List Int)) × Int) → Option (((List (List Int)) × Int) ⊕ L07Table) := fun (m42, t46) =>
  if (decide ((t46 : Int) < (p1.Modules.length : Int))) = true then
    ((ix p1.Modules t46).bind fun x52 =>
    (mk (0 : Int) x52.Nodes).bind fun l66 =>
    loop (spec_l07Factor_S2 p1 p1_6 t21 m42 t46) (l66, 0))
  else
    ((spec_l07Factor_J2 m42).map Sum.inr)
noncomputable def spec_l07Factor_J1 (p1 : ProgramT) (p1_6 : List UInt8) (t21 : L07Table) : Option L07Table :=
  loop (spec_l07Factor_S1 p1 p1_6 t21) (([] : List (List Int)), 0)
noncomputable def spec_l07Factor (rec46 : ProgramT → (List UInt8) → Option L07Table) (p1 : ProgramT) (p1_6 : List UInt8) : Option L07Table :=
  (spec_l07None p1).bind fun y10 =>
  if (decide (((p1_6.length : Int) : Int) > 1)) = true then
    ((cut p1_6 1 (IntKind.wrap .i64 ((p1_6.length : Int) - 1))).bind fun w227 =>
    (rec46 p1 w227).bind fun y229 =>
    spec_l07Factor_J1 p1 p1_6 y229)
  else
    spec_l07Factor_J1 p1 p1_6 y10

noncomputable def spec_l07Of_J1 (t26 : L07Table) : Option L07Table :=
  some t26
noncomputable def spec_l07Of_J2 (t39 : Int) (m63 : List (List Int)) : Option ((L07Table × Int) ⊕ L07Table) :=
  some (.inl ((⟨m63⟩ : L07Table), IntKind.wrap .i64 (t39 + 1)))
noncomputable def spec_l07Of_J3 (m83 : List (List Int)) (t89 : Int) (t93 : List Int) : Option (((List (List Int)) × Int) ⊕ ((L07Table × Int) ⊕ L07Table)) :=
  (app m83 ([t93] : List (List Int))).bind fun l109 =>
  some (.inl (l109, IntKind.wrap .i64 (t89 + 1)))
noncomputable def spec_l07Of_J4 (t118 : List Int) (t125 : Int) (t140 : Int) : Option (((List Int) × Int) ⊕ (((List (List Int)) × Int) ⊕ ((L07Table × Int) ⊕ L07Table))) :=
  (app t118 ([t140] : List Int)).bind fun l144 =>
  some (.inl (l144, IntKind.wrap .i64 (t125 + 1)))
noncomputable def spec_l07Of_J5 (t151 : Int) (t182 : Int) : Option ((Int × Int) ⊕ (((List Int) × Int) ⊕ (((List (List Int)) × Int) ⊕ ((L07Table × Int) ⊕ L07Table)))) :=
  some (.inl (t182, IntKind.wrap .i64 (t151 + 1)))
noncomputable def spec_l07Of_S4 (t34 : L07Table) (y48 : L07Table) (t89 : Int) (t118 : List Int) (t125 : Int) : (Int × Int) → Option ((Int × Int) ⊕ (((List Int) × Int) ⊕ (((List (List Int)) × Int) ⊕ ((L07Table × Int) ⊕ L07Table)))) := fun (t150, t151) =>
  (ix y48.rows t89).bind fun x154 =>
  if (decide ((t151 : Int) < (x154.length : Int))) = true then
    ((ix t34.rows t89).bind fun x164 =>
    (ix x164 t125).bind fun x173 =>
    (shrI .i64 x173 (IntKind.wrap .u64 t151)).bind fun q178 =>
    if ((andI .i64 q178 1) == 1) = true then
      ((ix y48.rows t89).bind fun x187 =>
      (ix x187 t151).bind fun x196 =>
      spec_l07Of_J5 t151 (orI .i64 t150 x196))
    else
      spec_l07Of_J5 t151 t150)
  else
    ((spec_l07Of_J4 t118 t125 t150).map Sum.inr)
noncomputable def spec_l07Of_S3 (t34 : L07Table) (y48 : L07Table) (m83 : List (List Int)) (t89 : Int) : ((List Int) × Int) → Option (((List Int) × Int) ⊕ (((List (List Int)) × Int) ⊕ ((L07Table × Int) ⊕ L07Table))) := fun (t118, t125) =>
  (ix t34.rows t89).bind fun x128 =>
  if (decide ((t125 : Int) < (x128.length : Int))) = true then
    loop (spec_l07Of_S4 t34 y48 t89 t118 t125) (0, 0)
  else
    ((spec_l07Of_J3 m83 t89 t118).map Sum.inr)
noncomputable def spec_l07Of_S2 (t34 : L07Table) (t39 : Int) (y48 : L07Table) : ((List (List Int)) × Int) → Option (((List (List Int)) × Int) ⊕ ((L07Table × Int) ⊕ L07Table)) := fun (m83, t89) =>
  if (decide ((t89 : Int) < (t34.rows.length : Int))) = true then
    loop (spec_l07Of_S3 t34 y48 m83 t89) (([] : List Int), 0)
  else
    ((spec_l07Of_J2 t39 m83).map Sum.inr)
noncomputable def spec_l07Of_S1 (p1 : ProgramT) (rec46 : ProgramT → (List UInt8) → Option L07Table) (y18 : (List (List UInt8))) : (L07Table × Int) → Option ((L07Table × Int) ⊕ L07Table) := fun (t34, t39) =>
  if (decide ((t39 : Int) < (y18.length : Int))) = true then
    ((ix y18 t39).bind fun x43 =>
    (spec_l07Factor rec46 p1 x43).bind fun y48 =>
    loop (spec_l07Of_S2 t34 t39 y48) (([] : List (List Int)), 0))
  else
    ((spec_l07Of_J1 t34).map Sum.inr)
noncomputable def spec_l07Of_B (rec46 : ProgramT → (List UInt8) → Option L07Table) (p1 : ProgramT) (p1_6 : List UInt8) : Option L07Table :=
  (spec_l07None p1).bind fun y7 =>
  (spec_l01Factors p1_6).bind fun y18 =>
  loop (spec_l07Of_S1 p1 rec46 y18) (y7, 0)
noncomputable def spec_l07Of_N : Nat → ProgramT → (List UInt8) → Option L07Table
  | 0 => fun _ _ => none
  | n + 1 => spec_l07Of_B (spec_l07Of_N n)
noncomputable def spec_l07Of : ProgramT → (List UInt8) → Option L07Table := spec_l07Of_N 1000

noncomputable def spec_l07Ends (p1 : ProgramT) (k6 : Int) (s7 : Int) (u8 : List UInt8) : Option Bool :=
  (spec_l07Of p1 u8).bind fun y9 =>
  (ix y9.rows k6).bind fun x20 =>
  (ix x20 s7).bind fun x29 =>
  (spec_l07Exit p1 k6).bind fun y34 =>
  (shrI .i64 x29 (IntKind.wrap .u64 y34)).bind fun q38 =>
  some ((andI .i64 q38 1) == 1)

noncomputable def spec_l07Takes (p1 : ProgramT) (w6 : List UInt8) : Option Bool :=
  (spec_l01Matched w6).bind fun y7 =>
  (if y7 = true then
      ((spec_l07Ends p1 0 0 w6).bind fun y13 =>
      some y13)
    else
      some false).bind fun b12 =>
  some b12

noncomputable def spec_l07Trace_J1 (t17 : List Int) : Option (List Int) :=
  some t17
noncomputable def spec_l07Trace_J2 (t34 : Int) (w41 : List UInt8) (t43 : Int) (t44 : List Int) : Option ((Int × (List Int) × (List UInt8) × Int) ⊕ (List Int)) :=
  some (.inl (t43, t44, w41, IntKind.wrap .i64 (t34 + 1)))
noncomputable def spec_l07Trace_J3 (t54 : Int) : Option (Int ⊕ ((Int × (List Int) × (List UInt8) × Int) ⊕ (List Int))) :=
  some (.inl (IntKind.wrap .i64 (t54 + 1)))
noncomputable def spec_l07Trace_S2 (p1 : ProgramT) (p1_6 : Int) (rec17 : ProgramT → Int → Int → (List UInt8) → Option (List Int)) (t25 : Int) (t26 : List Int) (t34 : Int) (x36 : List UInt8) (w41 : List UInt8) : Int → Option (Int ⊕ ((Int × (List Int) × (List UInt8) × Int) ⊕ (List Int))) := fun t54 =>
  (ix p1.Modules p1_6).bind fun x55 =>
  if (decide ((t54 : Int) < (x55.Links.length : Int))) = true then
    ((ix p1.Modules p1_6).bind fun x73 =>
    (ix x73.Links t54).bind fun x87 =>
    (if (x87.From != t25) = true then
        some true
      else
        ((spec_l07Ends p1 p1_6 x87.To w41).bind fun y103 =>
        some (!y103))).bind fun b102 =>
    if b102 = true then
      spec_l07Trace_J3 t54
    else
      (if (((x36.length : Int) == 1) && (x87.Act == x36)) = true then
        ((app t26 ([t54] : List Int)).bind fun l110 =>
        (spec_l07Trace_J2 t34 w41 x87.To l110).map Sum.inr)
      else
        ((if (decide (((x36.length : Int) : Int) > 1)) = true then
            ((cut x36 0 1).bind fun w117 =>
            (cut x36 (IntKind.wrap .i64 ((x36.length : Int) - 1)) x36.length).bind fun w119 =>
            (app w117 w119).bind fun w121 =>
            some (x87.Act == w121))
          else
            some false).bind fun b116 =>
        (if b116 = true then
            ((cut x36 1 (IntKind.wrap .i64 ((x36.length : Int) - 1))).bind fun w125 =>
            (spec_l07Ends p1 x87.Module 0 w125).bind fun y127 =>
            some y127)
          else
            some false).bind fun b124 =>
        if b124 = true then
          ((app t26 ([t54] : List Int)).bind fun l132 =>
          (cut x36 1 (IntKind.wrap .i64 ((x36.length : Int) - 1))).bind fun w136 =>
          (rec17 p1 x87.Module 0 w136).bind fun y138 =>
          (app l132 y138).bind fun l146 =>
          (app l146 ([(-1)] : List Int)).bind fun l150 =>
          (spec_l07Trace_J2 t34 w41 x87.To l150).map Sum.inr)
        else
          spec_l07Trace_J3 t54)))
  else
    ((spec_l07Trace_J2 t34 w41 t25 t26).map Sum.inr)
noncomputable def spec_l07Trace_S1 (p1 : ProgramT) (p1_6 : Int) (rec17 : ProgramT → Int → Int → (List UInt8) → Option (List Int)) (y9 : (List (List UInt8))) : (Int × (List Int) × (List UInt8) × Int) → Option ((Int × (List Int) × (List UInt8) × Int) ⊕ (List Int)) := fun (t25, t26, t33, t34) =>
  if (decide ((t34 : Int) < (y9.length : Int))) = true then
    ((ix y9 t34).bind fun x36 =>
    (cut t33 (x36.length : Int) t33.length).bind fun w41 =>
    loop (spec_l07Trace_S2 p1 p1_6 rec17 t25 t26 t34 x36 w41) (0))
  else
    ((spec_l07Trace_J1 t26).map Sum.inr)
noncomputable def spec_l07Trace_B (rec17 : ProgramT → Int → Int → (List UInt8) → Option (List Int)) (p1 : ProgramT) (p1_6 : Int) (p2_7 : Int) (p3_8 : List UInt8) : Option (List Int) :=
  (spec_l01Factors p3_8).bind fun y9 =>
  loop (spec_l07Trace_S1 p1 p1_6 rec17 y9) (p2_7, ([] : List Int), p3_8, 0)
noncomputable def spec_l07Trace_N : Nat → ProgramT → Int → Int → (List UInt8) → Option (List Int)
  | 0 => fun _ _ _ _ => none
  | n + 1 => spec_l07Trace_B (spec_l07Trace_N n)
noncomputable def spec_l07Trace : ProgramT → Int → Int → (List UInt8) → Option (List Int) := spec_l07Trace_N 1000

noncomputable def spec_RunOfWord (p1 : ProgramT) (w6 : List UInt8) : Option ((List Int) × Int) :=
  (spec_l07Ok p1).bind fun y7 =>
  (if (!y7) = true then
      some true
    else
      ((spec_l01Ok w6).bind fun y13 =>
      some (!y13))).bind fun b12 =>
  if b12 = true then
    some (([] : List Int), 1)
  else
    ((spec_l07Takes p1 w6).bind fun y18 =>
    if (!y18) = true then
      some (([] : List Int), 6)
    else
      ((spec_l07Trace p1 0 0 w6).bind fun y23 =>
      some (y23, 0)))

noncomputable def laws_toLink_K0 (a1 : Link) : Option Link :=
  some a1

noncomputable def laws_toLinkS_K0_J1 (out15 : List Link) : Option (List Link) :=
  some out15
noncomputable def laws_toLinkS_K0_S1 (a1 : List Link) : ((List Link) × Int) → Option (((List Link) × Int) ⊕ (List Link)) := fun (out21, i22) =>
  if (decide ((i22 : Int) < (a1.length : Int))) = true then
    ((ix a1 i22).bind fun x28 =>
    (laws_toLink_K0 x28).bind fun y42 =>
    (ix out21 i22).bind fun x54 =>
    some (.inl ((out21.set (Int.toNat i22) y42), IntKind.wrap .i64 (i22 + 1))))
  else
    ((laws_toLinkS_K0_J1 out21).map Sum.inr)
noncomputable def laws_toLinkS_K0 (a1 : List Link) : Option (List Link) :=
  (mk ((⟨0, 0, ([] : List UInt8), 0⟩ : Link) : Link) (a1.length : Int)).bind fun l6 =>
  loop (laws_toLinkS_K0_S1 a1) (l6, 0)

noncomputable def laws_toModule_K0 (a1 : Module) : Option Module :=
  (laws_toLinkS_K0 a1.Links).bind fun y14 =>
  some (⟨a1.Nodes, y14⟩ : Module)

noncomputable def laws_toModuleS_K0_J1 (out15 : List Module) : Option (List Module) :=
  some out15
noncomputable def laws_toModuleS_K0_S1 (a1 : List Module) : ((List Module) × Int) → Option (((List Module) × Int) ⊕ (List Module)) := fun (out22, i24) =>
  if (decide ((i24 : Int) < (a1.length : Int))) = true then
    ((ix a1 i24).bind fun x30 =>
    (laws_toModule_K0 x30).bind fun y44 =>
    (ix out22 i24).bind fun x64 =>
    some (.inl ((out22.set (Int.toNat i24) y44), IntKind.wrap .i64 (i24 + 1))))
  else
    ((laws_toModuleS_K0_J1 out22).map Sum.inr)
noncomputable def laws_toModuleS_K0 (a1 : List Module) : Option (List Module) :=
  (mk ((⟨0, ([] : List Link)⟩ : Module) : Module) (a1.length : Int)).bind fun l6 =>
  loop (laws_toModuleS_K0_S1 a1) (l6, 0)

noncomputable def laws_toProgram_K0 (a1 : ProgramT) : Option ProgramT :=
  (laws_toModuleS_K0 a1.Modules).bind fun y9 =>
  some (⟨y9⟩ : ProgramT)

noncomputable def impl_size_impl_Module (list1 : List Module) : Option Int :=
  some (list1.length : Int)

noncomputable def impl_within (n1 : Int) (low2 : Int) (high3 : Int) : Option Bool :=
  some ((decide ((n1 : Int) ≥ low2)) && (decide ((n1 : Int) ≤ high3)))

noncomputable def slices_IndexFunc_simpl_Module_impl_Module_J1 : Option Int :=
  some (-1)
noncomputable def slices_IndexFunc_simpl_Module_impl_Module_S1 (s1 : List Module) (f6 : Module → Option Bool) : Int → Option (Int ⊕ Int) := fun t11 =>
  if (decide ((t11 : Int) < (s1.length : Int))) = true then
    ((ix s1 t11).bind fun x13 =>
    (f6 x13).bind fun y27 =>
    if y27 = true then
      some (.inr (t11))
    else
      some (.inl (IntKind.wrap .i64 (t11 + 1))))
  else
    ((slices_IndexFunc_simpl_Module_impl_Module_J1).map Sum.inr)
noncomputable def slices_IndexFunc_simpl_Module_impl_Module (s1 : List Module) (f6 : Module → Option Bool) : Option Int :=
  loop (slices_IndexFunc_simpl_Module_impl_Module_S1 s1 f6) (0)

noncomputable def slices_ContainsFunc_simpl_Module_impl_Module (s1 : List Module) (f6 : Module → Option Bool) : Option Bool :=
  (slices_IndexFunc_simpl_Module_impl_Module s1 f6).bind fun y10 =>
  some (decide ((y10 : Int) ≥ 0))

noncomputable def slices_IndexFunc_simpl_Link_impl_Link_J1 : Option Int :=
  some (-1)
noncomputable def slices_IndexFunc_simpl_Link_impl_Link_S1 (s1 : List Link) (f6 : Link → Option Bool) : Int → Option (Int ⊕ Int) := fun t11 =>
  if (decide ((t11 : Int) < (s1.length : Int))) = true then
    ((ix s1 t11).bind fun x13 =>
    (f6 x13).bind fun y27 =>
    if y27 = true then
      some (.inr (t11))
    else
      some (.inl (IntKind.wrap .i64 (t11 + 1))))
  else
    ((slices_IndexFunc_simpl_Link_impl_Link_J1).map Sum.inr)
noncomputable def slices_IndexFunc_simpl_Link_impl_Link (s1 : List Link) (f6 : Link → Option Bool) : Option Int :=
  loop (slices_IndexFunc_simpl_Link_impl_Link_S1 s1 f6) (0)

noncomputable def slices_ContainsFunc_simpl_Link_impl_Link (s1 : List Link) (f6 : Link → Option Bool) : Option Bool :=
  (slices_IndexFunc_simpl_Link_impl_Link s1 f6).bind fun y10 =>
  some (decide ((y10 : Int) ≥ 0))

noncomputable def impl_isCall (c1 : Int) : Option Bool :=
  some ((c1 == 40) || (c1 == 91))

noncomputable def impl_isReturn (c1 : Int) : Option Bool :=
  some ((c1 == 41) || (c1 == 93))

noncomputable def impl_isBrackets (p0_1 : List UInt8) : Option Bool :=
  (if ((p0_1.length : Int) == 2) = true then
      ((chr p0_1 0).bind fun c4 =>
      (impl_isCall c4).bind fun y6 =>
      some y6)
    else
      some false).bind fun b3 =>
  (if b3 = true then
      ((chr p0_1 1).bind fun c12 =>
      (impl_isReturn c12).bind fun y14 =>
      some y14)
    else
      some false).bind fun b11 =>
  some b11

noncomputable def impl_isLetter (p0_1 : List UInt8) : Option Bool :=
  some ((p0_1 == ([97] : List UInt8)) || (p0_1 == ([98] : List UInt8)))

noncomputable def impl_ValidProgram_1_1 (l1 : Link) (c2 : Module) (c7 : Int) : Option Bool :=
  (impl_within l1.From 0 (IntKind.wrap .i64 (c2.Nodes - 1))).bind fun y8 =>
  (if (!y8) = true then
      some true
    else
      ((impl_within l1.To 0 (IntKind.wrap .i64 (c2.Nodes - 1))).bind fun y14 =>
      some (!y14))).bind fun b13 =>
  (if b13 = true then
      some true
    else
      ((impl_within l1.Module 0 (IntKind.wrap .i64 (c7 - 1))).bind fun y20 =>
      some (!y20))).bind fun b19 =>
  if b19 = true then
    some true
  else
    ((impl_isBrackets l1.Act).bind fun y25 =>
    (if (!y25) = true then
        ((impl_isLetter l1.Act).bind fun y31 =>
        some ((!y31) || (l1.Module != 0)))
      else
        some false).bind fun b30 =>
    some b30)

noncomputable def impl_ValidProgram_1 (m1 : Module) (c6 : Int) : Option Bool :=
  (impl_within m1.Nodes 1 8).bind fun y7 =>
  (if ((!y7) || (decide (((m1.Links.length : Int) : Int) > 12))) = true then
      some true
    else
      ((slices_ContainsFunc_simpl_Link_impl_Link m1.Links (fun x => impl_ValidProgram_1_1 x m1 c6)).bind fun y23 =>
      some y23)).bind fun b13 =>
  some b13

noncomputable def impl_ValidProgram (p1 : ProgramT) : Option Bool :=
  (impl_size_impl_Module p1.Modules).bind fun y6 =>
  (impl_within y6 1 4).bind fun y10 =>
  (if y10 = true then
      ((slices_ContainsFunc_simpl_Module_impl_Module p1.Modules (fun x => impl_ValidProgram_1 x y6)).bind fun y25 =>
      some (!y25))
    else
      some false).bind fun b15 =>
  some b15

noncomputable def internal_stringslite_IndexByte (s1 : List UInt8) (c2 : Int) : Option Int :=
  (ixByteM s1 c2).bind fun y3 =>
  some y3

noncomputable def strings_IndexByte (s1 : List UInt8) (c2 : Int) : Option Int :=
  (internal_stringslite_IndexByte s1 c2).bind fun y3 =>
  some y3

noncomputable def impl_ValidWord_J1 (w1 : List UInt8) : Option Bool :=
  some (decide (((w1.length : Int) : Int) ≤ 60))
noncomputable def impl_ValidWord_S1 (w1 : List UInt8) : Int → Option (Int ⊕ Bool) := fun t3 =>
  if (decide ((t3 : Int) < (w1.length : Int))) = true then
    ((chr w1 t3).bind fun c5 =>
    (strings_IndexByte ([40, 91, 41, 93, 97, 98] : List UInt8) c5).bind fun y7 =>
    if (decide ((y7 : Int) < 0)) = true then
      some (.inr (false))
    else
      some (.inl (IntKind.wrap .i64 (t3 + 1))))
  else
    ((impl_ValidWord_J1 w1).map Sum.inr)
noncomputable def impl_ValidWord (w1 : List UInt8) : Option Bool :=
  loop (impl_ValidWord_S1 w1) (0)

noncomputable def impl_size_int64_d (list1 : List Int) : Option Int :=
  some (list1.length : Int)

noncomputable def impl_match_J1 (m11 : List Int) (m15 : List Int) (m21 : List Int) (m25 : List Int) (m31 : List Int) : Option Matching :=
  some (⟨m11, m15, m21, m25, m31⟩ : Matching)
noncomputable def impl_match_J4 (m55 : List Int) (m61 : List Int) (t67 : Int) (m79 : List Int) (m83 : List Int) (t102 : Int) (m114 : List Int) (t120 : Int) : Option (((List Int) × (List Int) × (List Int) × (List Int) × (List Int) × Int) ⊕ Matching) :=
  (app m79 ([t120] : List Int)).bind fun l124 =>
  (app m61 ([t102] : List Int)).bind fun l138 =>
  (impl_size_int64_d m114).bind fun y158 =>
  (app m55 ([y158] : List Int)).bind fun l162 =>
  some (.inl (l124, m83, m114, l162, l138, IntKind.wrap .i64 (t67 + 1)))
noncomputable def impl_match_J3 (p1 : List UInt8) (m55 : List Int) (m61 : List Int) (t67 : Int) (m79 : List Int) (m83 : List Int) (m89 : List Int) (t95 : Int) (t102 : Int) : Option (((List Int) × (List Int) × (List Int) × (List Int) × (List Int) × Int) ⊕ Matching) :=
  (chr p1 t67).bind fun c106 =>
  (impl_isCall c106).bind fun y108 =>
  if y108 = true then
    ((app m89 ([t67] : List Int)).bind fun l172 =>
    impl_match_J4 m55 m61 t67 m79 m83 t102 l172 (-2))
  else
    impl_match_J4 m55 m61 t67 m79 m83 t102 m89 t95
noncomputable def impl_match_J2 (p1 : List UInt8) (m55 : List Int) (m61 : List Int) (t67 : Int) (m79 : List Int) (m83 : List Int) (m89 : List Int) (t95 : Int) : Option (((List Int) × (List Int) × (List Int) × (List Int) × (List Int) × Int) ⊕ Matching) :=
  if (decide (((m89.length : Int) : Int) > 0)) = true then
    ((ix m89 (IntKind.wrap .i64 ((m89.length : Int) - 1))).bind fun x186 =>
    impl_match_J3 p1 m55 m61 t67 m79 m83 m89 t95 x186)
  else
    impl_match_J3 p1 m55 m61 t67 m79 m83 m89 t95 (-1)
noncomputable def impl_match_S1 (p1 : List UInt8) : ((List Int) × (List Int) × (List Int) × (List Int) × (List Int) × Int) → Option (((List Int) × (List Int) × (List Int) × (List Int) × (List Int) × Int) ⊕ Matching) := fun (m41, m45, m51, m55, m61, t67) =>
  if (decide ((t67 : Int) < (p1.length : Int))) = true then
    ((chr p1 t67).bind fun c71 =>
    (impl_isReturn c71).bind fun y73 =>
    if (y73 && ((m51.length : Int) == 0)) = true then
      ((app m45 ([t67] : List Int)).bind fun l205 =>
      impl_match_J2 p1 m55 m61 t67 m41 l205 m51 (-2))
    else
      ((chr p1 t67).bind fun c214 =>
      (impl_isReturn c214).bind fun y216 =>
      if y216 = true then
        ((ix m51 (IntKind.wrap .i64 ((m51.length : Int) - 1))).bind fun x221 =>
        (ix m41 x221).bind fun x233 =>
        (cut m51 0 (IntKind.wrap .i64 ((m51.length : Int) - 1))).bind fun l245 =>
        impl_match_J2 p1 m55 m61 t67 (m41.set (Int.toNat x221) t67) m45 l245 x221)
      else
        impl_match_J2 p1 m55 m61 t67 m41 m45 m51 (-1)))
  else
    ((impl_match_J1 m41 m45 m51 m55 m61).map Sum.inr)
noncomputable def impl_match (p1 : List UInt8) : Option Matching :=
  loop (impl_match_S1 p1) (([] : List Int), ([] : List Int), ([] : List Int), ([0] : List Int), ([] : List Int), 0)

noncomputable def impl_isMatched (w1 : List UInt8) : Option Bool :=
  (impl_match w1).bind fun y2 =>
  some ((IntKind.wrap .i64 ((y2.returns.length : Int) + (y2.calls.length : Int))) == 0)

noncomputable def impl_factors_J1 (out37 : List (List UInt8)) : Option (List (List UInt8)) :=
  some out37
noncomputable def impl_factors_S1 (w1 : List UInt8) (y2 : Matching) : ((List (List UInt8)) × Int) → Option (((List (List UInt8)) × Int) ⊕ (List (List UInt8))) := fun (out45, i52) =>
  if (decide ((i52 : Int) < (w1.length : Int))) = true then
    ((ix y2.partners i52).bind fun x54 =>
    (cut w1 i52 (IntKind.wrap .i64 ((if (i52 : Int) < x54 then x54 else i52) + 1))).bind fun w59 =>
    (app out45 ([w59] : List (List UInt8))).bind fun l61 =>
    some (.inl (l61, IntKind.wrap .i64 ((if (i52 : Int) < x54 then x54 else i52) + 1))))
  else
    ((impl_factors_J1 out45).map Sum.inr)
noncomputable def impl_factors (w1 : List UInt8) : Option (List (List UInt8)) :=
  (impl_match w1).bind fun y2 =>
  loop (impl_factors_S1 w1 y2) (([] : List (List UInt8)), 0)

noncomputable def impl_Link_isCallLink (l1 : Link) : Option Bool :=
  some ((l1.Act.length : Int) == 2)

noncomputable def impl_Program_matches (rec36 : ProgramT → Int → Int → (List (List UInt8)) → Option Bool) (p1 : ProgramT) (l6 : Link) (f7 : List UInt8) : Option Bool :=
  (if ((IntKind.wrap .i64 ((f7.length : Int) - 1)) == 0) = true then
      some true
    else
      ((impl_Link_isCallLink l6).bind fun y10 =>
      some (!y10))).bind fun b9 =>
  if b9 = true then
    some (l6.Act == f7)
  else
    ((cut f7 0 1).bind fun w15 =>
    (cut f7 (IntKind.wrap .i64 ((f7.length : Int) - 1)) f7.length).bind fun w17 =>
    (app w15 w17).bind fun w19 =>
    (if (l6.Act == w19) = true then
        ((cut f7 1 (IntKind.wrap .i64 ((f7.length : Int) - 1))).bind fun w23 =>
        (impl_factors w23).bind fun y25 =>
        (rec36 p1 l6.Module 0 y25).bind fun y33 =>
        some y33)
      else
        some false).bind fun b22 =>
    some b22)

noncomputable def impl_Program_after_J1 (from13 : Int) : Option Int :=
  some from13
noncomputable def impl_Program_after_J2 (t16 : Int) (to37 : Int) : Option ((Int × Int) ⊕ Int) :=
  some (.inl (to37, IntKind.wrap .i64 (t16 + 1)))
noncomputable def impl_Program_after_J3 (t40 : Int) (to64 : Int) : Option ((Int × Int) ⊕ ((Int × Int) ⊕ Int)) :=
  some (.inl (to64, IntKind.wrap .i64 (t40 + 1)))
noncomputable def impl_Program_after_S2 (p1 : ProgramT) (rec36 : ProgramT → Int → Int → (List (List UInt8)) → Option Bool) (from15 : Int) (t16 : Int) (x18 : List UInt8) (x23 : Module) : (Int × Int) → Option ((Int × Int) ⊕ ((Int × Int) ⊕ Int)) := fun (to39, t40) =>
  if (decide ((t40 : Int) < (x23.Links.length : Int))) = true then
    ((ix x23.Links t40).bind fun x42 =>
    (shrI .u64 from15 x42.From).bind fun q56 =>
    (if ((andI .u64 q56 1) == 1) = true then
        ((impl_Program_matches rec36 p1 x42 x18).bind fun y60 =>
        some y60)
      else
        some false).bind fun b59 =>
    if b59 = true then
      ((shlI .u64 1 x42.To).bind fun q67 =>
      impl_Program_after_J3 t40 (orI .u64 to39 q67))
    else
      impl_Program_after_J3 t40 to39)
  else
    ((impl_Program_after_J2 t16 to39).map Sum.inr)
noncomputable def impl_Program_after_S1 (p1 : ProgramT) (module6 : Int) (list8 : List (List UInt8)) (rec36 : ProgramT → Int → Int → (List (List UInt8)) → Option Bool) : (Int × Int) → Option ((Int × Int) ⊕ Int) := fun (from15, t16) =>
  if (decide ((t16 : Int) < (list8.length : Int))) = true then
    ((ix list8 t16).bind fun x18 =>
    (ix p1.Modules module6).bind fun x23 =>
    loop (impl_Program_after_S2 p1 rec36 from15 t16 x18 x23) (0, 0))
  else
    ((impl_Program_after_J1 from15).map Sum.inr)
noncomputable def impl_Program_after (rec36 : ProgramT → Int → Int → (List (List UInt8)) → Option Bool) (p1 : ProgramT) (module6 : Int) (from7 : Int) (list8 : List (List UInt8)) : Option Int :=
  loop (impl_Program_after_S1 p1 module6 list8 rec36) (from7, 0)

noncomputable def impl_Program_exit (p1 : ProgramT) (module6 : Int) : Option Int :=
  (ix p1.Modules module6).bind fun x7 =>
  some (IntKind.wrap .i64 (x7.Nodes - 1))

noncomputable def impl_Program_can_B (rec36 : ProgramT → Int → Int → (List (List UInt8)) → Option Bool) (p1 : ProgramT) (module6 : Int) (node7 : Int) (list8 : List (List UInt8)) : Option Bool :=
  (shlI .u64 1 node7).bind fun q13 =>
  (impl_Program_after rec36 p1 module6 q13 list8).bind fun y15 =>
  (impl_Program_exit p1 module6).bind fun y19 =>
  (shrI .u64 y15 y19).bind fun q23 =>
  some ((andI .u64 q23 1) == 1)
noncomputable def impl_Program_can_N : Nat → ProgramT → Int → Int → (List (List UInt8)) → Option Bool
  | 0 => fun _ _ _ _ => none
  | n + 1 => impl_Program_can_B (impl_Program_can_N n)
noncomputable def impl_Program_can : ProgramT → Int → Int → (List (List UInt8)) → Option Bool := impl_Program_can_N 1000

noncomputable def impl_ProgramTakes (p1 : ProgramT) (w6 : List UInt8) : Option (Bool × Int) :=
  (impl_ValidProgram p1).bind fun y7 =>
  (if (!y7) = true then
      some true
    else
      ((impl_ValidWord w6).bind fun y13 =>
      some (!y13))).bind fun b12 =>
  if b12 = true then
    some (false, 1)
  else
    ((impl_isMatched w6).bind fun y18 =>
    (if y18 = true then
        ((impl_factors w6).bind fun y24 =>
        (impl_Program_can p1 0 0 y24).bind fun y32 =>
        some y32)
      else
        some false).bind fun b23 =>
    some (b23, 0))

noncomputable def impl_Program_trail_J1 : Option (List Int) :=
  some ([] : List Int)
noncomputable def impl_Program_trail_J2 (t29 : Int) : Option (Int ⊕ (List Int)) :=
  some (.inl (IntKind.wrap .i64 (t29 + 1)))
noncomputable def impl_Program_trail_J3 (p1 : ProgramT) (p1_6 : Int) (p3_8 : List (List UInt8)) (rec20 : ProgramT → Int → Int → (List (List UInt8)) → Option (List Int)) (x32 : Link) (t74 : List Int) : Option (Int ⊕ (List Int)) :=
  (cut p3_8 1 p3_8.length).bind fun l82 =>
  (rec20 p1 p1_6 x32.To l82).bind fun y88 =>
  (app t74 y88).bind fun l96 =>
  some (.inr (l96))
noncomputable def impl_Program_trail_S1 (p1 : ProgramT) (p1_6 : Int) (p2_7 : Int) (p3_8 : List (List UInt8)) (rec20 : ProgramT → Int → Int → (List (List UInt8)) → Option (List Int)) (x14 : Module) : Int → Option (Int ⊕ (List Int)) := fun t29 =>
  if (decide ((t29 : Int) < (x14.Links.length : Int))) = true then
    ((ix x14.Links t29).bind fun x32 =>
    (if (x32.From != p2_7) = true then
        some true
      else
        ((ix p3_8 0).bind fun x48 =>
        (impl_Program_matches impl_Program_can p1 x32 x48).bind fun y53 =>
        some (!y53))).bind fun b47 =>
    (if b47 = true then
        some true
      else
        ((cut p3_8 1 p3_8.length).bind fun l59 =>
        (impl_Program_can p1 p1_6 x32.To l59).bind fun y65 =>
        some (!y65))).bind fun b58 =>
    if b58 = true then
      impl_Program_trail_J2 t29
    else
      ((impl_Link_isCallLink x32).bind fun y70 =>
      if y70 = true then
        ((ix p3_8 0).bind fun x101 =>
        (ix p3_8 0).bind fun x106 =>
        (cut x101 1 (IntKind.wrap .i64 ((x106.length : Int) - 1))).bind fun w111 =>
        (impl_factors w111).bind fun y113 =>
        (rec20 p1 x32.Module 0 y113).bind fun y121 =>
        (app ([t29] : List Int) y121).bind fun l129 =>
        (app l129 ([(-1)] : List Int)).bind fun l133 =>
        impl_Program_trail_J3 p1 p1_6 p3_8 rec20 x32 l133)
      else
        impl_Program_trail_J3 p1 p1_6 p3_8 rec20 x32 ([t29] : List Int)))
  else
    ((impl_Program_trail_J1).map Sum.inr)
noncomputable def impl_Program_trail_B (rec20 : ProgramT → Int → Int → (List (List UInt8)) → Option (List Int)) (p1 : ProgramT) (p1_6 : Int) (p2_7 : Int) (p3_8 : List (List UInt8)) : Option (List Int) :=
  if ((p3_8.length : Int) == 0) = true then
    some ([] : List Int)
  else
    ((ix p1.Modules p1_6).bind fun x14 =>
    loop (impl_Program_trail_S1 p1 p1_6 p2_7 p3_8 rec20 x14) (0))
noncomputable def impl_Program_trail_N : Nat → ProgramT → Int → Int → (List (List UInt8)) → Option (List Int)
  | 0 => fun _ _ _ _ => none
  | n + 1 => impl_Program_trail_B (impl_Program_trail_N n)
noncomputable def impl_Program_trail : ProgramT → Int → Int → (List (List UInt8)) → Option (List Int) := impl_Program_trail_N 1000

noncomputable def impl_Program_trail_K0000_J1 : Option (List Int) :=
  some ([] : List Int)
noncomputable def impl_Program_trail_K0000_J2 (t37 : Int) : Option (Int ⊕ (List Int)) :=
  some (.inl (IntKind.wrap .i64 (t37 + 1)))
noncomputable def impl_Program_trail_K0000_J3 (p1 : ProgramT) (p1_6 : Int) (p3_8 : List (List UInt8)) (x48 : Link) (t97 : List Int) : Option (Int ⊕ (List Int)) :=
  (cut p3_8 1 p3_8.length).bind fun l107 =>
  (impl_Program_trail p1 p1_6 x48.To l107).bind fun y113 =>
  (app t97 y113).bind fun l121 =>
  some (.inr (l121))
noncomputable def impl_Program_trail_K0000_S1 (p1 : ProgramT) (p1_6 : Int) (p2_7 : Int) (p3_8 : List (List UInt8)) (x16 : Module) : Int → Option (Int ⊕ (List Int)) := fun t37 =>
  if (decide ((t37 : Int) < (x16.Links.length : Int))) = true then
    ((ix x16.Links t37).bind fun x48 =>
    (if (x48.From != p2_7) = true then
        some true
      else
        ((ix p3_8 0).bind fun x64 =>
        (impl_Program_matches impl_Program_can p1 x48 x64).bind fun y69 =>
        some (!y69))).bind fun b63 =>
    (if b63 = true then
        some true
      else
        ((cut p3_8 1 p3_8.length).bind fun l75 =>
        (impl_Program_can p1 p1_6 x48.To l75).bind fun y81 =>
        some (!y81))).bind fun b74 =>
    if b74 = true then
      impl_Program_trail_K0000_J2 t37
    else
      ((impl_Link_isCallLink x48).bind fun y93 =>
      if y93 = true then
        ((ix p3_8 0).bind fun x131 =>
        (ix p3_8 0).bind fun x136 =>
        (cut x131 1 (IntKind.wrap .i64 ((x136.length : Int) - 1))).bind fun w141 =>
        (impl_factors w141).bind fun y143 =>
        (impl_Program_trail p1 x48.Module 0 y143).bind fun y151 =>
        (app ([t37] : List Int) y151).bind fun l159 =>
        (app l159 ([(-1)] : List Int)).bind fun l168 =>
        impl_Program_trail_K0000_J3 p1 p1_6 p3_8 x48 l168)
      else
        impl_Program_trail_K0000_J3 p1 p1_6 p3_8 x48 ([t37] : List Int)))
  else
    ((impl_Program_trail_K0000_J1).map Sum.inr)
noncomputable def impl_Program_trail_K0000 (p1 : ProgramT) (p1_6 : Int) (p2_7 : Int) (p3_8 : List (List UInt8)) : Option (List Int) :=
  if ((p3_8.length : Int) == 0) = true then
    some ([] : List Int)
  else
    ((ix p1.Modules p1_6).bind fun x16 =>
    loop (impl_Program_trail_K0000_S1 p1 p1_6 p2_7 p3_8 x16) (0))

noncomputable def impl_RunOfWord_K00_J1 (p1 : ProgramT) (w6 : List UInt8) (code17 : Int) : Option ((List Int) × Int) :=
  if (code17 != 0) = true then
    some (([] : List Int), code17)
  else
    ((impl_factors w6).bind fun y26 =>
    (impl_Program_trail_K0000 p1 0 0 y26).bind fun y34 =>
    some (y34, 0))
noncomputable def impl_RunOfWord_K00 (p1 : ProgramT) (w6 : List UInt8) : Option ((List Int) × Int) :=
  (impl_ProgramTakes p1 w6).bind fun y7 =>
  if ((y7.2 == 0) && (!y7.1)) = true then
    impl_RunOfWord_K00_J1 p1 w6 6
  else
    impl_RunOfWord_K00_J1 p1 w6 y7.2

noncomputable def laws_eqInt64S_J1 : Option Bool :=
  some true
noncomputable def laws_eqInt64S_S1 (a1 : List Int) (b6 : List Int) : Int → Option (Int ⊕ Bool) := fun i13 =>
  if (decide ((i13 : Int) < (a1.length : Int))) = true then
    ((ix a1 i13).bind fun x15 =>
    (ix b6 i13).bind fun x20 =>
    if (x15 != x20) = true then
      some (.inr (false))
    else
      some (.inl (IntKind.wrap .i64 (i13 + 1))))
  else
    ((laws_eqInt64S_J1).map Sum.inr)
noncomputable def laws_eqInt64S (a1 : List Int) (b6 : List Int) : Option Bool :=
  if ((a1.length : Int) != (b6.length : Int)) = true then
    some false
  else
    loop (laws_eqInt64S_S1 a1 b6) (0)

noncomputable def laws_eqLink (a1 : Link) (b2 : Link) : Option Bool :=
  if (a1.From != b2.From) = true then
    some false
  else
    (if (a1.To != b2.To) = true then
      some false
    else
      (if (!(a1.Act == b2.Act)) = true then
        some false
      else
        (if (a1.Module != b2.Module) = true then
          some false
        else
          some true)))

noncomputable def laws_eqLinkS_J1 : Option Bool :=
  some true
noncomputable def laws_eqLinkS_S1 (a1 : List Link) (b6 : List Link) : Int → Option (Int ⊕ Bool) := fun i13 =>
  if (decide ((i13 : Int) < (a1.length : Int))) = true then
    ((ix a1 i13).bind fun x15 =>
    (ix b6 i13).bind fun x29 =>
    (laws_eqLink x15 x29).bind fun y43 =>
    if (!y43) = true then
      some (.inr (false))
    else
      some (.inl (IntKind.wrap .i64 (i13 + 1))))
  else
    ((laws_eqLinkS_J1).map Sum.inr)
noncomputable def laws_eqLinkS (a1 : List Link) (b6 : List Link) : Option Bool :=
  if ((a1.length : Int) != (b6.length : Int)) = true then
    some false
  else
    loop (laws_eqLinkS_S1 a1 b6) (0)

noncomputable def laws_eqModule (a1 : Module) (b6 : Module) : Option Bool :=
  if (a1.Nodes != b6.Nodes) = true then
    some false
  else
    ((laws_eqLinkS a1.Links b6.Links).bind fun y12 =>
    if (!y12) = true then
      some false
    else
      some true)

noncomputable def laws_eqModuleS_J1 : Option Bool :=
  some true
noncomputable def laws_eqModuleS_S1 (a1 : List Module) (b6 : List Module) : Int → Option (Int ⊕ Bool) := fun i13 =>
  if (decide ((i13 : Int) < (a1.length : Int))) = true then
    ((ix a1 i13).bind fun x15 =>
    (ix b6 i13).bind fun x29 =>
    (laws_eqModule x15 x29).bind fun y43 =>
    if (!y43) = true then
      some (.inr (false))
    else
      some (.inl (IntKind.wrap .i64 (i13 + 1))))
  else
    ((laws_eqModuleS_J1).map Sum.inr)
noncomputable def laws_eqModuleS (a1 : List Module) (b6 : List Module) : Option Bool :=
  if ((a1.length : Int) != (b6.length : Int)) = true then
    some false
  else
    loop (laws_eqModuleS_S1 a1 b6) (0)

noncomputable def laws_eqProgram (a1 : ProgramT) (b6 : ProgramT) : Option Bool :=
  (laws_eqModuleS a1.Modules b6.Modules).bind fun y11 =>
  if (!y11) = true then
    some false
  else
    some true

noncomputable def laws_markText_J1 (out3 : List UInt8) : Option (List UInt8) :=
  (app ([109] : List UInt8) out3).bind fun w5 =>
  some w5
noncomputable def laws_markText_S1 : (Int × (List UInt8)) → Option ((Int × (List UInt8)) ⊕ (List UInt8)) := fun (k7, out8) =>
  if (decide ((k7 : Int) > 0)) = true then
    ((remI .i64 k7 10).bind fun q10 =>
    (app (bytesOf ([IntKind.wrap .u8 (IntKind.wrap .i64 (48 + q10))] : List Int)) out8).bind fun w12 =>
    (quoI .i64 k7 10).bind fun q14 =>
    some (.inl (q14, w12)))
  else
    ((laws_markText_J1 out8).map Sum.inr)
noncomputable def laws_markText (k1 : Int) : Option (List UInt8) :=
  if (decide ((k1 : Int) ≤ 0)) = true then
    some ([109, 48] : List UInt8)
  else
    loop (laws_markText_S1) (k1, ([] : List UInt8))

noncomputable def laws_markLinkS_K10_J1 (m6 : List Link) (k7 : Int) : Option (Int × (List Link)) :=
  some (k7, m6)
noncomputable def laws_markLinkS_K10_S1 : ((List Link) × Int × Int) → Option (((List Link) × Int × Int) ⊕ (Int × (List Link))) := fun (m13, k14, i15) =>
  if (decide ((i15 : Int) < (m13.length : Int))) = true then
    ((ix m13 i15).bind fun x23 =>
    (laws_markText (IntKind.wrap .i64 ((IntKind.wrap .i64 (k14 + 1)) + 1))).bind fun y53 =>
    some (.inl (((((m13.set (Int.toNat i15) ({ x23 with From := k14 } : Link)).set (Int.toNat i15) ({ ({ x23 with From := k14 } : Link) with To := IntKind.wrap .i64 (k14 + 1) } : Link)).set (Int.toNat i15) ({ ({ ({ x23 with From := k14 } : Link) with To := IntKind.wrap .i64 (k14 + 1) } : Link) with Act := y53 } : Link)).set (Int.toNat i15) ({ ({ ({ ({ x23 with From := k14 } : Link) with To := IntKind.wrap .i64 (k14 + 1) } : Link) with Act := y53 } : Link) with Module := IntKind.wrap .i64 ((IntKind.wrap .i64 ((IntKind.wrap .i64 (k14 + 1)) + 1)) + 1) } : Link)), IntKind.wrap .i64 ((IntKind.wrap .i64 ((IntKind.wrap .i64 ((IntKind.wrap .i64 (k14 + 1)) + 1)) + 1)) + 1), IntKind.wrap .i64 (i15 + 1))))
  else
    ((laws_markLinkS_K10_J1 m13 k14).map Sum.inr)
noncomputable def laws_markLinkS_K10 (a4 : List Link) (k5 : Int) : Option (Int × (List Link)) :=
  loop (laws_markLinkS_K10_S1) (a4, k5, 0)

noncomputable def laws_markModuleS_K10_J1 (m6 : List Module) (k7 : Int) : Option (Int × (List Module)) :=
  some (k7, m6)
noncomputable def laws_markModuleS_K10_S1 : ((List Module) × Int × Int) → Option (((List Module) × Int × Int) ⊕ (Int × (List Module))) := fun (m13, k14, i15) =>
  if (decide ((i15 : Int) < (m13.length : Int))) = true then
    ((ix m13 i15).bind fun x23 =>
    (laws_markLinkS_K10 (({ x23 with Nodes := k14 } : Module).Links) (IntKind.wrap .i64 (k14 + 1))).bind fun y40 =>
    some (.inl (((m13.set (Int.toNat i15) ({ x23 with Nodes := k14 } : Module)).set (Int.toNat i15) ({ ({ x23 with Nodes := k14 } : Module) with Links := y40.2 } : Module)), y40.1, IntKind.wrap .i64 (i15 + 1))))
  else
    ((laws_markModuleS_K10_J1 m13 k14).map Sum.inr)
noncomputable def laws_markModuleS_K10 (a4 : List Module) (k5 : Int) : Option (Int × (List Module)) :=
  loop (laws_markModuleS_K10_S1) (a4, k5, 0)

noncomputable def laws_markProgram_K10 (a1 : ProgramT) (k5 : Int) : Option (Int × (List Module)) :=
  (laws_markModuleS_K10 a1.Modules k5).bind fun y6 =>
  some (y6.1, y6.2)

noncomputable def laws_markInt64S_K10_J1 (m6 : List Int) (k7 : Int) : Option (Int × (List Int)) :=
  some (k7, m6)
noncomputable def laws_markInt64S_K10_S1 : ((List Int) × Int × Int) → Option (((List Int) × Int × Int) ⊕ (Int × (List Int))) := fun (m13, k14, i15) =>
  if (decide ((i15 : Int) < (m13.length : Int))) = true then
    ((ix m13 i15).bind fun x23 =>
    some (.inl ((m13.set (Int.toNat i15) k14), IntKind.wrap .i64 (k14 + 1), IntKind.wrap .i64 (i15 + 1))))
  else
    ((laws_markInt64S_K10_J1 m13 k14).map Sum.inr)
noncomputable def laws_markInt64S_K10 (a4 : List Int) (k5 : Int) : Option (Int × (List Int)) :=
  loop (laws_markInt64S_K10_S1) (a4, k5, 0)

noncomputable def laws_heldInt64S_J1 (k7 : Int) : Option Int :=
  some k7
noncomputable def laws_heldInt64S_S1 (a1 : List Int) : (Int × Int) → Option ((Int × Int) ⊕ Int) := fun (k9, i10) =>
  if (decide ((i10 : Int) < (a1.length : Int))) = true then
    ((ix a1 i10).bind fun x12 =>
    if (x12 != k9) = true then
      some (.inr ((-1)))
    else
      some (.inl (IntKind.wrap .i64 (k9 + 1), IntKind.wrap .i64 (i10 + 1))))
  else
    ((laws_heldInt64S_J1 k9).map Sum.inr)
noncomputable def laws_heldInt64S (a1 : List Int) (k6 : Int) : Option Int :=
  loop (laws_heldInt64S_S1 a1) (k6, 0)

noncomputable def impl_RunOfWord_J1 (p1 : ProgramT) (w6 : List UInt8) (code17 : Int) : Option ((List Int) × Int) :=
  if (code17 != 0) = true then
    some (([] : List Int), code17)
  else
    ((impl_factors w6).bind fun y20 =>
    (impl_Program_trail p1 0 0 y20).bind fun y28 =>
    some (y28, 0))
noncomputable def impl_RunOfWord (p1 : ProgramT) (w6 : List UInt8) : Option ((List Int) × Int) :=
  (impl_ProgramTakes p1 w6).bind fun y7 =>
  if ((y7.2 == 0) && (!y7.1)) = true then
    impl_RunOfWord_J1 p1 w6 6
  else
    impl_RunOfWord_J1 p1 w6 y7.2

noncomputable def laws_FnExactRunOfWord (p1 : ProgramT) (p1_6 : List UInt8) : Option Bool :=
  if (decide (((p1_6.length : Int) : Int) > 1048576)) = true then
    some true
  else
    ((laws_szProgram p1 1048576).bind fun y8 =>
    if (decide ((y8 : Int) < 0)) = true then
      some true
    else
      ((laws_toProgram p1).bind fun y13 =>
      (spec_RunOfWord y13 p1_6).bind fun y24 =>
      (laws_toProgram_K0 p1).bind fun y37 =>
      (impl_RunOfWord_K00 y37 p1_6).bind fun y55 =>
      (laws_eqInt64S y55.1 y24.1).bind fun y75 =>
      if ((!y75) || (y55.2 != y24.2)) = true then
        some false
      else
        ((laws_toProgram p1).bind fun y88 =>
        (laws_eqProgram y37 y88).bind fun y99 =>
        if (!y99) = true then
          some false
        else
          ((laws_markProgram_K10 y37 1).bind fun y117 =>
          (if (decide ((y117.1 : Int) < 0)) = true then
              some true
            else
              ((laws_eqInt64S y55.1 y24.1).bind fun y139 =>
              some (!y139))).bind fun b138 =>
          if (b138 || (y55.2 != y24.2)) = true then
            some false
          else
            ((laws_markInt64S_K10 y55.1 1).bind fun y152 =>
            (laws_heldInt64S y152.2 1).bind fun y172 =>
            if (decide ((y172 : Int) < 0)) = true then
              some false
            else
              (if (y172 != y152.1) = true then
                some false
              else
                ((laws_toProgram p1).bind fun y181 =>
                (impl_RunOfWord y181 p1_6).bind fun y192 =>
                (laws_eqInt64S y192.1 y24.1).bind fun y205 =>
                if ((!y205) || (y192.2 != y24.2)) = true then
                  some false
                else
                  ((laws_heldInt64S y152.2 1).bind fun y218 =>
                  if (decide ((y218 : Int) < 0)) = true then
                    some false
                  else
                    (if (y218 != y152.1) = true then
                      some false
                    else
                      some true)))))))))
end Go.Proofs.Ythnilfmdmaebfaa.law
