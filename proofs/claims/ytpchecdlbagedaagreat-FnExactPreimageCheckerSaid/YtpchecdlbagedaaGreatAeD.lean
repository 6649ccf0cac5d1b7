import Derived.Test.YtpchecdlbagedaaGreatAe4
import Derived.Test.YtpchecdlbagedaaGreatAeT
set_option linter.unusedVariables false
set_option linter.unusedSimpArgs false
namespace Go.Proofs.YtpchecdlbagedaaGreat.law
open Go Go.Proofs Ae
noncomputable section
set_option maxRecDepth 100000
set_option linter.unusedVariables false
def Cf:Cfg:={ fn:=fnT.get,fnK:=fnKT.get,ty:=tyT.get,ext:=fun g=>bif Nat.beq g 137 then some (pureX φByte) else bif Nat.beq g 134 then some (pureX φClone) else none }
structure OutPush where
 To:Int
 Put:Int
 Out:List UInt8
def csOutPush (x:OutPush):List (AV→Prop):=[(rI .i64) x.To,(rI .i64) x.Put,rS x.Out]
def rOutPush (x:OutPush):AV→Prop:=rA (csOutPush x)
structure OutMove where
 To:Int
 Out:List UInt8
def csOutMove (x:OutMove):List (AV→Prop):=[(rI .i64) x.To,rS x.Out]
def rOutMove (x:OutMove):AV→Prop:=rA (csOutMove x)
structure Rewriter where
 Stack:Int
 Start:Int
 Call:List (List OutPush)
 Return:List (List (List OutMove))
 Inner:List (List OutMove)
def csRewriter (x:Rewriter):List (AV→Prop):=[(rI .i64) x.Stack,(rI .i64) x.Start,(rL (rL rOutPush 3) 1) x.Call,(rL (rL (rL rOutMove 2) 1) 1) x.Return,(rL (rL rOutMove 2) 1) x.Inner]
def rRewriter (x:Rewriter):AV→Prop:=rA (csRewriter x)
structure Push where
 To:Int
 Put:Int
def csPush (x:Push):List (AV→Prop):=[(rI .i64) x.To,(rI .i64) x.Put]
def rPush (x:Push):AV→Prop:=rA (csPush x)
structure Checker where
 Stack:Int
 Start:Int
 Accept:List Bool
 Call:List (List Push)
 Return:List (List (List Int))
 Inner:List (List Int)
def csChecker (x:Checker):List (AV→Prop):=[(rI .i64) x.Stack,(rI .i64) x.Start,(rL rB 1) x.Accept,(rL (rL rPush 2) 1) x.Call,(rL (rL (rL (rI .i64) 1) 1) 1) x.Return,(rL (rL (rI .i64) 1) 1) x.Inner]
def rChecker (x:Checker):AV→Prop:=rA (csChecker x)
structure Matching where
 partners:List Int
 returns:List Int
 calls:List Int
 depths:List Int
 parents:List Int
def csMatching (x:Matching):List (AV→Prop):=[(rL (rI .i64) 1) x.partners,(rL (rI .i64) 1) x.returns,(rL (rI .i64) 1) x.calls,(rL (rI .i64) 1) x.depths,(rL (rI .i64) 1) x.parents]
def rMatching (x:Matching):AV→Prop:=rA (csMatching x)
def bOutPush (x:OutPush):Prop:=(bI .i64) x.To∧(bI .i64) x.Put∧bS x.Out
def smOutPush (x:OutPush):Prop:=smT x.To∧smT x.Put∧smS x.Out
def bOutMove (x:OutMove):Prop:=(bI .i64) x.To∧bS x.Out
def smOutMove (x:OutMove):Prop:=smT x.To∧smS x.Out
def bRewriter (x:Rewriter):Prop:=(bI .i64) x.Stack∧(bI .i64) x.Start∧(bL (bL bOutPush)) x.Call∧(bL (bL (bL bOutMove))) x.Return∧(bL (bL bOutMove)) x.Inner
def smRewriter (x:Rewriter):Prop:=smT x.Stack∧smT x.Start∧(smL (smL smOutPush)) x.Call∧(smL (smL (smL smOutMove))) x.Return∧(smL (smL smOutMove)) x.Inner
def bPush (x:Push):Prop:=(bI .i64) x.To∧(bI .i64) x.Put
def smPush (x:Push):Prop:=smT x.To∧smT x.Put
def bChecker (x:Checker):Prop:=(bI .i64) x.Stack∧(bI .i64) x.Start∧(bL bB) x.Accept∧(bL (bL bPush)) x.Call∧(bL (bL (bL (bI .i64)))) x.Return∧(bL (bL (bI .i64))) x.Inner
def smChecker (x:Checker):Prop:=smT x.Stack∧smT x.Start∧(smL smT) x.Accept∧(smL (smL smT)) x.Call∧(smL (smL (smL smT))) x.Return∧(smL (smL smT)) x.Inner
def bMatching (x:Matching):Prop:=(bL (bI .i64)) x.partners∧(bL (bI .i64)) x.returns∧(bL (bI .i64)) x.calls∧(bL (bI .i64)) x.depths∧(bL (bI .i64)) x.parents
def smMatching (x:Matching):Prop:=(smL smT) x.partners∧(smL smT) x.returns∧(smL smT) x.calls∧(smL smT) x.depths∧(smL smT) x.parents

def laws_szOutPush (a1:OutPush) (left2:Int):Option Int :=
 if (decide ((IntKind.wrap .i64 (left2 - (a1.Out.length:Int)):Int)<0))=true then
  some (-1)
 else
  some (IntKind.wrap .i64 (left2 - (a1.Out.length:Int)))

def laws_szOutPushS_J1 (left8:Int):Option Int :=
 some left8
def laws_szOutPushS_S1 (a1:List OutPush):(Int × Int)→Option ((Int × Int) ⊕ Int):=fun (left10,i11) =>
 if (decide ((i11:Int)<(a1.length:Int)))=true then
  ((ix a1 i11).bind fun x13 =>
  (laws_szOutPush x13 left10).bind fun y25 =>
  if (decide ((y25:Int)<0))=true then
   some (.inr ((-1)))
  else
   some (.inl (y25,IntKind.wrap .i64 (i11+1))))
 else
  ((laws_szOutPushS_J1 left10).map Sum.inr)
def laws_szOutPushS (a1:List OutPush) (left6:Int):Option Int :=
 if (decide ((IntKind.wrap .i64 (left6 - (a1.length:Int)):Int)<0))=true then
  some (-1)
 else
  loop (laws_szOutPushS_S1 a1) (IntKind.wrap .i64 (left6 - (a1.length:Int)),0)

def laws_szOutPushSS_J1 (left8:Int):Option Int :=
 some left8
def laws_szOutPushSS_S1 (a1:List (List OutPush)):(Int × Int)→Option ((Int × Int) ⊕ Int):=fun (left10,i11) =>
 if (decide ((i11:Int)<(a1.length:Int)))=true then
  ((ix a1 i11).bind fun x13 =>
  (laws_szOutPushS x13 left10).bind fun y22 =>
  if (decide ((y22:Int)<0))=true then
   some (.inr ((-1)))
  else
   some (.inl (y22,IntKind.wrap .i64 (i11+1))))
 else
  ((laws_szOutPushSS_J1 left10).map Sum.inr)
def laws_szOutPushSS (a1:List (List OutPush)) (left6:Int):Option Int :=
 if (decide ((IntKind.wrap .i64 (left6 - (a1.length:Int)):Int)<0))=true then
  some (-1)
 else
  loop (laws_szOutPushSS_S1 a1) (IntKind.wrap .i64 (left6 - (a1.length:Int)),0)

def laws_szOutMove (a1:OutMove) (left2:Int):Option Int :=
 if (decide ((IntKind.wrap .i64 (left2 - (a1.Out.length:Int)):Int)<0))=true then
  some (-1)
 else
  some (IntKind.wrap .i64 (left2 - (a1.Out.length:Int)))

def laws_szOutMoveS_J1 (left8:Int):Option Int :=
 some left8
def laws_szOutMoveS_S1 (a1:List OutMove):(Int × Int)→Option ((Int × Int) ⊕ Int):=fun (left10,i11) =>
 if (decide ((i11:Int)<(a1.length:Int)))=true then
  ((ix a1 i11).bind fun x13 =>
  (laws_szOutMove x13 left10).bind fun y23 =>
  if (decide ((y23:Int)<0))=true then
   some (.inr ((-1)))
  else
   some (.inl (y23,IntKind.wrap .i64 (i11+1))))
 else
  ((laws_szOutMoveS_J1 left10).map Sum.inr)
def laws_szOutMoveS (a1:List OutMove) (left6:Int):Option Int :=
 if (decide ((IntKind.wrap .i64 (left6 - (a1.length:Int)):Int)<0))=true then
  some (-1)
 else
  loop (laws_szOutMoveS_S1 a1) (IntKind.wrap .i64 (left6 - (a1.length:Int)),0)

def laws_szOutMoveSS_J1 (left8:Int):Option Int :=
 some left8
def laws_szOutMoveSS_S1 (a1:List (List OutMove)):(Int × Int)→Option ((Int × Int) ⊕ Int):=fun (left10,i11) =>
 if (decide ((i11:Int)<(a1.length:Int)))=true then
  ((ix a1 i11).bind fun x13 =>
  (laws_szOutMoveS x13 left10).bind fun y22 =>
  if (decide ((y22:Int)<0))=true then
   some (.inr ((-1)))
  else
   some (.inl (y22,IntKind.wrap .i64 (i11+1))))
 else
  ((laws_szOutMoveSS_J1 left10).map Sum.inr)
def laws_szOutMoveSS (a1:List (List OutMove)) (left6:Int):Option Int :=
 if (decide ((IntKind.wrap .i64 (left6 - (a1.length:Int)):Int)<0))=true then
  some (-1)
 else
  loop (laws_szOutMoveSS_S1 a1) (IntKind.wrap .i64 (left6 - (a1.length:Int)),0)

def laws_szOutMoveSSS_J1 (left8:Int):Option Int :=
 some left8
def laws_szOutMoveSSS_S1 (a1:List (List (List OutMove))):(Int × Int)→Option ((Int × Int) ⊕ Int):=fun (left10,i11) =>
 if (decide ((i11:Int)<(a1.length:Int)))=true then
  ((ix a1 i11).bind fun x13 =>
  (laws_szOutMoveSS x13 left10).bind fun y22 =>
  if (decide ((y22:Int)<0))=true then
   some (.inr ((-1)))
  else
   some (.inl (y22,IntKind.wrap .i64 (i11+1))))
 else
  ((laws_szOutMoveSSS_J1 left10).map Sum.inr)
def laws_szOutMoveSSS (a1:List (List (List OutMove))) (left6:Int):Option Int :=
 if (decide ((IntKind.wrap .i64 (left6 - (a1.length:Int)):Int)<0))=true then
  some (-1)
 else
  loop (laws_szOutMoveSSS_S1 a1) (IntKind.wrap .i64 (left6 - (a1.length:Int)),0)

def laws_szRewriter (a1:Rewriter) (left14:Int):Option Int :=
 (laws_szOutPushSS a1.Call left14).bind fun y15 =>
 if (decide ((y15:Int)<0))=true then
  some (-1)
 else
  ((laws_szOutMoveSSS a1.Return y15).bind fun y20 =>
  if (decide ((y20:Int)<0))=true then
   some (-1)
  else
   ((laws_szOutMoveSS a1.Inner y20).bind fun y25 =>
   if (decide ((y25:Int)<0))=true then
    some (-1)
   else
    some y25))

def laws_szBoolS (a1:List Bool) (left6:Int):Option Int :=
 if (decide ((IntKind.wrap .i64 (left6 - (a1.length:Int)):Int)<0))=true then
  some (-1)
 else
  some (IntKind.wrap .i64 (left6 - (a1.length:Int)))

def laws_szPushS (a1:List Push) (left6:Int):Option Int :=
 if (decide ((IntKind.wrap .i64 (left6 - (a1.length:Int)):Int)<0))=true then
  some (-1)
 else
  some (IntKind.wrap .i64 (left6 - (a1.length:Int)))

def laws_szPushSS_J1 (left8:Int):Option Int :=
 some left8
def laws_szPushSS_S1 (a1:List (List Push)):(Int × Int)→Option ((Int × Int) ⊕ Int):=fun (left10,i11) =>
 if (decide ((i11:Int)<(a1.length:Int)))=true then
  ((ix a1 i11).bind fun x13 =>
  (laws_szPushS x13 left10).bind fun y22 =>
  if (decide ((y22:Int)<0))=true then
   some (.inr ((-1)))
  else
   some (.inl (y22,IntKind.wrap .i64 (i11+1))))
 else
  ((laws_szPushSS_J1 left10).map Sum.inr)
def laws_szPushSS (a1:List (List Push)) (left6:Int):Option Int :=
 if (decide ((IntKind.wrap .i64 (left6 - (a1.length:Int)):Int)<0))=true then
  some (-1)
 else
  loop (laws_szPushSS_S1 a1) (IntKind.wrap .i64 (left6 - (a1.length:Int)),0)

def laws_szInt64S (a1:List Int) (left6:Int):Option Int :=
 if (decide ((IntKind.wrap .i64 (left6 - (a1.length:Int)):Int)<0))=true then
  some (-1)
 else
  some (IntKind.wrap .i64 (left6 - (a1.length:Int)))

def laws_szInt64SS_J1 (left8:Int):Option Int :=
 some left8
def laws_szInt64SS_S1 (a1:List (List Int)):(Int × Int)→Option ((Int × Int) ⊕ Int):=fun (left10,i11) =>
 if (decide ((i11:Int)<(a1.length:Int)))=true then
  ((ix a1 i11).bind fun x13 =>
  (laws_szInt64S x13 left10).bind fun y22 =>
  if (decide ((y22:Int)<0))=true then
   some (.inr ((-1)))
  else
   some (.inl (y22,IntKind.wrap .i64 (i11+1))))
 else
  ((laws_szInt64SS_J1 left10).map Sum.inr)
def laws_szInt64SS (a1:List (List Int)) (left6:Int):Option Int :=
 if (decide ((IntKind.wrap .i64 (left6 - (a1.length:Int)):Int)<0))=true then
  some (-1)
 else
  loop (laws_szInt64SS_S1 a1) (IntKind.wrap .i64 (left6 - (a1.length:Int)),0)

def laws_szInt64SSS_J1 (left8:Int):Option Int :=
 some left8
def laws_szInt64SSS_S1 (a1:List (List (List Int))):(Int × Int)→Option ((Int × Int) ⊕ Int):=fun (left10,i11) =>
 if (decide ((i11:Int)<(a1.length:Int)))=true then
  ((ix a1 i11).bind fun x13 =>
  (laws_szInt64SS x13 left10).bind fun y22 =>
  if (decide ((y22:Int)<0))=true then
   some (.inr ((-1)))
  else
   some (.inl (y22,IntKind.wrap .i64 (i11+1))))
 else
  ((laws_szInt64SSS_J1 left10).map Sum.inr)
def laws_szInt64SSS (a1:List (List (List Int))) (left6:Int):Option Int :=
 if (decide ((IntKind.wrap .i64 (left6 - (a1.length:Int)):Int)<0))=true then
  some (-1)
 else
  loop (laws_szInt64SSS_S1 a1) (IntKind.wrap .i64 (left6 - (a1.length:Int)),0)

def laws_szChecker (a1:Checker) (left18:Int):Option Int :=
 (laws_szBoolS a1.Accept left18).bind fun y19 =>
 if (decide ((y19:Int)<0))=true then
  some (-1)
 else
  ((laws_szPushSS a1.Call y19).bind fun y24 =>
  if (decide ((y24:Int)<0))=true then
   some (-1)
  else
   ((laws_szInt64SSS a1.Return y24).bind fun y29 =>
   if (decide ((y29:Int)<0))=true then
    some (-1)
   else
    ((laws_szInt64SS a1.Inner y29).bind fun y34 =>
    if (decide ((y34:Int)<0))=true then
     some (-1)
    else
     some y34)))

def laws_toOutPush_K0 (a1:OutPush):Option OutPush :=
 some a1

def laws_toOutPushS_K0_J1 (out15:List OutPush):Option (List OutPush) :=
 some out15
def laws_toOutPushS_K0_S1 (a1:List OutPush):((List OutPush) × Int)→Option (((List OutPush) × Int) ⊕ (List OutPush)):=fun (out21,i22) =>
 if (decide ((i22:Int)<(a1.length:Int)))=true then
  ((ix a1 i22).bind fun x28 =>
  (laws_toOutPush_K0 x28).bind fun y40 =>
  (ix out21 i22).bind fun x52 =>
  some (.inl ((out21.set (Int.toNat i22) y40),IntKind.wrap .i64 (i22+1))))
 else
  ((laws_toOutPushS_K0_J1 out21).map Sum.inr)
def laws_toOutPushS_K0 (a1:List OutPush):Option (List OutPush) :=
 (mk ((⟨0,0,([]:List UInt8)⟩:OutPush):OutPush) (a1.length:Int)).bind fun l6 =>
 loop (laws_toOutPushS_K0_S1 a1) (l6,0)

def laws_toOutPushSS_K0_J1 (out15:List (List OutPush)):Option (List (List OutPush)) :=
 some out15
def laws_toOutPushSS_K0_S1 (a1:List (List OutPush)):((List (List OutPush)) × Int)→Option (((List (List OutPush)) × Int) ⊕ (List (List OutPush))):=fun (out22,i24) =>
 if (decide ((i24:Int)<(a1.length:Int)))=true then
  ((ix a1 i24).bind fun x30 =>
  (laws_toOutPushS_K0 x30).bind fun y39 =>
  (ix out22 i24).bind fun x59 =>
  some (.inl ((out22.set (Int.toNat i24) y39),IntKind.wrap .i64 (i24+1))))
 else
  ((laws_toOutPushSS_K0_J1 out22).map Sum.inr)
def laws_toOutPushSS_K0 (a1:List (List OutPush)):Option (List (List OutPush)) :=
 (mk (([]:List OutPush):List OutPush) (a1.length:Int)).bind fun l6 =>
 loop (laws_toOutPushSS_K0_S1 a1) (l6,0)

def laws_toOutMove_K0 (a1:OutMove):Option OutMove :=
 some (⟨a1.To,a1.Out⟩:OutMove)

def laws_toOutMoveS_K0_J1 (out15:List OutMove):Option (List OutMove) :=
 some out15
def laws_toOutMoveS_K0_S1 (a1:List OutMove):((List OutMove) × Int)→Option (((List OutMove) × Int) ⊕ (List OutMove)):=fun (out21,i22) =>
 if (decide ((i22:Int)<(a1.length:Int)))=true then
  ((ix a1 i22).bind fun x28 =>
  (laws_toOutMove_K0 x28).bind fun y38 =>
  (ix out21 i22).bind fun x50 =>
  some (.inl ((out21.set (Int.toNat i22) y38),IntKind.wrap .i64 (i22+1))))
 else
  ((laws_toOutMoveS_K0_J1 out21).map Sum.inr)
def laws_toOutMoveS_K0 (a1:List OutMove):Option (List OutMove) :=
 (mk ((⟨0,([]:List UInt8)⟩:OutMove):OutMove) (a1.length:Int)).bind fun l6 =>
 loop (laws_toOutMoveS_K0_S1 a1) (l6,0)

def laws_toOutMoveSS_K0_J1 (out15:List (List OutMove)):Option (List (List OutMove)) :=
 some out15
def laws_toOutMoveSS_K0_S1 (a1:List (List OutMove)):((List (List OutMove)) × Int)→Option (((List (List OutMove)) × Int) ⊕ (List (List OutMove))):=fun (out22,i24) =>
 if (decide ((i24:Int)<(a1.length:Int)))=true then
  ((ix a1 i24).bind fun x30 =>
  (laws_toOutMoveS_K0 x30).bind fun y39 =>
  (ix out22 i24).bind fun x59 =>
  some (.inl ((out22.set (Int.toNat i24) y39),IntKind.wrap .i64 (i24+1))))
 else
  ((laws_toOutMoveSS_K0_J1 out22).map Sum.inr)
def laws_toOutMoveSS_K0 (a1:List (List OutMove)):Option (List (List OutMove)) :=
 (mk (([]:List OutMove):List OutMove) (a1.length:Int)).bind fun l6 =>
 loop (laws_toOutMoveSS_K0_S1 a1) (l6,0)

def laws_toOutMoveSSS_K0_J1 (out15:List (List (List OutMove))):Option (List (List (List OutMove))) :=
 some out15
def laws_toOutMoveSSS_K0_S1 (a1:List (List (List OutMove))):((List (List (List OutMove))) × Int)→Option (((List (List (List OutMove))) × Int) ⊕ (List (List (List OutMove)))):=fun (out22,i24) =>
 if (decide ((i24:Int)<(a1.length:Int)))=true then
  ((ix a1 i24).bind fun x30 =>
  (laws_toOutMoveSS_K0 x30).bind fun y39 =>
  (ix out22 i24).bind fun x59 =>
  some (.inl ((out22.set (Int.toNat i24) y39),IntKind.wrap .i64 (i24+1))))
 else
  ((laws_toOutMoveSSS_K0_J1 out22).map Sum.inr)
def laws_toOutMoveSSS_K0 (a1:List (List (List OutMove))):Option (List (List (List OutMove))) :=
 (mk (([]:List (List OutMove)):List (List OutMove)) (a1.length:Int)).bind fun l6 =>
 loop (laws_toOutMoveSSS_K0_S1 a1) (l6,0)

def laws_toRewriter_K0 (a1:Rewriter):Option Rewriter :=
 (laws_toOutPushSS_K0 a1.Call).bind fun y27 =>
 (laws_toOutMoveSSS_K0 a1.Return).bind fun y50 =>
 (laws_toOutMoveSS_K0 a1.Inner).bind fun y73 =>
 some (⟨a1.Stack,a1.Start,y27,y50,y73⟩:Rewriter)

def laws_toBoolS_K0_J1 (out15:List Bool):Option (List Bool) :=
 some out15
def laws_toBoolS_K0_S1 (a1:List Bool):((List Bool) × Int)→Option (((List Bool) × Int) ⊕ (List Bool)):=fun (out21,i22) =>
 if (decide ((i22:Int)<(a1.length:Int)))=true then
  ((ix a1 i22).bind fun x28 =>
  (ix out21 i22).bind fun x35 =>
  some (.inl ((out21.set (Int.toNat i22) x28),IntKind.wrap .i64 (i22+1))))
 else
  ((laws_toBoolS_K0_J1 out21).map Sum.inr)
def laws_toBoolS_K0 (a1:List Bool):Option (List Bool) :=
 (mk (false:Bool) (a1.length:Int)).bind fun l6 =>
 loop (laws_toBoolS_K0_S1 a1) (l6,0)

def laws_toPush (a1:Push):Option Push :=
 some (⟨a1.To,a1.Put⟩:Push)

def laws_toPushS_K0_J1 (out15:List Push):Option (List Push) :=
 some out15
def laws_toPushS_K0_S1 (a1:List Push):((List Push) × Int)→Option (((List Push) × Int) ⊕ (List Push)):=fun (out21,i22) =>
 if (decide ((i22:Int)<(a1.length:Int)))=true then
  ((ix a1 i22).bind fun x28 =>
  (laws_toPush x28).bind fun y38 =>
  (ix out21 i22).bind fun x49 =>
  some (.inl ((out21.set (Int.toNat i22) y38),IntKind.wrap .i64 (i22+1))))
 else
  ((laws_toPushS_K0_J1 out21).map Sum.inr)
def laws_toPushS_K0 (a1:List Push):Option (List Push) :=
 (mk ((⟨0,0⟩:Push):Push) (a1.length:Int)).bind fun l6 =>
 loop (laws_toPushS_K0_S1 a1) (l6,0)

def laws_toPushSS_K0_J1 (out15:List (List Push)):Option (List (List Push)) :=
 some out15
def laws_toPushSS_K0_S1 (a1:List (List Push)):((List (List Push)) × Int)→Option (((List (List Push)) × Int) ⊕ (List (List Push))):=fun (out22,i24) =>
 if (decide ((i24:Int)<(a1.length:Int)))=true then
  ((ix a1 i24).bind fun x30 =>
  (laws_toPushS_K0 x30).bind fun y39 =>
  (ix out22 i24).bind fun x59 =>
  some (.inl ((out22.set (Int.toNat i24) y39),IntKind.wrap .i64 (i24+1))))
 else
  ((laws_toPushSS_K0_J1 out22).map Sum.inr)
def laws_toPushSS_K0 (a1:List (List Push)):Option (List (List Push)) :=
 (mk (([]:List Push):List Push) (a1.length:Int)).bind fun l6 =>
 loop (laws_toPushSS_K0_S1 a1) (l6,0)

def laws_toInt64S_K0_J1 (out15:List Int):Option (List Int) :=
 some out15
def laws_toInt64S_K0_S1 (a1:List Int):((List Int) × Int)→Option (((List Int) × Int) ⊕ (List Int)):=fun (out21,i22) =>
 if (decide ((i22:Int)<(a1.length:Int)))=true then
  ((ix a1 i22).bind fun x28 =>
  (ix out21 i22).bind fun x35 =>
  some (.inl ((out21.set (Int.toNat i22) x28),IntKind.wrap .i64 (i22+1))))
 else
  ((laws_toInt64S_K0_J1 out21).map Sum.inr)
def laws_toInt64S_K0 (a1:List Int):Option (List Int) :=
 (mk (0:Int) (a1.length:Int)).bind fun l6 =>
 loop (laws_toInt64S_K0_S1 a1) (l6,0)

def laws_toInt64SS_K0_J1 (out15:List (List Int)):Option (List (List Int)) :=
 some out15
def laws_toInt64SS_K0_S1 (a1:List (List Int)):((List (List Int)) × Int)→Option (((List (List Int)) × Int) ⊕ (List (List Int))):=fun (out22,i24) =>
 if (decide ((i24:Int)<(a1.length:Int)))=true then
  ((ix a1 i24).bind fun x30 =>
  (laws_toInt64S_K0 x30).bind fun y39 =>
  (ix out22 i24).bind fun x59 =>
  some (.inl ((out22.set (Int.toNat i24) y39),IntKind.wrap .i64 (i24+1))))
 else
  ((laws_toInt64SS_K0_J1 out22).map Sum.inr)
def laws_toInt64SS_K0 (a1:List (List Int)):Option (List (List Int)) :=
 (mk (([]:List Int):List Int) (a1.length:Int)).bind fun l6 =>
 loop (laws_toInt64SS_K0_S1 a1) (l6,0)

def laws_toInt64SSS_K0_J1 (out15:List (List (List Int))):Option (List (List (List Int))) :=
 some out15
def laws_toInt64SSS_K0_S1 (a1:List (List (List Int))):((List (List (List Int))) × Int)→Option (((List (List (List Int))) × Int) ⊕ (List (List (List Int)))):=fun (out22,i24) =>
 if (decide ((i24:Int)<(a1.length:Int)))=true then
  ((ix a1 i24).bind fun x30 =>
  (laws_toInt64SS_K0 x30).bind fun y39 =>
  (ix out22 i24).bind fun x59 =>
  some (.inl ((out22.set (Int.toNat i24) y39),IntKind.wrap .i64 (i24+1))))
 else
  ((laws_toInt64SSS_K0_J1 out22).map Sum.inr)
def laws_toInt64SSS_K0 (a1:List (List (List Int))):Option (List (List (List Int))) :=
 (mk (([]:List (List Int)):List (List Int)) (a1.length:Int)).bind fun l6 =>
 loop (laws_toInt64SSS_K0_S1 a1) (l6,0)

def laws_toChecker_K0 (a1:Checker):Option Checker :=
 (laws_toBoolS_K0 a1.Accept).bind fun y31 =>
 (laws_toPushSS_K0 a1.Call).bind fun y54 =>
 (laws_toInt64SSS_K0 a1.Return).bind fun y77 =>
 (laws_toInt64SS_K0 a1.Inner).bind fun y100 =>
 some (⟨a1.Stack,a1.Start,y31,y54,y77,y100⟩:Checker)

def spec_l00In (n1 low2 high3:Int):Option Bool :=
 some ((decide ((n1:Int)≥low2))&&(decide ((n1:Int)≤high3)))

def spec_l01Symbol_J1:Option Int :=
 some (-1)
def spec_l01Symbol_S1 (b1:Int):Int→Option (Int ⊕ Int):=fun k3 =>
 if (decide ((k3:Int)<6))=true then
  ((chr ([40,91,41,93,97,98]:List UInt8) k3).bind fun c5 =>
  if (c5 == b1)=true then
   some (.inr (k3))
  else
   some (.inl (IntKind.wrap .i64 (k3+1))))
 else
  ((spec_l01Symbol_J1).map Sum.inr)
def spec_l01Symbol (b1:Int):Option Int :=
 loop (spec_l01Symbol_S1 b1) (0)

def spec_l01Ok_J1 (w1:List UInt8):Option Bool :=
 some (decide (((w1.length:Int):Int)≤60))
def spec_l01Ok_S1 (w1:List UInt8):Int→Option (Int ⊕ Bool):=fun i3 =>
 if (decide ((i3:Int)<(w1.length:Int)))=true then
  ((chr w1 i3).bind fun c5 =>
  (spec_l01Symbol c5).bind fun y7 =>
  if (decide ((y7:Int)<0))=true then
   some (.inr (false))
  else
   some (.inl (IntKind.wrap .i64 (i3+1))))
 else
  ((spec_l01Ok_J1 w1).map Sum.inr)
def spec_l01Ok (w1:List UInt8):Option Bool :=
 loop (spec_l01Ok_S1 w1) (0)

def spec_l06Out (p0_1:List UInt8):Option Bool :=
 (if (decide (((p0_1.length:Int):Int)≤4))=true then
   ((spec_l01Ok p0_1).bind fun y4 =>
   some y4)
  else
   some false).bind fun b3 =>
 some b3

def spec_l06Moves_J1 (list1:List OutMove) (length6:Int):Option Bool :=
 some ((list1.length:Int) == length6)
def spec_l06Moves_S1 (list1:List OutMove) (length6 n7:Int):Int→Option (Int ⊕ Bool):=fun i9 =>
 if (decide ((i9:Int)<(list1.length:Int)))=true then
  ((ix list1 i9).bind fun x11 =>
  (spec_l00In x11.To 0 (IntKind.wrap .i64 (n7 - 1))).bind fun y21 =>
  (if (!y21)=true then
    some true
   else
    ((ix list1 i9).bind fun x27 =>
    (spec_l06Out x27.Out).bind fun y37 =>
    some (!y37))).bind fun b26 =>
  if b26=true then
   some (.inr (false))
  else
   some (.inl (IntKind.wrap .i64 (i9+1))))
 else
  ((spec_l06Moves_J1 list1 length6).map Sum.inr)
def spec_l06Moves (list1:List OutMove) (length6 n7:Int):Option Bool :=
 loop (spec_l06Moves_S1 list1 length6 n7) (0)

def spec_l06Ok_J1:Option Bool :=
 some true
def spec_l06Ok_J2 (t34:Int):Option (Int ⊕ Bool) :=
 some (.inl (IntKind.wrap .i64 (t34+1)))
def spec_l06Ok_S2 (p1:Rewriter) (t34:Int):Int→Option (Int ⊕ (Int ⊕ Bool)):=fun t73 =>
 if (decide ((t73:Int)<2))=true then
  ((ix p1.Call t34).bind fun x75 =>
  (ix x75 t73).bind fun x84 =>
  (spec_l00In x84.To 0 (IntKind.wrap .i64 ((p1.Call.length:Int) - 1))).bind fun y96 =>
  (if (!y96)=true then
    some true
   else
    ((spec_l00In x84.Put 0 (IntKind.wrap .i64 (p1.Stack - 1))).bind fun y102 =>
    some (!y102))).bind fun b101 =>
  (if b101=true then
    some true
   else
    ((spec_l06Out x84.Out).bind fun y108 =>
    some (!y108))).bind fun b107 =>
  (if b107=true then
    some true
   else
    ((ix p1.Return t34).bind fun x114 =>
    (ix x114 t73).bind fun x123 =>
    (spec_l06Moves x123 (IntKind.wrap .i64 (p1.Stack+1)) (p1.Call.length:Int)).bind fun y132 =>
    some (!y132))).bind fun b113 =>
  if b113=true then
   some (.inr (.inr (false)))
  else
   some (.inl (IntKind.wrap .i64 (t73+1))))
 else
  ((spec_l06Ok_J2 t34).map Sum.inr)
def spec_l06Ok_S1 (p1:Rewriter):Int→Option (Int ⊕ Bool):=fun t34 =>
 if (decide ((t34:Int)<(p1.Call.length:Int)))=true then
  ((ix p1.Call t34).bind fun x36 =>
  (if ((x36.length:Int) != 2)=true then
    some true
   else
    ((ix p1.Return t34).bind fun x47 =>
    some ((x47.length:Int) != 2))).bind fun b46 =>
  (if b46=true then
    some true
   else
    ((ix p1.Inner t34).bind fun x58 =>
    (spec_l06Moves x58 2 (p1.Call.length:Int)).bind fun y67 =>
    some (!y67))).bind fun b57 =>
  if b57=true then
   some (.inr (false))
  else
   loop (spec_l06Ok_S2 p1 t34) (0))
 else
  ((spec_l06Ok_J1).map Sum.inr)
def spec_l06Ok (p1:Rewriter):Option Bool :=
 (spec_l00In (p1.Call.length:Int) 1 8).bind fun y14 =>
 (if (!y14)=true then
   some true
  else
   ((spec_l00In p1.Stack 1 8).bind fun y20 =>
   some (!y20))).bind fun b19 =>
 (if b19=true then
   some true
  else
   ((spec_l00In p1.Start 0 (IntKind.wrap .i64 ((p1.Call.length:Int) - 1))).bind fun y26 =>
   some (!y26))).bind fun b25 =>
 if ((b25||((p1.Return.length:Int) != (p1.Call.length:Int)))||((p1.Inner.length:Int) != (p1.Call.length:Int)))=true then
  some false
 else
  loop (spec_l06Ok_S1 p1) (0)

def spec_l02List_J1:Option Bool :=
 some true
def spec_l02List_S1 (list1:List Int) (n7:Int):Int→Option (Int ⊕ Bool):=fun i10 =>
 if (decide ((i10:Int)<(list1.length:Int)))=true then
  ((ix list1 i10).bind fun x12 =>
  (spec_l00In x12 0 (IntKind.wrap .i64 (n7 - 1))).bind fun y17 =>
  if (!y17)=true then
   some (.inr (false))
  else
   some (.inl (IntKind.wrap .i64 (i10+1))))
 else
  ((spec_l02List_J1).map Sum.inr)
def spec_l02List (list1:List Int) (length6 n7:Int):Option Bool :=
 if ((list1.length:Int) != length6)=true then
  some false
 else
  loop (spec_l02List_S1 list1 n7) (0)

def spec_l02Ok_J1:Option Bool :=
 some true
def spec_l02Ok_J2 (t39:Int):Option (Int ⊕ Bool) :=
 some (.inl (IntKind.wrap .i64 (t39+1)))
def spec_l02Ok_S2 (p1:Checker) (t39:Int):Int→Option (Int ⊕ (Int ⊕ Bool)):=fun t78 =>
 if (decide ((t78:Int)<2))=true then
  ((ix p1.Call t39).bind fun x80 =>
  (ix x80 t78).bind fun x89 =>
  (spec_l00In x89.To 0 (IntKind.wrap .i64 ((p1.Accept.length:Int) - 1))).bind fun y99 =>
  (if (!y99)=true then
    some true
   else
    ((ix p1.Call t39).bind fun x105 =>
    (ix x105 t78).bind fun x114 =>
    (spec_l00In x114.Put 0 (IntKind.wrap .i64 (p1.Stack - 1))).bind fun y124 =>
    some (!y124))).bind fun b104 =>
  (if b104=true then
    some true
   else
    ((ix p1.Return t39).bind fun x130 =>
    (ix x130 t78).bind fun x139 =>
    (spec_l02List x139 (IntKind.wrap .i64 (p1.Stack+1)) (p1.Accept.length:Int)).bind fun y148 =>
    some (!y148))).bind fun b129 =>
  if b129=true then
   some (.inr (.inr (false)))
  else
   some (.inl (IntKind.wrap .i64 (t78+1))))
 else
  ((spec_l02Ok_J2 t39).map Sum.inr)
def spec_l02Ok_S1 (p1:Checker):Int→Option (Int ⊕ Bool):=fun t39 =>
 if (decide ((t39:Int)<(p1.Accept.length:Int)))=true then
  ((ix p1.Call t39).bind fun x41 =>
  (if ((x41.length:Int) != 2)=true then
    some true
   else
    ((ix p1.Return t39).bind fun x52 =>
    some ((x52.length:Int) != 2))).bind fun b51 =>
  (if b51=true then
    some true
   else
    ((ix p1.Inner t39).bind fun x63 =>
    (spec_l02List x63 2 (p1.Accept.length:Int)).bind fun y72 =>
    some (!y72))).bind fun b62 =>
  if b62=true then
   some (.inr (false))
  else
   loop (spec_l02Ok_S2 p1 t39) (0))
 else
  ((spec_l02Ok_J1).map Sum.inr)
def spec_l02Ok (p1:Checker):Option Bool :=
 (spec_l00In (p1.Accept.length:Int) 1 40).bind fun y18 =>
 (if (!y18)=true then
   some true
  else
   ((spec_l00In p1.Stack 1 80).bind fun y24 =>
   some (!y24))).bind fun b23 =>
 (if b23=true then
   some true
  else
   ((spec_l00In p1.Start 0 (IntKind.wrap .i64 ((p1.Accept.length:Int) - 1))).bind fun y30 =>
   some (!y30))).bind fun b29 =>
 if (((b29||((p1.Call.length:Int) != (p1.Accept.length:Int)))||((p1.Return.length:Int) != (p1.Accept.length:Int)))||((p1.Inner.length:Int) != (p1.Accept.length:Int)))=true then
  some false
 else
  loop (spec_l02Ok_S1 p1) (0)

def spec_l01Call (b1:Int):Option Bool :=
 some ((b1 == 40)||(b1 == 91))

def spec_l01Return (b1:Int):Option Bool :=
 some ((b1 == 41)||(b1 == 93))

def spec_l01Partners_J1 (t2:List Int):Option (List Int) :=
 some t2
def spec_l01Partners_J2 (t17:Int) (t27 t33:List Int):Option (((List Int) × (List Int) × Int) ⊕ (List Int)) :=
 some (.inl (t27,t33,IntKind.wrap .i64 (t17+1)))
def spec_l01Partners_S1 (p1:List UInt8):((List Int) × (List Int) × Int)→Option (((List Int) × (List Int) × Int) ⊕ (List Int)):=fun (t9,t13,t17) =>
 if (decide ((t17:Int)<(p1.length:Int)))=true then
  ((chr p1 t17).bind fun c21 =>
  (spec_l01Call c21).bind fun y23 =>
  if y23=true then
   ((app t9 ([(-2)]:List Int)).bind fun l41 =>
   (app t13 ([t17]:List Int)).bind fun l49 =>
   spec_l01Partners_J2 t17 l41 l49)
  else
   ((chr p1 t17).bind fun c57 =>
   (spec_l01Return c57).bind fun y59 =>
   if (y59&&(decide (((t13.length:Int):Int)>0)))=true then
    ((ix t13 (IntKind.wrap .i64 ((t13.length:Int) - 1))).bind fun x65 =>
    (cut t13 0 (IntKind.wrap .i64 ((t13.length:Int) - 1))).bind fun l77 =>
    (ix t9 x65).bind fun x81 =>
    (app (t9.set (Int.toNat x65) t17) ([x65]:List Int)).bind fun l93 =>
    spec_l01Partners_J2 t17 l93 l77)
   else
    ((chr p1 t17).bind fun c101 =>
    (spec_l01Return c101).bind fun y103 =>
    if y103=true then
     ((app t9 ([(-2)]:List Int)).bind fun l108 =>
     spec_l01Partners_J2 t17 l108 t13)
    else
     ((app t9 ([(-1)]:List Int)).bind fun l116 =>
     spec_l01Partners_J2 t17 l116 t13))))
 else
  ((spec_l01Partners_J1 t9).map Sum.inr)
def spec_l01Partners (p1:List UInt8):Option (List Int) :=
 loop (spec_l01Partners_S1 p1) (([]:List Int),([]:List Int),0)

def spec_l01Pending_J1 (returns10 calls11:Int):Option (Int × Int) :=
 some (returns10,calls11)
def spec_l01Pending_J3 (i15 returns30 calls45:Int):Option ((Int × Int × Int) ⊕ (Int × Int)) :=
 some (.inl (returns30,calls45,IntKind.wrap .i64 (i15+1)))
def spec_l01Pending_J2 (w1:List UInt8) (y2:(List Int)) (calls14 i15 returns30:Int):Option ((Int × Int × Int) ⊕ (Int × Int)) :=
 (ix y2 i15).bind fun x32 =>
 (if (x32 == (-2))=true then
   ((chr w1 i15).bind fun c39 =>
   (spec_l01Call c39).bind fun y41 =>
   some y41)
  else
   some false).bind fun b38 =>
 if b38=true then
  spec_l01Pending_J3 i15 returns30 (IntKind.wrap .i64 (calls14+1))
 else
  spec_l01Pending_J3 i15 returns30 calls14
def spec_l01Pending_S1 (w1:List UInt8) (y2:(List Int)):(Int × Int × Int)→Option ((Int × Int × Int) ⊕ (Int × Int)):=fun (returns13,calls14,i15) =>
 if (decide ((i15:Int)<(w1.length:Int)))=true then
  ((ix y2 i15).bind fun x17 =>
  (if (x17 == (-2))=true then
    ((chr w1 i15).bind fun c24 =>
    (spec_l01Return c24).bind fun y26 =>
    some y26)
   else
    some false).bind fun b23 =>
  if b23=true then
   spec_l01Pending_J2 w1 y2 calls14 i15 (IntKind.wrap .i64 (returns13+1))
  else
   spec_l01Pending_J2 w1 y2 calls14 i15 returns13)
 else
  ((spec_l01Pending_J1 returns13 calls14).map Sum.inr)
def spec_l01Pending (w1:List UInt8):Option (Int × Int) :=
 (spec_l01Partners w1).bind fun y2 =>
 loop (spec_l01Pending_S1 w1 y2) (0,0,0)

def spec_l06Has (p0_1:List UInt8) (returns2 calls3:Int):Option Bool :=
 (spec_l01Pending p0_1).bind fun y4 =>
 some ((y4.1 == returns2)&&(y4.2 == calls3))

def spec_l06Structural_J1:Option Bool :=
 some true
def spec_l06Structural_J2 (t15:Int):Option (Int ⊕ Bool) :=
 some (.inl (IntKind.wrap .i64 (t15+1)))
def spec_l06Structural_J3 (t18:Int):Option (Int ⊕ (Int ⊕ Bool)) :=
 some (.inl (IntKind.wrap .i64 (t18+1)))
def spec_l06Structural_S3 (p1:Rewriter) (t15 t18:Int):Int→Option (Int ⊕ (Int ⊕ (Int ⊕ Bool))):=fun t72 =>
 (ix p1.Return t15).bind fun x73 =>
 (ix x73 t18).bind fun x82 =>
 if (decide ((t72:Int)<(x82.length:Int)))=true then
  ((ix p1.Return t15).bind fun x92 =>
  (ix x92 t18).bind fun x101 =>
  (ix x101 t72).bind fun x110 =>
  (spec_l06Has x110.Out 1 0).bind fun y120 =>
  if (!y120)=true then
   some (.inr (.inr (.inr (false))))
  else
   some (.inl (IntKind.wrap .i64 (t72+1))))
 else
  ((spec_l06Structural_J3 t18).map Sum.inr)
def spec_l06Structural_S2 (p1:Rewriter) (t15:Int):Int→Option (Int ⊕ (Int ⊕ Bool)):=fun t18 =>
 if (decide ((t18:Int)<2))=true then
  ((ix p1.Call t15).bind fun x20 =>
  (ix x20 t18).bind fun x29 =>
  (spec_l06Has x29.Out 0 1).bind fun y41 =>
  (if (!y41)=true then
    some true
   else
    ((ix p1.Inner t15).bind fun x47 =>
    (ix x47 t18).bind fun x56 =>
    (spec_l06Has x56.Out 0 0).bind fun y66 =>
    some (!y66))).bind fun b46 =>
  if b46=true then
   some (.inr (.inr (false)))
  else
   loop (spec_l06Structural_S3 p1 t15 t18) (0))
 else
  ((spec_l06Structural_J2 t15).map Sum.inr)
def spec_l06Structural_S1 (p1:Rewriter):Int→Option (Int ⊕ Bool):=fun t15 =>
 if (decide ((t15:Int)<(p1.Call.length:Int)))=true then
  loop (spec_l06Structural_S2 p1 t15) (0)
 else
  ((spec_l06Structural_J1).map Sum.inr)
def spec_l06Structural (p1:Rewriter):Option Bool :=
 loop (spec_l06Structural_S1 p1) (0)

def spec_l00Own (list1:List Int):Option (List Int) :=
 (app ([]:List Int) list1).bind fun l6 =>
 some l6

def spec_l02Step (p1:Checker) (p1_18:Int) (p2_19:List Int) (p3_24:Int):Option (Int × (List Int)) :=
 (spec_l01Symbol p3_24).bind fun y25 =>
 if (decide ((y25:Int)<2))=true then
  ((ix p1.Call p1_18).bind fun x30 =>
  (ix x30 y25).bind fun x39 =>
  (spec_l00Own p2_19).bind fun y49 =>
  (app y49 ([x39.Put]:List Int)).bind fun l57 =>
  some (x39.To,l57))
 else
  (if ((decide ((y25:Int)<4))&&((p2_19.length:Int) == 0))=true then
   ((ix p1.Return p1_18).bind fun x63 =>
   (ix x63 (IntKind.wrap .i64 (y25 - 2))).bind fun x72 =>
   (ix x72 p1.Stack).bind fun x81 =>
   some (x81,([]:List Int)))
  else
   (if (decide ((y25:Int)<4))=true then
    ((ix p1.Return p1_18).bind fun x87 =>
    (ix x87 (IntKind.wrap .i64 (y25 - 2))).bind fun x96 =>
    (ix p2_19 (IntKind.wrap .i64 ((p2_19.length:Int) - 1))).bind fun x105 =>
    (ix x96 x105).bind fun x110 =>
    (cut p2_19 0 (IntKind.wrap .i64 ((p2_19.length:Int) - 1))).bind fun l115 =>
    (spec_l00Own l115).bind fun y121 =>
    some (x110,y121))
   else
    ((ix p1.Inner p1_18).bind fun x129 =>
    (ix x129 (IntKind.wrap .i64 (y25 - 4))).bind fun x138 =>
    some (x138,p2_19))))

def spec_l02Go_J1 (state25:Int) (stack26:List Int):Option (Int × (List Int)) :=
 some (state25,stack26)
def spec_l02Go_S1 (c1:Checker) (w24:List UInt8):(Int × (List Int) × Int)→Option ((Int × (List Int) × Int) ⊕ (Int × (List Int))):=fun (state32,stack33,i38) =>
 if (decide ((i38:Int)<(w24.length:Int)))=true then
  ((chr w24 i38).bind fun c40 =>
  (spec_l02Step c1 state32 stack33 c40).bind fun y42 =>
  some (.inl (y42.1,y42.2,IntKind.wrap .i64 (i38+1))))
 else
  ((spec_l02Go_J1 state32 stack33).map Sum.inr)
def spec_l02Go (c1:Checker) (state18:Int) (stack19:List Int) (w24:List UInt8):Option (Int × (List Int)) :=
 loop (spec_l02Go_S1 c1 w24) (state18,stack19,0)

def spec_PreimageChecker_J1 (p1:Rewriter) (p1_14:Checker) (m76:List Bool) (m80:List (List Push)) (m84:List (List (List Int))) (m88:List (List Int)):Option (Checker × Int) :=
 some ((⟨IntKind.wrap .i64 (p1.Stack*p1_14.Stack),IntKind.wrap .i64 ((IntKind.wrap .i64 (p1.Start*(p1_14.Accept.length:Int)))+p1_14.Start),m76,m80,m84,m88⟩:Checker),0)
def spec_PreimageChecker_J2 (m107:List (List Push)) (m111:List (List (List Int))) (m115:List (List Int)) (t119:Int) (l134:List Bool) (t148:List Push) (t152:List Int) (t156:List (List Int)):Option (((List Bool) × (List (List Push)) × (List (List (List Int))) × (List (List Int)) × Int) ⊕ (Checker × Int)) :=
 (app m107 [t148]).bind fun l165 =>
 (app m115 [t152]).bind fun l179 =>
 (app m111 [t156]).bind fun l193 =>
 some (.inl (l134,l165,l193,l179,IntKind.wrap .i64 (t119+1)))
def spec_PreimageChecker_J3 (t218:List (List Int)) (t222:Int) (l267:List Push) (l308 t317:List Int):Option (((List Push) × (List Int) × (List (List Int)) × Int) ⊕ (((List Bool) × (List (List Push)) × (List (List (List Int))) × (List (List Int)) × Int) ⊕ (Checker × Int))) :=
 (app t218 [t317]).bind fun l326 =>
 some (.inl (l267,l308,l326,IntKind.wrap .i64 (t222+1)))
def spec_PreimageChecker_J4 (p1:Rewriter) (p1_14:Checker) (q125 q127 t222:Int) (t338:List Int) (t342:Int) (t348:List Int):Option (((List Int) × Int) ⊕ (((List Push) × (List Int) × (List (List Int)) × Int) ⊕ (((List Bool) × (List (List Push)) × (List (List (List Int))) × (List (List Int)) × Int) ⊕ (Checker × Int)))) :=
 (ix p1.Return q125).bind fun x360 =>
 (ix x360 t222).bind fun x369 =>
 (quoI .i64 t342 p1_14.Stack).bind fun q378 =>
 (ix x369 q378).bind fun x380 =>
 (spec_l02Go p1_14 q127 t348 x380.Out).bind fun y390 =>
 (app t338 ([IntKind.wrap .i64 ((IntKind.wrap .i64 (x380.To*(p1_14.Accept.length:Int)))+y390.1)]:List Int)).bind fun l403 =>
 some (.inl (l403,IntKind.wrap .i64 (t342+1)))
def spec_PreimageChecker_S3 (p1:Rewriter) (p1_14:Checker) (q125 q127:Int) (t218:List (List Int)) (t222:Int) (l267:List Push) (l308:List Int):((List Int) × Int)→Option (((List Int) × Int) ⊕ (((List Push) × (List Int) × (List (List Int)) × Int) ⊕ (((List Bool) × (List (List Push)) × (List (List (List Int))) × (List (List Int)) × Int) ⊕ (Checker × Int)))):=fun (t338,t342) =>
 if (decide ((t342:Int)≤(IntKind.wrap .i64 (p1.Stack*p1_14.Stack))))=true then
  (if (decide ((t342:Int)<(IntKind.wrap .i64 (p1.Stack*p1_14.Stack))))=true then
   ((remI .i64 t342 p1_14.Stack).bind fun q413 =>
   (app ([]:List Int) ([q413]:List Int)).bind fun l415 =>
   spec_PreimageChecker_J4 p1 p1_14 q125 q127 t222 t338 t342 l415)
  else
   spec_PreimageChecker_J4 p1 p1_14 q125 q127 t222 t338 t342 ([]:List Int))
 else
  ((spec_PreimageChecker_J3 t218 t222 l267 l308 t338).map Sum.inr)
def spec_PreimageChecker_S2 (p1:Rewriter) (p1_14:Checker) (m107:List (List Push)) (m111:List (List (List Int))) (m115:List (List Int)) (t119:Int) (q125:Int) (q127:Int) (l134:List Bool):((List Push) × (List Int) × (List (List Int)) × Int)→Option (((List Push) × (List Int) × (List (List Int)) × Int) ⊕ (((List Bool) × (List (List Push)) × (List (List (List Int))) × (List (List Int)) × Int) ⊕ (Checker × Int))):=fun (t210,t214,t218,t222) =>
 if (decide ((t222:Int)<2))=true then
  ((ix p1.Call q125).bind fun x228 =>
  (ix x228 t222).bind fun x237 =>
  (spec_l02Go p1_14 q127 ([]:List Int) x237.Out).bind fun y249 =>
  (ix y249.2 0).bind fun x262 =>
  (app t210 ([(⟨IntKind.wrap .i64 ((IntKind.wrap .i64 (x237.To*(p1_14.Accept.length:Int)))+y249.1),IntKind.wrap .i64 ((IntKind.wrap .i64 (x237.Put*p1_14.Stack))+x262)⟩:Push)]:List Push)).bind fun l267 =>
  (ix p1.Inner q125).bind fun x276 =>
  (ix x276 t222).bind fun x285 =>
  (spec_l02Go p1_14 q127 ([]:List Int) x285.Out).bind fun y295 =>
  (app t214 ([IntKind.wrap .i64 ((IntKind.wrap .i64 (x285.To*(p1_14.Accept.length:Int)))+y295.1)]:List Int)).bind fun l308 =>
  loop (spec_PreimageChecker_S3 p1 p1_14 q125 q127 t218 t222 l267 l308) (([]:List Int),0))
 else
  ((spec_PreimageChecker_J2 m107 m111 m115 t119 l134 t210 t214 t218).map Sum.inr)
def spec_PreimageChecker_S1 (p1:Rewriter) (p1_14:Checker):((List Bool) × (List (List Push)) × (List (List (List Int))) × (List (List Int)) × Int)→Option (((List Bool) × (List (List Push)) × (List (List (List Int))) × (List (List Int)) × Int) ⊕ (Checker × Int)):=fun (m103,m107,m111,m115,t119) =>
 if (decide ((t119:Int)<(IntKind.wrap .i64 ((p1.Call.length:Int)*(p1_14.Accept.length:Int)))))=true then
  ((quoI .i64 t119 (p1_14.Accept.length:Int)).bind fun q125 =>
  (remI .i64 t119 (p1_14.Accept.length:Int)).bind fun q127 =>
  (ix p1_14.Accept q127).bind fun x129 =>
  (app m103 ([x129]:List Bool)).bind fun l134 =>
  loop (spec_PreimageChecker_S2 p1 p1_14 m107 m111 m115 t119 q125 q127 l134) (([]:List Push),([]:List Int),([]:List (List Int)),0))
 else
  ((spec_PreimageChecker_J1 p1 p1_14 m103 m107 m111 m115).map Sum.inr)
def spec_PreimageChecker (p1:Rewriter) (p1_14:Checker):Option (Checker × Int) :=
 (spec_l06Ok p1).bind fun y34 =>
 (if (!y34)=true then
   some true
  else
   ((spec_l02Ok p1_14).bind fun y40 =>
   some (!y40))).bind fun b39 =>
 if b39=true then
  some ((⟨0,0,([]:List Bool),([]:List (List Push)),([]:List (List (List Int))),([]:List (List Int))⟩:Checker),1)
 else
  ((spec_l06Structural p1).bind fun y50 =>
  if (!y50)=true then
   some ((⟨0,0,([]:List Bool),([]:List (List Push)),([]:List (List (List Int))),([]:List (List Int))⟩:Checker),4)
  else
   (if ((decide ((IntKind.wrap .i64 ((p1.Call.length:Int)*(p1_14.Accept.length:Int)):Int)>40))||(decide ((IntKind.wrap .i64 (p1.Stack*p1_14.Stack):Int)>80)))=true then
    some ((⟨0,0,([]:List Bool),([]:List (List Push)),([]:List (List (List Int))),([]:List (List Int))⟩:Checker),3)
   else
    loop (spec_PreimageChecker_S1 p1 p1_14) (([]:List Bool),([]:List (List Push)),([]:List (List (List Int))),([]:List (List Int)),0)))

def impl_size_bool (list1:List Bool):Option Int :=
 some (list1.length:Int)

def impl_size_simpl_OutPush (list1:List (List OutPush)):Option Int :=
 some (list1.length:Int)

def impl_within (n1 low2 high3:Int):Option Bool :=
 some ((decide ((n1:Int)≥low2))&&(decide ((n1:Int)≤high3)))

def internal_stringslite_IndexByte (s1:List UInt8) (c2:Int):Option Int :=
 (ixByteM s1 c2).bind fun y3 =>
 some y3

def strings_IndexByte (s1:List UInt8) (c2:Int):Option Int :=
 (internal_stringslite_IndexByte s1 c2).bind fun y3 =>
 some y3

def impl_ValidWord_J1 (w1:List UInt8):Option Bool :=
 some (decide (((w1.length:Int):Int)≤60))
def impl_ValidWord_S1 (w1:List UInt8):Int→Option (Int ⊕ Bool):=fun t3 =>
 if (decide ((t3:Int)<(w1.length:Int)))=true then
  ((chr w1 t3).bind fun c5 =>
  (strings_IndexByte ([40,91,41,93,97,98]:List UInt8) c5).bind fun y7 =>
  if (decide ((y7:Int)<0))=true then
   some (.inr (false))
  else
   some (.inl (IntKind.wrap .i64 (t3+1))))
 else
  ((impl_ValidWord_J1 w1).map Sum.inr)
def impl_ValidWord (w1:List UInt8):Option Bool :=
 loop (impl_ValidWord_S1 w1) (0)

def impl_isOut (p0_1:List UInt8):Option Bool :=
 (impl_ValidWord p0_1).bind fun y2 =>
 some (y2&&(decide (((p0_1.length:Int):Int)≤4)))

def impl_ValidRewriter_1 (m1:OutMove) (c2:Int):Option Bool :=
 (impl_within m1.To 0 (IntKind.wrap .i64 (c2 - 1))).bind fun y3 =>
 (if y3=true then
   ((impl_isOut m1.Out).bind fun y9 =>
   some y9)
  else
   some false).bind fun b8 =>
 some b8

def impl_size_s_impl_OutMove (list1:List (List (List OutMove))):Option Int :=
 some (list1.length:Int)

def impl_size_simpl_OutMove (list1:List (List OutMove)):Option Int :=
 some (list1.length:Int)

def impl_size_impl_OutMove (list1:List OutMove):Option Int :=
 some (list1.length:Int)

def slices_IndexFunc_simpl_OutMove_impl_OutMove_J1:Option Int :=
 some (-1)
def slices_IndexFunc_simpl_OutMove_impl_OutMove_S1 (s1:List OutMove) (f6:OutMove→Option Bool):Int→Option (Int ⊕ Int):=fun t11 =>
 if (decide ((t11:Int)<(s1.length:Int)))=true then
  ((ix s1 t11).bind fun x13 =>
  (f6 x13).bind fun y23 =>
  if y23=true then
   some (.inr (t11))
  else
   some (.inl (IntKind.wrap .i64 (t11+1))))
 else
  ((slices_IndexFunc_simpl_OutMove_impl_OutMove_J1).map Sum.inr)
def slices_IndexFunc_simpl_OutMove_impl_OutMove (s1:List OutMove) (f6:OutMove→Option Bool):Option Int :=
 loop (slices_IndexFunc_simpl_OutMove_impl_OutMove_S1 s1 f6) (0)

def slices_ContainsFunc_simpl_OutMove_impl_OutMove (s1:List OutMove) (f6:OutMove→Option Bool):Option Bool :=
 (slices_IndexFunc_simpl_OutMove_impl_OutMove s1 f6).bind fun y10 =>
 some (decide ((y10:Int)≥0))

def impl_ValidRewriter_2_1 (m1:OutMove) (c2:OutMove→Option Bool):Option Bool :=
 (c2 m1).bind fun y6 =>
 some (!y6)

def impl_ValidRewriter_2 (list1:List OutMove) (many6:Int) (c7:OutMove→Option Bool):Option Bool :=
 (impl_size_impl_OutMove list1).bind fun y11 =>
 (if (y11 == many6)=true then
   ((slices_ContainsFunc_simpl_OutMove_impl_OutMove list1 (fun x=>impl_ValidRewriter_2_1 x c7)).bind fun y22 =>
   some (!y22))
  else
   some false).bind fun b16 =>
 some b16

def impl_ValidRewriter_J1:Option Bool :=
 some true
def impl_ValidRewriter_J2 (t48:Int):Option (Int ⊕ Bool) :=
 some (.inl (IntKind.wrap .i64 (t48+1)))
def impl_ValidRewriter_S2 (p1:Rewriter) (y14 t48:Int):Int→Option (Int ⊕ (Int ⊕ Bool)):=fun t92 =>
 if (decide ((t92:Int)<2))=true then
  ((ix p1.Call t48).bind fun x94 =>
  (ix x94 t92).bind fun x103 =>
  (impl_ValidRewriter_1 (⟨x103.To,x103.Out⟩:OutMove) y14).bind fun y115 =>
  (if (!y115)=true then
    some true
   else
    ((impl_within x103.Put 0 (IntKind.wrap .i64 (p1.Stack - 1))).bind fun y121 =>
    some (!y121))).bind fun b120 =>
  (if b120=true then
    some true
   else
    ((ix p1.Return t48).bind fun x127 =>
    (ix x127 t92).bind fun x136 =>
    (impl_ValidRewriter_2 x136 (IntKind.wrap .i64 (p1.Stack+1)) (fun x=>impl_ValidRewriter_1 x y14)).bind fun y150 =>
    some (!y150))).bind fun b126 =>
  if b126=true then
   some (.inr (.inr (false)))
  else
   some (.inl (IntKind.wrap .i64 (t92+1))))
 else
  ((impl_ValidRewriter_J2 t48).map Sum.inr)
def impl_ValidRewriter_S1 (p1:Rewriter) (y14:Int):Int→Option (Int ⊕ Bool):=fun t48 =>
 if (decide ((t48:Int)<y14))=true then
  ((ix p1.Call t48).bind fun x50 =>
  (if ((x50.length:Int) != 2)=true then
    some true
   else
    ((ix p1.Return t48).bind fun x61 =>
    some ((x61.length:Int) != 2))).bind fun b60 =>
  (if b60=true then
    some true
   else
    ((ix p1.Inner t48).bind fun x72 =>
    (impl_ValidRewriter_2 x72 2 (fun x=>impl_ValidRewriter_1 x y14)).bind fun y86 =>
    some (!y86))).bind fun b71 =>
  if b71=true then
   some (.inr (false))
  else
   loop (impl_ValidRewriter_S2 p1 y14 t48) (0))
 else
  ((impl_ValidRewriter_J1).map Sum.inr)
def impl_ValidRewriter (p1:Rewriter):Option Bool :=
 (impl_size_simpl_OutPush p1.Call).bind fun y14 =>
 (impl_within y14 1 8).bind fun y18 =>
 (if (!y18)=true then
   some true
  else
   ((impl_within p1.Stack 1 8).bind fun y24 =>
   some (!y24))).bind fun b23 =>
 (if b23=true then
   some true
  else
   ((impl_within p1.Start 0 (IntKind.wrap .i64 (y14 - 1))).bind fun y30 =>
   some (!y30))).bind fun b29 =>
 (if b29=true then
   some true
  else
   ((impl_size_s_impl_OutMove p1.Return).bind fun y36 =>
   some (y36 != y14))).bind fun b35 =>
 (if b35=true then
   some true
  else
   ((impl_size_simpl_OutMove p1.Inner).bind fun y42 =>
   some (y42 != y14))).bind fun b41 =>
 if b41=true then
  some false
 else
  loop (impl_ValidRewriter_S1 p1 y14) (0)

def impl_Checker_isState (c1:Checker) (s18:Int):Option Bool :=
 (impl_size_bool c1.Accept).bind fun y19 =>
 (impl_within s18 0 (IntKind.wrap .i64 (y19 - 1))).bind fun y23 =>
 some y23

def impl_size_simpl_Push (list1:List (List Push)):Option Int :=
 some (list1.length:Int)

def impl_size_s_int64 (list1:List (List (List Int))):Option Int :=
 some (list1.length:Int)

def impl_size_sint64 (list1:List (List Int)):Option Int :=
 some (list1.length:Int)

def impl_size_int64 (list1:List Int):Option Int :=
 some (list1.length:Int)

def slices_IndexFunc_sint64_int64_J1:Option Int :=
 some (-1)
def slices_IndexFunc_sint64_int64_S1 (s1:List Int) (f6:Int→Option Bool):Int→Option (Int ⊕ Int):=fun t11 =>
 if (decide ((t11:Int)<(s1.length:Int)))=true then
  ((ix s1 t11).bind fun x13 =>
  (f6 x13).bind fun y18 =>
  if y18=true then
   some (.inr (t11))
  else
   some (.inl (IntKind.wrap .i64 (t11+1))))
 else
  ((slices_IndexFunc_sint64_int64_J1).map Sum.inr)
def slices_IndexFunc_sint64_int64 (s1:List Int) (f6:Int→Option Bool):Option Int :=
 loop (slices_IndexFunc_sint64_int64_S1 s1 f6) (0)

def slices_ContainsFunc_sint64_int64 (s1:List Int) (f6:Int→Option Bool):Option Bool :=
 (slices_IndexFunc_sint64_int64 s1 f6).bind fun y10 =>
 some (decide ((y10:Int)≥0))

def impl_ValidChecker_1_1 (s1:Int) (c2:Checker):Option Bool :=
 (impl_Checker_isState c2 s1).bind fun y19 =>
 some (!y19)

def impl_ValidChecker_1 (list1:List Int) (many6:Int) (c7:Checker):Option Bool :=
 (impl_size_int64 list1).bind fun y24 =>
 (if (y24 == many6)=true then
   ((slices_ContainsFunc_sint64_int64 list1 (fun x=>impl_ValidChecker_1_1 x c7)).bind fun y30 =>
   some (!y30))
  else
   some false).bind fun b29 =>
 some b29

def impl_Checker_isMark (c1:Checker) (x18:Int):Option Bool :=
 (impl_within x18 0 (IntKind.wrap .i64 (c1.Stack - 1))).bind fun y19 =>
 some y19

def impl_ValidChecker_J1:Option Bool :=
 some true
def impl_ValidChecker_J2 (t58:Int):Option (Int ⊕ Bool) :=
 some (.inl (IntKind.wrap .i64 (t58+1)))
def impl_ValidChecker_S2 (p1:Checker) (t58:Int):Int→Option (Int ⊕ (Int ⊕ Bool)):=fun t97 =>
 if (decide ((t97:Int)<2))=true then
  ((ix p1.Call t58).bind fun x99 =>
  (ix x99 t97).bind fun x108 =>
  (impl_Checker_isState p1 x108.To).bind fun y118 =>
  (if (!y118)=true then
    some true
   else
    ((impl_Checker_isMark p1 x108.Put).bind fun y124 =>
    some (!y124))).bind fun b123 =>
  (if b123=true then
    some true
   else
    ((ix p1.Return t58).bind fun x130 =>
    (ix x130 t97).bind fun x139 =>
    (impl_ValidChecker_1 x139 (IntKind.wrap .i64 (p1.Stack+1)) p1).bind fun y148 =>
    some (!y148))).bind fun b129 =>
  if b129=true then
   some (.inr (.inr (false)))
  else
   some (.inl (IntKind.wrap .i64 (t97+1))))
 else
  ((impl_ValidChecker_J2 t58).map Sum.inr)
def impl_ValidChecker_S1 (p1:Checker) (y18:Int):Int→Option (Int ⊕ Bool):=fun t58 =>
 if (decide ((t58:Int)<y18))=true then
  ((ix p1.Call t58).bind fun x60 =>
  (if ((x60.length:Int) != 2)=true then
    some true
   else
    ((ix p1.Return t58).bind fun x71 =>
    some ((x71.length:Int) != 2))).bind fun b70 =>
  (if b70=true then
    some true
   else
    ((ix p1.Inner t58).bind fun x82 =>
    (impl_ValidChecker_1 x82 2 p1).bind fun y91 =>
    some (!y91))).bind fun b81 =>
  if b81=true then
   some (.inr (false))
  else
   loop (impl_ValidChecker_S2 p1 t58) (0))
 else
  ((impl_ValidChecker_J1).map Sum.inr)
def impl_ValidChecker (p1:Checker):Option Bool :=
 (impl_size_bool p1.Accept).bind fun y18 =>
 (impl_within y18 1 40).bind fun y22 =>
 (if (!y22)=true then
   some true
  else
   ((impl_within p1.Stack 1 80).bind fun y28 =>
   some (!y28))).bind fun b27 =>
 (if b27=true then
   some true
  else
   ((impl_Checker_isState p1 p1.Start).bind fun y34 =>
   some (!y34))).bind fun b33 =>
 (if b33=true then
   some true
  else
   ((impl_size_simpl_Push p1.Call).bind fun y40 =>
   some (y40 != y18))).bind fun b39 =>
 (if b39=true then
   some true
  else
   ((impl_size_s_int64 p1.Return).bind fun y46 =>
   some (y46 != y18))).bind fun b45 =>
 (if b45=true then
   some true
  else
   ((impl_size_sint64 p1.Inner).bind fun y52 =>
   some (y52 != y18))).bind fun b51 =>
 if b51=true then
  some false
 else
  loop (impl_ValidChecker_S1 p1 y18) (0)

def impl_isReturn (c1:Int):Option Bool :=
 some ((c1 == 41)||(c1 == 93))

def impl_isCall (c1:Int):Option Bool :=
 some ((c1 == 40)||(c1 == 91))

def impl_size_int64_d (list1:List Int):Option Int :=
 some (list1.length:Int)

def impl_match_J1 (m11 m15 m21 m25 m31:List Int):Option Matching :=
 some (⟨m11,m15,m21,m25,m31⟩:Matching)
def impl_match_J4 (m55 m61:List Int) (t67:Int) (m79 m83:List Int) (t102:Int) (m114:List Int) (t120:Int):Option (((List Int) × (List Int) × (List Int) × (List Int) × (List Int) × Int) ⊕ Matching) :=
 (app m79 ([t120]:List Int)).bind fun l124 =>
 (app m61 ([t102]:List Int)).bind fun l138 =>
 (impl_size_int64_d m114).bind fun y158 =>
 (app m55 ([y158]:List Int)).bind fun l162 =>
 some (.inl (l124,m83,m114,l162,l138,IntKind.wrap .i64 (t67+1)))
def impl_match_J3 (p1:List UInt8) (m55 m61:List Int) (t67:Int) (m79 m83 m89:List Int) (t95 t102:Int):Option (((List Int) × (List Int) × (List Int) × (List Int) × (List Int) × Int) ⊕ Matching) :=
 (chr p1 t67).bind fun c106 =>
 (impl_isCall c106).bind fun y108 =>
 if y108=true then
  ((app m89 ([t67]:List Int)).bind fun l172 =>
  impl_match_J4 m55 m61 t67 m79 m83 t102 l172 (-2))
 else
  impl_match_J4 m55 m61 t67 m79 m83 t102 m89 t95
def impl_match_J2 (p1:List UInt8) (m55 m61:List Int) (t67:Int) (m79 m83 m89:List Int) (t95:Int):Option (((List Int) × (List Int) × (List Int) × (List Int) × (List Int) × Int) ⊕ Matching) :=
 if (decide (((m89.length:Int):Int)>0))=true then
  ((ix m89 (IntKind.wrap .i64 ((m89.length:Int) - 1))).bind fun x186 =>
  impl_match_J3 p1 m55 m61 t67 m79 m83 m89 t95 x186)
 else
  impl_match_J3 p1 m55 m61 t67 m79 m83 m89 t95 (-1)
def impl_match_S1 (p1:List UInt8):((List Int) × (List Int) × (List Int) × (List Int) × (List Int) × Int)→Option (((List Int) × (List Int) × (List Int) × (List Int) × (List Int) × Int) ⊕ Matching):=fun (m41,m45,m51,m55,m61,t67) =>
 if (decide ((t67:Int)<(p1.length:Int)))=true then
  ((chr p1 t67).bind fun c71 =>
  (impl_isReturn c71).bind fun y73 =>
  if (y73&&((m51.length:Int) == 0))=true then
   ((app m45 ([t67]:List Int)).bind fun l205 =>
   impl_match_J2 p1 m55 m61 t67 m41 l205 m51 (-2))
  else
   ((chr p1 t67).bind fun c214 =>
   (impl_isReturn c214).bind fun y216 =>
   if y216=true then
    ((ix m51 (IntKind.wrap .i64 ((m51.length:Int) - 1))).bind fun x221 =>
    (ix m41 x221).bind fun x233 =>
    (cut m51 0 (IntKind.wrap .i64 ((m51.length:Int) - 1))).bind fun l245 =>
    impl_match_J2 p1 m55 m61 t67 (m41.set (Int.toNat x221) t67) m45 l245 x221)
   else
    impl_match_J2 p1 m55 m61 t67 m41 m45 m51 (-1)))
 else
  ((impl_match_J1 m41 m45 m51 m55 m61).map Sum.inr)
def impl_match (p1:List UInt8):Option Matching :=
 loop (impl_match_S1 p1) (([]:List Int),([]:List Int),([]:List Int),([0]:List Int),([]:List Int),0)

def impl_isPending (p0_1:List UInt8) (returns2 calls3:Int):Option Bool :=
 (impl_match p0_1).bind fun y4 =>
 some (((y4.returns.length:Int) == returns2)&&((y4.calls.length:Int) == calls3))

def impl_Rewriter_isStructural_1 (m1:OutMove):Option Bool :=
 (impl_isPending m1.Out 1 0).bind fun y2 =>
 some (!y2)

def impl_Rewriter_isStructural_J1:Option Bool :=
 some true
def impl_Rewriter_isStructural_J2 (t15:Int):Option (Int ⊕ Bool) :=
 some (.inl (IntKind.wrap .i64 (t15+1)))
def impl_Rewriter_isStructural_S2 (r1:Rewriter) (t15:Int):Int→Option (Int ⊕ (Int ⊕ Bool)):=fun t18 =>
 if (decide ((t18:Int)<2))=true then
  ((ix r1.Call t15).bind fun x20 =>
  (ix x20 t18).bind fun x29 =>
  (impl_isPending x29.Out 0 1).bind fun y41 =>
  (if (!y41)=true then
    some true
   else
    ((ix r1.Inner t15).bind fun x47 =>
    (ix x47 t18).bind fun x56 =>
    (impl_isPending x56.Out 0 0).bind fun y66 =>
    some (!y66))).bind fun b46 =>
  (if b46=true then
    some true
   else
    ((ix r1.Return t15).bind fun x72 =>
    (ix x72 t18).bind fun x81 =>
    (slices_ContainsFunc_simpl_OutMove_impl_OutMove x81 (fun x=>impl_Rewriter_isStructural_1 x)).bind fun y95 =>
    some y95)).bind fun b71 =>
  if b71=true then
   some (.inr (.inr (false)))
  else
   some (.inl (IntKind.wrap .i64 (t18+1))))
 else
  ((impl_Rewriter_isStructural_J2 t15).map Sum.inr)
def impl_Rewriter_isStructural_S1 (r1:Rewriter):Int→Option (Int ⊕ Bool):=fun t15 =>
 if (decide ((t15:Int)<(r1.Call.length:Int)))=true then
  loop (impl_Rewriter_isStructural_S2 r1 t15) (0)
 else
  ((impl_Rewriter_isStructural_J1).map Sum.inr)
def impl_Rewriter_isStructural (r1:Rewriter):Option Bool :=
 loop (impl_Rewriter_isStructural_S1 r1) (0)

def impl_built_K0000000_J1 (p1_2:Int) (p2_3:Int) (m29:List Bool) (m33:List (List Push)) (m37:List (List (List Int))) (m41:List (List Int)):Option Checker :=
 some (⟨p1_2,p2_3,m29,m33,m37,m41⟩:Checker)
def impl_built_K0000000_J2 (p3_4:Int→Option Bool) (m54:List Bool) (m58:List (List Push)) (m62:List (List (List Int))) (m66:List (List Int)) (t70:Int) (t76:List Push) (t80:List (List Int)) (t84:List Int):Option (((List Bool) × (List (List Push)) × (List (List (List Int))) × (List (List Int)) × Int) ⊕ Checker) :=
 (p3_4 t70).bind fun y93 =>
 (app m54 ([y93]:List Bool)).bind fun l97 =>
 (app m58 [t76]).bind fun l106 =>
 (app m62 [t80]).bind fun l115 =>
 (app m66 [t84]).bind fun l124 =>
 some (.inl (l97,l106,l115,l124,IntKind.wrap .i64 (t70+1)))
def impl_built_K0000000_J3 (p4_8:(Int × Int)→Option Push) (p6_16:(Int × Int)→Option Int) (t70:Int) (t156:List Push) (t160:List (List Int)) (t164:List Int) (t168:Int) (t174:List Int):Option (((List Push) × (List (List Int)) × (List Int) × Int) ⊕ (((List Bool) × (List (List Push)) × (List (List (List Int))) × (List (List Int)) × Int) ⊕ Checker)) :=
 (p4_8 (t70,t168)).bind fun y183 =>
 (app t156 ([y183]:List Push)).bind fun l192 =>
 (app t160 [t174]).bind fun l201 =>
 (p6_16 (t70,t168)).bind fun y210 =>
 (app t164 ([y210]:List Int)).bind fun l214 =>
 some (.inl (l192,l201,l214,IntKind.wrap .i64 (t168+1)))
def impl_built_K0000000_S3 (p1_2:Int) (p4_8:(Int × Int)→Option Push) (p5_12:(Int × Int × Int)→Option Int) (p6_16:(Int × Int)→Option Int) (t70:Int) (t156:List Push) (t160:List (List Int)) (t164:List Int) (t168:Int):((List Int) × Int)→Option (((List Int) × Int) ⊕ (((List Push) × (List (List Int)) × (List Int) × Int) ⊕ (((List Bool) × (List (List Push)) × (List (List (List Int))) × (List (List Int)) × Int) ⊕ Checker))):=fun (t226,t230) =>
 if (decide ((t230:Int)<(IntKind.wrap .i64 (p1_2+1))))=true then
  ((p5_12 (t70,t168,t230)).bind fun y236 =>
  (app t226 ([y236]:List Int)).bind fun l240 =>
  some (.inl (l240,IntKind.wrap .i64 (t230+1))))
 else
  ((impl_built_K0000000_J3 p4_8 p6_16 t70 t156 t160 t164 t168 t226).map Sum.inr)
def impl_built_K0000000_S2 (p1_2:Int) (p3_4:Int→Option Bool) (p4_8:(Int × Int)→Option Push) (p5_12:(Int × Int × Int)→Option Int) (p6_16:(Int × Int)→Option Int) (m54:List Bool) (m58:List (List Push)) (m62:List (List (List Int))) (m66:List (List Int)) (t70:Int):((List Push) × (List (List Int)) × (List Int) × Int)→Option (((List Push) × (List (List Int)) × (List Int) × Int) ⊕ (((List Bool) × (List (List Push)) × (List (List (List Int))) × (List (List Int)) × Int) ⊕ Checker)):=fun (t156,t160,t164,t168) =>
 if (decide ((t168:Int)<2))=true then
  loop (impl_built_K0000000_S3 p1_2 p4_8 p5_12 p6_16 t70 t156 t160 t164 t168) (([]:List Int),0)
 else
  ((impl_built_K0000000_J2 p3_4 m54 m58 m62 m66 t70 t156 t160 t164).map Sum.inr)
def impl_built_K0000000_S1 (p1 p1_2 p2_3:Int) (p3_4:Int→Option Bool) (p4_8:(Int × Int)→Option Push) (p5_12:(Int × Int × Int)→Option Int) (p6_16:(Int × Int)→Option Int):((List Bool) × (List (List Push)) × (List (List (List Int))) × (List (List Int)) × Int)→Option (((List Bool) × (List (List Push)) × (List (List (List Int))) × (List (List Int)) × Int) ⊕ Checker):=fun (m54,m58,m62,m66,t70) =>
 if (decide ((t70:Int)<p1))=true then
  loop (impl_built_K0000000_S2 p1_2 p3_4 p4_8 p5_12 p6_16 m54 m58 m62 m66 t70) (([]:List Push),([]:List (List Int)),([]:List Int),0)
 else
  ((impl_built_K0000000_J1 p1_2 p2_3 m54 m58 m62 m66).map Sum.inr)
def impl_built_K0000000 (p1 p1_2 p2_3:Int) (p3_4:Int→Option Bool) (p4_8:(Int × Int)→Option Push) (p5_12:(Int × Int × Int)→Option Int) (p6_16:(Int × Int)→Option Int):Option Checker :=
 loop (impl_built_K0000000_S1 p1 p1_2 p2_3 p3_4 p4_8 p5_12 p6_16) (([]:List Bool),([]:List (List Push)),([]:List (List (List Int))),([]:List (List Int)),0)

def impl_PreimageChecker_1 (x1:Int) (c2:Checker) (c19:Int):Option Bool :=
 (remI .i64 x1 c19).bind fun q20 =>
 (ix c2.Accept q20).bind fun x22 =>
 some x22

def impl_Checker_end_1_F1 (s1:Int) (rest2:List Int) (c710:Int) (c1114:List Int):Option (Unit × Int × (List Int)) :=
 some ((),s1,rest2)

def impl_kindOf (c1:Int):Option Int :=
 (strings_IndexByte ([40,91,41,93,97,98]:List UInt8) c1).bind fun y2 =>
 (remI .i64 y2 2).bind fun q6 =>
 some q6

def impl_isInner (c1:Int):Option Bool :=
 some ((c1 == 97)||(c1 == 98))

def impl_Checker_step_J1 (p1:Checker) (p1_18 y25:Int) (t84:List Int) (t89:Int):Option (Int × (List Int)) :=
 (ix p1.Return p1_18).bind fun x91 =>
 (ix x91 y25).bind fun x100 =>
 (ix x100 t89).bind fun x109 =>
 some (x109,t84)
def impl_Checker_step (p1:Checker) (p1_18:Int) (p2_19:List Int) (p3_24:Int):Option (Int × (List Int)) :=
 (impl_kindOf p3_24).bind fun y25 =>
 (impl_isCall p3_24).bind fun y29 =>
 if y29=true then
  ((ix p1.Call p1_18).bind fun x34 =>
  (ix x34 y25).bind fun x43 =>
  (cloneI p2_19).bind fun y53 =>
  (app y53 ([x43.Put]:List Int)).bind fun l61 =>
  some (x43.To,l61))
 else
  ((impl_isInner p3_24).bind fun y65 =>
  if y65=true then
   ((ix p1.Inner p1_18).bind fun x70 =>
   (ix x70 y25).bind fun x79 =>
   some (x79,p2_19))
  else
   (if (decide (((p2_19.length:Int):Int)>0))=true then
    ((ix p2_19 (IntKind.wrap .i64 ((p2_19.length:Int) - 1))).bind fun x115 =>
    (cut p2_19 0 (IntKind.wrap .i64 ((p2_19.length:Int) - 1))).bind fun l120 =>
    impl_Checker_step_J1 p1 p1_18 y25 l120 x115)
   else
    impl_Checker_step_J1 p1 p1_18 y25 p2_19 p1.Stack))

def impl_Checker_run_F1_J1 (m53:Int) (m55:List Int):Option (Unit × Int × (List Int)) :=
 some ((),m53,m55)
def impl_Checker_run_F1_S1 (c1:Checker) (w24:List UInt8):(Int × (List Int) × Int × (List Int) × Int)→Option ((Int × (List Int) × Int × (List Int) × Int) ⊕ (Unit × Int × (List Int))):=fun (state63,stack64,m70,m72,t77) =>
 if (decide ((t77:Int)<(w24.length:Int)))=true then
  ((chr w24 t77).bind fun c81 =>
  (impl_Checker_step c1 state63 stack64 c81).bind fun y83 =>
  (impl_Checker_end_1_F1 y83.1 y83.2 m70 m72).bind fun y96 =>
  some (.inl (y83.1,y83.2,y96.2.1,y96.2.2,IntKind.wrap .i64 (t77+1))))
 else
  ((impl_Checker_run_F1_J1 m70 m72).map Sum.inr)
def impl_Checker_run_F1 (c1:Checker) (state18:Int) (stack19:List Int) (w24:List UInt8) (c2629:Int) (c3033:List Int):Option (Unit × Int × (List Int)) :=
 (impl_Checker_end_1_F1 state18 stack19 c2629 c3033).bind fun y38 =>
 loop (impl_Checker_run_F1_S1 c1 w24) (state18,stack19,y38.2.1,y38.2.2,0)

def impl_Checker_end (c1:Checker) (state18:Int) (stack19:List Int) (w24:List UInt8):Option (Int × (List Int)) :=
 (impl_Checker_run_F1 c1 state18 stack19 w24 state18 stack19).bind fun y31 =>
 some (y31.2.1,y31.2.2)

def impl_PreimageChecker_2 (x1 k2:Int) (c3:Rewriter) (c16:Int) (c17:Checker) (c34:Int):Option Push :=
 (quoI .i64 x1 c16).bind fun q35 =>
 (ix c3.Call q35).bind fun x37 =>
 (ix x37 k2).bind fun x46 =>
 (remI .i64 x1 c16).bind fun q58 =>
 (impl_Checker_end c17 q58 ([]:List Int) x46.Out).bind fun y60 =>
 (ix y60.2 0).bind fun x73 =>
 some (⟨IntKind.wrap .i64 ((IntKind.wrap .i64 (x46.To*c16))+y60.1),IntKind.wrap .i64 ((IntKind.wrap .i64 (x46.Put*c34))+x73)⟩:Push)

def impl_marksOf (mark1 all2 m3:Int):Option (Int × (List Int)) :=
 if (mark1 == (IntKind.wrap .i64 (all2*m3)))=true then
  some (all2,([]:List Int))
 else
  ((quoI .i64 mark1 m3).bind fun q5 =>
  (remI .i64 mark1 m3).bind fun q7 =>
  some (q5,([q7]:List Int)))

def impl_PreimageChecker_3 (x1 k2 mark3:Int) (c4:Rewriter) (c17 c18:Int) (c19:Checker):Option Int :=
 (impl_marksOf mark3 c4.Stack c17).bind fun y36 =>
 (quoI .i64 x1 c18).bind fun q49 =>
 (ix c4.Return q49).bind fun x51 =>
 (ix x51 k2).bind fun x60 =>
 (ix x60 y36.1).bind fun x69 =>
 (remI .i64 x1 c18).bind fun q79 =>
 (impl_Checker_end c19 q79 y36.2 x69.Out).bind fun y81 =>
 some (IntKind.wrap .i64 ((IntKind.wrap .i64 (x69.To*c18))+y81.1))

def impl_PreimageChecker_4 (x1 k2:Int) (c3:Rewriter) (c16:Int) (c17:Checker):Option Int :=
 (quoI .i64 x1 c16).bind fun q34 =>
 (ix c3.Inner q34).bind fun x36 =>
 (ix x36 k2).bind fun x45 =>
 (remI .i64 x1 c16).bind fun q55 =>
 (impl_Checker_end c17 q55 ([]:List Int) x45.Out).bind fun y57 =>
 some (IntKind.wrap .i64 ((IntKind.wrap .i64 (x45.To*c16))+y57.1))

def impl_PreimageChecker_K00 (r1:Rewriter) (c14:Checker):Option (Checker × Int) :=
 (impl_size_bool c14.Accept).bind fun y34 =>
 (impl_ValidRewriter r1).bind fun y38 =>
 (if (!y38)=true then
   some true
  else
   ((impl_ValidChecker c14).bind fun y44 =>
   some (!y44))).bind fun b43 =>
 if b43=true then
  some ((⟨0,0,([]:List Bool),([]:List (List Push)),([]:List (List (List Int))),([]:List (List Int))⟩:Checker),1)
 else
  ((impl_Rewriter_isStructural r1).bind fun y65 =>
  if (!y65)=true then
   some ((⟨0,0,([]:List Bool),([]:List (List Push)),([]:List (List (List Int))),([]:List (List Int))⟩:Checker),4)
  else
   ((impl_size_simpl_OutPush r1.Call).bind fun y86 =>
   if ((decide ((IntKind.wrap .i64 (y86*y34):Int)>40))||(decide ((IntKind.wrap .i64 (r1.Stack*c14.Stack):Int)>80)))=true then
    some ((⟨0,0,([]:List Bool),([]:List (List Push)),([]:List (List (List Int))),([]:List (List Int))⟩:Checker),3)
   else
    ((impl_size_simpl_OutPush r1.Call).bind fun y108 =>
    (impl_built_K0000000 (IntKind.wrap .i64 (y108*y34)) (IntKind.wrap .i64 (r1.Stack*c14.Stack)) (IntKind.wrap .i64 ((IntKind.wrap .i64 (r1.Start*y34))+c14.Start)) (fun x=>impl_PreimageChecker_1 x c14 y34) (fun x=>impl_PreimageChecker_2 x.1 x.2 r1 y34 c14 c14.Stack) (fun x=>impl_PreimageChecker_3 x.1 x.2.1 x.2.2 r1 c14.Stack y34 c14) (fun x=>impl_PreimageChecker_4 x.1 x.2 r1 y34 c14)).bind fun y112 =>
    some (y112,0))))

def laws_eqBoolS_J1:Option Bool :=
 some true
def laws_eqBoolS_S1 (a1 b6:List Bool):Int→Option (Int ⊕ Bool):=fun i13 =>
 if (decide ((i13:Int)<(a1.length:Int)))=true then
  ((ix a1 i13).bind fun x15 =>
  (ix b6 i13).bind fun x20 =>
  if (!(x15 == x20))=true then
   some (.inr (false))
  else
   some (.inl (IntKind.wrap .i64 (i13+1))))
 else
  ((laws_eqBoolS_J1).map Sum.inr)
def laws_eqBoolS (a1 b6:List Bool):Option Bool :=
 if ((a1.length:Int) != (b6.length:Int))=true then
  some false
 else
  loop (laws_eqBoolS_S1 a1 b6) (0)

def laws_eqPush (a1 b2:Push):Option Bool :=
 if (a1.To != b2.To)=true then
  some false
 else
  (if (a1.Put != b2.Put)=true then
   some false
  else
   some true)

def laws_eqPushS_J1:Option Bool :=
 some true
def laws_eqPushS_S1 (a1 b6:List Push):Int→Option (Int ⊕ Bool):=fun i13 =>
 if (decide ((i13:Int)<(a1.length:Int)))=true then
  ((ix a1 i13).bind fun x15 =>
  (ix b6 i13).bind fun x25 =>
  (laws_eqPush x15 x25).bind fun y35 =>
  if (!y35)=true then
   some (.inr (false))
  else
   some (.inl (IntKind.wrap .i64 (i13+1))))
 else
  ((laws_eqPushS_J1).map Sum.inr)
def laws_eqPushS (a1 b6:List Push):Option Bool :=
 if ((a1.length:Int) != (b6.length:Int))=true then
  some false
 else
  loop (laws_eqPushS_S1 a1 b6) (0)

def laws_eqPushSS_J1:Option Bool :=
 some true
def laws_eqPushSS_S1 (a1 b6:List (List Push)):Int→Option (Int ⊕ Bool):=fun i13 =>
 if (decide ((i13:Int)<(a1.length:Int)))=true then
  ((ix a1 i13).bind fun x15 =>
  (ix b6 i13).bind fun x24 =>
  (laws_eqPushS x15 x24).bind fun y33 =>
  if (!y33)=true then
   some (.inr (false))
  else
   some (.inl (IntKind.wrap .i64 (i13+1))))
 else
  ((laws_eqPushSS_J1).map Sum.inr)
def laws_eqPushSS (a1 b6:List (List Push)):Option Bool :=
 if ((a1.length:Int) != (b6.length:Int))=true then
  some false
 else
  loop (laws_eqPushSS_S1 a1 b6) (0)

def laws_eqInt64S_J1:Option Bool :=
 some true
def laws_eqInt64S_S1 (a1 b6:List Int):Int→Option (Int ⊕ Bool):=fun i13 =>
 if (decide ((i13:Int)<(a1.length:Int)))=true then
  ((ix a1 i13).bind fun x15 =>
  (ix b6 i13).bind fun x20 =>
  if (x15 != x20)=true then
   some (.inr (false))
  else
   some (.inl (IntKind.wrap .i64 (i13+1))))
 else
  ((laws_eqInt64S_J1).map Sum.inr)
def laws_eqInt64S (a1 b6:List Int):Option Bool :=
 if ((a1.length:Int) != (b6.length:Int))=true then
  some false
 else
  loop (laws_eqInt64S_S1 a1 b6) (0)

def laws_eqInt64SS_J1:Option Bool :=
 some true
def laws_eqInt64SS_S1 (a1 b6:List (List Int)):Int→Option (Int ⊕ Bool):=fun i13 =>
 if (decide ((i13:Int)<(a1.length:Int)))=true then
  ((ix a1 i13).bind fun x15 =>
  (ix b6 i13).bind fun x24 =>
  (laws_eqInt64S x15 x24).bind fun y33 =>
  if (!y33)=true then
   some (.inr (false))
  else
   some (.inl (IntKind.wrap .i64 (i13+1))))
 else
  ((laws_eqInt64SS_J1).map Sum.inr)
def laws_eqInt64SS (a1 b6:List (List Int)):Option Bool :=
 if ((a1.length:Int) != (b6.length:Int))=true then
  some false
 else
  loop (laws_eqInt64SS_S1 a1 b6) (0)

def laws_eqInt64SSS_J1:Option Bool :=
 some true
def laws_eqInt64SSS_S1 (a1:List (List (List Int))) (b6:List (List (List Int))):Int→Option (Int ⊕ Bool):=fun i13 =>
 if (decide ((i13:Int)<(a1.length:Int)))=true then
  ((ix a1 i13).bind fun x15 =>
  (ix b6 i13).bind fun x24 =>
  (laws_eqInt64SS x15 x24).bind fun y33 =>
  if (!y33)=true then
   some (.inr (false))
  else
   some (.inl (IntKind.wrap .i64 (i13+1))))
 else
  ((laws_eqInt64SSS_J1).map Sum.inr)
def laws_eqInt64SSS (a1:List (List (List Int))) (b6:List (List (List Int))):Option Bool :=
 if ((a1.length:Int) != (b6.length:Int))=true then
  some false
 else
  loop (laws_eqInt64SSS_S1 a1 b6) (0)

def laws_eqChecker (a1 b18:Checker):Option Bool :=
 if (a1.Stack != b18.Stack)=true then
  some false
 else
  (if (a1.Start != b18.Start)=true then
   some false
  else
   ((laws_eqBoolS a1.Accept b18.Accept).bind fun y37 =>
   if (!y37)=true then
    some false
   else
    ((laws_eqPushSS a1.Call b18.Call).bind fun y49 =>
    if (!y49)=true then
     some false
    else
     ((laws_eqInt64SSS a1.Return b18.Return).bind fun y61 =>
     if (!y61)=true then
      some false
     else
      ((laws_eqInt64SS a1.Inner b18.Inner).bind fun y73 =>
      if (!y73)=true then
       some false
      else
       some true)))))

def laws_eqOutPush (a1 b2:OutPush):Option Bool :=
 if (a1.To != b2.To)=true then
  some false
 else
  (if (a1.Put != b2.Put)=true then
   some false
  else
   (if (!(a1.Out == b2.Out))=true then
    some false
   else
    some true))

def laws_eqOutPushS_J1:Option Bool :=
 some true
def laws_eqOutPushS_S1 (a1 b6:List OutPush):Int→Option (Int ⊕ Bool):=fun i13 =>
 if (decide ((i13:Int)<(a1.length:Int)))=true then
  ((ix a1 i13).bind fun x15 =>
  (ix b6 i13).bind fun x27 =>
  (laws_eqOutPush x15 x27).bind fun y39 =>
  if (!y39)=true then
   some (.inr (false))
  else
   some (.inl (IntKind.wrap .i64 (i13+1))))
 else
  ((laws_eqOutPushS_J1).map Sum.inr)
def laws_eqOutPushS (a1 b6:List OutPush):Option Bool :=
 if ((a1.length:Int) != (b6.length:Int))=true then
  some false
 else
  loop (laws_eqOutPushS_S1 a1 b6) (0)

def laws_eqOutPushSS_J1:Option Bool :=
 some true
def laws_eqOutPushSS_S1 (a1 b6:List (List OutPush)):Int→Option (Int ⊕ Bool):=fun i13 =>
 if (decide ((i13:Int)<(a1.length:Int)))=true then
  ((ix a1 i13).bind fun x15 =>
  (ix b6 i13).bind fun x24 =>
  (laws_eqOutPushS x15 x24).bind fun y33 =>
  if (!y33)=true then
   some (.inr (false))
  else
   some (.inl (IntKind.wrap .i64 (i13+1))))
 else
  ((laws_eqOutPushSS_J1).map Sum.inr)
def laws_eqOutPushSS (a1 b6:List (List OutPush)):Option Bool :=
 if ((a1.length:Int) != (b6.length:Int))=true then
  some false
 else
  loop (laws_eqOutPushSS_S1 a1 b6) (0)

def laws_eqOutMove (a1 b2:OutMove):Option Bool :=
 if (a1.To != b2.To)=true then
  some false
 else
  (if (!(a1.Out == b2.Out))=true then
   some false
  else
   some true)

def laws_eqOutMoveS_J1:Option Bool :=
 some true
def laws_eqOutMoveS_S1 (a1 b6:List OutMove):Int→Option (Int ⊕ Bool):=fun i13 =>
 if (decide ((i13:Int)<(a1.length:Int)))=true then
  ((ix a1 i13).bind fun x15 =>
  (ix b6 i13).bind fun x25 =>
  (laws_eqOutMove x15 x25).bind fun y35 =>
  if (!y35)=true then
   some (.inr (false))
  else
   some (.inl (IntKind.wrap .i64 (i13+1))))
 else
  ((laws_eqOutMoveS_J1).map Sum.inr)
def laws_eqOutMoveS (a1 b6:List OutMove):Option Bool :=
 if ((a1.length:Int) != (b6.length:Int))=true then
  some false
 else
  loop (laws_eqOutMoveS_S1 a1 b6) (0)

def laws_eqOutMoveSS_J1:Option Bool :=
 some true
def laws_eqOutMoveSS_S1 (a1 b6:List (List OutMove)):Int→Option (Int ⊕ Bool):=fun i13 =>
 if (decide ((i13:Int)<(a1.length:Int)))=true then
  ((ix a1 i13).bind fun x15 =>
  (ix b6 i13).bind fun x24 =>
  (laws_eqOutMoveS x15 x24).bind fun y33 =>
  if (!y33)=true then
   some (.inr (false))
  else
   some (.inl (IntKind.wrap .i64 (i13+1))))
 else
  ((laws_eqOutMoveSS_J1).map Sum.inr)
def laws_eqOutMoveSS (a1 b6:List (List OutMove)):Option Bool :=
 if ((a1.length:Int) != (b6.length:Int))=true then
  some false
 else
  loop (laws_eqOutMoveSS_S1 a1 b6) (0)

def laws_eqOutMoveSSS_J1:Option Bool :=
 some true
def laws_eqOutMoveSSS_S1 (a1:List (List (List OutMove))) (b6:List (List (List OutMove))):Int→Option (Int ⊕ Bool):=fun i13 =>
 if (decide ((i13:Int)<(a1.length:Int)))=true then
  ((ix a1 i13).bind fun x15 =>
  (ix b6 i13).bind fun x24 =>
  (laws_eqOutMoveSS x15 x24).bind fun y33 =>
  if (!y33)=true then
   some (.inr (false))
  else
   some (.inl (IntKind.wrap .i64 (i13+1))))
 else
  ((laws_eqOutMoveSSS_J1).map Sum.inr)
def laws_eqOutMoveSSS (a1:List (List (List OutMove))) (b6:List (List (List OutMove))):Option Bool :=
 if ((a1.length:Int) != (b6.length:Int))=true then
  some false
 else
  loop (laws_eqOutMoveSSS_S1 a1 b6) (0)

def laws_eqRewriter (a1 b14:Rewriter):Option Bool :=
 if (a1.Stack != b14.Stack)=true then
  some false
 else
  (if (a1.Start != b14.Start)=true then
   some false
  else
   ((laws_eqOutPushSS a1.Call b14.Call).bind fun y29 =>
   if (!y29)=true then
    some false
   else
    ((laws_eqOutMoveSSS a1.Return b14.Return).bind fun y41 =>
    if (!y41)=true then
     some false
    else
     ((laws_eqOutMoveSS a1.Inner b14.Inner).bind fun y53 =>
     if (!y53)=true then
      some false
     else
      some true))))

def laws_markText_J1 (out3:List UInt8):Option (List UInt8) :=
 (app ([109]:List UInt8) out3).bind fun w5 =>
 some w5
def laws_markText_S1:(Int × (List UInt8))→Option ((Int × (List UInt8)) ⊕ (List UInt8)):=fun (k7,out8) =>
 if (decide ((k7:Int)>0))=true then
  ((remI .i64 k7 10).bind fun q10 =>
  (app (bytesOf ([IntKind.wrap .u8 (IntKind.wrap .i64 (48+q10))]:List Int)) out8).bind fun w12 =>
  (quoI .i64 k7 10).bind fun q14 =>
  some (.inl (q14,w12)))
 else
  ((laws_markText_J1 out8).map Sum.inr)
def laws_markText (k1:Int):Option (List UInt8) :=
 if (decide ((k1:Int)≤0))=true then
  some ([109,48]:List UInt8)
 else
  loop (laws_markText_S1) (k1,([]:List UInt8))

def laws_markOutPushS_K10_J1 (m6:List OutPush) (k7:Int):Option (Int × (List OutPush)) :=
 some (k7,m6)
def laws_markOutPushS_K10_S1:((List OutPush) × Int × Int)→Option (((List OutPush) × Int × Int) ⊕ (Int × (List OutPush))):=fun (m13,k14,i15) =>
 if (decide ((i15:Int)<(m13.length:Int)))=true then
  ((ix m13 i15).bind fun x23 =>
  (laws_markText (IntKind.wrap .i64 ((IntKind.wrap .i64 (k14+1))+1))).bind fun y49 =>
  some (.inl ((((m13.set (Int.toNat i15) ({ x23 with To:=k14 }:OutPush)).set (Int.toNat i15) ({ ({ x23 with To:=k14 }:OutPush) with Put:=IntKind.wrap .i64 (k14+1) }:OutPush)).set (Int.toNat i15) ({ ({ ({ x23 with To:=k14 }:OutPush) with Put:=IntKind.wrap .i64 (k14+1) }:OutPush) with Out:=y49 }:OutPush)),IntKind.wrap .i64 ((IntKind.wrap .i64 ((IntKind.wrap .i64 (k14+1))+1))+1),IntKind.wrap .i64 (i15+1))))
 else
  ((laws_markOutPushS_K10_J1 m13 k14).map Sum.inr)
def laws_markOutPushS_K10 (a4:List OutPush) (k5:Int):Option (Int × (List OutPush)) :=
 loop (laws_markOutPushS_K10_S1) (a4,k5,0)

def laws_markOutPushSS_K10_J1 (m6:List (List OutPush)) (k7:Int):Option (Int × (List (List OutPush))) :=
 some (k7,m6)
def laws_markOutPushSS_K10_S1:((List (List OutPush)) × Int × Int)→Option (((List (List OutPush)) × Int × Int) ⊕ (Int × (List (List OutPush)))):=fun (m13,k14,i15) =>
 if (decide ((i15:Int)<(m13.length:Int)))=true then
  ((ix m13 i15).bind fun x23 =>
  (laws_markOutPushS_K10 x23 k14).bind fun y30 =>
  some (.inl ((m13.set (Int.toNat i15) y30.2),y30.1,IntKind.wrap .i64 (i15+1))))
 else
  ((laws_markOutPushSS_K10_J1 m13 k14).map Sum.inr)
def laws_markOutPushSS_K10 (a4:List (List OutPush)) (k5:Int):Option (Int × (List (List OutPush))) :=
 loop (laws_markOutPushSS_K10_S1) (a4,k5,0)

def laws_markOutMoveS_K10_J1 (m6:List OutMove) (k7:Int):Option (Int × (List OutMove)) :=
 some (k7,m6)
def laws_markOutMoveS_K10_S1:((List OutMove) × Int × Int)→Option (((List OutMove) × Int × Int) ⊕ (Int × (List OutMove))):=fun (m13,k14,i15) =>
 if (decide ((i15:Int)<(m13.length:Int)))=true then
  ((ix m13 i15).bind fun x23 =>
  (laws_markText (IntKind.wrap .i64 (k14+1))).bind fun y34 =>
  some (.inl (((m13.set (Int.toNat i15) ({ x23 with To:=k14 }:OutMove)).set (Int.toNat i15) ({ ({ x23 with To:=k14 }:OutMove) with Out:=y34 }:OutMove)),IntKind.wrap .i64 ((IntKind.wrap .i64 (k14+1))+1),IntKind.wrap .i64 (i15+1))))
 else
  ((laws_markOutMoveS_K10_J1 m13 k14).map Sum.inr)
def laws_markOutMoveS_K10 (a4:List OutMove) (k5:Int):Option (Int × (List OutMove)) :=
 loop (laws_markOutMoveS_K10_S1) (a4,k5,0)

def laws_markOutMoveSS_K10_J1 (m6:List (List OutMove)) (k7:Int):Option (Int × (List (List OutMove))) :=
 some (k7,m6)
def laws_markOutMoveSS_K10_S1:((List (List OutMove)) × Int × Int)→Option (((List (List OutMove)) × Int × Int) ⊕ (Int × (List (List OutMove)))):=fun (m13,k14,i15) =>
 if (decide ((i15:Int)<(m13.length:Int)))=true then
  ((ix m13 i15).bind fun x23 =>
  (laws_markOutMoveS_K10 x23 k14).bind fun y30 =>
  some (.inl ((m13.set (Int.toNat i15) y30.2),y30.1,IntKind.wrap .i64 (i15+1))))
 else
  ((laws_markOutMoveSS_K10_J1 m13 k14).map Sum.inr)
def laws_markOutMoveSS_K10 (a4:List (List OutMove)) (k5:Int):Option (Int × (List (List OutMove))) :=
 loop (laws_markOutMoveSS_K10_S1) (a4,k5,0)

def laws_markOutMoveSSS_K10_J1 (m6:List (List (List OutMove))) (k7:Int):Option (Int × (List (List (List OutMove)))) :=
 some (k7,m6)
def laws_markOutMoveSSS_K10_S1:((List (List (List OutMove))) × Int × Int)→Option (((List (List (List OutMove))) × Int × Int) ⊕ (Int × (List (List (List OutMove))))):=fun (m13,k14,i15) =>
 if (decide ((i15:Int)<(m13.length:Int)))=true then
  ((ix m13 i15).bind fun x23 =>
  (laws_markOutMoveSS_K10 x23 k14).bind fun y30 =>
  some (.inl ((m13.set (Int.toNat i15) y30.2),y30.1,IntKind.wrap .i64 (i15+1))))
 else
  ((laws_markOutMoveSSS_K10_J1 m13 k14).map Sum.inr)
def laws_markOutMoveSSS_K10 (a4:List (List (List OutMove))) (k5:Int):Option (Int × (List (List (List OutMove)))) :=
 loop (laws_markOutMoveSSS_K10_S1) (a4,k5,0)

def laws_markRewriter_K10 (a1:Rewriter) (k11:Int):Option (Int × (List (List OutPush)) × (List (List (List OutMove))) × (List (List OutMove))) :=
 (laws_markOutPushSS_K10 a1.Call k11).bind fun y12 =>
 (laws_markOutMoveSSS_K10 a1.Return y12.1).bind fun y32 =>
 (laws_markOutMoveSS_K10 a1.Inner y32.1).bind fun y52 =>
 some (y52.1,y12.2,y32.2,y52.2)

def laws_markBoolS_K10_J1 (m6:List Bool) (k7:Int):Option (Int × (List Bool)) :=
 some (k7,m6)
def laws_markBoolS_K10_S1:((List Bool) × Int × Int)→Option (((List Bool) × Int × Int) ⊕ (Int × (List Bool))):=fun (m13,k14,i15) =>
 if (decide ((i15:Int)<(m13.length:Int)))=true then
  ((remI .i64 k14 3).bind fun q21 =>
  (ix m13 i15).bind fun x25 =>
  some (.inl ((m13.set (Int.toNat i15) (q21 == 0)),IntKind.wrap .i64 (k14+1),IntKind.wrap .i64 (i15+1))))
 else
  ((laws_markBoolS_K10_J1 m13 k14).map Sum.inr)
def laws_markBoolS_K10 (a4:List Bool) (k5:Int):Option (Int × (List Bool)) :=
 loop (laws_markBoolS_K10_S1) (a4,k5,0)

def laws_markPushS_K10_J1 (m6:List Push) (k7:Int):Option (Int × (List Push)) :=
 some (k7,m6)
def laws_markPushS_K10_S1:((List Push) × Int × Int)→Option (((List Push) × Int × Int) ⊕ (Int × (List Push))):=fun (m13,k14,i15) =>
 if (decide ((i15:Int)<(m13.length:Int)))=true then
  ((ix m13 i15).bind fun x23 =>
  some (.inl (((m13.set (Int.toNat i15) ({ x23 with To:=k14 }:Push)).set (Int.toNat i15) ({ ({ x23 with To:=k14 }:Push) with Put:=IntKind.wrap .i64 (k14+1) }:Push)),IntKind.wrap .i64 ((IntKind.wrap .i64 (k14+1))+1),IntKind.wrap .i64 (i15+1))))
 else
  ((laws_markPushS_K10_J1 m13 k14).map Sum.inr)
def laws_markPushS_K10 (a4:List Push) (k5:Int):Option (Int × (List Push)) :=
 loop (laws_markPushS_K10_S1) (a4,k5,0)

def laws_markPushSS_K10_J1 (m6:List (List Push)) (k7:Int):Option (Int × (List (List Push))) :=
 some (k7,m6)
def laws_markPushSS_K10_S1:((List (List Push)) × Int × Int)→Option (((List (List Push)) × Int × Int) ⊕ (Int × (List (List Push)))):=fun (m13,k14,i15) =>
 if (decide ((i15:Int)<(m13.length:Int)))=true then
  ((ix m13 i15).bind fun x23 =>
  (laws_markPushS_K10 x23 k14).bind fun y30 =>
  some (.inl ((m13.set (Int.toNat i15) y30.2),y30.1,IntKind.wrap .i64 (i15+1))))
 else
  ((laws_markPushSS_K10_J1 m13 k14).map Sum.inr)
def laws_markPushSS_K10 (a4:List (List Push)) (k5:Int):Option (Int × (List (List Push))) :=
 loop (laws_markPushSS_K10_S1) (a4,k5,0)

def laws_markInt64S_K10_J1 (m6:List Int) (k7:Int):Option (Int × (List Int)) :=
 some (k7,m6)
def laws_markInt64S_K10_S1:((List Int) × Int × Int)→Option (((List Int) × Int × Int) ⊕ (Int × (List Int))):=fun (m13,k14,i15) =>
 if (decide ((i15:Int)<(m13.length:Int)))=true then
  ((ix m13 i15).bind fun x23 =>
  some (.inl ((m13.set (Int.toNat i15) k14),IntKind.wrap .i64 (k14+1),IntKind.wrap .i64 (i15+1))))
 else
  ((laws_markInt64S_K10_J1 m13 k14).map Sum.inr)
def laws_markInt64S_K10 (a4:List Int) (k5:Int):Option (Int × (List Int)) :=
 loop (laws_markInt64S_K10_S1) (a4,k5,0)

def laws_markInt64SS_K10_J1 (m6:List (List Int)) (k7:Int):Option (Int × (List (List Int))) :=
 some (k7,m6)
def laws_markInt64SS_K10_S1:((List (List Int)) × Int × Int)→Option (((List (List Int)) × Int × Int) ⊕ (Int × (List (List Int)))):=fun (m13,k14,i15) =>
 if (decide ((i15:Int)<(m13.length:Int)))=true then
  ((ix m13 i15).bind fun x23 =>
  (laws_markInt64S_K10 x23 k14).bind fun y30 =>
  some (.inl ((m13.set (Int.toNat i15) y30.2),y30.1,IntKind.wrap .i64 (i15+1))))
 else
  ((laws_markInt64SS_K10_J1 m13 k14).map Sum.inr)
def laws_markInt64SS_K10 (a4:List (List Int)) (k5:Int):Option (Int × (List (List Int))) :=
 loop (laws_markInt64SS_K10_S1) (a4,k5,0)

def laws_markInt64SSS_K10_J1 (m6:List (List (List Int))) (k7:Int):Option (Int × (List (List (List Int)))) :=
 some (k7,m6)
def laws_markInt64SSS_K10_S1:((List (List (List Int))) × Int × Int)→Option (((List (List (List Int))) × Int × Int) ⊕ (Int × (List (List (List Int))))):=fun (m13,k14,i15) =>
 if (decide ((i15:Int)<(m13.length:Int)))=true then
  ((ix m13 i15).bind fun x23 =>
  (laws_markInt64SS_K10 x23 k14).bind fun y30 =>
  some (.inl ((m13.set (Int.toNat i15) y30.2),y30.1,IntKind.wrap .i64 (i15+1))))
 else
  ((laws_markInt64SSS_K10_J1 m13 k14).map Sum.inr)
def laws_markInt64SSS_K10 (a4:List (List (List Int))) (k5:Int):Option (Int × (List (List (List Int)))) :=
 loop (laws_markInt64SSS_K10_S1) (a4,k5,0)

def laws_markChecker_K10 (a1:Checker) (k14:Int):Option (Int × (List Bool) × (List (List Push)) × (List (List (List Int))) × (List (List Int))) :=
 (laws_markBoolS_K10 a1.Accept k14).bind fun y15 =>
 (laws_markPushSS_K10 a1.Call y15.1).bind fun y35 =>
 (laws_markInt64SSS_K10 a1.Return y35.1).bind fun y55 =>
 (laws_markInt64SS_K10 a1.Inner y55.1).bind fun y75 =>
 some (y75.1,y15.2,y35.2,y55.2,y75.2)

def laws_heldBoolS_J1 (k7:Int):Option Int :=
 some k7
def laws_heldBoolS_S1 (a1:List Bool):(Int × Int)→Option ((Int × Int) ⊕ Int):=fun (k9,i10) =>
 if (decide ((i10:Int)<(a1.length:Int)))=true then
  ((ix a1 i10).bind fun x12 =>
  (remI .i64 k9 3).bind fun q17 =>
  if (!(x12 == (q17 == 0)))=true then
   some (.inr ((-1)))
  else
   some (.inl (IntKind.wrap .i64 (k9+1),IntKind.wrap .i64 (i10+1))))
 else
  ((laws_heldBoolS_J1 k9).map Sum.inr)
def laws_heldBoolS (a1:List Bool) (k6:Int):Option Int :=
 loop (laws_heldBoolS_S1 a1) (k6,0)

def laws_heldPushS_J1 (k7:Int):Option Int :=
 some k7
def laws_heldPushS_S1 (a1:List Push):(Int × Int)→Option ((Int × Int) ⊕ Int):=fun (k9,i10) =>
 if (decide ((i10:Int)<(a1.length:Int)))=true then
  ((ix a1 i10).bind fun x12 =>
  if (x12.To != k9)=true then
   some (.inr ((-1)))
  else
   ((ix a1 i10).bind fun x23 =>
   if (x23.Put != (IntKind.wrap .i64 (k9+1)))=true then
    some (.inr ((-1)))
   else
    some (.inl (IntKind.wrap .i64 ((IntKind.wrap .i64 (k9+1))+1),IntKind.wrap .i64 (i10+1)))))
 else
  ((laws_heldPushS_J1 k9).map Sum.inr)
def laws_heldPushS (a1:List Push) (k6:Int):Option Int :=
 loop (laws_heldPushS_S1 a1) (k6,0)

def laws_heldPushSS_J1 (k7:Int):Option Int :=
 some k7
def laws_heldPushSS_S1 (a1:List (List Push)):(Int × Int)→Option ((Int × Int) ⊕ Int):=fun (k9,i10) =>
 if (decide ((i10:Int)<(a1.length:Int)))=true then
  ((ix a1 i10).bind fun x12 =>
  (laws_heldPushS x12 k9).bind fun y21 =>
  if (decide ((y21:Int)<0))=true then
   some (.inr ((-1)))
  else
   some (.inl (y21,IntKind.wrap .i64 (i10+1))))
 else
  ((laws_heldPushSS_J1 k9).map Sum.inr)
def laws_heldPushSS (a1:List (List Push)) (k6:Int):Option Int :=
 loop (laws_heldPushSS_S1 a1) (k6,0)

def laws_heldInt64S_J1 (k7:Int):Option Int :=
 some k7
def laws_heldInt64S_S1 (a1:List Int):(Int × Int)→Option ((Int × Int) ⊕ Int):=fun (k9,i10) =>
 if (decide ((i10:Int)<(a1.length:Int)))=true then
  ((ix a1 i10).bind fun x12 =>
  if (x12 != k9)=true then
   some (.inr ((-1)))
  else
   some (.inl (IntKind.wrap .i64 (k9+1),IntKind.wrap .i64 (i10+1))))
 else
  ((laws_heldInt64S_J1 k9).map Sum.inr)
def laws_heldInt64S (a1:List Int) (k6:Int):Option Int :=
 loop (laws_heldInt64S_S1 a1) (k6,0)

def laws_heldInt64SS_J1 (k7:Int):Option Int :=
 some k7
def laws_heldInt64SS_S1 (a1:List (List Int)):(Int × Int)→Option ((Int × Int) ⊕ Int):=fun (k9,i10) =>
 if (decide ((i10:Int)<(a1.length:Int)))=true then
  ((ix a1 i10).bind fun x12 =>
  (laws_heldInt64S x12 k9).bind fun y21 =>
  if (decide ((y21:Int)<0))=true then
   some (.inr ((-1)))
  else
   some (.inl (y21,IntKind.wrap .i64 (i10+1))))
 else
  ((laws_heldInt64SS_J1 k9).map Sum.inr)
def laws_heldInt64SS (a1:List (List Int)) (k6:Int):Option Int :=
 loop (laws_heldInt64SS_S1 a1) (k6,0)

def laws_heldInt64SSS_J1 (k7:Int):Option Int :=
 some k7
def laws_heldInt64SSS_S1 (a1:List (List (List Int))):(Int × Int)→Option ((Int × Int) ⊕ Int):=fun (k9,i10) =>
 if (decide ((i10:Int)<(a1.length:Int)))=true then
  ((ix a1 i10).bind fun x12 =>
  (laws_heldInt64SS x12 k9).bind fun y21 =>
  if (decide ((y21:Int)<0))=true then
   some (.inr ((-1)))
  else
   some (.inl (y21,IntKind.wrap .i64 (i10+1))))
 else
  ((laws_heldInt64SSS_J1 k9).map Sum.inr)
def laws_heldInt64SSS (a1:List (List (List Int))) (k6:Int):Option Int :=
 loop (laws_heldInt64SSS_S1 a1) (k6,0)

def laws_heldChecker (a1:Checker) (k18:Int):Option Int :=
 (laws_heldBoolS a1.Accept k18).bind fun y19 =>
 if (decide ((y19:Int)<0))=true then
  some (-1)
 else
  ((laws_heldPushSS a1.Call y19).bind fun y27 =>
  if (decide ((y27:Int)<0))=true then
   some (-1)
  else
   ((laws_heldInt64SSS a1.Return y27).bind fun y35 =>
   if (decide ((y35:Int)<0))=true then
    some (-1)
   else
    ((laws_heldInt64SS a1.Inner y35).bind fun y43 =>
    if (decide ((y43:Int)<0))=true then
     some (-1)
    else
     some y43)))

def laws_FnExactPreimageChecker (p1:Rewriter) (p1_14:Checker):Option Bool :=
 (laws_szRewriter p1 1048576).bind fun y31 =>
 if (decide ((y31:Int)<0))=true then
  some true
 else
  ((laws_szChecker p1_14 y31).bind fun y36 =>
  if (decide ((y36:Int)<0))=true then
   some true
  else
   ((laws_toRewriter_K0 p1).bind fun y41 =>
   (laws_toChecker_K0 p1_14).bind fun y75 =>
   (spec_PreimageChecker y41 y75).bind fun y117 =>
   (laws_toRewriter_K0 p1).bind fun y208 =>
   (laws_toChecker_K0 p1_14).bind fun y242 =>
   (impl_PreimageChecker_K00 y208 y242).bind fun y284 =>
   (laws_eqChecker y284.1 y117.1).bind fun y368 =>
   if ((!y368)||(y284.2 != y117.2))=true then
    some false
   else
    ((laws_toRewriter_K0 p1).bind fun y431 =>
    (laws_eqRewriter y208 y431).bind fun y465 =>
    if (!y465)=true then
     some false
    else
     ((laws_toChecker_K0 p1_14).bind fun y515 =>
     (laws_eqChecker y242 y515).bind fun y557 =>
     if (!y557)=true then
      some false
     else
      ((laws_markRewriter_K10 y208 1).bind fun y619 =>
      (laws_markChecker_K10 y242 y619.1).bind fun y659 =>
      (if (decide ((y659.1:Int)<0))=true then
        some true
       else
        ((laws_eqChecker y284.1 y117.1).bind fun y711 =>
        some (!y711))).bind fun b710 =>
      if (b710||(y284.2 != y117.2))=true then
       some false
      else
       ((laws_markChecker_K10 y284.1 1).bind fun y774 =>
       (laws_heldChecker (⟨y284.1.Stack,y284.1.Start,y774.2.1,y774.2.2.1,y774.2.2.2.1,y774.2.2.2.2⟩:Checker) 1).bind fun y824 =>
       if (decide ((y824:Int)<0))=true then
        some false
       else
        (if (y824 != y774.1)=true then
         some false
        else
         ((laws_toRewriter_K0 p1).bind fun y858 =>
         (laws_toChecker_K0 p1_14).bind fun y892 =>
         (impl_PreimageChecker_K00 y858 y892).bind fun y934 =>
         (laws_eqChecker y934.1 y117.1).bind fun y1018 =>
         if ((!y1018)||(y934.2 != y117.2))=true then
          some false
         else
          ((laws_heldChecker (⟨y284.1.Stack,y284.1.Start,y774.2.1,y774.2.2.1,y774.2.2.2.1,y774.2.2.2.2⟩:Checker) 1).bind fun y1081 =>
          if (decide ((y1081:Int)<0))=true then
           some false
          else
           (if (y1081 != y774.1)=true then
            some false
           else
            some true))))))))))
end
end Go.Proofs.YtpchecdlbagedaaGreat.law
