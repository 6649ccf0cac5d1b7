import Derived.Test.YtmahhacghgkigaaGreatAe4
import Derived.Test.YtmahhacghgkigaaGreatAeT
set_option linter.unusedVariables false
set_option linter.unusedSimpArgs false
namespace Go.Proofs.YtmahhacghgkigaaGreat.law
open Go Go.Proofs Ae
set_option maxRecDepth 100000
set_option linter.unusedVariables false
noncomputable def Cf:Cfg:={ fn:=fnT.get,fnK:=fnKT.get,ty:=tyT.get,ext:=fun g=>bif Nat.beq g 119 then some (pureX φByte) else bif Nat.beq g 117 then some (pureX φGrow) else bif Nat.beq g 104 then some φSort else bif Nat.beq g 103 then some φCloneX else bif Nat.beq g 75 then some φDel else bif Nat.beq g 70 then some (pureX φJoin) else none }
structure Push where
 To:Int
 Put:Int
def csPush (x:Push):List (AV→Prop):=[(rI .i64) x.To,(rI .i64) x.Put]
def rPush (x:Push):AV→Prop:=rA (csPush x)
structure Checker where
 Stack:Int
 Start:Int
 Accept:List Bool
 Call:List (List Push)
 Return:List (List (List Int))
 Inner:List (List Int)
def csChecker (x:Checker):List (AV→Prop):=[(rI .i64) x.Stack,(rI .i64) x.Start,(rL rB 1) x.Accept,(rL (rL rPush 2) 1) x.Call,(rL (rL (rL (rI .i64) 1) 1) 1) x.Return,(rL (rL (rI .i64) 1) 1) x.Inner]
def rChecker (x:Checker):AV→Prop:=rA (csChecker x)
structure Stream where
 Checker:Checker
 Pieces:List (List UInt8)
def csStream (x:Stream):List (AV→Prop):=[(rI .i64) x.Checker.Stack,(rI .i64) x.Checker.Start,(rL rB 1) x.Checker.Accept,(rL (rL rPush 2) 1) x.Checker.Call,(rL (rL (rL (rI .i64) 1) 1) 1) x.Checker.Return,(rL (rL (rI .i64) 1) 1) x.Checker.Inner,(rL rS 1) x.Pieces]
def rStream (x:Stream):AV→Prop:=rA (csStream x)
structure Deed where
 Kind:Int
 A:Int
 B:Int
def csDeed (x:Deed):List (AV→Prop):=[(rI .i64) x.Kind,(rI .i64) x.A,(rI .i64) x.B]
def rDeed (x:Deed):AV→Prop:=rA (csDeed x)
structure Desk where
 Read:Int
 State:Int
 Stack:List Int
 Waiting:List Int
def csDesk (x:Desk):List (AV→Prop):=[(rI .i64) x.Read,(rI .i64) x.State,(rL (rI .i64) 1) x.Stack,(rL (rI .i64) 1) x.Waiting]
def rDesk (x:Desk):AV→Prop:=rA (csDesk x)
structure Parcel where
 First:Int
 Texts:List (List UInt8)
def csParcel (x:Parcel):List (AV→Prop):=[(rI .i64) x.First,(rL rS 1) x.Texts]
def rParcel (x:Parcel):AV→Prop:=rA (csParcel x)
structure Plant where
 Desk_:Desk
 Saved:Desk
 Wire:List Parcel
def csPlant (x:Plant):List (AV→Prop):=[(rI .i64) x.Desk_.Read,(rI .i64) x.Desk_.State,(rL (rI .i64) 1) x.Desk_.Stack,(rL (rI .i64) 1) x.Desk_.Waiting,(rI .i64) x.Saved.Read,(rI .i64) x.Saved.State,(rL (rI .i64) 1) x.Saved.Stack,(rL (rI .i64) 1) x.Saved.Waiting,(rL rParcel 2) x.Wire]
def rPlant (x:Plant):AV→Prop:=rA (csPlant x)
structure L08Run where
 v:Stream
 n:Plant
def csL08Run (x:L08Run):List (AV→Prop):=[(fun x=>rP (csStream x)) x.v,(rI .i64) x.n.Desk_.Read,(rI .i64) x.n.Desk_.State,(rL (rI .i64) 1) x.n.Desk_.Stack,(rL (rI .i64) 1) x.n.Desk_.Waiting,(rI .i64) x.n.Saved.Read,(rI .i64) x.n.Saved.State,(rL (rI .i64) 1) x.n.Saved.Stack,(rL (rI .i64) 1) x.n.Saved.Waiting,(rL rParcel 2) x.n.Wire]
def rL08Run (x:L08Run):AV→Prop:=rA (csL08Run x)
structure Works where
 Plant_:Plant
 stream:Stream
def csWorks (x:Works):List (AV→Prop):=[(rI .i64) x.Plant_.Desk_.Read,(rI .i64) x.Plant_.Desk_.State,(rL (rI .i64) 1) x.Plant_.Desk_.Stack,(rL (rI .i64) 1) x.Plant_.Desk_.Waiting,(rI .i64) x.Plant_.Saved.Read,(rI .i64) x.Plant_.Saved.State,(rL (rI .i64) 1) x.Plant_.Saved.Stack,(rL (rI .i64) 1) x.Plant_.Saved.Waiting,(rL rParcel 2) x.Plant_.Wire,(rI .i64) x.stream.Checker.Stack,(rI .i64) x.stream.Checker.Start,(rL rB 1) x.stream.Checker.Accept,(rL (rL rPush 2) 1) x.stream.Checker.Call,(rL (rL (rL (rI .i64) 1) 1) 1) x.stream.Checker.Return,(rL (rL (rI .i64) 1) 1) x.stream.Checker.Inner,(rL rS 1) x.stream.Pieces]
def rWorks (x:Works):AV→Prop:=rA (csWorks x)
def bPush (x:Push):Prop:=(bI .i64) x.To∧(bI .i64) x.Put
def smPush (x:Push):Prop:=smT x.To∧smT x.Put
def bChecker (x:Checker):Prop:=(bI .i64) x.Stack∧(bI .i64) x.Start∧(bL bB) x.Accept∧(bL (bL bPush)) x.Call∧(bL (bL (bL (bI .i64)))) x.Return∧(bL (bL (bI .i64))) x.Inner
def smChecker (x:Checker):Prop:=smT x.Stack∧smT x.Start∧(smL smT) x.Accept∧(smL (smL smT)) x.Call∧(smL (smL (smL smT))) x.Return∧(smL (smL smT)) x.Inner
def bStream (x:Stream):Prop:=bChecker x.Checker∧(bL bS) x.Pieces
def smStream (x:Stream):Prop:=smChecker x.Checker∧(smL smS) x.Pieces
def bDeed (x:Deed):Prop:=(bI .i64) x.Kind∧(bI .i64) x.A∧(bI .i64) x.B
def smDeed (x:Deed):Prop:=smT x.Kind∧smT x.A∧smT x.B
def bDesk (x:Desk):Prop:=(bI .i64) x.Read∧(bI .i64) x.State∧(bL (bI .i64)) x.Stack∧(bL (bI .i64)) x.Waiting
def smDesk (x:Desk):Prop:=smT x.Read∧smT x.State∧(smL smT) x.Stack∧(smL smT) x.Waiting
def bParcel (x:Parcel):Prop:=(bI .i64) x.First∧(bL bS) x.Texts
def smParcel (x:Parcel):Prop:=smT x.First∧(smL smS) x.Texts
def bPlant (x:Plant):Prop:=bDesk x.Desk_∧bDesk x.Saved∧(bL bParcel) x.Wire
def smPlant (x:Plant):Prop:=smDesk x.Desk_∧smDesk x.Saved∧(smL smParcel) x.Wire
def bWorks (x:Works):Prop:=bPlant x.Plant_∧bStream x.stream
def smWorks (x:Works):Prop:=smPlant x.Plant_∧smStream x.stream

noncomputable def laws_szBoolS (a1:List Bool) (left6:Int):Option Int :=
 if (decide ((IntKind.wrap .i64 (left6 - (a1.length:Int)):Int)<0))=true then
  some (-1)
 else
  some (IntKind.wrap .i64 (left6 - (a1.length:Int)))

noncomputable def laws_szPushS (a1:List Push) (left6:Int):Option Int :=
 if (decide ((IntKind.wrap .i64 (left6 - (a1.length:Int)):Int)<0))=true then
  some (-1)
 else
  some (IntKind.wrap .i64 (left6 - (a1.length:Int)))

noncomputable def laws_szPushSS_J1 (left8:Int):Option Int :=
 some left8
noncomputable def laws_szPushSS_S1 (a1:List (List Push)):(Int × Int)→Option ((Int × Int) ⊕ Int):=fun (left10,i11) =>
 if (decide ((i11:Int)<(a1.length:Int)))=true then
  ((ix a1 i11).bind fun x13 =>
  (laws_szPushS x13 left10).bind fun y22 =>
  if (decide ((y22:Int)<0))=true then
   some (.inr ((-1)))
  else
   some (.inl (y22,IntKind.wrap .i64 (i11+1))))
 else
  ((laws_szPushSS_J1 left10).map Sum.inr)
noncomputable def laws_szPushSS (a1:List (List Push)) (left6:Int):Option Int :=
 if (decide ((IntKind.wrap .i64 (left6 - (a1.length:Int)):Int)<0))=true then
  some (-1)
 else
  loop (laws_szPushSS_S1 a1) (IntKind.wrap .i64 (left6 - (a1.length:Int)),0)

noncomputable def laws_szInt64S (a1:List Int) (left6:Int):Option Int :=
 if (decide ((IntKind.wrap .i64 (left6 - (a1.length:Int)):Int)<0))=true then
  some (-1)
 else
  some (IntKind.wrap .i64 (left6 - (a1.length:Int)))

noncomputable def laws_szInt64SS_J1 (left8:Int):Option Int :=
 some left8
noncomputable def laws_szInt64SS_S1 (a1:List (List Int)):(Int × Int)→Option ((Int × Int) ⊕ Int):=fun (left10,i11) =>
 if (decide ((i11:Int)<(a1.length:Int)))=true then
  ((ix a1 i11).bind fun x13 =>
  (laws_szInt64S x13 left10).bind fun y22 =>
  if (decide ((y22:Int)<0))=true then
   some (.inr ((-1)))
  else
   some (.inl (y22,IntKind.wrap .i64 (i11+1))))
 else
  ((laws_szInt64SS_J1 left10).map Sum.inr)
noncomputable def laws_szInt64SS (a1:List (List Int)) (left6:Int):Option Int :=
 if (decide ((IntKind.wrap .i64 (left6 - (a1.length:Int)):Int)<0))=true then
  some (-1)
 else
  loop (laws_szInt64SS_S1 a1) (IntKind.wrap .i64 (left6 - (a1.length:Int)),0)

noncomputable def laws_szInt64SSS_J1 (left8:Int):Option Int :=
 some left8
noncomputable def laws_szInt64SSS_S1 (a1:List (List (List Int))):(Int × Int)→Option ((Int × Int) ⊕ Int):=fun (left10,i11) =>
 if (decide ((i11:Int)<(a1.length:Int)))=true then
  ((ix a1 i11).bind fun x13 =>
  (laws_szInt64SS x13 left10).bind fun y22 =>
  if (decide ((y22:Int)<0))=true then
   some (.inr ((-1)))
  else
   some (.inl (y22,IntKind.wrap .i64 (i11+1))))
 else
  ((laws_szInt64SSS_J1 left10).map Sum.inr)
noncomputable def laws_szInt64SSS (a1:List (List (List Int))) (left6:Int):Option Int :=
 if (decide ((IntKind.wrap .i64 (left6 - (a1.length:Int)):Int)<0))=true then
  some (-1)
 else
  loop (laws_szInt64SSS_S1 a1) (IntKind.wrap .i64 (left6 - (a1.length:Int)),0)

noncomputable def laws_szChecker (a1:Checker) (left18:Int):Option Int :=
 (laws_szBoolS a1.Accept left18).bind fun y19 =>
 if (decide ((y19:Int)<0))=true then
  some (-1)
 else
  ((laws_szPushSS a1.Call y19).bind fun y24 =>
  if (decide ((y24:Int)<0))=true then
   some (-1)
  else
   ((laws_szInt64SSS a1.Return y24).bind fun y29 =>
   if (decide ((y29:Int)<0))=true then
    some (-1)
   else
    ((laws_szInt64SS a1.Inner y29).bind fun y34 =>
    if (decide ((y34:Int)<0))=true then
     some (-1)
    else
     some y34)))

noncomputable def laws_szStringS_J1 (left8:Int):Option Int :=
 some left8
noncomputable def laws_szStringS_S1 (a1:List (List UInt8)):(Int × Int)→Option ((Int × Int) ⊕ Int):=fun (left10,i11) =>
 if (decide ((i11:Int)<(a1.length:Int)))=true then
  ((ix a1 i11).bind fun x13 =>
  if (decide ((IntKind.wrap .i64 (left10 - (x13.length:Int)):Int)<0))=true then
   some (.inr ((-1)))
  else
   some (.inl (IntKind.wrap .i64 (left10 - (x13.length:Int)),IntKind.wrap .i64 (i11+1))))
 else
  ((laws_szStringS_J1 left10).map Sum.inr)
noncomputable def laws_szStringS (a1:List (List UInt8)) (left6:Int):Option Int :=
 if (decide ((IntKind.wrap .i64 (left6 - (a1.length:Int)):Int)<0))=true then
  some (-1)
 else
  loop (laws_szStringS_S1 a1) (IntKind.wrap .i64 (left6 - (a1.length:Int)),0)

noncomputable def laws_szStream (a1:Stream) (left22:Int):Option Int :=
 (laws_szChecker a1.Checker left22).bind fun y23 =>
 if (decide ((y23:Int)<0))=true then
  some (-1)
 else
  ((laws_szStringS a1.Pieces y23).bind fun y28 =>
  if (decide ((y28:Int)<0))=true then
   some (-1)
  else
   some y28)

noncomputable def laws_szDeedS (a1:List Deed) (left6:Int):Option Int :=
 if (decide ((IntKind.wrap .i64 (left6 - (a1.length:Int)):Int)<0))=true then
  some (-1)
 else
  some (IntKind.wrap .i64 (left6 - (a1.length:Int)))

noncomputable def laws_toBoolS_J1 (out13:List Bool):Option (List Bool) :=
 some out13
noncomputable def laws_toBoolS_S1 (a1:List Bool):((List Bool) × Int)→Option (((List Bool) × Int) ⊕ (List Bool)):=fun (out22,i28) =>
 if (decide ((i28:Int)<(a1.length:Int)))=true then
  ((ix a1 i28).bind fun x32 =>
  (ix out22 i28).bind fun x37 =>
  some (.inl ((out22.set (Int.toNat i28) x32),IntKind.wrap .i64 (i28+1))))
 else
  ((laws_toBoolS_J1 out22).map Sum.inr)
noncomputable def laws_toBoolS (a1:List Bool):Option (List Bool) :=
 (mk (false:Bool) (a1.length:Int)).bind fun l6 =>
 loop (laws_toBoolS_S1 a1) (l6,0)

noncomputable def laws_toPush (a1:Push):Option Push :=
 some a1

noncomputable def laws_toPushS_J1 (out13:List Push):Option (List Push) :=
 some out13
noncomputable def laws_toPushS_S1 (a1:List Push):((List Push) × Int)→Option (((List Push) × Int) ⊕ (List Push)):=fun (out22,i28) =>
 if (decide ((i28:Int)<(a1.length:Int)))=true then
  ((ix a1 i28).bind fun x32 =>
  (laws_toPush x32).bind fun y42 =>
  (ix out22 i28).bind fun x51 =>
  some (.inl ((out22.set (Int.toNat i28) y42),IntKind.wrap .i64 (i28+1))))
 else
  ((laws_toPushS_J1 out22).map Sum.inr)
noncomputable def laws_toPushS (a1:List Push):Option (List Push) :=
 (mk ((⟨0,0⟩:Push):Push) (a1.length:Int)).bind fun l6 =>
 loop (laws_toPushS_S1 a1) (l6,0)

noncomputable def laws_toPushSS_J1 (out13:List (List Push)):Option (List (List Push)) :=
 some out13
noncomputable def laws_toPushSS_S1 (a1:List (List Push)):((List (List Push)) × Int)→Option (((List (List Push)) × Int) ⊕ (List (List Push))):=fun (out22,i28) =>
 if (decide ((i28:Int)<(a1.length:Int)))=true then
  ((ix a1 i28).bind fun x32 =>
  (laws_toPushS x32).bind fun y41 =>
  (ix out22 i28).bind fun x49 =>
  some (.inl ((out22.set (Int.toNat i28) y41),IntKind.wrap .i64 (i28+1))))
 else
  ((laws_toPushSS_J1 out22).map Sum.inr)
noncomputable def laws_toPushSS (a1:List (List Push)):Option (List (List Push)) :=
 (mk (([]:List Push):List Push) (a1.length:Int)).bind fun l6 =>
 loop (laws_toPushSS_S1 a1) (l6,0)

noncomputable def laws_toInt64S_J1 (out13:List Int):Option (List Int) :=
 some out13
noncomputable def laws_toInt64S_S1 (a1:List Int):((List Int) × Int)→Option (((List Int) × Int) ⊕ (List Int)):=fun (out22,i28) =>
 if (decide ((i28:Int)<(a1.length:Int)))=true then
  ((ix a1 i28).bind fun x32 =>
  (ix out22 i28).bind fun x37 =>
  some (.inl ((out22.set (Int.toNat i28) x32),IntKind.wrap .i64 (i28+1))))
 else
  ((laws_toInt64S_J1 out22).map Sum.inr)
noncomputable def laws_toInt64S (a1:List Int):Option (List Int) :=
 (mk (0:Int) (a1.length:Int)).bind fun l6 =>
 loop (laws_toInt64S_S1 a1) (l6,0)

noncomputable def laws_toInt64SS_J1 (out13:List (List Int)):Option (List (List Int)) :=
 some out13
noncomputable def laws_toInt64SS_S1 (a1:List (List Int)):((List (List Int)) × Int)→Option (((List (List Int)) × Int) ⊕ (List (List Int))):=fun (out22,i28) =>
 if (decide ((i28:Int)<(a1.length:Int)))=true then
  ((ix a1 i28).bind fun x32 =>
  (laws_toInt64S x32).bind fun y41 =>
  (ix out22 i28).bind fun x49 =>
  some (.inl ((out22.set (Int.toNat i28) y41),IntKind.wrap .i64 (i28+1))))
 else
  ((laws_toInt64SS_J1 out22).map Sum.inr)
noncomputable def laws_toInt64SS (a1:List (List Int)):Option (List (List Int)) :=
 (mk (([]:List Int):List Int) (a1.length:Int)).bind fun l6 =>
 loop (laws_toInt64SS_S1 a1) (l6,0)

noncomputable def laws_toInt64SSS_J1 (out13:List (List (List Int))):Option (List (List (List Int))) :=
 some out13
noncomputable def laws_toInt64SSS_S1 (a1:List (List (List Int))):((List (List (List Int))) × Int)→Option (((List (List (List Int))) × Int) ⊕ (List (List (List Int)))):=fun (out22,i28) =>
 if (decide ((i28:Int)<(a1.length:Int)))=true then
  ((ix a1 i28).bind fun x32 =>
  (laws_toInt64SS x32).bind fun y41 =>
  (ix out22 i28).bind fun x49 =>
  some (.inl ((out22.set (Int.toNat i28) y41),IntKind.wrap .i64 (i28+1))))
 else
  ((laws_toInt64SSS_J1 out22).map Sum.inr)
noncomputable def laws_toInt64SSS (a1:List (List (List Int))):Option (List (List (List Int))) :=
 (mk (([]:List (List Int)):List (List Int)) (a1.length:Int)).bind fun l6 =>
 loop (laws_toInt64SSS_S1 a1) (l6,0)

noncomputable def laws_toChecker (a1:Checker):Option Checker :=
 (laws_toBoolS a1.Accept).bind fun y31 =>
 (laws_toPushSS a1.Call).bind fun y44 =>
 (laws_toInt64SSS a1.Return).bind fun y57 =>
 (laws_toInt64SS a1.Inner).bind fun y70 =>
 some (⟨a1.Stack,a1.Start,y31,y44,y57,y70⟩:Checker)

noncomputable def laws_toStringS_J1 (out13:List (List UInt8)):Option (List (List UInt8)) :=
 some out13
noncomputable def laws_toStringS_S1 (a1:List (List UInt8)):((List (List UInt8)) × Int)→Option (((List (List UInt8)) × Int) ⊕ (List (List UInt8))):=fun (out22,i28) =>
 if (decide ((i28:Int)<(a1.length:Int)))=true then
  ((ix a1 i28).bind fun x32 =>
  (ix out22 i28).bind fun x37 =>
  some (.inl ((out22.set (Int.toNat i28) x32),IntKind.wrap .i64 (i28+1))))
 else
  ((laws_toStringS_J1 out22).map Sum.inr)
noncomputable def laws_toStringS (a1:List (List UInt8)):Option (List (List UInt8)) :=
 (mk (([]:List UInt8):List UInt8) (a1.length:Int)).bind fun l6 =>
 loop (laws_toStringS_S1 a1) (l6,0)

noncomputable def laws_toStream (a1:Stream):Option Stream :=
 (laws_toChecker a1.Checker).bind fun y25 =>
 (laws_toStringS a1.Pieces).bind fun y63 =>
 some (⟨y25,y63⟩:Stream)

noncomputable def laws_toDeed (a1:Deed):Option Deed :=
 some a1

noncomputable def laws_toDeedS_J1 (out13:List Deed):Option (List Deed) :=
 some out13
noncomputable def laws_toDeedS_S1 (a1:List Deed):((List Deed) × Int)→Option (((List Deed) × Int) ⊕ (List Deed)):=fun (out22,i28) =>
 if (decide ((i28:Int)<(a1.length:Int)))=true then
  ((ix a1 i28).bind fun x32 =>
  (laws_toDeed x32).bind fun y44 =>
  (ix out22 i28).bind fun x55 =>
  some (.inl ((out22.set (Int.toNat i28) y44),IntKind.wrap .i64 (i28+1))))
 else
  ((laws_toDeedS_J1 out22).map Sum.inr)
noncomputable def laws_toDeedS (a1:List Deed):Option (List Deed) :=
 (mk ((⟨0,0,0⟩:Deed):Deed) (a1.length:Int)).bind fun l6 =>
 loop (laws_toDeedS_S1 a1) (l6,0)

noncomputable def spec_l00In (n1:Int) (low2:Int) (high3:Int):Option Bool :=
 some ((decide ((n1:Int)≥low2))&&(decide ((n1:Int)≤high3)))

noncomputable def spec_l02List_J1:Option Bool :=
 some true
noncomputable def spec_l02List_S1 (list1:List Int) (n7:Int):Int→Option (Int ⊕ Bool):=fun i10 =>
 if (decide ((i10:Int)<(list1.length:Int)))=true then
  ((ix list1 i10).bind fun x12 =>
  (spec_l00In x12 0 (IntKind.wrap .i64 (n7 - 1))).bind fun y17 =>
  if (!y17)=true then
   some (.inr (false))
  else
   some (.inl (IntKind.wrap .i64 (i10+1))))
 else
  ((spec_l02List_J1).map Sum.inr)
noncomputable def spec_l02List (list1:List Int) (length6:Int) (n7:Int):Option Bool :=
 if ((list1.length:Int) != length6)=true then
  some false
 else
  loop (spec_l02List_S1 list1 n7) (0)

noncomputable def spec_l02Ok_w0_7_J1:Option Bool :=
 some true
noncomputable def spec_l02Ok_w0_7_J2 (t40:Int):Option (Int ⊕ Bool) :=
 some (.inl (IntKind.wrap .i64 (t40+1)))
noncomputable def spec_l02Ok_w0_7_S2 (p1:Checker) (t40:Int):Int→Option (Int ⊕ (Int ⊕ Bool)):=fun t79 =>
 if (decide ((t79:Int)<2))=true then
  ((ix p1.Call t40).bind fun x81 =>
  (ix x81 t79).bind fun x90 =>
  (spec_l00In x90.To 0 (IntKind.wrap .i64 ((p1.Accept.length:Int) - 1))).bind fun y100 =>
  (if (!y100)=true then
    some true
   else
    ((ix p1.Call t40).bind fun x106 =>
    (ix x106 t79).bind fun x115 =>
    (spec_l00In x115.Put 0 (IntKind.wrap .i64 (p1.Stack - 1))).bind fun y125 =>
    some (!y125))).bind fun b105 =>
  (if b105=true then
    some true
   else
    ((ix p1.Return t40).bind fun x131 =>
    (ix x131 t79).bind fun x140 =>
    (spec_l02List x140 (IntKind.wrap .i64 (p1.Stack+1)) (p1.Accept.length:Int)).bind fun y149 =>
    some (!y149))).bind fun b130 =>
  if b130=true then
   some (.inr (.inr (false)))
  else
   some (.inl (IntKind.wrap .i64 (t79+1))))
 else
  ((spec_l02Ok_w0_7_J2 t40).map Sum.inr)
noncomputable def spec_l02Ok_w0_7_S1 (p1:Checker):Int→Option (Int ⊕ Bool):=fun t40 =>
 if (decide ((t40:Int)<(p1.Accept.length:Int)))=true then
  ((ix p1.Call t40).bind fun x42 =>
  (if ((x42.length:Int) != 2)=true then
    some true
   else
    ((ix p1.Return t40).bind fun x53 =>
    some ((x53.length:Int) != 2))).bind fun b52 =>
  (if b52=true then
    some true
   else
    ((ix p1.Inner t40).bind fun x64 =>
    (spec_l02List x64 2 (p1.Accept.length:Int)).bind fun y73 =>
    some (!y73))).bind fun b63 =>
  if b63=true then
   some (.inr (false))
  else
   loop (spec_l02Ok_w0_7_S2 p1 t40) (0))
 else
  ((spec_l02Ok_w0_7_J1).map Sum.inr)
noncomputable def spec_l02Ok_w0_7 (p1:Checker):Option Bool :=
 (spec_l00In (p1.Accept.length:Int) 1 40).bind fun y19 =>
 (if (!y19)=true then
   some true
  else
   ((spec_l00In p1.Stack 1 80).bind fun y25 =>
   some (!y25))).bind fun b24 =>
 (if b24=true then
   some true
  else
   ((spec_l00In p1.Start 0 (IntKind.wrap .i64 ((p1.Accept.length:Int) - 1))).bind fun y31 =>
   some (!y31))).bind fun b30 =>
 if (((b30||((p1.Call.length:Int) != (p1.Accept.length:Int)))||((p1.Return.length:Int) != (p1.Accept.length:Int)))||((p1.Inner.length:Int) != (p1.Accept.length:Int)))=true then
  some false
 else
  loop (spec_l02Ok_w0_7_S1 p1) (0)

noncomputable def spec_l01Symbol_J1:Option Int :=
 some (-1)
noncomputable def spec_l01Symbol_S1 (b1:Int):Int→Option (Int ⊕ Int):=fun k3 =>
 if (decide ((k3:Int)<6))=true then
  ((chr ([40,91,41,93,97,98]:List UInt8) k3).bind fun c5 =>
  if (c5 == b1)=true then
   some (.inr (k3))
  else
   some (.inl (IntKind.wrap .i64 (k3+1))))
 else
  ((spec_l01Symbol_J1).map Sum.inr)
noncomputable def spec_l01Symbol (b1:Int):Option Int :=
 loop (spec_l01Symbol_S1 b1) (0)

noncomputable def spec_l01Ok_J1 (w1:List UInt8):Option Bool :=
 some (decide (((w1.length:Int):Int)≤60))
noncomputable def spec_l01Ok_S1 (w1:List UInt8):Int→Option (Int ⊕ Bool):=fun i3 =>
 if (decide ((i3:Int)<(w1.length:Int)))=true then
  ((chr w1 i3).bind fun c5 =>
  (spec_l01Symbol c5).bind fun y7 =>
  if (decide ((y7:Int)<0))=true then
   some (.inr (false))
  else
   some (.inl (IntKind.wrap .i64 (i3+1))))
 else
  ((spec_l01Ok_J1 w1).map Sum.inr)
noncomputable def spec_l01Ok (w1:List UInt8):Option Bool :=
 loop (spec_l01Ok_S1 w1) (0)

noncomputable def spec_l08Whole_J1 (out6:List UInt8):Option (List UInt8) :=
 some out6
noncomputable def spec_l08Whole_S1 (pieces1:List (List UInt8)):((List UInt8) × Int)→Option (((List UInt8) × Int) ⊕ (List UInt8)):=fun (out8,i9) =>
 if (decide ((i9:Int)<(pieces1.length:Int)))=true then
  ((ix pieces1 i9).bind fun x11 =>
  (app out8 x11).bind fun w16 =>
  some (.inl (w16,IntKind.wrap .i64 (i9+1))))
 else
  ((spec_l08Whole_J1 out8).map Sum.inr)
noncomputable def spec_l08Whole (pieces1:List (List UInt8)):Option (List UInt8) :=
 loop (spec_l08Whole_S1 pieces1) (([]:List UInt8),0)

noncomputable def spec_l08Ok_J1 (v1:Stream):Option Bool :=
 (spec_l08Whole v1.Pieces).bind fun y34 =>
 (spec_l01Ok y34).bind fun y38 =>
 some y38
noncomputable def spec_l08Ok_S1 (v1:Stream):Int→Option (Int ⊕ Bool):=fun i42 =>
 if (decide ((i42:Int)<(v1.Pieces.length:Int)))=true then
  ((ix v1.Pieces i42).bind fun x44 =>
  (spec_l01Ok x44).bind fun y49 =>
  if (!y49)=true then
   some (.inr (false))
  else
   some (.inl (IntKind.wrap .i64 (i42+1))))
 else
  ((spec_l08Ok_J1 v1).map Sum.inr)
noncomputable def spec_l08Ok (v1:Stream):Option Bool :=
 (spec_l02Ok_w0_7 v1.Checker).bind fun y22 =>
 (if (!y22)=true then
   some true
  else
   ((spec_l00In (v1.Pieces.length:Int) 1 20).bind fun y28 =>
   some (!y28))).bind fun b27 =>
 if b27=true then
  some false
 else
  loop (spec_l08Ok_S1 v1) (0)

noncomputable def spec_l08Words:Option ((List (List UInt8)) × (List Int)) :=
 some (([([]:List UInt8),([115,101,110,100]:List UInt8),([100,101,108,105,118,101,114]:List UInt8),([99,111,112,121]:List UInt8),([100,114,111,112]:List UInt8),([115,97,118,101]:List UInt8),([99,114,97,115,104]:List UInt8)]:List (List UInt8)),([0,2,1,1,1,0,0]:List Int))

noncomputable def spec_l08Deed (d1:Deed):Option Bool :=
 (spec_l00In d1.Kind 1 6).bind fun y2 =>
 (if (!y2)=true then
   some true
  else
   ((spec_l00In d1.A 0 999).bind fun y8 =>
   some (!y8))).bind fun b7 =>
 (if b7=true then
   some true
  else
   ((spec_l00In d1.B 0 999).bind fun y14 =>
   some (!y14))).bind fun b13 =>
 if b13=true then
  some false
 else
  ((spec_l08Words ).bind fun y19 =>
  (ix y19.2 d1.Kind).bind fun x36 =>
  (if ((decide ((x36:Int)>0))||(d1.A == 0))=true then
    ((ix y19.2 d1.Kind).bind fun x44 =>
    some ((decide ((x44:Int)>1))||(d1.B == 0)))
   else
    some false).bind fun b43 =>
  some b43)

noncomputable def spec_l08Asked_J1 (deeds22:List Deed):Option Int :=
 if (decide (((deeds22.length:Int):Int)>300))=true then
  some 2
 else
  some 0
noncomputable def spec_l08Asked_S1 (deeds22:List Deed):Int→Option (Int ⊕ Int):=fun i34 =>
 if (decide ((i34:Int)<(deeds22.length:Int)))=true then
  ((ix deeds22 i34).bind fun x36 =>
  (spec_l08Deed x36).bind fun y48 =>
  if (!y48)=true then
   some (.inr (1))
  else
   some (.inl (IntKind.wrap .i64 (i34+1))))
 else
  ((spec_l08Asked_J1 deeds22).map Sum.inr)
noncomputable def spec_l08Asked (v1:Stream) (deeds22:List Deed):Option Int :=
 (spec_l08Ok v1).bind fun y27 =>
 if (!y27)=true then
  some 1
 else
  loop (spec_l08Asked_S1 deeds22) (0)

noncomputable def spec_l08Begin_K0 (v1:Stream):Option L08Run :=
 some (⟨v1,(⟨(⟨0,v1.Checker.Start,([]:List Int),([]:List Int)⟩:Desk),(⟨0,v1.Checker.Start,([]:List Int),([]:List Int)⟩:Desk),([]:List Parcel)⟩:Plant)⟩:L08Run)

noncomputable def spec_l00Own (list1:List Int):Option (List Int) :=
 (app ([]:List Int) list1).bind fun l6 =>
 some l6

noncomputable def spec_l08Copy_F1 (d14:Stream) (d125:Int) (d126:Int) (d127:List Int) (d132:List Int) (d137:Int) (d138:Int) (d139:List Int) (d144:List Int) (d149:List Parcel):Option Desk :=
 (spec_l00Own d127).bind fun y55 =>
 (spec_l00Own d132).bind fun y63 =>
 some (⟨d125,d126,y55,y63⟩:Desk)

noncomputable def spec_l08Copy_F2 (d14:Stream) (d125:Int) (d126:Int) (d127:List Int) (d132:List Int) (d137:Int) (d138:Int) (d139:List Int) (d144:List Int) (d149:List Parcel):Option Desk :=
 (spec_l00Own d139).bind fun y55 =>
 (spec_l00Own d144).bind fun y63 =>
 some (⟨d137,d138,y55,y63⟩:Desk)

noncomputable def spec_l00Has_J1:Option Bool :=
 some false
noncomputable def spec_l00Has_S1 (list1:List Int) (n6:Int):Int→Option (Int ⊕ Bool):=fun i8 =>
 if (decide ((i8:Int)<(list1.length:Int)))=true then
  ((ix list1 i8).bind fun x10 =>
  if (x10 == n6)=true then
   some (.inr (true))
  else
   some (.inl (IntKind.wrap .i64 (i8+1))))
 else
  ((spec_l00Has_J1).map Sum.inr)
noncomputable def spec_l00Has (list1:List Int) (n6:Int):Option Bool :=
 loop (spec_l00Has_S1 list1 n6) (0)

noncomputable def spec_l00Put_J2 (out16:List Int):Option (List Int) :=
 some out16
noncomputable def spec_l00Put_J1 (n6:Int) (out7:List Int) (done14:Bool):Option (List Int) :=
 if (!done14)=true then
  ((app out7 ([n6]:List Int)).bind fun l25 =>
  spec_l00Put_J2 l25)
 else
  spec_l00Put_J2 out7
noncomputable def spec_l00Put_J3 (list1:List Int) (i37:Int) (out46:List Int) (done53:Bool):Option (((List Int) × Bool × Int) ⊕ (List Int)) :=
 (ix list1 i37).bind fun x55 =>
 (app out46 ([x55]:List Int)).bind fun l60 =>
 some (.inl (l60,done53,IntKind.wrap .i64 (i37+1)))
noncomputable def spec_l00Put_S1 (list1:List Int) (n6:Int):((List Int) × Bool × Int)→Option (((List Int) × Bool × Int) ⊕ (List Int)):=fun (out29,done36,i37) =>
 if (decide ((i37:Int)<(list1.length:Int)))=true then
  ((if (!done36)=true then
    ((ix list1 i37).bind fun x41 =>
    some (decide ((x41:Int)≥n6)))
   else
    some false).bind fun b40 =>
  if b40=true then
   ((ix list1 i37).bind fun x65 =>
   if (decide ((x65:Int)>n6))=true then
    ((app out29 ([n6]:List Int)).bind fun l71 =>
    spec_l00Put_J3 list1 i37 l71 true)
   else
    spec_l00Put_J3 list1 i37 out29 true)
  else
   spec_l00Put_J3 list1 i37 out29 done36)
 else
  ((spec_l00Put_J1 n6 out29 done36).map Sum.inr)
noncomputable def spec_l00Put (list1:List Int) (n6:Int):Option (List Int) :=
 loop (spec_l00Put_S1 list1 n6) (([]:List Int),false,0)

noncomputable def spec_l02Step_w0_7ppp (p1:Checker) (p1_19:Int) (p2_20:List Int) (p3_25:Int):Option (Int × (List Int)) :=
 (spec_l01Symbol p3_25).bind fun y26 =>
 if (decide ((y26:Int)<2))=true then
  ((ix p1.Call p1_19).bind fun x31 =>
  (ix x31 y26).bind fun x40 =>
  (spec_l00Own p2_20).bind fun y50 =>
  (app y50 ([x40.Put]:List Int)).bind fun l58 =>
  some (x40.To,l58))
 else
  (if ((decide ((y26:Int)<4))&&((p2_20.length:Int) == 0))=true then
   ((ix p1.Return p1_19).bind fun x64 =>
   (ix x64 (IntKind.wrap .i64 (y26 - 2))).bind fun x73 =>
   (ix x73 p1.Stack).bind fun x82 =>
   some (x82,([]:List Int)))
  else
   (if (decide ((y26:Int)<4))=true then
    ((ix p1.Return p1_19).bind fun x88 =>
    (ix x88 (IntKind.wrap .i64 (y26 - 2))).bind fun x97 =>
    (ix p2_20 (IntKind.wrap .i64 ((p2_20.length:Int) - 1))).bind fun x106 =>
    (ix x97 x106).bind fun x111 =>
    (cut p2_20 0 (IntKind.wrap .i64 ((p2_20.length:Int) - 1))).bind fun l116 =>
    (spec_l00Own l116).bind fun y122 =>
    some (x111,y122))
   else
    ((ix p1.Inner p1_19).bind fun x130 =>
    (ix x130 (IntKind.wrap .i64 (y26 - 4))).bind fun x139 =>
    some (x139,p2_20))))

noncomputable def spec_l02Go_w0_7ppp_J1 (state26:Int) (stack27:List Int):Option (Int × (List Int)) :=
 some (state26,stack27)
noncomputable def spec_l02Go_w0_7ppp_S1 (c1:Checker) (w25:List UInt8):(Int × (List Int) × Int)→Option ((Int × (List Int) × Int) ⊕ (Int × (List Int))):=fun (state33,stack34,i39) =>
 if (decide ((i39:Int)<(w25.length:Int)))=true then
  ((chr w25 i39).bind fun c41 =>
  (spec_l02Step_w0_7ppp c1 state33 stack34 c41).bind fun y43 =>
  some (.inl (y43.1,y43.2,IntKind.wrap .i64 (i39+1))))
 else
  ((spec_l02Go_w0_7ppp_J1 state33 stack34).map Sum.inr)
noncomputable def spec_l02Go_w0_7ppp (c1:Checker) (state19:Int) (stack20:List Int) (w25:List UInt8):Option (Int × (List Int)) :=
 loop (spec_l02Go_w0_7ppp_S1 c1 w25) (state19,stack20,0)

noncomputable def spec_l08Run_come_F1_J2 (m71:Int) (m72:Int) (m73:List Int) (m78:List Int):Option (Unit × Int × Int × (List Int) × (List Int)) :=
 some ((),m71,m72,m73,m78)
noncomputable def spec_l08Run_come_F1_S1 (p14:Stream):(Int × Int × (List Int) × (List Int))→Option ((Int × Int × (List Int) × (List Int)) ⊕ (Unit × Int × Int × (List Int) × (List Int))):=fun (m88,m89,m90,m95) =>
 (if (decide (((m95.length:Int):Int)>0))=true then
   ((ix m95 0).bind fun x105 =>
   some (x105 == m88))
  else
   some false).bind fun b104 =>
 if b104=true then
  ((spec_l00Own m90).bind fun y111 =>
  (ix p14.Pieces m88).bind fun x119 =>
  (spec_l02Go_w0_7ppp p14.Checker m89 y111 x119).bind fun y124 =>
  (cut m95 1 m95.length).bind fun l147 =>
  (spec_l00Own l147).bind fun y153 =>
  some (.inl (IntKind.wrap .i64 (m88+1),y124.1,y124.2,y153)))
 else
  ((spec_l08Run_come_F1_J2 m88 m89 m90 m95).map Sum.inr)
noncomputable def spec_l08Run_come_F1_J1 (p14:Stream) (p125:Int) (p126:Int) (p127:List Int) (m61:List Int):Option (Unit × Int × Int × (List Int) × (List Int)) :=
 loop (spec_l08Run_come_F1_S1 p14) (p125,p126,p127,m61)
noncomputable def spec_l08Run_come_F1_J3 (t179:Int) (m190:List Int):Option (((List Int) × Int) ⊕ (Unit × Int × Int × (List Int) × (List Int))) :=
 some (.inl (m190,IntKind.wrap .i64 (t179+1)))
noncomputable def spec_l08Run_come_F1_S2 (p14:Stream) (p125:Int) (p126:Int) (p127:List Int) (p1_55:Parcel):((List Int) × Int)→Option (((List Int) × Int) ⊕ (Unit × Int × Int × (List Int) × (List Int))):=fun (m173,t179) =>
 if (decide ((t179:Int)<(p1_55.Texts.length:Int)))=true then
  ((if (decide ((IntKind.wrap .i64 (p1_55.First+t179):Int)≥p125))=true then
    ((spec_l00Has m173 (IntKind.wrap .i64 (p1_55.First+t179))).bind fun y185 =>
    some (!y185))
   else
    some false).bind fun b184 =>
  if b184=true then
   ((spec_l00Own m173).bind fun y200 =>
   (spec_l00Put y200 (IntKind.wrap .i64 (p1_55.First+t179))).bind fun y208 =>
   spec_l08Run_come_F1_J3 t179 y208)
  else
   spec_l08Run_come_F1_J3 t179 m173)
 else
  ((spec_l08Run_come_F1_J1 p14 p125 p126 p127 m173).map Sum.inr)
noncomputable def spec_l08Run_come_F1 (p14:Stream) (p125:Int) (p126:Int) (p127:List Int) (p132:List Int) (p137:Int) (p138:Int) (p139:List Int) (p144:List Int) (p149:List Parcel) (p1_55:Parcel):Option (Unit × Int × Int × (List Int) × (List Int)) :=
 loop (spec_l08Run_come_F1_S2 p14 p125 p126 p127 p1_55) (p132,0)

noncomputable def spec_l08Run_wire_F1_J2 (m72:Int) (m73:Int) (m74:List Int) (m79:List Int) (m89:List Parcel):Option (Int × Int × Int × (List Int) × (List Int) × (List Parcel)) :=
 some (0,m72,m73,m74,m79,m89)
noncomputable def spec_l08Run_wire_F1_J1 (r149:List Parcel) (d55:Deed) (m72:Int) (m73:Int) (m74:List Int) (m79:List Int):Option (Int × Int × Int × (List Int) × (List Int) × (List Parcel)) :=
 if (d55.Kind != 3)=true then
  ((cut r149 (IntKind.wrap .i64 (d55.A+1)) r149.length).bind fun l99 =>
  (app ([]:List Parcel) l99).bind fun l105 =>
  (cut r149 0 d55.A).bind fun l109 =>
  (app ([]:List Parcel) l109).bind fun l115 =>
  (app l115 l105).bind fun l119 =>
  spec_l08Run_wire_F1_J2 m72 m73 m74 m79 l119)
 else
  spec_l08Run_wire_F1_J2 m72 m73 m74 m79 r149
noncomputable def spec_l08Run_wire_F1 (r14:Stream) (r125:Int) (r126:Int) (r127:List Int) (r132:List Int) (r137:Int) (r138:Int) (r139:List Int) (r144:List Int) (r149:List Parcel) (d55:Deed):Option (Int × Int × Int × (List Int) × (List Int) × (List Parcel)) :=
 if (decide ((d55.A:Int)≥(r149.length:Int)))=true then
  some (2,r125,r126,r127,r132,r149)
 else
  ((ix r149 d55.A).bind fun x57 =>
  if (d55.Kind != 4)=true then
   ((spec_l08Run_come_F1 r14 r125 r126 r127 r132 r137 r138 r139 r144 r149 x57).bind fun y129 =>
   spec_l08Run_wire_F1_J1 r149 d55 y129.2.1 y129.2.2.1 y129.2.2.2.1 y129.2.2.2.2)
  else
   spec_l08Run_wire_F1_J1 r149 d55 r125 r126 r127 r132)

noncomputable def spec_l08Run_do_F1_J1 (m57:Int) (m58:Int) (m59:List Int) (m64:List Int) (m69:Int) (m70:Int) (m71:List Int) (m76:List Int) (m81:List Parcel):Option (Int × Int × Int × (List Int) × (List Int) × Int × Int × (List Int) × (List Int) × (List Parcel)) :=
 some (0,m57,m58,m59,m64,m69,m70,m71,m76,m81)
noncomputable def spec_l08Run_do_F1 (p14:Stream) (p125:Int) (p126:Int) (p127:List Int) (p132:List Int) (p137:Int) (p138:Int) (p139:List Int) (p144:List Int) (p149:List Parcel) (p1_55:Deed):Option (Int × Int × Int × (List Int) × (List Int) × Int × Int × (List Int) × (List Int) × (List Parcel)) :=
 if (p1_55.Kind == 1)=true then
  (if ((decide ((p1_55.A:Int)>p1_55.B))||(decide ((p1_55.B:Int)≥(p14.Pieces.length:Int))))=true then
   some (2,p125,p126,p127,p132,p137,p138,p139,p144,p149)
  else
   (if ((p149.length:Int) == 12)=true then
    some (3,p125,p126,p127,p132,p137,p138,p139,p144,p149)
   else
    ((cut p14.Pieces p1_55.A (IntKind.wrap .i64 (p1_55.B+1))).bind fun l100 =>
    (app ([]:List (List UInt8)) l100).bind fun l106 =>
    (app p149 ([(⟨p1_55.A,l106⟩:Parcel)]:List Parcel)).bind fun l110 =>
    spec_l08Run_do_F1_J1 p125 p126 p127 p132 p137 p138 p139 p144 l110)))
 else
  (if (p1_55.Kind == 5)=true then
   ((spec_l08Copy_F1 p14 p125 p126 p127 p132 p137 p138 p139 p144 p149).bind fun y120 =>
   spec_l08Run_do_F1_J1 p125 p126 p127 p132 y120.Read y120.State y120.Stack y120.Waiting p149)
  else
   (if (p1_55.Kind == 6)=true then
    ((spec_l08Copy_F2 p14 p125 p126 p127 p132 p137 p138 p139 p144 p149).bind fun y153 =>
    spec_l08Run_do_F1_J1 y153.Read y153.State y153.Stack y153.Waiting p137 p138 p139 p144 p149)
   else
    ((spec_l08Run_wire_F1 p14 p125 p126 p127 p132 p137 p138 p139 p144 p149 p1_55).bind fun y185 =>
    some (y185.1,y185.2.1,y185.2.2.1,y185.2.2.2.1,y185.2.2.2.2.1,p137,p138,p139,p144,y185.2.2.2.2.2))))

noncomputable def spec_l08Play_K00_J1 (v1:Stream) (m62:Int) (m63:Int) (m64:List Int) (m69:List Int) (m74:Int) (m75:Int) (m76:List Int) (m81:List Int) (m86:List Parcel) (codes92:List Int):Option (L08Run × (List Int)) :=
 some ((⟨v1,(⟨(⟨m62,m63,m64,m69⟩:Desk),(⟨m74,m75,m76,m81⟩:Desk),m86⟩:Plant)⟩:L08Run),codes92)
noncomputable def spec_l08Play_K00_S1 (v1:Stream) (deeds22:List Deed):(Int × Int × (List Int) × (List Int) × Int × Int × (List Int) × (List Int) × (List Parcel) × (List Int) × Int)→Option ((Int × Int × (List Int) × (List Int) × Int × Int × (List Int) × (List Int) × (List Parcel) × (List Int) × Int) ⊕ (L08Run × (List Int))):=fun (m102,m103,m104,m109,m114,m115,m116,m121,m126,codes132,i136) =>
 if (decide ((i136:Int)<(deeds22.length:Int)))=true then
  ((ix deeds22 i136).bind fun x142 =>
  (spec_l08Run_do_F1 v1 m102 m103 m104 m109 m114 m115 m116 m121 m126 x142).bind fun y154 =>
  (app codes132 ([y154.1]:List Int)).bind fun l184 =>
  some (.inl (y154.2.1,y154.2.2.1,y154.2.2.2.1,y154.2.2.2.2.1,y154.2.2.2.2.2.1,y154.2.2.2.2.2.2.1,y154.2.2.2.2.2.2.2.1,y154.2.2.2.2.2.2.2.2.1,y154.2.2.2.2.2.2.2.2.2,l184,IntKind.wrap .i64 (i136+1))))
 else
  ((spec_l08Play_K00_J1 v1 m102 m103 m104 m109 m114 m115 m116 m121 m126 codes132).map Sum.inr)
noncomputable def spec_l08Play_K00 (v1:Stream) (deeds22:List Deed):Option (L08Run × (List Int)) :=
 (spec_l08Begin_K0 v1).bind fun y27 =>
 loop (spec_l08Play_K00_S1 v1 deeds22) (y27.n.Desk_.Read,y27.n.Desk_.State,y27.n.Desk_.Stack,y27.n.Desk_.Waiting,y27.n.Saved.Read,y27.n.Saved.State,y27.n.Saved.Stack,y27.n.Saved.Waiting,y27.n.Wire,([]:List Int),0)

noncomputable def spec_l02Used_F1_J1 (t26:List Int):Option (List Int) :=
 some t26
noncomputable def spec_l02Used_F1_J3 (t86:List Int) (t91:List Int):Option (((List Int) × (List Int)) ⊕ (List Int)) :=
 some (.inl (t86,t91))
noncomputable def spec_l02Used_F1_J4 (t113:Int) (t126:List Int) (t131:List Int):Option (((List Int) × (List Int) × Int) ⊕ (((List Int) × (List Int)) ⊕ (List Int))) :=
 some (.inl (t126,t131,IntKind.wrap .i64 (t113+1)))
noncomputable def spec_l02Used_F1_S2 (t78:List Int):((List Int) × (List Int) × Int)→Option (((List Int) × (List Int) × Int) ⊕ (((List Int) × (List Int)) ⊕ (List Int))):=fun (t101,t106,t113) =>
 if (decide ((t113:Int)<(t78.length:Int)))=true then
  ((ix t78 t113).bind fun x117 =>
  (spec_l00Has t101 x117).bind fun y122 =>
  if (!y122)=true then
   ((ix t78 t113).bind fun x142 =>
   (spec_l00Put t101 x142).bind fun y147 =>
   (ix t78 t113).bind fun x155 =>
   (app t106 ([x155]:List Int)).bind fun l160 =>
   spec_l02Used_F1_J4 t113 y147 l160)
  else
   spec_l02Used_F1_J4 t113 t101 t106)
 else
  ((spec_l02Used_F1_J3 t101 t106).map Sum.inr)
noncomputable def spec_l02Used_F1_J2 (t34:List Int) (l54:List Int) (t78:List Int):Option (((List Int) × (List Int)) ⊕ (List Int)) :=
 loop (spec_l02Used_F1_S2 t78) (t34,l54,0)
noncomputable def spec_l02Used_F1_S3 (p111:List (List Push)) (p116:List (List (List Int))) (t34:List Int) (x49:Int) (l54:List Int):((List Int) × Int)→Option (((List Int) × Int) ⊕ (((List Int) × (List Int)) ⊕ (List Int))):=fun (t167,t172) =>
 if (decide ((t172:Int)<2))=true then
  ((ix p111 x49).bind fun x176 =>
  (ix x176 t172).bind fun x185 =>
  (app t167 ([x185.To]:List Int)).bind fun l195 =>
  (ix p116 x49).bind fun x199 =>
  (ix x199 t172).bind fun x208 =>
  (app l195 x208).bind fun l217 =>
  some (.inl (l217,IntKind.wrap .i64 (t172+1))))
 else
  ((spec_l02Used_F1_J2 t34 l54 t167).map Sum.inr)
noncomputable def spec_l02Used_F1_S1 (p111:List (List Push)) (p116:List (List (List Int))) (p121:List (List Int)):((List Int) × (List Int))→Option (((List Int) × (List Int)) ⊕ (List Int)):=fun (t34,t39) =>
 if (decide (((t39.length:Int):Int)>0))=true then
  ((ix t39 0).bind fun x49 =>
  (cut t39 1 t39.length).bind fun l54 =>
  (ix p121 x49).bind fun x59 =>
  (spec_l00Own x59).bind fun y68 =>
  loop (spec_l02Used_F1_S3 p111 p116 t34 x49 l54) (y68,0))
 else
  ((spec_l02Used_F1_J1 t34).map Sum.inr)
noncomputable def spec_l02Used_F1 (p14:Int) (p15:Int) (p16:List Bool) (p111:List (List Push)) (p116:List (List (List Int))) (p121:List (List Int)):Option (List Int) :=
 loop (spec_l02Used_F1_S1 p111 p116 p121) (([p15]:List Int),([p15]:List Int))

noncomputable def spec_l08Lost_w0_7_J1 (out19:List Int):Option (List Int) :=
 some out19
noncomputable def spec_l08Lost_w0_7_J3 (s36:Int) (out72:List Int):Option (((List Int) × Int) ⊕ (List Int)) :=
 some (.inl (out72,IntKind.wrap .i64 (s36+1)))
noncomputable def spec_l08Lost_w0_7_J2 (out29:List Int) (s36:Int) (some68:Bool):Option (((List Int) × Int) ⊕ (List Int)) :=
 if (!some68)=true then
  ((app out29 ([s36]:List Int)).bind fun l83 =>
  spec_l08Lost_w0_7_J3 s36 l83)
 else
  spec_l08Lost_w0_7_J3 s36 out29
noncomputable def spec_l08Lost_w0_7_S2 (c1:Checker) (out29:List Int) (s36:Int) (y53:(List Int)):(Bool × Int)→Option ((Bool × Int) ⊕ (((List Int) × Int) ⊕ (List Int))):=fun (some89,i90) =>
 if (decide ((i90:Int)<(y53.length:Int)))=true then
  ((if some89=true then
    some true
   else
    ((ix y53 i90).bind fun x96 =>
    (ix c1.Accept x96).bind fun x101 =>
    some x101)).bind fun b95 =>
  some (.inl (b95,IntKind.wrap .i64 (i90+1))))
 else
  ((spec_l08Lost_w0_7_J2 out29 s36 some89).map Sum.inr)
noncomputable def spec_l08Lost_w0_7_S1 (c1:Checker):((List Int) × Int)→Option (((List Int) × Int) ⊕ (List Int)):=fun (out29,s36) =>
 if (decide ((s36:Int)<(c1.Accept.length:Int)))=true then
  ((spec_l02Used_F1 c1.Stack s36 c1.Accept c1.Call c1.Return c1.Inner).bind fun y53 =>
  loop (spec_l08Lost_w0_7_S2 c1 out29 s36 y53) (false,0))
 else
  ((spec_l08Lost_w0_7_J1 out29).map Sum.inr)
noncomputable def spec_l08Lost_w0_7 (c1:Checker):Option (List Int) :=
 loop (spec_l08Lost_w0_7_S1 c1) (([]:List Int),0)

noncomputable def spec_l08Run_verdict_F1 (r14:Stream) (r125:Int) (r126:Int) (r127:List Int) (r132:List Int) (r137:Int) (r138:Int) (r139:List Int) (r144:List Int) (r149:List Parcel):Option Int :=
 (if (r125 == (r14.Pieces.length:Int))=true then
   ((ix r14.Checker.Accept r126).bind fun x57 =>
   some x57)
  else
   some false).bind fun b56 =>
 if b56=true then
  some 1
 else
  ((if (r125 == (r14.Pieces.length:Int))=true then
    some true
   else
    ((spec_l08Lost_w0_7 r14.Checker).bind fun y65 =>
    (spec_l00Has y65 r126).bind fun y73 =>
    some y73)).bind fun b64 =>
  if b64=true then
   some 2
  else
   some 0)

noncomputable def spec_VerdictAfter (v1:Stream) (deeds22:List Deed):Option (Int × Int) :=
 (spec_l08Asked v1 deeds22).bind fun y27 =>
 if (y27 != 0)=true then
  some (0,y27)
 else
  ((spec_l08Play_K00 v1 deeds22).bind fun y32 =>
  (spec_l08Run_verdict_F1 v1 y32.1.n.Desk_.Read y32.1.n.Desk_.State y32.1.n.Desk_.Stack y32.1.n.Desk_.Waiting y32.1.n.Saved.Read y32.1.n.Saved.State y32.1.n.Saved.Stack y32.1.n.Saved.Waiting y32.1.n.Wire).bind fun y74 =>
  some (y74,0))

noncomputable def impl_size_bool (list1:List Bool):Option Int :=
 some (list1.length:Int)

noncomputable def impl_within (n1:Int) (low2:Int) (high3:Int):Option Bool :=
 some ((decide ((n1:Int)≥low2))&&(decide ((n1:Int)≤high3)))

noncomputable def impl_Checker_isState (c1:Checker) (s18:Int):Option Bool :=
 (impl_size_bool c1.Accept).bind fun y19 =>
 (impl_within s18 0 (IntKind.wrap .i64 (y19 - 1))).bind fun y23 =>
 some y23

noncomputable def impl_size_simpl_Push (list1:List (List Push)):Option Int :=
 some (list1.length:Int)

noncomputable def impl_size_s_int64 (list1:List (List (List Int))):Option Int :=
 some (list1.length:Int)

noncomputable def impl_size_sint64 (list1:List (List Int)):Option Int :=
 some (list1.length:Int)

noncomputable def impl_size_int64 (list1:List Int):Option Int :=
 some (list1.length:Int)

noncomputable def slices_IndexFunc_sint64_int64_J1:Option Int :=
 some (-1)
noncomputable def slices_IndexFunc_sint64_int64_S1 (s1:List Int) (f6:Int→Option Bool):Int→Option (Int ⊕ Int):=fun t11 =>
 if (decide ((t11:Int)<(s1.length:Int)))=true then
  ((ix s1 t11).bind fun x13 =>
  (f6 x13).bind fun y18 =>
  if y18=true then
   some (.inr (t11))
  else
   some (.inl (IntKind.wrap .i64 (t11+1))))
 else
  ((slices_IndexFunc_sint64_int64_J1).map Sum.inr)
noncomputable def slices_IndexFunc_sint64_int64 (s1:List Int) (f6:Int→Option Bool):Option Int :=
 loop (slices_IndexFunc_sint64_int64_S1 s1 f6) (0)

noncomputable def slices_ContainsFunc_sint64_int64 (s1:List Int) (f6:Int→Option Bool):Option Bool :=
 (slices_IndexFunc_sint64_int64 s1 f6).bind fun y10 =>
 some (decide ((y10:Int)≥0))

noncomputable def impl_ValidChecker_1_1 (s1:Int) (c2:Checker):Option Bool :=
 (impl_Checker_isState c2 s1).bind fun y19 =>
 some (!y19)

noncomputable def impl_ValidChecker_1 (list1:List Int) (many6:Int) (c7:Checker):Option Bool :=
 (impl_size_int64 list1).bind fun y24 =>
 (if (y24 == many6)=true then
   ((slices_ContainsFunc_sint64_int64 list1 (fun x=>impl_ValidChecker_1_1 x c7)).bind fun y33 =>
   some (!y33))
  else
   some false).bind fun b32 =>
 some b32

noncomputable def impl_Checker_isMark (c1:Checker) (x18:Int):Option Bool :=
 (impl_within x18 0 (IntKind.wrap .i64 (c1.Stack - 1))).bind fun y19 =>
 some y19

noncomputable def impl_ValidChecker_J1:Option Bool :=
 some true
noncomputable def impl_ValidChecker_J2 (t58:Int):Option (Int ⊕ Bool) :=
 some (.inl (IntKind.wrap .i64 (t58+1)))
noncomputable def impl_ValidChecker_S2 (p1:Checker) (t58:Int):Int→Option (Int ⊕ (Int ⊕ Bool)):=fun t97 =>
 if (decide ((t97:Int)<2))=true then
  ((ix p1.Call t58).bind fun x99 =>
  (ix x99 t97).bind fun x108 =>
  (impl_Checker_isState p1 x108.To).bind fun y118 =>
  (if (!y118)=true then
    some true
   else
    ((impl_Checker_isMark p1 x108.Put).bind fun y124 =>
    some (!y124))).bind fun b123 =>
  (if b123=true then
    some true
   else
    ((ix p1.Return t58).bind fun x130 =>
    (ix x130 t97).bind fun x139 =>
    (impl_ValidChecker_1 x139 (IntKind.wrap .i64 (p1.Stack+1)) p1).bind fun y148 =>
    some (!y148))).bind fun b129 =>
  if b129=true then
   some (.inr (.inr (false)))
  else
   some (.inl (IntKind.wrap .i64 (t97+1))))
 else
  ((impl_ValidChecker_J2 t58).map Sum.inr)
noncomputable def impl_ValidChecker_S1 (p1:Checker) (y18:Int):Int→Option (Int ⊕ Bool):=fun t58 =>
 if (decide ((t58:Int)<y18))=true then
  ((ix p1.Call t58).bind fun x60 =>
  (if ((x60.length:Int) != 2)=true then
    some true
   else
    ((ix p1.Return t58).bind fun x71 =>
    some ((x71.length:Int) != 2))).bind fun b70 =>
  (if b70=true then
    some true
   else
    ((ix p1.Inner t58).bind fun x82 =>
    (impl_ValidChecker_1 x82 2 p1).bind fun y91 =>
    some (!y91))).bind fun b81 =>
  if b81=true then
   some (.inr (false))
  else
   loop (impl_ValidChecker_S2 p1 t58) (0))
 else
  ((impl_ValidChecker_J1).map Sum.inr)
noncomputable def impl_ValidChecker (p1:Checker):Option Bool :=
 (impl_size_bool p1.Accept).bind fun y18 =>
 (impl_within y18 1 40).bind fun y22 =>
 (if (!y22)=true then
   some true
  else
   ((impl_within p1.Stack 1 80).bind fun y28 =>
   some (!y28))).bind fun b27 =>
 (if b27=true then
   some true
  else
   ((impl_Checker_isState p1 p1.Start).bind fun y34 =>
   some (!y34))).bind fun b33 =>
 (if b33=true then
   some true
  else
   ((impl_size_simpl_Push p1.Call).bind fun y40 =>
   some (y40 != y18))).bind fun b39 =>
 (if b39=true then
   some true
  else
   ((impl_size_s_int64 p1.Return).bind fun y46 =>
   some (y46 != y18))).bind fun b45 =>
 (if b45=true then
   some true
  else
   ((impl_size_sint64 p1.Inner).bind fun y52 =>
   some (y52 != y18))).bind fun b51 =>
 if b51=true then
  some false
 else
  loop (impl_ValidChecker_S1 p1 y18) (0)

noncomputable def impl_size_string (list1:List (List UInt8)):Option Int :=
 some (list1.length:Int)

noncomputable def slices_IndexFunc_sstring_string_J1:Option Int :=
 some (-1)
noncomputable def slices_IndexFunc_sstring_string_S1 (s1:List (List UInt8)) (f6:(List UInt8)→Option Bool):Int→Option (Int ⊕ Int):=fun t11 =>
 if (decide ((t11:Int)<(s1.length:Int)))=true then
  ((ix s1 t11).bind fun x13 =>
  (f6 x13).bind fun y18 =>
  if y18=true then
   some (.inr (t11))
  else
   some (.inl (IntKind.wrap .i64 (t11+1))))
 else
  ((slices_IndexFunc_sstring_string_J1).map Sum.inr)
noncomputable def slices_IndexFunc_sstring_string (s1:List (List UInt8)) (f6:(List UInt8)→Option Bool):Option Int :=
 loop (slices_IndexFunc_sstring_string_S1 s1 f6) (0)

noncomputable def slices_ContainsFunc_sstring_string (s1:List (List UInt8)) (f6:(List UInt8)→Option Bool):Option Bool :=
 (slices_IndexFunc_sstring_string s1 f6).bind fun y10 =>
 some (decide ((y10:Int)≥0))

noncomputable def internal_stringslite_IndexByte (s1:List UInt8) (c2:Int):Option Int :=
 (ixByteM s1 c2).bind fun y3 =>
 some y3

noncomputable def strings_IndexByte (s1:List UInt8) (c2:Int):Option Int :=
 (internal_stringslite_IndexByte s1 c2).bind fun y3 =>
 some y3

noncomputable def impl_ValidWord_J1 (w1:List UInt8):Option Bool :=
 some (decide (((w1.length:Int):Int)≤60))
noncomputable def impl_ValidWord_S1 (w1:List UInt8):Int→Option (Int ⊕ Bool):=fun t3 =>
 if (decide ((t3:Int)<(w1.length:Int)))=true then
  ((chr w1 t3).bind fun c5 =>
  (strings_IndexByte ([40,91,41,93,97,98]:List UInt8) c5).bind fun y7 =>
  if (decide ((y7:Int)<0))=true then
   some (.inr (false))
  else
   some (.inl (IntKind.wrap .i64 (t3+1))))
 else
  ((impl_ValidWord_J1 w1).map Sum.inr)
noncomputable def impl_ValidWord (w1:List UInt8):Option Bool :=
 loop (impl_ValidWord_S1 w1) (0)

noncomputable def impl_ValidStream_1 (w1:List UInt8):Option Bool :=
 (impl_ValidWord w1).bind fun y2 =>
 some (!y2)

noncomputable def impl_ValidStream (v1:Stream):Option Bool :=
 (impl_ValidChecker v1.Checker).bind fun y22 =>
 (if y22=true then
   ((impl_size_string v1.Pieces).bind fun y28 =>
   (impl_within y28 1 20).bind fun y32 =>
   some y32)
  else
   some false).bind fun b27 =>
 (if b27=true then
   ((slices_ContainsFunc_sstring_string v1.Pieces (fun x=>impl_ValidStream_1 x)).bind fun y38 =>
   some (!y38))
  else
   some false).bind fun b37 =>
 (if b37=true then
   ((joinS v1.Pieces ([]:List UInt8)).bind fun y44 =>
   (impl_ValidWord y44).bind fun y48 =>
   some y48)
  else
   some false).bind fun b43 =>
 some b43

noncomputable def slices_IndexFunc_simpl_Deed_impl_Deed_J1:Option Int :=
 some (-1)
noncomputable def slices_IndexFunc_simpl_Deed_impl_Deed_S1 (s1:List Deed) (f6:Deed→Option Bool):Int→Option (Int ⊕ Int):=fun t11 =>
 if (decide ((t11:Int)<(s1.length:Int)))=true then
  ((ix s1 t11).bind fun x13 =>
  (f6 x13).bind fun y25 =>
  if y25=true then
   some (.inr (t11))
  else
   some (.inl (IntKind.wrap .i64 (t11+1))))
 else
  ((slices_IndexFunc_simpl_Deed_impl_Deed_J1).map Sum.inr)
noncomputable def slices_IndexFunc_simpl_Deed_impl_Deed (s1:List Deed) (f6:Deed→Option Bool):Option Int :=
 loop (slices_IndexFunc_simpl_Deed_impl_Deed_S1 s1 f6) (0)

noncomputable def slices_ContainsFunc_simpl_Deed_impl_Deed (s1:List Deed) (f6:Deed→Option Bool):Option Bool :=
 (slices_IndexFunc_simpl_Deed_impl_Deed s1 f6).bind fun y10 =>
 some (decide ((y10:Int)≥0))

noncomputable def impl_deedWord (kind1:Int):Option ((List UInt8) × Int) :=
 if (kind1 == 1)=true then
  some (([115,101,110,100]:List UInt8),2)
 else
  (if (kind1 == 2)=true then
   some (([100,101,108,105,118,101,114]:List UInt8),1)
  else
   (if (kind1 == 3)=true then
    some (([99,111,112,121]:List UInt8),1)
   else
    (if (kind1 == 4)=true then
     some (([100,114,111,112]:List UInt8),1)
    else
     (if (kind1 == 5)=true then
      some (([115,97,118,101]:List UInt8),0)
     else
      (if (kind1 == 6)=true then
       some (([99,114,97,115,104]:List UInt8),0)
      else
       some (([]:List UInt8),0))))))

noncomputable def impl_ValidDeed (d1:Deed):Option Bool :=
 (impl_deedWord d1.Kind).bind fun y2 =>
 (if (!(y2.1 == ([]:List UInt8)))=true then
   ((impl_within d1.A 0 999).bind fun y13 =>
   some y13)
  else
   some false).bind fun b12 =>
 (if b12=true then
   ((impl_within d1.B 0 999).bind fun y19 =>
   some y19)
  else
   some false).bind fun b18 =>
 some ((b18&&((decide ((y2.2:Int)>0))||(d1.A == 0)))&&((decide ((y2.2:Int)>1))||(d1.B == 0)))

noncomputable def impl_deedsCode_1 (x1:Deed):Option Bool :=
 (impl_ValidDeed x1).bind fun y2 =>
 some (!y2)

noncomputable def impl_deedsCode (v1:Stream) (deeds22:List Deed):Option Int :=
 (impl_ValidStream v1).bind fun y27 =>
 (if (!y27)=true then
   some true
  else
   ((slices_ContainsFunc_simpl_Deed_impl_Deed deeds22 (fun x=>impl_deedsCode_1 x)).bind fun y40 =>
   some y40)).bind fun b32 =>
 if b32=true then
  some 1
 else
  (if (decide (((deeds22.length:Int):Int)>300))=true then
   some 2
  else
   some 0)

noncomputable def impl_newWorks_K0 (v1:Stream):Option Works :=
 some (⟨(⟨(⟨0,v1.Checker.Start,([]:List Int),([]:List Int)⟩:Desk),(⟨0,v1.Checker.Start,([]:List Int),([]:List Int)⟩:Desk),([]:List Parcel)⟩:Plant),v1⟩:Works)

noncomputable def impl_Desk_copied_K1 (d1:Desk):Option Desk :=
 (cloneI d1.Stack).bind fun y9 =>
 (cloneI d1.Waiting).bind fun y17 =>
 some (⟨d1.Read,d1.State,y9,y17⟩:Desk)

noncomputable def impl_size_impl_Parcel (list1:List Parcel):Option Int :=
 some (list1.length:Int)

noncomputable def slices_Index_sint64_int64_J1:Option Int :=
 some (-1)
noncomputable def slices_Index_sint64_int64_S1 (s1:List Int) (v6:Int):Int→Option (Int ⊕ Int):=fun t8 =>
 if (decide ((t8:Int)<(s1.length:Int)))=true then
  ((ix s1 t8).bind fun x10 =>
  if (v6 == x10)=true then
   some (.inr (t8))
  else
   some (.inl (IntKind.wrap .i64 (t8+1))))
 else
  ((slices_Index_sint64_int64_J1).map Sum.inr)
noncomputable def slices_Index_sint64_int64 (s1:List Int) (v6:Int):Option Int :=
 loop (slices_Index_sint64_int64_S1 s1 v6) (0)

noncomputable def slices_Contains_sint64_int64 (s1:List Int) (v6:Int):Option Bool :=
 (slices_Index_sint64_int64 s1 v6).bind fun y7 =>
 some (decide ((y7:Int)≥0))

noncomputable def impl_Checker_end_1_F1 (s1:Int) (rest2:List Int) (c710:Int) (c1114:List Int):Option (Unit × Int × (List Int)) :=
 some ((),s1,rest2)

noncomputable def impl_kindOf (c1:Int):Option Int :=
 (strings_IndexByte ([40,91,41,93,97,98]:List UInt8) c1).bind fun y2 =>
 (remI .i64 y2 2).bind fun q6 =>
 some q6

noncomputable def impl_isCall (c1:Int):Option Bool :=
 some ((c1 == 40)||(c1 == 91))

noncomputable def impl_isInner (c1:Int):Option Bool :=
 some ((c1 == 97)||(c1 == 98))

noncomputable def impl_Checker_step_J1 (p1:Checker) (p1_18:Int) (y25:Int) (t84:List Int) (t89:Int):Option (Int × (List Int)) :=
 (ix p1.Return p1_18).bind fun x91 =>
 (ix x91 y25).bind fun x100 =>
 (ix x100 t89).bind fun x109 =>
 some (x109,t84)
noncomputable def impl_Checker_step (p1:Checker) (p1_18:Int) (p2_19:List Int) (p3_24:Int):Option (Int × (List Int)) :=
 (impl_kindOf p3_24).bind fun y25 =>
 (impl_isCall p3_24).bind fun y29 =>
 if y29=true then
  ((ix p1.Call p1_18).bind fun x34 =>
  (ix x34 y25).bind fun x43 =>
  (cloneI p2_19).bind fun y53 =>
  (app y53 ([x43.Put]:List Int)).bind fun l61 =>
  some (x43.To,l61))
 else
  ((impl_isInner p3_24).bind fun y65 =>
  if y65=true then
   ((ix p1.Inner p1_18).bind fun x70 =>
   (ix x70 y25).bind fun x79 =>
   some (x79,p2_19))
  else
   (if (decide (((p2_19.length:Int):Int)>0))=true then
    ((ix p2_19 (IntKind.wrap .i64 ((p2_19.length:Int) - 1))).bind fun x115 =>
    (cut p2_19 0 (IntKind.wrap .i64 ((p2_19.length:Int) - 1))).bind fun l120 =>
    impl_Checker_step_J1 p1 p1_18 y25 l120 x115)
   else
    impl_Checker_step_J1 p1 p1_18 y25 p2_19 p1.Stack))

noncomputable def impl_Checker_run_F1_J1 (m53:Int) (m55:List Int):Option (Unit × Int × (List Int)) :=
 some ((),m53,m55)
noncomputable def impl_Checker_run_F1_S1 (c1:Checker) (w24:List UInt8):(Int × (List Int) × Int × (List Int) × Int)→Option ((Int × (List Int) × Int × (List Int) × Int) ⊕ (Unit × Int × (List Int))):=fun (state63,stack64,m70,m72,t77) =>
 if (decide ((t77:Int)<(w24.length:Int)))=true then
  ((chr w24 t77).bind fun c81 =>
  (impl_Checker_step c1 state63 stack64 c81).bind fun y83 =>
  (impl_Checker_end_1_F1 y83.1 y83.2 m70 m72).bind fun y96 =>
  some (.inl (y83.1,y83.2,y96.2.1,y96.2.2,IntKind.wrap .i64 (t77+1))))
 else
  ((impl_Checker_run_F1_J1 m70 m72).map Sum.inr)
noncomputable def impl_Checker_run_F1 (c1:Checker) (state18:Int) (stack19:List Int) (w24:List UInt8) (c2629:Int) (c3033:List Int):Option (Unit × Int × (List Int)) :=
 (impl_Checker_end_1_F1 state18 stack19 c2629 c3033).bind fun y38 =>
 loop (impl_Checker_run_F1_S1 c1 w24) (state18,stack19,y38.2.1,y38.2.2,0)

noncomputable def impl_Checker_end (c1:Checker) (state18:Int) (stack19:List Int) (w24:List UInt8):Option (Int × (List Int)) :=
 (impl_Checker_run_F1 c1 state18 stack19 w24 state18 stack19).bind fun y31 =>
 some (y31.2.1,y31.2.2)

noncomputable def impl_works_comeIn_K10_J2 (m95:Int) (m96:Int) (m97:List Int) (m102:List Int):Option (Unit × (List Int) × Int × Int × (List Int)) :=
 some ((),m102,m95,m96,m97)
noncomputable def impl_works_comeIn_K10_S1 (p29:Int) (p30:Int) (p31:List Bool) (p36:List (List Push)) (p41:List (List (List Int))) (p46:List (List Int)) (p51:List (List UInt8)):(Int × Int × (List Int) × (List Int))→Option ((Int × Int × (List Int) × (List Int)) ⊕ (Unit × (List Int) × Int × Int × (List Int))):=fun (m112,m113,m114,m119) =>
 (if (decide (((m119.length:Int):Int)>0))=true then
   ((ix m119 0).bind fun x131 =>
   some (x131 == m112))
  else
   some false).bind fun b128 =>
 if b128=true then
  ((ix p51 m112).bind fun x140 =>
  (impl_Checker_end (⟨p29,p30,p31,p36,p41,p46⟩:Checker) m113 m114 x140).bind fun y145 =>
  (cut m119 1 m119.length).bind fun l168 =>
  some (.inl (IntKind.wrap .i64 (m112+1),y145.1,y145.2,l168)))
 else
  ((impl_works_comeIn_K10_J2 m112 m113 m114 m119).map Sum.inr)
noncomputable def impl_works_comeIn_K10_J1 (p3:Int) (p4:Int) (p5:List Int) (p29:Int) (p30:Int) (p31:List Bool) (p36:List (List Push)) (p41:List (List (List Int))) (p46:List (List Int)) (p51:List (List UInt8)) (m66:List Int):Option (Unit × (List Int) × Int × Int × (List Int)) :=
 (srtM m66).bind fun y75 =>
 loop (impl_works_comeIn_K10_S1 p29 p30 p31 p36 p41 p46 p51) (p3,p4,p5,y75)
noncomputable def impl_works_comeIn_K10_J3 (t193:Int) (m209:List Int):Option (((List Int) × Int) ⊕ (Unit × (List Int) × Int × Int × (List Int))) :=
 some (.inl (m209,IntKind.wrap .i64 (t193+1)))
noncomputable def impl_works_comeIn_K10_S2 (p3:Int) (p4:Int) (p5:List Int) (p29:Int) (p30:Int) (p31:List Bool) (p36:List (List Push)) (p41:List (List (List Int))) (p46:List (List Int)) (p51:List (List UInt8)) (p1_56:Parcel) (y61:Int):((List Int) × Int)→Option (((List Int) × Int) ⊕ (Unit × (List Int) × Int × Int × (List Int))):=fun (m189,t193) =>
 if (decide ((t193:Int)<y61))=true then
  ((if (decide ((IntKind.wrap .i64 (p1_56.First+t193):Int)≥p3))=true then
    ((slices_Contains_sint64_int64 m189 (IntKind.wrap .i64 (p1_56.First+t193))).bind fun y201 =>
    some (!y201))
   else
    some false).bind fun b200 =>
  if b200=true then
   ((app m189 ([IntKind.wrap .i64 (p1_56.First+t193)]:List Int)).bind fun l219 =>
   impl_works_comeIn_K10_J3 t193 l219)
  else
   impl_works_comeIn_K10_J3 t193 m189)
 else
  ((impl_works_comeIn_K10_J1 p3 p4 p5 p29 p30 p31 p36 p41 p46 p51 m189).map Sum.inr)
noncomputable def impl_works_comeIn_K10 (p3:Int) (p4:Int) (p5:List Int) (p13:List Int) (p14:Int) (p15:Int) (p16:List Int) (p24:List Int) (p28:List Parcel) (p29:Int) (p30:Int) (p31:List Bool) (p36:List (List Push)) (p41:List (List (List Int))) (p46:List (List Int)) (p51:List (List UInt8)) (p1_56:Parcel):Option (Unit × (List Int) × Int × Int × (List Int)) :=
 (impl_size_string p1_56.Texts).bind fun y61 =>
 loop (impl_works_comeIn_K10_S2 p3 p4 p5 p29 p30 p31 p36 p41 p46 p51 p1_56 y61) (p13,0)

noncomputable def impl_works_do_K10_J1 (m58:Int) (m59:Int) (m60:List Int) (m65:List Int) (m69:Int) (m70:Int) (m71:List Int) (m76:List Int) (m80:List Parcel):Option (Int × (List Int) × (List Int) × (List Parcel) × Int × Int × (List Int) × Int × Int × (List Int)) :=
 some (0,m65,m76,m80,m58,m59,m60,m69,m70,m71)
noncomputable def impl_works_do_K10_J2 (p3:Int) (p4:Int) (p5:List Int) (p13:List Int) (p14:Int) (p15:Int) (p16:List Int) (p24:List Int) (p29:Int) (p30:Int) (p31:List Bool) (p36:List (List Push)) (p41:List (List (List Int))) (p46:List (List Int)) (p51:List (List UInt8)) (p1_56:Deed) (x210:Parcel) (m237:List Parcel):Option (Int × (List Int) × (List Int) × (List Parcel) × Int × Int × (List Int) × Int × Int × (List Int)) :=
 if (p1_56.Kind != 4)=true then
  ((impl_works_comeIn_K10 p3 p4 p5 p13 p14 p15 p16 p24 m237 p29 p30 p31 p36 p41 p46 p51 x210).bind fun y247 =>
  impl_works_do_K10_J1 y247.2.2.1 y247.2.2.2.1 y247.2.2.2.2 y247.2.1 p14 p15 p16 p24 m237)
 else
  impl_works_do_K10_J1 p3 p4 p5 p13 p14 p15 p16 p24 m237
noncomputable def impl_works_do_K10 (p3:Int) (p4:Int) (p5:List Int) (p13:List Int) (p14:Int) (p15:Int) (p16:List Int) (p24:List Int) (p28:List Parcel) (p29:Int) (p30:Int) (p31:List Bool) (p36:List (List Push)) (p41:List (List (List Int))) (p46:List (List Int)) (p51:List (List UInt8)) (p1_56:Deed):Option (Int × (List Int) × (List Int) × (List Parcel) × Int × Int × (List Int) × Int × Int × (List Int)) :=
 if (p1_56.Kind == 1)=true then
  ((if (decide ((p1_56.A:Int)>p1_56.B))=true then
    some true
   else
    ((impl_size_string p51).bind fun y92 =>
    some (decide ((p1_56.B:Int)≥y92)))).bind fun b91 =>
  if b91=true then
   some (2,p13,p24,p28,p3,p4,p5,p14,p15,p16)
  else
   (if ((p28.length:Int) == 12)=true then
    some (3,p13,p24,p28,p3,p4,p5,p14,p15,p16)
   else
    ((cut p51 p1_56.A (IntKind.wrap .i64 (p1_56.B+1))).bind fun l98 =>
    (app p28 ([(⟨p1_56.A,l98⟩:Parcel)]:List Parcel)).bind fun l104 =>
    impl_works_do_K10_J1 p3 p4 p5 p13 p14 p15 p16 p24 l104)))
 else
  (if (p1_56.Kind == 5)=true then
   ((impl_Desk_copied_K1 (⟨p3,p4,p5,p13⟩:Desk)).bind fun y119 =>
   impl_works_do_K10_J1 p3 p4 p5 p13 y119.Read y119.State y119.Stack y119.Waiting p28)
  else
   (if (p1_56.Kind == 6)=true then
    ((impl_Desk_copied_K1 (⟨p14,p15,p16,p24⟩:Desk)).bind fun y160 =>
    impl_works_do_K10_J1 y160.Read y160.State y160.Stack y160.Waiting p14 p15 p16 p24 p28)
   else
    ((impl_size_impl_Parcel p28).bind fun y200 =>
    if (decide ((p1_56.A:Int)≥y200))=true then
     some (2,p13,p24,p28,p3,p4,p5,p14,p15,p16)
    else
     ((ix p28 p1_56.A).bind fun x210 =>
     if (p1_56.Kind != 3)=true then
      ((delL p28 p1_56.A (IntKind.wrap .i64 (p1_56.A+1))).bind fun l298 =>
      impl_works_do_K10_J2 p3 p4 p5 p13 p14 p15 p16 p24 p29 p30 p31 p36 p41 p46 p51 p1_56 x210 l298)
     else
      impl_works_do_K10_J2 p3 p4 p5 p13 p14 p15 p16 p24 p29 p30 p31 p36 p41 p46 p51 p1_56 x210 p28))))

noncomputable def impl_after_K00_J1 (y27:Works) (m93:Int) (m94:Int) (m95:List Int) (m100:List Int) (m104:Int) (m105:Int) (m106:List Int) (m111:List Int) (m115:List Parcel) (done119:Int):Option (Works × Int) :=
 some ((⟨(⟨(⟨m93,m94,m95,m100⟩:Desk),(⟨m104,m105,m106,m111⟩:Desk),m115⟩:Plant),y27.stream⟩:Works),done119)
noncomputable def impl_after_K00_J2 (t153:Int) (y171:Int × (List Int) × (List Int) × (List Parcel) × Int × Int × (List Int) × Int × Int × (List Int)) (done231:Int):Option ((Int × Int × (List Int) × (List Int) × Int × Int × (List Int) × (List Int) × (List Parcel) × Int × Int) ⊕ (Works × Int)) :=
 some (.inl (y171.2.2.2.2.1,y171.2.2.2.2.2.1,y171.2.2.2.2.2.2.1,y171.2.1,y171.2.2.2.2.2.2.2.1,y171.2.2.2.2.2.2.2.2.1,y171.2.2.2.2.2.2.2.2.2,y171.2.2.1,y171.2.2.2.1,done231,IntKind.wrap .i64 (t153+1)))
noncomputable def impl_after_K00_S1 (deeds22:List Deed) (y27:Works):(Int × Int × (List Int) × (List Int) × Int × Int × (List Int) × (List Int) × (List Parcel) × Int × Int)→Option ((Int × Int × (List Int) × (List Int) × Int × Int × (List Int) × (List Int) × (List Parcel) × Int × Int) ⊕ (Works × Int)):=fun (m126,m127,m128,m133,m137,m138,m139,m144,m148,done152,t153) =>
 if (decide ((t153:Int)<(deeds22.length:Int)))=true then
  ((ix deeds22 t153).bind fun x159 =>
  (impl_works_do_K10 m126 m127 m128 m133 m137 m138 m139 m144 m148 y27.stream.Checker.Stack y27.stream.Checker.Start y27.stream.Checker.Accept y27.stream.Checker.Call y27.stream.Checker.Return y27.stream.Checker.Inner y27.stream.Pieces x159).bind fun y171 =>
  if (y171.1 == 0)=true then
   impl_after_K00_J2 t153 y171 (IntKind.wrap .i64 (done152+1))
  else
   impl_after_K00_J2 t153 y171 done152)
 else
  ((impl_after_K00_J1 y27 m126 m127 m128 m133 m137 m138 m139 m144 m148 done152).map Sum.inr)
noncomputable def impl_after_K00 (v1:Stream) (deeds22:List Deed):Option (Works × Int) :=
 (impl_newWorks_K0 v1).bind fun y27 =>
 loop (impl_after_K00_S1 deeds22 y27) (y27.Plant_.Desk_.Read,y27.Plant_.Desk_.State,y27.Plant_.Desk_.Stack,y27.Plant_.Desk_.Waiting,y27.Plant_.Saved.Read,y27.Plant_.Saved.State,y27.Plant_.Saved.Stack,y27.Plant_.Saved.Waiting,y27.Plant_.Wire,0,0)

noncomputable def slices_Concat_sint64_int64_J2 (newslice16:List Int):Option (List Int) :=
 some newslice16
noncomputable def slices_Concat_sint64_int64_S1 (slices1:List (List Int)):((List Int) × Int)→Option (((List Int) × Int) ⊕ (List Int)):=fun (newslice22,t27) =>
 if (decide ((t27:Int)<(slices1.length:Int)))=true then
  ((ix slices1 t27).bind fun x29 =>
  (app newslice22 x29).bind fun l38 =>
  some (.inl (l38,IntKind.wrap .i64 (t27+1))))
 else
  ((slices_Concat_sint64_int64_J2 newslice22).map Sum.inr)
noncomputable def slices_Concat_sint64_int64_J1 (slices1:List (List Int)) (size6:Int):Option (List Int) :=
 (growN ([]:List Int) size6).bind fun y8 =>
 loop (slices_Concat_sint64_int64_S1 slices1) (y8,0)
noncomputable def slices_Concat_sint64_int64_S2 (slices1:List (List Int)):(Int × Int)→Option ((Int × Int) ⊕ (List Int)):=fun (size43,t44) =>
 if (decide ((t44:Int)<(slices1.length:Int)))=true then
  ((ix slices1 t44).bind fun x46 =>
  if (decide ((IntKind.wrap .i64 (size43+(x46.length:Int)):Int)<0))=true then
   none
  else
   some (.inl (IntKind.wrap .i64 (size43+(x46.length:Int)),IntKind.wrap .i64 (t44+1))))
 else
  ((slices_Concat_sint64_int64_J1 slices1 size43).map Sum.inr)
noncomputable def slices_Concat_sint64_int64 (slices1:List (List Int)):Option (List Int) :=
 loop (slices_Concat_sint64_int64_S2 slices1) (0,0)

noncomputable def impl_Checker_used_J1 (t25:List Int):Option (List Int) :=
 (srtM t25).bind fun y35 =>
 some y35
noncomputable def impl_Checker_used_J2 (t61:Int) (t168:List Int):Option (((List Int) × Int) ⊕ (List Int)) :=
 some (.inl (t168,IntKind.wrap .i64 (t61+1)))
noncomputable def impl_Checker_used_J3 (t183:Int) (t201:List Int):Option (((List Int) × Int) ⊕ (((List Int) × Int) ⊕ (List Int))) :=
 some (.inl (t201,IntKind.wrap .i64 (t183+1)))
noncomputable def impl_Checker_used_S2 (t61:Int) (y160:(List Int)):((List Int) × Int)→Option (((List Int) × Int) ⊕ (((List Int) × Int) ⊕ (List Int))):=fun (t178,t183) =>
 if (decide ((t183:Int)<(y160.length:Int)))=true then
  ((ix y160 t183).bind fun x189 =>
  (slices_Contains_sint64_int64 t178 x189).bind fun y194 =>
  if (!y194)=true then
   ((app t178 ([x189]:List Int)).bind fun l212 =>
   impl_Checker_used_J3 t183 l212)
  else
   impl_Checker_used_J3 t183 t178)
 else
  ((impl_Checker_used_J2 t61 t178).map Sum.inr)
noncomputable def impl_Checker_used_S1 (p1:Checker):((List Int) × Int)→Option (((List Int) × Int) ⊕ (List Int)):=fun (t56,t61) =>
 if (decide ((t61:Int)<(t56.length:Int)))=true then
  ((ix t56 t61).bind fun x69 =>
  (ix p1.Return x69).bind fun x77 =>
  (ix x77 0).bind fun x86 =>
  (ix p1.Return x69).bind fun x95 =>
  (ix x95 1).bind fun x104 =>
  (ix p1.Inner x69).bind fun x113 =>
  (ix p1.Call x69).bind fun x122 =>
  (ix x122 0).bind fun x131 =>
  (ix p1.Call x69).bind fun x141 =>
  (ix x141 1).bind fun x150 =>
  (slices_Concat_sint64_int64 ([x86,x104,x113,([x131.To,x150.To]:List Int)]:List (List Int))).bind fun y160 =>
  loop (impl_Checker_used_S2 t61 y160) (t56,0))
 else
  ((impl_Checker_used_J1 t56).map Sum.inr)
noncomputable def impl_Checker_used (p1:Checker):Option (List Int) :=
 loop (impl_Checker_used_S1 p1) (([p1.Start]:List Int),0)

noncomputable def impl_Checker_lost_1 (p0_1:Int) (c2:Checker):Option Bool :=
 (ix c2.Accept p0_1).bind fun x19 =>
 some x19

noncomputable def impl_Checker_lost_J1 (out18:List Int):Option (List Int) :=
 some out18
noncomputable def impl_Checker_lost_J2 (t35:Int) (out64:List Int):Option (((List Int) × Int) ⊕ (List Int)) :=
 some (.inl (out64,IntKind.wrap .i64 (t35+1)))
noncomputable def impl_Checker_lost_S1 (c1:Checker):((List Int) × Int)→Option (((List Int) × Int) ⊕ (List Int)):=fun (out28,t35) =>
 if (decide ((t35:Int)<(c1.Accept.length:Int)))=true then
  ((impl_Checker_used (⟨c1.Stack,t35,c1.Accept,c1.Call,c1.Return,c1.Inner⟩:Checker)).bind fun y52 =>
  (slices_ContainsFunc_sint64_int64 y52 (fun x=>impl_Checker_lost_1 x c1)).bind fun y60 =>
  if (!y60)=true then
   ((app out28 ([t35]:List Int)).bind fun l75 =>
   impl_Checker_lost_J2 t35 l75)
  else
   impl_Checker_lost_J2 t35 out28)
 else
  ((impl_Checker_lost_J1 out28).map Sum.inr)
noncomputable def impl_Checker_lost (c1:Checker):Option (List Int) :=
 loop (impl_Checker_lost_S1 c1) (([]:List Int),0)

noncomputable def impl_works_verdict_K1 (w3:Int) (w4:Int) (w5:List Int) (w13:List Int) (w14:Int) (w15:Int) (w16:List Int) (w24:List Int) (w28:List Parcel) (w29:Int) (w30:Int) (w31:List Bool) (w36:List (List Push)) (w41:List (List (List Int))) (w46:List (List Int)) (w51:List (List UInt8)):Option Int :=
 (impl_size_string w51).bind fun y56 =>
 (if (w3 == y56)=true then
   ((ix w31 w4).bind fun x62 =>
   some x62)
  else
   some false).bind fun b61 =>
 if b61=true then
  some 1
 else
  ((if (w3 == y56)=true then
    some true
   else
    ((impl_Checker_lost (⟨w29,w30,w31,w36,w41,w46⟩:Checker)).bind fun y70 =>
    (slices_Contains_sint64_int64 y70 w4).bind fun y78 =>
    some y78)).bind fun b69 =>
  if b69=true then
   some 2
  else
   some 0)

noncomputable def impl_VerdictAfter (v1:Stream) (deeds22:List Deed):Option (Int × Int) :=
 (impl_deedsCode v1 deeds22).bind fun y27 =>
 if (y27 != 0)=true then
  some (0,y27)
 else
  ((impl_after_K00 v1 deeds22).bind fun y32 =>
  (impl_works_verdict_K1 y32.1.Plant_.Desk_.Read y32.1.Plant_.Desk_.State y32.1.Plant_.Desk_.Stack y32.1.Plant_.Desk_.Waiting y32.1.Plant_.Saved.Read y32.1.Plant_.Saved.State y32.1.Plant_.Saved.Stack y32.1.Plant_.Saved.Waiting y32.1.Plant_.Wire y32.1.stream.Checker.Stack y32.1.stream.Checker.Start y32.1.stream.Checker.Accept y32.1.stream.Checker.Call y32.1.stream.Checker.Return y32.1.stream.Checker.Inner y32.1.stream.Pieces).bind fun y97 =>
  some (y97,0))

noncomputable def laws_eqBoolS_J1:Option Bool :=
 some true
noncomputable def laws_eqBoolS_S1 (a1:List Bool) (b6:List Bool):Int→Option (Int ⊕ Bool):=fun i13 =>
 if (decide ((i13:Int)<(a1.length:Int)))=true then
  ((ix a1 i13).bind fun x15 =>
  (ix b6 i13).bind fun x20 =>
  if (!(x15 == x20))=true then
   some (.inr (false))
  else
   some (.inl (IntKind.wrap .i64 (i13+1))))
 else
  ((laws_eqBoolS_J1).map Sum.inr)
noncomputable def laws_eqBoolS (a1:List Bool) (b6:List Bool):Option Bool :=
 if ((a1.length:Int) != (b6.length:Int))=true then
  some false
 else
  loop (laws_eqBoolS_S1 a1 b6) (0)

noncomputable def laws_eqPush (a1:Push) (b2:Push):Option Bool :=
 if (a1.To != b2.To)=true then
  some false
 else
  (if (a1.Put != b2.Put)=true then
   some false
  else
   some true)

noncomputable def laws_eqPushS_J1:Option Bool :=
 some true
noncomputable def laws_eqPushS_S1 (a1:List Push) (b6:List Push):Int→Option (Int ⊕ Bool):=fun i13 =>
 if (decide ((i13:Int)<(a1.length:Int)))=true then
  ((ix a1 i13).bind fun x15 =>
  (ix b6 i13).bind fun x25 =>
  (laws_eqPush x15 x25).bind fun y35 =>
  if (!y35)=true then
   some (.inr (false))
  else
   some (.inl (IntKind.wrap .i64 (i13+1))))
 else
  ((laws_eqPushS_J1).map Sum.inr)
noncomputable def laws_eqPushS (a1:List Push) (b6:List Push):Option Bool :=
 if ((a1.length:Int) != (b6.length:Int))=true then
  some false
 else
  loop (laws_eqPushS_S1 a1 b6) (0)

noncomputable def laws_eqPushSS_J1:Option Bool :=
 some true
noncomputable def laws_eqPushSS_S1 (a1:List (List Push)) (b6:List (List Push)):Int→Option (Int ⊕ Bool):=fun i13 =>
 if (decide ((i13:Int)<(a1.length:Int)))=true then
  ((ix a1 i13).bind fun x15 =>
  (ix b6 i13).bind fun x24 =>
  (laws_eqPushS x15 x24).bind fun y33 =>
  if (!y33)=true then
   some (.inr (false))
  else
   some (.inl (IntKind.wrap .i64 (i13+1))))
 else
  ((laws_eqPushSS_J1).map Sum.inr)
noncomputable def laws_eqPushSS (a1:List (List Push)) (b6:List (List Push)):Option Bool :=
 if ((a1.length:Int) != (b6.length:Int))=true then
  some false
 else
  loop (laws_eqPushSS_S1 a1 b6) (0)

noncomputable def laws_eqInt64S_J1:Option Bool :=
 some true
noncomputable def laws_eqInt64S_S1 (a1:List Int) (b6:List Int):Int→Option (Int ⊕ Bool):=fun i13 =>
 if (decide ((i13:Int)<(a1.length:Int)))=true then
  ((ix a1 i13).bind fun x15 =>
  (ix b6 i13).bind fun x20 =>
  if (x15 != x20)=true then
   some (.inr (false))
  else
   some (.inl (IntKind.wrap .i64 (i13+1))))
 else
  ((laws_eqInt64S_J1).map Sum.inr)
noncomputable def laws_eqInt64S (a1:List Int) (b6:List Int):Option Bool :=
 if ((a1.length:Int) != (b6.length:Int))=true then
  some false
 else
  loop (laws_eqInt64S_S1 a1 b6) (0)

noncomputable def laws_eqInt64SS_J1:Option Bool :=
 some true
noncomputable def laws_eqInt64SS_S1 (a1:List (List Int)) (b6:List (List Int)):Int→Option (Int ⊕ Bool):=fun i13 =>
 if (decide ((i13:Int)<(a1.length:Int)))=true then
  ((ix a1 i13).bind fun x15 =>
  (ix b6 i13).bind fun x24 =>
  (laws_eqInt64S x15 x24).bind fun y33 =>
  if (!y33)=true then
   some (.inr (false))
  else
   some (.inl (IntKind.wrap .i64 (i13+1))))
 else
  ((laws_eqInt64SS_J1).map Sum.inr)
noncomputable def laws_eqInt64SS (a1:List (List Int)) (b6:List (List Int)):Option Bool :=
 if ((a1.length:Int) != (b6.length:Int))=true then
  some false
 else
  loop (laws_eqInt64SS_S1 a1 b6) (0)

noncomputable def laws_eqInt64SSS_J1:Option Bool :=
 some true
noncomputable def laws_eqInt64SSS_S1 (a1:List (List (List Int))) (b6:List (List (List Int))):Int→Option (Int ⊕ Bool):=fun i13 =>
 if (decide ((i13:Int)<(a1.length:Int)))=true then
  ((ix a1 i13).bind fun x15 =>
  (ix b6 i13).bind fun x24 =>
  (laws_eqInt64SS x15 x24).bind fun y33 =>
  if (!y33)=true then
   some (.inr (false))
  else
   some (.inl (IntKind.wrap .i64 (i13+1))))
 else
  ((laws_eqInt64SSS_J1).map Sum.inr)
noncomputable def laws_eqInt64SSS (a1:List (List (List Int))) (b6:List (List (List Int))):Option Bool :=
 if ((a1.length:Int) != (b6.length:Int))=true then
  some false
 else
  loop (laws_eqInt64SSS_S1 a1 b6) (0)

noncomputable def laws_eqChecker (a1:Checker) (b18:Checker):Option Bool :=
 if (a1.Stack != b18.Stack)=true then
  some false
 else
  (if (a1.Start != b18.Start)=true then
   some false
  else
   ((laws_eqBoolS a1.Accept b18.Accept).bind fun y37 =>
   if (!y37)=true then
    some false
   else
    ((laws_eqPushSS a1.Call b18.Call).bind fun y42 =>
    if (!y42)=true then
     some false
    else
     ((laws_eqInt64SSS a1.Return b18.Return).bind fun y47 =>
     if (!y47)=true then
      some false
     else
      ((laws_eqInt64SS a1.Inner b18.Inner).bind fun y52 =>
      if (!y52)=true then
       some false
      else
       some true)))))

noncomputable def laws_eqStringS_J1:Option Bool :=
 some true
noncomputable def laws_eqStringS_S1 (a1:List (List UInt8)) (b6:List (List UInt8)):Int→Option (Int ⊕ Bool):=fun i13 =>
 if (decide ((i13:Int)<(a1.length:Int)))=true then
  ((ix a1 i13).bind fun x15 =>
  (ix b6 i13).bind fun x20 =>
  if (!(x15 == x20))=true then
   some (.inr (false))
  else
   some (.inl (IntKind.wrap .i64 (i13+1))))
 else
  ((laws_eqStringS_J1).map Sum.inr)
noncomputable def laws_eqStringS (a1:List (List UInt8)) (b6:List (List UInt8)):Option Bool :=
 if ((a1.length:Int) != (b6.length:Int))=true then
  some false
 else
  loop (laws_eqStringS_S1 a1 b6) (0)

noncomputable def laws_eqStream (a1:Stream) (b22:Stream):Option Bool :=
 (laws_eqChecker a1.Checker b22.Checker).bind fun y43 =>
 if (!y43)=true then
  some false
 else
  ((laws_eqStringS a1.Pieces b22.Pieces).bind fun y48 =>
  if (!y48)=true then
   some false
  else
   some true)

noncomputable def laws_eqDeed (a1:Deed) (b2:Deed):Option Bool :=
 if (a1.Kind != b2.Kind)=true then
  some false
 else
  (if (a1.A != b2.A)=true then
   some false
  else
   (if (a1.B != b2.B)=true then
    some false
   else
    some true))

noncomputable def laws_eqDeedS_J1:Option Bool :=
 some true
noncomputable def laws_eqDeedS_S1 (a1:List Deed) (b6:List Deed):Int→Option (Int ⊕ Bool):=fun i13 =>
 if (decide ((i13:Int)<(a1.length:Int)))=true then
  ((ix a1 i13).bind fun x15 =>
  (ix b6 i13).bind fun x27 =>
  (laws_eqDeed x15 x27).bind fun y39 =>
  if (!y39)=true then
   some (.inr (false))
  else
   some (.inl (IntKind.wrap .i64 (i13+1))))
 else
  ((laws_eqDeedS_J1).map Sum.inr)
noncomputable def laws_eqDeedS (a1:List Deed) (b6:List Deed):Option Bool :=
 if ((a1.length:Int) != (b6.length:Int))=true then
  some false
 else
  loop (laws_eqDeedS_S1 a1 b6) (0)

noncomputable def laws_FnExactVerdictAfter (aV1:Stream) (aDeeds22:List Deed):Option Bool :=
 (laws_szStream aV1 1048576).bind fun y27 =>
 if (decide ((y27:Int)<0))=true then
  some true
 else
  ((laws_szDeedS aDeeds22 y27).bind fun y32 =>
  if (decide ((y32:Int)<0))=true then
   some true
  else
   ((laws_toStream aV1).bind fun y37 =>
   (laws_toDeedS aDeeds22).bind fun y76 =>
   (spec_VerdictAfter y37 y76).bind fun y84 =>
   (laws_toStream aV1).bind fun y93 =>
   (laws_toDeedS aDeeds22).bind fun y132 =>
   (impl_VerdictAfter y93 y132).bind fun y140 =>
   if ((y140.1 != y84.1)||(y140.2 != y84.2))=true then
    some false
   else
    ((laws_toStream aV1).bind fun y151 =>
    (laws_eqStream y93 y151).bind fun y190 =>
    if (!y190)=true then
     some false
    else
     ((laws_toDeedS aDeeds22).bind fun y195 =>
     (laws_eqDeedS y132 y195).bind fun y203 =>
     if (!y203)=true then
      some false
     else
      some true))))
end Go.Proofs.YtmahhacghgkigaaGreat.law
