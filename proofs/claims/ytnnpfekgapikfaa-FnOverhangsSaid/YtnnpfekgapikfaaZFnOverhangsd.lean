import Derived.Test.YtnnpfekgapikfaaZFnOverhangsx0
import Derived.Test.YtnnpfekgapikfaaZFnOverhangsx1
import Derived.Test.YtnnpfekgapikfaaZFnOverhangsx2
import Derived.Test.YtnnpfekgapikfaaZFnOverhangsx3
import Derived.Test.YtnnpfekgapikfaaZFnOverhangsx5
import Derived.Test.YtnnpfekgapikfaaZFnOverhangsx6
import Derived.Test.YtnnpfekgapikfaaZFnOverhangsx7
import Derived.Test.YtnnpfekgapikfaaZFnOverhangsx9
import Derived.Test.YtnnpfekgapikfaaZFnOverhangsx10
import Derived.Test.YtnnpfekgapikfaaZFnOverhangsx12
import Derived.Test.YtnnpfekgapikfaaZFnOverhangsx14
namespace Go.Proofs.Ytnnpfekgapikfaa.PFnOverhangs
open Go.RowKit Go.Proofs.YtnnpfekgapikfaaW.PrintWords Go.Proofs.YtnnpfekgapikfaaW.PrintLast Go.Proofs.YtnnpfekgapikfaaW.PrintMore
attribute [local go_sem] max2_int min2_int max_two min_two max_three min_three max_four min_four
set_option linter.unusedVariables false
set_option linter.unusedSimpArgs false
mutual
def laws_FnOverhangs.j0:Nat→Int→Int→Int→Bool→Int→Bool→Int→Int→Int→Bool→Bool→Bool→Int→List Int→List Int→Int→List Int→List Int→Int→List Int→List Int→Int→List Int→List Int→Int→List Int→List Int→Option (Bool)
 |0,_,_,_,_,_,_,_,_,_,_,_,_,_,_,_,_,_,_,_,_,_,_,_,_,_,_,_=>none
 |k + 1,x3,x4,x5,x6,W9,X3,OO,x20,QP,UK,x30,bN2,aPU,aPV,aPW,ET,EU,EE,yR,yS,yT,vS,vT,vU,vV,vW,vX=>if bN2=true then((vC.f k aPU aPV aPW).bind fun b3P=>((nO.f k aPU aPV aPW).bind fun b3Q=>(if b3P.2=true then(if b3Q.2=true then(if b3P.1=true then(if b3Q.1 > x5 then(none)else(laws_FnOverhangs.j1 k x3 x4 x5 x6 W9 X3 OO x20 QP UK x30 ET EU EE yR yS yT vS vT vU vV vW vX))else(none))else(none))else(none))))else(laws_FnOverhangs.j1 k x3 x4 x5 x6 W9 X3 OO x20 QP UK x30 ET EU EE yR yS yT vS vT vU vV vW vX)
def laws_FnOverhangs.j1:Nat→Int→Int→Int→Bool→Int→Bool→Int→Int→Int→Bool→Bool→Int→List Int→List Int→Int→List Int→List Int→Int→List Int→List Int→Int→List Int→List Int→Option (Bool)
 |0,_,_,_,_,_,_,_,_,_,_,_,_,_,_,_,_,_,_,_,_,_,_,_=>none
 |k + 1,x3,x4,x5,x6,W9,X3,OO,x20,QP,UK,x30,ET,EU,EE,yR,yS,yT,vS,vT,vU,vV,vW,vX=>if x6=true then(laws_FnOverhangs.j2 k x3 x4 x5 W9 X3 OO x20 QP UK x30 (decide (x4 < 8)) ET EU EE yR yS yT vS vT vU vV vW vX)else(laws_FnOverhangs.j2 k x3 x4 x5 W9 X3 OO x20 QP UK x30 false ET EU EE yR yS yT vS vT vU vV vW vX)
def laws_FnOverhangs.j2:Nat→Int→Int→Int→Int→Bool→Int→Int→Int→Bool→Bool→Bool→Int→List Int→List Int→Int→List Int→List Int→Int→List Int→List Int→Int→List Int→List Int→Option (Bool)
 |0,_,_,_,_,_,_,_,_,_,_,_,_,_,_,_,_,_,_,_,_,_,_,_=>none
 |k + 1,x3,x4,x5,W9,X3,OO,x20,QP,UK,x30,bN3,ET,EU,EE,yR,yS,yT,vS,vT,vU,vV,vW,vX=>if bN3=true then((jO.f x3 (wrap64 (x4 + 1))).bind fun b3R=>(if b3R.2=true then(if b3R.1 < x5 then(none)else(laws_FnOverhangs.j3 k W9 X3 OO x20 QP UK x30 ET EU EE yR yS yT vS vT vU vV vW vX))else(none)))else(laws_FnOverhangs.j3 k W9 X3 OO x20 QP UK x30 ET EU EE yR yS yT vS vT vU vV vW vX)
def laws_FnOverhangs.j3:Nat→Int→Bool→Int→Int→Int→Bool→Bool→Int→List Int→List Int→Int→List Int→List Int→Int→List Int→List Int→Int→List Int→List Int→Option (Bool)
 |0,_,_,_,_,_,_,_,_,_,_,_,_,_,_,_,_,_,_,_=>none
 |k + 1,W9,X3,OO,x20,QP,UK,x30,ET,EU,EE,yR,yS,yT,vS,vT,vU,vV,vW,vX=>if X3=true then((nC.f k ET EU EE W9).bind fun a4B=>((vC.f k a4B.1 a4B.2.1 a4B.2.2.1).bind fun b3S=>((nO.f k a4B.1 a4B.2.1 a4B.2.2.1).bind fun b3T=>(if a4B.2.2.2=true then(if b3S.2=true then(if b3T.2=true then(if b3S.1=true then(laws_FnOverhangs.l0 k OO x20 QP UK x30 b3T.1 true 0 ET EU EE yR yS yT vS vT vU vV vW vX)else(none))else(none))else(none))else(none)))))else(laws_FnOverhangs.j5 k OO x20 QP UK x30 yR yS yT vS vT vU vV vW vX)
def laws_FnOverhangs.j5:Nat→Int→Int→Int→Bool→Bool→Int→List Int→List Int→Int→List Int→List Int→Int→List Int→List Int→Option (Bool)
 |0,_,_,_,_,_,_,_,_,_,_,_,_,_,_=>none
 |k + 1,OO,x20,QP,UK,x30,yR,yS,yT,vS,vT,vU,vV,vW,vX=>if UK=true then(laws_FnOverhangs.l1 k OO QP x30 x20 yR yS yT vS vT vU vV vW vX)else(laws_FnOverhangs.j7 k x30 vS vT vU vV vW vX)
def laws_FnOverhangs.j7:Nat→Bool→Int→List Int→List Int→Int→List Int→List Int→Option (Bool)
 |0,_,_,_,_,_,_,_=>none
 |k + 1,x30,vS,vT,vU,vV,vW,vX=>if x30=true then((iJ.f k vV vW vX).bind fun aJP=>(if aJP.2.2.2=true then((o7.f k aJP.1 aJP.2.1 aJP.2.2.1 vS vT vU).bind fun aZ4=>(some aZ4))else(none)))else(some true)
def laws_FnOverhangs.l1:Nat→Int→Int→Bool→Int→Int→List Int→List Int→Int→List Int→List Int→Int→List Int→List Int→Option (Bool)
 |0,_,_,_,_,_,_,_,_,_,_,_,_,_=>none
 |k + 1,OO,QP,x30,x54,yR,yS,yT,vS,vT,vU,vV,vW,vX=>if x54≤QP then((vI.f k yR yS yT x54 OO).bind fun aJQ=>((vC.f k aJQ.1 aJQ.2.1 aJQ.2.2.1).bind fun b3U=>(if aJQ.2.2.2=true then(if b3U.2=true then(if b3U.1=true then(laws_FnOverhangs.l1 k OO QP x30 (wrap64 (x54 + 1)) yR yS yT vS vT vU vV vW vX)else(none))else(none))else(none))))else(laws_FnOverhangs.j7 k x30 vS vT vU vV vW vX)
def laws_FnOverhangs.l0:Nat→Int→Int→Int→Bool→Bool→Int→Bool→Int→Int→List Int→List Int→Int→List Int→List Int→Int→List Int→List Int→Int→List Int→List Int→Option (Bool)
 |0,_,_,_,_,_,_,_,_,_,_,_,_,_,_,_,_,_,_,_,_=>none
 |k + 1,OO,x20,QP,UK,x30,x48,x50,x51,ET,EU,EE,yR,yS,yT,vS,vT,vU,vV,vW,vX=>if x51 < (EE.length:Int)then(if x50=true then(if 0≤x51 then(laws_FnOverhangs.l0 k OO x20 QP UK x30 x48 ((rd EE x51)==1) (wrap64 (x51 + 1)) ET EU EE yR yS yT vS vT vU vV vW vX)else(none))else(laws_FnOverhangs.l0 k OO x20 QP UK x30 x48 false (wrap64 (x51 + 1)) ET EU EE yR yS yT vS vT vU vV vW vX))else((jO.f ET (EU.length:Int)).bind fun b3V=>(if b3V.2=true then(if x50=true then(if x48 > b3V.1 then(none)else(laws_FnOverhangs.j5 k OO x20 QP UK x30 yR yS yT vS vT vU vV vW vX))else(laws_FnOverhangs.j5 k OO x20 QP UK x30 yR yS yT vS vT vU vV vW vX))else(none)))
end
def laws_FnOverhangs.f (k:Nat) (l0:List Int):Option (Bool):=(M5.f l0).bind fun aN5=>(if aN5=true then(some true)else((sO.f l0).bind fun CS=>((jO.f CS.1 CS.2).bind fun NI=>((bD.f k CS.1 CS.2).bind fun aE7=>(if NI.1=aE7.1 then(if (NI.2 !=aE7.2)=true then(none)else((dH.f k CS.1 CS.2).bind fun DV=>((fG.f k CS.1 CS.2).bind fun XM=>(if (DV.2.2.2 !=XM.2.2.2)=true then(none)else((o7.f k DV.1 DV.2.1 DV.2.2.1 XM.1 XM.2.1 XM.2.2.1).bind fun aN6=>(if aN6=true then((vF.f k l0).bind fun CU=>((l8.f k CU.1 CU.2.1 CU.2.2).bind fun PZ=>((l9.f k CU.1 CU.2.1 CU.2.2).bind fun aE8=>(if PZ.1=aE8.1 then(if (PZ.2 !=aE8.2)=true then(none)else((uR.f k l0).bind fun wP=>((fH.f k wP.1 wP.2.1 wP.2.2.1 wP.2.2.2).bind fun HV=>((dL.f k wP.1 wP.2.1 wP.2.2.1 wP.2.2.2).bind fun a4C=>(if HV.1=a4C.1 then(if HV.2.1=a4C.2.1 then(if (HV.2.2 !=a4C.2.2)=true then(none)else((uA.f k l0).bind fun wQ=>((vI.f k wQ.1 wQ.2.1 wQ.2.2.1 wQ.2.2.2.1 wQ.2.2.2.2).bind fun CV=>((yB.f k wQ.1 wQ.2.1 wQ.2.2.1 wQ.2.2.2.1 wQ.2.2.2.2).bind fun XN=>(if (CV.2.2.2 !=XN.2.2.2)=true then(none)else((o7.f k CV.1 CV.2.1 CV.2.2.1 XN.1 XN.2.1 XN.2.2.1).bind fun aN7=>(if aN7=true then((rV.f k l0).bind fun Q0=>((iJ.f k Q0.1 Q0.2.1 Q0.2.2).bind fun XO=>((iQ.f k Q0.1 Q0.2.1 Q0.2.2).bind fun XP=>(if (XO.2.2.2 !=XP.2.2.2)=true then(none)else((o7.f k XO.1 XO.2.1 XO.2.2.1 XP.1 XP.2.1 XP.2.2.1).bind fun aN8=>(if aN8=true then(if NI.2=true then(laws_FnOverhangs.j0 k CS.1 CS.2 NI.1 NI.2 PZ.1 PZ.2 wP.2.2.2 HV.1 HV.2.1 HV.2.2 CV.2.2.2 DV.2.2.2 DV.1 DV.2.1 DV.2.2.1 CU.1 CU.2.1 CU.2.2 wP.1 wP.2.1 wP.2.2.1 wQ.1 wQ.2.1 wQ.2.2.1 CV.1 CV.2.1 CV.2.2.1)else(laws_FnOverhangs.j0 k CS.1 CS.2 NI.1 NI.2 PZ.1 PZ.2 wP.2.2.2 HV.1 HV.2.1 HV.2.2 CV.2.2.2 false DV.1 DV.2.1 DV.2.2.1 CU.1 CU.2.1 CU.2.2 wP.1 wP.2.1 wP.2.2.1 wQ.1 wQ.2.1 wQ.2.2.1 CV.1 CV.2.1 CV.2.2.1))else(none)))))))else(none))))))))else(none))else(none))))))else(none)))))else(none)))))))else(none))))))
def aGN (reg:Bool) (n:Nat):Code→Option (List Code)
 | .region m _ _=>if reg && m==n then some []else none
 | .cond (.tmp m) _ _=>if !reg && m==n then some []else none
 | .seq a b=>match aGN reg n a with
  |some l=>some (l ++ [b])
  |none=>aGN reg n b
 |_=>none
def aGO (n:Nat):Code→Option (List Code)
 | .region m o d=>if m==n then some [.region m o d]else none
 | .seq a b=>match aGO n a with
  |some l=>some (l ++ [b])
  |none=>aGO n b
 |_=>none
def cutAt (n:Nat) (f:Func):List Code:=(aGO n (f.body.getD .skip)).getD []
def aE9 (reg:Bool) (n:Nat) (f:Func):List Code:=(aGN reg n (f.body.getD .skip)).getD []
def KU (P:Program) (Q:Exit→Act→World→Prop):List Code→Act→World→Prop
 |[]=>Q .normal
 |[r]=>r.wp P Q
 |c::l=>c.wp P (Exit.then (KU P Q l) Q)
theorem aZ5 {P:Program} {R:Code} {Q:Exit→Act→World→Prop} {K:Act→World→Prop} {a:Act} {w:World} (h:KU P Q [R] a w) (k:∀ a w,Code.wp P R Q a w→K a w):K a w:=k a w h
theorem aN9 {P:Program} {C R:Code} {Q:Exit→Act→World→Prop} {K:Act→World→Prop} {a:Act} {w:World} (h:KU P Q [C,R] a w) (k:∀ a w,Code.wp P R Q a w→K a w):Code.wp P C (Exit.then K Q) a w:=by
 have h2:Code.wp P C (Exit.then (Code.wp P R Q) Q) a w:=h;refine wp_mono h2 ?_;intro e a' w' hq;cases e with
 |normal=>exact k _ _ hq
 |exit id=>exact hq
 |goto l=>exact hq
 |ret=>exact hq
 |panic ch=>exact hq
 |outgrown=>exact hq
theorem bAK {P:Program} {C R:Code} {Q:Exit→Act→World→Prop} {K0 K1:Act→World→Prop} {a:Act} {w:World} (h:KU P Q [C,R] a w) (k1:∀ a w,Code.wp P R Q a w→K1 a w) (k0:∀ a w,Code.wp P C (Exit.then K1 Q) a w→K0 a w):K0 a w:=by
 have h2:Code.wp P C (Exit.then (Code.wp P R Q) Q) a w:=h;refine k0 a w (wp_mono h2 ?_);intro e a' w' hq;cases e with
 |normal=>exact k1 _ _ hq
 |exit id=>exact hq
 |goto l=>exact hq
 |ret=>exact hq
 |panic ch=>exact hq
 |outgrown=>exact hq
theorem aSM {P:Program} {l:List Code} {R:Code} {Q:Exit→Act→World→Prop} {a:Act} {w:World} (hl:l=[R]) (h:Code.wp P R Q a w):KU P Q l a w:=by
 subst hl;exact h
theorem a4D {P:Program} {l:List Code} {C R:Code} {Q:Exit→Act→World→Prop} {a:Act} {w:World} (hl:l=[C,R]) (h:∀ K:Act→World→Prop,(∀ a w,Code.wp P R Q a w→K a w)→Code.wp P C (Exit.then K Q) a w):KU P Q l a w:=by
 subst hl;exact h (Code.wp P R Q) fun _ _ h=>h
end Go.Proofs.Ytnnpfekgapikfaa.PFnOverhangs
