import Derived.Test.YtinlhiakpmcagaaZFnHangingx0
import Derived.Test.YtinlhiakpmcagaaZFnHangingx1
import Derived.Test.YtinlhiakpmcagaaZFnHangingx3
import Derived.Test.YtinlhiakpmcagaaZFnHangingx8
import Derived.Test.YtinlhiakpmcagaaZFnHangingx10
import Derived.Test.YtinlhiakpmcagaaZFnHangingx15
import Derived.Test.YtinlhiakpmcagaaZFnHangingx17
import Derived.Test.YtinlhiakpmcagaaZFnHangingx20
import Derived.Test.YtinlhiakpmcagaaZFnHangingx21
import Derived.Test.YtinlhiakpmcagaaZFnHangingx22
namespace Go.Proofs.Ytinlhiakpmcagaa.PFnHanging
open Go.RowKit Go.Proofs.YtinlhiakpmcagaaW.PrintWords Go.Proofs.YtinlhiakpmcagaaW.PrintLast Go.Proofs.YtinlhiakpmcagaaW.PrintMore
attribute [local go_sem] max2_int min2_int max_two min_two max_three min_three max_four min_four
set_option maxHeartbeats 8000000
set_option maxRecDepth 100000
set_option linter.unusedVariables false
set_option linter.unusedSimpArgs false
mutual
def laws_FnHanging.j0:Nat→Bool→Int→Int→Int→Bool→List Int→List Int→Bool→Bool→List (S64)→List (S64)→List (S64)→List (S64)→List (S64)→List (S64)→List (S64)→List (S64)→List (S64)→List (S64)→Option (Bool)
 |0,_,_,_,_,_,_,_,_,_,_,_,_,_,_,_,_,_,_,_=>none
 |k + 1,xM,PW,I8,XA,x18,wX,GJ,x24,x30,bHA,bHB,a1O,OL,OM,OO,BO,EC,BP,ED=>if xM=true then((qU.f k bHA bHB).bind fun bCW=>(if bCW.2=true then(if bCW.1=true then(laws_FnHanging.j1 k PW I8 XA x18 wX GJ x24 x30 a1O OL OM OO BO EC BP ED)else(none))else(none)))else(laws_FnHanging.j1 k PW I8 XA x18 wX GJ x24 x30 a1O OL OM OO BO EC BP ED)
def laws_FnHanging.j1:Nat→Int→Int→Int→Bool→List Int→List Int→Bool→Bool→List (S64)→List (S64)→List (S64)→List (S64)→List (S64)→List (S64)→List (S64)→List (S64)→Option (Bool)
 |0,_,_,_,_,_,_,_,_,_,_,_,_,_,_,_,_=>none
 |k + 1,PW,I8,XA,x18,wX,GJ,x24,x30,a1O,OL,OM,OO,BO,EC,BP,ED=>if x18=true then(if 0≤PW then(if PW < (OL.length:Int)then(if I8=0 then((wH.f k a1O (OL.set (PW:Int).toNat (⟨XA,(aA OL PW).f1⟩:S64))).bind fun aX0=>(if aX0.2=true then(if PW < (aX0.1.length:Int)then(if (rd aX0.1 PW)=0 then(laws_FnHanging.j2 k wX GJ x24 x30 OM OO BO EC BP ED)else(none))else(none))else(none)))else(if I8=1 then((wH.f k a1O (OL.set (PW:Int).toNat (⟨(aA OL PW).f0,XA⟩:S64))).bind fun aX1=>(if aX1.2=true then(if PW < (aX1.1.length:Int)then(if (rd aX1.1 PW)=0 then(laws_FnHanging.j2 k wX GJ x24 x30 OM OO BO EC BP ED)else(none))else(none))else(none)))else(none)))else(none))else(none))else(laws_FnHanging.j2 k wX GJ x24 x30 OM OO BO EC BP ED)
def laws_FnHanging.j2:Nat→List Int→List Int→Bool→Bool→List (S64)→List (S64)→List (S64)→List (S64)→List (S64)→List (S64)→Option (Bool)
 |0,_,_,_,_,_,_,_,_,_,_=>none
 |k + 1,wX,GJ,x24,x30,OM,OO,BO,EC,BP,ED=>if x24=true then((iO.f k OM OO GJ).bind fun aX2=>((qU.f k aX2.1 aX2.2.1).bind fun bCX=>(if aX2.2.2=true then(if bCX.2=true then(if bCX.1=true then((uH.f k GJ).bind fun bOT=>((uH.f k wX).bind fun bOU=>(if bOT=bOU then(laws_FnHanging.j3 k x30 BO EC BP ED)else(none))))else(none))else(none))else(none))))else(laws_FnHanging.j3 k x30 BO EC BP ED)
def laws_FnHanging.j3:Nat→Bool→List (S64)→List (S64)→List (S64)→List (S64)→Option (Bool)
 |0,_,_,_,_,_=>none
 |k + 1,x30,BO,EC,BP,ED=>if x30=true then((uB.f k BO EC).bind fun aX3=>((uB.f k BP ED).bind fun aX4=>((qU.f k BO EC).bind fun c3R=>((qU.f k BP ED).bind fun bCY=>(if aX3.2=true then(if aX4.2=true then(if bCY.2=true then(if 0 < (aX4.1.length:Int)then(if 0 < (aX3.1.length:Int)then(if (rd aX4.1 0)=(rd aX3.1 0)then(if (BP.length:Int) < (BO.length:Int)then(if c3R.1=true then(some bCY.1)else(some true))else(none))else(none))else(none))else(none))else(none))else(none))else(none))))))else(some true)
end
def laws_FnHanging.f (k:Nat) (l0:List Int):Option (Bool):=(KS.f l0).bind fun aSS=>(if aSS=true then(some true)else((eO.f k l0).bind fun GL=>((iO.f k GL.1 GL.2.1 GL.2.2).bind fun KH=>((uD.f k GL.1 GL.2.1 GL.2.2).bind fun a1P=>((vF.f l0 1).bind fun aLP=>((aV.f k aLP).bind fun UZ=>((jH.f k UZ.1 UZ.2).bind fun zK=>((gH.f k UZ.1 UZ.2).bind fun a1Q=>((vF.f l0 2).bind fun aLQ=>((dC.f k aLQ).bind fun qX=>((iX.f k qX.1 qX.2.1 qX.2.2.1 qX.2.2.2).bind fun KI=>((iY.f k qX.1 qX.2.1 qX.2.2.1 qX.2.2.2).bind fun aD2=>((vF.f l0 1).bind fun aLR=>((aT.f k aLR).bind fun uU=>((jB.f k uU.1 uU.2.1 uU.2.2).bind fun KJ=>((gG.f k uU.1 uU.2.1 uU.2.2).bind fun aD3=>((vF.f l0 2).bind fun aLS=>((eX.f k aLS).bind fun xP=>((bP.f k xP.1 xP.2.1 xP.2.2).bind fun zL=>((bJ.f k xP.1 xP.2.1 xP.2.2).bind fun a1R=>(if (KH.2.2 !=a1P.2.2)=true then(none)else((tZ.f k KH.1 KH.2.1 a1P.1 a1P.2.1).bind fun aST=>(if aST=true then(if (zK.2.2 !=a1Q.2.2)=true then(none)else((tZ.f k zK.1 zK.2.1 a1Q.1 a1Q.2.1).bind fun aSU=>(if aSU=true then(if KI.1=aD2.1 then(if (KI.2 !=aD2.2)=true then(none)else(if (KJ.2 !=aD3.2)=true then(none)else((qY.f k KJ.1 aD3.1).bind fun aSV=>(if aSV=true then(if (zL.2.2 !=a1R.2.2)=true then(none)else((tZ.f k zL.1 zL.2.1 a1R.1 a1R.2.1).bind fun aSW=>(if aSW=true then(if KH.2.2=true then((E5.f k KH.1 KH.2.1).bind fun aD4=>(if aD4.2=true then((qY.f k aD4.1 GL.2.2).bind fun aSX=>(if aSX=true then(laws_FnHanging.j0 k zK.2.2 qX.2.2.1 qX.2.2.2 KI.1 KI.2 uU.2.2 KJ.1 KJ.2 zL.2.2 zK.1 zK.2.1 qX.1 qX.2.1 uU.1 uU.2.1 xP.1 xP.2.1 zL.1 zL.2.1)else(none)))else(none)))else(laws_FnHanging.j0 k zK.2.2 qX.2.2.1 qX.2.2.2 KI.1 KI.2 uU.2.2 KJ.1 KJ.2 zL.2.2 zK.1 zK.2.1 qX.1 qX.2.1 uU.1 uU.2.1 xP.1 xP.2.1 zL.1 zL.2.1))else(none))))else(none)))))else(none))else(none))))else(none))))))))))))))))))))))))
def aPB (reg:Bool) (n:Nat):Code→Option (List Code)
 | .region m _ _=>if reg && m==n then some []else none
 | .cond (.tmp m) _ _=>if !reg && m==n then some []else none
 | .seq a b=>match aPB reg n a with
  |some l=>some (l ++ [b])
  |none=>aPB reg n b
 |_=>none
def b29 (n:Nat):Code→Option (List Code)
 | .region m o d=>if m==n then some [.region m o d]else none
 | .seq a b=>match b29 n a with
  |some l=>some (l ++ [b])
  |none=>b29 n b
 |_=>none
def aSY (reg:Bool) (n:Nat) (f:Func):List Code:=(aPB reg n (f.body.getD .skip)).getD []
def a3W (P:Program) (Q:Exit→Act→World→Prop):List Code→Act→World→Prop
 |[]=>Q .normal
 |[r]=>r.wp P Q
 |c::l=>c.wp P (Exit.then (a3W P Q l) Q)
theorem bA5 {P:Program} {R:Code} {Q:Exit→Act→World→Prop} {K:Act→World→Prop} {a:Act} {w:World} (h:a3W P Q [R] a w) (k:∀ a w,Code.wp P R Q a w→K a w):K a w:=k a w h
theorem c3S {P:Program} {C R:Code} {Q:Exit→Act→World→Prop} {K0 K1:Act→World→Prop} {a:Act} {w:World} (h:a3W P Q [C,R] a w) (k1:∀ a w,Code.wp P R Q a w→K1 a w) (k0:∀ a w,Code.wp P C (Exit.then K1 Q) a w→K0 a w):K0 a w:=by
 have h2:Code.wp P C (Exit.then (Code.wp P R Q) Q) a w:=h;refine k0 a w (wp_mono h2 ?_);intro e a' w' hq;cases e with
 |normal=>exact k1 _ _ hq
 |exit id=>exact hq
 |goto l=>exact hq
 |ret=>exact hq
 |panic ch=>exact hq
 |outgrown=>exact hq
theorem aSZ {P:Program} {l:List Code} {R:Code} {Q:Exit→Act→World→Prop} {a:Act} {w:World} (hl:l=[R]) (h:Code.wp P R Q a w):a3W P Q l a w:=by
 subst hl;exact h
end Go.Proofs.Ytinlhiakpmcagaa.PFnHanging
