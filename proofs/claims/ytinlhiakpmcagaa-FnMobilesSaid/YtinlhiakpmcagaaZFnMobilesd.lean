import Derived.Test.YtinlhiakpmcagaaZFnMobilesx0
import Derived.Test.YtinlhiakpmcagaaZFnMobilesx2
import Derived.Test.YtinlhiakpmcagaaZFnMobilesx4
import Derived.Test.YtinlhiakpmcagaaZFnMobilesx7
import Derived.Test.YtinlhiakpmcagaaZFnMobilesx8
import Derived.Test.YtinlhiakpmcagaaZFnMobilesx9
import Derived.Test.YtinlhiakpmcagaaZFnMobilesx10
import Derived.Test.YtinlhiakpmcagaaZFnMobilesx11
import Derived.Test.YtinlhiakpmcagaaZFnMobilesx12
import Derived.Test.YtinlhiakpmcagaaZFnMobilesx13
import Derived.Test.YtinlhiakpmcagaaZFnMobilesx14
namespace Go.Proofs.Ytinlhiakpmcagaa.PFnMobiles
open Go.RowKit Go.Proofs.YtinlhiakpmcagaaW.PrintWords Go.Proofs.YtinlhiakpmcagaaW.PrintLast Go.Proofs.YtinlhiakpmcagaaW.PrintMore
attribute [local go_sem] max2_int min2_int max_two min_two max_three min_three max_four min_four
set_option linter.unusedVariables false
set_option linter.unusedSimpArgs false
mutual
def laws_FnMobiles.j0:Nat→List Int→Bool→List Int→Bool→List Int→List Int→Bool→List (S64)→List (S64)→List (S64)→List (S64)→Option (Bool)
 |0,_,_,_,_,_,_,_,_,_,_,_=>none
 |k + 1,x4,x5,x8,IM,xA,x20,x21,NE,PR,bHN,bHO=>if x5=true then((mU.f k bHN bHO).bind fun bEF=>(laws_FnMobiles.l0 k x4 x8 IM xA x20 x21 bEF.1 bEF.2 0 NE PR))else(some true)
def laws_FnMobiles.j2:Nat→List Int→Bool→List Int→List Int→Bool→Bool→List (S64)→List (S64)→Option (Bool)
 |0,_,_,_,_,_,_,_,_=>none
 |k + 1,x8,IM,xA,x20,x21,x43,NE,PR=>if x43=true then(if (xA.length:Int)=(wrap64 ((NE.length:Int) + 1))then((mK.f k xA).bind fun aAC=>(if 0 < (x8.length:Int)then(if aAC=(rd x8 0)then(if x21=true then((jQ.f k NE PR x20).bind fun aXO=>((qJ.f k aXO.1 aXO.2.1).bind fun bEG=>(if aXO.2.2=true then(if bEG.2=true then(if bEG.1=true then(if IM=true then(laws_FnMobiles.l1 k xA x20 0)else(some true))else(none))else(none))else(none))))else(some true))else(none))else(none)))else(none))else(none)
def laws_FnMobiles.l1:Nat→List Int→List Int→Int→Option (Bool)
 |0,_,_,_=>none
 |k + 1,xA,x20,x49=>if x49 < (xA.length:Int)then(if 0≤x49 then(if 0 < (x20.length:Int)then(if x49 < (x20.length:Int)then(if 0 < (xA.length:Int)then(if (wrap64 ((rd xA x49) * (rd x20 0)))=(wrap64 ((rd x20 x49) * (rd xA 0)))then(laws_FnMobiles.l1 k xA x20 (wrap64 (x49 + 1)))else(none))else(none))else(none))else(none))else(none))else(some true)
def laws_FnMobiles.l0:Nat→List Int→List Int→Bool→List Int→List Int→Bool→List Int→Bool→Int→List (S64)→List (S64)→Option (Bool)
 |0,_,_,_,_,_,_,_,_,_,_,_=>none
 |k + 1,x4,x8,IM,xA,x20,x21,MG,x43,x44,NE,PR=>if x43=true then(if x44 < (x4.length:Int)then(if 0≤x44 then(if x44 < (MG.length:Int)then(if (rd MG x44)=(wrap64 (-(rd x4 x44)))then(laws_FnMobiles.l0 k x4 x8 IM xA x20 x21 MG x43 (wrap64 (x44 + 1)) NE PR)else(none))else(none))else(none))else(laws_FnMobiles.j2 k x8 IM xA x20 x21 x43 NE PR))else(laws_FnMobiles.j2 k x8 IM xA x20 x21 x43 NE PR)
end
def laws_FnMobiles.f (k:Nat) (l0:List Int):Option (Bool):=(ET.f l0).bind fun aN6=>(if aN6=true then(some true)else((vC.f k l0).bind fun iR=>((mU.f k iR.1 iR.2).bind fun FP=>((xH.f k iR.1 iR.2).bind fun aDA=>((oQ.f k iR.1 iR.2).bind fun U3=>((vG.f k iR.1 iR.2).bind fun aDB=>((qJ.f k iR.1 iR.2).bind fun U4=>((yJ.f k iR.1 iR.2).bind fun aDC=>((xI.f k iR.1 iR.2).bind fun U5=>((xJ.f k iR.1 iR.2).bind fun aDD=>((qA.f k iR.1 iR.2).bind fun JX=>((bB.f k iR.1 iR.2).bind fun aDE=>((iU.f k iR.1 iR.2).bind fun FQ=>((dO.f k iR.1 iR.2).bind fun a0F=>((J4.f l0 1).bind fun aAD=>((eG.f k aAD).bind fun xD=>((dI.f k xD.1 xD.2.1 xD.2.2).bind fun OC=>((dN.f k xD.1 xD.2.1 xD.2.2).bind fun aDF=>(if (FP.2 !=aDA.2)=true then(none)else((jZ.f k FP.1 aDA.1).bind fun aN7=>(if aN7=true then(if (U3.2 !=aDB.2)=true then(none)else((jZ.f k U3.1 aDB.1).bind fun aN8=>(if aN8=true then(if (U4.1 !=aDC.1)=true then(none)else(if (U4.2 !=aDC.2)=true then(none)else(if (U5.2 !=aDD.2)=true then(none)else((jZ.f k U5.1 aDD.1).bind fun aN9=>(if aN9=true then(if (JX.2 !=aDE.2)=true then(none)else((jZ.f k JX.1 aDE.1).bind fun aNA=>(if aNA=true then(if (FQ.2.2 !=a0F.2.2)=true then(none)else((AJ.f k FQ.1 FQ.2.1 a0F.1 a0F.2.1).bind fun aNB=>(if aNB=true then(if (OC.2 !=aDF.2)=true then(none)else((qU.f k OC.1 aDF.1).bind fun aNC=>(if aNC=true then((aT.f k iR.1 iR.2).bind fun PS=>((uI.f k iR.1 iR.2).bind fun PT=>(if (PS !=PT)=true then(none)else((aT.f k iR.1 iR.2).bind fun a3L=>(if (FP.2 !=a3L)=true then(none)else(if OC.2=true then((mU.f k xD.1 xD.2.1).bind fun aDG=>((r9.f k OC.1 xD.2.2).bind fun aDH=>((vQ.f k OC.1).bind fun aDI=>((oQ.f k xD.1 xD.2.1).bind fun a0G=>(if aDG.2=true then(if aDH.2=true then(if aDI.2=true then(if a0G.2=true then((mK.f k aDG.1).bind fun aAE=>(if aDH.1=aAE then(if 0 < (a0G.1.length:Int)then(if aDI.1=(rd a0G.1 0)then(laws_FnMobiles.j0 k FP.1 FP.2 U3.1 U4.1 U5.1 JX.1 JX.2 iR.1 iR.2 FQ.1 FQ.2.1)else(none))else(none))else(none)))else(none))else(none))else(none))else(none))))))else(laws_FnMobiles.j0 k FP.1 FP.2 U3.1 U4.1 U5.1 JX.1 JX.2 iR.1 iR.2 FQ.1 FQ.2.1)))))))else(none))))else(none))))else(none))))else(none))))))else(none))))else(none))))))))))))))))))))))
def laws_FnMobiles.T19:Bool × List (List Nat × List Nat):=(true,[([],[]),([],[]),([0,1],[0,1]),([2],[2]),([3],[3]),([3],[3]),([4,5,3,3],[3,4,5]),([6,3],[3,6]),([3,7],[3,7]),([8,6],[8]),([9],[9]),([9],[9]),([10,11,9],[9,10,11]),([9,12],[9,12]),([13,9],[13]),([14],[14]),([14],[14]),([15,16,14,14],[14,15,16]),([17,14],[14,17]),([14,18],[14,18]),([19,17],[19]),([20],[20]),([20],[20]),([21,22,20],[20,21,22]),([20,23],[20,23]),([24,20],[24]),([25],[25]),([25],[25]),([26,27,25],[25,26,27]),([25,28],[25,28]),([29,25],[29]),([30],[30]),([30],[30]),([31,32,30],[30,31,32]),([30,33],[30,33]),([34,30],[34]),([35],[35]),([35],[35]),([36,37,35,35],[35,36,37]),([38,35],[35,38]),([35,39],[35,39]),([40,38],[40]),([41],[41]),([41],[41]),([42,43,41],[41,42,43]),([41,44],[41,44]),([45,41],[45]),([46],[46]),([46],[46]),([47,48,46,46],[46,47,48]),([49,46],[46,49]),([46,50],[46,50]),([51,49],[51]),([52],[52]),([52],[52]),([53,54,52],[52,53,54]),([52,55],[52,55]),([56,52],[56]),([57],[57]),([57],[57]),([58,59,57,57],[57,58,59]),([60,57],[57,60]),([57,61],[57,61]),([62,60],[62]),([63],[63]),([63],[63]),([64,65,63],[63,64,65]),([63,66],[63,66]),([67,63],[67]),([68],[68]),([68],[68]),([69,70,68,68],[68,69,70]),([71,68],[68,71]),([68,72],[68,72]),([73,71],[73]),([74],[74]),([75,74,74],[74,75]),([74],[74]),([77,76,74],[74,77]),([76,78,74],[74,76,78]),([74,79],[74,79]),([80,78],[80]),([81],[81]),([81],[81]),([83,81,81],[81,83]),([82,84,81],[81,82,84]),([81,85],[81,85])])
def laws_FnMobiles.B19:List Nat:=[0,0,3,7,15,15,63,127,255,511,1023,1023,4095,8191,16383,32767,32767,131071,262143,524287,1048575,2097151,2097151,8388607,16777215,33554431,67108863,67108863,268435455,536870911,1073741823,2147483647,2147483647,8589934591,17179869183,34359738367,68719476735,68719476735,274877906943,549755813887,1099511627775,2199023255551,4398046511103,4398046511103,17592186044415,35184372088831,70368744177663,140737488355327,140737488355327,562949953421311,1125899906842623,2251799813685247,4503599627370495,9007199254740991,9007199254740991,36028797018963967,72057594037927935,144115188075855871,288230376151711743,288230376151711743,1152921504606846975,2305843009213693951,4611686018427387903,9223372036854775807,18446744073709551615,18446744073709551615,73786976294838206463,147573952589676412927,295147905179352825855,590295810358705651711,590295810358705651711,2361183241434822606847,4722366482869645213695,9444732965739290427391,18889465931478580854783,37778931862957161709567,75557863725914323419135,37778931862957161709567,302231454903657293676543,604462909807314587353087,1208925819614629174706175,2417851639229258349412351,4835703278458516698824703,4835703278458516698824703,14507109835375550096474111,38685626227668133590597631,77371252455336267181195263]
theorem laws_FnMobiles.tab19:nI .any (opsOf Try.f3 19)=laws_FnMobiles.T19:=by kernel_rfl
theorem laws_FnMobiles.bits19:l9 laws_FnMobiles.T19.2 laws_FnMobiles.B19=true:=by kernel_rfl
def laws_FnMobiles.T34:Bool × List (List Nat × List Nat):=(true,[([],[]),([],[]),([0,1],[0,1]),([2],[2]),([],[]),([],[]),([4,5],[4,5]),([6],[6]),([7],[7]),([3,8],[3,8])])
def laws_FnMobiles.B34:List Nat:=[0,0,3,7,0,0,48,112,240,511]
theorem laws_FnMobiles.tab34:nI .any (opsOf Try.f3 34)=laws_FnMobiles.T34:=by kernel_rfl
theorem laws_FnMobiles.bits34:l9 laws_FnMobiles.T34.2 laws_FnMobiles.B34=true:=by kernel_rfl
def laws_FnMobiles.T36:Bool × List (List Nat × List Nat):=(true,[([],[]),([0],[0]),([1],[1]),([2],[2]),([3,2],[2,3]),([2],[2]),([5,2],[2,5]),([6,2],[2,6]),([7,2],[2,7]),([4,8,2],[2,4,8]),([2,9],[2,9]),([10,2],[10]),([11],[11]),([12,11,11],[11,12]),([11],[11]),([14,11],[11,14]),([15,11],[11,15]),([13,16,11],[11,13,16]),([11,17],[11,17])])
def laws_FnMobiles.B36:List Nat:=[0,1,3,7,15,7,39,103,231,511,1023,2047,4095,8191,4095,20479,53247,131071,262143]
theorem laws_FnMobiles.tab36:nI .any (opsOf Try.f3 36)=laws_FnMobiles.T36:=by kernel_rfl
theorem laws_FnMobiles.bits36:l9 laws_FnMobiles.T36.2 laws_FnMobiles.B36=true:=by kernel_rfl
def laws_FnMobiles.T47:Bool × List (List Nat × List Nat):=(true,[([],[]),([],[]),([0,1],[0,1]),([2],[2]),([],[]),([4],[4]),([5],[5]),([3,6],[3,6]),([],[]),([],[]),([8,9],[8,9]),([10],[10]),([],[]),([12],[12]),([13],[13]),([11,14],[11,14]),([7,15],[7,15])])
def laws_FnMobiles.B47:List Nat:=[0,0,3,7,0,16,48,127,0,0,768,1792,0,4096,12288,32512,65535]
theorem laws_FnMobiles.tab47:nI .any (opsOf Try.f3 47)=laws_FnMobiles.T47:=by kernel_rfl
theorem laws_FnMobiles.bits47:l9 laws_FnMobiles.T47.2 laws_FnMobiles.B47=true:=by kernel_rfl
def aGF (reg:Bool) (n:Nat):Code→Option (List Code)
 | .region m _ _=>if reg && m==n then some []else none
 | .cond (.tmp m) _ _=>if !reg && m==n then some []else none
 | .seq a b=>match aGF reg n a with
  |some l=>some (l ++ [b])
  |none=>aGF reg n b
 |_=>none
def aRH (n:Nat):Code→Option (List Code)
 | .region m o d=>if m==n then some [.region m o d]else none
 | .seq a b=>match aRH n a with
  |some l=>some (l ++ [b])
  |none=>aRH n b
 |_=>none
def bWX (reg:Bool) (n:Nat) (f:Func):List Code:=(aGF reg n (f.body.getD .skip)).getD []
def aJ4 (P:Program) (Q:Exit→Act→World→Prop):List Code→Act→World→Prop
 |[]=>Q .normal
 |[r]=>r.wp P Q
 |c::l=>c.wp P (Exit.then (aJ4 P Q l) Q)
theorem c6O {P:Program} {R:Code} {Q:Exit→Act→World→Prop} {K:Act→World→Prop} {a:Act} {w:World} (h:aJ4 P Q [R] a w) (k:∀ a w,Code.wp P R Q a w→K a w):K a w:=k a w h
theorem bWY {P:Program} {l:List Code} {R:Code} {Q:Exit→Act→World→Prop} {a:Act} {w:World} (hl:l=[R]) (h:Code.wp P R Q a w):aJ4 P Q l a w:=by
 subst hl;exact h
end Go.Proofs.Ytinlhiakpmcagaa.PFnMobiles
