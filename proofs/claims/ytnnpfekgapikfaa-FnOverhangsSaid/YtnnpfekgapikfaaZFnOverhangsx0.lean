import Derived.Test.YtnnpfekgapikfaaProg
import Derived.Maps.RangeWalk
import Derived.Maps.Ext
import Derived.Maps.OwnSet
import Derived.Below
import Derived.Deep.Draws
import Derived.Deep.AppendLies
import Derived.Maps.AppendAt
import Derived.OwnWalk
import Derived.Laws.BytesArg
import Derived.Laws.MakeOwn
import Derived.Laws.OwnMore
import Derived.Deep.OwnRows
import Derived.Tactics
import Derived.Lib.ConvBytes
import Derived.Laws.Slices
import Derived.WalkKit
import Derived.KernelRfl
import Derived.RowKit3
import Derived.Deep.LoopGhost
import Derived.Deep.QuietTactic
import Derived.BigQuiet
import Derived.WideLaws
import Derived.Deep.DeepCutAuto
import Derived.Deep.CutBlock
import Derived.Deep.RegionHeld3
import Derived.Laws.Rows
import Derived.Lib.AppendStr
import Derived.ArgAppend
import Derived.Laws.IdiomCopy
import Derived.OrdersHeld
import Derived.Laws.BitsLemmas
import Derived.RowKit
import Derived.WalkSpells
import Derived.Lib.AppendZerosOnto
import Derived.Lib.SliceRun
import Derived.Lib.Walk
import Derived.Test.YtnnpfekgapikfaaZFnOverhangsw0
import Derived.Test.YtnnpfekgapikfaaZFnOverhangsw1
import Derived.Test.YtnnpfekgapikfaaZFnOverhangsw2
import Derived.Test.YtnnpfekgapikfaaZFnOverhangsw3
import Derived.Test.YtnnpfekgapikfaaZFnOverhangsw4
import Derived.Test.YtnnpfekgapikfaaZFnOverhangsw5
import Derived.Test.YtnnpfekgapikfaaZFnOverhangsw6
import Derived.Test.YtnnpfekgapikfaaZFnOverhangsw7
import Derived.Test.YtnnpfekgapikfaaZFnOverhangsw8
import Derived.Test.YtnnpfekgapikfaaZFnOverhangsw9
import Derived.Test.YtnnpfekgapikfaaZFnOverhangsw10
import Derived.Test.YtnnpfekgapikfaaZFnOverhangsw11
import Derived.Test.YtnnpfekgapikfaaZFnOverhangsw12
import Derived.Test.YtnnpfekgapikfaaZFnOverhangsw13
import Derived.Test.YtnnpfekgapikfaaZFnOverhangsw14
import Derived.Test.YtnnpfekgapikfaaZFnOverhangsw15
import Derived.Test.YtnnpfekgapikfaaZFnOverhangsw16
import Derived.Test.YtnnpfekgapikfaaZFnOverhangsw17
import Derived.Test.YtnnpfekgapikfaaZFnOverhangsw18
import Derived.Test.YtnnpfekgapikfaaZFnOverhangsw19
import Derived.Test.YtnnpfekgapikfaaZFnOverhangsw20
namespace Go.Proofs.Ytnnpfekgapikfaa.PFnOverhangs
open Go.RowKit Go.Proofs.YtnnpfekgapikfaaW.PrintWords Go.Proofs.YtnnpfekgapikfaaW.PrintLast Go.Proofs.YtnnpfekgapikfaaW.PrintMore
attribute [local go_sem] max2_int min2_int max_two min_two max_three min_three max_four min_four
set_option linter.unusedVariables false
set_option linter.unusedSimpArgs false
def b6M:Option Int→Value
  |none=> .nilIface
  |some c=> .iface 0 (.int .i64 c)
theorem uD:b6M none= .nilIface:=rfl
theorem uE (c:Int):b6M (some c)= .iface 0 (.int .i64 c):=rfl
theorem tR {P Q:Prop} (a:Q) (h:Q→P:=by intro h_;(with_reducible repeat(first|apply Kd.R_alloc|apply Kd.R_drewN|apply Kd.R_drew));exact h_):P:=h a
theorem tK {P Q:Prop} (a:Q) (h:Q→P:=by intro h_;(with_reducible repeat(first|refine aV ?_ _|refine aQ ?_|refine aM ?_ _));exact h_):P:=h a
theorem tB {P Q:Prop} (a:Q) (h:Q→P:=by intro h_;repeat(first|(with_reducible first|exact h_|apply bF|apply aN|apply aW|refine aH ?_ (Aside0.out (by assumption)))|exact h_)):P:=h a
theorem tC {P Q:Prop} (a:Q) (h:Q→P:=by intro h_;repeat(first|exact h_|(with_reducible refine Kd.C_alloc ?_ _)|(with_reducible refine Kd.C_drewN ?_ _)|(with_reducible refine Kd.C_drew ?_))):P:=h a
theorem tM {P:Prop} (h:P:=by(try simp only[List.map_toArray,List.map_cons,List.map_nil]);first|done|rfl|(simp only[List.length_drop,List.length_take];rfl)):P:=h
theorem pu {P:Program} {md:Region.Mode} {ops:Array Oper} {Q:Exit→Act→World→Prop} {S:World→Prop} {ds:List Nat} {oi:Oper} {v:Value} {fuel:Nat} {l:Array Bool} {a:Act} {w:World} {a':Act} (i:Nat) (N:Option Tmp) (l':Array Bool) (hc:aJU md ops l l' i=true) (h:iL P md ops Q S ds fuel l' a' w) (hi:ops[i]? =some oi:=by exact rfl) (hN:oi.dst=N:=by exact rfl) (hy:Yields P ops oi v a:=by refine Or.inl ⟨by rfl,?_⟩;intro w';go_simp;with_reducible rfl) (ha:a.put N v=a':=by simp only[Act.put,List.setIfInBounds_toArray,List.set_cons_zero,List.set_cons_succ,GR,PD];rfl) (hQ:∀ c a w,Q (.panic c) (a.put oi.dst v) w→Q (.panic c) a w:=by exact fun _ _ _ h=>h):iL P md ops Q S ds (fuel + 1) l a w:=bB9 l' hi hN hc hQ hy ha h
theorem tk {P:Program} {md:Region.Mode} {ops:Array Oper} {Q:Exit→Act→World→Prop} {S:World→Prop} {ds:List Nat} {oi:Oper} {v:Value} {fuel:Nat} {l:Array Bool} {a:Act} {w:World} {a':Act} (i:Nat) (N:Option Tmp) (l':Array Bool) (hi:ops[i]? =some oi) (hc:takeB md ops ds l l' i=true) (hS:S w) (hy:YieldsIf P ops S oi v a) (h:iL P md ops Q S ds fuel l' a' w) (hN:oi.dst=N:=by exact rfl) (ha:a.put N v=a':=by simp only[Act.put,List.setIfInBounds_toArray,List.set_cons_zero,List.set_cons_succ,GR,PD];rfl) (hQ:∀ c a w,Q (.panic c) (a.put oi.dst v) w→Q (.panic c) a w:=by exact fun _ _ _ h=>h):iL P md ops Q S ds (fuel + 1) l a w:=take_ l' hi hN hc hQ hy hS ha h
abbrev y_:Bool:=true
abbrev n_:Bool:=false
theorem aT {w0 W w1:World} {g:Nat} {o:Obj} (h:Aside0 (w0.heap[g]? =some o)) (hb:Below W.heap.size W w1) (k:w0.heap[g]? =some o→W.heap[g]? =some o:=by intro h_;(with_reducible repeat(first|refine aV ?_ _|refine aQ ?_|refine aM ?_ _));exact h_):Aside0 (w1.heap[g]? =some o):=⟨mY (k h.out) hb⟩
theorem nL {w0 W:World} {g g2:Nat} {o:Obj} (h:w0.heap[g]? =some o) (hg:g2=W.heap.size) (k:w0.heap[g]? =some o→W.heap[g]? =some o:=by intro h_;(with_reducible repeat(first|refine aV ?_ _|refine aQ ?_|refine aM ?_ _));exact h_):g ≠ g2:=by rw[hg];exact Nat.ne_of_lt (SY (k h))
theorem nG {w0 W:World} {g g2:Nat} {o:Obj} (h:w0.heap[g]? =some o) (hg:g2=W.heap.size) (k:w0.heap[g]? =some o→W.heap[g]? =some o:=by intro h_;(with_reducible repeat(first|refine aV ?_ _|refine aQ ?_|refine aM ?_ _));exact h_):g2 ≠ g:=by rw[hg];exact Nat.ne_of_gt (SY (k h))
theorem bS {w w0 W:World} {g:Nat} (h:Below w.heap.size w w0) (hg:g=W.heap.size) (k:Below w.heap.size w w0→Below w.heap.size w W:=by intro h_;repeat(first|(with_reducible first|exact h_|apply bF|apply aN|apply aW|refine aH ?_ (Aside0.out (by assumption)))|exact h_)):w.heap.size≤g:=by rw[hg];exact aK (k h)
theorem dM {w:World} {g:Nat} {t:TypeId} {a0 a1 a2:Value} (h:Aside0 (w.heap[g]? =some (.cells #[a0,a1,a2] t (0,0)))):w.cell? ⟨g,0,none⟩=some a0∧w.frozen? ⟨g,0,none⟩=false∧w.cell? ⟨g,1,none⟩=some a1∧w.frozen? ⟨g,1,none⟩=false∧w.cell? ⟨g,2,none⟩=some a2∧w.frozen? ⟨g,2,none⟩=false:=⟨gF h.out 0,jC h.out 0,gF h.out 1,jC h.out 1,gF h.out 2,jC h.out 2⟩
theorem hB {B:Nat} {w0 W0 W w1:World} (h:Aside0 (Below B w0 W0)) (hb:Below W.heap.size W w1) (hs:B=w0.heap.size:=by rfl) (k:Below B w0 W0→Below B w0 W:=by intro h_;repeat(first|(with_reducible first|exact h_|apply bF|apply aN|apply aW|refine aH ?_ (Aside0.out (by assumption)))|exact h_)):Aside0 (Below B w0 w1):=⟨by subst hs;exact wN (k h.out) hb⟩
theorem rB {α:Type} {d:Kd α} {e:Nat} {w0 W w1:World} {base:Nat} {ok:Nat→Prop} {v:Value} {xs:List α} (h:Aside0 (d.R e w0 base ok v xs)) (hb:Below W.heap.size W w1) (k:d.R e w0 base ok v xs→d.R e W base ok v xs:=by intro h_;(with_reducible repeat(first|apply Kd.R_alloc|apply Kd.R_drewN|apply Kd.R_drew));exact h_):Aside0 (d.R e w1 base ok v xs):=⟨Kd.R_below (k h.out) hb⟩
theorem tF {P Q:Prop} (a:Q) (h:Q→P:=by intro h_;repeat(first|exact h_|(with_reducible first|refine aV ?_ _|refine aQ ?_|refine aM ?_ _)|refine mP ?_ (Aside0.out (by assumption)) _)):P:=h a
theorem fB {w0 W w1:World} {g:Nat} {o:Obj} (h:Aside0 (w0.heap[g]? =some o)) (hb:Below W.heap.size W w1) (k:w0.heap[g]? =some o→W.heap[g]? =some o:=by intro h_;repeat(first|exact h_|(with_reducible first|refine aV ?_ _|refine aQ ?_|refine aM ?_ _)|refine mP ?_ (Aside0.out (by assumption)) _)):Aside0 (w1.heap[g]? =some o):=⟨mY (k h.out) hb⟩
theorem sG {w:World} {g:Nat} {t:TypeId} {a0 a1 a2 b0 b1 b2:Value} (h:w.heap[g]? =some (.cells #[a0,a1,a2] t (0,0))):(((w.setCell ⟨g,0,none⟩ b0).setCell ⟨g,1,none⟩ b1).setCell ⟨g,2,none⟩ b2).heap[g]? =some (.cells #[b0,b1,b2] t (0,0)):=zD (zD (zD h 0 _ rfl) 1 _ rfl) 2 _ rfl
theorem bR {α:Type} {d:Kd α} {e:Nat} {w:World} {base:Nat} {ok:Nat→Prop} {v:Value} {xs:List α} {g t:Nat} {cs:Array Value} {u0 u1 u2:Value} (h:Aside0 (d.R e w base ok v xs)) (hb:Aside0 (w.heap[g]? =some (.cells cs t (0,0)))) (ht:∀ q,q ∈ e::d.E→q ≠ t:=by decide):d.R e (((w.setCell ⟨g,0,none⟩ u0).setCell ⟨g,1,none⟩ u1).setCell ⟨g,2,none⟩ u2) base ok v xs:=Kd.R_mono (Kd.R_far (p:=⟨g,2,none⟩) (Kd.R_far (p:=⟨g,1,none⟩) (Kd.R_far (p:=⟨g,0,none⟩) (Kd.R_types h.out hb.out ht) (fun _ hk=>hk.2) u0) (fun _ hk=>hk.2) u1) (fun _ hk=>hk.2) u2) (fun _ hk=>hk.1)
theorem bE {P:Program} {ops:Array Oper} {Q:Exit→Act→World→Prop} {rest:List Oper} {o:Oper} {a:Act} {W:World} (N:Tmp) (cs:Array Value) (t:TypeId) (h:∀ g,g=W.heap.size→∀ w1,w1.heap[g]? =some (.cells cs t (0,0))→Below W.heap.size W w1→wpList P ops Q rest (a.put o.dst (.pointer (some ⟨g,0,none⟩))) w1) (hgd:o.guard=none:=by rfl) (hd:o.dst=some N:=by rfl) (hrun:(execOp a.eval o).run P W= .ok (.value (.pointer (some ⟨W.heap.size,0,none⟩))) (W.alloc (.cells cs t (0,0))):=by first|(go_simp;done)|(go_simp;rfl)):wpList P ops Q (o::rest) a W:=aTY hgd hd hrun h
theorem sB {w W0 W:World} {g:Nat} (h:Aside0 (Below w.heap.size w W0)) (hg:g=W.heap.size) (k:Below w.heap.size w W0→Below w.heap.size w W:=by intro h_;repeat(first|(with_reducible first|exact h_|apply bF|apply aN|apply aW|refine aH ?_ (Aside0.out (by assumption)))|exact h_)):Aside0 (w.heap.size≤g):=⟨bS h.out hg k⟩
theorem lN {w0 W:World} {g g2:Nat} {o:Obj} (h:Aside0 (w0.heap[g]? =some o)) (hg:g2=W.heap.size) (k:w0.heap[g]? =some o→W.heap[g]? =some o:=by intro h_;(with_reducible repeat(first|refine aV ?_ _|refine aQ ?_|refine aM ?_ _));exact h_):Aside0 (g ≠ g2):=⟨nL h.out hg k⟩
theorem gN {g g2:Nat} (h:Aside0 (g ≠ g2)):Aside0 (g2 ≠ g):=⟨fun e=>h.out e.symm⟩
theorem hC {w W:World} {a:Addr} {v:Value} (h:Aside0 (Below w.heap.size w W)) (hx:w.cell? a=some v):W.cell? a=some v:=(h.out.cell (World.block_lt_of_cell? w _ hx)).trans hx
theorem cB {P:Prop} {α:Type} {d:Kd α} {w W:World} {A:Option Addr} {n:Nat} {xs:List α} (h:Aside0 (d.C w A n xs)) (hb:Aside0 (Below w.heap.size w W)) (k:d.C W A n xs→P:=by intro h_;repeat(first|exact h_|(with_reducible refine Kd.C_alloc ?_ _)|(with_reducible refine Kd.C_drewN ?_ _)|(with_reducible refine Kd.C_drew ?_))):P:=k (Kd.C_below h.out hb.out)
theorem rC {P:Prop} {α:Type} {d:Kd α} {e:Nat} {w:World} {base:Nat} {ok:Nat→Prop} {A:Option Addr} {n c:Nat} {xs:List α} (h:Aside0 (d.R e w base ok (.slice A n c) xs)) (k:d.C w A xs.length xs→P:=by intro h_;repeat(first|exact h_|(with_reducible refine Kd.C_alloc ?_ _)|(with_reducible refine Kd.C_drewN ?_ _)|(with_reducible refine Kd.C_drew ?_))):P:=k (Kd.R_reads' h.out).2.2
theorem tG {α:Type} {d:Kd α} {e:Nat} {w w':World} {base:Nat} {P Q:Nat→Prop} {v:Value} {xs:List α} (a:d.R e w base P v xs) (f:∀ k,P k→Q k) (h:d.R e w base Q v xs→d.R e w' base Q v xs:=by intro h_;(with_reducible repeat(first|apply Kd.R_alloc|apply Kd.R_drewN|apply Kd.R_drew));exact h_):d.R e w' base Q v xs:=h (Kd.R_mono a f)
theorem tE {P:Prop} (h:P:=by first|rfl|(simp[uD,uE] <;> rfl)|(simp[*,uD,uE] <;> rfl)):P:=h
theorem tS {P:Prop} (h:P:=by first|rfl|(simp;done)|(simp[wrap64];done)|(simp[*];done)):P:=h
theorem tD {P:Prop} (h:P:=by repeat(first|exact wZ.refl _|apply wZ.step)):P:=h
theorem tP {P:Prop} (h:P:=by first|(simp only[lM,Act.put,List.setIfInBounds_toArray,List.set_cons_zero,List.set_cons_succ];done)|(simp only[lM,Act.put,List.setIfInBounds_toArray,List.set_cons_zero,List.set_cons_succ];rfl)):P:=h
theorem nm {P:Program} {md:Region.Mode} {ops:Array Oper} {Q:Exit→Act→World→Prop} {S:World→Prop} {ds:List Nat} {fuel:Nat} {l:Array Bool} {a:Act} {w:World} {a':Act} {v:Value} (N:Nat) (h:iL P md ops Q S ds fuel l a' w) (he:a.put (some N) v=a':=by(simp only[Act.put,List.setIfInBounds_toArray,List.set_cons_zero,List.set_cons_succ,GR,PD];rfl)):iL P md ops Q S ds fuel l (a.put (some N) v) w:=gP he h
theorem oB {α β:Type} {x:Option α} {f:α→Option β} {b:β} (h:x.bind f=some b):∃ a,x=some a∧f a=some b:=Option.bind_eq_some_iff.mp h
theorem kF {w:World} {g:Nat} {t:TypeId} {a0 a1 a2:Value} (h:Aside0 (w.heap[g]? =some (.cells #[a0,a1,a2] t (0,0)))):w.cell? ⟨g,0,none⟩=some a0∧w.cell? ⟨g,1,none⟩=some a1∧w.cell? ⟨g,2,none⟩=some a2:=⟨(gF h.out 0).trans rfl,(gF h.out 1).trans rfl,(gF h.out 2).trans rfl⟩
theorem info3:(Try.prog.info? 3).map (fun i=>(i.zero,i.size,i.bytes))=some (some (.int .i64 0),1,8):=by kernel_rfl
theorem b6N:(Try.prog.info? 45).map (fun i=>(i.zero,i.size,i.bytes))=some (some (.agg #[(.int .i64 0),(.int .i64 0)]),2,16):=by kernel_rfl
structure mZ where
  f0:Int
  f1:Int
def z45:mZ:=⟨(0:Int),(0:Int)⟩
def LX:Kd mZ:=Kd.iso (Kd.pair (Kd.int .i64) (Kd.int .i64)) (fun x:mZ=>(x.f0,x.f1))
theorem aWI {w:World} {x:mZ} {cs:List Value} (h:LX.K w x cs):cs=[.int .i64 x.f0,.int .i64 x.f1]:=by
  obtain⟨_,_,rfl,rfl,rfl⟩:=h;exact rfl
theorem aGY {w:World} {base:Nat} {ok:Nat→Prop} {x:mZ} {cs:List Value} (h:LX.M w base ok x cs):cs=[.int .i64 x.f0,.int .i64 x.f1]:=by
  obtain⟨_,_,rfl,rfl,rfl⟩:=h;exact rfl
theorem a1C (w:World) (base:Nat) (ok:Nat→Prop) (x:mZ):LX.M w base ok x [.int .i64 x.f0,.int .i64 x.f1]:=⟨[.int .i64 x.f0],[.int .i64 x.f1],rfl,rfl,rfl⟩
def nA (xs:List mZ) (i:Int):mZ:=xs.getD i.toNat z45
theorem YT {w:World} {A:Option Addr} {n:Nat} {xs:List mZ} (h:Kd.C LX w A n xs) (i:Int) (h0:0≤i) (h1:i < n):∃ ad,A=some ad∧w.cell? (ad.add (i.toNat * 2))=some (.int .i64 (nA xs i).f0)∧w.cell? ⟨(ad.add (i.toNat * 2)).block,(ad.add (i.toNat * 2)).off + 1,none⟩=some (.int .i64 (nA xs i).f1):=by
  obtain⟨ad,c,e,_,hK,hc0⟩:=Kd.C_get h z45 i h0 h1;have hc:∀ j u,c[j]? =some u→w.cell? (ad.add (i.toNat * 2 + j))=some u:=hc0
  obtain rfl:=aWI hK;exact⟨ad,e,hc 0 _ rfl,by rw[← aTU _ _ 1 (by omega)];exact hc 1 _ rfl⟩
def KR (xs:List (List Int)) (i:Int):(List Int):=xs.getD i.toNat ([]:List Int)
theorem b05 {w:World} {A:Option Addr} {n:Nat} {xs:List (List Int)} (h:Kd.C (Kd.slice 3 (Kd.int .i64)) w A n xs) (i:Int) (h0:0≤i) (h1:i < n):∃ ad A0 c0,A=some ad∧w.cell? (ad.add i.toNat)=some (.slice A0 (KR xs i).length c0)∧(KR xs i).length≤c0∧(Kd.int .i64).C w A0 (KR xs i).length (KR xs i):=by
  obtain⟨ad,c,e,_,hK,hc0⟩:=Kd.C_get h ([]:List Int) i h0 h1;have hc:∀ j u,c[j]? =some u→w.cell? (ad.add (i.toNat * 1 + j))=some u:=hc0
  obtain⟨A0,c0,rfl,l0,g0⟩:=hK;exact⟨ad,A0,c0,e,by have hq:=hc 0 _ rfl;rwa [Nat.mul_one,Nat.add_zero]at hq,l0,g0⟩
end Go.Proofs.Ytnnpfekgapikfaa.PFnOverhangs
