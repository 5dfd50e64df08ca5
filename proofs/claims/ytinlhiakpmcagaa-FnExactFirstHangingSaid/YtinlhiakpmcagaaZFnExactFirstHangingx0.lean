import Derived.Test.YtinlhiakpmcagaaProg
import Derived.Maps.RangeWalk
import Derived.Maps.Ext
import Derived.Maps.OwnSet
import Derived.Below
import Derived.Deep.Draws
import Derived.Deep.AppendLies
import Derived.Maps.AppendAt
import Derived.OwnWalk
import Derived.Laws.BytesArg
import Derived.Laws.MakeOwn
import Derived.Laws.OwnMore
import Derived.Deep.OwnRows
import Derived.Tactics
import Derived.Lib.ConvBytes
import Derived.Laws.Slices
import Derived.WalkKit
import Derived.KernelRfl
import Derived.RowKit3
import Derived.Deep.LoopGhost
import Derived.Deep.QuietTactic
import Derived.BigQuiet
import Derived.WideLaws
import Derived.Deep.DeepCutAuto
import Derived.Deep.CutBlock
import Derived.Deep.RegionHeld3
import Derived.Laws.Rows
import Derived.Lib.AppendStr
import Derived.ArgAppend
import Derived.Laws.IdiomCopy
import Derived.OrdersHeld
import Derived.Laws.BitsLemmas
import Derived.RowKit
import Derived.WalkSpells
import Derived.Lib.AppendZerosOnto
import Derived.Lib.SliceRun
import Derived.Lib.Walk
import Derived.Shelf.Slices.Delete
import Derived.Sort.OwnSortedInts
import Derived.Test.YtinlhiakpmcagaaZFnExactFirstHangingw0
import Derived.Test.YtinlhiakpmcagaaZFnExactFirstHangingw1
import Derived.Test.YtinlhiakpmcagaaZFnExactFirstHangingw2
import Derived.Test.YtinlhiakpmcagaaZFnExactFirstHangingw3
import Derived.Test.YtinlhiakpmcagaaZFnExactFirstHangingw4
import Derived.Test.YtinlhiakpmcagaaZFnExactFirstHangingw5
import Derived.Test.YtinlhiakpmcagaaZFnExactFirstHangingw6
import Derived.Test.YtinlhiakpmcagaaZFnExactFirstHangingw7
import Derived.Test.YtinlhiakpmcagaaZFnExactFirstHangingw8
import Derived.Test.YtinlhiakpmcagaaZFnExactFirstHangingw9
import Derived.Test.YtinlhiakpmcagaaZFnExactFirstHangingw10
import Derived.Test.YtinlhiakpmcagaaZFnExactFirstHangingw11
import Derived.Test.YtinlhiakpmcagaaZFnExactFirstHangingw12
import Derived.Test.YtinlhiakpmcagaaZFnExactFirstHangingw13
import Derived.Test.YtinlhiakpmcagaaZFnExactFirstHangingw14
import Derived.Test.YtinlhiakpmcagaaZFnExactFirstHangingw15
import Derived.Test.YtinlhiakpmcagaaZFnExactFirstHangingw16
import Derived.Test.YtinlhiakpmcagaaZFnExactFirstHangingw17
import Derived.Test.YtinlhiakpmcagaaZFnExactFirstHangingw18
import Derived.Test.YtinlhiakpmcagaaZFnExactFirstHangingw19
import Derived.Test.YtinlhiakpmcagaaZFnExactFirstHangingw20
namespace Go.Proofs.Ytinlhiakpmcagaa.PFnExactFirstHanging
open Go.RowKit Go.Proofs.YtinlhiakpmcagaaW.PrintWords Go.Proofs.YtinlhiakpmcagaaW.PrintLast Go.Proofs.YtinlhiakpmcagaaW.PrintMore
attribute [local go_sem] max2_int min2_int max_two min_two max_three min_three max_four min_four
set_option linter.unusedVariables false
set_option linter.unusedSimpArgs false
def aK9:Option Int→Value
  |none=> .nilIface
  |some c=> .iface 0 (.int .i64 c)
theorem mY:aK9 none= .nilIface:=rfl
theorem mZ (c:Int):aK9 (some c)= .iface 0 (.int .i64 c):=rfl
theorem tR {P Q:Prop} (a:Q) (h:Q→P:=by intro h_;(with_reducible repeat(first|apply Kd.R_alloc|apply Kd.R_drewN|apply Kd.R_drew));exact h_):P:=h a
theorem tK {P Q:Prop} (a:Q) (h:Q→P:=by intro h_;(with_reducible repeat(first|refine aK ?_ _|refine aI ?_|refine aJ ?_ _));exact h_):P:=h a
theorem tB {P Q:Prop} (a:Q) (h:Q→P:=by intro h_;repeat(first|(with_reducible first|exact h_|apply eP|apply dU|apply bQ|refine eG ?_ (Aside0.out (by assumption)))|exact h_)):P:=h a
theorem tC {P Q:Prop} (a:Q) (h:Q→P:=by intro h_;repeat(first|exact h_|(with_reducible refine Kd.C_alloc ?_ _)|(with_reducible refine Kd.C_drewN ?_ _)|(with_reducible refine Kd.C_drew ?_))):P:=h a
theorem tM {P:Prop} (h:P:=by(try simp only[List.map_toArray,List.map_cons,List.map_nil]);first|done|rfl|(simp only[List.length_drop,List.length_take];rfl)):P:=h
theorem pu {P:Program} {md:Region.Mode} {ops:Array Oper} {Q:Exit→Act→World→Prop} {S:World→Prop} {ds:List Nat} {oi:Oper} {v:Value} {fuel:Nat} {l:Array Bool} {a:Act} {w:World} {a':Act} (i:Nat) (N:Option Tmp) (l':Array Bool) (hc:YJ md ops l l' i=true) (h:dM P md ops Q S ds fuel l' a' w) (hi:ops[i]? =some oi:=by exact rfl) (hN:oi.dst=N:=by exact rfl) (hy:Yields P ops oi v a:=by refine Or.inl ⟨by rfl,?_⟩;intro w';go_simp;with_reducible rfl) (ha:a.put N v=a':=by simp only[Act.put,List.setIfInBounds_toArray,List.set_cons_zero,List.set_cons_succ,fM,gU];rfl) (hQ:∀ c a w,Q (.panic c) (a.put oi.dst v) w→Q (.panic c) a w:=by exact fun _ _ _ h=>h):dM P md ops Q S ds (fuel + 1) l a w:=jR l' hi hN hc hQ hy ha h
theorem tk {P:Program} {md:Region.Mode} {ops:Array Oper} {Q:Exit→Act→World→Prop} {S:World→Prop} {ds:List Nat} {oi:Oper} {v:Value} {fuel:Nat} {l:Array Bool} {a:Act} {w:World} {a':Act} (i:Nat) (N:Option Tmp) (l':Array Bool) (hi:ops[i]? =some oi) (hc:takeB md ops ds l l' i=true) (hS:S w) (hy:YieldsIf P ops S oi v a) (h:dM P md ops Q S ds fuel l' a' w) (hN:oi.dst=N:=by exact rfl) (ha:a.put N v=a':=by simp only[Act.put,List.setIfInBounds_toArray,List.set_cons_zero,List.set_cons_succ,fM,gU];rfl) (hQ:∀ c a w,Q (.panic c) (a.put oi.dst v) w→Q (.panic c) a w:=by exact fun _ _ _ h=>h):dM P md ops Q S ds (fuel + 1) l a w:=take_ l' hi hN hc hQ hy hS ha h
abbrev y_:Bool:=true
abbrev n_:Bool:=false
theorem dJ {w0 W w1:World} {g:Nat} {o:Obj} (h:Aside0 (w0.heap[g]? =some o)) (hb:Below W.heap.size W w1) (k:w0.heap[g]? =some o→W.heap[g]? =some o:=by intro h_;(with_reducible repeat(first|refine aK ?_ _|refine aI ?_|refine aJ ?_ _));exact h_):Aside0 (w1.heap[g]? =some o):=⟨DX (k h.out) hb⟩
theorem nL {w0 W:World} {g g2:Nat} {o:Obj} (h:w0.heap[g]? =some o) (hg:g2=W.heap.size) (k:w0.heap[g]? =some o→W.heap[g]? =some o:=by intro h_;(with_reducible repeat(first|refine aK ?_ _|refine aI ?_|refine aJ ?_ _));exact h_):g ≠ g2:=by rw[hg];exact Nat.ne_of_lt (FV (k h))
theorem bS {w w0 W:World} {g:Nat} (h:Below w.heap.size w w0) (hg:g=W.heap.size) (k:Below w.heap.size w w0→Below w.heap.size w W:=by intro h_;repeat(first|(with_reducible first|exact h_|apply eP|apply dU|apply bQ|refine eG ?_ (Aside0.out (by assumption)))|exact h_)):w.heap.size≤g:=by rw[hg];exact aN (k h)
theorem fH {w:World} {g:Nat} {t:TypeId} {a0 a1:Value} (h:Aside0 (w.heap[g]? =some (.cells #[a0,a1] t (0,0)))):w.cell? ⟨g,0,none⟩=some a0∧w.frozen? ⟨g,0,none⟩=false∧w.cell? ⟨g,1,none⟩=some a1∧w.frozen? ⟨g,1,none⟩=false:=⟨aV h.out 0,rR h.out 0,aV h.out 1,rR h.out 1⟩
theorem hB {B:Nat} {w0 W0 W w1:World} (h:Aside0 (Below B w0 W0)) (hb:Below W.heap.size W w1) (hs:B=w0.heap.size:=by rfl) (k:Below B w0 W0→Below B w0 W:=by intro h_;repeat(first|(with_reducible first|exact h_|apply eP|apply dU|apply bQ|refine eG ?_ (Aside0.out (by assumption)))|exact h_)):Aside0 (Below B w0 w1):=⟨by subst hs;exact a3R (k h.out) hb⟩
theorem rB {α:Type} {d:Kd α} {e:Nat} {w0 W w1:World} {base:Nat} {ok:Nat→Prop} {v:Value} {xs:List α} (h:Aside0 (d.R e w0 base ok v xs)) (hb:Below W.heap.size W w1) (k:d.R e w0 base ok v xs→d.R e W base ok v xs:=by intro h_;(with_reducible repeat(first|apply Kd.R_alloc|apply Kd.R_drewN|apply Kd.R_drew));exact h_):Aside0 (d.R e w1 base ok v xs):=⟨Kd.R_below (k h.out) hb⟩
theorem fB {w0 W w1:World} {g:Nat} {o:Obj} (h:Aside0 (w0.heap[g]? =some o)) (hb:Below W.heap.size W w1) (k:w0.heap[g]? =some o→W.heap[g]? =some o:=by intro h_;repeat(first|exact h_|(with_reducible first|refine aK ?_ _|refine aI ?_|refine aJ ?_ _)|refine eQ ?_ (Aside0.out (by assumption)) _)):Aside0 (w1.heap[g]? =some o):=⟨DX (k h.out) hb⟩
theorem vM {α:Type} {d:Kd α} {e:Nat} {w:World} {base:Nat} {ok:Nat→Prop} {v:Value} {xs:List α} {g t:Nat} {cs:Array Value} {u0 u1:Value} (h:Aside0 (d.R e w base ok v xs)) (hb:Aside0 (w.heap[g]? =some (.cells cs t (0,0)))) (ht:∀ q,q ∈ e::d.E→q ≠ t:=by decide):d.R e ((w.setCell ⟨g,0,none⟩ u0).setCell ⟨g,1,none⟩ u1) base ok v xs:=Kd.R_mono (Kd.R_far (p:=⟨g,1,none⟩) (Kd.R_far (p:=⟨g,0,none⟩) (Kd.R_types h.out hb.out ht) (fun _ hk=>hk.2) u0) (fun _ hk=>hk.2) u1) (fun _ hk=>hk.1)
theorem rT {α:Type} {d:Kd α} {e:Nat} {w:World} {base:Nat} {ok:Nat→Prop} {v:Value} {xs:List α} (h:d.R e w base ok v xs):d.R e w base (fun _=>True) v xs:=Kd.R_mono h (fun _ _=>trivial)
theorem bE {P:Program} {ops:Array Oper} {Q:Exit→Act→World→Prop} {rest:List Oper} {o:Oper} {a:Act} {W:World} (N:Tmp) (cs:Array Value) (t:TypeId) (h:∀ g,g=W.heap.size→∀ w1,w1.heap[g]? =some (.cells cs t (0,0))→Below W.heap.size W w1→wpList P ops Q rest (a.put o.dst (.pointer (some ⟨g,0,none⟩))) w1) (hgd:o.guard=none:=by rfl) (hd:o.dst=some N:=by rfl) (hrun:(execOp a.eval o).run P W= .ok (.value (.pointer (some ⟨W.heap.size,0,none⟩))) (W.alloc (.cells cs t (0,0))):=by first|(go_simp;done)|(go_simp;rfl)):wpList P ops Q (o::rest) a W:=a8B hgd hd hrun h
theorem sB {w W0 W:World} {g:Nat} (h:Aside0 (Below w.heap.size w W0)) (hg:g=W.heap.size) (k:Below w.heap.size w W0→Below w.heap.size w W:=by intro h_;repeat(first|(with_reducible first|exact h_|apply eP|apply dU|apply bQ|refine eG ?_ (Aside0.out (by assumption)))|exact h_)):Aside0 (w.heap.size≤g):=⟨bS h.out hg k⟩
theorem lN {w0 W:World} {g g2:Nat} {o:Obj} (h:Aside0 (w0.heap[g]? =some o)) (hg:g2=W.heap.size) (k:w0.heap[g]? =some o→W.heap[g]? =some o:=by intro h_;(with_reducible repeat(first|refine aK ?_ _|refine aI ?_|refine aJ ?_ _));exact h_):Aside0 (g ≠ g2):=⟨nL h.out hg k⟩
theorem gN {g g2:Nat} (h:Aside0 (g ≠ g2)):Aside0 (g2 ≠ g):=⟨fun e=>h.out e.symm⟩
theorem hC {w W:World} {a:Addr} {v:Value} (h:Aside0 (Below w.heap.size w W)) (hx:w.cell? a=some v):W.cell? a=some v:=(h.out.cell (World.block_lt_of_cell? w _ hx)).trans hx
theorem cB {P:Prop} {α:Type} {d:Kd α} {w W:World} {A:Option Addr} {n:Nat} {xs:List α} (h:Aside0 (d.C w A n xs)) (hb:Aside0 (Below w.heap.size w W)) (k:d.C W A n xs→P:=by intro h_;repeat(first|exact h_|(with_reducible refine Kd.C_alloc ?_ _)|(with_reducible refine Kd.C_drewN ?_ _)|(with_reducible refine Kd.C_drew ?_))):P:=k (Kd.C_below h.out hb.out)
theorem rC {P:Prop} {α:Type} {d:Kd α} {e:Nat} {w:World} {base:Nat} {ok:Nat→Prop} {A:Option Addr} {n c:Nat} {xs:List α} (h:Aside0 (d.R e w base ok (.slice A n c) xs)) (k:d.C w A xs.length xs→P:=by intro h_;repeat(first|exact h_|(with_reducible refine Kd.C_alloc ?_ _)|(with_reducible refine Kd.C_drewN ?_ _)|(with_reducible refine Kd.C_drew ?_))):P:=k (Kd.R_reads' h.out).2.2
theorem tG {α:Type} {d:Kd α} {e:Nat} {w w':World} {base:Nat} {P Q:Nat→Prop} {v:Value} {xs:List α} (a:d.R e w base P v xs) (f:∀ k,P k→Q k) (h:d.R e w base Q v xs→d.R e w' base Q v xs:=by intro h_;(with_reducible repeat(first|apply Kd.R_alloc|apply Kd.R_drewN|apply Kd.R_drew));exact h_):d.R e w' base Q v xs:=h (Kd.R_mono a f)
theorem tE {P:Prop} (h:P:=by first|rfl|(simp[mY,mZ] <;> rfl)|(simp[*,mY,mZ] <;> rfl)):P:=h
theorem tS {P:Prop} (h:P:=by first|rfl|(simp;done)|(simp[wrap64];done)|(simp[*];done)):P:=h
theorem tD {P:Prop} (h:P:=by repeat(first|exact gJ.refl _|apply gJ.step)):P:=h
theorem nm {P:Program} {md:Region.Mode} {ops:Array Oper} {Q:Exit→Act→World→Prop} {S:World→Prop} {ds:List Nat} {fuel:Nat} {l:Array Bool} {a:Act} {w:World} {a':Act} {v:Value} (N:Nat) (h:dM P md ops Q S ds fuel l a' w) (he:a.put (some N) v=a':=by(simp only[Act.put,List.setIfInBounds_toArray,List.set_cons_zero,List.set_cons_succ,fM,gU];rfl)):dM P md ops Q S ds fuel l (a.put (some N) v) w:=kX he h
theorem oB {α β:Type} {x:Option α} {f:α→Option β} {b:β} (h:x.bind f=some b):∃ a,x=some a∧f a=some b:=Option.bind_eq_some_iff.mp h
theorem nS {w:World} {g:Nat} {t:TypeId} {a0 a1:Value} (h:Aside0 (w.heap[g]? =some (.cells #[a0,a1] t (0,0)))):w.cell? ⟨g,0,none⟩=some a0∧w.cell? ⟨g,1,none⟩=some a1:=⟨(aV h.out 0).trans rfl,(aV h.out 1).trans rfl⟩
theorem QL {P:Program} {ops:Array Oper} {Q:Exit→Act→World→Prop} {rest:List Oper} {oi:Oper} {a:Act} {w:World} (N:Option Tmp) (hd:oi.dst=N) (hg:oi.guard=none) {f:FuncId} {fn:Func} {o:Operand} {os_:Array Operand} {ts:Array TypeId} {cap:Array Value} (hf:P.funcs[f]? =some fn) (hname:(fn.name=="runtime.NumGoroutine")=false) (hb:fn.body.isSome=true) (args:Array Value)
    (hop:oi.op= .call { callee:= .value o,args:=os_,argTypes:=ts }) (hv:a.eval o= .func (.func f) #[] cap) (hargs:os_.map a.eval ++ cap=args)
    (h:Calls P f args w fun e w'=>∃ v,e= .returned v∧wpList P ops Q rest (a.put N v) w'):wpList P ops Q (oi::rest) a w:=by
  refine wpList_plain hg fun K hK=>?_
  have he:=VB hf hname hb args w;have hrun:(execOp a.eval oi).run P w= .ok (.enter f args) w:=by
    unfold execOp;simp[hop,resolve,Deferred.ofValue,invoke,hv,hargs,he]
  unfold Oper.wp;rw[hrun,Oper.upon_enter];refine h.mono fun e w'' hh=>?_
  obtain⟨v,rfl,hk⟩:=hh;subst hd;exact hK _ _ hk
theorem info3:(Try.prog.info? 3).map (fun i=>(i.zero,i.size,i.bytes))=some (some (.int .i64 0),1,8):=by kernel_rfl
theorem aET:(Try.prog.info? 4).map (fun i=>(i.zero,i.size,i.bytes))=some (some (.bool false),1,1):=by kernel_rfl
theorem G5:(Try.prog.info? 64).map (fun i=>(i.zero,i.size,i.bytes))=some (some (.agg #[(.int .i64 0),(.int .i64 0)]),2,16):=by kernel_rfl
structure S64 where
  f0:Int
  f1:Int
def z64:S64:=⟨(0:Int),(0:Int)⟩
def dQ:Kd S64:=Kd.iso (Kd.pair (Kd.int .i64) (Kd.int .i64)) (fun x:S64=>(x.f0,x.f1))
theorem I4:Kd.Heap dQ:=Kd.heap_iso _ (Kd.heap_pair (Kd.heap_int .i64) (Kd.heap_int .i64))
theorem aA0 {w:World} {x:S64} {cs:List Value} (h:dQ.K w x cs):cs=[.int .i64 x.f0,.int .i64 x.f1]:=by
  obtain⟨_,_,rfl,rfl,rfl⟩:=h;exact rfl
theorem kY {w:World} {base:Nat} {ok:Nat→Prop} {x:S64} {cs:List Value} (h:dQ.M w base ok x cs):cs=[.int .i64 x.f0,.int .i64 x.f1]:=by
  obtain⟨_,_,rfl,rfl,rfl⟩:=h;exact rfl
theorem xE (w:World) (base:Nat) (ok:Nat→Prop) (x:S64):dQ.M w base ok x [.int .i64 x.f0,.int .i64 x.f1]:=⟨[.int .i64 x.f0],[.int .i64 x.f1],rfl,rfl,rfl⟩
def aD (xs:List S64) (i:Int):S64:=xs.getD i.toNat z64
theorem iB {w:World} {A:Option Addr} {n:Nat} {xs:List S64} (h:Kd.C dQ w A n xs) (i:Int) (h0:0≤i) (h1:i < n):∃ ad,A=some ad∧w.cell? (ad.add (i.toNat * 2))=some (.int .i64 (aD xs i).f0)∧w.cell? ⟨(ad.add (i.toNat * 2)).block,(ad.add (i.toNat * 2)).off + 1,none⟩=some (.int .i64 (aD xs i).f1):=by
  obtain⟨ad,c,e,_,hK,hc0⟩:=Kd.C_get h z64 i h0 h1;have hc:∀ j u,c[j]? =some u→w.cell? (ad.add (i.toNat * 2 + j))=some u:=hc0
  obtain rfl:=aA0 hK;exact⟨ad,e,hc 0 _ rfl,by rw[← a7Z _ _ 1 (by omega)];exact hc 1 _ rfl⟩
end Go.Proofs.Ytinlhiakpmcagaa.PFnExactFirstHanging
