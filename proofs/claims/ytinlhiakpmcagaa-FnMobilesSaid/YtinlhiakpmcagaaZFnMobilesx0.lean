import Derived.Test.YtinlhiakpmcagaaProg
import Derived.Maps.RangeWalk
import Derived.Maps.Ext
import Derived.Maps.OwnSet
import Derived.Below
import Derived.Deep.Draws
import Derived.Deep.AppendLies
import Derived.Maps.AppendAt
import Derived.OwnWalk
import Derived.Laws.BytesArg
import Derived.Laws.MakeOwn
import Derived.Laws.OwnMore
import Derived.Deep.OwnRows
import Derived.Tactics
import Derived.Lib.ConvBytes
import Derived.Laws.Slices
import Derived.WalkKit
import Derived.KernelRfl
import Derived.RowKit3
import Derived.Deep.LoopGhost
import Derived.Deep.QuietTactic
import Derived.BigQuiet
import Derived.WideLaws
import Derived.Deep.DeepCutAuto
import Derived.Deep.CutBlock
import Derived.Deep.RegionHeld3
import Derived.Laws.Rows
import Derived.Lib.AppendStr
import Derived.ArgAppend
import Derived.Laws.IdiomCopy
import Derived.OrdersHeld
import Derived.Laws.BitsLemmas
import Derived.RowKit
import Derived.WalkSpells
import Derived.Lib.AppendZerosOnto
import Derived.Lib.SliceRun
import Derived.Lib.Walk
import Derived.Test.YtinlhiakpmcagaaZFnMobilesw0
import Derived.Test.YtinlhiakpmcagaaZFnMobilesw1
import Derived.Test.YtinlhiakpmcagaaZFnMobilesw2
import Derived.Test.YtinlhiakpmcagaaZFnMobilesw3
import Derived.Test.YtinlhiakpmcagaaZFnMobilesw4
import Derived.Test.YtinlhiakpmcagaaZFnMobilesw5
import Derived.Test.YtinlhiakpmcagaaZFnMobilesw6
import Derived.Test.YtinlhiakpmcagaaZFnMobilesw7
import Derived.Test.YtinlhiakpmcagaaZFnMobilesw8
import Derived.Test.YtinlhiakpmcagaaZFnMobilesw9
import Derived.Test.YtinlhiakpmcagaaZFnMobilesw10
import Derived.Test.YtinlhiakpmcagaaZFnMobilesw11
import Derived.Test.YtinlhiakpmcagaaZFnMobilesw12
import Derived.Test.YtinlhiakpmcagaaZFnMobilesw13
import Derived.Test.YtinlhiakpmcagaaZFnMobilesw14
import Derived.Test.YtinlhiakpmcagaaZFnMobilesw15
import Derived.Test.YtinlhiakpmcagaaZFnMobilesw16
import Derived.Test.YtinlhiakpmcagaaZFnMobilesw17
import Derived.Test.YtinlhiakpmcagaaZFnMobilesw18
import Derived.Test.YtinlhiakpmcagaaZFnMobilesw19
import Derived.Test.YtinlhiakpmcagaaZFnMobilesw20
namespace Go.Proofs.Ytinlhiakpmcagaa.PFnMobiles
open Go.RowKit Go.Proofs.YtinlhiakpmcagaaW.PrintWords Go.Proofs.YtinlhiakpmcagaaW.PrintLast Go.Proofs.YtinlhiakpmcagaaW.PrintMore
attribute [local go_sem] max2_int min2_int max_two min_two max_three min_three max_four min_four
set_option linter.unusedVariables false
set_option linter.unusedSimpArgs false
def bIL:Option Int→Value
  |none=> .nilIface
  |some c=> .iface 0 (.int .i64 c)
theorem ER:bIL none= .nilIface:=rfl
theorem ES (c:Int):bIL (some c)= .iface 0 (.int .i64 c):=rfl
theorem tR {P Q:Prop} (a:Q) (h:Q→P:=by intro h_;(with_reducible repeat(first|apply Kd.R_alloc|apply Kd.R_drewN|apply Kd.R_drew));exact h_):P:=h a
theorem tK {P Q:Prop} (a:Q) (h:Q→P:=by intro h_;(with_reducible repeat(first|refine aI ?_ _|refine aK ?_|refine aH ?_ _));exact h_):P:=h a
theorem tB {P Q:Prop} (a:Q) (h:Q→P:=by intro h_;repeat(first|(with_reducible first|exact h_|apply iH|apply gJ|apply jP|refine dE ?_ (Aside0.out (by assumption)))|exact h_)):P:=h a
theorem tC {P Q:Prop} (a:Q) (h:Q→P:=by intro h_;repeat(first|exact h_|(with_reducible refine Kd.C_alloc ?_ _)|(with_reducible refine Kd.C_drewN ?_ _)|(with_reducible refine Kd.C_drew ?_))):P:=h a
theorem tM {P:Prop} (h:P:=by(try simp only[List.map_toArray,List.map_cons,List.map_nil]);first|done|rfl|(simp only[List.length_drop,List.length_take];rfl)):P:=h
theorem pu {P:Program} {md:Region.Mode} {ops:Array Oper} {Q:Exit→Act→World→Prop} {S:World→Prop} {ds:List Nat} {oi:Oper} {v:Value} {fuel:Nat} {l:Array Bool} {a:Act} {w:World} {a':Act} (i:Nat) (N:Option Tmp) (l':Array Bool) (hc:aE4 md ops l l' i=true) (h:fM P md ops Q S ds fuel l' a' w) (hi:ops[i]? =some oi:=by exact rfl) (hN:oi.dst=N:=by exact rfl) (hy:Yields P ops oi v a:=by refine Or.inl ⟨by rfl,?_⟩;intro w';go_simp;with_reducible rfl) (ha:a.put N v=a':=by simp only[Act.put,List.setIfInBounds_toArray,List.set_cons_zero,List.set_cons_succ,uK,NM];rfl) (hQ:∀ c a w,Q (.panic c) (a.put oi.dst v) w→Q (.panic c) a w:=by exact fun _ _ _ h=>h):fM P md ops Q S ds (fuel + 1) l a w:=b8D l' hi hN hc hQ hy ha h
abbrev y_:Bool:=true
abbrev n_:Bool:=false
theorem nQ {w:World} {g i j:Nat} {a b:Value} {v:Option Value} {q:Addr} (h:w.cell? q=v) (hn:q.block ≠ g):((w.setCell ⟨g,i,none⟩ a).setCell ⟨g,j,none⟩ b).cell? q=v:=(cell_far (p:=⟨g,_,none⟩) hn _).trans ((cell_far (p:=⟨g,_,none⟩) hn _).trans h)
theorem FY {w:World} {a:Addr} {n g:Nat} {v:Value} (h:w.cell? (a.add n)=some v) (hg:w.heap.size≤g):∀ m,(a.add m).block ≠ g:=fun m=>by rw[add_block];exact Nat.ne_of_lt (Nat.lt_of_lt_of_le (by have h_:=World.block_lt_of_cell? _ _ h;rwa [add_block]at h_) hg)
theorem bV {w0 W w1:World} {g:Nat} {o:Obj} (h:Aside0 (w0.heap[g]? =some o)) (hb:Below W.heap.size W w1) (k:w0.heap[g]? =some o→W.heap[g]? =some o:=by intro h_;(with_reducible repeat(first|refine aI ?_ _|refine aK ?_|refine aH ?_ _));exact h_):Aside0 (w1.heap[g]? =some o):=⟨tV (k h.out) hb⟩
theorem nL {w0 W:World} {g g2:Nat} {o:Obj} (h:w0.heap[g]? =some o) (hg:g2=W.heap.size) (k:w0.heap[g]? =some o→W.heap[g]? =some o:=by intro h_;(with_reducible repeat(first|refine aI ?_ _|refine aK ?_|refine aH ?_ _));exact h_):g ≠ g2:=by rw[hg];exact Nat.ne_of_lt (mO (k h))
theorem nG {w0 W:World} {g g2:Nat} {o:Obj} (h:w0.heap[g]? =some o) (hg:g2=W.heap.size) (k:w0.heap[g]? =some o→W.heap[g]? =some o:=by intro h_;(with_reducible repeat(first|refine aI ?_ _|refine aK ?_|refine aH ?_ _));exact h_):g2 ≠ g:=by rw[hg];exact Nat.ne_of_gt (mO (k h))
theorem bS {w w0 W:World} {g:Nat} (h:Below w.heap.size w w0) (hg:g=W.heap.size) (k:Below w.heap.size w w0→Below w.heap.size w W:=by intro h_;repeat(first|(with_reducible first|exact h_|apply iH|apply gJ|apply jP|refine dE ?_ (Aside0.out (by assumption)))|exact h_)):w.heap.size≤g:=by rw[hg];exact aU (k h)
theorem dJ {w:World} {g:Nat} {t:TypeId} {a0 a1:Value} (h:Aside0 (w.heap[g]? =some (.cells #[a0,a1] t (0,0)))):w.cell? ⟨g,0,none⟩=some a0∧w.frozen? ⟨g,0,none⟩=false∧w.cell? ⟨g,1,none⟩=some a1∧w.frozen? ⟨g,1,none⟩=false:=⟨aN h.out 0,gV h.out 0,aN h.out 1,gV h.out 1⟩
theorem hB {B:Nat} {w0 W0 W w1:World} (h:Aside0 (Below B w0 W0)) (hb:Below W.heap.size W w1) (hs:B=w0.heap.size:=by rfl) (k:Below B w0 W0→Below B w0 W:=by intro h_;repeat(first|(with_reducible first|exact h_|apply iH|apply gJ|apply jP|refine dE ?_ (Aside0.out (by assumption)))|exact h_)):Aside0 (Below B w0 w1):=⟨by subst hs;exact qX (k h.out) hb⟩
theorem rB {α:Type} {d:Kd α} {e:Nat} {w0 W w1:World} {base:Nat} {ok:Nat→Prop} {v:Value} {xs:List α} (h:Aside0 (d.R e w0 base ok v xs)) (hb:Below W.heap.size W w1) (k:d.R e w0 base ok v xs→d.R e W base ok v xs:=by intro h_;(with_reducible repeat(first|apply Kd.R_alloc|apply Kd.R_drewN|apply Kd.R_drew));exact h_):Aside0 (d.R e w1 base ok v xs):=⟨Kd.R_below (k h.out) hb⟩
theorem tF {P Q:Prop} (a:Q) (h:Q→P:=by intro h_;repeat(first|exact h_|(with_reducible first|refine aI ?_ _|refine aK ?_|refine aH ?_ _)|refine dP ?_ (Aside0.out (by assumption)) _)):P:=h a
theorem fB {w0 W w1:World} {g:Nat} {o:Obj} (h:Aside0 (w0.heap[g]? =some o)) (hb:Below W.heap.size W w1) (k:w0.heap[g]? =some o→W.heap[g]? =some o:=by intro h_;repeat(first|exact h_|(with_reducible first|refine aI ?_ _|refine aK ?_|refine aH ?_ _)|refine dP ?_ (Aside0.out (by assumption)) _)):Aside0 (w1.heap[g]? =some o):=⟨tV (k h.out) hb⟩
theorem jB {α:Type} {d:Kd α} {e:Nat} {w:World} {base:Nat} {ok:Nat→Prop} {v:Value} {xs:List α} {g t:Nat} {cs:Array Value} {u0 u1:Value} (h:Aside0 (d.R e w base ok v xs)) (hb:Aside0 (w.heap[g]? =some (.cells cs t (0,0)))) (ht:∀ q,q ∈ e::d.E→q ≠ t:=by decide):d.R e ((w.setCell ⟨g,0,none⟩ u0).setCell ⟨g,1,none⟩ u1) base ok v xs:=Kd.R_mono (Kd.R_far (p:=⟨g,1,none⟩) (Kd.R_far (p:=⟨g,0,none⟩) (Kd.R_types h.out hb.out ht) (fun _ hk=>hk.2) u0) (fun _ hk=>hk.2) u1) (fun _ hk=>hk.1)
theorem rT {α:Type} {d:Kd α} {e:Nat} {w:World} {base:Nat} {ok:Nat→Prop} {v:Value} {xs:List α} (h:d.R e w base ok v xs):d.R e w base (fun _=>True) v xs:=Kd.R_mono h (fun _ _=>trivial)
theorem bE {P:Program} {ops:Array Oper} {Q:Exit→Act→World→Prop} {rest:List Oper} {o:Oper} {a:Act} {W:World} (N:Tmp) (cs:Array Value) (t:TypeId) (h:∀ g,g=W.heap.size→∀ w1,w1.heap[g]? =some (.cells cs t (0,0))→Below W.heap.size W w1→wpList P ops Q rest (a.put o.dst (.pointer (some ⟨g,0,none⟩))) w1) (hgd:o.guard=none:=by rfl) (hd:o.dst=some N:=by rfl) (hrun:(execOp a.eval o).run P W= .ok (.value (.pointer (some ⟨W.heap.size,0,none⟩))) (W.alloc (.cells cs t (0,0))):=by first|(go_simp;done)|(go_simp;rfl)):wpList P ops Q (o::rest) a W:=aYD hgd hd hrun h
theorem sB {w W0 W:World} {g:Nat} (h:Aside0 (Below w.heap.size w W0)) (hg:g=W.heap.size) (k:Below w.heap.size w W0→Below w.heap.size w W:=by intro h_;repeat(first|(with_reducible first|exact h_|apply iH|apply gJ|apply jP|refine dE ?_ (Aside0.out (by assumption)))|exact h_)):Aside0 (w.heap.size≤g):=⟨bS h.out hg k⟩
theorem lN {w0 W:World} {g g2:Nat} {o:Obj} (h:Aside0 (w0.heap[g]? =some o)) (hg:g2=W.heap.size) (k:w0.heap[g]? =some o→W.heap[g]? =some o:=by intro h_;(with_reducible repeat(first|refine aI ?_ _|refine aK ?_|refine aH ?_ _));exact h_):Aside0 (g ≠ g2):=⟨nL h.out hg k⟩
theorem gN {g g2:Nat} (h:Aside0 (g ≠ g2)):Aside0 (g2 ≠ g):=⟨fun e=>h.out e.symm⟩
theorem hC {w W:World} {a:Addr} {v:Value} (h:Aside0 (Below w.heap.size w W)) (hx:w.cell? a=some v):W.cell? a=some v:=(h.out.cell (World.block_lt_of_cell? w _ hx)).trans hx
theorem cB {P:Prop} {α:Type} {d:Kd α} {w W:World} {A:Option Addr} {n:Nat} {xs:List α} (h:Aside0 (d.C w A n xs)) (hb:Aside0 (Below w.heap.size w W)) (k:d.C W A n xs→P:=by intro h_;repeat(first|exact h_|(with_reducible refine Kd.C_alloc ?_ _)|(with_reducible refine Kd.C_drewN ?_ _)|(with_reducible refine Kd.C_drew ?_))):P:=k (Kd.C_below h.out hb.out)
theorem rC {P:Prop} {α:Type} {d:Kd α} {e:Nat} {w:World} {base:Nat} {ok:Nat→Prop} {A:Option Addr} {n c:Nat} {xs:List α} (h:Aside0 (d.R e w base ok (.slice A n c) xs)) (k:d.C w A xs.length xs→P:=by intro h_;repeat(first|exact h_|(with_reducible refine Kd.C_alloc ?_ _)|(with_reducible refine Kd.C_drewN ?_ _)|(with_reducible refine Kd.C_drew ?_))):P:=k (Kd.R_reads' h.out).2.2
theorem tG {α:Type} {d:Kd α} {e:Nat} {w w':World} {base:Nat} {P Q:Nat→Prop} {v:Value} {xs:List α} (a:d.R e w base P v xs) (f:∀ k,P k→Q k) (h:d.R e w base Q v xs→d.R e w' base Q v xs:=by intro h_;(with_reducible repeat(first|apply Kd.R_alloc|apply Kd.R_drewN|apply Kd.R_drew));exact h_):d.R e w' base Q v xs:=h (Kd.R_mono a f)
theorem tE {P:Prop} (h:P:=by first|rfl|(simp[ER,ES] <;> rfl)|(simp[*,ER,ES] <;> rfl)):P:=h
theorem tS {P:Prop} (h:P:=by first|rfl|(simp;done)|(simp[wrap64];done)|(simp[*];done)):P:=h
theorem tD {P:Prop} (h:P:=by repeat(first|exact jT.refl _|apply jT.step)):P:=h
theorem nm {P:Program} {md:Region.Mode} {ops:Array Oper} {Q:Exit→Act→World→Prop} {S:World→Prop} {ds:List Nat} {fuel:Nat} {l:Array Bool} {a:Act} {w:World} {a':Act} {v:Value} (N:Nat) (h:fM P md ops Q S ds fuel l a' w) (he:a.put (some N) v=a':=by(simp only[Act.put,List.setIfInBounds_toArray,List.set_cons_zero,List.set_cons_succ,uK,NM];rfl)):fM P md ops Q S ds fuel l (a.put (some N) v) w:=yM he h
theorem oB {α β:Type} {x:Option α} {f:α→Option β} {b:β} (h:x.bind f=some b):∃ a,x=some a∧f a=some b:=Option.bind_eq_some_iff.mp h
theorem sP {w:World} {g:Nat} {t:TypeId} {a0 a1:Value} (h:Aside0 (w.heap[g]? =some (.cells #[a0,a1] t (0,0)))):w.cell? ⟨g,0,none⟩=some a0∧w.cell? ⟨g,1,none⟩=some a1:=⟨(aN h.out 0).trans rfl,(aN h.out 1).trans rfl⟩
theorem dA {p:Prop} [Decidable p] (h:decide p=true:=by first|(with_reducible assumption)|assumption):p:=of_decide_eq_true h
theorem iP {p:Prop} [Decidable p] {α:Type} {a:Option α} {r:α} (h:(if p then a else none)=some r):p∧a=some r:=by
  by_cases c:p
  · rw[if_pos c]at h;exact⟨c,h⟩
  · rw[if_neg c]at h;cases h
theorem iN {p:Prop} [Decidable p] {α:Type} {a:Option α} {r:α} (h:(if p then none else a)=some r):¬p∧a=some r:=by
  by_cases c:p
  · rw[if_pos c]at h;cases h
  · rw[if_neg c]at h;exact⟨c,h⟩
theorem iD {p:Prop} [Decidable p] {α:Type} {a:Option α} {r:α} (h:(if p then a else none)=some r):decide p=true∧a=some r:=⟨decide_eq_true (iP h).1,(iP h).2⟩
theorem iE {p:Prop} [Decidable p] {α:Type} {a:Option α} {r:α} (h:(if p then a else none)=some r):p=True∧decide p=true∧a=some r:=⟨eq_true (iP h).1,decide_eq_true (iP h).1,(iP h).2⟩
theorem iM {p:Prop} [Decidable p] {α:Type} {a:Option α} {r:α} (h:(if p then a else none)=some r):Aside0 p∧a=some r:=⟨⟨(iP h).1⟩,(iP h).2⟩
theorem oC {α β:Type} {x:Option α} {f:α→Option β} {b:β} (h:x.bind f=some b):∃ a,Aside0 (x=some a)∧f a=some b:=by
  obtain⟨a,h1,h2⟩:=oB h;exact⟨a,⟨h1⟩,h2⟩
theorem oS {α β:Type} {x:α} {f:α→Option β} {b:β} (h:(some x).bind f=some b):∃ a,Aside0 (a=x)∧f a=some b:=⟨x,⟨rfl⟩,h⟩
theorem oL {α:Type} {x:α}:∃ a,Aside0 (a=x):=⟨x,⟨rfl⟩⟩
theorem pU {P:Program} {md:Region.Mode} {ops:Array Oper} {Q:Exit→Act→World→Prop} {S:World→Prop} {ds:List Nat} {oi:Oper} {v:Value} {fuel:Nat} {l:Array Bool} {a:Act} {w:World} {a':Act} (i N:Nat) (h:fM P md ops Q S ds fuel (l.setIfInBounds i true) a' w) (hc:aE4 md ops l (l.setIfInBounds i true) i=true:=by exact bII HT_.out (by kernel_rfl)) (hi:ops[i]? =some oi:=by exact rfl) (hN:oi.dst=some N:=by exact rfl) (hy:Yields P ops oi v a:=by refine Or.inl ⟨by rfl,?_⟩;intro w';go_simp;with_reducible rfl) (ha:a.put (some N) v=a':=by simp only[Act.put,List.setIfInBounds_toArray,List.set_cons_zero,List.set_cons_succ,uK,NM];rfl) (hQ:∀ c a w,Q (.panic c) (a.put oi.dst v) w→Q (.panic c) a w:=by exact fun _ _ _ h=>h):fM P md ops Q S ds (fuel + 1) l a w:=b8D _ hi hN hc hQ hy ha h
theorem tk5 {P:Program} {md:Region.Mode} {ops:Array Oper} {Q:Exit→Act→World→Prop} {S:World→Prop} {ds:List Nat} {oi:Oper} {v:Value} {fuel:Nat} {l:Array Bool} {a:Act} {w:World} {a':Act} (i N:Nat) (hi:ops[i]? =some oi) (hc:takeB md ops ds l (l.setIfInBounds i true) i=true) (hS:S w) (hy:YieldsIf P ops S oi v a) (h:fM P md ops Q S ds fuel (l.setIfInBounds i true) a' w) (hN:oi.dst=some N:=by exact rfl) (ha:a.put (some N) v=a':=by simp only[Act.put,List.setIfInBounds_toArray,List.set_cons_zero,List.set_cons_succ,uK,NM];rfl) (hQ:∀ c a w,Q (.panic c) (a.put oi.dst v) w→Q (.panic c) a w:=by exact fun _ _ _ h=>h):fM P md ops Q S ds (fuel + 1) l a w:=take_ _ hi hN hc hQ hy hS ha h
theorem tQ {P Q:Prop} (a:Q) (h:Q→P:=by intro h_;(with_reducible repeat(first|apply Kd.Q_alloc|apply Kd.Q_drewN|apply Kd.Q_drew));exact h_):P:=h a
theorem tGQ {α:Type} {d:Kd α} {e:Nat} {w w':World} {base:Nat} {P Q:Nat→Prop} {v:Value} {xs:List α} (a:d.Q e w base P v xs) (f:∀ k,P k→Q k) (h:d.Q e w base Q v xs→d.Q e w' base Q v xs:=by intro h_;(with_reducible repeat(first|apply Kd.Q_alloc|apply Kd.Q_drewN|apply Kd.Q_drew));exact h_):d.Q e w' base Q v xs:=h (Kd.Q_mono a f)
theorem qB {α:Type} {d:Kd α} {e:Nat} {w0 W w1:World} {base:Nat} {ok:Nat→Prop} {v:Value} {xs:List α} (h:Aside0 (d.Q e w0 base ok v xs)) (hb:Below W.heap.size W w1) (k:d.Q e w0 base ok v xs→d.Q e W base ok v xs:=by intro h_;(with_reducible repeat(first|apply Kd.Q_alloc|apply Kd.Q_drewN|apply Kd.Q_drew));exact h_):Aside0 (d.Q e w1 base ok v xs):=⟨Kd.Q_below (k h.out) hb⟩
theorem dR {α:Type} {d:Kd α} {e:Nat} {w:World} {base:Nat} {ok:Nat→Prop} {v:Value} {xs:List α} (h:Aside0 (d.R e w base ok v xs)):Aside0 (d.R e w.drew base ok v xs):=⟨Kd.R_drew h.out⟩
theorem dQ {α:Type} {d:Kd α} {e:Nat} {w:World} {base:Nat} {ok:Nat→Prop} {v:Value} {xs:List α} (h:Aside0 (d.Q e w base ok v xs)):Aside0 (d.Q e w.drew base ok v xs):=⟨Kd.Q_drew h.out⟩
theorem dK {w:World} {g:Nat} {o:Obj} (h:Aside0 (w.heap[g]? =some o)):Aside0 (w.drew.heap[g]? =some o):=⟨aK h.out⟩
theorem dB {B:Nat} {w0 w:World} (h:Aside0 (Below B w0 w)):Aside0 (Below B w0 w.drew):=⟨jP h.out⟩
theorem gK {α:Type} {d:Kd α} {e:Nat} {w0 W w1:World} {base:Nat} {ok:Nat→Prop} {v:Value} {xs:List α} {g t:Nat} {cs:Array Value} {row:Option Nat} (h:Aside0 (w0.heap[g]? =some (.cells cs t (0,0)))) (hg:W.grownBy w1 row) (hr:Aside0 (d.R e w0 base ok v xs)) (hrow:v.ownBlock=row:=by rfl) (ht:e ≠ t:=by decide) (k:w0.heap[g]? =some (.cells cs t (0,0))→W.heap[g]? =some (.cells cs t (0,0)):=by intro h_;(with_reducible repeat(first|refine aI ?_ _|refine aK ?_|refine aH ?_ _));exact h_):Aside0 (w1.heap[g]? =some (.cells cs t (0,0))):=⟨oF (k h.out) hg (hrow ▸ Kd.R_ne hr.out h.out ht)⟩
theorem gQ {α:Type} {d:Kd α} {e:Nat} {w0 W w1:World} {base:Nat} {ok:Nat→Prop} {v:Value} {xs:List α} {g t:Nat} {cs:Array Value} {row:Option Nat} (h:Aside0 (w0.heap[g]? =some (.cells cs t (0,0)))) (hg:W.grownBy w1 row) (hr:Aside0 (d.Q e w0 base ok v xs)) (hrow:v.ownBlock=row:=by rfl) (ht:e ≠ t:=by decide) (k:w0.heap[g]? =some (.cells cs t (0,0))→W.heap[g]? =some (.cells cs t (0,0)):=by intro h_;(with_reducible repeat(first|refine aI ?_ _|refine aK ?_|refine aH ?_ _));exact h_):Aside0 (w1.heap[g]? =some (.cells cs t (0,0))):=⟨oF (k h.out) hg (hrow ▸ Kd.Q_ne hr.out h.out ht)⟩
theorem gY {P:Program} {md:Region.Mode} {ops:Array Oper} {Q:Exit→Act→World→Prop} {S:World→Prop} {ds:List Nat} {oi:Oper} {v:Value} {fuel:Nat} {l:Array Bool} {a:Act} {w:World} {a':Act} (i N:Nat) (h:fM P md ops Q S ds fuel (l.setIfInBounds i true) a' w) (hi:ops[i]? =some oi:=by exact rfl) (hc:takeB md ops ds l (l.setIfInBounds i true) i=true:=by exact b0Y HT_.out HW_.out (by kernel_rfl)) (hS:S w:=by exact hHeld) (hy:YieldsIf P ops S oi v a:=by refine Or.inl ⟨by rfl,?_⟩;intro w' h_;(repeat obtain⟨_,h_⟩:=h_);go_simp;with_reducible rfl) (hN:oi.dst=some N:=by exact rfl) (ha:a.put (some N) v=a':=by simp only[Act.put,List.setIfInBounds_toArray,List.set_cons_zero,List.set_cons_succ,uK,NM];rfl) (hQ:∀ c a w,Q (.panic c) (a.put oi.dst v) w→Q (.panic c) a w:=by exact fun _ _ _ h=>h):fM P md ops Q S ds (fuel + 1) l a w:=take_ _ hi hN hc hQ hy hS ha h
theorem sT {P:Program} {ops:Array Oper} {Q:Exit→Act→World→Prop} {id:Nat} {a:Act} {w:World} (n:Nat) (S:World→Prop) (ds:List Nat) (hS:S w.drew) (h:S w.drew→fM P .any ops Q S ds n (Array.replicate n false) a w.drew) (hm:P.follows .mixedOrders=true:=by kernel_rfl) (hn:ops.size=n:=by exact rfl):(Code.region id ops true).wp P Q a w:=bIG _ hm hn rfl hS h
theorem oN {P:Program} {md:Region.Mode} {ops:Array Oper} {Q:Exit→Act→World→Prop} {S:World→Prop} {ds:List Nat} {oi:Oper} {fuel:Nat} {l:Array Bool} {a:Act} {w:World} (i N:Nat) (h:∀ K:Act→World→Prop,Shut (∀ a' w',S w'→(S w'→fM P md ops Q S ds fuel (l.setIfInBounds i true) a' w')→K a' w')→if Region.wanted oi (yielded ops a.tmps)=true then Oper.wp P oi a w K Q else K (a.put (some N) undef) w) (hi:ops[i]? =some oi:=by exact rfl) (hN:oi.dst=some N:=by exact rfl) (hc:V7 md ops l (l.setIfInBounds i true) i=true:=by exact nU HT_.out (by kernel_rfl)) (hd:i ∉ ds:=by decide):fM P md ops Q S ds (fuel + 1) l a w:=I6 _ hi hN hc hd h
theorem YU {P:Program} {ops:Array Oper} {Q:Exit→Act→World→Prop} {rest:List Oper} {oi:Oper} {a:Act} {w:World} (N:Option Tmp) (hd:oi.dst=N) (hg:oi.guard=none) {f:FuncId} {fn:Func} {o:Operand} {os_:Array Operand} {ts:Array TypeId} {cap:Array Value} (hf:P.funcs[f]? =some fn) (hname:(fn.name=="runtime.NumGoroutine")=false) (hb:fn.body.isSome=true) (args:Array Value)
    (hop:oi.op= .call { callee:= .value o,args:=os_,argTypes:=ts }) (hv:a.eval o= .func (.func f) #[] cap) (hargs:os_.map a.eval ++ cap=args)
    (h:Calls P f args w fun e w'=>∃ v,e= .returned v∧wpList P ops Q rest (a.put N v) w'):wpList P ops Q (oi::rest) a w:=by
  refine wpList_plain hg fun K hK=>?_
  have he:=aE5 hf hname hb args w;have hrun:(execOp a.eval oi).run P w= .ok (.enter f args) w:=by
    unfold execOp;simp[hop,resolve,Deferred.ofValue,invoke,hv,hargs,he]
  unfold Oper.wp;rw[hrun,Oper.upon_enter];refine h.mono fun e w'' hh=>?_
  obtain⟨v,rfl,hk⟩:=hh;subst hd;exact hK _ _ hk
theorem info3:(Try.prog.info? 3).map (fun i=>(i.zero,i.size,i.bytes))=some (some (.int .i64 0),1,8):=by kernel_rfl
theorem b8G:(Try.prog.info? 4).map (fun i=>(i.zero,i.size,i.bytes))=some (some (.bool false),1,1):=by kernel_rfl
theorem info5:(Try.prog.info? 5).map (fun i=>(i.zero,i.size,i.bytes))=some (some (.int .u8 0),1,1):=by kernel_rfl
theorem tZ:(Try.prog.info? 64).map (fun i=>(i.zero,i.size,i.bytes))=some (some (.agg #[(.int .i64 0),(.int .i64 0)]),2,16):=by kernel_rfl
theorem aJF:(Try.prog.info? 70).map (fun i=>(i.zero,i.size,i.bytes))=some (some (.agg #[(.int .i64 0),(.int .i64 0)]),2,16):=by kernel_rfl
theorem FZ:(Try.prog.info? 78).map (fun i=>(i.zero,i.size,i.bytes))=some (some (.agg #[(.int .i64 0),(.int .i64 0)]),2,16):=by kernel_rfl
structure S64 where
  f0:Int
  f1:Int
def z64:S64:=⟨(0:Int),(0:Int)⟩
def dD:Kd S64:=Kd.iso (Kd.pair (Kd.int .i64) (Kd.int .i64)) (fun x:S64=>(x.f0,x.f1))
theorem b1C {w:World} {x:S64} {cs:List Value} (h:dD.K w x cs):cs=[.int .i64 x.f0,.int .i64 x.f1]:=by
  obtain⟨_,_,rfl,rfl,rfl⟩:=h;exact rfl
theorem sI {w:World} {base:Nat} {ok:Nat→Prop} {x:S64} {cs:List Value} (h:dD.M w base ok x cs):cs=[.int .i64 x.f0,.int .i64 x.f1]:=by
  obtain⟨_,_,rfl,rfl,rfl⟩:=h;exact rfl
theorem pI (w:World) (base:Nat) (ok:Nat→Prop) (x:S64):dD.M w base ok x [.int .i64 x.f0,.int .i64 x.f1]:=⟨[.int .i64 x.f0],[.int .i64 x.f1],rfl,rfl,rfl⟩
def aA (xs:List S64) (i:Int):S64:=xs.getD i.toNat z64
theorem dZ {w:World} {A:Option Addr} {n:Nat} {xs:List S64} (h:Kd.C dD w A n xs) (i:Int) (h0:0≤i) (h1:i < n):∃ ad,A=some ad∧w.cell? (ad.add (i.toNat * 2))=some (.int .i64 (aA xs i).f0)∧w.cell? ⟨(ad.add (i.toNat * 2)).block,(ad.add (i.toNat * 2)).off + 1,none⟩=some (.int .i64 (aA xs i).f1):=by
  obtain⟨ad,c,e,_,hK,hc0⟩:=Kd.C_get h z64 i h0 h1;have hc:∀ j u,c[j]? =some u→w.cell? (ad.add (i.toNat * 2 + j))=some u:=hc0
  obtain rfl:=b1C hK;exact⟨ad,e,hc 0 _ rfl,by rw[← a0V _ _ 1 (by omega)];exact hc 1 _ rfl⟩
structure oG where
  f0:Int
  f1:Int
def z70:oG:=⟨(0:Int),(0:Int)⟩
def wB:Kd oG:=Kd.iso (Kd.pair (Kd.int .i64) (Kd.int .i64)) (fun x:oG=>(x.f0,x.f1))
theorem b1D {w:World} {x:oG} {cs:List Value} (h:wB.K w x cs):cs=[.int .i64 x.f0,.int .i64 x.f1]:=by
  obtain⟨_,_,rfl,rfl,rfl⟩:=h;exact rfl
theorem M6 {w:World} {base:Nat} {ok:Nat→Prop} {x:oG} {cs:List Value} (h:wB.M w base ok x cs):cs=[.int .i64 x.f0,.int .i64 x.f1]:=by
  obtain⟨_,_,rfl,rfl,rfl⟩:=h;exact rfl
theorem UF (w:World) (base:Nat) (ok:Nat→Prop) (x:oG):wB.M w base ok x [.int .i64 x.f0,.int .i64 x.f1]:=⟨[.int .i64 x.f0],[.int .i64 x.f1],rfl,rfl,rfl⟩
def dC (xs:List oG) (i:Int):oG:=xs.getD i.toNat z70
theorem G5 {w:World} {A:Option Addr} {n:Nat} {xs:List oG} (h:Kd.C wB w A n xs) (i:Int) (h0:0≤i) (h1:i < n):∃ ad,A=some ad∧w.cell? (ad.add (i.toNat * 2))=some (.int .i64 (dC xs i).f0)∧w.cell? ⟨(ad.add (i.toNat * 2)).block,(ad.add (i.toNat * 2)).off + 1,none⟩=some (.int .i64 (dC xs i).f1):=by
  obtain⟨ad,c,e,_,hK,hc0⟩:=Kd.C_get h z70 i h0 h1;have hc:∀ j u,c[j]? =some u→w.cell? (ad.add (i.toNat * 2 + j))=some u:=hc0
  obtain rfl:=b1D hK;exact⟨ad,e,hc 0 _ rfl,by rw[← a0V _ _ 1 (by omega)];exact hc 1 _ rfl⟩
structure iJ where
  f0:Int
  f1:Int
def z78:iJ:=⟨(0:Int),(0:Int)⟩
def uJ:Kd iJ:=Kd.iso (Kd.pair (Kd.int .i64) (Kd.int .i64)) (fun x:iJ=>(x.f0,x.f1))
theorem b1E {w:World} {x:iJ} {cs:List Value} (h:uJ.K w x cs):cs=[.int .i64 x.f0,.int .i64 x.f1]:=by
  obtain⟨_,_,rfl,rfl,rfl⟩:=h;exact rfl
theorem BB (w:World) (base:Nat) (ok:Nat→Prop) (x:iJ):uJ.M w base ok x [.int .i64 x.f0,.int .i64 x.f1]:=⟨[.int .i64 x.f0],[.int .i64 x.f1],rfl,rfl,rfl⟩
def lS (xs:List iJ) (i:Int):iJ:=xs.getD i.toNat z78
theorem QV {w:World} {A:Option Addr} {n:Nat} {xs:List iJ} (h:Kd.C uJ w A n xs) (i:Int) (h0:0≤i) (h1:i < n):∃ ad,A=some ad∧w.cell? (ad.add (i.toNat * 2))=some (.int .i64 (lS xs i).f0)∧w.cell? ⟨(ad.add (i.toNat * 2)).block,(ad.add (i.toNat * 2)).off + 1,none⟩=some (.int .i64 (lS xs i).f1):=by
  obtain⟨ad,c,e,_,hK,hc0⟩:=Kd.C_get h z78 i h0 h1;have hc:∀ j u,c[j]? =some u→w.cell? (ad.add (i.toNat * 2 + j))=some u:=hc0
  obtain rfl:=b1E hK;exact⟨ad,e,hc 0 _ rfl,by rw[← a0V _ _ 1 (by omega)];exact hc 1 _ rfl⟩
end Go.Proofs.Ytinlhiakpmcagaa.PFnMobiles
