import Derived.Test.YtinlhiakpmcagaaRows
import Derived.Test.YtinlhiakpmcagaaZFnExactFirstHangingx13
import Derived.Test.YtinlhiakpmcagaaZFnExactFirstHangingPure
import Derived.WalkKit
import Derived.ProofKit
import Derived.OpenShut
import Derived.ShutString
import Derived.ChangeOld
import Derived.Below
import Derived.SizedLaws
import Derived.Deep.Slices
namespace Go.Proofs.Ytinlhiakpmcagaa.fnExactFirstHanging
open Go.ChangeShapes Go.WideShapes Go.ChangeAt Go.RowKit Go.Proofs.YtinlhiakpmcagaaW.PrintWords Go.Proofs.Ytinlhiakpmcagaa.PFnExactFirstHanging
open Go.ChangeMaps (open_string shut_string)
set_option linter.unusedVariables false
theorem own:ownKnob Try.prog.godebug=none:=by kernel_rfl
theorem laidOut:laidOutB Try.prog=true:=by kernel_rfl
def RD {α:Type} (P:Program) (d:Kd α) (wf:α→Prop) (t:TypeId):Prop:=
  ∀ {H:Type} (enc:TypeId × Value→H) (w:World) (n:Nat) (cs:List Value) (x:DataW H × List MemPlace),DataW.trod enc P w 0 (fun _=>true) true n t cs=some x→∃ y,d.K w y cs∧wf y
theorem aPS {P:Program} {t:TypeId} {k:IntKind} (h:P.underlying t=some (.int k)):RD P (Kd.int k) (fun x=>(Lit.int k x).wf=true) t:=fun _ _ _ _ _ hx=>by
  obtain⟨m,rfl,_,hw⟩:=DataW.trod_int h hx;exact⟨m,rfl,hw⟩
theorem a0Z {α:Type} [Inhabited α] {P:Program} {d:Kd α} {wf:α→Prop} {t e:TypeId} (h:P.underlying t=some (.slice e)) (hc:P.cellsOf e=d.sz) (hd:RD P d wf e):RD P (Kd.slice e d) (fun xs=>∀ x ∈ xs,wf x) t:=by
  intro H enc w n cs x hx;rcases Go.Deep.open_slice h hx with⟨rfl,_⟩|⟨a,len,cap,m,n',D,Pl,rfl,_,hl,hm,hmm,_,hi⟩
  · exact⟨[],⟨none,0,rfl,Nat.le_refl _,rfl,by simp,fun h0=>absurd h0 (by simp)⟩,by simp⟩
  · have hlm:len≤m:=by
      rw[hmm]
      split <;> omega
    obtain⟨Y,hY⟩:=Go.Deep.choose_lt (n:=m) (p:=fun i y=>(∃ cs',w.cells? 0 (a.add (i * P.cellsOf e)) (P.cellsOf e)=some cs'∧d.K w y cs')∧wf y) (fun i him=>by
      obtain⟨cs',h1,h2⟩:=hi i him
      obtain⟨y,h3,h4⟩:=hd enc w _ _ _ h2
      exact⟨y,⟨cs',h1,h3⟩,h4⟩)
    refine⟨(List.range len).map Y,⟨some a,cap,by simp,by simpa using hl,?_⟩,?_⟩
    · refine⟨rfl,by simp;unfold maxLen at hm;omega,fun _=>⟨a,rfl,fun j p hj=>?_⟩⟩
      obtain⟨hj1,hj2⟩:=List.getElem?_eq_some_iff.1 hj;have hj3:j < len:=by simpa using hj1
      have hp:Y j=p:=by simpa using hj2
      subst hp;obtain⟨⟨cs',h1,h2⟩,_⟩:=hY j (by omega);obtain⟨_,hcl,hat⟩:=World.cells?_some h1;refine⟨cs',d.K_len h2,h2,fun i u hu=>?_⟩;have hil:i < cs'.length:=(List.getElem?_eq_some_iff.1 hu).1;rw[← hc,← Go.Deep.add_add,hat i (by omega),hu]
    · intro y hy
      obtain⟨j,hj,rfl⟩:=List.mem_map.1 hy;exact(hY j (by have:=List.mem_range.1 hj;omega)).2
theorem rd3:RD Try.prog (Kd.int .i64) (fun x:Int=>(Lit.int .i64 x).wf=true) 3:=aPS Try.underlying3
set_option maxRecDepth 100000 in
theorem aZZ:RD Try.prog dQ (fun x:S64=>((Lit.int .i64 x.f0).wf=true)∧((Lit.int .i64 x.f1).wf=true)) 64:=by
  intro H enc w n cs x hx;obtain⟨xs,m,_,_,hlen,hxl,hg⟩:=DataW.trod_array Try.underlying64 hx;rw[show Try.prog.cellsOf 64=2 from by kernel_rfl]at hlen;rw[show Try.prog.cellsOf 3=1 from by kernel_rfl]at hg
  match cs,hlen,xs,hxl with
  | [c0,c1],_,[x0,x1],_=>
    have g0:=hg 0 (by decide);obtain⟨y0,k0_,w0⟩:=rd3 enc w m [c0] x0 g0;have g1:=hg 1 (by decide);obtain⟨y1,k1_,w1⟩:=rd3 enc w m [c1] x1 g1;exact⟨⟨y0,y1⟩,⟨[c0],_,rfl,k0_,k1_⟩,⟨w0,w1⟩⟩
instance:Inhabited S64:=⟨z64⟩
theorem aPW:RD Try.prog (Kd.slice 64 dQ) (fun x:(List S64)=>∀ x_ ∈ x,((Lit.int .i64 x_.f0).wf=true)∧((Lit.int .i64 x_.f1).wf=true)) 24:=a0Z Try.underlying24 (by kernel_rfl) aZZ
set_option maxRecDepth 100000 in
theorem aV4:RD Try.prog (Kd.pair (Kd.slice 64 dQ) (Kd.slice 64 dQ)) (fun x:((List S64) × (List S64))=>(∀ x_ ∈ x.1,((Lit.int .i64 x_.f0).wf=true)∧((Lit.int .i64 x_.f1).wf=true))∧(∀ x_ ∈ x.2,((Lit.int .i64 x_.f0).wf=true)∧((Lit.int .i64 x_.f1).wf=true))) 50:=by
  intro H enc w n cs x hx;obtain⟨xs,m,_,_,hlen,hxl,hg⟩:=DataW.trod_struct Try.underlying50 hx;rw[show Try.prog.cellsOf 50=2 from by kernel_rfl]at hlen
  match cs,hlen,xs,hxl with
  | [c0,c1],_,[x0,x1],_=>
    have g0:=hg 0 _ rfl;change DataW.trod enc Try.prog w 0 (fun _=>true) true m 24 (([c0,c1].drop 0).take (Try.prog.cellsOf 24))=some x0 at g0;rw[show Try.prog.cellsOf 24=1 from by kernel_rfl]at g0;obtain⟨y0,k0_,w0⟩:=aPW enc w m [c0] x0 g0;have g1:=hg 1 _ rfl;change DataW.trod enc Try.prog w 0 (fun _=>true) true m 24 (([c0,c1].drop 1).take (Try.prog.cellsOf 24))=some x1 at g1;rw[show Try.prog.cellsOf 24=1 from by kernel_rfl]at g1;obtain⟨y1,k1_,w1⟩:=aPW enc w m [c1] x1 g1;exact⟨(y0,y1),⟨[c0],_,rfl,k0_,k1_⟩,⟨w0,w1⟩⟩
theorem b03:RD Try.prog (Kd.slice 3 (Kd.int .i64)) (fun x:(List Int)=>∀ x_ ∈ x,(Lit.int .i64 x_).wf=true) 28:=a0Z Try.underlying28 (by kernel_rfl) rd3
set_option maxRecDepth 100000 in
theorem lifted (os:Os) (started:os.Started) (H:Type) (enc:TypeId × Value→H):
    ReturnsInHanded {} Try.checked os 4 .any (Rows.fnExactFirstHangingSpec.pre6 enc Try.prog Try.f4 Rows.fnExactFirstHangingRow.domain false) (Rows.fnExactFirstHangingSpec.post enc Try.prog Try.f4 false true false false):=by
  refine returnsInHanded_of_change_sized (C:=Try.checked) own started (by kernel_rfl) Try.func4
    (ChangeSpec.witness6 (enc:=enc) (C:=Try.checked) false ⟨#[],#[.agg #[.slice none 0 0,.slice none 0 0],.slice none 0 0],[]⟩ 8 (by kernel_rfl) (by kernel_rfl) (by kernel_rfl) (by kernel_rfl)) ?_
  intro W base args ds gs before hval0 hW hcnd hsz0 _;have hval:∀ (j:Nat) t v,Try.f4.params[j]? =some t→args[j]? =some v→Value.okWide Try.prog W .any base t v:=hval0
  have hW':=hW;obtain⟨p,q,NM,hV,rfl,hfz,hnd⟩:=hW;have hA:DataW.TrodAll enc Try.prog W 0 (fun _=>true) true Try.f4.params.toList args.toList ds p:=NM;rw[Try.params4]at hA hval;obtain⟨v0,vs0,d0,ds0,p0,q0,hargs,rfl,rfl,h0,r0⟩:=trodAll_cons hA;obtain⟨v1,vs1,d1,ds1,p1,q1,rfl,rfl,rfl,h1,r1⟩:=trodAll_cons r0;obtain⟨rfl,rfl,rfl⟩:=trodAll_nil r1;obtain rfl:args=#[v0,v1]:=by cases args;simp_all
  obtain⟨rfl,rfl⟩:=trodVars_none hV;have k0:=h0;have lt0:∀ x ∈ p0,x.block < W.heap.size:=by obtain⟨m,hm⟩:=k0;exact DataW.trod_lt m _ _ _ hm
  obtain⟨g0,rfl,z0⟩:=okWide_struct Try.underlying50 (hval 0 50 v0 rfl rfl);obtain⟨fu0,hf0⟩:=h0;obtain⟨⟨aA,aC⟩,⟨_,_,aPX,⟨bB,aZ,rfl,eB,dX⟩,⟨bC,bA,rfl,eD,dY⟩⟩,⟨b04,b05⟩⟩:=aV4 enc W _ _ _ hf0;obtain rfl:g0=#[Value.slice bB aA.length aZ,Value.slice bC aC.length bA]:=by
    cases g0
    simpa [Value.cells] using aPX
  clear aPX hf0 z0;have k1:=h1;have lt1:∀ x ∈ p1,x.block < W.heap.size:=by obtain⟨m,hm⟩:=k1;exact DataW.trod_lt m _ _ _ hm
  obtain⟨A1,b06,c1,rfl⟩:=okWide_slice Try.underlying28 (hval 1 28 v1 rfl rfl);obtain⟨fu1,hf1⟩:=h1;obtain⟨l1,⟨A'1,c'1,hcs1,hc1,hr1⟩,w1⟩:=b03 enc W _ _ _ hf1;obtain⟨rfl,rfl,rfl⟩:A1=A'1∧b06=l1.length∧c1=c'1:=by simpa [Value.cells] using hcs1
  clear hcs1 hf1;clear NM hval0 hsz0;obtain⟨k,hP⟩:=Go.Proofs.Ytinlhiakpmcagaa.Pure.FnExactFirstHanging aA aC l1 dX.2.1 b04 dY.2.1 b05 hr1.2.1 w1;refine(bD.calls (k:=k) (r:=true) (w:=W) (bB:=bB) (aZ:=aZ) (aA:=aA) (bC:=bC) (bA:=bA) (aC:=aC) (A1:=A1) (c1:=c1) (l1:=l1) (dX:=dX) (eB:=eB) (dY:=dY) (eD:=eD) (hr1:=hr1) (hc1:=hc1) (h:=hP)).mono fun e W' ⟨he,b07⟩=>?_
  have bel:=b07;subst he;exact⟨_,rfl,_,_,_,[],_,[],hW',trodAll_mk1 (shut_bool Try.underlying4 _),(trodAll_cons_mk (Below.trod laidOut (by kernel_rfl) (of_decide_eq_true (by kernel_rfl)) k0 bel lt0) (trodAll_cons_mk (Below.trod laidOut (by kernel_rfl) (of_decide_eq_true (by kernel_rfl)) k1 bel lt1) trodAll_mk0)),rfl,bel.frame _,fun h=>by cases h⟩
theorem over:Rows.fnExactFirstHangingRow.holds Try.pinned (OpenSpec.ofChange Rows.fnExactFirstHangingSpec):=
  OpenClaim.holds_of_wide 4 Try.f4 rfl rfl rfl rfl rfl rfl rfl ⟨rfl,rfl,rfl,rfl,rfl⟩ rfl rfl rfl rfl rfl (by kernel_rfl) Try.func4 (by kernel_rfl)
    (of_decide_eq_true (by kernel_rfl)) (by unfold Func.isWrapper;first|(rw[if_pos (by decide +kernel)];kernel_rfl)|(rw[if_neg (by decide +kernel)];exact⟨rfl,rfl⟩))
    (fun os started H enc _=>lifted os started H enc)
theorem proved:Rows.FnExactFirstHangingSaid:=over
#print axioms proved
end Go.Proofs.Ytinlhiakpmcagaa.fnExactFirstHanging
namespace Go.Proofs.Ytinlhiakpmcagaa
theorem fnExactFirstHanging_holds:Rows.FnExactFirstHangingSaid:=fnExactFirstHanging.proved
end Go.Proofs.Ytinlhiakpmcagaa
