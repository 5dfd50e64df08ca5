import Derived.Test.YtnnpfekgapikfaaZFnOverhangsw1
import Derived.Test.YtnnpfekgapikfaaZFnOverhangsw0
namespace Go.Proofs.YtnnpfekgapikfaaW.PrintLast
open Go.Proofs.YtnnpfekgapikfaaW.PrintWords (Aside0)
def XW (md:Region.Mode) (o:Oper):List Nat:=(o.after.toList.filter (fun e=>Region.binds md e)).map (fun e=>e.on)
def aET (md:Region.Mode) (ops:Array Oper) (i:Nat) (oi:Oper):List Nat:=(List.range ops.size).filter fun j=> !(j==i) && match ops[j]? with
  |some oj=> !(oj.after.any (fun e=>Region.binds md e && e.on==i)||oi.apart ops oj)
  |none=>false
def y5 (md:Region.Mode) (ops:Array Oper):Bool × List (List Nat × List Nat):=(Region.noSelect ops,(List.range ops.size).map fun i=>match ops[i]? with
  |some o=>(XW md o,aET md ops i o)
  |none=>([],[]))
def RF (T:List (List Nat × List Nat)) (l:List Bool) (i:Nat):Bool:= !l.getD i true && match T[i]? with
  |some r=>r.1.all (fun j=>l.getD j false)
  |none=>false
def YS (T:List (List Nat × List Nat)) (l:List Bool):List Nat:=(List.range T.length).filter (RF T l)
def aBF (T:List (List Nat × List Nat)) (l:List Bool) (i:Nat):Bool:=match T[i]? with
  |some r=>r.2.all (fun j=>l.getD j true)
  |none=>false
def a7G (T:List (List Nat × List Nat)) (l:List Bool):Bool:=(List.range T.length).all fun j=> !l.getD j false||match T[j]? with
  |some r=>r.1.all (fun k=>l.getD k false)
  |none=>true
def a1B (T:List (List Nat × List Nat)) (i:Nat):Nat→Nat→Bool
  |0,_=>false
  | fuel + 1,d=>match T[d]? with
    |some r=>r.1.any fun j=>j==i||a1B T i fuel j
    |none=>false
def lastT (T:List (List Nat × List Nat)) (l:List Bool) (ds:List Nat) (i:Nat):Bool:=ds.all fun d=>l.getD d true||a1B T i T.length d
section
variable {md:Region.Mode} {ops:Array Oper} {T:Bool × List (List Nat × List Nat)} {l l' li lj lk:Array Bool} {ds:List Nat} {i j k:Nat}
theorem gd (l:Array Bool) (j:Nat) (b:Bool):l.getD j b=l.toList.getD j b:=by simp[Array.getD_eq_getD_getElem?,List.getD_eq_getElem?_getD]
theorem aGW (o:Oper) (p:Nat→Bool):o.after.all (fun e=> !Region.binds md e||p e.on)=(XW md o).all p:=by
  unfold XW;rw[← Array.all_toList]
  induction o.after.toList with
  |nil=>rfl
  | cons e r ih=>
    rw[List.all_cons,ih,List.filter_cons];cases h:Region.binds md e <;> simp
theorem aTZ (o:Oper) (p:Nat→Bool):o.after.any (fun e=>Region.binds md e && p e.on)=(XW md o).any p:=by
  unfold XW;rw[← Array.any_toList]
  induction o.after.toList with
  |nil=>rfl
  | cons e r ih=>
    rw[List.any_cons,ih,List.filter_cons];cases h:Region.binds md e <;> simp
theorem VK:(y5 md ops).2.length=ops.size:=by simp[y5]
theorem a0A {o:Oper} (h:ops[i]? =some o):(y5 md ops).2[i]? =some (XW md o,aET md ops i o):=by
  have hi:=(Array.getElem?_eq_some_iff.1 h).1;unfold y5;rw[List.getElem?_map,List.getElem?_range hi,Option.map_some,h]
theorem a0B (h:ops[i]? =none):(y5 md ops).2[i]? =none:=by
  have hi:ops.size≤i:=Array.getElem?_eq_none_iff.1 h;exact List.getElem?_eq_none (by rw[VK];exact hi)
theorem aQ7:RF (y5 md ops).2 l.toList i=(!l.getD i true && ((ops[i]?).map (·.after.all fun e=> !Region.binds md e||l.getD e.on false)).getD false):=by
  unfold RF;rw[gd];cases h:ops[i]? with
  |none=>rw[a0B h];rfl
  | some o=>
    rw[a0A h];simp only[Option.map_some,Option.getD_some];rw[← aGW];simp only[gd]
theorem ready_eq:Region.ready md ops l=YS (y5 md ops).2 l.toList:=by
  unfold Region.ready YS;rw[VK];refine List.filter_congr (fun i _=>?_);rw[aQ7]
theorem free_eq:Region.free md ops l i=aBF (y5 md ops).2 l.toList i:=by
  unfold Region.free aBF;cases h:ops[i]? with
  |none=>rw[a0B h]
  | some oi=>
    rw[a0A h];simp only[aET];rw[List.all_filter];congr 1;funext j;rw[gd];cases hj:ops[j]? with
    |none=>cases(j==i) <;> cases(l.toList.getD j true) <;> simp
    | some oj=>
      cases(j==i) <;> cases(l.toList.getD j true) <;> cases(oj.after.any (fun e=>Region.binds md e && e.on==i)||oi.apart ops oj) <;> simp_all
theorem aU0:Region.closedB md ops l=a7G (y5 md ops).2 l.toList:=by
  unfold Region.closedB a7G;rw[VK];congr 1;funext j;rw[gd];cases h:ops[j]? with
  |none=>rw[a0B h]
  | some o=>
    rw[a0A h];simp only;rw[← aGW];simp only[gd]
theorem aJX:∀ (fuel d:Nat),Region.reachB md ops i fuel d=a1B (y5 md ops).2 i fuel d
  |0,_=>rfl
  | fuel + 1,d=>by
    unfold Region.reachB a1B;cases h:ops[d]? with
    |none=>rw[a0B h]
    | some o=>
      rw[a0A h];simp only;rw[← aTZ];congr 1;funext e;rw[aJX fuel]
theorem b4J:Region.lastB md ops l ds i=lastT (y5 md ops).2 l.toList ds i:=by
  unfold Region.lastB lastT;rw[VK];congr 1;funext d;rw[gd,aJX]
theorem aA2 (h:RF T.2 l.toList i=true) (hT:y5 md ops=T):(Region.ready md ops l).contains i=true:=by
  subst hT;rw[ready_eq];unfold YS;rw[List.contains_iff_mem,List.mem_filter,List.mem_range];refine⟨?_,h⟩;unfold RF at h;rw[Bool.and_eq_true]at h;cases hq:(y5 md ops).2[i]? with
  |none=>rw[hq]at h;simp at h
  |some r=>exact(List.getElem?_eq_some_iff.1 hq).1
theorem VU (h:(l.toList.set i true==l'.toList)=true):(l.setIfInBounds i true==l')=true:=by
  rw[beq_iff_eq]at h ⊢;apply Array.ext';rw[Array.toList_setIfInBounds];exact h
def b6J (T:Bool × List (List Nat × List Nat)) (l l':List Bool) (i:Nat):Bool:=T.1 && aBF T.2 l i && RF T.2 l i && (l.set i true==l')
theorem dF (hT:y5 md ops=T) (h:b6J T l.toList l'.toList i=true):aJU md ops l l' i=true:=by
  simp only[b6J,Bool.and_eq_true]at h;obtain⟨⟨⟨h1,h2⟩,h3⟩,h4⟩:=h;have h5:=aA2 h3 hT;have h6:=VU h4;subst hT;simp only[aJU,Bool.and_eq_true];exact⟨⟨⟨h1,by rw[free_eq];exact h2⟩,h5⟩,h6⟩
def aQ8 (T:Bool × List (List Nat × List Nat)) (ds:List Nat) (l l':List Bool) (i:Nat):Bool:=T.1 && aBF T.2 l i && RF T.2 l i && a7G T.2 l && lastT T.2 l ds i && (l.set i true==l')
theorem b4K (hT:y5 md ops=T) (h:aQ8 T ds l.toList l'.toList i=true):takeB md ops ds l l' i=true:=by
  simp only[aQ8,Bool.and_eq_true]at h;obtain⟨⟨⟨⟨⟨h1,h2⟩,h3⟩,h4⟩,h5⟩,h6⟩:=h;have h7:=aA2 h3 hT;have h8:=VU h6;subst hT;simp only[takeB,Bool.and_eq_true];exact⟨⟨⟨⟨⟨h1,by rw[free_eq];exact h2⟩,h7⟩,by rw[aU0];exact h4⟩,by rw[b4J];exact h5⟩,h8⟩
theorem iK (hT:y5 md ops=T) (h:(YS T.2 l.toList==[i] && l.toList.set i true==l'.toList)=true):a1A md ops l l' i=true:=by
  simp only[Bool.and_eq_true]at h;obtain⟨h1,h2⟩:=h;subst hT;simp only[a1A,Bool.and_eq_true];exact⟨by rw[ready_eq];exact h1,VU h2⟩
theorem AU (hT:y5 md ops=T) (h:(YS T.2 l.toList==[i,j] && l.toList.set i true==li.toList && l.toList.set j true==lj.toList)=true):(Region.ready md ops l==[i,j] && l.setIfInBounds i true==li && l.setIfInBounds j true==lj)=true:=by
  simp only[Bool.and_eq_true]at h ⊢;obtain⟨⟨h1,h2⟩,h3⟩:=h;subst hT;exact⟨⟨by rw[ready_eq];exact h1,VU h2⟩,VU h3⟩
theorem aA6 (hT:y5 md ops=T) (h:(YS T.2 l.toList==[i,j,k] && l.toList.set i true==li.toList && l.toList.set j true==lj.toList && l.toList.set k true==lk.toList)=true):
    (Region.ready md ops l==[i,j,k] && l.setIfInBounds i true==li && l.setIfInBounds j true==lj && l.setIfInBounds k true==lk)=true:=by
  simp only[Bool.and_eq_true]at h ⊢;obtain⟨⟨⟨h1,h2⟩,h3⟩,h4⟩:=h;subst hT;exact⟨⟨⟨by rw[ready_eq];exact h1,VU h2⟩,VU h3⟩,VU h4⟩
theorem BK (hT:y5 md ops=T) (h:(YS T.2 l.toList==[])=true):(Region.ready md ops l==[])=true:=by
  subst hT;rw[ready_eq];exact h
def upM (B:List Nat) (d:Nat):List Nat→Nat
  |[]=>0
  |n::r=>(2 ^ n|||(if n < d then B.getD n 0 else 0))|||upM B d r
def zF (T:List (List Nat × List Nat)) (B:List Nat):Bool:=(List.range T.length).all fun d=>match T[d]? with
  |some r=>(B.getD d 0|||upM B d r.1)==upM B d r.1
  |none=>false
theorem aO3 {B:List Nat} {d i:Nat}:∀ {ns:List Nat},(upM B d ns).testBit i=true→∃ n ∈ ns,n=i∨(n < d∧(B.getD n 0).testBit i=true)
  |[],h=>by simp[upM]at h
  | n::r,h=>by
    unfold upM at h;rw[Nat.testBit_or,Nat.testBit_or,Bool.or_eq_true,Bool.or_eq_true]at h;rcases h with(h|h)|h
    · rw[Nat.testBit_two_pow]at h
      exact⟨n,List.mem_cons_self,.inl (by simpa using h)⟩
    · by_cases hn:n < d
      · rw[if_pos hn]at h
        exact⟨n,List.mem_cons_self,.inr ⟨hn,h⟩⟩
      · rw[if_neg hn]at h
        simp at h
    · obtain⟨m,hm,h2⟩:=aO3 h
      exact⟨m,List.mem_cons_of_mem _ hm,h2⟩
theorem aGX {T:List (List Nat × List Nat)} {B:List Nat} (hB:zF T B=true):∀ (fuel d:Nat),d < fuel→d < T.length→(B.getD d 0).testBit i=true→a1B T i fuel d=true
  |0,d,h,_,_=>by omega
  | fuel + 1,d,h,hd,hb=>by
    have h1:=List.all_eq_true.1 hB d (List.mem_range.2 hd);cases hr:T[d]? with
    |none=>rw[hr]at h1;simp at h1
    | some r=>
      rw[hr]at h1;simp only[beq_iff_eq]at h1;have h2:(upM B d r.1).testBit i=true:=by rw[← h1,Nat.testBit_or,hb,Bool.true_or]
      obtain⟨n,hn,h3⟩:=aO3 h2;unfold a1B;rw[hr];simp only;rw[List.any_eq_true];refine⟨n,hn,?_⟩;rcases h3 with rfl|⟨h4,h5⟩
      · simp
      · rw[aGX hB fuel n (by omega) (by omega) h5,Bool.or_true]
def b03 (T:List (List Nat × List Nat)) (B:List Nat) (l:List Bool) (ds:List Nat) (i:Nat):Bool:=ds.all fun d=>l.getD d true||(decide (d < T.length) && (B.getD d 0).testBit i)
def b04 (T:Bool × List (List Nat × List Nat)) (B:List Nat) (ds:List Nat) (l l':List Bool) (i:Nat):Bool:=T.1 && aBF T.2 l i && RF T.2 l i && a7G T.2 l && b03 T.2 B l ds i && (l.set i true==l')
theorem mM {B:List Nat} (hT:y5 md ops=T) (hB:zF T.2 B=true) (h:b04 T B ds l.toList l'.toList i=true):takeB md ops ds l l' i=true:=by
  refine b4K hT ?_;simp only[b04,aQ8,Bool.and_eq_true]at h ⊢;obtain⟨⟨⟨⟨⟨h1,h2⟩,h3⟩,h4⟩,h5⟩,h6⟩:=h;refine⟨⟨⟨⟨⟨h1,h2⟩,h3⟩,h4⟩,?_⟩,h6⟩;unfold b03 at h5;unfold lastT;rw[List.all_eq_true]at h5 ⊢;intro d hd;have h7:=h5 d hd;rw[Bool.or_eq_true,Bool.and_eq_true,decide_eq_true_eq]at h7;rcases h7 with h7|⟨h8,h9⟩
  · rw[h7,Bool.true_or]
  · rw[aGX hB _ d h8 h8 h9,Bool.or_true]
theorem vY {P:Program} {Q:Exit→Act→World→Prop} {S:World→Prop} {n:Nat} {a:Act} {w:World} {B:List Nat} (hT:y5 md ops=T) (hB:zF T.2 B=true) (h:Aside0 (y5 md ops=T)→Aside0 (zF T.2 B=true)→iL P md ops Q S ds n l a w):iL P md ops Q S ds n l a w:=h ⟨hT⟩ ⟨hB⟩
end
def VL:Code→Nat→Option (Array Oper)
  | .region id ops _,k=>if id==k then some ops else none
  | .seq a b,k=>match VL a k with
    |some o=>some o
    |none=>VL b k
  | .cond _ a b,k=>match VL a k with
    |some o=>some o
    |none=>VL b k
  | .block _ c,k=>VL c k
  | .loop c,k=>VL c k
  | .scope c,k=>VL c k
  | .rangeFunc _ _ a b,k=>match VL a k with
    |some o=>some o
    |none=>VL b k
  |_,_=>none
def opsOf (f:Func) (k:Nat):Array Oper:=((f.body.bind fun c=>VL c k)).getD #[]
end Go.Proofs.YtnnpfekgapikfaaW.PrintLast
