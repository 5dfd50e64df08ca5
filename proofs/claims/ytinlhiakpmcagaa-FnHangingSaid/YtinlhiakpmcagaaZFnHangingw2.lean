import Derived.Test.YtinlhiakpmcagaaZFnHangingw1
import Derived.Test.YtinlhiakpmcagaaZFnHangingw0
namespace Go.Proofs.YtinlhiakpmcagaaW.PrintLast
open Go.Proofs.YtinlhiakpmcagaaW.PrintWords (aD)
def Z6 (md:Region.Mode) (o:Oper):List Nat:=(o.after.toList.filter (fun e=>Region.binds md e)).map (fun e=>e.on)
def aME (md:Region.Mode) (ops:Array Oper) (i:Nat) (oi:Oper):List Nat:=(List.range ops.size).filter fun j=> !(j==i) && match ops[j]? with
  |some oj=> !(oj.after.any (fun e=>Region.binds md e && e.on==i)||oi.apart ops oj)
  |none=>false
def eQ (md:Region.Mode) (ops:Array Oper):Bool × List (List Nat × List Nat):=(Region.noSelect ops,(List.range ops.size).map fun i=>match ops[i]? with
  |some o=>(Z6 md o,aME md ops i o)
  |none=>([],[]))
def SB (T:List (List Nat × List Nat)) (l:List Bool) (i:Nat):Bool:= !l.getD i true && match T[i]? with
  |some r=>r.1.all (fun j=>l.getD j false)
  |none=>false
def a5G (T:List (List Nat × List Nat)) (l:List Bool):List Nat:=(List.range T.length).filter (SB T l)
def aIX (T:List (List Nat × List Nat)) (l:List Bool) (i:Nat):Bool:=match T[i]? with
  |some r=>r.2.all (fun j=>l.getD j true)
  |none=>false
def aDM (T:List (List Nat × List Nat)) (l:List Bool):Bool:=(List.range T.length).all fun j=> !l.getD j false||match T[j]? with
  |some r=>r.1.all (fun k=>l.getD k false)
  |none=>true
def a5H (T:List (List Nat × List Nat)) (i:Nat):Nat→Nat→Bool
  |0,_=>false
  | fuel + 1,d=>match T[d]? with
    |some r=>r.1.any fun j=>j==i||a5H T i fuel j
    |none=>false
def lastT (T:List (List Nat × List Nat)) (l:List Bool) (ds:List Nat) (i:Nat):Bool:=ds.all fun d=>l.getD d true||a5H T i T.length d
section
variable {md:Region.Mode} {ops:Array Oper} {T:Bool × List (List Nat × List Nat)} {l l' li lj lk:Array Bool} {ds:List Nat} {i j k:Nat}
theorem gd (l:Array Bool) (j:Nat) (b:Bool):l.getD j b=l.toList.getD j b:=by simp[Array.getD_eq_getD_getElem?,List.getD_eq_getElem?_getD]
theorem aPQ (o:Oper) (p:Nat→Bool):o.after.all (fun e=> !Region.binds md e||p e.on)=(Z6 md o).all p:=by
  unfold Z6;rw[← Array.all_toList]
  induction o.after.toList with
  |nil=>rfl
  | cons e r ih=>
    rw[List.all_cons,ih,List.filter_cons];cases h:Region.binds md e <;> simp
theorem bAZ (o:Oper) (p:Nat→Bool):o.after.any (fun e=>Region.binds md e && p e.on)=(Z6 md o).any p:=by
  unfold Z6;rw[← Array.any_toList]
  induction o.after.toList with
  |nil=>rfl
  | cons e r ih=>
    rw[List.any_cons,ih,List.filter_cons];cases h:Region.binds md e <;> simp
theorem WJ:(eQ md ops).2.length=ops.size:=by simp[eQ]
theorem a2K {o:Oper} (h:ops[i]? =some o):(eQ md ops).2[i]? =some (Z6 md o,aME md ops i o):=by
  have hi:=(Array.getElem?_eq_some_iff.1 h).1;unfold eQ;rw[List.getElem?_map,List.getElem?_range hi,Option.map_some,h]
theorem a2L (h:ops[i]? =none):(eQ md ops).2[i]? =none:=by
  have hi:ops.size≤i:=Array.getElem?_eq_none_iff.1 h;exact List.getElem?_eq_none (by rw[WJ];exact hi)
theorem b2X:SB (eQ md ops).2 l.toList i=(!l.getD i true && ((ops[i]?).map (·.after.all fun e=> !Region.binds md e||l.getD e.on false)).getD false):=by
  unfold SB;rw[gd];cases h:ops[i]? with
  |none=>rw[a2L h];rfl
  | some o=>
    rw[a2K h];simp only[Option.map_some,Option.getD_some];rw[← aPQ];simp only[gd]
theorem ready_eq:Region.ready md ops l=a5G (eQ md ops).2 l.toList:=by
  unfold Region.ready a5G;rw[WJ];refine List.filter_congr (fun i _=>?_);rw[b2X]
theorem free_eq:Region.free md ops l i=aIX (eQ md ops).2 l.toList i:=by
  unfold Region.free aIX;cases h:ops[i]? with
  |none=>rw[a2L h]
  | some oi=>
    rw[a2K h];simp only[aME];rw[List.all_filter];congr 1;funext j;rw[gd];cases hj:ops[j]? with
    |none=>cases(j==i) <;> cases(l.toList.getD j true) <;> simp
    | some oj=>
      cases(j==i) <;> cases(l.toList.getD j true) <;> cases(oj.after.any (fun e=>Region.binds md e && e.on==i)||oi.apart ops oj) <;> simp_all
theorem bB0:Region.closedB md ops l=aDM (eQ md ops).2 l.toList:=by
  unfold Region.closedB aDM;rw[WJ];congr 1;funext j;rw[gd];cases h:ops[j]? with
  |none=>rw[a2L h]
  | some o=>
    rw[a2K h];simp only;rw[← aPQ];simp only[gd]
theorem aTE:∀ (fuel d:Nat),Region.reachB md ops i fuel d=a5H (eQ md ops).2 i fuel d
  |0,_=>rfl
  | fuel + 1,d=>by
    unfold Region.reachB a5H;cases h:ops[d]? with
    |none=>rw[a2L h]
    | some o=>
      rw[a2K h];simp only;rw[← bAZ];congr 1;funext e;rw[aTE fuel]
theorem bP8:Region.lastB md ops l ds i=lastT (eQ md ops).2 l.toList ds i:=by
  unfold Region.lastB lastT;rw[WJ];congr 1;funext d;rw[gd,aTE]
theorem aFG (h:SB T.2 l.toList i=true) (hT:eQ md ops=T):(Region.ready md ops l).contains i=true:=by
  subst hT;rw[ready_eq];unfold a5G;rw[List.contains_iff_mem,List.mem_filter,List.mem_range];refine⟨?_,h⟩;unfold SB at h;rw[Bool.and_eq_true]at h;cases hq:(eQ md ops).2[i]? with
  |none=>rw[hq]at h;simp at h
  |some r=>exact(List.getElem?_eq_some_iff.1 hq).1
theorem aB4 (h:(l.toList.set i true==l'.toList)=true):(l.setIfInBounds i true==l')=true:=by
  rw[beq_iff_eq]at h ⊢;apply Array.ext';rw[Array.toList_setIfInBounds];exact h
def bUK (T:Bool × List (List Nat × List Nat)) (l l':List Bool) (i:Nat):Bool:=T.1 && aIX T.2 l i && SB T.2 l i && (l.set i true==l')
theorem bB1 (hT:eQ md ops=T) (h:bUK T l.toList l'.toList i=true):aH4 md ops l l' i=true:=by
  simp only[bUK,Bool.and_eq_true]at h;obtain⟨⟨⟨h1,h2⟩,h3⟩,h4⟩:=h;have h5:=aFG h3 hT;have h6:=aB4 h4;subst hT;simp only[aH4,Bool.and_eq_true];exact⟨⟨⟨h1,by rw[free_eq];exact h2⟩,h5⟩,h6⟩
def b2Y (T:Bool × List (List Nat × List Nat)) (ds:List Nat) (l l':List Bool) (i:Nat):Bool:=T.1 && aIX T.2 l i && SB T.2 l i && aDM T.2 l && lastT T.2 l ds i && (l.set i true==l')
theorem bP9 (hT:eQ md ops=T) (h:b2Y T ds l.toList l'.toList i=true):takeB md ops ds l l' i=true:=by
  simp only[b2Y,Bool.and_eq_true]at h;obtain⟨⟨⟨⟨⟨h1,h2⟩,h3⟩,h4⟩,h5⟩,h6⟩:=h;have h7:=aFG h3 hT;have h8:=aB4 h6;subst hT;simp only[takeB,Bool.and_eq_true];exact⟨⟨⟨⟨⟨h1,by rw[free_eq];exact h2⟩,h7⟩,by rw[bB0];exact h4⟩,by rw[bP8];exact h5⟩,h8⟩
theorem rF (hT:eQ md ops=T) (h:(a5G T.2 l.toList==[i] && l.toList.set i true==l'.toList)=true):a0E md ops l l' i=true:=by
  simp only[Bool.and_eq_true]at h;obtain⟨h1,h2⟩:=h;subst hT;simp only[a0E,Bool.and_eq_true];exact⟨by rw[ready_eq];exact h1,aB4 h2⟩
theorem NU (hT:eQ md ops=T) (h:(a5G T.2 l.toList==[i,j] && l.toList.set i true==li.toList && l.toList.set j true==lj.toList)=true):(Region.ready md ops l==[i,j] && l.setIfInBounds i true==li && l.setIfInBounds j true==lj)=true:=by
  simp only[Bool.and_eq_true]at h ⊢;obtain⟨⟨h1,h2⟩,h3⟩:=h;subst hT;exact⟨⟨by rw[ready_eq];exact h1,aB4 h2⟩,aB4 h3⟩
theorem bPA (hT:eQ md ops=T) (h:(a5G T.2 l.toList==[])=true):(Region.ready md ops l==[])=true:=by
  subst hT;rw[ready_eq];exact h
def upM (B:List Nat) (d:Nat):List Nat→Nat
  |[]=>0
  |n::r=>(2 ^ n|||(if n < d then B.getD n 0 else 0))|||upM B d r
def kT (T:List (List Nat × List Nat)) (B:List Nat):Bool:=(List.range T.length).all fun d=>match T[d]? with
  |some r=>(B.getD d 0|||upM B d r.1)==upM B d r.1
  |none=>false
theorem aZB {B:List Nat} {d i:Nat}:∀ {ns:List Nat},(upM B d ns).testBit i=true→∃ n ∈ ns,n=i∨(n < d∧(B.getD n 0).testBit i=true)
  |[],h=>by simp[upM]at h
  | n::r,h=>by
    unfold upM at h;rw[Nat.testBit_or,Nat.testBit_or,Bool.or_eq_true,Bool.or_eq_true]at h;rcases h with(h|h)|h
    · rw[Nat.testBit_two_pow]at h
      exact⟨n,List.mem_cons_self,.inl (by simpa using h)⟩
    · by_cases hn:n < d
      · rw[if_pos hn]at h
        exact⟨n,List.mem_cons_self,.inr ⟨hn,h⟩⟩
      · rw[if_neg hn]at h
        simp at h
    · obtain⟨m,hm,h2⟩:=aZB h
      exact⟨m,List.mem_cons_of_mem _ hm,h2⟩
theorem aPR {T:List (List Nat × List Nat)} {B:List Nat} (hB:kT T B=true):∀ (fuel d:Nat),d < fuel→d < T.length→(B.getD d 0).testBit i=true→a5H T i fuel d=true
  |0,d,h,_,_=>by omega
  | fuel + 1,d,h,hd,hb=>by
    have h1:=List.all_eq_true.1 hB d (List.mem_range.2 hd);cases hr:T[d]? with
    |none=>rw[hr]at h1;simp at h1
    | some r=>
      rw[hr]at h1;simp only[beq_iff_eq]at h1;have h2:(upM B d r.1).testBit i=true:=by rw[← h1,Nat.testBit_or,hb,Bool.true_or]
      obtain⟨n,hn,h3⟩:=aZB h2;unfold a5H;rw[hr];simp only;rw[List.any_eq_true];refine⟨n,hn,?_⟩;rcases h3 with rfl|⟨h4,h5⟩
      · simp
      · rw[aPR hB fuel n (by omega) (by omega) h5,Bool.or_true]
def bHW (T:List (List Nat × List Nat)) (B:List Nat) (l:List Bool) (ds:List Nat) (i:Nat):Bool:=ds.all fun d=>l.getD d true||(decide (d < T.length) && (B.getD d 0).testBit i)
def bHX (T:Bool × List (List Nat × List Nat)) (B:List Nat) (ds:List Nat) (l l':List Bool) (i:Nat):Bool:=T.1 && aIX T.2 l i && SB T.2 l i && aDM T.2 l && bHW T.2 B l ds i && (l.set i true==l')
theorem aTG {B:List Nat} (hT:eQ md ops=T) (hB:kT T.2 B=true) (h:bHX T B ds l.toList l'.toList i=true):takeB md ops ds l l' i=true:=by
  refine bP9 hT ?_;simp only[bHX,b2Y,Bool.and_eq_true]at h ⊢;obtain⟨⟨⟨⟨⟨h1,h2⟩,h3⟩,h4⟩,h5⟩,h6⟩:=h;refine⟨⟨⟨⟨⟨h1,h2⟩,h3⟩,h4⟩,?_⟩,h6⟩;unfold bHW at h5;unfold lastT;rw[List.all_eq_true]at h5 ⊢;intro d hd;have h7:=h5 d hd;rw[Bool.or_eq_true,Bool.and_eq_true,decide_eq_true_eq]at h7;rcases h7 with h7|⟨h8,h9⟩
  · rw[h7,Bool.true_or]
  · rw[aPR hB _ d h8 h8 h9,Bool.or_true]
theorem fZ {P:Program} {Q:Exit→Act→World→Prop} {S:World→Prop} {n:Nat} {a:Act} {w:World} {B:List Nat} (hT:eQ md ops=T) (hB:kT T.2 B=true) (h:aD (eQ md ops=T)→aD (kT T.2 B=true)→fM P md ops Q S ds n l a w):fM P md ops Q S ds n l a w:=h ⟨hT⟩ ⟨hB⟩
end
def WK:Code→Nat→Option (Array Oper)
  | .region id ops _,k=>if id==k then some ops else none
  | .seq a b,k=>match WK a k with
    |some o=>some o
    |none=>WK b k
  | .cond _ a b,k=>match WK a k with
    |some o=>some o
    |none=>WK b k
  | .block _ c,k=>WK c k
  | .loop c,k=>WK c k
  | .scope c,k=>WK c k
  | .rangeFunc _ _ a b,k=>match WK a k with
    |some o=>some o
    |none=>WK b k
  |_,_=>none
def opsOf (f:Func) (k:Nat):Array Oper:=((f.body.bind fun c=>WK c k)).getD #[]
end Go.Proofs.YtinlhiakpmcagaaW.PrintLast
