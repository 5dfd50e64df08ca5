import Derived.Test.YtinlhiakpmcagaaZFnExactFirstHangingw1
import Derived.Test.YtinlhiakpmcagaaZFnExactFirstHangingw0
namespace Go.Proofs.YtinlhiakpmcagaaW.PrintLast
open Go.Proofs.YtinlhiakpmcagaaW.PrintWords (Aside0)
def BO (md:Region.Mode) (o:Oper):List Nat:=(o.after.toList.filter (fun e=>Region.binds md e)).map (fun e=>e.on)
def VC (md:Region.Mode) (ops:Array Oper) (i:Nat) (oi:Oper):List Nat:=(List.range ops.size).filter fun j=> !(j==i) && match ops[j]? with
  |some oj=> !(oj.after.any (fun e=>Region.binds md e && e.on==i)||oi.apart ops oj)
  |none=>false
def jS (md:Region.Mode) (ops:Array Oper):Bool × List (List Nat × List Nat):=(Region.noSelect ops,(List.range ops.size).map fun i=>match ops[i]? with
  |some o=>(BO md o,VC md ops i o)
  |none=>([],[]))
def xD (T:List (List Nat × List Nat)) (l:List Bool) (i:Nat):Bool:= !l.getD i true && match T[i]? with
  |some r=>r.1.all (fun j=>l.getD j false)
  |none=>false
def FY (T:List (List Nat × List Nat)) (l:List Bool):List Nat:=(List.range T.length).filter (xD T l)
def QJ (T:List (List Nat × List Nat)) (l:List Bool) (i:Nat):Bool:=match T[i]? with
  |some r=>r.2.all (fun j=>l.getD j true)
  |none=>false
def KX (T:List (List Nat × List Nat)) (l:List Bool):Bool:=(List.range T.length).all fun j=> !l.getD j false||match T[j]? with
  |some r=>r.1.all (fun k=>l.getD k false)
  |none=>true
def FZ (T:List (List Nat × List Nat)) (i:Nat):Nat→Nat→Bool
  |0,_=>false
  | fuel + 1,d=>match T[d]? with
    |some r=>r.1.any fun j=>j==i||FZ T i fuel j
    |none=>false
def lastT (T:List (List Nat × List Nat)) (l:List Bool) (ds:List Nat) (i:Nat):Bool:=ds.all fun d=>l.getD d true||FZ T i T.length d
section
variable {md:Region.Mode} {ops:Array Oper} {T:Bool × List (List Nat × List Nat)} {l l' li lj lk:Array Bool} {ds:List Nat} {i j k:Nat}
theorem gd (l:Array Bool) (j:Nat) (b:Bool):l.getD j b=l.toList.getD j b:=by simp[Array.getD_eq_getD_getElem?,List.getD_eq_getElem?_getD]
theorem X4 (o:Oper) (p:Nat→Bool):o.after.all (fun e=> !Region.binds md e||p e.on)=(BO md o).all p:=by
  unfold BO;rw[← Array.all_toList]
  induction o.after.toList with
  |nil=>rfl
  | cons e r ih=>
    rw[List.all_cons,ih,List.filter_cons];cases h:Region.binds md e <;> simp
theorem a8D (o:Oper) (p:Nat→Bool):o.after.any (fun e=>Region.binds md e && p e.on)=(BO md o).any p:=by
  unfold BO;rw[← Array.any_toList]
  induction o.after.toList with
  |nil=>rfl
  | cons e r ih=>
    rw[List.any_cons,ih,List.filter_cons];cases h:Region.binds md e <;> simp
theorem zF:(jS md ops).2.length=ops.size:=by simp[jS]
theorem E8 {o:Oper} (h:ops[i]? =some o):(jS md ops).2[i]? =some (BO md o,VC md ops i o):=by
  have hi:=(Array.getElem?_eq_some_iff.1 h).1;unfold jS;rw[List.getElem?_map,List.getElem?_range hi,Option.map_some,h]
theorem E9 (h:ops[i]? =none):(jS md ops).2[i]? =none:=by
  have hi:ops.size≤i:=Array.getElem?_eq_none_iff.1 h;exact List.getElem?_eq_none (by rw[zF];exact hi)
theorem a3T:xD (jS md ops).2 l.toList i=(!l.getD i true && ((ops[i]?).map (·.after.all fun e=> !Region.binds md e||l.getD e.on false)).getD false):=by
  unfold xD;rw[gd];cases h:ops[i]? with
  |none=>rw[E9 h];rfl
  | some o=>
    rw[E8 h];simp only[Option.map_some,Option.getD_some];rw[← X4];simp only[gd]
theorem ready_eq:Region.ready md ops l=FY (jS md ops).2 l.toList:=by
  unfold Region.ready FY;rw[zF];refine List.filter_congr (fun i _=>?_);rw[a3T]
theorem free_eq:Region.free md ops l i=QJ (jS md ops).2 l.toList i:=by
  unfold Region.free QJ;cases h:ops[i]? with
  |none=>rw[E9 h]
  | some oi=>
    rw[E8 h];simp only[VC];rw[List.all_filter];congr 1;funext j;rw[gd];cases hj:ops[j]? with
    |none=>cases(j==i) <;> cases(l.toList.getD j true) <;> simp
    | some oj=>
      cases(j==i) <;> cases(l.toList.getD j true) <;> cases(oj.after.any (fun e=>Region.binds md e && e.on==i)||oi.apart ops oj) <;> simp_all
theorem a8E:Region.closedB md ops l=KX (jS md ops).2 l.toList:=by
  unfold Region.closedB KX;rw[zF];congr 1;funext j;rw[gd];cases h:ops[j]? with
  |none=>rw[E9 h]
  | some o=>
    rw[E8 h];simp only;rw[← X4];simp only[gd]
theorem YK:∀ (fuel d:Nat),Region.reachB md ops i fuel d=FZ (jS md ops).2 i fuel d
  |0,_=>rfl
  | fuel + 1,d=>by
    unfold Region.reachB FZ;cases h:ops[d]? with
    |none=>rw[E9 h]
    | some o=>
      rw[E8 h];simp only;rw[← a8D];congr 1;funext e;rw[YK fuel]
theorem aIM:Region.lastB md ops l ds i=lastT (jS md ops).2 l.toList ds i:=by
  unfold Region.lastB lastT;rw[zF];congr 1;funext d;rw[gd,YK]
theorem NG (h:xD T.2 l.toList i=true) (hT:jS md ops=T):(Region.ready md ops l).contains i=true:=by
  subst hT;rw[ready_eq];unfold FY;rw[List.contains_iff_mem,List.mem_filter,List.mem_range];refine⟨?_,h⟩;unfold xD at h;rw[Bool.and_eq_true]at h;cases hq:(jS md ops).2[i]? with
  |none=>rw[hq]at h;simp at h
  |some r=>exact(List.getElem?_eq_some_iff.1 hq).1
theorem JF (h:(l.toList.set i true==l'.toList)=true):(l.setIfInBounds i true==l')=true:=by
  rw[beq_iff_eq]at h ⊢;apply Array.ext';rw[Array.toList_setIfInBounds];exact h
def aK8 (T:Bool × List (List Nat × List Nat)) (l l':List Bool) (i:Nat):Bool:=T.1 && QJ T.2 l i && xD T.2 l i && (l.set i true==l')
theorem aG (hT:jS md ops=T) (h:aK8 T l.toList l'.toList i=true):YJ md ops l l' i=true:=by
  simp only[aK8,Bool.and_eq_true]at h;obtain⟨⟨⟨h1,h2⟩,h3⟩,h4⟩:=h;have h5:=NG h3 hT;have h6:=JF h4;subst hT;simp only[YJ,Bool.and_eq_true];exact⟨⟨⟨h1,by rw[free_eq];exact h2⟩,h5⟩,h6⟩
def a3U (T:Bool × List (List Nat × List Nat)) (ds:List Nat) (l l':List Bool) (i:Nat):Bool:=T.1 && QJ T.2 l i && xD T.2 l i && KX T.2 l && lastT T.2 l ds i && (l.set i true==l')
theorem aIN (hT:jS md ops=T) (h:a3U T ds l.toList l'.toList i=true):takeB md ops ds l l' i=true:=by
  simp only[a3U,Bool.and_eq_true]at h;obtain⟨⟨⟨⟨⟨h1,h2⟩,h3⟩,h4⟩,h5⟩,h6⟩:=h;have h7:=NG h3 hT;have h8:=JF h6;subst hT;simp only[takeB,Bool.and_eq_true];exact⟨⟨⟨⟨⟨h1,by rw[free_eq];exact h2⟩,h7⟩,by rw[a8E];exact h4⟩,by rw[aIM];exact h5⟩,h8⟩
theorem dO (hT:jS md ops=T) (h:(FY T.2 l.toList==[i] && l.toList.set i true==l'.toList)=true):FX md ops l l' i=true:=by
  simp only[Bool.and_eq_true]at h;obtain⟨h1,h2⟩:=h;subst hT;simp only[FX,Bool.and_eq_true];exact⟨by rw[ready_eq];exact h1,JF h2⟩
theorem xU (hT:jS md ops=T) (h:(FY T.2 l.toList==[i,j] && l.toList.set i true==li.toList && l.toList.set j true==lj.toList)=true):(Region.ready md ops l==[i,j] && l.setIfInBounds i true==li && l.setIfInBounds j true==lj)=true:=by
  simp only[Bool.and_eq_true]at h ⊢;obtain⟨⟨h1,h2⟩,h3⟩:=h;subst hT;exact⟨⟨by rw[ready_eq];exact h1,JF h2⟩,JF h3⟩
theorem iF (hT:jS md ops=T) (h:(FY T.2 l.toList==[])=true):(Region.ready md ops l==[])=true:=by
  subst hT;rw[ready_eq];exact h
def YL (B:List Nat) (d:Nat):List Nat→Nat
  |[]=>0
  |n::r=>(2 ^ n|||(if n < d then B.getD n 0 else 0))|||YL B d r
def jQ (T:List (List Nat × List Nat)) (B:List Nat):Bool:=(List.range T.length).all fun d=>match T[d]? with
  |some r=>(B.getD d 0|||YL B d r.1)==YL B d r.1
  |none=>false
theorem a1F {B:List Nat} {d i:Nat}:∀ {ns:List Nat},(YL B d ns).testBit i=true→∃ n ∈ ns,n=i∨(n < d∧(B.getD n 0).testBit i=true)
  |[],h=>by simp[YL]at h
  | n::r,h=>by
    unfold YL at h;rw[Nat.testBit_or,Nat.testBit_or,Bool.or_eq_true,Bool.or_eq_true]at h;rcases h with(h|h)|h
    · rw[Nat.testBit_two_pow]at h
      exact⟨n,List.mem_cons_self,.inl (by simpa using h)⟩
    · by_cases hn:n < d
      · rw[if_pos hn]at h
        exact⟨n,List.mem_cons_self,.inr ⟨hn,h⟩⟩
      · rw[if_neg hn]at h
        simp at h
    · obtain⟨m,hm,h2⟩:=a1F h
      exact⟨m,List.mem_cons_of_mem _ hm,h2⟩
theorem X5 {T:List (List Nat × List Nat)} {B:List Nat} (hB:jQ T B=true):∀ (fuel d:Nat),d < fuel→d < T.length→(B.getD d 0).testBit i=true→FZ T i fuel d=true
  |0,d,h,_,_=>by omega
  | fuel + 1,d,h,hd,hb=>by
    have h1:=List.all_eq_true.1 hB d (List.mem_range.2 hd);cases hr:T[d]? with
    |none=>rw[hr]at h1;simp at h1
    | some r=>
      rw[hr]at h1;simp only[beq_iff_eq]at h1;have h2:(YL B d r.1).testBit i=true:=by rw[← h1,Nat.testBit_or,hb,Bool.true_or]
      obtain⟨n,hn,h3⟩:=a1F h2;unfold FZ;rw[hr];simp only;rw[List.any_eq_true];refine⟨n,hn,?_⟩;rcases h3 with rfl|⟨h4,h5⟩
      · simp
      · rw[X5 hB fuel n (by omega) (by omega) h5,Bool.or_true]
def aER (T:List (List Nat × List Nat)) (B:List Nat) (l:List Bool) (ds:List Nat) (i:Nat):Bool:=ds.all fun d=>l.getD d true||(decide (d < T.length) && (B.getD d 0).testBit i)
def aES (T:Bool × List (List Nat × List Nat)) (B:List Nat) (ds:List Nat) (l l':List Bool) (i:Nat):Bool:=T.1 && QJ T.2 l i && xD T.2 l i && KX T.2 l && aER T.2 B l ds i && (l.set i true==l')
theorem d9 {B:List Nat} (hT:jS md ops=T) (hB:jQ T.2 B=true) (h:aES T B ds l.toList l'.toList i=true):takeB md ops ds l l' i=true:=by
  refine aIN hT ?_;simp only[aES,a3U,Bool.and_eq_true]at h ⊢;obtain⟨⟨⟨⟨⟨h1,h2⟩,h3⟩,h4⟩,h5⟩,h6⟩:=h;refine⟨⟨⟨⟨⟨h1,h2⟩,h3⟩,h4⟩,?_⟩,h6⟩;unfold aER at h5;unfold lastT;rw[List.all_eq_true]at h5 ⊢;intro d hd;have h7:=h5 d hd;rw[Bool.or_eq_true,Bool.and_eq_true,decide_eq_true_eq]at h7;rcases h7 with h7|⟨h8,h9⟩
  · rw[h7,Bool.true_or]
  · rw[X5 hB _ d h8 h8 h9,Bool.or_true]
theorem gB {P:Program} {Q:Exit→Act→World→Prop} {S:World→Prop} {n:Nat} {a:Act} {w:World} {B:List Nat} (hT:jS md ops=T) (hB:jQ T.2 B=true) (h:Aside0 (jS md ops=T)→Aside0 (jQ T.2 B=true)→dM P md ops Q S ds n l a w):dM P md ops Q S ds n l a w:=h ⟨hT⟩ ⟨hB⟩
end
def zG:Code→Nat→Option (Array Oper)
  | .region id ops _,k=>if id==k then some ops else none
  | .seq a b,k=>match zG a k with
    |some o=>some o
    |none=>zG b k
  | .cond _ a b,k=>match zG a k with
    |some o=>some o
    |none=>zG b k
  | .block _ c,k=>zG c k
  | .loop c,k=>zG c k
  | .scope c,k=>zG c k
  | .rangeFunc _ _ a b,k=>match zG a k with
    |some o=>some o
    |none=>zG b k
  |_,_=>none
def opsOf (f:Func) (k:Nat):Array Oper:=((f.body.bind fun c=>zG c k)).getD #[]
end Go.Proofs.YtinlhiakpmcagaaW.PrintLast
