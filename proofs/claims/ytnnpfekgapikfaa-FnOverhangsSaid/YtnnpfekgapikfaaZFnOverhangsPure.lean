import Derived.Test.YtnnpfekgapikfaaZFnOverhangsx15
set_option linter.unusedVariables false
set_option linter.unusedSimpArgs false
namespace Go.Proofs.Ytnnpfekgapikfaa.Pure
open Go.RowKit Go.Proofs.YtnnpfekgapikfaaW.PrintWords Go.Proofs.YtnnpfekgapikfaaW.PrintLast Go.Proofs.Ytnnpfekgapikfaa.PFnOverhangs
theorem fE {x:Int} (h0: -9223372036854775808≤x) (h1:x≤9223372036854775807):wrap64 x=x:=by
  unfold wrap64;omega
theorem YO (a b c:Int):oL.f a b c=some (decide (b≤a∧a≤c)):=by
  unfold oL.f
  split <;> simp_all
  omega
theorem WU (a b c:Int):oK.f a b c=some (decide (b≤a∧a≤c)):=by
  unfold oK.f
  split <;> simp_all
  omega
theorem UG {α:Type} (p:List α) (x:α) (h:p.length < 9223372036854775807):wrap64 ((p.length:Int) + 1)=((p ++ [x]).length:Int):=by
  rw[fE (by omega) (by omega)];simp
theorem rdI (p s:List Int) (x:Int):rd (p ++ x::s) ((p.length:Int))=x:=by
  simp[rd]
def okP (l w:Int):Bool:=decide (-99≤l∧l≤99) && decide (1≤w∧w≤99)
def I1:List Int→List Int→Bool
  |l::ls,w::ws=>okP l w && I1 ls ws
  |_,_=>true
def vM (a:Int) (ls ws:List Int):Bool:=decide (1≤a∧a≤24) && (decide (1≤(ls.length:Int)∧(ls.length:Int)≤8) && (decide (ws.length=ls.length) && I1 ls ws))
theorem a7C (a:Int):CE.f a=some (decide (-99≤a∧a≤99)):=by simp only[CE.f,WU,Option.bind_some]
theorem VS (a:Int):y8.f a=some (decide (1≤a∧a≤99)):=by simp only[y8.f,WU,Option.bind_some]
theorem aIH (a:Int):vN.f a=some (decide (1≤a∧a≤24)):=by simp only[vN.f,WU,Option.bind_some]
theorem aVZ (a:Int):∀ (s t p q:List Int) (k:Nat),p.length=q.length→s.length=t.length→(p ++ s).length < 4611686018427387904→s.length < k→
    eG.l0 k ((p ++ s).length:Int) (p.length:Int) a (p ++ s) (q ++ t)=some (I1 s t):=by
  intro s
  induction s with
  | nil=>
    intro t p q k hpq hst hl hk;obtain⟨k,rfl⟩:∃ m,k=m + 1:=⟨k - 1,by simp at hk;omega⟩
    simp only[eG.l0];rw[if_neg (by simp)];simp[I1]
  | cons x s ih=>
    intro t p q k hpq hst hl hk;obtain⟨k,rfl⟩:∃ m,k=m + 1:=⟨k - 1,by simp at hk;omega⟩
    cases t with
    |nil=>simp at hst
    | cons y t=>
      have e:rd (q ++ y::t) (p.length:Int)=y:=by rw[hpq];exact rdI q t y
      simp only[eG.l0];rw[if_pos (by simp;omega),if_pos (by omega),if_pos (by simp;omega),if_pos (by rw[hpq];simp;omega),rdI,e,YO,Option.bind_some,YO,Option.bind_some,UG p x (by simp at hl;omega),List.append_cons p x s,List.append_cons q y t];rw[ih t (p ++ [x]) (q ++ [y]) k (by simp[hpq]) (by simpa using hst) (by simpa using hl) (by simp at hk;omega)];simp only[I1,okP];by_cases h1: -99≤x∧x≤99 <;> by_cases h2:1≤y∧y≤99 <;> simp[h1,h2]
theorem aW0 (a:Int):∀ (s t p q:List Int) (k:Nat),p.length=q.length→s.length=t.length→(p ++ s).length < 4611686018427387904→s.length < k→
    dE.l0 k (p ++ s) ((p ++ s).length:Int) (p.length:Int) a (p ++ s) (q ++ t)=some (I1 s t):=by
  intro s
  induction s with
  | nil=>
    intro t p q k hpq hst hl hk;obtain⟨k,rfl⟩:∃ m,k=m + 1:=⟨k - 1,by simp at hk;omega⟩
    simp only[dE.l0];rw[if_neg (by simp)];simp[I1]
  | cons x s ih=>
    intro t p q k hpq hst hl hk;obtain⟨k,rfl⟩:∃ m,k=m + 1:=⟨k - 1,by simp at hk;omega⟩
    cases t with
    |nil=>simp at hst
    | cons y t=>
      have e:rd (q ++ y::t) (p.length:Int)=y:=by rw[hpq];exact rdI q t y
      simp only[dE.l0];rw[if_pos (by simp;omega),if_pos (by omega),if_pos (by simp;omega),if_pos (by rw[hpq];simp;omega),rdI,e,a7C,Option.bind_some,VS,Option.bind_some,UG p x (by simp at hl;omega),List.append_cons p x s,List.append_cons q y t];rw[ih t (p ++ [x]) (q ++ [y]) k (by simp[hpq]) (by simpa using hst) (by simpa using hl) (by simp at hk;omega)];simp only[I1,okP];by_cases h1: -99≤x∧x≤99 <;> by_cases h2:1≤y∧y≤99 <;> simp[h1,h2]
theorem r9 (a:Int) (ls ws:List Int) (k:Nat) (hk:10≤k):eG.f k a ls ws=some (vM a ls ws):=by
  obtain⟨k,rfl⟩:∃ m,k=m + 1:=⟨k - 1,by omega⟩
  unfold eG.f vM;rw[YO,YO,Option.bind_some,Option.bind_some];by_cases h1:1≤a∧a≤24
  · by_cases h2:1≤(ls.length:Int)∧(ls.length:Int)≤8
    · by_cases h3:ws.length=ls.length
      · have h:=aVZ a ls ws [] [] k rfl h3.symm (by simp;omega) (by omega)
        simp only[List.nil_append,List.length_nil]at h;simp only[h1,h2,h3,and_self,decide_true,if_true,eG.j0,bne_self_eq_false,Bool.false_eq_true,if_false,Bool.true_and];exact h
      · have h4:((ws.length:Int) !=(ls.length:Int))=true:=by simp;omega
        simp only[h1,h2,h3,h4,and_self,decide_true,decide_false,if_true,eG.j0,Bool.true_and,Bool.false_and]
    · simp only[h1,h2,and_self,decide_true,decide_false,if_true,eG.j0,Bool.true_and,Bool.false_and,Bool.false_eq_true,if_false]
  · simp only[h1,decide_false,eG.j0,Bool.false_and,Bool.false_eq_true,if_false,if_true]
theorem rP (a:Int) (ls ws:List Int) (k:Nat) (hk:10≤k):dE.f k a ls ws=some (vM a ls ws):=by
  obtain⟨k,rfl⟩:∃ m,k=m + 1:=⟨k - 1,by omega⟩
  unfold dE.f vM;rw[aIH,WU,Option.bind_some,Option.bind_some];by_cases h1:1≤a∧a≤24
  · by_cases h2:1≤(ls.length:Int)∧(ls.length:Int)≤8
    · by_cases h3:ws.length=ls.length
      · have h:=aW0 a ls ws [] [] k rfl h3.symm (by simp;omega) (by omega)
        simp only[List.nil_append,List.length_nil]at h;simp only[h1,h2,h3,and_self,decide_true,if_true,dE.j0,bne_self_eq_false,Bool.false_eq_true,if_false,Bool.true_and];exact h
      · have h4:((ws.length:Int) !=(ls.length:Int))=true:=by simp;omega
        simp only[h1,h2,h3,h4,and_self,decide_true,decide_false,if_true,dE.j0,Bool.true_and,Bool.false_and]
    · simp only[h1,h2,and_self,decide_true,decide_false,if_true,dE.j0,Bool.true_and,Bool.false_and,Bool.false_eq_true,if_false]
  · simp only[h1,decide_false,dE.j0,Bool.false_and,Bool.false_eq_true,if_false,if_true]
structure LW (a:Int) (ls ws:List Int):Prop where
  wide:1≤a∧a≤24
  len:1≤ls.length∧ls.length≤8
  same:ws.length=ls.length
  all:I1 ls ws=true
theorem GN {a:Int} {ls ws:List Int} (h:vM a ls ws=true):LW a ls ws:=by
  simp only[vM,Bool.and_eq_true,decide_eq_true_eq]at h;exact⟨h.1,by omega,h.2.2.1,h.2.2.2⟩
theorem a4J {a:Int} {ls ws:List Int} (h:LW a ls ws):vM a ls ws=true:=by
  simp only[vM,Bool.and_eq_true,decide_eq_true_eq];exact⟨h.wide,by have:=h.len;omega,h.same,h.all⟩
def I4 (a:Int) (ls ws:List Int):Int × List Int × List Int × Bool:=if vM a ls ws then(a,ls,ws,true)else(0,[],[],false)
theorem aII (a:Int) (ls ws:List Int):(I4 a ls ws).2.1.length≤100∧(I4 a ls ws).2.2.1.length≤100:=by
  unfold I4;by_cases h:vM a ls ws=true
  · have ok:=GN h
    have o1:=ok.len;have o2:=ok.same;rw[if_pos h];simp only;omega
  · rw[if_neg h]
    simp
theorem aW1 (a:Int) (ls ws:List Int) (k:Nat) (hk:10≤k):KN.f k a ls ws=some (I4 a ls ws):=by
  unfold KN.f I4;rw[r9 a ls ws k hk,Option.bind_some];by_cases h:vM a ls ws=true <;> simp[h]
theorem a7D (a:Int) (ls ws:List Int) (k:Nat) (hk:10≤k):zZ.f k a ls ws=some (I4 a ls ws):=by
  unfold zZ.f I4;rw[rP a ls ws k hk,Option.bind_some];by_cases h:vM a ls ws=true <;> simp[h]
theorem a08 (l:List Int) (h:l.length < 17592186044416):fK.f l=some l:=by
  unfold fK.f;rw[Option.bind_some,if_pos (by simpa using h)];rfl
theorem aIN (d a:Int) (t:List Int):∀ (s p:List Int) (k:Nat),(p ++ s).length < 1048577→s.length < k→
    fQ.l0 k d (p ++ s) ((p ++ s).length:Int) (p.length:Int) a (p.map (fun x=>wrap64 (x + d))) t=some (a,(p ++ s).map (fun x=>wrap64 (x + d)),t):=by
  intro s
  induction s with
  | nil=>
    intro p k hl hk;obtain⟨k,rfl⟩:∃ m,k=m + 1:=⟨k - 1,by simp at hk;omega⟩
    simp only[fQ.l0];rw[if_neg (by simp)];simp
  | cons x s ih=>
    intro p k hl hk;obtain⟨k,rfl⟩:∃ m,k=m + 1:=⟨k - 1,by simp at hk;omega⟩
    simp only[fQ.l0];rw[if_pos (by simp;omega),if_pos (by omega),if_pos (by simp;omega),if_pos (by simp at hl ⊢;omega),rdI,UG p x (by simp at hl;omega),List.append_cons p x s];have e:=ih (p ++ [x]) k (by simpa using hl) (by simp at hk;omega);rw[List.map_append]at e;exact e
theorem JP (d a:Int) (s t:List Int) (k:Nat) (h1:s.length < 1048577) (h2:t.length < 1048577) (hk:s.length < k):fQ.f k a s t d=some (a,s.map (fun x=>wrap64 (x + d)),t):=by
  unfold fQ.f;rw[a08 t (by omega),Option.bind_some];exact aIN d a t s [] k h1 hk
theorem a09 (l:List Int) (h:l.length < 17592186044416):mQ.f l=some l:=by
  unfold mQ.f;rw[Option.bind_some,if_pos (by simpa using h)];rfl
theorem aTE (d a:Int) (t:List Int):∀ (s p:List Int) (k:Nat),(p ++ s).length < 1048577→s.length < k→
    iC.l0 k d (p.length:Int) a (p ++ s) t a (p.map (fun x=>wrap64 (x + d))) t=some (a,(p ++ s).map (fun x=>wrap64 (x + d)),t):=by
  intro s
  induction s with
  | nil=>
    intro p k hl hk;obtain⟨k,rfl⟩:∃ m,k=m + 1:=⟨k - 1,by simp at hk;omega⟩
    simp only[iC.l0];rw[if_neg (by simp)];simp
  | cons x s ih=>
    intro p k hl hk;obtain⟨k,rfl⟩:∃ m,k=m + 1:=⟨k - 1,by simp at hk;omega⟩
    simp only[iC.l0];rw[if_pos (by simp;omega),if_pos (by omega),if_pos (by simp at hl ⊢;omega),rdI,UG p x (by simp at hl;omega),List.append_cons p x s];have e:=ih (p ++ [x]) k (by simpa using hl) (by simp at hk;omega);rw[List.map_append]at e;exact e
theorem a4K (d a:Int) (s t:List Int) (k:Nat) (h1:s.length < 1048577) (h2:t.length < 1048577) (hk:s.length < k):iC.f k a s t d=some (a,s.map (fun x=>wrap64 (x + d)),t):=by
  unfold iC.f;rw[a09 t (by omega),Option.bind_some];exact aTE d a t s [] k h1 hk
theorem aW2:∀ (i:Nat) (s t:List Int),s.length=t.length→I1 s t=true→I1 (s.drop i) (t.drop i)=true:=by
  intro i
  induction i with
  |zero=>intro s t _ h;simpa using h
  | succ i ih=>
    intro s t hst h;cases s with
    |nil=>simp[I1]
    | cons x s=>
      cases t with
      |nil=>simp at hst
      | cons y t=>
        simp only[I1,Bool.and_eq_true]at h
        simpa using ih s t (by simpa using hst) h.2
theorem YP:∀ (i:Nat) (s t:List Int),s.length=t.length→I1 s t=true→i < s.length→ -99≤rd s i∧rd s i≤99:=by
  intro i
  induction i with
  | zero=>
    intro s t hst h hi;cases s with
    |nil=>simp at hi
    | cons x s=>
      cases t with
      |nil=>simp at hst
      | cons y t=>
        simp only[I1,okP,Bool.and_eq_true,decide_eq_true_eq]at h
        simpa [rd] using h.1.1
  | succ i ih=>
    intro s t hst h hi;cases s with
    |nil=>simp at hi
    | cons x s=>
      cases t with
      |nil=>simp at hst
      | cons y t=>
        simp only[I1,Bool.and_eq_true]at h;have:=ih s t (by simpa using hst) h.2 (by simpa using hi)
        simpa [rd] using this
theorem b4E (x y:Int):wrap64 (x + 18446744073709551616 * y)=wrap64 x:=by
  unfold wrap64;omega
theorem b4F (a:Int):∃ q,wrap64 a=a + 18446744073709551616 * q:=⟨-((a + 9223372036854775808) / 18446744073709551616),by unfold wrap64;omega⟩
theorem VH (a b:Int):wrap64 (wrap64 a + b)=wrap64 (a + b):=by
  obtain⟨q,h⟩:=b4F a;rw[h,show a + 18446744073709551616 * q + b=(a + b) + 18446744073709551616 * q from by omega,b4E]
theorem aGR (a b:Int):wrap64 (a + wrap64 b)=wrap64 (a + b):=by rw[Int.add_comm,VH,Int.add_comm]
theorem b5X (a b:Int):wrap64 (wrap64 a * b)=wrap64 (a * b):=by
  obtain⟨q,h⟩:=b4F a;rw[h,Int.add_mul,Int.mul_assoc,b4E]
theorem aPY (a b:Int):wrap64 (a * wrap64 b)=wrap64 (a * b):=by rw[Int.mul_comm,b5X,Int.mul_comm]
theorem a1Z:wrap64 0=0:=by simp[wrap64]
def US (a:Int):List Int→List Int→Int
  |l::ls,w::ws=>w * (2 * l + a) + US a ls ws
  |_,_=>0
def UW:List Int→Int
  |[]=>0
  |w::ws=>w + UW ws
theorem aEE (a:Int):∀ (s t p q:List Int) (A B:Int) (k:Nat),p.length=q.length→s.length=t.length→(p ++ s).length < 4611686018427387904→s.length < k→
    mD.l0 k (wrap64 A) (wrap64 B) (p.length:Int) a (p ++ s) (q ++ t)=some (wrap64 (A + US a s t),wrap64 (B + UW t)):=by
  intro s
  induction s with
  | nil=>
    intro t p q A B k hpq hst hl hk;obtain⟨k,rfl⟩:∃ m,k=m + 1:=⟨k - 1,by simp at hk;omega⟩
    have:t=[]:=List.eq_nil_of_length_eq_zero (by simpa using hst.symm);subst this;simp only[mD.l0];rw[if_neg (by simp)];simp[US,UW]
  | cons x s ih=>
    intro t p q A B k hpq hst hl hk;obtain⟨k,rfl⟩:∃ m,k=m + 1:=⟨k - 1,by simp at hk;omega⟩
    cases t with
    |nil=>simp at hst
    | cons y t=>
      have e:rd (q ++ y::t) (p.length:Int)=y:=by rw[hpq];exact rdI q t y
      simp only[mD.l0];rw[if_pos (by simp;omega),if_pos (by omega),if_pos (by rw[hpq];simp;omega),rdI,e,UG p x (by simp at hl;omega),List.append_cons p x s,List.append_cons q y t,VH (2 * x),aPY,VH,aGR,VH];rw[ih t (p ++ [x]) (q ++ [y]) _ _ k (by simp[hpq]) (by simpa using hst) (by simpa using hl) (by simp at hk;omega)];simp only[US,UW,Int.add_assoc]
theorem VI (a:Int):∀ (s t p q:List Int) (A B:Int) (k:Nat),p.length=q.length→s.length=t.length→(p ++ s).length < 4611686018427387904→s.length < k→
    jZ.l0 k (wrap64 A) (wrap64 B) (p.length:Int) a (p ++ s) (q ++ t)=some (wrap64 (A + US a s t),wrap64 (B + 2 * UW t)):=by
  intro s
  induction s with
  | nil=>
    intro t p q A B k hpq hst hl hk;obtain⟨k,rfl⟩:∃ m,k=m + 1:=⟨k - 1,by simp at hk;omega⟩
    have:t=[]:=List.eq_nil_of_length_eq_zero (by simpa using hst.symm);subst this;simp only[jZ.l0];rw[if_neg (by simp)];simp[US,UW]
  | cons x s ih=>
    intro t p q A B k hpq hst hl hk;obtain⟨k,rfl⟩:∃ m,k=m + 1:=⟨k - 1,by simp at hk;omega⟩
    cases t with
    |nil=>simp at hst
    | cons y t=>
      have e:rd (q ++ y::t) (p.length:Int)=y:=by rw[hpq];exact rdI q t y
      simp only[jZ.l0];rw[if_pos (by simp;omega),if_pos (by omega),if_pos (by rw[hpq];simp;omega),rdI,e,UG p x (by simp at hl;omega),List.append_cons p x s,List.append_cons q y t,VH (2 * x),aPY,VH,aGR,VH,aGR];rw[ih t (p ++ [x]) (q ++ [y]) _ _ k (by simp[hpq]) (by simpa using hst) (by simpa using hl) (by simp at hk;omega)];simp only[US,UW,Int.add_assoc,Int.mul_add]
theorem aZT (a:Int) (ha:1≤a∧a≤24):∀ (s t:List Int),s.length=t.length→I1 s t=true→
    -21978 * (s.length:Int)≤US a s t∧US a s t≤21978 * (s.length:Int)∧(s.length:Int)≤UW t∧UW t≤99 * (s.length:Int):=by
  intro s
  induction s with
  | nil=>
    intro t ht _;have:t=[]:=List.eq_nil_of_length_eq_zero (by simpa using ht.symm);subst this;simp[US,UW]
  | cons x s ih=>
    intro t ht h;cases t with
    |nil=>simp at ht
    | cons y t=>
      simp only[I1,okP,Bool.and_eq_true,decide_eq_true_eq]at h;have:=ih t (by simpa using ht) h.2;have m1:y * (2 * x + a)≤y * 222:=Int.mul_le_mul_of_nonneg_left (by omega) (by omega);have m2:y * (-222)≤y * (2 * x + a):=Int.mul_le_mul_of_nonneg_left (by omega) (by omega);simp only[US,UW,List.length_cons,Int.natCast_add,Int.natCast_one];omega
def uS (a:Int) (ls ws:List Int) (i:Nat):Int:=US a (ls.drop i) (ws.drop i)
def uW (ws:List Int) (i:Nat):Int:=UW (ws.drop i)
theorem a9T {a:Int} {ls ws:List Int} (h:LW a ls ws) (i:Nat) (hi:i < ls.length): -175824≤uS a ls ws i∧uS a ls ws i≤175824∧1≤uW ws i∧uW ws i≤792:=by
  have h1:=h.len;have h2:=h.same;have b:=aZT a h.wide (ls.drop i) (ws.drop i) (by simp;omega) (aW2 i ls ws h.same.symm h.all);simp only[List.length_drop]at b;unfold uS uW;omega
theorem aTF {a:Int} {ls ws:List Int} (h:LW a ls ws) (i:Nat) (hi:i < ls.length) (k:Nat) (hk:10≤k):mD.f k a ls ws (i:Int)=some (uS a ls ws i,uW ws i):=by
  have h1:=h.len;have h2:=h.same;have b:=a9T h i hi;have e:=aEE a (ls.drop i) (ws.drop i) (ls.take i) (ws.take i) 0 0 k (by simp;omega) (by simp;omega) (by simp;omega) (by simp;omega);rw[List.take_append_drop,List.take_append_drop,a1Z,show(ls.take i).length=i from by simp;omega,Int.zero_add,Int.zero_add]at e;unfold mD.f;rw[e];unfold uS uW at b ⊢;rw[fE (by omega) (by omega),fE (by omega) (by omega)]
theorem aGS {a:Int} {ls ws:List Int} (h:LW a ls ws) (i:Nat) (hi:i < ls.length) (k:Nat) (hk:10≤k):jZ.f k a ls ws (i:Int)=some (uS a ls ws i,2 * uW ws i):=by
  have h1:=h.len;have h2:=h.same;have b:=a9T h i hi;have e:=VI a (ls.drop i) (ws.drop i) (ls.take i) (ws.take i) 0 0 k (by simp;omega) (by simp;omega) (by simp;omega) (by simp;omega);rw[List.take_append_drop,List.take_append_drop,a1Z,show(ls.take i).length=i from by simp;omega,Int.zero_add,Int.zero_add]at e;unfold jZ.f;rw[e];unfold uS uW at b ⊢;rw[fE (by omega) (by omega),fE (by omega) (by omega)]
def cL (ls:List Int) (i:Nat):Int:=if i=0 then rd ls 0 else mx (rd ls i) (rd ls ((i:Int) - 1))
def cH (a:Int) (ls:List Int) (i:Nat):Int:=if i=0 then mn (rd ls 0 + a) 0 else mn (rd ls i) (rd ls ((i:Int) - 1)) + a
theorem aPZ {a:Int} {ls ws:List Int} (h:LW a ls ws) (i:Nat) (hi:i < ls.length): -99≤cL ls i∧cL ls i≤99∧ -99≤cH a ls i∧cH a ls i≤123:=by
  have hw:=h.wide;have r1:=YP i ls ws h.same.symm h.all hi;unfold cL cH;by_cases h0:i=0
  · subst h0
    simp only[if_true,Int.natCast_zero]at *;unfold mn
    split <;> omega
  · have r2:=YP (i - 1) ls ws h.same.symm h.all (by omega)
    rw[show(((i - 1:Nat)):Int)=(i:Int) - 1 from by omega]at r2;rw[if_neg h0,if_neg h0];unfold mx mn;(repeat' split) <;> omega
theorem aNK {a:Int} {ls ws:List Int} (h:LW a ls ws) (i:Nat) (hi:i < ls.length):AJ.f a ls ws (i:Int)=some (cL ls i,cH a ls i):=by
  have hw:=h.wide;have h1:=h.len;have r1:=YP i ls ws h.same.symm h.all hi;unfold AJ.f cL cH;rw[if_pos (by omega),if_pos (by omega)];by_cases h0:i=0
  · subst h0
    simp only[if_true,Int.natCast_zero]at *;rw[fE (x:=rd ls 0 + a) (by omega) (by omega)];unfold nV.f mn;(repeat' split) <;> first|rfl|omega|(simp;omega)
  · have r2:=YP (i - 1) ls ws h.same.symm h.all (by omega)
    rw[show(((i - 1:Nat)):Int)=(i:Int) - 1 from by omega]at r2;rw[if_neg (by omega),fE (x:=(i:Int) - 1) (by omega) (by omega),if_pos (by omega),if_pos (by omega),fE (x:=rd ls i + a) (by omega) (by omega),fE (x:=rd ls ((i:Int) - 1) + a) (by omega) (by omega),if_neg h0,if_neg h0];unfold nV.f lV.f mx mn;(repeat' split) <;> first|rfl|omega|(simp;omega)
theorem aEF {a:Int} {ls ws:List Int} (h:LW a ls ws) (i:Nat) (hi:i < ls.length):uQ.f a ls ws (i:Int)=some (cL ls i,cH a ls i):=by
  have hw:=h.wide;have h1:=h.len;have r1:=YP i ls ws h.same.symm h.all hi;unfold uQ.f cL cH;by_cases h0:i=0
  · subst h0
    simp only[if_true,Int.natCast_zero]at *;rw[if_pos (by omega),fE (x:=rd ls 0 + a) (by omega) (by omega)]
  · have r2:=YP (i - 1) ls ws h.same.symm h.all (by omega)
    rw[show(((i - 1:Nat)):Int)=(i:Int) - 1 from by omega]at r2;have m: -99≤mn (rd ls i) (rd ls ((i:Int) - 1))∧mn (rd ls i) (rd ls ((i:Int) - 1))≤99:=by
      unfold mn
      split <;> omega
    rw[if_neg (by omega),if_pos (by omega),if_pos (by omega),fE (x:=(i:Int) - 1) (by omega) (by omega),if_pos (by omega),if_pos (by omega),fE (x:=mn (rd ls i) (rd ls ((i:Int) - 1)) + a) (by omega) (by omega),if_neg h0,if_neg h0]
def AV (a:Int) (ls ws:List Int) (i:Nat):Bool:=decide (cL ls i * (2 * uW ws i)≤uS a ls ws i) && decide (uS a ls ws i≤cH a ls i * (2 * uW ws i))
theorem prod_bound {c w:Int} (hc: -99≤c∧c≤123) (hw:1≤w∧w≤792): -156816≤c * (2 * w)∧c * (2 * w)≤194832:=by
  have m1:c * (2 * w)≤123 * (2 * w):=Int.mul_le_mul_of_nonneg_right hc.2 (by omega);have m2: -99 * (2 * w)≤c * (2 * w):=Int.mul_le_mul_of_nonneg_right hc.1 (by omega);omega
theorem aIO {a:Int} {ls ws:List Int} (h:LW a ls ws) (i:Nat) (hi:i < ls.length) (k:Nat) (hk:10≤k):impl_Pile_holds.f k a ls ws (i:Int)=some (AV a ls ws i):=by
  have b:=a9T h i hi;have c:=aPZ h i hi;have p1:=prod_bound (c:=cL ls i) (w:=uW ws i) (by omega) (by omega);have p2:=prod_bound (c:=cH a ls i) (w:=uW ws i) (by omega) (by omega);unfold impl_Pile_holds.f;rw[aEF h i hi,aGS h i hi k hk];simp only[Option.bind_some];rw[fE (x:=cL ls i * (2 * uW ws i)) (by omega) (by omega),fE (x:=cH a ls i * (2 * uW ws i)) (by omega) (by omega)];unfold AV;by_cases h1:cL ls i * (2 * uW ws i)≤uS a ls ws i <;> simp[h1]
theorem aTG {a:Int} {ls ws:List Int} (h:LW a ls ws) (i:Nat) (hi:i < ls.length) (k:Nat) (hk:10≤k):IR.f k a ls ws (i:Int)=some (AV a ls ws i):=by
  have b:=a9T h i hi;have c:=aPZ h i hi;have p1:=prod_bound (c:=cL ls i) (w:=uW ws i) (by omega) (by omega);have p2:=prod_bound (c:=cH a ls i) (w:=uW ws i) (by omega) (by omega);unfold IR.f;rw[aNK h i hi,aTF h i hi k hk];simp only[Option.bind_some];rw[fE (x:=2 * uW ws i) (by omega) (by omega),Int.mul_comm (2 * uW ws i) (cL ls i),Int.mul_comm (2 * uW ws i) (cH a ls i),fE (x:=cL ls i * (2 * uW ws i)) (by omega) (by omega),fE (x:=cH a ls i * (2 * uW ws i)) (by omega) (by omega)];unfold AV;by_cases h1:cL ls i≤cH a ls i
  · rw[if_pos h1]
    by_cases h2:cL ls i * (2 * uW ws i)≤uS a ls ws i <;> simp[h2]
  · rw[if_neg h1]
    have m:cH a ls i * (2 * uW ws i) < cL ls i * (2 * uW ws i):=Int.mul_lt_mul_of_pos_right (by omega) (by omega);by_cases h2:cL ls i * (2 * uW ws i)≤uS a ls ws i
    · have h3:¬ uS a ls ws i≤cH a ls i * (2 * uW ws i):=by omega
      simp[h2,h3]
    · simp[h2]
def CL (a:Int) (ls ws:List Int):Nat→Int
  |0=>-1
  |i + 1=>if AV a ls ws i then CL a ls ws i else(i:Int)
theorem aTH {a:Int} {ls ws:List Int} (h:LW a ls ws):∀ (i k:Nat),i≤ls.length→i + 12≤k→nD.l0 k ((i:Int) - 1) a ls ws=some (CL a ls ws i):=by
  have h1:=h.len;intro i
  induction i with
  | zero=>
    intro k hi hk;obtain⟨k,rfl⟩:∃ m,k=m + 1:=⟨k - 1,by omega⟩
    simp only[nD.l0];rw[if_neg (by omega)];rfl
  | succ i ih=>
    intro k hi hk;obtain⟨k,rfl⟩:∃ m,k=m + 1:=⟨k - 1,by omega⟩
    simp only[nD.l0,CL];rw[if_pos (by omega),show((i + 1:Nat):Int) - 1=(i:Int)from by omega,aTG h i (by omega) k (by omega),Option.bind_some,fE (x:=(i:Int) - 1) (by omega) (by omega),ih k (by omega) (by omega)];by_cases hh:AV a ls ws i=true <;> simp[hh]
theorem a4L {a:Int} {ls ws:List Int} (h:LW a ls ws) (k:Nat) (hk:20≤k):nD.f k a ls ws=some (CL a ls ws ls.length):=by
  have h1:=h.len;unfold nD.f;rw[fE (x:=(ls.length:Int) - 1) (by omega) (by omega)];exact aTH h ls.length k (Nat.le_refl _) (by omega)
theorem aEG {a:Int} {ls ws:List Int} (h:LW a ls ws):∀ (i k:Nat),i≤ls.length→i + 12≤k→dQ.l0 k ((i:Int) - 1) a ls ws=some (CL a ls ws i):=by
  have h1:=h.len;intro i
  induction i with
  | zero=>
    intro k hi hk;obtain⟨k,rfl⟩:∃ m,k=m + 1:=⟨k - 1,by omega⟩
    simp only[dQ.l0];rw[if_neg (by omega)];rfl
  | succ i ih=>
    intro k hi hk;obtain⟨k,rfl⟩:∃ m,k=m + 1:=⟨k - 1,by omega⟩
    simp only[dQ.l0,CL];rw[if_pos (by omega),show((i + 1:Nat):Int) - 1=(i:Int)from by omega,aIO h i (by omega) k (by omega),Option.bind_some,fE (x:=(i:Int) - 1) (by omega) (by omega),ih k (by omega) (by omega)];by_cases hh:AV a ls ws i=true <;> simp[hh]
theorem O4 {a:Int} {ls ws:List Int} (h:LW a ls ws) (k:Nat) (hk:20≤k):dQ.f k a ls ws=some (CL a ls ws ls.length):=by
  have h1:=h.len;unfold dQ.f;rw[fE (x:=(ls.length:Int) - 1) (by omega) (by omega)];exact aEG h ls.length k (Nat.le_refl _) (by omega)
theorem IC (a:Int) (s t:List Int) (l w:Int) (h1:s.length < 1048577) (h2:t.length < 1048577):oZ.f a s t l w=some (a,s ++ [l],t ++ [w]):=by
  unfold oZ.f;rw[a09 s (by omega),Option.bind_some,Option.bind_some,if_pos (by simp;omega),a09 t (by omega),Option.bind_some,Option.bind_some,if_pos (by simp;omega)]
theorem EW (a:Int) (s t:List Int) (l w:Int) (h1:s.length < 1048577) (h2:t.length < 1048577):lC.f a s t l w=some (a,s ++ [l],t ++ [w]):=by
  unfold lC.f;rw[a08 s (by omega),Option.bind_some,Option.bind_some,if_pos (by simp;omega),a08 t (by omega),Option.bind_some,Option.bind_some,if_pos (by simp;omega)]
theorem aGT (a b:Int) (h:1≤b) (hb:b≤1000) (h1: -1000000≤a) (h2:a≤1000000):zU.f a b=some (a / b):=by
  unfold zU.f;by_cases h0:a < 0
  · rw[if_pos h0,if_neg (by omega),fE (x:=-a) (by omega) (by omega),fE (x:=-a + b) (by omega) (by omega),fE (x:=-a + b - 1) (by omega) (by omega),Int.tdiv_eq_ediv_of_nonneg (by omega)]
    have q1:0≤(-a + b - 1) / b:=Int.ediv_nonneg (by omega) (by omega);have q2:(-a + b - 1) / b≤ -a + b - 1:=Int.ediv_le_self _ (by omega);rw[fE (x:=(-a + b - 1) / b) (by omega) (by omega),fE (by omega) (by omega)];congr 1;have e1:=Int.mul_ediv_add_emod (-a + b - 1) b;have e2:=Int.emod_nonneg (-a + b - 1) (show b ≠ 0 by omega);have e3:=Int.emod_lt_of_pos (-a + b - 1) (show 0 < b by omega);symm;have e4:b * (-((-a + b - 1) / b))= -(b * ((-a + b - 1) / b)):=by rw[Int.mul_neg]
    have hd:a / b= -((-a + b - 1) / b):=by
      refine(Int.ediv_eq_iff_of_pos (show 0 < b by omega)).mpr ⟨?_,?_⟩
      · rw[Int.mul_comm,e4];omega
      · rw[Int.mul_comm,e4];omega
    exact hd
  · rw[if_neg h0,if_neg (by omega),Int.tdiv_eq_ediv_of_nonneg (by omega)]
    have q1:0≤a / b:=Int.ediv_nonneg (by omega) (by omega);have q2:a / b≤a:=Int.ediv_le_self _ (by omega);rw[fE (by omega) (by omega)]
theorem XU (a n:Int):sH.f a n=some (decide (1≤a∧a≤24) && decide (1≤n∧n≤8)):=by
  unfold sH.f;rw[YO,Option.bind_some,YO,Option.bind_some];cases decide (1≤a∧a≤24) <;> simp
theorem SX (a n:Int):sS.f a n=some (decide (1≤a∧a≤24) && decide (1≤n∧n≤8)):=by
  unfold sS.f;rw[aIH,Option.bind_some,WU,Option.bind_some];cases decide (1≤a∧a≤24) <;> simp
def ones (n:Nat):List Int:=List.replicate n 1
theorem a9U (n:Nat):UW (ones n)=n:=by
  unfold ones
  induction n with
  |zero=>rfl
  | succ n ih=>
    rw[List.replicate_succ];simp only[UW,ih];omega
theorem bAV (a d:Int):∀ (ls:List Int),US a (ls.map (· + d)) (ones ls.length)=US a ls (ones ls.length) + 2 * (ls.length:Int) * d:=by
  intro ls
  induction ls with
  |nil=>simp[US,ones]
  | cons x ls ih=>
    simp only[ones,List.length_cons,List.replicate_succ,List.map_cons,US]at ih ⊢;rw[ih];have e:(2 * ((ls.length + 1:Nat):Int)) * d=2 * (ls.length:Int) * d + 2 * d:=by
      rw[show(2 * ((ls.length + 1:Nat):Int))=2 * (ls.length:Int) + 2 from by omega,Int.add_mul]
    rw[e];omega
theorem aIJ (n:Nat):ones n ++ [1]=ones (n + 1):=by
  unfold ones;rw[List.replicate_succ']
theorem YQ (x:Int) (l:List Int):rd (x::l) 0=x:=rfl
theorem aW3 (x y:Int) (l:List Int):rd (x::y::l) 1=y:=rfl
def SS (a:Int) (ls:List Int):Int:=US a ls (ones ls.length)
structure Ed (a x:Int) (l:List Int):Prop where
  wide:1≤a∧a≤24
  len:l.length + 1≤8
  lo:2 * ((l.length:Int) + 1) * x≤SS a (x::l)
  hi:SS a (x::l)≤2 * ((l.length:Int) + 1) * (x + a)
  low: -24 * ((l.length:Int) + 1)≤x∧x≤0
  each:∀ y ∈ x::l,-200≤y∧y≤200
theorem mulN {n:Int} {x:Int} (hn:1≤n) (hn8:n≤8) (hx: -400≤x) (hy:x≤400): -6400≤2 * n * x∧2 * n * x≤6400:=by
  have:n=1∨n=2∨n=3∨n=4∨n=5∨n=6∨n=7∨n=8:=by omega
  rcases this with rfl|rfl|rfl|rfl|rfl|rfl|rfl|rfl <;> omega
theorem Ed.bound {a x:Int} {l:List Int} (h:Ed a x l): -6400≤SS a (x::l)∧SS a (x::l)≤6400:=by
  have h1:=h.wide;have h2:=h.len;have h3:=h.low;have h4:=h.lo;have h5:=h.hi;have b1:=mulN (n:=(l.length:Int) + 1) (x:=x) (by omega) (by omega) (by omega) (by omega);have b2:=mulN (n:=(l.length:Int) + 1) (x:=x + a) (by omega) (by omega) (by omega) (by omega);omega
def nx (a x:Int) (l:List Int):Int:=-(-(SS a (x::l)) / (2 * ((l.length:Int) + 1))) - a
theorem a2A {s n q:Int} (hn:0 < n):q≤ -s / n ↔ n * q≤ -s:=by rw[Int.le_ediv_iff_mul_le hn,Int.mul_comm]
theorem a2B {a x:Int} {l:List Int} (y:Int):nx a x l≤y ↔ SS a (x::l)≤2 * ((l.length:Int) + 1) * (y + a):=by
  have hn:0 < 2 * ((l.length:Int) + 1):=by omega
  have:=a2A (s:=SS a (x::l)) (q:=-(y + a)) hn;rw[Int.mul_neg]at this;unfold nx;omega
theorem aEH {a x:Int} {l:List Int} (h:Ed a x l):nx a x l≤x:=(a2B x).mpr h.hi
theorem aTI {a x:Int} {l:List Int} (h:Ed a x l):x - a≤nx a x l:=by
  have h1:=(a2B (a:=a) (x:=x) (l:=l) (nx a x l)).mp (Int.le_refl _);have h2:=h.lo;have hn:0 < 2 * ((l.length:Int) + 1):=by omega
  have:=Int.le_of_mul_le_mul_left (Int.le_trans h2 h1) hn;omega
theorem bAW {a x:Int} {l:List Int} (h:Ed a x l):2 * ((l.length:Int) + 1) * nx a x l≤SS a (x::l):=by
  have hn:0 < 2 * ((l.length:Int) + 1):=by omega
  have hw:=h.wide;by_cases hc:SS a (x::l)≤2 * ((l.length:Int) + 1) * ((nx a x l - 1) + a)
  · have:=(a2B (a:=a) (x:=x) (l:=l) (nx a x l - 1)).mpr hc
    omega
  · have:2 * ((l.length:Int) + 1) * nx a x l≤2 * ((l.length:Int) + 1) * ((nx a x l - 1) + a):=Int.mul_le_mul_of_nonneg_left (by omega) (by omega)
    omega
theorem aGU (a y:Int) (l:List Int):SS a (y::l)=(2 * y + a) + SS a l:=by
  unfold SS ones;rw[List.length_cons,List.replicate_succ];simp only[US];omega
theorem Ed.next {a x:Int} {l:List Int} (h:Ed a x l) (h7:l.length + 2≤8):Ed a (nx a x l) (x::l):=by
  have g1:=aEH h;have g2:=aTI h;have g3:=bAW h;have g4:=(a2B (a:=a) (x:=x) (l:=l) (nx a x l)).mp (Int.le_refl _);have hw:=h.wide;have hl:=h.low;refine⟨hw,by simpa using h7,?_,?_,?_,?_⟩
  · rw[aGU,List.length_cons]
    have e:2 * (((l.length + 1:Nat):Int) + 1) * nx a x l=2 * ((l.length:Int) + 1) * nx a x l + 2 * nx a x l:=by
      rw[show 2 * (((l.length + 1:Nat):Int) + 1)=2 * ((l.length:Int) + 1) + 2 from by omega,Int.add_mul]
    omega
  · rw[aGU,List.length_cons]
    have e:2 * (((l.length + 1:Nat):Int) + 1) * (nx a x l + a)=2 * ((l.length:Int) + 1) * (nx a x l + a) + 2 * (nx a x l + a):=by
      rw[show 2 * (((l.length + 1:Nat):Int) + 1)=2 * ((l.length:Int) + 1) + 2 from by omega,Int.add_mul]
    omega
  · rw[List.length_cons]
    omega
  · intro y hy
    rcases List.mem_cons.mp hy with rfl|hy
    · omega
    · exact h.each y hy
theorem aW4 {a x:Int} {l:List Int} (h:Ed a x l) (k:Nat) (hk:10≤k):mD.f k a (x::l) (ones (l.length + 1)) 0=some (SS a (x::l),(l.length:Int) + 1):=by
  have h2:=h.len;have b:=h.bound;have e:=aEE a (x::l) (ones (l.length + 1)) [] [] 0 0 k rfl (by simp[ones]) (by simp;omega) (by simp;omega);rw[List.nil_append,List.nil_append,a1Z,Int.zero_add,Int.zero_add,a9U,show US a (x::l) (ones (l.length + 1))=SS a (x::l)from rfl]at e;unfold mD.f;simp only[List.length_nil,Int.natCast_zero]at e;rw[e,fE (by omega) (by omega),fE (by omega) (by omega)];simp
theorem b5Y {a x:Int} {l:List Int} (S:Int) (hS:SS a (x::l)=S) (b: -1000000≤S∧S≤1000000) (h2:l.length + 1≤8) (k:Nat) (hk:10≤k):jZ.f k a (x::l) (ones (l.length + 1)) 0=some (S,2 * ((l.length:Int) + 1)):=by
  have e:=VI a (x::l) (ones (l.length + 1)) [] [] 0 0 k rfl (by simp[ones]) (by simp;omega) (by simp;omega);rw[List.nil_append,List.nil_append,a1Z,Int.zero_add,Int.zero_add,a9U,show US a (x::l) (ones (l.length + 1))=S from hS]at e;unfold jZ.f;simp only[List.length_nil,Int.natCast_zero]at e;rw[e,fE (by omega) (by omega),fE (by omega) (by omega)];simp
theorem b5Z {a x:Int} {l:List Int} (y:Int) (h:Ed a x l) (k:Nat) (hk:10≤k):jZ.f k a (y::x::l) (ones (l.length + 2)) 1=some (SS a (x::l),2 * ((l.length:Int) + 1)):=by
  have h2:=h.len;have b:=h.bound;have e:=VI a (x::l) (ones (l.length + 1)) [y] [1] 0 0 k rfl (by simp[ones]) (by simp;omega) (by simp;omega);rw[a1Z,Int.zero_add,Int.zero_add,a9U,show US a (x::l) (ones (l.length + 1))=SS a (x::l)from rfl]at e;unfold jZ.f;rw[show ones (l.length + 2)=[1] ++ ones (l.length + 1)from rfl,show y::x::l=[y] ++ x::l from rfl];simp only[List.length_cons,List.length_nil]at e;refine Eq.trans e ?_;rw[fE (by omega) (by omega),fE (by omega) (by omega)];simp
theorem aW5 {a x:Int} {l:List Int} (y:Int) (h:Ed a x l) (hy:y≤x) (hy2: -400≤y) (k:Nat) (hk:10≤k):impl_Pile_holds.f k a (y::x::l) (ones (l.length + 2)) 1=some (decide (nx a x l≤y)):=by
  have h1:=h.wide;have h2:=h.len;have h3:=h.low;have b1:=mulN (n:=(l.length:Int) + 1) (x:=x) (by omega) (by omega) (by omega) (by omega);have b2:=mulN (n:=(l.length:Int) + 1) (x:=y + a) (by omega) (by omega) (by omega) (by omega);unfold impl_Pile_holds.f uQ.f;rw[if_neg (by omega),if_pos (by omega),if_pos (by simp;omega),show wrap64 (1 - 1)=0 from by simp[wrap64],if_pos (by omega),if_pos (by simp;omega),YQ,aW3,Option.bind_some,b5Z y h k hk,Option.bind_some];have m1:mx x y=x:=by unfold mx;split <;> omega
  have m2:mn x y=y:=by unfold mn;split <;> omega
  simp only[m1,m2];rw[fE (x:=y + a) (by omega) (by omega),Int.mul_comm x,Int.mul_comm (y + a),fE (x:=2 * ((l.length:Int) + 1) * x) (by omega) (by omega),fE (x:=2 * ((l.length:Int) + 1) * (y + a)) (by omega) (by omega),if_pos h.lo];congr 1;exact decide_eq_decide.mpr (a2B y).symm
theorem aQ0 (y:Int) (l:List Int) (h:l.length≤8) (k:Nat) (hk:10≤k):dP.f k [[y],l]=some (y::l):=by
  obtain⟨k,rfl⟩:∃ m,k=m + 6:=⟨k - 6,by omega⟩
  unfold dP.f;have e0:wrap64 (0 + (([y]:List Int).length:Int))=1:=by simp[wrap64]
  have e1:wrap64 (1 + (l.length:Int))=1 + (l.length:Int):=fE (by omega) (by omega);have r0:KR [[y],l] 0=[y]:=rfl;have r1:KR [[y],l] 1=l:=rfl;have s0:wrap64 (0 + 1)=1:=by simp[wrap64]
  have s1:wrap64 (1 + 1)=2:=by simp[wrap64]
  simp only[dP.l0,r0,e0,s0];rw[if_pos (by simp),if_pos (by omega),if_pos (by simp),if_neg (by omega)];rw[if_pos (by simp),if_pos (by omega),if_pos (by simp),r1,e1,if_neg (by omega),s1,if_neg (by simp)];unfold C8.f;rw[if_pos ⟨rfl,by omega,by omega⟩,Option.bind_some];simp only[dP.l1,r0,s0];rw[if_pos (by simp),if_pos (by omega),if_pos (by simp),if_pos (by simp)];rw[if_pos (by simp),if_pos (by omega),if_pos (by simp),r1,if_pos (by simp;omega),s1,if_neg (by simp)];rfl
theorem b60 {a x:Int} {l:List Int} (h:Ed a x l) (h7:l.length + 2≤8) (n:Int):∀ (d:Nat) (k:Nat),(d:Int)≤nx a x l - (x - a)→100≤k→
    dH.l1 (k + d + 1) a n (nx a x l - d) a (x::l) (ones (l.length + 2))=dH.l0 k a n a (nx a x l::x::l) (ones (l.length + 2)):=by
  have g1:=aEH h;have g2:=aTI h;have hw:=h.wide;have hl:=h.low;have h2:=h.len;intro d
  induction d with
  | zero=>
    intro k hd hk;simp only[dH.l1,Int.natCast_zero,Int.sub_zero];rw[aQ0 _ _ (by simp;omega) _ (by omega),Option.bind_some,aW5 _ h g1 (by omega) _ (by omega),Option.bind_some,if_pos (by simp)]
  | succ d ih=>
    intro k hd hk;simp only[dH.l1];rw[aQ0 _ _ (by simp;omega) _ (by omega),Option.bind_some,aW5 _ h (by omega) (by omega) _ (by omega),Option.bind_some,if_neg (by simp;omega),fE (by omega) (by omega),show nx a x l - ((d + 1:Nat):Int) + 1=nx a x l - d from by omega];exact ih k (by omega) hk
theorem aNL (a d:Int) (l:List Int):SS a (l.map (· + d))=SS a l + 2 * (l.length:Int) * d:=by
  unfold SS;rw[List.length_map];exact bAV a d l
theorem holds0 {a x:Int} {l:List Int} (h:Ed a x l) (d:Int) (hd:d≤ -x) (hd2: -x - a - 1≤d) (k:Nat) (hk:10≤k):impl_Pile_holds.f k a ((x::l).map (· + d)) (ones (l.length + 1)) 0=some (decide (d≤ -(SS a (x::l)) / (2 * ((l.length:Int) + 1)))):=by
  have h1:=h.wide;have h2:=h.len;have h3:=h.low;have hb:=h.bound;have hlo:=h.lo;have hhi:=h.hi;have hn:0 < 2 * ((l.length:Int) + 1):=by omega
  have e:=aNL a d (x::l);rw[List.length_cons,show((l.length + 1:Nat):Int)=(l.length:Int) + 1 from by omega]at e;have b0:=mulN (n:=(l.length:Int) + 1) (x:=d) (by omega) (by omega) (by omega) (by omega);have b1:=mulN (n:=(l.length:Int) + 1) (x:=x + d) (by omega) (by omega) (by omega) (by omega);have f1:2 * ((l.length:Int) + 1) * (x + d)=2 * ((l.length:Int) + 1) * x + 2 * ((l.length:Int) + 1) * d:=Int.mul_add _ _ _;have f2:2 * ((l.length:Int) + 1) * (x + d + a)=2 * ((l.length:Int) + 1) * (x + a) + 2 * ((l.length:Int) + 1) * d:=by rw[← Int.mul_add];congr 1;omega
  rw[List.map_cons]at e ⊢;have hc:=b5Y (a:=a) (x:=x + d) (l:=l.map (· + d)) _ e (by omega) (by simpa using h2) k hk;rw[List.length_map]at hc;unfold impl_Pile_holds.f uQ.f;rw[if_pos rfl,if_pos (by simp),YQ,Option.bind_some,hc,Option.bind_some];simp only[];rw[fE (x:=x + d + a) (by omega) (by omega),Int.mul_comm (x + d),Int.mul_comm (mn (x + d + a) 0),fE (x:=2 * ((l.length:Int) + 1) * (x + d)) (by omega) (by omega),if_pos (by omega)];congr 1;have key:=a2A (s:=SS a (x::l)) (q:=d) hn;by_cases hc:x + d + a≤0
  · have m:mn (x + d + a) 0=x + d + a:=by unfold mn;split <;> omega
    have b3:=mulN (n:=(l.length:Int) + 1) (x:=x + d + a) (by omega) (by omega) (by omega) (by omega);rw[m,fE (by omega) (by omega)];refine decide_eq_decide.mpr ⟨fun _=>key.mpr ?_,fun _=>by omega⟩;have:2 * ((l.length:Int) + 1) * (x + d + a)≤2 * ((l.length:Int) + 1) * 0:=Int.mul_le_mul_of_nonneg_left hc (by omega);rw[Int.mul_zero]at this;omega
  · have m:mn (x + d + a) 0=0:=by unfold mn;split <;> omega
    rw[m,Int.mul_zero,a1Z];exact decide_eq_decide.mpr ⟨fun _=>key.mpr (by omega),fun hh=>by have:=key.mp hh;omega⟩
def JA (a x:Int) (l:List Int):Int:=-(SS a (x::l)) / (2 * ((l.length:Int) + 1))
theorem aTJ {a x:Int} {l:List Int} (h:Ed a x l):JA a x l≤ -x:=by
  have hn:0 < 2 * ((l.length:Int) + 1):=by omega
  have h4:=h.lo;have key:=(a2A (s:=SS a (x::l)) (q:=JA a x l) hn).mp (Int.le_refl _);have:2 * ((l.length:Int) + 1) * JA a x l≤2 * ((l.length:Int) + 1) * (-x):=by rw[Int.mul_neg];omega
  exact Int.le_of_mul_le_mul_left this hn
theorem aTK {a x:Int} {l:List Int} (h:Ed a x l): -x - a≤JA a x l:=by
  have hn:0 < 2 * ((l.length:Int) + 1):=by omega
  have h4:=h.hi;refine(a2A (s:=SS a (x::l)) (q:=-x - a) hn).mpr ?_;rw[show -x - a= -(x + a)from by omega,Int.mul_neg];omega
theorem aNM (d:Int):∀ (l:List Int),(∀ y ∈ l,-200≤y∧y≤200)→ -400≤d→d≤400→l.map (fun x=>wrap64 (x + d))=l.map (· + d):=by
  intro l h h1 h2;refine List.map_congr_left fun y hy=>?_
  have:=h y hy;exact fE (by omega) (by omega)
def aNN (a x:Int) (l:List Int):Int × List Int × List Int × Bool:=I4 a ((x::l).map (· + JA a x l)) (ones (l.length + 1))
theorem b61 {a x:Int} {l:List Int} (h:Ed a x l):∀ (d:Nat) (k:Nat),JA a x l + (d:Int)≤ -x→100≤k→
    dH.l2 (k + d + 1) (JA a x l + d) a (x::l) (ones (l.length + 1))=some (aNN a x l):=by
  have g1:=aTJ h;have g2:=aTK h;have hw:=h.wide;have hl:=h.low;have h2:=h.len;intro d
  induction d with
  | zero=>
    intro k hd hk;simp only[dH.l2,Int.natCast_zero,Int.add_zero];rw[JP _ _ _ _ _ (by simp;omega) (by simp[ones];omega) (by simp;omega),Option.bind_some,aNM _ _ h.each (by omega) (by omega),holds0 h _ (by omega) (by omega) _ (by omega),Option.bind_some];rw[if_pos (by simp[JA]),rP _ _ _ _ (by omega),Option.bind_some];unfold aNN I4;simp only[]
    split <;> rfl
  | succ d ih=>
    intro k hd hk;simp only[dH.l2];rw[JP _ _ _ _ _ (by simp;omega) (by simp[ones];omega) (by simp;omega),Option.bind_some,aNM _ _ h.each (by omega) (by omega),holds0 h _ (by omega) (by omega) _ (by omega),Option.bind_some];rw[if_neg (by simp only[decide_eq_true_eq];unfold JA at *;omega),fE (by omega) (by omega),show JA a x l + ((d + 1:Nat):Int) - 1=JA a x l + d from by omega];exact ih k (by omega) hk
theorem b62 {a:Int} (d:Int) (ws:List Int) (hd: -400≤d∧d≤400) (n:Nat) (hn:n≤8):∀ (s p:List Int) (k:Nat),(∀ y ∈ s,-200≤y∧y≤200)→p.length + s.length=n→s.length + 20≤k→
    fG.l1 k (n:Int) d (p.length:Int) a (p ++ s) ws=some (I4 a (p ++ s.map (· + d)) ws):=by
  intro s
  induction s with
  | nil=>
    intro p k _ hp hk;obtain⟨k,rfl⟩:∃ m,k=m + 1:=⟨k - 1,by omega⟩
    simp only[fG.l1,List.length_nil,Nat.add_zero]at hp ⊢;rw[if_neg (by omega),r9 _ _ _ _ (by simp at hk;omega),Option.bind_some];unfold I4;simp only[List.map_nil]
    split <;> rfl
  | cons y s ih=>
    intro p k hs hp hk;obtain⟨k,rfl⟩:∃ m,k=m + 1:=⟨k - 1,by omega⟩
    have hy:=hs y List.mem_cons_self;simp only[List.length_cons]at hp hk;simp only[fG.l1];rw[if_pos (by omega),if_pos (by omega),if_pos (by simp;omega),rdI,UG p (y + d) (by omega),fE (x:=y + d) (by omega) (by omega)];have e:(p ++ y::s).set ((p.length:Int)).toNat (y + d)=(p ++ [y + d]) ++ s:=by
      rw[show((p.length:Int)).toNat=p.length from by omega,List.set_append_right _ _ (Nat.le_refl _),Nat.sub_self];simp
    rw[e,ih (p ++ [y + d]) k (fun z hz=>hs z (List.mem_cons_of_mem _ hz)) (by simp;omega) (by omega)];simp
theorem b63 (a:Int) (n:Nat) (hn:n≤8) (Q:List Int→Prop) (hQ:∀ x l,Ed a x l→Q (x::l)→Q (nx a x l::x::l)):∀ (m:Nat) (x:Int) (l:List Int),Ed a x l→Q (x::l)→l.length + 1 + m=n→∃ r:Int × List Int × List Int × Bool,(r.2.1.length≤100∧r.2.2.1.length≤100∧∃ x' l',Ed a x' l'∧Q (x'::l')∧l'.length + 1=n∧r=aNN a x' l')∧
    ∀ k,200 + 60 * m≤k→fG.l0 k a (n:Int) ((l.length:Int) + 1) a (x::l) (ones (l.length + 1))=some r∧dH.l0 k a (n:Int) a (x::l) (ones (l.length + 1))=some r:=by
  intro m
  induction m with
  | zero=>
    intro x l h hq hm;have g1:=aTJ h;have g2:=aTK h;have hw:=h.wide;have hl:=h.low;have h2:=h.len;have hb:=h.bound;have hr:=aII a ((x::l).map (· + JA a x l)) (ones (l.length + 1));refine⟨aNN a x l,⟨hr.1,hr.2,x,l,h,hq,by omega,rfl⟩,fun k hk=>?_⟩;obtain⟨k,rfl⟩:∃ q,k=q + 1:=⟨k - 1,by omega⟩
    constructor
    · simp only[fG.l0]
      rw[if_neg (by omega),aW4 h k (by omega),Option.bind_some];simp only[];rw[fE (x:=2 * ((l.length:Int) + 1)) (by omega) (by omega),fE (x:=-(SS a (x::l))) (by omega) (by omega),aGT _ _ (by omega) (by omega) (by omega) (by omega),Option.bind_some];have e:=b62 (a:=a) (JA a x l) (ones (l.length + 1)) (by omega) n hn (x::l) [] k h.each (by simp;omega) (by simp;omega);show fG.l1 k (n:Int) (JA a x l) 0 a (x::l) (ones (l.length + 1))=some (I4 a ((x::l).map (· + JA a x l)) (ones (l.length + 1)))
      simpa using e
    · simp only[dH.l0]
      rw[if_neg (by simp;omega),if_pos (by simp),YQ,fE (x:=-x) (by omega) (by omega)];obtain⟨d,hd⟩:=Int.eq_ofNat_of_zero_le (show 0≤ -x - JA a x l by omega);have e:=b61 h d (k - d - 1) (by omega) (by omega);rw[show k - d - 1 + d + 1=k from by omega,show JA a x l + (d:Int)= -x from by omega]at e;exact e
  | succ m ih=>
    intro x l h hq hm;have g1:=aEH h;have g2:=aTI h;have hw:=h.wide;have hl:=h.low;have h2:=h.len;have hb:=h.bound;obtain⟨r,r1,hr⟩:=ih (nx a x l) (x::l) (h.next (by omega)) (hQ x l h hq) (by simp;omega);refine⟨r,r1,fun k hk=>?_⟩;obtain⟨k,rfl⟩:∃ q,k=q + 1:=⟨k - 1,by omega⟩
    simp only[List.length_cons]at hr;constructor
    · simp only[fG.l0]
      rw[if_pos (by omega),aW4 h k (by omega),Option.bind_some];simp only[];rw[fE (x:=2 * ((l.length:Int) + 1)) (by omega) (by omega),fE (x:=-(SS a (x::l))) (by omega) (by omega),aGT _ _ (by omega) (by omega) (by omega) (by omega),Option.bind_some,Option.bind_some];have w1:wrap64 (-(-(SS a (x::l)) / (2 * ((l.length:Int) + 1))))=nx a x l + a:=by
        rw[fE] <;> unfold nx at * <;> omega
      rw[w1,show nx a x l + a - a=nx a x l from by omega,fE (x:=nx a x l) (by omega) (by omega),if_pos (by simp;omega),if_pos (by simp[ones];omega),aIJ,fE (x:=(l.length:Int) + 1 + 1) (by omega) (by omega)];exact(hr k (by omega)).1
    · simp only[dH.l0]
      rw[if_pos (by simp;omega),if_pos (by simp[ones];omega),if_pos (by simp),YQ,aIJ,fE (x:=x - a) (by omega) (by omega)];obtain⟨d,hd⟩:=Int.eq_ofNat_of_zero_le (show 0≤nx a x l - (x - a) by omega);have e:=b60 h (by omega) (n:Int) d (k - d - 1) (by omega) (by omega);rw[show k - d - 1 + d + 1=k from by omega,show nx a x l - (d:Int)=x - a from by omega]at e;refine Eq.trans e ?_;exact(hr (k - d - 1) (by omega)).2
theorem aZU (a:Int) (h:1≤a∧a≤24):Ed a 0 []:=by
  refine⟨h,by simp,?_,?_,by simp,?_⟩
  · simp[SS,US,ones]
    omega
  · simp[SS,US,ones]
    omega
  · intro y hy
    simp at hy;omega
def LR (w k:Int) (l:List mZ) (Pr:Int→Int→Prop):Prop:=(∀ x ∈ l,∃ a v,Pr a v∧x=⟨2 * a + k * w,v + w⟩)∧∀ a v,Pr a v→∃ v',v≤v'∧(⟨2 * a + k * w,v' + w⟩:mZ) ∈ l
theorem LR.congr {w k:Int} {l:List mZ} {Pr Qr:Int→Int→Prop} (h:LR w k l Pr) (he:∀ a v,Pr a v ↔ Qr a v):LR w k l Qr:=
  ⟨(fun x hx=>by obtain⟨a,v,p,e⟩:=h.1 x hx;exact⟨a,v,(he a v).mp p,e⟩),(fun a v q=>h.2 a v ((he a v).mpr q))⟩
theorem a0U (a b:Int):lV.f a b=some (mx a b):=by
  unfold lV.f mx;(repeat' split) <;> (first|rfl|omega|(congr 1;omega))
theorem aTL (a b:Int):nV.f a b=some (mn a b):=by
  unfold nV.f mn;(repeat' split) <;> (first|rfl|omega|(congr 1;omega))
theorem rdT (p s:List mZ) (x:mZ):nA (p ++ x::s) ((p.length:Int))=x:=by
  unfold nA;rw[show((p.length:Int)).toNat=p.length from by omega];simp
def a4M (c e:Int):List mZ→List mZ
  |[]=>[⟨c,e⟩]
  |x::s=>if x.f0=c then⟨x.f0,mx x.f1 e⟩::s else x::a4M c e s
theorem aW6 (c e:Int):∀ (s p:List mZ) (K:Nat),(p ++ s).length < 8796093022208→s.length < K→kP.l0 K (p ++ s) c e (p.length:Int)=some (p ++ a4M c e s):=by
  intro s
  induction s with
  | nil=>
    intro p K hl hk;obtain⟨K,rfl⟩:∃ m,K=m + 1:=⟨K - 1,by simp at hk;omega⟩
    simp only[kP.l0,a4M];rw[if_neg (by simp),if_pos (by simpa using hl),List.append_nil]
  | cons x s ih=>
    intro p K hl hk;obtain⟨K,rfl⟩:∃ m,K=m + 1:=⟨K - 1,by simp at hk;omega⟩
    simp only[kP.l0,a4M];rw[if_pos (by simp;omega),if_pos (by omega),rdT];by_cases h:x.f0=c
    · rw[if_pos h,if_pos h,a0U,Option.bind_some,show((p.length:Int)).toNat=p.length from by omega,List.set_append_right _ _ (Nat.le_refl _),Nat.sub_self]
      rfl
    · rw[if_neg h,if_neg h,UG p x (by simp at hl;omega),List.append_cons p x s,ih (p ++ [x]) K (by simpa using hl) (by simp at hk;omega)]
      simp
theorem aTM (c e:Int):∀ (s:List mZ),(∃ q x r,s=q ++ x::r∧x.f0=c∧a4M c e s=q ++ (⟨x.f0,mx x.f1 e⟩:mZ)::r)∨a4M c e s=s ++ [⟨c,e⟩]:=by
  intro s
  induction s with
  |nil=>exact Or.inr rfl
  | cons x s ih=>
    unfold a4M;by_cases h:x.f0=c
    · rw[if_pos h]
      exact Or.inl ⟨[],x,s,rfl,h,rfl⟩
    · rw[if_neg h]
      rcases ih with⟨q,y,r,e1,e2,e3⟩|e1
      · exact Or.inl ⟨x::q,y,r,by rw[e1];rfl,e2,by rw[e3];rfl⟩
      · exact Or.inr (by rw[e1];rfl)
theorem aW7 {w k:Int} {l:List mZ} {Pr:Int→Int→Prop} (h:LR w k l Pr) (hl:l.length < 8796093022208) (a v:Int):∃ l',(∀ K,l.length < K→kP.f K l (2 * a + k * w) (v + w)=some l')∧l'.length≤l.length + 1∧LR w k l' (fun x y=>Pr x y∨(x=a∧y=v)):=by
  have h2:=aTM (2 * a + k * w) (v + w) l;refine⟨a4M (2 * a + k * w) (v + w) l,fun K hK=>aW6 _ _ l [] K (by simpa using hl) hK,?_⟩;generalize a4M (2 * a + k * w) (v + w) l=l' at h2 ⊢;refine⟨?_,?_⟩
  · rcases h2 with⟨q,x,r,e,_,rfl⟩|rfl
    · rw[e]
      simp
    · simp
  · constructor
    · rcases h2 with⟨q,x,r,e,hx,rfl⟩|rfl
      · intro y hy
        have hin:∀ z,z ∈ q∨z ∈ r→z ∈ l:=fun z hz=>by rw[e];rcases hz with hz|hz <;> simp[hz]
        rcases List.mem_append.mp hy with hy|hy
        · obtain⟨b,u,p,e2⟩:=h.1 y (hin y (Or.inl hy))
          exact⟨b,u,Or.inl p,e2⟩
        · rcases List.mem_cons.mp hy with rfl|hy
          · obtain⟨b,u,p,e2⟩:=h.1 x (by rw[e];simp)
            have hab:b=a:=by
              rw[e2]at hx;have hx':2 * b + k * w=2 * a + k * w:=hx;omega
            subst hab;rw[e2];by_cases hc:u < v
            · refine⟨b,v,Or.inr ⟨rfl,rfl⟩,?_⟩
              have:mx (u + w) (v + w)=v + w:=by unfold mx;split <;> omega
              simp[this]
            · refine⟨b,u,Or.inl p,?_⟩
              have:mx (u + w) (v + w)=u + w:=by unfold mx;split <;> omega
              simp[this]
          · obtain⟨b,u,p,e2⟩:=h.1 y (hin y (Or.inr hy))
            exact⟨b,u,Or.inl p,e2⟩
      · intro y hy
        rcases List.mem_append.mp hy with hy|hy
        · obtain⟨b,u,p,e2⟩:=h.1 y hy
          exact⟨b,u,Or.inl p,e2⟩
        · simp at hy
          exact⟨a,v,Or.inr ⟨rfl,rfl⟩,hy⟩
    · intro b u hp
      rcases h2 with⟨q,x,r,e,hx,rfl⟩|rfl
      · obtain⟨c,z,p,e2⟩:=h.1 x (by rw[e];simp)
        have hca:c=a:=by
          rw[e2]at hx;have hx':2 * c + k * w=2 * a + k * w:=hx;omega
        subst hca;have hnew:(⟨2 * c + k * w,mx z v + w⟩:mZ) ∈ q ++ (⟨x.f0,mx x.f1 (v + w)⟩:mZ)::r:=by
          have:mx (z + w) (v + w)=mx z v + w:=by unfold mx;(repeat' split) <;> omega
          rw[e2];simp[this]
        have m1:z≤mx z v∧v≤mx z v:=by unfold mx;split <;> omega
        rcases hp with hp|⟨rfl,rfl⟩
        · obtain⟨u',hu,hm⟩:=h.2 b u hp
          rw[e]at hm;rcases List.mem_append.mp hm with hm|hm
          · exact⟨u',hu,by simp[hm]⟩
          · rcases List.mem_cons.mp hm with hm|hm
            · have hbc:b=c∧u'=z:=by
                rw[e2]at hm;have:=mZ.mk.inj hm;omega
              obtain⟨rfl,rfl⟩:=hbc;exact⟨mx u' v,by omega,hnew⟩
            · exact⟨u',hu,by simp[hm]⟩
        · exact⟨mx z u,m1.2,hnew⟩
      · rcases hp with hp|⟨rfl,rfl⟩
        · obtain⟨u',hu,hm⟩:=h.2 b u hp
          exact⟨u',hu,by simp[hm]⟩
        · exact⟨u,Int.le_refl _,by simp⟩
def Evt {α:Type} (f:Nat→Option α) (P:α→Prop):Prop:=∃ B r,P r∧∀ K,B≤K→f K=some r
theorem Evt.step {α:Type} {f g:Nat→Option α} {P:α→Prop} (h:Evt f P) (B:Nat) (he:∀ K,B≤K→g (K + 1)=f K):Evt g P:=by
  obtain⟨B1,r,p,hr⟩:=h;refine⟨B + B1 + 1,r,p,fun K hK=>?_⟩;obtain⟨K,rfl⟩:∃ m,K=m + 1:=⟨K - 1,by omega⟩
  rw[he K (by omega)];exact hr K (by omega)
def Fn3 (F:Int→Int→Prop) (w k S R d:Int) (x y:Int):Prop:=F x y∨∃ d',-w≤d'∧d' < d∧GO.ok w k S d'∧x=S + k * d'∧y=mx 0 (R + d')
theorem bH3 {w n k S R i:Int} {ends:List mZ} {F:Int→Int→Prop} {P:Int × Bool→Prop} (hw:1≤w∧w≤24) (hk:1≤k∧k≤8) (hS: -192≤S∧S≤192) (hR:0≤R∧R≤192) (h0:0≤i) (hi:i < (ends.length:Int)) (hrd:nA ends i=⟨2 * S + k * w,R + w⟩):
    ∀ (m:Nat) (d:Int) (nxt:List mZ),d + (m:Int)=w + 1→ -w≤d→LR w (k + 1) nxt (Fn3 F w k S R d)→nxt.length + m < 8796093022208→
    (∀ nxt',LR w (k + 1) nxt' (Fn3 F w k S R (w + 1))→nxt'.length≤nxt.length + m→Evt (fun K=>bD.l1 K w n ends k nxt' (wrap64 (i + 1))) P)→Evt (fun K=>bD.l2 K w n ends k nxt i d) P:=by
  intro m
  induction m with
  | zero=>
    intro d nxt hd hd0 hL hl hc;obtain rfl:d=w + 1:=by simpa using hd
    refine(hc nxt hL (by omega)).step 0 fun K _=>?_
    simp only[bD.l2];rw[if_neg (by omega)]
  | succ m ih=>
    intro d nxt hd hd0 hL hl hc;have b1:=GO.prod (m:=2 * k) (x:=d) (B:=24) (by omega) (by omega) (by omega) (by omega);have b2:=GO.prod (m:=k) (x:=w) (B:=24) (by omega) (by omega) (by omega) (by omega);have b3:=GO.prod (m:=2 * k) (x:=mx 0 d) (B:=24) (by omega) (by omega) (by unfold mx;split <;> omega) (by unfold mx;split <;> omega);have b4:=GO.prod (m:=2 * k) (x:=mn w (d + w)) (B:=48) (by omega) (by omega) (by unfold mn;split <;> omega) (by unfold mn;split <;> omega);have x1:mx 0 d=mx d 0:=by unfold mx;(repeat' split) <;> omega
    have x2:mn w (d + w)=mn d 0 + w:=by unfold mn;(repeat' split) <;> omega
    have hstep:∀ K,bD.l2 (K + 1) w n ends k nxt i d=bD.j3 K w n ends k nxt i d (2 * S + k * w + 2 * k * d) (!GO.okB w k S d):=by
      intro K;simp only[bD.l2];rw[if_pos (by omega),if_pos h0,if_pos hi,a0U,Option.bind_some,aTL,Option.bind_some,hrd];simp only[];rw[fE (x:=2 * k) (by omega) (by omega),fE (x:=2 * k * d) (by omega) (by omega),fE (x:=2 * S + k * w + 2 * k * d) (by omega) (by omega),fE (x:=2 * k * mx 0 d) (by omega) (by omega),fE (x:=d + w) (by omega) (by omega),fE (x:=2 * k * mn w (d + w)) (by omega) (by omega),x1,x2];unfold GO.okB;by_cases c1:2 * S + k * w + 2 * k * d < 2 * k * mx d 0
      · rw[if_pos c1,decide_eq_false (show ¬ 2 * k * mx d 0≤2 * k * d + 2 * S + k * w by omega)]
        rfl
      · rw[if_neg c1,decide_eq_true (show 2 * k * mx d 0≤2 * k * d + 2 * S + k * w by omega),Bool.true_and,← decide_not]
        congr 1;exact decide_eq_decide.mpr (by omega)
    cases hok:GO.okB w k S d with
    | false=>
      have hnext:=ih (d + 1) nxt (by omega) (by omega) (hL.congr fun x y=>GO.R3_skip hok x y) (by omega) (fun nxt' g1 g2=>hc nxt' g1 (by omega));refine(hnext.step (g:=fun K=>bD.j3 K w n ends k nxt i d (2 * S + k * w + 2 * k * d) true) 0 fun K _=>?_).step 0 fun K _=>?_
      · simp only[bD.j3]
        rw[if_pos trivial,fE (x:=d + 1) (by omega) (by omega)]
      · show bD.l2 (K + 1) w n ends k nxt i d=_
        rw[hstep,hok];rfl
    | true=>
      obtain⟨l',e1,e2,e3⟩:=aW7 hL (by omega) (S + k * d) (mx 0 (R + d));have hnext:=ih (d + 1) l' (by omega) (by omega) (e3.congr fun x y=>GO.R3_add hok hd0 x y) (by omega) (fun nxt' g1 g2=>hc nxt' g1 (by omega));refine(hnext.step (g:=fun K=>bD.j3 K w n ends k nxt i d (2 * S + k * w + 2 * k * d) false) (nxt.length + 1) fun K hK=>?_).step 0 fun K _=>?_
      · simp only[bD.j3]
        have y1:2 * S + k * w + 2 * k * d + w=2 * (S + k * d) + (k + 1) * w:=by
          rw[Int.mul_assoc,Int.add_mul,Int.one_mul];omega
        have y2:mx (R + w + d) w=mx 0 (R + d) + w:=by unfold mx;(repeat' split) <;> omega
        rw[if_neg (by decide),if_pos h0,if_pos hi,a0U,Option.bind_some,hrd];simp only[];rw[fE (x:=2 * S + k * w + 2 * k * d + w) (by omega) (by omega),fE (x:=R + w + d) (by omega) (by omega),y1,y2,e1 K (by omega),Option.bind_some,fE (x:=d + 1) (by omega) (by omega)]
      · show bD.l2 (K + 1) w n ends k nxt i d=_
        rw[hstep,hok];rfl
def Cn (w k:Int) (p:List mZ) (x y:Int):Prop:=∃ S R,(⟨2 * S + k * w,R + w⟩:mZ) ∈ p∧GO.next w k S R x y
theorem b65 {w k S R:Int} {p:List mZ} (x y:Int):Fn3 (Cn w k p) w k S R (w + 1) x y ↔ Cn w k (p ++ [⟨2 * S + k * w,R + w⟩]) x y:=by
  unfold Fn3 Cn;constructor
  · rintro(⟨S',R',h1,h2⟩|⟨d',h1,h2,h3⟩)
    · exact⟨S',R',List.mem_append_left _ h1,h2⟩
    · exact⟨S,R,List.mem_append_right _ (by simp),d',h1,by omega,h3⟩
  · rintro⟨S',R',h1,h2⟩
    rcases List.mem_append.mp h1 with h1|h1
    · exact Or.inl ⟨S',R',h1,h2⟩
    · simp only[List.mem_singleton]at h1
      have:=mZ.mk.inj h1;obtain⟨rfl,rfl⟩:S'=S∧R'=R:=by omega
      obtain⟨d',g1,g2,g3⟩:=h2;exact Or.inr ⟨d',g1,by omega,g3⟩
theorem bH4 {w n:Int} {k:Nat} {P:Int × Bool→Prop} (hw:1≤w∧w≤24) (hk:1≤k∧k≤7):∀ (s p nxt:List mZ),LR w k (p ++ s) (GO.P w (k - 1))→LR w ((k:Int) + 1) nxt (Cn w k p)→nxt.length + 49 * s.length < 8796093022208→(p ++ s).length < 8796093022208→
    (∀ nxt',LR w ((k:Int) + 1) nxt' (GO.P w k)→nxt'.length≤nxt.length + 49 * s.length→Evt (fun K=>bD.l0 K w n nxt' (wrap64 ((k:Int) + 1))) P)→Evt (fun K=>bD.l1 K w n (p ++ s) k nxt (p.length:Int)) P:=by
  intro s
  induction s with
  | nil=>
    intro p nxt hE hN hl hl2 hc;rw[List.append_nil]at hE ⊢;have hN2:LR w ((k:Int) + 1) nxt (GO.P w k):=by
      have hS:GO.Rep (fun a v=>(⟨2 * a + ((k:Int) + 1) * w,v + w⟩:mZ) ∈ nxt) (GO.P w ((k - 1) + 1)):=by
        refine GO.Rep.step (T:=fun a v=>(⟨2 * a + (k:Int) * w,v + w⟩:mZ) ∈ p) ⟨?_,hE.2⟩ ⟨?_,?_⟩
        · intro a v hm
          obtain⟨b,u,hp,e⟩:=hE.1 _ hm;have:=mZ.mk.inj e;obtain⟨rfl,rfl⟩:a=b∧v=u:=by omega
          exact hp
        · intro a v hm
          obtain⟨b,u,hp,e⟩:=hN.1 _ hm;have:=mZ.mk.inj e;obtain⟨rfl,rfl⟩:a=b∧v=u:=by omega
          rw[show(((k - 1:Nat):Int) + 1)=(k:Int)from by omega];exact hp
        · intro a v hp
          rw[show(((k - 1:Nat):Int) + 1)=(k:Int)from by omega]at hp;exact hN.2 a v hp
      rw[show(k - 1) + 1=k from by omega]at hS;refine⟨?_,hS.2⟩;intro x hx;obtain⟨b,u,hp,e⟩:=hN.1 x hx;subst e;exact⟨b,u,hS.1 b u hx,rfl⟩
    refine(hc nxt hN2 (by omega)).step 0 fun K _=>?_
    simp only[bD.l1];rw[if_neg (by omega)]
  | cons e s ih=>
    intro p nxt hE hN hl hl2 hc;obtain⟨S,R,hp,rfl⟩:=hE.1 e (by simp);have hb:=GO.P.small hw (by omega) hp;have hlen:(p ++ (⟨2 * S + (k:Int) * w,R + w⟩:mZ)::s).length=p.length + s.length + 1:=by simp;omega
    simp only[List.length_cons]at hl hc;have h2:=bH3 (P:=P) (n:=n) (ends:=p ++ ⟨2 * S + (k:Int) * w,R + w⟩::s) (i:=(p.length:Int)) (F:=Cn w k p) hw (k:=(k:Int)) (by omega) (S:=S) (R:=R) ⟨hb.1,hb.2.1⟩ ⟨hb.2.2.1,hb.2.2.2⟩ (by omega) (by rw[hlen];omega) (rdT _ _ _)
      (2 * w + 1).toNat (-w) nxt (by omega) (by omega) (hN.congr fun x y=>⟨Or.inl,fun h=>by rcases h with h|⟨d',h1,h2,_⟩;exact h;omega⟩) (by omega) ?_
    · refine h2.step 0 fun K _=>?_
      simp only[bD.l1];rw[if_pos (by rw[hlen];omega),fE (x:=-w) (by omega) (by omega)]
    · intro nxt' g1 g2
      rw[fE (x:=(p.length:Int) + 1) (by omega) (by omega),show(p.length:Int) + 1=((p ++ [(⟨2 * S + (k:Int) * w,R + w⟩:mZ)]).length:Int)from by simp,List.append_cons];refine ih (p ++ [⟨2 * S + (k:Int) * w,R + w⟩]) nxt' (by rw[← List.append_cons];exact hE) (g1.congr b65) (by omega) (by rw[← List.append_cons];exact hl2) ?_;intro nxt'' f1 f2;exact hc nxt'' f1 (by omega)
theorem bH5 {w n:Int} (hw:1≤w∧w≤24) (hn:1≤n∧n≤8) {m:Nat} (hm:(m:Int) + 1=n):∀ (s p:List mZ) (b:Int),LR w n (p ++ s) (GO.P w m)→(p ++ s).length < 8796093022208→0≤b→b≤1000→(∀ a v,(⟨2 * a + n * w,v + w⟩:mZ) ∈ p→GO.vl w n a v≤b)→(b=0∨∃ a v,GO.P w m a v∧b=GO.vl w n a v)→
    Evt (fun K=>bD.l3 K n (p ++ s) b (p.length:Int)) (fun r=>r=(GO.best w m,true)):=by
  intro s
  induction s with
  | nil=>
    intro p b hE hl h0 h1 h2 h3;rw[List.append_nil]at hE ⊢;have hB:GO.Best w m b:=by
      refine⟨h0,?_,?_⟩
      · intro a v hp
        obtain⟨v',hv,hx⟩:=hE.2 a v hp;rw[hm];exact Int.le_trans (GO.vl_mono hv) (h2 a v' hx)
      · rw[hm]
        exact h3
    refine⟨1,(b,true),?_,fun K hK=>?_⟩
    · rw[GO.Best.one hB (GO.best_ok hw.1 m)]
    · obtain⟨K,rfl⟩:∃ q,K=q + 1:=⟨K - 1,by omega⟩
      simp only[bD.l3];rw[if_neg (by omega)]
  | cons e s ih=>
    intro p b hE hl h0 h1 h2 h3;obtain⟨S,R,hp,rfl⟩:=hE.1 e (by simp);have hb:=GO.P.small hw (by omega) hp;obtain⟨g1,g2,_,_⟩:=GO.P.bound hw.1 m S R hp;rw[hm]at g1 g2;have b2:=GO.prod (m:=n) (x:=w) (B:=24) (by omega) (by omega) (by omega) (by omega);have hlen:(p ++ (⟨2 * S + n * w,R + w⟩:mZ)::s).length=p.length + s.length + 1:=by simp;omega
    have d1:(-(2 * S + n * w)) / (2 * n)≤0 / (2 * n):=Int.ediv_le_ediv (by omega) (by omega);rw[Int.zero_ediv]at d1;have d2: -w≤(-(2 * S + n * w)) / (2 * n):=by
      rw[Int.le_ediv_iff_mul_le (by omega)];have: -w * (2 * n)= -(2 * (n * w)):=by rw[Int.neg_mul,Int.mul_comm w,Int.mul_assoc]
      omega
    have hv:R + w + (-(2 * S + n * w)) / (2 * n)=GO.vl w n S R:=rfl;have m1:b≤mx b (GO.vl w n S R)∧GO.vl w n S R≤mx b (GO.vl w n S R)∧mx b (GO.vl w n S R)≤1000:=by unfold mx;split <;> omega
    have hnext:=ih (p ++ [⟨2 * S + n * w,R + w⟩]) (mx b (GO.vl w n S R)) (by rw[← List.append_cons];exact hE) (by rw[← List.append_cons];exact hl) (by omega) m1.2.2 ?_ ?_
    · refine hnext.step 0 fun K _=>?_
      simp only[bD.l3];rw[if_pos (by rw[hlen];omega),if_pos (by omega),rdT];simp only[];rw[fE (x:=-(2 * S + n * w)) (by omega) (by omega),fE (x:=2 * n) (by omega) (by omega),aGT _ _ (by omega) (by omega) (by omega) (by omega),Option.bind_some,fE (x:=R + w + (-(2 * S + n * w)) / (2 * n)) (by omega) (by omega),a0U,Option.bind_some,hv,fE (x:=(p.length:Int) + 1) (by omega) (by omega),show(p.length:Int) + 1=((p ++ [(⟨2 * S + n * w,R + w⟩:mZ)]).length:Int)from by simp,List.append_cons]
    · intro a v hx
      rcases List.mem_append.mp hx with hx|hx
      · have:=h2 a v hx
        omega
      · simp only[List.mem_singleton]at hx
        have:=mZ.mk.inj hx;obtain⟨rfl,rfl⟩:a=S∧v=R:=by omega
        exact m1.2.1
    · unfold mx
      split
      · exact Or.inr ⟨S,R,hp,rfl⟩
      · exact h3
theorem bH6 {w n:Int} (hw:1≤w∧w≤24) (hn:1≤n∧n≤8):∀ (m k:Nat) (ends:List mZ),1≤k→(k:Int) + m=n→LR w k ends (GO.P w (k - 1))→ends.length≤49 ^ (k - 1)→
    Evt (fun K=>bD.l0 K w n ends k) (fun r=>r=(GO.best w (n.toNat - 1),true)):=by
  intro m
  induction m with
  | zero=>
    intro k ends hk hkn hE hl;have hp:(49:Nat) ^ (k - 1)≤49 ^ 7:=Nat.pow_le_pow_right (by omega) (by omega);have hp2:(49:Nat) ^ 7=678223072849:=by decide
    have hnk:(k:Int)=n:=by omega
    have e1:n.toNat - 1=k - 1:=by omega
    rw[e1];rw[hnk]at hE;have h3:=bH5 hw hn (m:=k - 1) (by omega) ends [] 0 hE (by simp;omega) (by omega) (by omega) (by simp) (Or.inl rfl);refine h3.step 0 fun K _=>?_
    simp only[bD.l0];rw[if_neg (by omega)];rfl
  | succ m ih=>
    intro k ends hk hkn hE hl;have hp:(49:Nat) ^ (k - 1)≤49 ^ 6:=Nat.pow_le_pow_right (by omega) (by omega);have hp2:(49:Nat) ^ 6=13841287201:=by decide
    have h1:=bH4 (P:=fun r=>r=(GO.best w (n.toNat - 1),true)) (n:=n) hw (k:=k) (by omega) ends [] [] hE ⟨(fun x hx=>by cases hx),(fun a v h=>by obtain⟨S,R,h,_⟩:=h;cases h)⟩ (by simp;omega) (by simp;omega) ?_
    · refine h1.step 0 fun K _=>?_
      simp only[bD.l0];rw[if_pos (by omega)];rfl
    · intro nxt g1 g2
      rw[fE (x:=(k:Int) + 1) (by omega) (by omega),show(k:Int) + 1=((k + 1:Nat):Int)from by omega];refine ih (k + 1) nxt (by omega) (by omega) (by rw[show((k + 1:Nat):Int)=(k:Int) + 1 from by omega];exact g1) ?_;have:49 ^ (k + 1 - 1)=49 * 49 ^ (k - 1):=by rw[← Nat.pow_succ'];congr 1;omega
      simp only[List.length_nil]at g2;omega
theorem b66 (w n:Int):∃ B r,∀ K,B≤K→bD.f K w n=some r∧jO.f w n=some r:=by
  by_cases h:(1≤w∧w≤24)∧(1≤n∧n≤8)
  · obtain⟨B,r,rfl,hr⟩:=bH6 (w:=w) (n:=n) h.1 h.2 (n.toNat - 1) 1 [⟨w,w⟩] (by omega) (by omega) ⟨(fun x hx=>⟨0,0,⟨rfl,rfl⟩,by simp at hx;rw[hx];simp⟩),(fun a v hp=>by obtain⟨rfl,rfl⟩:=hp;exact⟨0,by omega,by simp⟩)⟩ (by simp)
    refine⟨B,(GO.best w (n.toNat - 1),true),fun K hK=>⟨?_,?_⟩⟩
    · unfold bD.f
      rw[XU,Option.bind_some];simp only[h.1,h.2,decide_true,and_self,Bool.and_true,if_true];exact hr K hK
    · unfold jO.f
      rw[SX,Option.bind_some];simp only[h.1,h.2,decide_true,and_self,Bool.and_true,if_true]
  · refine⟨0,(0,false),fun K hK=>⟨?_,?_⟩⟩
    · unfold bD.f
      rw[XU,Option.bind_some,if_neg (by simp only[Bool.and_eq_true,decide_eq_true_eq];exact h)]
    · unfold jO.f
      rw[SX,Option.bind_some,if_neg (by simp only[Bool.and_eq_true,decide_eq_true_eq];exact h)]
theorem bAY (x:Int):0≤IntKind.u64.wrap x∧IntKind.u64.wrap x < 18446744073709551616:=by
  simp[IntKind.wrap,IntKind.bits,IntKind.signed];omega
theorem wraps_u64 (n:Int) (h0:0≤n) (h1:n < 2 ^ 64):IntKind.u64.wrap n=n:=by
  simp[IntKind.wrap,IntKind.bits,IntKind.signed];omega
theorem bAZ (x:Int) (h0:0≤x) (h1:x < 18446744073709551616):0≤Go.bits .and .u64 x 255∧Go.bits .and .u64 x 255≤255:=by
  have e:Go.bits .and .u64 x 255=x % 256:=Go.bits_mask .u64 64 (by decide) wraps_u64 8 (by decide) x h0 h1;rw[e];omega
theorem bB0 (x:Int):0≤wrap64 (Go.bits .and .u64 (IntKind.u64.wrap x / 1099511627776) 255)∧wrap64 (Go.bits .and .u64 (IntKind.u64.wrap x / 1099511627776) 255)≤255:=by
  have h:=bAY x;have b:=bAZ (IntKind.u64.wrap x / 1099511627776) (by omega) (by omega);rw[fE (by omega) (by omega)];exact b
def Bytes (C:List Int):Prop:=∀ x ∈ C,0≤x∧x≤255
theorem aZV {C:List Int} (h:∀ x ∈ C,(Lit.int .u8 x).wf=true):Bytes C:=fun x hx=>by
  have:=h x hx;simp[Lit.wf,IntKind.min,IntKind.max,IntKind.signed,IntKind.bits]at this;omega
theorem b67 {C:List Int} (hC:Bytes C) (p s:Int) (h0:0≤p) (h1:p≤1000000000):∃ b s',vD.f C p s=some (b,p + 1,s')∧0≤b∧b≤255:=by
  unfold vD.f;rw[fE (x:=p + 1) (by omega) (by omega)];by_cases c:p < (C.length:Int)
  · have hm:rd C p ∈ C:=by
      have hl:p.toNat < C.length:=by omega
      simp only[rd];rw[List.getD_eq_getElem?_getD,List.getElem?_eq_getElem hl];exact List.getElem_mem hl
    have hb:=hC _ hm;rw[if_pos c,if_pos h0,if_pos (by omega),fE (x:=rd C p) (by omega) (by omega)];exact⟨_,_,rfl,hb⟩
  · rw[if_neg c]
    by_cases c2:p + 1≤(C.length:Int)
    · omega
    · rw[if_neg c2]
      exact⟨_,_,rfl,bB0 _⟩
theorem NN {C:List Int} (hC:Bytes C) (p s n:Int) (h0:0≤p) (h1:p≤1000000000) (hn:n≤200):∃ x p' s',dC.f C p s n=some (x,p',s')∧p≤p'∧p'≤p + 1∧0≤x∧(x < n∨x=0):=by
  unfold dC.f;by_cases c:n≤1
  · rw[if_pos c]
    exact⟨0,p,s,rfl,by omega,by omega,by omega,Or.inr rfl⟩
  · obtain⟨b,s',e,b0,b1⟩:=b67 hC p s h0 h1
    rw[if_neg c,e,Option.bind_some,if_neg (by omega),if_neg (by omega)];have m0:=Int.tmod_nonneg n b0;have m1:=Int.tmod_lt_of_pos b (show 0 < n by omega);exact⟨Int.tmod b n,p + 1,s',rfl,by omega,by omega,m0,Or.inl m1⟩
theorem KO {C:List Int} (hC:Bytes C) (p s:Int) (l:List Int) (h0:0≤p) (h1:p≤1000000000) (hl:1≤l.length∧l.length≤200):∃ x p' s',dB.f C p s l=some (x,p',s')∧p≤p'∧p'≤p + 1∧x ∈ l:=by
  unfold dB.f;obtain⟨x,p',s',e,a1,a2,a3,a4⟩:=NN hC p s (l.length:Int) h0 h1 (by omega);rw[e,Option.bind_some,if_pos a3,if_pos (by omega)];refine⟨_,_,_,rfl,a1,a2,?_⟩;have hx:x.toNat < l.length:=by omega
  simp only[rd];rw[List.getD_eq_getElem?_getD,List.getElem?_eq_getElem hx];exact List.getElem_mem hx
theorem bB1 {C:List Int} (hC:Bytes C) (p s n:Int) (h0:0≤p) (h1:p≤1000000000) (hn:n≤200):∃ (b:Bool) (p' s':Int),AB.f C p s n=some (b,p',s')∧p≤p'∧p'≤p + 1:=by
  unfold AB.f;obtain⟨x,p',s',e,a1,a2,_⟩:=NN hC p s n h0 h1 hn;rw[e,Option.bind_some];exact⟨_,_,_,rfl,a1,a2⟩
theorem aQ1 (left:Int) (C:List Int) (p s a:Int):∀ (d:Nat) (L W:List Int) (k:Nat),L.length + d=9∨(d=0∧9≤L.length∧L.length≤10)→W.length≤10 + L.length→d < k→∃ L' W',aU.l1 k left C p s a L W=some (a,L',W',p,s)∧L'.length≤10∧W'.length≤30:=by
  intro d
  induction d with
  | zero=>
    intro L W k hL hW hk;obtain⟨k,rfl⟩:∃ m,k=m + 1:=⟨k - 1,by omega⟩
    simp only[aU.l1];rw[if_neg (by omega)];exact⟨L,W,rfl,by omega,by omega⟩
  | succ d ih=>
    intro L W k hL hW hk;obtain⟨k,rfl⟩:∃ m,k=m + 1:=⟨k - 1,by omega⟩
    simp only[aU.l1];rw[if_pos (by omega),if_pos (by omega),if_pos (by omega)];exact ih (L ++ [left]) (W ++ [1]) k (by simp;omega) (by simp;omega) (by omega)
theorem b68 {C:List Int} (hC:Bytes C) (n:Nat) (hn:1≤n∧n≤8) (firm:Bool) (a:Int) (ha:1≤a∧a≤24):∀ (d i:Nat) (p s left:Int) (L W:List Int),i + d=n→L.length=i→W.length=i→0≤p→p + 5 * d≤1000000→
    ∃ a' L' W' p' s',L'.length≤10∧W'.length≤30∧p≤p'∧p'≤p + 5 * d + 10∧∀ k,d + 30 < k→aU.l0 k (n:Int) firm left (i:Int) C p s a L W=some (a',L',W',p',s'):=by
  intro d
  induction d with
  | zero=>
    intro i p s left L W hi hL hW h0 h1;obtain⟨x,p1,s1,e,b1,b2,b3,b4⟩:=NN hC p s 50 h0 (by omega) (by omega);have fin:∀ r:Int × List Int × List Int × Int × Int,(∀ k,30 < k + 1→(if x=0 then((dB.f C p1 s1 (([0,25,(-1)]:List Int))).bind fun aTN=>(some (aTN.1,L,W,aTN.2.1,aTN.2.2)))else(if x=1 then((dC.f C p1 s1 (n:Int)).bind fun a0D=>((dB.f C a0D.2.1 a0D.2.2 (([99,100,(-100),4611686018427387904]:List Int))).bind fun aTO=>(if 0≤a0D.1 then(if a0D.1 < (L.length:Int)then(some (a,(L.set (a0D.1:Int).toNat aTO.1),W,aTO.2.1,aTO.2.2))else(none))else(none))))else(if x=2 then((dC.f C p1 s1 (n:Int)).bind fun aEJ=>((dB.f C aEJ.2.1 aEJ.2.2 (([0,99,100,(-1)]:List Int))).bind fun aTP=>(if 0≤aEJ.1 then(if aEJ.1 < (W.length:Int)then(some (a,L,(W.set (aEJ.1:Int).toNat aTP.1),aTP.2.1,aTP.2.2))else(none))else(none))))else(if x=3 then(if W.length < 17592186044416 then(some (a,L,(W ++ [1]),p1,s1))else(none))else(if x=4 then(aU.l1 k left C p1 s1 a L W)else(some (a,L,W,p1,s1)))))))=some r)→∀ k,30 < k→aU.l0 k (n:Int) firm left (i:Int) C p s a L W=some r:=by
      intro r hr k hk;obtain⟨k,rfl⟩:∃ m,k=m + 1:=⟨k - 1,by omega⟩
      simp only[aU.l0];rw[if_neg (by omega),e,Option.bind_some];exact hr k hk
    by_cases x0:x=0
    · obtain⟨y,p2,s2,e2,c1,c2,c3⟩:=KO hC p1 s1 [0,25,(-1)] (by omega) (by omega) (by simp)
      refine⟨y,L,W,p2,s2,by omega,by omega,by omega,by omega,fun k hk=>fin _ (fun k _=>?_) k (by omega)⟩;rw[if_pos x0,e2,Option.bind_some]
    by_cases x1:x=1
    · obtain⟨y,p2,s2,e2,c1,c2,c3,c4⟩:=NN hC p1 s1 (n:Int) (by omega) (by omega) (by omega)
      obtain⟨z,p3,s3,e3,d1,d2,d3⟩:=KO hC p2 s2 [99,100,(-100),4611686018427387904] (by omega) (by omega) (by simp);refine⟨a,L.set y.toNat z,W,p3,s3,by simp;omega,by omega,by omega,by omega,fun k hk=>fin _ (fun k _=>?_) k (by omega)⟩;rw[if_neg x0,if_pos x1,e2,Option.bind_some,e3,Option.bind_some,if_pos c3,if_pos (by omega)]
    by_cases x2:x=2
    · obtain⟨y,p2,s2,e2,c1,c2,c3,c4⟩:=NN hC p1 s1 (n:Int) (by omega) (by omega) (by omega)
      obtain⟨z,p3,s3,e3,d1,d2,d3⟩:=KO hC p2 s2 [0,99,100,(-1)] (by omega) (by omega) (by simp);refine⟨a,L,W.set y.toNat z,p3,s3,by omega,by simp;omega,by omega,by omega,fun k hk=>fin _ (fun k _=>?_) k (by omega)⟩;rw[if_neg x0,if_neg x1,if_pos x2,e2,Option.bind_some,e3,Option.bind_some,if_pos c3,if_pos (by omega)]
    by_cases x3:x=3
    · refine⟨a,L,W ++ [1],p1,s1,by omega,by simp;omega,by omega,by omega,fun k hk=>fin _ (fun k _=>?_) k (by omega)⟩
      rw[if_neg x0,if_neg x1,if_neg x2,if_pos x3,if_pos (by omega)]
    by_cases x4:x=4
    · obtain⟨L',W',_,l1,l2⟩:=aQ1 left C p1 s1 a (9 - L.length) L W 100 (by omega) (by omega) (by omega)
      have all:∀ k,20 < k→∃ L2 W2,aU.l1 k left C p1 s1 a L W=some (a,L2,W2,p1,s1)∧L2.length≤10∧W2.length≤30:=fun k hk=>aQ1 left C p1 s1 a (9 - L.length) L W k (by omega) (by omega) (by omega)
      have same:∀ (d:Nat) (L W:List Int) (j k:Nat),L.length + d=9→d < j→d < k→aU.l1 j left C p1 s1 a L W=aU.l1 k left C p1 s1 a L W:=by
        intro d
        induction d with
        | zero=>
          intro L W j k hL hj hk;obtain⟨j,rfl⟩:∃ m,j=m + 1:=⟨j - 1,by omega⟩
          obtain⟨k,rfl⟩:∃ m,k=m + 1:=⟨k - 1,by omega⟩
          simp only[aU.l1];rw[if_neg (by omega),if_neg (by omega)]
        | succ d ih=>
          intro L W j k hL hj hk;obtain⟨j,rfl⟩:∃ m,j=m + 1:=⟨j - 1,by omega⟩
          obtain⟨k,rfl⟩:∃ m,k=m + 1:=⟨k - 1,by omega⟩
          simp only[aU.l1];by_cases h9:((L.length:Int)) < 9
          · simp only[if_pos h9]
            by_cases hw:W.length < 17592186044416
            · by_cases hl:L.length < 17592186044416
              · simp only[if_pos hw,if_pos hl]
                exact ih _ _ j k (by simp only[List.length_append,List.length_cons,List.length_nil];omega) (by omega) (by omega)
              · omega
            · simp only[if_neg hw]
          · omega
      obtain⟨L2,W2,e2,l3,l4⟩:=all 100 (by omega);refine⟨a,L2,W2,p1,s1,l3,l4,by omega,by omega,fun k hk=>fin _ (fun k hk=>?_) k (by omega)⟩;rw[if_neg x0,if_neg x1,if_neg x2,if_neg x3,if_pos x4,same (9 - L.length) L W k 100 (by omega) (by omega) (by omega)];exact e2
    · refine⟨a,L,W,p1,s1,by omega,by omega,by omega,by omega,fun k hk=>fin _ (fun k _=>?_) k (by omega)⟩
      rw[if_neg x0,if_neg x1,if_neg x2,if_neg x3,if_neg x4]
  | succ d ih=>
    intro i p s left L W hi hL hW h0 h1;obtain⟨x,p1,s1,e1,a1,a2,a3⟩:=KO hC p s [1,1,4,20] h0 (by omega) (by simp);have hx:x≤20:=by simp at a3;omega
    obtain⟨y,p2,s2,e2,b1,b2,b3⟩:=NN hC p1 s1 x (by omega) (by omega) (by omega);have step:∀ k,aU.l0 (k + 1) (n:Int) firm left (i:Int) C p s a L W=(if firm=true then((dC.f C p2 s2 3).bind fun aTQ=>(aU.l0 k (n:Int) firm (wrap64 ((wrap64 (left + aTQ.1)) - 1)) (wrap64 ((i:Int) + 1)) C aTQ.2.1 aTQ.2.2 a (L ++ [left]) (W ++ [wrap64 (1 + y)])))else((dC.f C p2 s2 (wrap64 ((wrap64 (2 * a)) + 3))).bind fun a7Z=>(aU.l0 k (n:Int) firm (wrap64 ((wrap64 ((wrap64 (left + a7Z.1)) - a)) - 1)) (wrap64 ((i:Int) + 1)) C a7Z.2.1 a7Z.2.2 a (L ++ [left]) (W ++ [wrap64 (1 + y)])))):=by
      intro k;simp only[aU.l0];rw[if_pos (by omega),if_pos (by omega),Option.bind_some,e1,Option.bind_some,e2,Option.bind_some,if_pos (by omega),Option.bind_some]
    have wi:wrap64 ((i:Int) + 1)=((i + 1:Nat):Int):=by rw[fE (by omega) (by omega)];omega
    have w3:wrap64 (wrap64 (2 * a) + 3)=2 * a + 3:=by rw[fE (x:=2 * a) (by omega) (by omega),fE (by omega) (by omega)]
    cases firm with
    | true=>
      obtain⟨z,p3,s3,e3,c1,c2,c3⟩:=NN hC p2 s2 3 (by omega) (by omega) (by omega);obtain⟨a',L',W',p',s',l1,l2,l3,l4,l5⟩:=ih (i + 1) p3 s3 (wrap64 ((wrap64 (left + z)) - 1)) (L ++ [left]) (W ++ [wrap64 (1 + y)]) (by omega) (by simp;omega) (by simp;omega) (by omega) (by omega);refine⟨a',L',W',p',s',l1,l2,by omega,by omega,fun k hk=>?_⟩;obtain⟨k,rfl⟩:∃ m,k=m + 1:=⟨k - 1,by omega⟩
      rw[step,if_pos rfl,e3,Option.bind_some,wi];exact l5 k (by omega)
    | false=>
      obtain⟨z,p3,s3,e3,c1,c2,c3⟩:=NN hC p2 s2 (2 * a + 3) (by omega) (by omega) (by omega);obtain⟨a',L',W',p',s',l1,l2,l3,l4,l5⟩:=ih (i + 1) p3 s3 (wrap64 ((wrap64 ((wrap64 (left + z)) - a)) - 1)) (L ++ [left]) (W ++ [wrap64 (1 + y)]) (by omega) (by simp;omega) (by simp;omega) (by omega) (by omega);refine⟨a',L',W',p',s',l1,l2,by omega,by omega,fun k hk=>?_⟩;obtain⟨k,rfl⟩:∃ m,k=m + 1:=⟨k - 1,by omega⟩
      rw[step,if_neg (by decide),w3,e3,Option.bind_some,wi];exact l5 k (by omega)
theorem aW8 {C:List Int} (hC:Bytes C):∃ a L W p s,L.length≤10∧W.length≤30∧0≤p∧p≤1000∧∀ k,100 < k→aU.f k C 0 0=some (a,L,W,p,s):=by
  obtain⟨w,p1,s1,e1,a1,a2,a3⟩:=KO hC 0 0 [4,6,8,3,1,2,12,24] (by omega) (by omega) (by simp);obtain⟨n,p2,s2,e2,b1,b2,b3⟩:=KO hC p1 s1 [3,2,4,1,5,8] (by omega) (by omega) (by simp);obtain⟨f,p3,s3,e3,c1,c2⟩:=bB1 hC p2 s2 3 (by omega) (by omega) (by omega);have hw:1≤w∧w≤24:=by simp at a3;omega
  have hn:1≤n∧n≤8:=by simp at b3;omega
  have wd:wrap64 (wrap64 (Int.tdiv w 2) + 1)≤200:=by
    rw[Int.tdiv_eq_ediv_of_nonneg (by omega),fE (x:=w / 2) (by omega) (by omega),fE (by omega) (by omega)];omega
  obtain⟨x,p4,s4,e4,d1,d2,d3⟩:=NN hC p3 s3 _ (by omega) (by omega) wd;obtain⟨n,rfl⟩:∃ m:Nat,n=(m:Int):=⟨n.toNat,by omega⟩
  obtain⟨a',L',W',p',s',l1,l2,l3,l4,l5⟩:=b68 hC n ⟨by omega,by omega⟩ (!f) w hw n 0 p4 s4 (wrap64 (wrap64 (-w) + x)) [] [] (by omega) rfl rfl (by omega) (by omega);refine⟨a',L',W',p',s',l1,l2,by omega,by omega,fun k hk=>?_⟩;unfold aU.f;rw[e1,Option.bind_some,e2,Option.bind_some,e3,Option.bind_some,e4,Option.bind_some];exact l5 k (by omega)
theorem aEK:∀ (s p:List Int) (k:Nat),(p ++ s).length≤1000000→s.length < k→pJ.l0 k (p ++ s) (p ++ s) (p.length:Int)=some true:=by
  intro s
  induction s with
  | nil=>
    intro p k hl hk;obtain⟨k,rfl⟩:∃ m,k=m + 1:=⟨k - 1,by simp at hk;omega⟩
    simp only[pJ.l0];rw[if_neg (by simp)]
  | cons x s ih=>
    intro p k hl hk;obtain⟨k,rfl⟩:∃ m,k=m + 1:=⟨k - 1,by simp at hk;omega⟩
    simp only[pJ.l0];rw[if_pos (by simp;omega),if_pos (by omega),if_pos (by simp;omega),if_pos trivial,UG p x (by simp at hl;omega),List.append_cons p x s];exact ih (p ++ [x]) k (by simpa using hl) (by simp at hk;omega)
theorem XV (a:Int) (ls ws:List Int) (k:Nat) (h1:ls.length≤100000) (h2:ws.length≤100000) (hk:200000≤k):o7.f k a ls ws a ls ws=some true:=by
  have e1:pJ.f k ls ls=some true:=by
    unfold pJ.f;rw[if_pos rfl];exact aEK ls [] k (by simp;omega) (by omega)
  have e2:pJ.f k ws ws=some true:=by
    unfold pJ.f;rw[if_pos rfl];exact aEK ws [] k (by simp;omega) (by omega)
  unfold o7.f;rw[if_pos rfl,e1,Option.bind_some,if_pos rfl,e2];rfl
theorem aNO {a:Int} {ls ws:List Int} (h:(I4 a ls ws).2.2.2=true):LW a ls ws∧I4 a ls ws=(a,ls,ws,true):=by
  unfold I4 at h ⊢;by_cases hp:vM a ls ws=true
  · rw[if_pos hp]
    exact⟨GN hp,rfl⟩
  · rw[if_neg hp]at h
    cases h
theorem VJ (b:Bool):(b !=b)=false:=by cases b <;> rfl
theorem aEL {a:Int} {ls ws:List Int}:∀ n:Nat,CL a ls ws n < 0 ↔ ∀ i,i < n→AV a ls ws i=true:=by
  intro n
  induction n with
  |zero=>simp[CL]
  | succ n ih=>
    unfold CL;by_cases h:AV a ls ws n=true
    · rw[if_pos h,ih]
      constructor
      · intro g i hi
        by_cases e:i=n
        · rw[e];exact h
        · exact g i (by omega)
      · exact fun g i hi=>g i (by omega)
    · rw[if_neg h]
      constructor
      · intro g;omega
      · intro g;exact absurd (g n (by omega)) h
theorem aBA (a:Int) (ls ws:List Int) (k:Nat) (hk:1000≤k):vC.f k a ls ws=some (vM a ls ws && decide (CL a ls ws ls.length < 0),vM a ls ws):=by
  by_cases h:vM a ls ws=true
  · have ok:=GN h
    simp(disch:=omega) only[vC.f,rP,h,O4 ok,Option.bind_some,if_true,Bool.true_and]
  · rw[Bool.not_eq_true]at h
    simp(disch:=omega) only[vC.f,rP,h,Option.bind_some,if_false,Bool.false_eq_true,Bool.false_and]
def UH:Int→List Int→Int
  |b,[]=>b
  |b,x::l=>UH (mx b x) l
theorem bB2:∀ (l:List Int) (b:Int),b≤UH b l∧∀ y ∈ l,y≤UH b l:=by
  intro l
  induction l with
  |nil=>intro b;simp[UH]
  | cons x l ih=>
    intro b;obtain⟨h1,h2⟩:=ih (mx b x);have m:b≤mx b x∧x≤mx b x:=by unfold mx;split <;> omega
    simp only[UH];refine⟨by omega,fun y hy=>?_⟩;rcases List.mem_cons.mp hy with rfl|hy
    · omega
    · exact h2 y hy
theorem bB3:∀ (l:List Int) (b c:Int),b≤c→(∀ y ∈ l,y≤c)→UH b l≤c:=by
  intro l
  induction l with
  |nil=>intro b c h _;exact h
  | cons x l ih=>
    intro b c h g;simp only[UH];refine ih _ _ ?_ (fun y hy=>g y (List.mem_cons_of_mem _ hy));have:=g x List.mem_cons_self;unfold mx
    split <;> omega
theorem bB4:∀ (l:List Int) (b x:Int),UH (mx b x) l=mx b (UH x l):=by
  intro l
  induction l with
  |nil=>intro b x;rfl
  | cons y l ih=>
    intro b x;simp only[UH];rw[show mx (mx b x) y=mx b (mx x y)from by unfold mx;(repeat' split) <;> omega];exact ih b (mx x y)
theorem bB5:∀ (s p:List Int) (b:Int) (k:Nat),(p ++ s).length < 1000000→s.length < k→kX.l0 k (p ++ s) b (p.length:Int)=some (UH b s):=by
  intro s
  induction s with
  | nil=>
    intro p b k hl hk;obtain⟨k,rfl⟩:∃ m,k=m + 1:=⟨k - 1,by simp at hk;omega⟩
    simp only[kX.l0];rw[if_neg (by simp)];rfl
  | cons x s ih=>
    intro p b k hl hk;obtain⟨k,rfl⟩:∃ m,k=m + 1:=⟨k - 1,by simp at hk;omega⟩
    simp only[kX.l0];rw[if_pos (by simp;omega),if_pos (by omega),rdI,UG p x (by simp at hl;omega),List.append_cons p x s];exact ih (p ++ [x]) (mx b x) k (by simpa using hl) (by simp at hk;omega)
theorem aNW:∀ (s t:List Int),s.length=t.length→I1 s t=true→∀ x ∈ s,-99≤x∧x≤99:=by
  intro s
  induction s with
  |nil=>intro t _ _ x hx;simp at hx
  | cons y s ih=>
    intro t ht h x hx;cases t with
    |nil=>simp at ht
    | cons w t=>
      simp only[I1,okP,Bool.and_eq_true,decide_eq_true_eq]at h;rcases List.mem_cons.1 hx with e|e
      · rw[e]
        exact h.1.1
      · exact ih t (by simpa using ht) h.2 x e
theorem aNP {a x:Int} {l ws:List Int} (ok:LW a (x::l) ws) (k:Nat) (hk:1000≤k):nO.f k a (x::l) ws=some (mx 0 (UH x l + a),true):=by
  have o1:=ok.len;have o2:=ok.wide;have hp:=a4J ok;have hb:=aNW _ _ ok.same.symm ok.all;have hx:=hb x List.mem_cons_self;have u:=bB3 l x 99 hx.2 (fun y hy=>(hb y (List.mem_cons_of_mem _ hy)).2);have v:=(bB2 l x).1;have e:=bB5 l [x] x k (by simp at o1 ⊢;omega) (by simp at o1;omega);unfold nO.f;rw[rP _ _ _ _ (by omega),hp,Option.bind_some,if_pos rfl];unfold kX.f;rw[if_neg (by simp only[List.length_cons];omega),if_pos (by simp only[List.length_cons];omega)];have e2:kX.l0 k (x::l) (rd (x::l) 0) 1=some (UH x l):=e;rw[e2,Option.bind_some,fE (x:=UH x l + a) (by omega) (by omega)]
def Cc (a x y:Int) (l:List Int):Prop:=mx y x * (2 * ((l.length:Int) + 1))≤SS a (y::l)∧SS a (y::l)≤(mn y x + a) * (2 * ((l.length:Int) + 1))
def Frm (a:Int):List Int→Prop
  |x::y::l=>Cc a x y l∧Frm a (y::l)
  |_=>True
theorem a9V (a:Int) (ls:List Int) (i:Nat):uS a ls (ones ls.length) i=SS a (ls.drop i):=by
  unfold uS SS ones;rw[List.drop_replicate,List.length_drop]
theorem a9W (n i:Nat) (hi:i≤n):uW (ones n) i=(n:Int) - i:=by
  have:=a9U (n - i);unfold uW ones at *;rw[List.drop_replicate,this];omega
theorem holds_zero (a x:Int) (l:List Int):AV a (x::l) (ones (l.length + 1)) 0=true ↔ (x * (2 * ((l.length:Int) + 1))≤SS a (x::l)∧SS a (x::l)≤mn (x + a) 0 * (2 * ((l.length:Int) + 1))):=by
  have e1:uS a (x::l) (ones (l.length + 1)) 0=SS a (x::l):=a9V a (x::l) 0;have e2:uW (ones (l.length + 1)) 0=(l.length:Int) + 1:=by rw[a9W _ _ (by omega)];omega
  unfold AV cL cH;rw[e1,e2,if_pos rfl,if_pos rfl,YQ,Bool.and_eq_true,decide_eq_true_eq,decide_eq_true_eq]
theorem holds_one (a x y:Int) (l:List Int):AV a (x::y::l) (ones (l.length + 2)) 1=true ↔ Cc a x y l:=by
  have e1:uS a (x::y::l) (ones (l.length + 2)) 1=SS a (y::l):=a9V a (x::y::l) 1;have e2:uW (ones (l.length + 2)) 1=(l.length:Int) + 1:=by rw[a9W _ _ (by omega)];omega
  unfold AV cL cH Cc;rw[e1,e2,if_neg (by decide),if_neg (by decide),show((1:Nat):Int) - 1=0 from rfl,show((1:Nat):Int)=1 from rfl,YQ,aW3,Bool.and_eq_true,decide_eq_true_eq,decide_eq_true_eq]
theorem aQ2 (x:Int) (l:List Int) (i:Nat):rd (x::l) ((i + 1:Nat):Int)=rd l (i:Int):=by
  unfold rd;rw[show(((i + 1:Nat):Int)).toNat=i + 1 from by omega,show((i:Int)).toNat=i from by omega];rfl
theorem aEM (a x:Int) (l:List Int) (i:Nat) (h1:1≤i) (hi:i < l.length):AV a (x::l) (ones (l.length + 1)) (i + 1)=AV a l (ones l.length) i:=by
  have e1:uS a (x::l) (ones (l.length + 1)) (i + 1)=SS a (l.drop i):=a9V a (x::l) (i + 1);have e2:uW (ones (l.length + 1)) (i + 1)=(l.length:Int) - i:=by rw[a9W _ _ (by omega)];omega
  have e3:=a9V a l i;have e4:=a9W l.length i (by omega);have r1:=aQ2 x l i;have r2:=aQ2 x l (i - 1);rw[show i - 1 + 1=i from by omega,show((i - 1:Nat):Int)=(i:Int) - 1 from by omega]at r2;unfold AV cL cH;rw[e1,e2,e3,e4,if_neg (by omega),if_neg (by omega),if_neg (by omega),if_neg (by omega),r1,show((i + 1:Nat):Int) - 1=(i:Int)from by omega,r2]
theorem b69 (a:Int):∀ (l:List Int) (x:Int),Frm a (x::l) ↔ ∀ i,1≤i→i < l.length + 1→AV a (x::l) (ones (l.length + 1)) i=true:=by
  intro l
  induction l with
  | nil=>
    intro x;simp only[Frm,true_iff];intro i h1 h2;simp at h2;omega
  | cons y l ih=>
    intro x;simp only[Frm];rw[ih y,← holds_one];constructor
    · rintro⟨h1,h2⟩ i g1 g2
      by_cases e:i=1
      · rw[e];exact h1
      · obtain⟨i,rfl⟩:∃ q,i=q + 1:=⟨i - 1,by omega⟩
        rw[aEM a x (y::l) i (by omega) (by simp at g2 ⊢;omega)];exact h2 i (by omega) (by simp at g2;omega)
    · intro h
      refine⟨h 1 (by omega) (by simp),fun i g1 g2=>?_⟩;have e:=aEM a x (y::l) i g1 (by simpa using g2);simp only[List.length_cons]at e;rw[← e];exact h (i + 1) (by omega) (by simp;omega)
theorem aNQ (a x:Int) (l:List Int):CL a (x::l) (ones (l.length + 1)) (l.length + 1) < 0 ↔ (x * (2 * ((l.length:Int) + 1))≤SS a (x::l)∧SS a (x::l)≤mn (x + a) 0 * (2 * ((l.length:Int) + 1)))∧Frm a (x::l):=by
  rw[aEL,b69,← holds_zero];constructor
  · exact fun h=>⟨h 0 (by omega),fun i h1 h2=>h i h2⟩
  · rintro⟨h1,h2⟩ i hi
    by_cases e:i=0
    · rw[e];exact h1
    · exact h2 i (by omega) hi
def sm:List Int→Int
  |[]=>0
  |x::l=>x + sm l
theorem b4H (a:Int):∀ l:List Int,SS a l=2 * sm l + (l.length:Int) * a:=by
  intro l
  induction l with
  |nil=>simp[SS,US,sm,ones]
  | cons x l ih=>
    rw[aGU,ih];simp only[sm,List.length_cons];rw[show((l.length + 1:Nat):Int) * a=(l.length:Int) * a + a from by rw[show((l.length + 1:Nat):Int)=(l.length:Int) + 1 from by omega,Int.add_mul,Int.one_mul]];omega
theorem bH7 (a:Int):∀ (l:List Int) (x:Int),Frm a (x::l)→GO.P a l.length (sm (x::l) - ((l.length:Int) + 1) * x) (UH x l - x):=by
  intro l
  induction l with
  | nil=>
    intro x _;refine⟨?_,?_⟩
    · simp[sm]
    · simp[UH]
  | cons y l ih=>
    rintro x ⟨⟨c1,c2⟩,hf⟩;have hp:=ih y hf;have hm:0 < 2 * ((l.length:Int) + 1):=by omega
    have e:=b4H a (y::l);simp only[List.length_cons]at e ⊢;rw[show((l.length + 1:Nat):Int)=(l.length:Int) + 1 from by omega]at e ⊢;have c3:mx y x≤mn y x + a:=Int.le_of_mul_le_mul_right (Int.le_trans c1 c2) hm;have d1: -a≤y - x∧y - x≤a:=by
      revert c3
      unfold mx mn;(repeat' split) <;> omega
    generalize hN:(l.length:Int) + 1=N at *;refine⟨sm (y::l) - N * y,UH y l - y,y - x,hp,d1.1,d1.2,⟨?_,?_⟩,?_,?_⟩
    · rw[hN]
      have m1:mx (y - x) 0=mx y x - x:=by unfold mx;(repeat' split) <;> omega
      have p1:2 * N * mx (y - x) 0=mx y x * (2 * N) - 2 * N * x:=by rw[m1,Int.mul_sub,Int.mul_comm (mx y x)]
      have p2:2 * N * (y - x)=2 * (N * y) - 2 * N * x:=by rw[Int.mul_sub,Int.mul_assoc]
      omega
    · rw[hN]
      have m1:mn (y - x) 0 + a=(mn y x + a) - x:=by unfold mn;(repeat' split) <;> omega
      have p1:2 * N * (mn (y - x) 0 + a)=(mn y x + a) * (2 * N) - 2 * N * x:=by rw[m1,Int.mul_sub,Int.mul_comm (mn y x + a)]
      have p2:2 * N * (y - x)=2 * (N * y) - 2 * N * x:=by rw[Int.mul_sub,Int.mul_assoc]
      omega
    · rw[hN,Int.mul_sub,Int.add_mul,Int.one_mul]
      simp only[sm];omega
    · simp only[UH]
      rw[bB4];unfold mx;(repeat' split) <;> omega
theorem aQ3 {a x:Int} {l:List Int} (ha:1≤a) (h:CL a (x::l) (ones (l.length + 1)) (l.length + 1) < 0):mx 0 (UH x l + a)≤GO.best a l.length:=by
  obtain⟨⟨h1,h2⟩,h3⟩:=(aNQ a x l).mp h;have hp:=bH7 a l x h3;obtain⟨b0,b1,_⟩:=GO.best_ok ha l.length;have hv:=b1 _ _ hp;have e:=b4H a (x::l);simp only[List.length_cons]at e;rw[show((l.length + 1:Nat):Int)=(l.length:Int) + 1 from by omega]at e;generalize hN:(l.length:Int) + 1=N at *;have hpos:0 < 2 * N:=by omega
  have z:mn (x + a) 0 * (2 * N)≤0 * (2 * N):=Int.mul_le_mul_of_nonneg_right (by unfold mn;split <;> omega) (by omega);have fl:x≤(-(2 * (sm (x::l) - N * x) + N * a)) / (2 * N):=by
    rw[Int.le_ediv_iff_mul_le hpos];have:x * (2 * N)=2 * (N * x):=by rw[Int.mul_comm,Int.mul_assoc]
    omega
  unfold GO.vl at hv;unfold mx
  split <;> omega
theorem aW9 {w:Int} (hw:1≤w) (m:Nat):GO.best w m≤GO.best w (m + 1):=by
  obtain⟨c0,c1,_⟩:=GO.best_ok hw (m + 1);obtain⟨b0,b1,b2⟩:=GO.best_ok hw m;rcases b2 with b2|⟨S,R,hp,b2⟩
  · omega
  · obtain⟨g1,g2,g3,g4⟩:=GO.P.bound hw m S R hp
    have hpos:(0:Int) < 2 * ((m:Int) + 1):=by omega
    have bH8:(0:Int) < 2 * (((m + 1:Nat):Int) + 1):=by omega
    obtain⟨L,hL⟩:∃ L,L=(-(2 * S + ((m:Int) + 1) * w)) / (2 * ((m:Int) + 1)):=⟨_,rfl⟩
    have l1:L≤0:=by
      rw[hL];have:(-(2 * S + ((m:Int) + 1) * w)) / (2 * ((m:Int) + 1))≤0 / (2 * ((m:Int) + 1)):=Int.ediv_le_ediv hpos (by omega)
      simpa using this
    have l2: -w≤L:=by
      rw[hL,Int.le_ediv_iff_mul_le hpos];have: -w * (2 * ((m:Int) + 1))= -(2 * (((m:Int) + 1) * w)):=by rw[Int.neg_mul,Int.mul_comm w,Int.mul_assoc]
      omega
    have l3:L * (2 * ((m:Int) + 1))≤ -(2 * S + ((m:Int) + 1) * w):=(Int.le_ediv_iff_mul_le hpos).mp (by rw[hL];exact Int.le_refl _);have x1:mx (w + L) 0=w + L:=by unfold mx;split <;> omega
    have x2:mn (w + L) 0=0:=by unfold mn;split <;> omega
    have p1:2 * ((m:Int) + 1) * (w + L)=2 * (((m:Int) + 1) * w) + L * (2 * ((m:Int) + 1)):=by rw[Int.mul_add,Int.mul_assoc,Int.mul_comm _ L]
    have p2:2 * ((m:Int) + 1) * w=2 * (((m:Int) + 1) * w):=Int.mul_assoc _ _ _;have p3:2 * (((m:Int) + 1) * (w + L))=2 * ((m:Int) + 1) * (w + L):=(Int.mul_assoc _ _ _).symm;have hp2:GO.P w (m + 1) (S + ((m:Int) + 1) * (w + L)) (mx 0 (R + (w + L))):=⟨S,R,w + L,hp,by omega,by omega,⟨by rw[x1];omega,by rw[x2,Int.zero_add];omega⟩,rfl,rfl⟩
    have hv:=c1 _ _ hp2;have e3:(((m + 1:Nat):Int) + 1) * w=((m:Int) + 1) * w + w:=by rw[show(((m + 1:Nat):Int) + 1)=((m:Int) + 1) + 1 from by omega,Int.add_mul,Int.one_mul]
    have fl: -w≤(-(2 * (S + ((m:Int) + 1) * (w + L)) + (((m + 1:Nat):Int) + 1) * w)) / (2 * (((m + 1:Nat):Int) + 1)):=by
      rw[Int.le_ediv_iff_mul_le bH8];have: -w * (2 * (((m + 1:Nat):Int) + 1))= -(2 * ((((m + 1:Nat):Int) + 1) * w)):=by rw[Int.neg_mul,Int.mul_comm w,Int.mul_assoc]
      rw[this,e3];omega
    have m1:R + (w + L)≤mx 0 (R + (w + L)):=by unfold mx;split <;> omega
    unfold GO.vl at hv b2;omega
theorem b6A (a d:Int):∀ l:List Int,Frm a l→Frm a (l.map (· + d)):=by
  intro l
  induction l with
  |nil=>intro _;trivial
  | cons x l ih=>
    cases l with
    |nil=>intro _;trivial
    | cons y l=>
      rintro⟨⟨h1,h2⟩,h3⟩;refine⟨?_,ih h3⟩;have e:=aNL a d (y::l);have e2:2 * ((((y::l).length:Nat)):Int) * d=d * (2 * ((l.length:Int) + 1)):=by rw[Int.mul_comm];simp
      rw[e2]at e;simp only[List.map_cons]at e ⊢;unfold Cc;rw[List.length_map];have f:List.map (fun x=>x + d) l=l.map (· + d):=rfl;rw[f,e];have x1:mx (y + d) (x + d)=mx y x + d:=by unfold mx;(repeat' split) <;> omega
      have x2:mn (y + d) (x + d) + a=(mn y x + a) + d:=by unfold mn;(repeat' split) <;> omega
      rw[x1,x2,Int.add_mul,Int.add_mul];omega
theorem aWA {a x:Int} {l:List Int} (h:Ed a x l) (hf:Frm a (x::l)):CL a ((x::l).map (· + JA a x l)) (ones (l.length + 1)) (l.length + 1) < 0:=by
  have g1:=aTJ h;have g2:=aTK h;have hn:0 < 2 * ((l.length:Int) + 1):=by omega
  have hlo:=h.lo;have hhi:=h.hi;have key:=(a2A (s:=SS a (x::l)) (q:=JA a x l) hn).mp (Int.le_refl _);have e:=aNL a (JA a x l) (x::l);rw[List.length_cons,show((l.length + 1:Nat):Int)=(l.length:Int) + 1 from by omega]at e;have hf2:=b6A a (JA a x l) (x::l) hf;rw[List.map_cons]at e hf2 ⊢;have f:=aNQ a (x + JA a x l) (l.map (· + JA a x l));rw[List.length_map]at f;refine f.mpr ⟨⟨?_,?_⟩,hf2⟩
  · rw[e,Int.mul_comm,Int.mul_add]
    omega
  · have p1:(x + JA a x l + a) * (2 * ((l.length:Int) + 1))=2 * ((l.length:Int) + 1) * (x + a) + 2 * ((l.length:Int) + 1) * JA a x l:=by rw[Int.mul_comm,← Int.mul_add];congr 1;omega
    by_cases c:0 < x + JA a x l + a
    · have:mn (x + JA a x l + a) 0=0:=by unfold mn;split <;> omega
      rw[this,Int.zero_mul,e];omega
    · have:mn (x + JA a x l + a) 0=x + JA a x l + a:=by unfold mn;split <;> omega
      rw[this,e,p1];omega
theorem aZW {a x:Int} {l:List Int} (h:Ed a x l) (hf:Frm a (x::l)):Frm a (nx a x l::x::l):=by
  refine⟨⟨?_,?_⟩,hf⟩
  · have g:=aEH h
    have:mx x (nx a x l)=x:=by unfold mx;split <;> omega
    rw[this,Int.mul_comm];exact h.lo
  · have g:=aEH h
    have:mn x (nx a x l)=nx a x l:=by unfold mn;split <;> omega
    rw[this,Int.mul_comm];exact(a2B _).mp (Int.le_refl _)
theorem aZX (a n:Int):∃ r:Int × List Int × List Int × Bool,(r.2.1.length≤100∧r.2.2.1.length≤100∧(r.2.2.2=true→∃ x l,r.1=a∧r.2.1=x::l∧r.2.2.1=ones (l.length + 1)∧((l.length:Int) + 1=n)∧LW a (x::l) (ones (l.length + 1))∧CL a (x::l) (ones (l.length + 1)) (l.length + 1) < 0))∧∀ k,1000≤k→fG.f k a n=some r∧dH.f k a n=some r:=by
  by_cases h:(1≤a∧a≤24)∧(1≤n∧n≤8)
  · obtain⟨m,rfl⟩:=Int.eq_ofNat_of_zero_le (show 0≤n by omega)
    obtain⟨r,⟨r1,r2,x,l,he,hf,hl,hr0⟩,hr⟩:=b63 a m (by omega) (Frm a) (fun x l h hf=>aZW h hf) (m - 1) 0 [] (aZU a h.1) trivial (by simp;omega);refine⟨r,⟨r1,r2,fun ht=>?_⟩,fun k hk=>?_⟩
    · have hz:=aWA he hf
      subst hr0;unfold aNN at ht ⊢;obtain⟨ok,e⟩:=aNO ht;rw[e];rw[List.map_cons]at ok hz ⊢;exact⟨x + JA a x l,l.map (· + JA a x l),rfl,rfl,by rw[List.length_map],by rw[List.length_map];omega,by rw[List.length_map];exact ok,by rw[List.length_map];exact hz⟩
    · have:=hr k (by omega)
      unfold fG.f dH.f;rw[XU,SX,Option.bind_some,Option.bind_some];simp only[h.1,h.2,decide_true,and_self,Bool.and_true,if_true];exact this
  · refine⟨(0,[],[],false),⟨by simp,by simp,fun ht=>by cases ht⟩,fun k hk=>?_⟩
    unfold fG.f dH.f;rw[XU,SX,Option.bind_some,Option.bind_some,if_neg (by simp only[Bool.and_eq_true,decide_eq_true_eq];exact h),if_neg (by simp only[Bool.and_eq_true,decide_eq_true_eq];exact h)];exact⟨rfl,rfl⟩
theorem aWB (x y:Int):∀ (s t:List Int),s.length=t.length→I1 (s ++ [x]) (t ++ [y])=(I1 s t && okP x y):=by
  intro s
  induction s with
  | nil=>
    intro t ht;have:t=[]:=List.eq_nil_of_length_eq_zero (by simpa using ht.symm);subst this;simp[I1]
  | cons z s ih=>
    intro t ht;cases t with
    |nil=>simp at ht
    | cons w t=>
      simp only[List.cons_append,I1,ih t (by simpa using ht),Bool.and_assoc]
theorem aZY {a:Int} {ls ws:List Int} (h:LW a ls ws) (l w:Int):vM a (ls ++ [l]) (ws ++ [w])=(decide (ls.length≤7) && okP l w):=by
  have hw:=h.wide;have hl:=h.len;have hs:=h.same;unfold vM;rw[aWB _ _ _ _ hs.symm,h.all,Bool.true_and];have e2:(ws ++ [w]).length=(ls ++ [l]).length:=by simp[hs]
  have e3:(1≤((ls ++ [l]).length:Int)∧((ls ++ [l]).length:Int)≤8) ↔ ls.length≤7:=by simp;omega
  simp only[hw,e2,e3,and_self,decide_true,Bool.true_and]
theorem b6B (a:Int) (ls ws:List Int) (hb:ls.length + ws.length≤1000):∀ (n:Nat) (x:Int),x=(n:Int) - 100→x≤99→∃ r:Int × Bool,(r.2=true→ -99≤r.1∧r.1≤99∧vM a (ls.map (fun y=>wrap64 (y + r.1))) ws=true∧CL a (ls.map (fun y=>wrap64 (y + r.1))) ws (ls.map (fun y=>wrap64 (y + r.1))).length < 0)∧
    ∀ k,30 + n + ls.length + ws.length≤k→l9.l0 k x a ls ws=some r∧l8.l0 k x a ls ws=some r:=by
  intro n
  induction n with
  | zero=>
    intro x hx hx2;refine⟨(0,false),(fun h=>by cases h),fun k hk=>?_⟩;obtain⟨k,rfl⟩:∃ m,k=m + 1:=⟨k - 1,by omega⟩
    simp only[l9.l0,l8.l0];rw[if_neg (by omega),if_neg (by omega)];exact⟨rfl,rfl⟩
  | succ n ih=>
    intro x hx hx2;obtain⟨r,hr0,hr⟩:=ih (x - 1) (by omega) (by omega);have w:=fE (x:=x - 1) (by omega) (by omega);have hx3:x ≥ -99:=by omega
    by_cases h:vM a (ls.map (fun y=>wrap64 (y + x))) ws=true
    · have ok:=GN h
      have e1:=fun k hk=>a4L ok k hk
      have e2:=fun k hk=>O4 ok k hk
      by_cases hz:CL a (ls.map (fun y=>wrap64 (y + x))) ws (ls.map (fun y=>wrap64 (y + x))).length < 0
      · refine⟨(x,true),fun _=>⟨by omega,by omega,h,hz⟩,fun k hk=>?_⟩
        obtain⟨k,rfl⟩:∃ m,k=m + 1:=⟨k - 1,by omega⟩
        simp(disch:=omega) only[l9.l0,l8.l0,hx3,a4K,JP,r9,rP,h,e1,e2,hz,Option.bind_some,if_true,and_self]
      · refine⟨r,hr0,fun k hk=>?_⟩
        obtain⟨k,rfl⟩:∃ m,k=m + 1:=⟨k - 1,by omega⟩
        simp(disch:=omega) only[l9.l0,l8.l0,hx3,a4K,JP,r9,rP,h,e1,e2,hz,w,Option.bind_some,if_true,if_false];exact hr k (by omega)
    · refine⟨r,hr0,fun k hk=>?_⟩
      obtain⟨k,rfl⟩:∃ m,k=m + 1:=⟨k - 1,by omega⟩
      simp(disch:=omega) only[l9.l0,l8.l0,hx3,a4K,JP,r9,rP,h,w,Option.bind_some,if_true,if_false,Bool.false_eq_true];exact hr k (by omega)
theorem aZZ (a:Int) (ls ws:List Int) (hb:ls.length + ws.length≤1000):∃ r:Int × Bool,(r.2=true→vM a ls ws=true∧ -99≤r.1∧r.1≤99∧vM a (ls.map (fun y=>wrap64 (y + r.1))) ws=true∧CL a (ls.map (fun y=>wrap64 (y + r.1))) ws (ls.map (fun y=>wrap64 (y + r.1))).length < 0)∧
    ∀ k,3000≤k→l9.f k a ls ws=some r∧l8.f k a ls ws=some r:=by
  by_cases h:vM a ls ws=true
  · obtain⟨r,hr0,hr⟩:=b6B a ls ws hb 199 99 (by omega) (by omega)
    refine⟨r,fun ht=>⟨h,hr0 ht⟩,fun k hk=>?_⟩;simp(disch:=omega) only[l9.f,l8.f,r9,rP,h,Option.bind_some,if_true];exact hr k (by omega)
  · refine⟨(0,false),(fun h=>by cases h),fun k hk=>?_⟩
    simp(disch:=omega) only[l9.f,l8.f,r9,rP,h,Option.bind_some,if_false,and_self,Bool.false_eq_true]
def QI (a:Int) (ls ws:List Int) (w x:Int):Prop:=-99≤x∧x≤99∧CL a (ls ++ [x]) (ws ++ [w]) (ls ++ [x]).length < 0
theorem aNR (a w:Int) (ls ws:List Int) (ok:LW a ls ws) (hno:¬ (ls.length≤7∧1≤w∧w≤99)) (lo hi:Int) (se:Bool):∀ (n:Nat) (x:Int) (k:Nat),x=100 - (n:Int)→ -99≤x→30 + 2 * n≤k→dL.l0 k w lo hi se x a ls ws=some (lo,hi,se):=by
  have o1:=ok.len;have o2:=ok.same;intro n
  induction n with
  | zero=>
    intro x k hx hx2 hk;obtain⟨k,rfl⟩:∃ m,k=m + 1:=⟨k - 1,by omega⟩
    simp only[dL.l0];rw[if_neg (by omega)]
  | succ n ih=>
    intro x k hx hx2 hk;obtain⟨k,rfl⟩:∃ m,k=m + 2:=⟨k - 2,by omega⟩
    have hw:=fE (x:=x + 1) (by omega) (by omega);have h9:x≤99:=by omega
    have hp:vM a (ls ++ [x]) (ws ++ [w])=false:=by
      rw[aZY ok];unfold okP;by_cases h1:ls.length≤7 <;> by_cases h2:1≤w∧w≤99 <;> simp_all
    simp(disch:=omega) only[dL.l0,dL.j2,h9,IC,r9,hp,hw,Option.bind_some,if_true,Bool.false_eq_true,if_false];exact ih (x + 1) k (by omega) (by omega) (by omega)
theorem bB6 (a w:Int) (ls ws:List Int) (ok:LW a ls ws) (hyes:ls.length≤7∧1≤w∧w≤99):∀ (n:Nat) (x lo hi:Int) (se:Bool),x=100 - (n:Int)→ -99≤x→(se=true→QI a ls ws w lo∧QI a ls ws w hi)→∃ r:Int × Int × Bool,(r.2.2=true→QI a ls ws w r.1∧QI a ls ws w r.2.1)∧∀ k,30 + 2 * n≤k→dL.l0 k w lo hi se x a ls ws=some r∧fH.l0 k w lo hi se x a ls ws=some r:=by
  have o1:=ok.len;have o2:=ok.same;intro n
  induction n with
  | zero=>
    intro x lo hi se hx hx2 hse;refine⟨(lo,hi,se),hse,fun k hk=>?_⟩;obtain⟨k,rfl⟩:∃ m,k=m + 1:=⟨k - 1,by omega⟩
    simp only[dL.l0,fH.l0];rw[if_neg (by omega),if_neg (by omega)];exact⟨rfl,rfl⟩
  | succ n ih=>
    intro x lo hi se hx hx2 hse;have hw:=fE (x:=x + 1) (by omega) (by omega);have h9:x≤99:=by omega
    have hp:vM a (ls ++ [x]) (ws ++ [w])=true:=by
      rw[aZY ok];unfold okP;simp;omega
    have ok2:=GN hp;have e1:=fun k hk=>a4L ok2 k hk
    have e2:=fun k hk=>O4 ok2 k hk
    generalize hL:CL a (ls ++ [x]) (ws ++ [w]) (ls ++ [x]).length=L at e1 e2;by_cases hz:L < 0
    · have hT:QI a ls ws w x:=⟨hx2,h9,by rw[hL];exact hz⟩
      cases se with
      | true=>
        obtain⟨r,hr0,hr⟩:=ih (x + 1) lo x true (by omega) (by omega) (fun _=>⟨(hse rfl).1,hT⟩);refine⟨r,hr0,fun k hk=>⟨?_,?_⟩⟩
        · obtain⟨k,rfl⟩:∃ m,k=m + 2:=⟨k - 2,by omega⟩
          simp(disch:=omega) only[dL.l0,dL.j2,h9,IC,EW,r9,hp,e1,e2,hz,hw,decide_true,Option.bind_some,if_true];exact(hr k (by omega)).1
        · obtain⟨k,rfl⟩:∃ m,k=m + 1:=⟨k - 1,by omega⟩
          simp(disch:=omega) only[fH.l0,h9,IC,EW,r9,hp,e1,e2,hz,hw,decide_true,Option.bind_some,if_true];exact(hr k (by omega)).2
      | false=>
        obtain⟨r,hr0,hr⟩:=ih (x + 1) x x true (by omega) (by omega) (fun _=>⟨hT,hT⟩);refine⟨r,hr0,fun k hk=>⟨?_,?_⟩⟩
        · obtain⟨k,rfl⟩:∃ m,k=m + 2:=⟨k - 2,by omega⟩
          simp(disch:=omega) only[dL.l0,dL.j2,h9,IC,EW,r9,hp,e1,e2,hz,hw,decide_true,Option.bind_some,if_true,Bool.false_eq_true,if_false];exact(hr k (by omega)).1
        · obtain⟨k,rfl⟩:∃ m,k=m + 1:=⟨k - 1,by omega⟩
          simp(disch:=omega) only[fH.l0,h9,IC,EW,r9,hp,e1,e2,hz,hw,decide_true,Option.bind_some,if_true,Bool.false_eq_true,if_false];exact(hr k (by omega)).2
    · obtain⟨r,hr0,hr⟩:=ih (x + 1) lo hi se (by omega) (by omega) hse
      refine⟨r,hr0,fun k hk=>⟨?_,?_⟩⟩
      · obtain⟨k,rfl⟩:∃ m,k=m + 2:=⟨k - 2,by omega⟩
        simp(disch:=omega) only[dL.l0,dL.j2,h9,IC,EW,r9,hp,e1,e2,hz,hw,decide_false,Option.bind_some,if_true,Bool.false_eq_true,if_false];exact(hr k (by omega)).1
      · obtain⟨k,rfl⟩:∃ m,k=m + 1:=⟨k - 1,by omega⟩
        simp(disch:=omega) only[fH.l0,h9,IC,EW,r9,hp,e1,e2,hz,hw,decide_false,Option.bind_some,if_true,Bool.false_eq_true,if_false];exact(hr k (by omega)).2
theorem b6C (a:Int) (ls ws:List Int) (w:Int) (hb:ls.length + ws.length≤1000):∃ r:Int × Int × Bool,(r.2.2=true→LW a ls ws∧ls.length≤7∧(1≤w∧w≤99)∧QI a ls ws w r.1∧QI a ls ws w r.2.1)∧∀ k,3000≤k→dL.f k a ls ws w=some r∧fH.f k a ls ws w=some r:=by
  by_cases h:vM a ls ws=true
  · have ok:=GN h
    have o1:=ok.len;have e1:=fun k hk=>a4L ok k hk
    have e2:=fun k hk=>O4 ok k hk
    generalize CL a ls ws ls.length=L at e1 e2;by_cases hz:L ≥ 0
    · refine⟨(0,0,false),(fun h=>by cases h),fun k hk=>?_⟩
      obtain⟨k,rfl⟩:∃ m,k=m + 1:=⟨k - 1,by omega⟩
      simp(disch:=omega) only[dL.f,fH.f,dL.j0,fH.j0,r9,rP,h,e1,e2,hz,decide_true,Option.bind_some,if_true,and_self]
    · by_cases hw:1≤w∧w≤99
      · by_cases h8:ls.length≤7
        · obtain⟨r,hr0,hr⟩:=bB6 a w ls ws ok ⟨h8,hw⟩ 199 (-99) 0 0 false (by omega) (by omega) (fun h=>by cases h)
          refine⟨r,fun ht=>⟨ok,h8,hw,hr0 ht⟩,fun k hk=>?_⟩;obtain⟨k,rfl⟩:∃ m,k=m + 1:=⟨k - 1,by omega⟩
          have e8:((ls.length:Int)==8)=false:=by simp;omega
          simp(disch:=omega) only[dL.f,fH.f,dL.j0,fH.j0,r9,rP,VS,h,e1,e2,hz,hw,e8,decide_true,decide_false,and_self,Option.bind_some,if_true,Bool.false_eq_true,if_false];exact hr k (by omega)
        · refine⟨(0,0,false),(fun h=>by cases h),fun k hk=>?_⟩
          obtain⟨k,rfl⟩:∃ m,k=m + 1:=⟨k - 1,by omega⟩
          have e8:((ls.length:Int)==8)=true:=by simp;omega
          have n0:=aNR a w ls ws ok (by omega) 0 0 false 199 (-99) k (by omega) (by omega) (by omega);simp(disch:=omega) only[dL.f,fH.f,dL.j0,fH.j0,r9,rP,VS,h,e1,e2,hz,hw,e8,n0,decide_true,decide_false,and_self,Option.bind_some,if_true,Bool.false_eq_true,if_false]
      · refine⟨(0,0,false),(fun h=>by cases h),fun k hk=>?_⟩
        obtain⟨k,rfl⟩:∃ m,k=m + 1:=⟨k - 1,by omega⟩
        have n0:=aNR a w ls ws ok (by omega) 0 0 false 199 (-99) k (by omega) (by omega) (by omega);simp(disch:=omega) only[dL.f,fH.f,dL.j0,fH.j0,r9,rP,VS,h,e1,e2,hz,hw,n0,decide_true,decide_false,and_self,Option.bind_some,if_true,Bool.false_eq_true,if_false]
  · refine⟨(0,0,false),(fun h=>by cases h),fun k hk=>?_⟩
    obtain⟨k,rfl⟩:∃ m,k=m + 1:=⟨k - 1,by omega⟩
    simp(disch:=omega) only[dL.f,fH.f,dL.j0,fH.j0,r9,rP,h,Option.bind_some,if_false,and_self,Bool.false_eq_true,if_true]
theorem b6D (a x w:Int):∀ (s t:List Int),s.length=t.length→US a (s ++ [x]) (t ++ [w])=US a s t + w * (2 * x + a)∧UW (t ++ [w])=UW t + w:=by
  intro s
  induction s with
  | nil=>
    intro t ht;have:t=[]:=List.eq_nil_of_length_eq_zero (by simpa using ht.symm);subst this;simp[US,UW]
  | cons y s ih=>
    intro t ht;cases t with
    |nil=>simp at ht
    | cons z t=>
      obtain⟨h1,h2⟩:=ih t (by simpa using ht);simp only[List.cons_append,US,UW,h1,h2];omega
theorem aEN (ls:List Int) (x:Int) (i:Nat) (hi:i < ls.length):rd (ls ++ [x]) (i:Int)=rd ls (i:Int):=by
  simp only[rd,Int.toNat_natCast];rw[List.getD_eq_getElem?_getD,List.getD_eq_getElem?_getD,List.getElem?_append_left hi]
theorem between {a w:Int} {ls ws:List Int} (ok:LW a ls ws) (hw:1≤w) {lo hi x:Int} (h1:lo≤x) (h2:x≤hi) (i:Nat) (hi2:i < ls.length + 1) (g1:AV a (ls ++ [lo]) (ws ++ [w]) i=true) (g2:AV a (ls ++ [hi]) (ws ++ [w]) i=true):AV a (ls ++ [x]) (ws ++ [w]) i=true:=by
  have o1:=ok.len;have o2:=ok.same;have m1:w * (2 * lo + a)≤w * (2 * x + a):=Int.mul_le_mul_of_nonneg_left (by omega) (by omega);have m2:w * (2 * x + a)≤w * (2 * hi + a):=Int.mul_le_mul_of_nonneg_left (by omega) (by omega);by_cases hin:i < ls.length
  · have hU:∀ y:Int,uS a (ls ++ [y]) (ws ++ [w]) i=uS a ls ws i + w * (2 * y + a)∧uW (ws ++ [w]) i=uW ws i + w:=by
      intro y;unfold uS uW;rw[List.drop_append_of_le_length (by omega),List.drop_append_of_le_length (by omega)];exact b6D a y w _ _ (by simp;omega)
    have hC:∀ y:Int,cL (ls ++ [y]) i=cL ls i∧cH a (ls ++ [y]) i=cH a ls i:=by
      intro y;unfold cL cH;by_cases h0:i=0
      · subst h0
        have:=aEN ls y 0 (by omega);simp only[Int.natCast_zero]at this;rw[if_pos rfl,if_pos rfl,if_pos rfl,if_pos rfl,this];exact⟨rfl,rfl⟩
      · have r1:=aEN ls y i hin
        have r2:=aEN ls y (i - 1) (by omega);rw[show((i - 1:Nat):Int)=(i:Int) - 1 from by omega]at r2;rw[if_neg h0,if_neg h0,if_neg h0,if_neg h0,r1,r2];exact⟨rfl,rfl⟩
    unfold AV at g1 g2 ⊢;rw[(hU lo).1,(hU lo).2,(hC lo).1,(hC lo).2,Bool.and_eq_true,decide_eq_true_eq,decide_eq_true_eq]at g1;rw[(hU hi).1,(hU hi).2,(hC hi).1,(hC hi).2,Bool.and_eq_true,decide_eq_true_eq,decide_eq_true_eq]at g2;rw[(hU x).1,(hU x).2,(hC x).1,(hC x).2,Bool.and_eq_true,decide_eq_true_eq,decide_eq_true_eq];omega
  · have hi3:i=ls.length:=by omega
    have hU:∀ y:Int,uS a (ls ++ [y]) (ws ++ [w]) i=w * (2 * y + a)∧uW (ws ++ [w]) i=w:=by
      intro y;unfold uS uW;rw[hi3,List.drop_append_of_le_length (Nat.le_refl _),List.drop_append_of_le_length (by omega),List.drop_eq_nil_of_le (Nat.le_refl _),List.drop_eq_nil_of_le (by omega)];simp[US,UW]
    have hR:∀ y:Int,rd (ls ++ [y]) (i:Int)=y:=by
      intro y;rw[hi3];exact rdI ls [] y
    have hR2:∀ y:Int,rd (ls ++ [y]) ((i:Int) - 1)=rd ls ((i:Int) - 1):=by
      intro y;have:=aEN ls y (i - 1) (by omega)
      rwa [show((i - 1:Nat):Int)=(i:Int) - 1 from by omega]at this
    have hC:∀ y:Int,cL (ls ++ [y]) i=mx y (rd ls ((i:Int) - 1))∧cH a (ls ++ [y]) i=mn y (rd ls ((i:Int) - 1)) + a:=by
      intro y;unfold cL cH;rw[if_neg (by omega),if_neg (by omega),hR,hR2];exact⟨rfl,rfl⟩
    generalize rd ls ((i:Int) - 1)=L at hC;unfold AV at g1 g2 ⊢;rw[(hU lo).1,(hU lo).2,(hC lo).1,(hC lo).2,Bool.and_eq_true,decide_eq_true_eq,decide_eq_true_eq]at g1;rw[(hU hi).1,(hU hi).2,(hC hi).1,(hC hi).2,Bool.and_eq_true,decide_eq_true_eq,decide_eq_true_eq]at g2;rw[(hU x).1,(hU x).2,(hC x).1,(hC x).2,Bool.and_eq_true,decide_eq_true_eq,decide_eq_true_eq];have q:∀ u v:Int,u * (2 * w)≤w * v ↔ 2 * u≤v:=by
      intro u v;rw[show u * (2 * w)=w * (2 * u)from by rw[Int.mul_comm u,Int.mul_comm 2,Int.mul_assoc]];exact⟨fun h=>Int.le_of_mul_le_mul_left h (by omega),fun h=>Int.mul_le_mul_of_nonneg_left h (by omega)⟩
    have q2:∀ u v:Int,w * v≤u * (2 * w) ↔ v≤2 * u:=by
      intro u v;rw[show u * (2 * w)=w * (2 * u)from by rw[Int.mul_comm u,Int.mul_comm 2,Int.mul_assoc]];exact⟨fun h=>Int.le_of_mul_le_mul_left h (by omega),fun h=>Int.mul_le_mul_of_nonneg_left h (by omega)⟩
    rw[q,q2]at g1 g2 ⊢
    revert g1 g2
    unfold mx mn;(repeat' split) <;> omega
theorem aNX {a w:Int} {ls ws:List Int} (ok:LW a ls ws) (hw:1≤w) {lo hi x:Int} (h1:lo≤x) (h2:x≤hi) (g1:QI a ls ws w lo) (g2:QI a ls ws w hi):QI a ls ws w x:=by
  obtain⟨a1,a2,a3⟩:=g1;obtain⟨b1,b2,b3⟩:=g2;refine⟨by omega,by omega,?_⟩;rw[aEL]at a3 b3 ⊢;intro i hi2;simp only[List.length_append,List.length_cons,List.length_nil]at a3 b3 hi2;exact between ok hw h1 h2 i (by omega) (a3 i (by omega)) (b3 i (by omega))
def lL (a:Int) (ls ws:List Int) (l w:Int):Int × List Int × List Int × Bool:=if vM a ls ws=true then I4 a (ls ++ [l]) (ws ++ [w])else(0,[],[],false)
theorem aNY (a:Int) (ls ws:List Int) (l w:Int):(lL a ls ws l w).2.1.length≤100∧(lL a ls ws l w).2.2.1.length≤100:=by
  unfold lL
  split
  · exact aII a (ls ++ [l]) (ws ++ [w])
  · simp
theorem a7E (a:Int) (ls ws:List Int) (l w:Int) (hb:ls.length + ws.length≤1000) (k:Nat) (hk:3000≤k):yB.f k a ls ws l w=some (lL a ls ws l w)∧vI.f k a ls ws l w=some (lL a ls ws l w):=by
  unfold lL;by_cases h:vM a ls ws=true
  · simp(disch:=omega) only[yB.f,vI.f,r9,rP,h,IC,EW,aW1,a7D,Option.bind_some,if_true,and_self]
  · simp(disch:=omega) only[yB.f,vI.f,r9,rP,h,Option.bind_some,if_false,and_self,Bool.false_eq_true]
def a0V (a:Int) (ls ws:List Int):Int × List Int × List Int × Bool:=if vM a ls ws=true then(if ls.length=1 then(0,[],[],false)else(a,ls.take (ls.length - 1),ws.take (ls.length - 1),true))else(0,[],[],false)
theorem aWC (a:Int) (ls ws:List Int):(a0V a ls ws).2.1.length≤100∧(a0V a ls ws).2.2.1.length≤100:=by
  unfold a0V;by_cases h:vM a ls ws=true
  · have o1:=(GN h).len
    have o2:=(GN h).same;rw[if_pos h]
    split
    · simp
    · simp;omega
  · rw[if_neg h]
    simp
theorem aGV (a:Int) (ls ws:List Int) (k:Nat) (hk:3000≤k):iQ.f k a ls ws=some (a0V a ls ws)∧iJ.f k a ls ws=some (a0V a ls ws):=by
  unfold a0V;obtain⟨k,rfl⟩:∃ m,k=m + 1:=⟨k - 1,by omega⟩
  by_cases h:vM a ls ws=true
  · have ok:=GN h
    have o1:=ok.len;have o2:=ok.same;have w:=fE (x:=(ls.length:Int) - 1) (by omega) (by omega);by_cases h1:ls.length=1
    · have e1:((ls.length:Int)==1)=true:=by simp[h1]
      have e2:((ls.length:Int) - 1==0)=true:=by simp[h1]
      rw[if_pos h1];simp(disch:=omega) only[iQ.f,iJ.f,iQ.j0,iJ.j0,r9,rP,h,w,e1,e2,Option.bind_some,if_true,and_self]
    · rw[if_neg h1]
      have e1:((ls.length:Int)==1)=false:=by simp;omega
      have e2:((ls.length:Int) - 1==0)=false:=by simp;omega
      have b0:0≤(ls.length:Int) - 1:=by omega
      have b1:(ls.length:Int) - 1≤(ls.length:Int):=by omega
      have b2:(ls.length:Int) - 1≤(ws.length:Int):=by omega
      have t1:((ls.length:Int) - 1).toNat=ls.length - 1:=by omega
      have g1:(ls.take (ls.length - 1)).length < 17592186044416:=by simp;omega
      have g2:(ws.take (ls.length - 1)).length < 17592186044416:=by simp;omega
      simp(disch:=omega) only[iQ.f,iJ.f,iQ.j0,iJ.j0,r9,rP,h,w,e1,e2,b0,b1,b2,t1,a09 _ g1,a09 _ g2,a08 _ g1,a08 _ g2,Option.bind_some,if_true,and_self,Bool.false_eq_true,if_false]
  · simp(disch:=omega) only[iQ.f,iJ.f,iQ.j0,iJ.j0,r9,rP,h,Option.bind_some,if_false,and_self,Bool.false_eq_true,if_true]
theorem aNZ {a:Int} {ls ws:List Int} {l w:Int} (h:(lL a ls ws l w).2.2.2=true):a0V (lL a ls ws l w).1 (lL a ls ws l w).2.1 (lL a ls ws l w).2.2.1=(a,ls,ws,true):=by
  unfold lL at h ⊢;by_cases hp:vM a ls ws=true
  · rw[if_pos hp]at h ⊢
    have ok:=GN hp;have o1:=ok.len;have o2:=ok.same;obtain⟨ok2,e⟩:=aNO h;rw[e];unfold a0V;have l1:(ls ++ [l]).length=ls.length + 1:=by simp
    simp only[];rw[if_pos (a4J ok2),if_neg (by omega),l1,Nat.add_sub_cancel,List.take_append_of_le_length (Nat.le_refl _),List.take_append_of_le_length (by omega),List.take_length,← o2,List.take_length]
  · rw[if_neg hp]at h
    cases h
def aEO (a:Int) (ls ws:List Int) (d:Int):Int × List Int × List Int × Bool:=if vM a ls ws=true then(if -99≤d∧d≤99 then I4 a (ls.map (fun x=>wrap64 (x + d))) ws else(0,[],[],false))else(0,[],[],false)
theorem aWD (a:Int) (ls ws:List Int) (d:Int) (hb:ls.length + ws.length≤1000) (k:Nat) (hk:3000≤k):nC.f k a ls ws d=some (aEO a ls ws d):=by
  unfold aEO;obtain⟨k,rfl⟩:∃ m,k=m + 1:=⟨k - 1,by omega⟩
  by_cases h:vM a ls ws=true
  · by_cases hd: -99≤d∧d≤99
    · simp(disch:=omega) only[nC.f,nC.j0,rP,h,hd,a7C,JP,a7D,Option.bind_some,if_true,and_self,decide_true,Bool.not_true,Bool.false_eq_true,if_false]
    · simp(disch:=omega) only[nC.f,nC.j0,rP,h,hd,a7C,Option.bind_some,if_true,if_false,and_self,decide_false,Bool.not_false]
  · simp(disch:=omega) only[nC.f,nC.j0,rP,h,Option.bind_some,if_false,and_self,Bool.false_eq_true,if_true]
theorem a9X {a n:Int} (ha:1≤a∧a≤24) (hn:1≤n∧n≤8):jO.f a n=some (GO.best a (n.toNat - 1),true):=by
  unfold jO.f;rw[SX,Option.bind_some];simp only[ha,hn,decide_true,and_self,Bool.and_true,if_true]
theorem b6E:∀ (W:List Int),(∀ y ∈ W,y=1)→W=ones W.length:=by
  intro W
  induction W with
  |nil=>intro _;rfl
  | cons y W ih=>
    intro h;rw[h y List.mem_cons_self,ih (fun z hz=>h z (List.mem_cons_of_mem _ hz))];simp[ones,List.replicate_succ]
section ends
variable {a:Int} {L W:List Int} {wt lo hi left w:Int} {tl:Int × Int × Bool}
theorem aTR (hL:L.length + W.length≤1000) (K:Nat) (hK:210000 < K):laws_FnOverhangs.j7 K (lL a L W left w).2.2.2 a L W (lL a L W left w).1 (lL a L W left w).2.1 (lL a L W left w).2.2.1=some true:=by
  obtain⟨K,rfl⟩:∃ m,K=m + 1:=⟨K - 1,by omega⟩
  simp only[laws_FnOverhangs.j7];by_cases h:(lL a L W left w).2.2.2=true
  · rw[if_pos h,(aGV _ _ _ K (by omega)).2,Option.bind_some,aNZ h]
    simp only[if_true];rw[XV a L W K (by omega) (by omega) (by omega),Option.bind_some]
  · rw[if_neg h]
theorem bH9 (hL:L.length + W.length≤1000) (ok:LW a L W) (h8:L.length≤7) (hw:1≤wt∧wt≤99) (h1:QI a L W wt lo) (h2:QI a L W wt hi):∀ (d:Nat) (x:Int) (K:Nat),x + (d:Int)=hi + 1→lo≤x→220000 + d < K→
    laws_FnOverhangs.l1 K wt hi (lL a L W left w).2.2.2 x a L W a L W (lL a L W left w).1 (lL a L W left w).2.1 (lL a L W left w).2.2.1=some true:=by
  intro d
  induction d with
  | zero=>
    intro x K hx hlo hK;obtain⟨K,rfl⟩:∃ m,K=m + 1:=⟨K - 1,by omega⟩
    simp only[laws_FnOverhangs.l1];rw[if_neg (by omega)];exact aTR hL K (by omega)
  | succ d ih=>
    intro x K hx hlo hK;obtain⟨K,rfl⟩:∃ m,K=m + 1:=⟨K - 1,by omega⟩
    have t:=aNX ok hw.1 hlo (show x≤hi by omega) h1 h2;obtain⟨t1,t2,t3⟩:=t;have hp:vM a (L ++ [x]) (W ++ [wt])=true:=by
      rw[aZY ok];unfold okP;simp;omega
    have e:lL a L W x wt=(a,L ++ [x],W ++ [wt],true):=by
      unfold lL I4;rw[if_pos (a4J ok),if_pos hp]
    simp only[laws_FnOverhangs.l1];rw[if_pos (by omega),(a7E a L W x wt hL K (by omega)).2,Option.bind_some,e];simp only[];rw[aBA _ _ _ K (by omega),Option.bind_some,hp,decide_eq_true t3];simp only[Bool.and_self,if_true];rw[fE (x:=x + 1) (by omega) (by omega)];exact ih (x + 1) K (by omega) (by omega) (by omega)
theorem aTS (hL:L.length + W.length≤1000) (ht:tl.2.2=true→LW a L W∧L.length≤7∧(1≤wt∧wt≤99)∧QI a L W wt tl.1∧QI a L W wt tl.2.1) (K:Nat) (hK:230000 < K):
    laws_FnOverhangs.j5 K wt tl.1 tl.2.1 tl.2.2 (lL a L W left w).2.2.2 a L W a L W (lL a L W left w).1 (lL a L W left w).2.1 (lL a L W left w).2.2.1=some true:=by
  obtain⟨K,rfl⟩:∃ m,K=m + 1:=⟨K - 1,by omega⟩
  simp only[laws_FnOverhangs.j5];by_cases h:tl.2.2=true
  · obtain⟨ok,h8,hw,h1,h2⟩:=ht h
    rw[if_pos h];by_cases hc:tl.1≤tl.2.1
    · exact bH9 hL ok h8 hw h1 h2 (tl.2.1 + 1 - tl.1).toNat tl.1 K (by omega) (Int.le_refl _) (by have:=h1.1;have:=h2.2.1;omega)
    · obtain⟨K,rfl⟩:∃ m,K=m + 1:=⟨K - 1,by omega⟩
      simp only[laws_FnOverhangs.l1];rw[if_neg hc];exact aTR hL K (by omega)
  · rw[if_neg h]
    exact aTR hL K (by omega)
theorem bHA (hL:L.length + W.length≤1000) (ok:LW a L W) (ht:tl.2.2=true→LW a L W∧L.length≤7∧(1≤wt∧wt≤99)∧QI a L W wt tl.1∧QI a L W wt tl.2.1) (ov:Int) (hov:(∀ y ∈ W,y=1)→ov≤GO.best a (L.length - 1)):∀ (s p:List Int) (e:Bool) (K:Nat),p ++ s=W→(e=true→∀ y ∈ p,y=1)→240000 + s.length < K→
    laws_FnOverhangs.l0 K wt tl.1 tl.2.1 tl.2.2 (lL a L W left w).2.2.2 ov e (p.length:Int) a L W a L W a L W (lL a L W left w).1 (lL a L W left w).2.1 (lL a L W left w).2.2.1=some true:=by
  have o1:=ok.len;have o2:=ok.wide;intro s
  induction s with
  | nil=>
    intro p e K hp he hK;obtain⟨K,rfl⟩:∃ m,K=m + 1:=⟨K - 1,by omega⟩
    rw[List.append_nil]at hp;subst hp;simp only[laws_FnOverhangs.l0];rw[if_neg (by omega),a9X o2 (by omega),Option.bind_some];simp only[if_true];rw[show((L.length:Int)).toNat - 1=L.length - 1 from by omega];cases e with
    | true=>
      have:=hov (he rfl);rw[if_pos rfl,if_neg (by omega)];exact aTS hL ht K (by simp at hK;omega)
    | false=>
      rw[if_neg (by decide)];exact aTS hL ht K (by simp at hK;omega)
  | cons y s ih=>
    intro p e K hp he hK;obtain⟨K,rfl⟩:∃ m,K=m + 1:=⟨K - 1,by omega⟩
    have hlen:W.length=p.length + s.length + 1:=by rw[← hp];simp;omega
    have hrd:rd W (p.length:Int)=y:=by rw[← hp];exact rdI p s y
    simp only[List.length_cons]at hK;simp only[laws_FnOverhangs.l0];rw[if_pos (by omega),UG p y (by omega)];have hp2:(p ++ [y]) ++ s=W:=by rw[← hp];simp
    cases e with
    | true=>
      rw[if_pos rfl,if_pos (by omega),hrd];refine ih (p ++ [y]) _ K hp2 ?_ (by omega);intro h z hz;rcases List.mem_append.mp hz with hz|hz
      · exact he rfl z hz
      · simp only[List.mem_singleton]at hz
        subst hz
        simpa using h
    | false=>
      rw[if_neg (by decide)];exact ih (p ++ [y]) false K hp2 (fun h=>by cases h) (by omega)
end ends
theorem FnOverhangs:laws_FnOverhangs.Pure:=by
  intro C hC1 _ hC3;have hC:=aZV hC3;by_cases big:(C.length:Int) > 65536
  · refine⟨0,?_⟩
    unfold laws_FnOverhangs.f M5.f;rw[Option.bind_some,decide_eq_true big,if_pos rfl]
  · obtain⟨a,L,W,p,s,l1,l2,p0,p1,hd⟩:=aW8 hC
    have hLW:L.length + W.length≤1000:=by omega
    obtain⟨aw,q1,t1,ha1,_,_,aw1⟩:=KO hC 0 0 [4,6,2,8,12,1,24,25,0] (by omega) (by omega) (by simp);obtain⟨n,q2,t2,ha2,_,_,n1⟩:=KO hC q1 t1 [2,3,1,4,5,8,9,0,(-1)] (by omega) (by omega) (by simp);have hn0: -1≤n∧n≤9:=by simp at n1;omega
    obtain⟨wt,q3,t3,ha3,_,_,_⟩:=KO hC p s [1,2,5,20,99,100,0] p0 (by omega) (by simp);obtain⟨lf,q4,t4,ha4,g4,_,lf0,lf1⟩:=NN hC p s 21 p0 (by omega) (by omega);obtain⟨w,q5,t5,ha5,_,_,_⟩:=KO hC q4 t4 [1,2,5,20,99,100,0] (by omega) (by omega) (by simp);obtain⟨B,g,hg⟩:=b66 aw n;obtain⟨eg,⟨eg1,eg2,eg3⟩,heg⟩:=aZX aw n;obtain⟨ms,bPT,hms⟩:=aZZ a L W hLW;obtain⟨tp,bB7,htp⟩:=b6C a L W wt hLW;have d0:sO.f C=some (aw,n):=by
      unfold sO.f;rw[ha1,Option.bind_some,ha2,Option.bind_some]
    have d1:∀ k,100 < k→wV.f k C=some (a,L,W):=fun k hk=>by
      unfold wV.f;rw[hd k hk,Option.bind_some]
    have d2:∀ k,100 < k→vF.f k C=some (a,L,W):=fun k hk=>by
      unfold vF.f;rw[d1 k hk,Option.bind_some]
    have d3:∀ k,100 < k→uR.f k C=some (a,L,W,wt):=fun k hk=>by
      unfold uR.f;rw[hd k hk,Option.bind_some,ha3,Option.bind_some]
    have d4:∀ k,100 < k→uA.f k C=some (a,L,W,lf - 14,w):=fun k hk=>by
      unfold uA.f;rw[hd k hk,Option.bind_some,ha4,Option.bind_some,ha5,Option.bind_some,fE (x:=lf - 14) (by omega) (by omega)]
    have d5:∀ k,100 < k→rV.f k C=some (a,L,W):=fun k hk=>by
      unfold rV.f;rw[d1 k hk,Option.bind_some]
    have tl1:=aNY a L W (lf - 14) w;have dl1:=aWC a L W;have J3:∀ K,260000 < K→laws_FnOverhangs.j3 K ms.1 ms.2 wt tp.1 tp.2.1 tp.2.2 (lL a L W (lf - 14) w).2.2.2 a L W a L W a L W (lL a L W (lf - 14) w).1 (lL a L W (lf - 14) w).2.1 (lL a L W (lf - 14) w).2.2.1=some true:=by
      intro K hK;obtain⟨K,rfl⟩:∃ m,K=m + 1:=⟨K - 1,by omega⟩
      simp only[laws_FnOverhangs.j3];by_cases h2:ms.2=true
      · obtain⟨hp,m1,m2,hp2,hz⟩:=bPT h2
        have ok:=GN hp;have ok2:=GN hp2;have e:aEO a L W ms.1=(a,L.map (fun x=>wrap64 (x + ms.1)),W,true):=by
          unfold aEO I4;rw[if_pos hp,if_pos ⟨m1,m2⟩,if_pos hp2]
        rw[if_pos h2,aWD a L W ms.1 hLW K (by omega),Option.bind_some,e];simp only[];have hlen:(L.map (fun x=>wrap64 (x + ms.1))).length=L.length:=by simp
        generalize L.map (fun x=>wrap64 (x + ms.1))=M at *;cases M with
        |nil=>have:=ok2.len;simp at this
        | cons x M=>
          rw[aBA _ _ _ K (by omega),Option.bind_some,aNP ok2 K (by omega),Option.bind_some,hp2,decide_eq_true hz];simp only[Bool.and_self,if_true];refine bHA hLW ok bB7 _ ?_ W [] true K rfl (fun _ y hy=>by cases hy) (by omega);intro hW;have e1:=b6E W hW;have e2:W.length=M.length + 1:=by rw[ok.same,← hlen];simp
          rw[e1,e2]at hz;rw[show L.length - 1=M.length from by rw[← hlen];simp];exact aQ3 ok.wide.1 hz
      · rw[if_neg h2]
        exact aTS hLW bB7 K (by omega)
    have J2:∀ (K:Nat) (c:Bool),260001 < K→(c=true→g.2=true∧n < 8)→laws_FnOverhangs.j2 K aw n g.1 ms.1 ms.2 wt tp.1 tp.2.1 tp.2.2 (lL a L W (lf - 14) w).2.2.2 c a L W a L W a L W (lL a L W (lf - 14) w).1 (lL a L W (lf - 14) w).2.1 (lL a L W (lf - 14) w).2.2.1=some true:=by
      intro K c hK hc;obtain⟨K,rfl⟩:∃ m,K=m + 1:=⟨K - 1,by omega⟩
      simp only[laws_FnOverhangs.j2];cases c with
      | true=>
        obtain⟨hg2,hn8⟩:=hc rfl;have hgi:=(hg B (Nat.le_refl _)).2;by_cases hv:(1≤aw∧aw≤24)∧(1≤n∧n≤8)
        · rw[a9X hv.1 hv.2]at hgi
          have e:=(Option.some.inj hgi).symm;have bm:=aW9 hv.1.1 (n.toNat - 1);rw[if_pos rfl,fE (x:=n + 1) (by omega) (by omega),a9X hv.1 (by omega),Option.bind_some];simp only[if_true];rw[show(n + 1).toNat - 1=n.toNat - 1 + 1 from by omega,if_neg (by rw[e];simp only[];omega)];exact J3 K (by omega)
        · unfold jO.f at hgi
          rw[SX,Option.bind_some,if_neg (by simp only[Bool.and_eq_true,decide_eq_true_eq];exact hv)]at hgi;have e:=(Option.some.inj hgi).symm;rw[e]at hg2;cases hg2
      | false=>
        rw[if_neg (by decide)];exact J3 K (by omega)
    have J1:∀ K,260002 < K→laws_FnOverhangs.j1 K aw n g.1 g.2 ms.1 ms.2 wt tp.1 tp.2.1 tp.2.2 (lL a L W (lf - 14) w).2.2.2 a L W a L W a L W (lL a L W (lf - 14) w).1 (lL a L W (lf - 14) w).2.1 (lL a L W (lf - 14) w).2.2.1=some true:=by
      intro K hK;obtain⟨K,rfl⟩:∃ m,K=m + 1:=⟨K - 1,by omega⟩
      simp only[laws_FnOverhangs.j1];by_cases h:g.2=true
      · rw[if_pos h]
        exact J2 K _ (by omega) (fun hc=>⟨h,by simpa using hc⟩)
      · rw[if_neg h]
        exact J2 K false (by omega) (fun hc=>by cases hc)
    have J0:∀ (K:Nat) (c:Bool),260003 < K→(c=true→g.2=true∧eg.2.2.2=true)→laws_FnOverhangs.j0 K aw n g.1 g.2 ms.1 ms.2 wt tp.1 tp.2.1 tp.2.2 (lL a L W (lf - 14) w).2.2.2 c eg.1 eg.2.1 eg.2.2.1 a L W a L W a L W (lL a L W (lf - 14) w).1 (lL a L W (lf - 14) w).2.1 (lL a L W (lf - 14) w).2.2.1=some true:=by
      intro K c hK hc;obtain⟨K,rfl⟩:∃ m,K=m + 1:=⟨K - 1,by omega⟩
      simp only[laws_FnOverhangs.j0];cases c with
      | true=>
        obtain⟨hg2,he2⟩:=hc rfl;obtain⟨x,l,e1,e2,e3,e4,ok,hz⟩:=eg3 he2;have o1:=ok.len;have hgi:=(hg B (Nat.le_refl _)).2;rw[a9X ok.wide (by simp at o1;omega)]at hgi;have e:=(Option.some.inj hgi).symm;have ol:=aQ3 ok.wide.1 hz;rw[show l.length=n.toNat - 1 from by omega]at ol;rw[if_pos rfl,e1,e2,e3,aBA _ _ _ K (by omega),Option.bind_some,aNP ok K (by omega),Option.bind_some,a4J ok,show(x::l).length=l.length + 1 from rfl,decide_eq_true hz];simp only[Bool.and_self,if_true];rw[if_neg (by rw[e];simp only[];omega)];exact J1 K (by omega)
      | false=>
        rw[if_neg (by decide)];exact J1 K (by omega)
    refine⟨B + 300000,?_⟩;unfold laws_FnOverhangs.f M5.f;rw[Option.bind_some,decide_eq_false big,if_neg (by decide),d0,Option.bind_some];simp only[]
    rw[(hg (B + 300000) (by omega)).2,Option.bind_some,(hg (B + 300000) (by omega)).1,Option.bind_some,if_pos rfl,VJ,if_neg (by decide),(heg (B + 300000) (by omega)).2,Option.bind_some,(heg (B + 300000) (by omega)).1,Option.bind_some,VJ,if_neg (by decide),XV _ _ _ _ (by omega) (by omega) (by omega),Option.bind_some,if_pos rfl,
      d2 _ (by omega),Option.bind_some]
    simp only[];rw[(hms (B + 300000) (by omega)).2,Option.bind_some,(hms (B + 300000) (by omega)).1,Option.bind_some,if_pos rfl,VJ,if_neg (by decide),d3 _ (by omega),Option.bind_some];simp only[];rw[(htp (B + 300000) (by omega)).2,Option.bind_some,(htp (B + 300000) (by omega)).1,Option.bind_some,if_pos rfl,if_pos rfl,VJ,if_neg (by decide),d4 _ (by omega),Option.bind_some];simp only[];rw[(a7E a L W (lf - 14) w hLW (B + 300000) (by omega)).2,Option.bind_some,(a7E a L W (lf - 14) w hLW (B + 300000) (by omega)).1,Option.bind_some,VJ,if_neg (by decide),XV _ _ _ _ (by omega) (by omega) (by omega),Option.bind_some,if_pos rfl,d5 _ (by omega),Option.bind_some];simp only[];rw[(aGV a L W (B + 300000) (by omega)).2,Option.bind_some,(aGV a L W (B + 300000) (by omega)).1,Option.bind_some,VJ,if_neg (by decide),XV _ _ _ _ (by omega) (by omega) (by omega),Option.bind_some,if_pos rfl];by_cases h:g.2=true
    · rw[if_pos h]
      exact J0 _ _ (by omega) (fun hc=>⟨h,hc⟩)
    · rw[if_neg h]
      exact J0 _ false (by omega) (fun hc=>by cases hc)
end Go.Proofs.Ytnnpfekgapikfaa.Pure
