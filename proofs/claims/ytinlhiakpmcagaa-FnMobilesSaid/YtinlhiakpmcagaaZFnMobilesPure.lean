import Derived.Test.YtinlhiakpmcagaaZFnMobilesx15
set_option linter.unusedVariables false
set_option linter.unusedSimpArgs false
namespace Go.Proofs.Ytinlhiakpmcagaa.Pure
open Go.RowKit Go.Proofs.YtinlhiakpmcagaaW.PrintWords Go.Proofs.YtinlhiakpmcagaaW.PrintLast Go.Proofs.Ytinlhiakpmcagaa.PFnMobiles
theorem cZ {x:Int} (h0: -9223372036854775808≤x) (h1:x≤9223372036854775807):wrap64 x=x:=by
  unfold wrap64;omega
theorem ZF (a b c:Int):kP.f a b c=some (decide (b≤a∧a≤c)):=by
  unfold kP.f
  split <;> simp_all
  omega
theorem SE (a b c:Int):jJ.f a b c=some (decide (b≤a∧a≤c)):=by
  unfold jJ.f
  split <;> simp_all
  omega
theorem uR {α:Type} (p:List α) (x:α) (h:p.length < 9223372036854775807):wrap64 ((p.length:Int) + 1)=((p ++ [x]).length:Int):=by
  rw[cZ (by omega) (by omega)];simp
abbrev R:=S64
theorem GG (p s:List R) (x:R):aA (p ++ x::s) ((p.length:Int))=x:=by
  simp[aA]
def Wf (h:Int):Prop:=-9223372036854775808≤h∧h≤9223372036854775807
def WfR (l:List R):Prop:=∀ x ∈ l,Wf x.f0∧Wf x.f1
def wQ (a:Int):Bool:=decide (1≤a∧a≤12)
def kR (h:Int):Bool:=decide (1≤h∧h≤99)
def l7 (i n h:Int):Bool:=kR h||decide (i + 1≤ -h∧ -h≤n - 1)
def bump (T:List Int) (h:Int):List Int:=if h < 0 then T.set (-h).toNat (wrap64 (rd T (-h) + 1))else T
def WP (T:List Int):Bool:=T.all (fun t=>decide (t=1))
def gS (n:Int):Int→List R→List R→List Int→Bool
  |i,a::us,h::hs,T=>(wQ a.f0 && l7 i n h.f0) && ((wQ a.f1 && l7 i n h.f1) && gS n (i + 1) us hs (bump (bump T h.f0) h.f1))
  |_,_,_,T=>WP T
def l8 (i n:Int) (B:List Bool) (h:Int):Bool:=kR h||(decide (i + 1≤ -h∧ -h≤n - 1) && !(yF false B (-h)))
def mark (B:List Bool) (h:Int):List Bool:=if h < 0 then B.set (-h).toNat true else B
def gI (n:Int):Int→List R→List R→List Bool→Bool
  |i,a::us,h::hs,B=>(wQ a.f0 && wQ a.f1) && (l8 i n B h.f0 && (l8 i n (mark B h.f0) h.f1 && gI n (i + 1) us hs (mark (mark B h.f0) h.f1)))
  |_,_,_,B=>(B.drop 1).all id
theorem YP (T:List Int) (h:Int):(bump T h).length=T.length:=by unfold bump;split <;> simp
theorem kF (B:List Bool) (h:Int):(mark B h).length=B.length:=by unfold mark;split <;> simp
def big (m:Int) (T:List Int):Prop:=∃ j,2≤T.getD j 0∧T.getD j 0≤m
theorem aAQ {m:Int} {T:List Int} (h:Int) (hm:m≤1000000) (hb:big m T):big (m + 1) (bump T h):=by
  obtain⟨j,h1,h2⟩:=hb;refine⟨j,?_⟩;unfold bump;by_cases h0:h < 0
  · rw[if_pos h0]
    by_cases hj:(-h).toNat=j
    · have hl:j < T.length:=by
        rcases Nat.lt_or_ge j T.length with hl|hl
        · exact hl
        · rw[List.getD_eq_getElem?_getD,List.getElem?_eq_none hl]at h1
          simp at h1
      have e:(T.set (-h).toNat (wrap64 (rd T (-h) + 1))).getD j 0=T.getD j 0 + 1:=by
        rw[List.getD_eq_getElem?_getD,List.getElem?_set,if_pos hj,if_pos (by omega)];simp only[rd,hj,Option.getD_some];exact cZ (by omega) (by omega)
      rw[e];omega
    · have e:(T.set (-h).toNat (wrap64 (rd T (-h) + 1))).getD j 0=T.getD j 0:=by
        rw[List.getD_eq_getElem?_getD,List.getElem?_set,if_neg hj,List.getD_eq_getElem?_getD]
      rw[e];omega
  · rw[if_neg h0]
    omega
theorem aRO {m:Int} {T:List Int} (hb:big m T):WP T=false:=by
  obtain⟨j,h1,h2⟩:=hb;have hl:j < T.length:=by
    rcases Nat.lt_or_ge j T.length with hl|hl
    · exact hl
    · rw[List.getD_eq_getElem?_getD,List.getElem?_eq_none hl]at h1
      simp at h1
  rw[List.getD_eq_getElem?_getD,List.getElem?_eq_getElem hl]at h1;unfold WP;rw[List.all_eq_false];refine⟨T[j],List.getElem_mem hl,?_⟩;simp at h1 ⊢;omega
theorem aZX (n:Int):∀ (us hs:List R) (i m:Int) (T:List Int),m + 2 * us.length≤1000000→big m T→gS n i us hs T=false:=by
  intro us
  induction us with
  |nil=>intro hs i m T hm hb;unfold gS;exact aRO hb
  | cons a us ih=>
    intro hs i m T hm hb;cases hs with
    |nil=>unfold gS;exact aRO hb
    | cons h hs=>
      simp only[List.length_cons,Int.natCast_add,Int.natCast_one]at hm;simp only[gS];rw[ih hs (i + 1) (m + 1 + 1) _ (by omega) (aAQ _ (by omega) (aAQ _ (by omega) hb))];simp
def Y7:List Bool→List Int
  |[]=>[]
  |_::bs=>1::bs.map (fun b=>if b then 1 else 0)
theorem aDS (B:List Bool):(Y7 B).length=B.length:=by cases B <;> simp[Y7]
theorem aZY (B:List Bool) (j:Nat) (hj:j + 1 < B.length):(Y7 B).getD (j + 1) 0=if B.getD (j + 1) false then 1 else 0:=by
  cases B with
  |nil=>simp at hj
  | cons b bs=>
    simp only[List.length_cons]at hj;have h2:j < bs.length:=by omega
    simp[Y7,List.getD_eq_getElem?_getD,List.getElem?_eq_getElem h2]
theorem aHD (B:List Bool) (i n h:Int) (hi:0≤i) (hn:n=B.length) (hs:l8 i n B h=true):bump (Y7 B) h=Y7 (mark B h):=by
  unfold bump mark;by_cases h0:h < 0
  · rw[if_pos h0,if_pos h0]
    simp only[l8,kR,Bool.or_eq_true,Bool.and_eq_true,decide_eq_true_eq,Bool.not_eq_true']at hs;rcases hs with hs|hs
    · omega
    · obtain⟨j,hj⟩:∃ j:Nat,(-h).toNat=j + 1:=⟨(-h).toNat - 1,by omega⟩
      have hl:j + 1 < B.length:=by omega
      have e1:=aZY B j hl;have e2:B.getD (j + 1) false=false:=by rw[← hj];exact hs.2
      rw[e2]at e1;simp only[rd,hj];rw[e1];rw[show wrap64 ((if false=true then(1:Int)else 0) + 1)=1 from cZ (by simp) (by simp)];cases B with
      |nil=>simp at hl
      |cons b bs=>simp[Y7,List.set_cons_succ,List.map_set]
  · rw[if_neg h0,if_neg h0]
theorem aZZ (B:List Bool) (i n h:Int) (hi:0≤i) (hn:n=B.length) (he:l7 i n h=true) (hs:l8 i n B h=false):big 2 (bump (Y7 B) h):=by
  simp only[l8,l7,Bool.or_eq_true,Bool.or_eq_false_iff]at hs he;rw[hs.1]at he;simp only[Bool.false_eq_true,false_or,decide_eq_true_eq]at he;have hb:yF false B (-h)=true:=by simpa [he] using hs.2
  obtain⟨j,hj⟩:∃ j:Nat,(-h).toNat=j + 1:=⟨(-h).toNat - 1,by omega⟩
  have hl:j + 1 < B.length:=by omega
  have e1:=aZY B j hl;have e2:B.getD (j + 1) false=true:=by rw[← hj];exact hb
  rw[e2,if_pos rfl]at e1;refine⟨j + 1,?_⟩;unfold bump;rw[if_pos (by omega)];simp only[rd,hj];rw[e1,List.getD_eq_getElem?_getD,List.getElem?_set,if_pos rfl,if_pos (by rw[aDS];exact hl)];rw[show wrap64 (1 + 1)=2 from cZ (by omega) (by omega)];simp
theorem a7D {i n:Int} {B:List Bool} {h:Int} (hs:l8 i n B h=true):l7 i n h=true:=by
  unfold l8 at hs;unfold l7
  revert hs
  cases kR h <;> simp
  intro h1 h2 _;exact⟨h1,h2⟩
theorem bXV (n:Int):∀ (us hs:List R) (i:Int) (B:List Bool),0≤i→n=B.length→1≤n→us.length≤1000→gS n i us hs (Y7 B)=gI n i us hs B:=by
  intro us;have base:∀ B:List Bool,n=B.length→1≤n→WP (Y7 B)=(B.drop 1).all id:=by
    intro B h1 h2;cases B with
    |nil=>simp at h1;omega
    | cons b bs=>
      simp only[WP,Y7,List.all_cons,decide_true,Bool.true_and,List.all_map,List.drop_succ_cons,List.drop_zero];congr 1;funext x;cases x <;> simp
  induction us with
  |nil=>intro hs i B hi hn h1 _;unfold gS gI;exact base B hn h1
  | cons a us ih=>
    intro hs i B hi hn h1 hl;simp only[List.length_cons]at hl;cases hs with
    |nil=>unfold gS gI;exact base B hn h1
    | cons h hs=>
      simp only[gS,gI];by_cases c0:wQ a.f0=true
      · by_cases c1:wQ a.f1=true
        · by_cases s0:l8 i n B h.f0=true
          · have b0:=aHD B i n h.f0 hi hn s0
            have hn2:n=(mark B h.f0).length:=by rw[kF];exact hn
            by_cases s1:l8 i n (mark B h.f0) h.f1=true
            · have b1:=aHD (mark B h.f0) i n h.f1 hi hn2 s1
              rw[c0,c1,s0,s1,a7D s0,a7D s1,b0,b1,ih hs (i + 1) _ (by omega) (by rw[kF];exact hn2) h1 (by omega)];simp
            · rw[Bool.not_eq_true]at s1
              rw[s1];by_cases e1:l7 i n h.f1=true
              · have g:=aZZ (mark B h.f0) i n h.f1 hi hn2 e1 s1
                rw[b0,aZX n us hs (i + 1) 2 _ (by omega) g];simp
              · rw[Bool.not_eq_true]at e1
                rw[e1];simp
          · rw[Bool.not_eq_true]at s0
            rw[s0];by_cases e0:l7 i n h.f0=true
            · have g:=aZZ B i n h.f0 hi hn e0 s0
              rw[aZX n us hs (i + 1) 3 _ (by omega) (aAQ _ (by omega) g)];simp
            · rw[Bool.not_eq_true]at e0
              rw[e0];simp
        · rw[Bool.not_eq_true]at c1
          rw[c1];simp
      · rw[Bool.not_eq_true]at c0
        rw[c0];simp
theorem JB (x:Int):kP.f x 1 12=some (wQ x):=ZF x 1 12
theorem aNJ (i n h:Int) (hi:0≤i∧i≤100) (hn:0≤n∧n≤100) (hw:Wf h):CE.f i h n=some (l7 i n h):=by
  unfold Wf at hw;unfold CE.f l7 kR;rw[ZF,Option.bind_some,ZF];by_cases h1:1≤h∧h≤99
  · simp[h1]
  · rw[decide_eq_false h1,if_neg (by simp),Option.bind_some,Bool.false_or,cZ (x:=i + 1) (by omega) (by omega),cZ (x:=n - 1) (by omega) (by omega)]
    by_cases h2:i + 1≤ -h∧ -h≤n - 1
    · rw[cZ (x:=-h) (by omega) (by omega)]
      have h3:h < 0:=by omega
      simp[h2,h3]
    · have h3:¬ (i + 1≤wrap64 (-h)∧wrap64 (-h)≤n - 1):=by
        unfold wrap64;omega
      rw[decide_eq_false h3,decide_eq_false h2,if_neg (by simp)]
theorem child {i n h:Int} (he:l7 i n h=true) (h0:h < 0):i + 1≤ -h∧ -h≤n - 1:=by
  simp only[l7,kR,Bool.or_eq_true,decide_eq_true_eq]at he;omega
theorem bOI (n i:Int) (T:List Int) (A H:List R) (a h:R) (k:Nat) (hA:aA A i=a) (hH:aA H i=h) (c0:0≤i) (c1:i < A.length) (c2:i < H.length) (hi:i≤100) (hn:0≤n∧n≤100) (hT:(T.length:Int)=n) (hw:Wf h.f0):
    aV.l1 (k + 2) n T i 0 A H=if (wQ a.f0 && l7 i n h.f0)=true then aV.l1 k n (bump T h.f0) i 1 A H else some false:=by
  have e:=aNJ i n h.f0 ⟨c0,hi⟩ hn hw;have w1:wrap64 (0 + 1)=1:=cZ (by omega) (by omega);by_cases h1:wQ a.f0=true
  · by_cases h2:l7 i n h.f0=true
    · by_cases h3:h.f0 < 0
      · have ch:=child h2 h3
        have w:=cZ (x:=-h.f0) (by omega) (by omega);have r0:0≤ -h.f0:=by omega
        have r1: -h.f0 < (T.length:Int):=by omega
        rw[show aV.l1 (k + 2) n T i 0 A H=aV.j3 (k + 1) n T i 0 (!true) A H from by simp only[aV.l1,c0,c1,c2,hA,hH,JB,e,h1,h2,Option.bind_some,if_true,Int.reduceLT]];simp only[aV.j3,c0,c2,hH,h1,h2,h3,w,r0,r1,w1,bump,Bool.and_self,Bool.not_true,Bool.false_eq_true,if_true,if_false]
      · rw[show aV.l1 (k + 2) n T i 0 A H=aV.j3 (k + 1) n T i 0 (!true) A H from by simp only[aV.l1,c0,c1,c2,hA,hH,JB,e,h1,h2,Option.bind_some,if_true,Int.reduceLT]]
        simp only[aV.j3,c0,c2,hH,h1,h2,h3,w1,bump,Bool.and_self,Bool.not_true,Bool.false_eq_true,if_true,if_false]
    · rw[Bool.not_eq_true]at h2
      rw[show aV.l1 (k + 2) n T i 0 A H=aV.j3 (k + 1) n T i 0 (!false) A H from by simp only[aV.l1,c0,c1,c2,hA,hH,JB,e,h1,h2,Option.bind_some,if_true,Int.reduceLT]];simp only[aV.j3,h1,h2,Bool.and_false,Bool.not_false,Bool.false_eq_true,if_true,if_false]
  · rw[Bool.not_eq_true]at h1
    rw[show aV.l1 (k + 2) n T i 0 A H=aV.j3 (k + 1) n T i 0 true A H from by simp only[aV.l1,c0,c1,hA,JB,h1,Option.bind_some,if_true,if_false,Bool.false_eq_true,Int.reduceLT]];simp only[aV.j3,h1,Bool.false_and,Bool.false_eq_true,if_true,if_false]
theorem bOJ (n i:Int) (T:List Int) (A H:List R) (a h:R) (k:Nat) (hA:aA A i=a) (hH:aA H i=h) (c0:0≤i) (c1:i < A.length) (c2:i < H.length) (hi:i≤100) (hn:0≤n∧n≤100) (hT:(T.length:Int)=n) (hw:Wf h.f1):
    aV.l1 (k + 2) n T i 1 A H=if (wQ a.f1 && l7 i n h.f1)=true then aV.l1 k n (bump T h.f1) i 2 A H else some false:=by
  have e:=aNJ i n h.f1 ⟨c0,hi⟩ hn hw;have w1:wrap64 (1 + 1)=2:=cZ (by omega) (by omega);have q:¬ ((1:Int)=0):=by omega
  by_cases h1:wQ a.f1=true
  · by_cases h2:l7 i n h.f1=true
    · by_cases h3:h.f1 < 0
      · have ch:=child h2 h3
        have w:=cZ (x:=-h.f1) (by omega) (by omega);have r0:0≤ -h.f1:=by omega
        have r1: -h.f1 < (T.length:Int):=by omega
        rw[show aV.l1 (k + 2) n T i 1 A H=aV.j3 (k + 1) n T i 1 (!true) A H from by simp only[aV.l1,c0,c1,c2,hA,hH,JB,e,h1,h2,q,Option.bind_some,if_true,if_false,Int.reduceLT]];simp only[aV.j3,c0,c2,hH,h1,h2,h3,w,r0,r1,w1,q,bump,Bool.and_self,Bool.not_true,Bool.false_eq_true,if_true,if_false]
      · rw[show aV.l1 (k + 2) n T i 1 A H=aV.j3 (k + 1) n T i 1 (!true) A H from by simp only[aV.l1,c0,c1,c2,hA,hH,JB,e,h1,h2,q,Option.bind_some,if_true,if_false,Int.reduceLT]]
        simp only[aV.j3,c0,c2,hH,h1,h2,h3,w1,q,bump,Bool.and_self,Bool.not_true,Bool.false_eq_true,if_true,if_false]
    · rw[Bool.not_eq_true]at h2
      rw[show aV.l1 (k + 2) n T i 1 A H=aV.j3 (k + 1) n T i 1 (!false) A H from by simp only[aV.l1,c0,c1,c2,hA,hH,JB,e,h1,h2,q,Option.bind_some,if_true,if_false,Int.reduceLT]];simp only[aV.j3,h1,h2,Bool.and_false,Bool.not_false,Bool.false_eq_true,if_true,if_false]
  · rw[Bool.not_eq_true]at h1
    rw[show aV.l1 (k + 2) n T i 1 A H=aV.j3 (k + 1) n T i 1 true A H from by simp only[aV.l1,c0,c1,hA,JB,h1,q,Option.bind_some,if_true,if_false,Bool.false_eq_true,Int.reduceLT]];simp only[aV.j3,h1,Bool.false_and,Bool.false_eq_true,if_true,if_false]
theorem c7Y (n:Int):∀ (s p:List Int) (k:Nat),((p ++ s).length:Int)=n→n≤100→s.length < k→aV.l2 k n (p ++ s) (p.length:Int)=some (WP s):=by
  intro s
  induction s with
  | nil=>
    intro p k hn h1 hk;obtain⟨k,rfl⟩:∃ m,k=m + 1:=⟨k - 1,by simp at hk;omega⟩
    simp only[aV.l2];rw[if_neg (by simp at hn;omega)];rfl
  | cons x s ih=>
    intro p k hn h1 hk;obtain⟨k,rfl⟩:∃ m,k=m + 1:=⟨k - 1,by simp at hk;omega⟩
    have hr:rd (p ++ x::s) (p.length:Int)=x:=by simp[rd]
    simp only[aV.l2];rw[if_pos (by simp at hn;omega),if_pos (by omega),if_pos (by simp at hn ⊢;omega),hr,uR p x (by simp at hn;omega),List.append_cons p x s,ih (p ++ [x]) k (by simpa using hn) h1 (by simp at hk;omega)];by_cases hx:x=1 <;> simp[WP,hx]
theorem c7Z (n:Int):∀ (us hs:List R) (p q:List R) (T:List Int) (k:Nat),p.length=q.length→us.length=hs.length→((p ++ us).length:Int)=n→n≤6→(T.length:Int)=n→WfR hs→6 * us.length + 20≤k→
    aV.l0 k n T (p.length:Int) (p ++ us) (q ++ hs)=some (gS n (p.length:Int) us hs T):=by
  intro us
  induction us with
  | nil=>
    intro hs p q T k hpq hl hn h6 hT hw hk;obtain⟨k,rfl⟩:∃ m,k=m + 1:=⟨k - 1,by omega⟩
    simp only[aV.l0,gS];rw[if_neg (by simp at hn;omega)];exact c7Y n T [] k hT (by omega) (by omega)
  | cons a us ih=>
    intro hs p q T k hpq hl hn h6 hT hw hk;cases hs with
    |nil=>simp at hl
    | cons h hs=>
      simp only[List.length_cons]at hk;obtain⟨k,rfl⟩:∃ m,k=m + 6:=⟨k - 6,by omega⟩
      have hA:=GG p us a;have hH:aA (q ++ h::hs) (p.length:Int)=h:=by rw[hpq];exact GG q hs h
      have hw0:=hw h (by simp);simp only[List.length_append,List.length_cons,Int.natCast_add,Int.natCast_one]at hn;simp only[List.length_cons]at hl;have d1:(p.length:Int) < ((p ++ a::us).length:Int):=by simp;omega
      have d2:(p.length:Int) < ((q ++ h::hs).length:Int):=by simp;omega
      have d3:(p.length:Int) < n:=by omega
      rw[show aV.l0 (k + 6) n T (p.length:Int) (p ++ a::us) (q ++ h::hs)=aV.l1 (k + 5) n T (p.length:Int) 0 (p ++ a::us) (q ++ h::hs)from by simp only[aV.l0,d3,if_true]];rw[bOI n _ T _ _ a h (k + 3) hA hH (by omega) d1 d2 (by omega) (by omega) hT hw0.1];simp only[gS];by_cases g0:(wQ a.f0 && l7 (p.length:Int) n h.f0)=true
      · rw[if_pos g0,g0,bOJ n _ _ _ _ a h (k + 1) hA hH (by omega) d1 d2 (by omega) (by omega) (by rw[YP];exact hT) hw0.2]
        by_cases g1:(wQ a.f1 && l7 (p.length:Int) n h.f1)=true
        · rw[if_pos g1,g1]
          rw[show aV.l1 (k + 1) n (bump (bump T h.f0) h.f1) (p.length:Int) 2 (p ++ a::us) (q ++ h::hs)=aV.l0 k n (bump (bump T h.f0) h.f1) (wrap64 ((p.length:Int) + 1)) (p ++ a::us) (q ++ h::hs)from by simp only[aV.l1,Int.reduceLT,if_false]];rw[uR p a (by omega),List.append_cons p a us,List.append_cons q h hs];rw[ih hs (p ++ [a]) (q ++ [h]) _ k (by simp[hpq]) (by omega) (by simp;omega) h6 (by rw[YP,YP];exact hT) (fun x hx=>hw x (by simp[hx])) (by omega)];simp
        · rw[if_neg g1]
          rw[Bool.not_eq_true]at g1;rw[g1];simp
      · rw[if_neg g0]
        rw[Bool.not_eq_true]at g0;rw[g0];simp
theorem aAR (a:Int):yZ.f a=some (wQ a):=by simp only[yZ.f,SE,Option.bind_some,wQ]
theorem F6 (a:Int):jV.f a=some (kR a):=by simp only[jV.f,SE,Option.bind_some,kR]
theorem aDT (i n h:Int) (hi:0≤i∧i≤100) (hn:0≤n∧n≤100):jJ.f h (wrap64 (1 - n)) (wrap64 (wrap64 (-i) - 1))=some (decide (i + 1≤ -h∧ -h≤n - 1)):=by
  rw[SE,cZ (x:=1 - n) (by omega) (by omega),cZ (x:=-i) (by omega) (by omega),cZ (x:=-i - 1) (by omega) (by omega)];congr 1;apply decide_eq_decide.2;omega
theorem bOK (n i len:Int) (B:List Bool) (A L H:List R) (u v:Int) (k:Nat) (c0:0≤i) (hi:i≤100) (hn:0≤n∧n≤100) (hB:(B.length:Int)=n):
    aT.l1 (k + 1) n B i A len i 0 L H u v=if l8 i n B u=true then aT.l1 k n (mark B u) i A len i 1 L H u v else some false:=by
  have w1:wrap64 (0 + 1)=1:=cZ (by omega) (by omega);by_cases h1:kR u=true
  · have h3:¬ u < 0:=by simp[kR]at h1;omega
    simp only[aT.l1,F6,h1,h3,w1,l8,mark,Bool.true_or,Option.bind_some,if_true,if_false,Int.reduceLT]
  · rw[Bool.not_eq_true]at h1
    by_cases h2:i + 1≤ -u∧ -u≤n - 1
    · have w:=cZ (x:=-u) (by omega) (by omega)
      have r0:0≤ -u:=by omega
      have r1: -u < (B.length:Int):=by omega
      have h3:u < 0:=by omega
      cases hb:yF false B (-u) <;> simp only[aT.l1,F6,aDT i n u ⟨c0,hi⟩ hn,h1,h2,h3,hb,w,r0,r1,w1,l8,mark,Bool.false_or,Bool.true_and,Bool.not_true,Bool.not_false,and_self,decide_true,Option.bind_some,if_true,if_false,Bool.false_eq_true,Int.reduceLT]
    · simp only[aT.l1,F6,aDT i n u ⟨c0,hi⟩ hn,h1,h2,l8,Bool.false_or,Bool.false_and,decide_false,Option.bind_some,if_true,if_false,Bool.false_eq_true,Int.reduceLT]
theorem bOL (n i len:Int) (B:List Bool) (A L H:List R) (u v:Int) (k:Nat) (c0:0≤i) (hi:i≤100) (hn:0≤n∧n≤100) (hB:(B.length:Int)=n):
    aT.l1 (k + 1) n B i A len i 1 L H u v=if l8 i n B v=true then aT.l1 k n (mark B v) i A len i 2 L H u v else some false:=by
  have w1:wrap64 (1 + 1)=2:=cZ (by omega) (by omega);have q:¬ ((1:Int)=0):=by omega
  by_cases h1:kR v=true
  · have h3:¬ v < 0:=by simp[kR]at h1;omega
    simp only[aT.l1,F6,h1,h3,w1,q,l8,mark,Bool.true_or,Option.bind_some,if_true,if_false,Int.reduceLT]
  · rw[Bool.not_eq_true]at h1
    by_cases h2:i + 1≤ -v∧ -v≤n - 1
    · have w:=cZ (x:=-v) (by omega) (by omega)
      have r0:0≤ -v:=by omega
      have r1: -v < (B.length:Int):=by omega
      have h3:v < 0:=by omega
      cases hb:yF false B (-v) <;> simp only[aT.l1,F6,aDT i n v ⟨c0,hi⟩ hn,h1,h2,h3,hb,w,r0,r1,w1,q,l8,mark,Bool.false_or,Bool.true_and,Bool.not_true,Bool.not_false,and_self,decide_true,Option.bind_some,if_true,if_false,Bool.false_eq_true,Int.reduceLT]
    · simp only[aT.l1,F6,aDT i n v ⟨c0,hi⟩ hn,h1,h2,q,l8,Bool.false_or,Bool.false_and,decide_false,Option.bind_some,if_true,if_false,Bool.false_eq_true,Int.reduceLT]
theorem b81:∀ (s p:List Bool) (k:Nat),(p ++ s).length < 1000→s.length < k→∃ r,gP.l0 k (p ++ s) false ((p ++ s).length:Int) (p.length:Int)=some r∧decide (r ≥ 0)= !(s.all id):=by
  intro s
  induction s with
  | nil=>
    intro p k hl hk;obtain⟨k,rfl⟩:∃ m,k=m + 1:=⟨k - 1,by simp at hk;omega⟩
    simp only[gP.l0];rw[if_neg (by simp)];exact⟨-1,rfl,by simp⟩
  | cons x s ih=>
    intro p k hl hk;obtain⟨k,rfl⟩:∃ m,k=m + 1:=⟨k - 1,by simp at hk;omega⟩
    have hr:yF false (p ++ x::s) (p.length:Int)=x:=by simp[yF]
    simp only[gP.l0];rw[if_pos (by simp;omega),if_pos (by omega),if_pos (by simp;omega),hr];cases x with
    | false=>
      rw[if_pos (by decide)];exact⟨_,rfl,by simp⟩
    | true=>
      rw[if_neg (by decide),uR p true (by simp at hl;omega),List.append_cons p true s];obtain⟨r,h1,h2⟩:=ih (p ++ [true]) k (by simpa using hl) (by simp at hk;omega);exact⟨r,h1,by rw[h2];simp⟩
theorem aO6 (l:List Bool) (k:Nat) (hl:l.length < 1000) (hk:l.length < k):pJ.f k l false=some (!(l.all id)):=by
  unfold pJ.f gP.f;obtain⟨r,h1,h2⟩:=b81 l [] k hl hk;have h3:gP.l0 k l false (l.length:Int) 0=some r:=h1;rw[h3,Option.bind_some,h2]
theorem c81 (n:Int):∀ (us hs:List R) (p q:List R) (B:List Bool) (k:Nat),p.length=q.length→us.length=hs.length→((p ++ us).length:Int)=n→1≤n→n≤6→(B.length:Int)=n→6 * us.length + 20≤k→
    aT.l0 k n B (p ++ us) n (p.length:Int) (p ++ us) (q ++ hs)=some (gI n (p.length:Int) us hs B):=by
  intro us
  induction us with
  | nil=>
    intro hs p q B k hpq hl hn h1 h6 hB hk;obtain⟨k,rfl⟩:∃ m,k=m + 1:=⟨k - 1,by omega⟩
    simp only[aT.l0,gI];rw[if_neg (by simp at hn;omega),if_pos (by omega),aO6 _ k (by simp;omega) (by simp;omega)];simp
  | cons a us ih=>
    intro hs p q B k hpq hl hn h1 h6 hB hk;cases hs with
    |nil=>simp at hl
    | cons h hs=>
      simp only[List.length_cons]at hk;obtain⟨k,rfl⟩:∃ m,k=m + 6:=⟨k - 6,by omega⟩
      have hA:=GG p us a;have hH:aA (q ++ h::hs) (p.length:Int)=h:=by rw[hpq];exact GG q hs h
      simp only[List.length_append,List.length_cons,Int.natCast_add,Int.natCast_one]at hn;simp only[List.length_cons]at hl;have d0:0≤(p.length:Int):=by omega
      have d1:(p.length:Int) < ((p ++ a::us).length:Int):=by simp;omega
      have d2:(p.length:Int) < ((q ++ h::hs).length:Int):=by simp;omega
      have d3:(p.length:Int) < n:=by omega
      simp only[gI];by_cases g0:(wQ a.f0 && wQ a.f1)=true
      · have g0':=g0
        simp only[Bool.and_eq_true]at g0';rw[g0];rw[show aT.l0 (k + 6) n B (p ++ a::us) n (p.length:Int) (p ++ a::us) (q ++ h::hs)=aT.l1 (k + 4) n B (p.length:Int) (p ++ a::us) n (p.length:Int) 0 (p ++ a::us) (q ++ h::hs) h.f0 h.f1 from by simp only[aT.l0,aT.j2,hA,hH,aAR,d0,d1,d2,d3,g0'.1,g0'.2,Bool.not_true,Option.bind_some,if_true,if_false,Bool.false_eq_true]];rw[bOK n _ n B _ _ _ _ _ (k + 3) d0 (by omega) (by omega) hB];by_cases s0:l8 (p.length:Int) n B h.f0=true
        · rw[if_pos s0,s0,bOL n _ n _ _ _ _ _ _ (k + 2) d0 (by omega) (by omega) (by rw[kF];exact hB)]
          by_cases s1:l8 (p.length:Int) n (mark B h.f0) h.f1=true
          · rw[if_pos s1,s1]
            rw[show aT.l1 (k + 2) n (mark (mark B h.f0) h.f1) (p.length:Int) (p ++ a::us) n (p.length:Int) 2 (p ++ a::us) (q ++ h::hs) h.f0 h.f1=aT.l0 (k + 1) n (mark (mark B h.f0) h.f1) (p ++ a::us) n (wrap64 ((p.length:Int) + 1)) (p ++ a::us) (q ++ h::hs)from by simp only[aT.l1,Int.reduceLT,if_false]];rw[uR p a (by omega),List.append_cons p a us,List.append_cons q h hs];rw[ih hs (p ++ [a]) (q ++ [h]) _ (k + 1) (by simp[hpq]) (by omega) (by simp;omega) h1 h6 (by rw[kF,kF];exact hB) (by omega)];simp
          · rw[if_neg s1]
            rw[Bool.not_eq_true]at s1;rw[s1];simp
        · rw[if_neg s0]
          rw[Bool.not_eq_true]at s0;rw[s0];simp
      · rw[Bool.not_eq_true]at g0
        rw[g0];cases x0:wQ a.f0
        · simp only[aT.l0,aT.j2,hA,aAR,d0,d1,d3,x0,Bool.false_and,Option.bind_some,if_true,if_false,Bool.false_eq_true]
        · rw[x0,Bool.true_and]at g0
          simp only[aT.l0,aT.j2,hA,aAR,d0,d1,d3,x0,g0,Bool.not_false,Bool.false_and,Option.bind_some,if_true,if_false,Bool.false_eq_true]
def good (A H:List R):Bool:=decide (1≤(A.length:Int)∧(A.length:Int)≤6) && (decide (H.length=A.length) && gI (A.length:Int) 0 A H (List.replicate A.length false))
theorem NI (A H:List R) (k:Nat) (hw:WfR H) (hk:100≤k):aV.f k A H=some (good A H):=by
  obtain⟨k,rfl⟩:∃ m,k=m + 1:=⟨k - 1,by omega⟩
  unfold aV.f good;rw[ZF,Option.bind_some];by_cases h1:1≤(A.length:Int)∧(A.length:Int)≤6
  · by_cases h2:H.length=A.length
    · have e:((H.length:Int) !=(A.length:Int))=false:=by simp[h2]
      have r:((A.length:Int)).toNat=A.length:=by omega
      obtain⟨n,hn⟩:∃ n,A.length=n + 1:=⟨A.length - 1,by omega⟩
      have t:(List.replicate A.length (0:Int)).set (0:Int).toNat 1=Y7 (List.replicate A.length false):=by
        rw[hn];simp[List.replicate_succ,Y7]
      have b1:0≤(A.length:Int):=by omega
      have b2:A.length≤35184372088832:=by omega
      have b3:0 < ((List.replicate A.length (0:Int)).length:Int):=by simp;omega
      have g:=c7Z (A.length:Int) A H [] [] (Y7 (List.replicate A.length false)) k rfl h2.symm rfl h1.2 (by rw[aDS];simp) hw (by omega);simp only[List.nil_append,List.length_nil,Int.natCast_zero]at g;simp only[h1,h2,and_self,decide_true,if_true,aV.j0,e,Bool.false_eq_true,if_false,b1,r,b2,Option.bind_some,b3,t,g,Bool.true_and];rw[bXV _ A H 0 _ (by omega) (by simp) h1.1 (by omega)];simp
    · have e:((H.length:Int) !=(A.length:Int))=true:=by simp;omega
      simp only[h1,h2,and_self,decide_true,decide_false,if_true,aV.j0,e,Bool.false_and,Bool.and_false]
  · simp only[h1,decide_false,Bool.false_eq_true,if_false,if_true,aV.j0,Bool.false_and]
theorem yE (A H:List R) (k:Nat) (hk:100≤k):aT.f k A H=some (good A H):=by
  obtain⟨k,rfl⟩:∃ m,k=m + 1:=⟨k - 1,by omega⟩
  unfold aT.f good;rw[SE,Option.bind_some];by_cases h1:1≤(A.length:Int)∧(A.length:Int)≤6
  · by_cases h2:H.length=A.length
    · have e:((H.length:Int) !=(A.length:Int))=false:=by simp[h2]
      have r:((A.length:Int)).toNat=A.length:=by omega
      have b1:0≤(A.length:Int):=by omega
      have b2:A.length≤281474976710656:=by omega
      have g:=c81 (A.length:Int) A H [] [] (List.replicate A.length false) k rfl h2.symm rfl h1.1 h1.2 (by simp) (by omega);simp only[List.nil_append,List.length_nil,Int.natCast_zero]at g;simp only[h1,h2,and_self,decide_true,if_true,aT.j0,e,Bool.false_eq_true,if_false,b1,r,b2,g,Bool.true_and];simp
    · have e:((H.length:Int) !=(A.length:Int))=true:=by simp;omega
      simp only[h1,h2,and_self,decide_true,decide_false,if_true,aT.j0,e,Bool.false_and,Bool.and_false]
  · simp only[h1,decide_false,Bool.false_eq_true,if_false,if_true,aT.j0,Bool.false_and]
structure OJ (A H:List R):Prop where
  len:1≤A.length∧A.length≤6
  same:H.length=A.length
  arm:∀ i:Nat,i < A.length→wQ (aA A i).f0=true∧wQ (aA A i).f1=true
  fin:∀ i:Nat,i < A.length→l7 i A.length (aA H i).f0=true∧l7 i A.length (aA H i).f1=true
theorem mV (a:R) (us:List R) (i:Nat):aA (a::us) ((i + 1:Nat):Int)=aA us (i:Int):=by
  simp[aA]
theorem nP (a:R) (us:List R):aA (a::us) ((0:Nat):Int)=a:=by
  simp[aA]
theorem bXW (n:Int):∀ (us hs:List R) (i:Int) (B:List Bool),us.length=hs.length→gI n i us hs B=true→
    ∀ j:Nat,j < us.length→(wQ (aA us j).f0=true∧wQ (aA us j).f1=true)∧(l7 (i + j) n (aA hs j).f0=true∧l7 (i + j) n (aA hs j).f1=true):=by
  intro us
  induction us with
  |nil=>intro hs i B hl h j hj;simp at hj
  | cons a us ih=>
    intro hs i B hl h j hj;cases hs with
    |nil=>simp at hl
    | cons x hs=>
      simp only[gI,Bool.and_eq_true]at h;cases j with
      | zero=>
        rw[nP,nP];simp only[Int.natCast_zero,Int.add_zero];exact⟨h.1,a7D h.2.1,a7D h.2.2.1⟩
      | succ j=>
        rw[mV,mV];have e:=ih hs (i + 1) _ (by simpa using hl) h.2.2.2 j (by simpa using hj);rw[show i + 1 + (j:Int)=i + ((j + 1:Nat):Int)from by omega]at e;exact e
theorem qW {A H:List R} (h:good A H=true):OJ A H:=by
  simp only[good,Bool.and_eq_true,decide_eq_true_eq]at h;have g:=bXW (A.length:Int) A H 0 _ h.2.1.symm h.2.2;exact⟨by omega,h.2.1,fun i hi=>(g i hi).1,fun i hi=>by have:=(g i hi).2;rw[Int.zero_add]at this;exact this⟩
def nx (j:Nat) (h:Int):Nat:=if h > 0 then j + 1 else j
def cnt:List R→Nat
  |[]=>0
  |h::hs=>nx (nx 0 h.f0) h.f1 + cnt hs
theorem yV (j:Nat) (h:Int):nx j h=j + nx 0 h:=by
  unfold nx
  split <;> omega
def tc:List Bool→Nat
  |[]=>0
  |b::bs=>(if b then 1 else 0) + tc bs
theorem bOM:∀ (B:List Bool) (j:Nat),j < B.length→B.getD j false=false→tc (B.set j true)=tc B + 1:=by
  intro B
  induction B with
  |nil=>intro j h;simp at h
  | cons b bs ih=>
    intro j h h0;cases j with
    | zero=>
      simp at h0;subst h0;simp[tc];omega
    | succ j=>
      simp only[List.set_cons_succ,tc];rw[ih j (by simpa using h) (by simpa using h0)];omega
theorem bON:∀ (B:List Bool),B.all id=true→tc B=B.length:=by
  intro B
  induction B with
  |nil=>intro _;rfl
  | cons b bs ih=>
    intro h;simp only[List.all_cons,id,Bool.and_eq_true]at h;simp only[tc,h.1,if_true,List.length_cons];rw[ih h.2];omega
theorem bOO (n:Nat):tc (List.replicate n false)=0:=by
  induction n with
  |zero=>rfl
  |succ n ih=>simp[List.replicate_succ,tc,ih]
theorem aHE {i n h:Int} {B:List Bool} (hi:0≤i) (hn:n=B.length) (hs:l8 i n B h=true):(mark B h).headD false=B.headD false∧tc (mark B h) + nx 0 h=tc B + 1:=by
  simp only[l8,kR,Bool.or_eq_true,Bool.and_eq_true,decide_eq_true_eq,Bool.not_eq_true']at hs;unfold mark nx;by_cases h0:h < 0
  · rw[if_pos h0,if_neg (by omega)]
    rcases hs with hs|hs
    · omega
    · refine⟨?_,?_⟩
      · obtain⟨j,hj⟩:∃ j:Nat,(-h).toNat=j + 1:=⟨(-h).toNat - 1,by omega⟩
        rw[hj];cases B <;> simp
      · have e:=bOM B (-h).toNat (by omega) hs.2
        omega
  · rw[if_neg h0,if_pos (by omega)]
    exact⟨rfl,by omega⟩
theorem bOP (n:Int):∀ (us hs:List R) (i:Int) (B:List Bool),us.length=hs.length→gI n i us hs B=true→0≤i→n=B.length→1≤n→B.headD false=false→tc B + 2 * us.length + 1=B.length + cnt hs:=by
  intro us
  induction us with
  | nil=>
    intro hs i B hl h hi hn h1 hd;have:hs=[]:=List.eq_nil_of_length_eq_zero (by simpa using hl.symm);subst this;unfold gI at h;cases B with
    |nil=>simp at hn;omega
    | cons b bs=>
      simp at hd;subst hd;have e:=bON bs (by simpa using h);simp[tc,cnt,e]
  | cons a us ih=>
    intro hs i B hl h hi hn h1 hd;cases hs with
    |nil=>simp at hl
    | cons x hs=>
      simp only[gI,Bool.and_eq_true]at h;obtain⟨_,s0,s1,g⟩:=h;obtain⟨a1,a2⟩:=aHE hi hn s0;have hn2:n=(mark B x.f0).length:=by rw[kF];exact hn
      obtain⟨b1,b2⟩:=aHE hi hn2 s1;have e:=ih hs (i + 1) _ (by simpa using hl) g (by omega) (by rw[kF];exact hn2) h1 (by rw[b1,a1];exact hd);rw[kF,kF]at e;have n1:=yV (nx 0 x.f0) x.f1;simp only[cnt,List.length_cons];omega
theorem aAS {A H:List R} (h:good A H=true):cnt H=A.length + 1:=by
  have ok:=qW h;have o1:=ok.len;have o2:=ok.same;simp only[good,Bool.and_eq_true,decide_eq_true_eq]at h
  have e:=bOP (A.length:Int) A H 0 _ h.2.1.symm h.2.2 (by omega) (by simp) (by omega) (by
    obtain⟨m,hm⟩:∃ m,A.length=m + 1:=⟨A.length - 1,by omega⟩
    rw[hm]
    simp[List.replicate_succ])
  rw[bOO,List.length_replicate]at e;omega
theorem BA {α:Type} (l:List α) (a j:Nat) (x d:α):(l.set a x).getD j d=if a=j∧j < l.length then x else l.getD j d:=by
  rw[List.getD_eq_getElem?_getD,List.getElem?_set,List.getD_eq_getElem?_getD];by_cases h:a=j
  · subst h
    by_cases h2:a < l.length
    · rw[if_pos rfl,if_pos h2,if_pos ⟨rfl,h2⟩]
      rfl
    · rw[if_pos rfl,if_neg h2,if_neg (by omega),List.getElem?_eq_none (by omega)]
  · rw[if_neg h,if_neg (by omega)]
theorem K3 {i n:Nat} {B:List Bool} {h:Int} (hs:l8 (i:Int) (n:Int) B h=true) (h0:h < 0):(i:Int) + 1≤ -h∧ -h≤(n:Int) - 1∧B.getD (-h).toNat false=false:=by
  simp only[l8,kR,Bool.or_eq_true,Bool.and_eq_true,decide_eq_true_eq,Bool.not_eq_true']at hs;rcases hs with hs|hs
  · omega
  · exact⟨hs.1.1,hs.1.2,hs.2⟩
theorem aRP (n:Int):∀ (us hs:List R) (i:Nat) (B:List Bool),us.length=hs.length→gI n (i:Int) us hs B=true→∀ j:Nat,1≤j→j≤i→j < B.length→B.getD j false=true:=by
  intro us
  induction us with
  | nil=>
    intro hs i B hl h j h1 h2 h3;unfold gI at h;rw[List.all_eq_true]at h;obtain⟨j,rfl⟩:∃ m,j=m + 1:=⟨j - 1,by omega⟩
    have:=h (B[j + 1]) (by
      rw[List.mem_iff_getElem]
      exact⟨j,by simp;omega,by simp[Nat.add_comm]⟩)
    rw[List.getD_eq_getElem?_getD,List.getElem?_eq_getElem h3];exact this
  | cons a us ih=>
    intro hs i B hl h j h1 h2 h3;cases hs with
    |nil=>simp at hl
    | cons x hs=>
      simp only[gI,Bool.and_eq_true]at h;obtain⟨_,s0,s1,g⟩:=h;have e:=ih hs (i + 1) _ (by simpa using hl) g j h1 (by omega) (by rw[kF,kF];exact h3);have out:∀ (C:List Bool) (y:Int),l8 (i:Int) n C y=true→(mark C y).getD j false=true→C.getD j false=true:=by
        intro C y hs hm;unfold mark at hm;by_cases h0:y < 0
        · simp only[l8,kR,Bool.or_eq_true,Bool.and_eq_true,decide_eq_true_eq,Bool.not_eq_true']at hs
          rw[if_pos h0,BA,if_neg (by omega)]at hm;exact hm
        · rw[if_neg h0]at hm
          exact hm
      exact out B x.f0 s0 (out _ x.f1 s1 e)
def up (X:List Int) (h:Int):List Int:=if h > 0 then X ++ [h]else X
def leaves (X:List Int):List R→List Int
  |[]=>X
  |h::hs=>leaves (up (up X h.f0) h.f1) hs
theorem NJ (X:List Int) (h:Int):(up X h).length≤X.length + 1:=by
  unfold up
  split <;> simp
theorem aHN:∀ (hs:List R) (X:List Int),(leaves X hs).length≤X.length + 2 * hs.length:=by
  intro hs
  induction hs with
  |nil=>intro X;simp[leaves]
  | cons h hs ih=>
    intro X;have e:=ih (up (up X h.f0) h.f1);have e1:=NJ X h.f0;have e2:=NJ (up X h.f0) h.f1;simp only[leaves,List.length_cons];omega
theorem aGI:∀ (hs q:List R) (X:List Int) (k:Nat),(q ++ hs).length≤1048576→X.length + 2 * hs.length≤4194304→4 * hs.length + 4 < k→
    eF.l0 k X (q ++ hs) ((q ++ hs).length:Int) (q.length:Int)=some (leaves X hs):=by
  intro hs
  induction hs with
  | nil=>
    intro q X k hl hX hk;obtain⟨k,rfl⟩:∃ m,k=m + 1:=⟨k - 1,by omega⟩
    simp only[eF.l0];rw[if_neg (by simp)];rfl
  | cons h hs ih=>
    intro q X k hl hX hk;simp only[List.length_cons]at hX hk;obtain⟨k,rfl⟩:∃ m,k=m + 4:=⟨k - 4,by omega⟩
    have w1:wrap64 (0 + 1)=1:=cZ (by omega) (by omega);have w2:wrap64 (1 + 1)=2:=cZ (by omega) (by omega);have d0:0≤(q.length:Int):=by omega
    have d1:(q.length:Int) < ((q ++ h::hs).length:Int):=by simp;omega
    have q1:¬ ((1:Int)=0):=by omega
    have x0:X.length < 17592186044416:=by omega
    have u:=NJ X h.f0;have u1:=NJ (up X h.f0) h.f1;have x1:(up X h.f0).length < 17592186044416:=by omega
    rw[show eF.l0 (k + 4) X (q ++ h::hs) ((q ++ h::hs).length:Int) (q.length:Int)=eF.l1 (k + 3) X (q ++ h::hs) ((q ++ h::hs).length:Int) (q.length:Int) 0 h.f0 h.f1 from by simp only[eF.l0,d0,d1,GG,if_true]];generalize hn:((q ++ h::hs).length:Int)=n
    rw[show eF.l1 (k + 3) X (q ++ h::hs) n (q.length:Int) 0 h.f0 h.f1=eF.l1 (k + 2) (up X h.f0) (q ++ h::hs) n (q.length:Int) 1 h.f0 h.f1 from by
      by_cases c:h.f0 > 0 <;> simp only[eF.l1,w1,x0,c,up,if_true,if_false,Int.reduceLT]]
    rw[show eF.l1 (k + 2) (up X h.f0) (q ++ h::hs) n (q.length:Int) 1 h.f0 h.f1=eF.l1 (k + 1) (up (up X h.f0) h.f1) (q ++ h::hs) n (q.length:Int) 2 h.f0 h.f1 from by
      generalize up X h.f0=Y at x1
      by_cases c:h.f1 > 0 <;> simp only[eF.l1,w2,q1,x1,c,up,if_true,if_false,Int.reduceLT]]
    rw[show eF.l1 (k + 1) (up (up X h.f0) h.f1) (q ++ h::hs) n (q.length:Int) 2 h.f0 h.f1=eF.l0 k (up (up X h.f0) h.f1) (q ++ h::hs) n (wrap64 ((q.length:Int) + 1))from by simp only[eF.l1,if_false,Int.reduceLT]];subst hn;rw[uR q h (by simp at hl;omega),List.append_cons q h hs,ih (q ++ [h]) _ k (by simpa using hl) (by omega) (by omega)];rfl
theorem b03 (X:List Int) (h:Int):(up X h).length=nx X.length h:=by
  unfold up nx
  split <;> simp
theorem a0N:∀ (hs:List R) (X:List Int),(leaves X hs).length=X.length + cnt hs:=by
  intro hs
  induction hs with
  |nil=>intro X;rfl
  | cons h hs ih=>
    intro X;simp only[leaves,cnt];rw[ih,b03,b03];have n1:=yV (nx X.length h.f0) h.f1;have n2:=yV X.length h.f0;have n3:=yV (nx 0 h.f0) h.f1;omega
theorem a7P (A H:List R) (k:Nat) (h2:H.length≤1048576) (hk:4 * H.length + 4 < k):eF.f k A H=some (leaves [] H):=by
  unfold eF.f;exact aGI H [] [] k (by simpa using h2) (by simp;omega) hk
theorem b82 (A H:List R) (h1:A.length≤1048576) (h2:H.length≤1048576):pW.f A H=some (A,H):=by
  unfold pW.f;rw[Option.bind_some,if_pos (by simp;omega),Option.bind_some,if_pos (by simp;omega)];rfl
theorem aNK (A:List R) (h1:A.length≤1048576):jO.f A=some A:=by
  unfold jO.f;rw[Option.bind_some,if_pos (by simp;omega)];rfl
theorem bHP (A H:List R) (h1:A.length≤1048576) (h2:H.length≤1048576):kM.f A H=some (A,H):=by
  unfold kM.f;rw[aNK A h1,Option.bind_some,aNK H h2];rfl
def pt (w:List Int) (j:Nat) (h:Int):Int:=if h > 0 then rd w (j:Int)else h
def hang (w:List Int):Nat→List R→List R
  |_,[]=>[]
  |j,h::hs=>⟨pt w j h.f0,pt w (nx j h.f0) h.f1⟩::hang w (nx (nx j h.f0) h.f1) hs
theorem a7Q (w:List Int):∀ (hs:List R) (j:Nat),(hang w j hs).length=hs.length:=by
  intro hs
  induction hs with
  |nil=>intro j;rfl
  |cons h hs ih=>intro j;simp[hang,ih]
theorem set_mid {α:Type} (q s:List α) (x y:α):(q ++ x::s).set q.length y=q ++ y::s:=by
  rw[List.set_append_right _ _ (Nat.le_refl _),Nat.sub_self,List.set_cons_zero]
theorem bHQ (w:List Int) (A q p hs:List R) (h g:R) (j k:Nat) (hpq:q.length=p.length) (hj:nx j h.f0≤w.length) (hw:w.length≤4194304):
    eO.l1 (k + 1) w (j:Int) (q.length:Int) 0 A (q ++ h::hs) A (p ++ g::hs)=eO.l1 k w (nx j h.f0:Int) (q.length:Int) 1 A (q ++ h::hs) A (p ++ (⟨if h.f0 > 0 then rd w j else g.f0,g.f1⟩:R)::hs):=by
  have w1:wrap64 (0 + 1)=1:=cZ (by omega) (by omega);have hr:aA (p ++ g::hs) (q.length:Int)=g:=by rw[hpq];exact GG p hs g
  have hn:((q.length:Nat):Int).toNat=p.length:=by omega
  simp only[eO.l1];rw[if_pos (by decide),if_pos (by omega),if_pos (by simp;omega),if_pos trivial,GG,w1];unfold nx at hj ⊢;by_cases c:h.f0 > 0
  · rw[if_pos c]at hj
    rw[if_pos c,if_pos c,if_pos c,if_pos (by omega),if_pos (by omega),if_pos (by simp;omega),hr,hn,set_mid,cZ (x:=(j:Int) + 1) (by omega) (by omega)];rfl
  · rw[if_neg c,if_neg c,if_neg c]
theorem bHR (w:List Int) (A q p hs:List R) (h g:R) (j k:Nat) (hpq:q.length=p.length) (hj:nx j h.f1≤w.length) (hw:w.length≤4194304):
    eO.l1 (k + 1) w (j:Int) (q.length:Int) 1 A (q ++ h::hs) A (p ++ g::hs)=eO.l1 k w (nx j h.f1:Int) (q.length:Int) 2 A (q ++ h::hs) A (p ++ (⟨g.f0,if h.f1 > 0 then rd w j else g.f1⟩:R)::hs):=by
  have w2:wrap64 (1 + 1)=2:=cZ (by omega) (by omega);have hr:aA (p ++ g::hs) (q.length:Int)=g:=by rw[hpq];exact GG p hs g
  have hn:((q.length:Nat):Int).toNat=p.length:=by omega
  simp only[eO.l1];rw[if_pos (by decide),if_pos (by omega),if_pos (by simp;omega),if_neg (by decide),if_pos trivial,GG,w2];unfold nx at hj ⊢;by_cases c:h.f1 > 0
  · rw[if_pos c]at hj
    rw[if_pos c,if_pos c,if_pos c,if_pos (by omega),if_pos (by omega),if_pos (by simp;omega),hr,hn,set_mid,cZ (x:=(j:Int) + 1) (by omega) (by omega)];rfl
  · rw[if_neg c,if_neg c,if_neg c]
theorem aNL (w:List Int) (A:List R) (hw:w.length≤4194304):∀ (hs q p:List R) (j k:Nat),q.length=p.length→(q ++ hs).length≤1048576→j + cnt hs≤w.length→4 * hs.length + 4 < k→
    eO.l0 k w (j:Int) (q.length:Int) A (q ++ hs) A (p ++ hs)=some (A,p ++ hang w j hs):=by
  intro hs
  induction hs with
  | nil=>
    intro q p j k hpq hl hc hk;obtain⟨k,rfl⟩:∃ m,k=m + 1:=⟨k - 1,by omega⟩
    simp only[eO.l0];rw[if_neg (by simp)];rfl
  | cons h hs ih=>
    intro q p j k hpq hl hc hk;simp only[List.length_cons]at hk;simp only[cnt]at hc;obtain⟨k,rfl⟩:∃ m,k=m + 4:=⟨k - 4,by omega⟩
    have n1:=yV (nx j h.f0) h.f1;have n2:=yV j h.f0;have n3:=yV (nx 0 h.f0) h.f1;have d1:(q.length:Int) < ((q ++ h::hs).length:Int):=by simp;omega
    rw[show eO.l0 (k + 4) w (j:Int) (q.length:Int) A (q ++ h::hs) A (p ++ h::hs)=eO.l1 (k + 3) w (j:Int) (q.length:Int) 0 A (q ++ h::hs) A (p ++ h::hs)from by simp only[eO.l0,d1,if_true]];rw[bHQ w A q p hs h h j (k + 2) hpq (by omega) hw,bHR w A q p hs h _ (nx j h.f0) (k + 1) hpq (by omega) hw];simp only[eO.l1];rw[if_neg (by decide),uR q h (by simp at hl;omega),List.append_cons q h hs,List.append_cons p _ hs,ih (q ++ [h]) _ (nx (nx j h.f0) h.f1) k (by simp[hpq]) (by simpa using hl) (by omega) (by omega)];simp[hang,pt]
theorem bHS (w:List Int) (A q p hs:List R) (n:Int) (X:List R) (h g:R) (j k:Nat) (hpq:q.length=p.length) (hj:nx j h.f0≤w.length) (hw:w.length≤4194304):
    dX.l1 (k + 1) w (j:Int) (q.length:Int) X n (q.length:Int) 0 A (p ++ g::hs) h.f0 h.f1=dX.l1 k w (nx j h.f0:Int) (q.length:Int) X n (q.length:Int) 1 A (p ++ (⟨if h.f0 > 0 then rd w j else g.f0,g.f1⟩:R)::hs) h.f0 h.f1:=by
  have w1:wrap64 (0 + 1)=1:=cZ (by omega) (by omega);have hr:aA (p ++ g::hs) (q.length:Int)=g:=by rw[hpq];exact GG p hs g
  have hn:((q.length:Nat):Int).toNat=p.length:=by omega
  simp only[dX.l1];rw[if_pos (by decide),if_pos trivial,w1];unfold nx at hj ⊢;by_cases c:h.f0 > 0
  · rw[if_pos c]at hj
    rw[if_pos c,if_pos c,if_pos c,if_pos (by omega),if_pos (by omega),if_pos (by omega),if_pos (by simp;omega),hr,hn,set_mid,cZ (x:=(j:Int) + 1) (by omega) (by omega)];rfl
  · rw[if_neg c,if_neg c,if_neg c]
theorem bHT (w:List Int) (A q p hs:List R) (n:Int) (X:List R) (h g:R) (j k:Nat) (hpq:q.length=p.length) (hj:nx j h.f1≤w.length) (hw:w.length≤4194304):
    dX.l1 (k + 1) w (j:Int) (q.length:Int) X n (q.length:Int) 1 A (p ++ g::hs) h.f0 h.f1=dX.l1 k w (nx j h.f1:Int) (q.length:Int) X n (q.length:Int) 2 A (p ++ (⟨g.f0,if h.f1 > 0 then rd w j else g.f1⟩:R)::hs) h.f0 h.f1:=by
  have w2:wrap64 (1 + 1)=2:=cZ (by omega) (by omega);have hr:aA (p ++ g::hs) (q.length:Int)=g:=by rw[hpq];exact GG p hs g
  have hn:((q.length:Nat):Int).toNat=p.length:=by omega
  simp only[dX.l1];rw[if_pos (by decide),if_neg (by decide),if_pos trivial,w2];unfold nx at hj ⊢;by_cases c:h.f1 > 0
  · rw[if_pos c]at hj
    rw[if_pos c,if_pos c,if_pos c,if_pos (by omega),if_pos (by omega),if_pos (by omega),if_pos (by simp;omega),hr,hn,set_mid,cZ (x:=(j:Int) + 1) (by omega) (by omega)];rfl
  · rw[if_neg c,if_neg c,if_neg c]
theorem aNM (w:List Int) (A:List R) (hw:w.length≤4194304):∀ (hs q p:List R) (j k:Nat),q.length=p.length→(q ++ hs).length≤1048576→j + cnt hs≤w.length→4 * hs.length + 4 < k→
    dX.l0 k w (j:Int) (q ++ hs) ((q ++ hs).length:Int) (q.length:Int) A (p ++ hs)=some (A,p ++ hang w j hs):=by
  intro hs
  induction hs with
  | nil=>
    intro q p j k hpq hl hc hk;obtain⟨k,rfl⟩:∃ m,k=m + 1:=⟨k - 1,by omega⟩
    simp only[dX.l0];rw[if_neg (by simp)];rfl
  | cons h hs ih=>
    intro q p j k hpq hl hc hk;simp only[List.length_cons]at hk;simp only[cnt]at hc;obtain⟨k,rfl⟩:∃ m,k=m + 4:=⟨k - 4,by omega⟩
    have n1:=yV (nx j h.f0) h.f1;have n2:=yV j h.f0;have n3:=yV (nx 0 h.f0) h.f1;have d0:0≤(q.length:Int):=by omega
    have d1:(q.length:Int) < ((q ++ h::hs).length:Int):=by simp;omega
    rw[show dX.l0 (k + 4) w (j:Int) (q ++ h::hs) ((q ++ h::hs).length:Int) (q.length:Int) A (p ++ h::hs)=dX.l1 (k + 3) w (j:Int) (q.length:Int) (q ++ h::hs) ((q ++ h::hs).length:Int) (q.length:Int) 0 A (p ++ h::hs) h.f0 h.f1 from by simp only[dX.l0,d0,d1,GG,if_true]];rw[bHS w A q p hs _ _ h h j (k + 2) hpq (by omega) hw,bHT w A q p hs _ _ h _ (nx j h.f0) (k + 1) hpq (by omega) hw];simp only[dX.l1];rw[if_neg (by decide),uR q h (by simp at hl;omega),List.append_cons q h hs,List.append_cons p _ hs,ih (q ++ [h]) _ (nx (nx j h.f0) h.f1) k (by simp[hpq]) (by simpa using hl) (by omega) (by omega)];simp[hang,pt]
theorem b04 (w:List Int) (A H:List R) (k:Nat) (hw:w.length≤4194304) (h1:A.length≤1048576) (h2:H.length≤1048576) (hc:cnt H≤w.length) (hk:4 * H.length + 4 < k):eO.f k A H w=some (A,hang w 0 H):=by
  unfold eO.f;rw[b82 A H h1 h2,Option.bind_some];exact aNL w A hw H [] [] 0 k rfl (by simpa using h2) (by omega) hk
theorem aO7 (w:List Int) (A H:List R) (k:Nat) (hw:w.length≤4194304) (h1:A.length≤1048576) (h2:H.length≤1048576) (hc:cnt H≤w.length) (hk:4 * H.length + 4 < k):dX.f k A H w=some (A,hang w 0 H):=by
  unfold dX.f;rw[bHP A H h1 h2,Option.bind_some];exact aNM w A hw H [] [] 0 k rfl (by simpa using h2) (by omega) hk
theorem b05 {i n h:Int} {B:List Bool} {w:List Int} {j:Nat} (hs:l8 i n B h=true) (hw:∀ x ∈ w,kR x=true) (hj:nx j h≤w.length):l8 i n B (pt w j h)=true∧mark B (pt w j h)=mark B h:=by
  unfold pt;unfold nx at hj;by_cases c:h > 0
  · rw[if_pos c]at hj
    rw[if_pos c];have hm:rd w (j:Int) ∈ w:=by
      simp only[rd,Int.toNat_natCast];rw[List.getD_eq_getElem?_getD,List.getElem?_eq_getElem (by omega)];exact List.getElem_mem _
    have hl:=hw _ hm;have hl2:=hl;simp only[kR,decide_eq_true_eq]at hl2;refine⟨by simp only[l8,hl,Bool.true_or],?_⟩;unfold mark;rw[if_neg (by omega),if_neg (by omega)]
  · rw[if_neg c]
    exact⟨hs,rfl⟩
theorem bHU (n:Int) (w:List Int) (hw:∀ x ∈ w,kR x=true):∀ (us hs:List R) (i:Int) (B:List Bool) (j:Nat),j + cnt hs≤w.length→gI n i us hs B=true→gI n i us (hang w j hs) B=true:=by
  intro us
  induction us with
  | nil=>
    intro hs i B j hj h;unfold gI at h ⊢;exact h
  | cons a us ih=>
    intro hs i B j hj h;cases hs with
    |nil=>exact h
    | cons x hs=>
      simp only[cnt]at hj;have n1:=yV (nx j x.f0) x.f1;have n2:=yV j x.f0;have n3:=yV (nx 0 x.f0) x.f1;simp only[gI,Bool.and_eq_true]at h;obtain⟨s,s0,s1,g⟩:=h;obtain⟨p0,m0⟩:=b05 s0 hw (j:=j) (by omega);obtain⟨p1,m1⟩:=b05 s1 hw (j:=nx j x.f0) (by omega);simp only[hang,gI,Bool.and_eq_true];rw[m0,m1];exact⟨s,p0,p1,ih hs (i + 1) _ _ (by omega) g⟩
theorem b06 {A H:List R} {w:List Int} (h:good A H=true) (hw:∀ x ∈ w,kR x=true) (hc:cnt H≤w.length):good A (hang w 0 H)=true:=by
  simp only[good,Bool.and_eq_true,decide_eq_true_eq]at h ⊢;refine⟨h.1,by rw[a7Q];exact h.2.1,bHU _ w hw A H 0 _ 0 (by omega) h.2.2⟩
theorem aRQ (h:Int) (W:List Int):rE.f h W=wI.f h W:=rfl
theorem aDU (A H:List R):∀ (k:Nat) (X:List Int) (j:Int),fO.l0 k X j A H=eT.l0 k X j A H:=by
  intro k
  induction k with
  |zero=>intro X j;rfl
  | succ k ih=>
    intro X j;simp only[fO.l0,eT.l0,aRQ,ih]
theorem a3T (k:Nat) (A H:List R):fO.f k A H=eT.f k A H:=by
  unfold fO.f eT.f;simp only[aDU]
def mW (W:List Int) (h:Int):Int:=if h < 0 then rd W (-h)else h
theorem at_eq {i n h:Int} {W:List Int} (hi:0≤i) (hn:n≤100) (he:l7 i n h=true) (hl:(W.length:Int)=n):wI.f h W=some (mW W h):=by
  unfold wI.f mW;by_cases h0:h < 0
  · have c:=child he h0
    rw[if_pos h0,if_pos h0,cZ (x:=-h) (by omega) (by omega),if_pos (by omega),if_pos (by omega)]
  · rw[if_neg h0,if_neg h0]
def bd:Nat→Int
  |0=>99
  |d + 1=>2 * bd d
theorem aGJ:∀ (a b:Nat),a≤b→99≤bd a∧bd a≤bd b:=by
  intro a b
  induction b with
  | zero=>
    intro h;have:a=0:=by omega
    subst this;simp[bd]
  | succ b ih=>
    intro h;rcases Nat.lt_or_ge b a with h1|h1
    · have:a=b + 1:=by omega
      subst this;refine⟨?_,Int.le_refl _⟩;clear ih h h1
      induction b with
      |zero=>simp[bd]
      |succ b ih=>simp only[bd]at ih ⊢;omega
    · have:=ih h1
      simp only[bd];omega
theorem bd6 (d:Nat) (h:d≤6):bd d≤6336:=by
  have:=(aGJ d 6 h).2
  simpa [bd] using this
theorem Y8 {n i:Nat} {h:Int} {W:List Int} (he:l7 (i:Int) (n:Int) h=true) (hi:i < n) (hl:W.length=n) (hW:∀ m:Nat,i < m→m < n→1≤rd W (m:Int)∧rd W (m:Int)≤bd (n - m)):1≤mW W h∧mW W h≤bd (n - i - 1):=by
  unfold mW;by_cases h0:h < 0
  · rw[if_pos h0]
    have c:=child he h0;obtain⟨m,hm⟩:∃ m:Nat,-h=(m:Int):=⟨(-h).toNat,by omega⟩
    rw[hm]at c ⊢;have w:=hW m (by omega) (by omega);have b:=(aGJ (n - m) (n - i - 1) (by omega)).2;omega
  · rw[if_neg h0]
    have b:=(aGJ 0 (n - i - 1) (by omega)).2;simp only[bd]at b;simp only[l7,kR,Bool.or_eq_true,decide_eq_true_eq]at he;omega
structure WOk (n:Nat) (W:List Int):Prop where
  len:W.length=n
  bound:∀ m:Nat,m < n→1≤rd W (m:Int)∧rd W (m:Int)≤bd (n - m)
theorem aHO (W:List Int) (A H:List R):∀ (k:Nat) (X:List Int) (j:Int),gL.l0 k W X A (A.length:Int) j A H=gG.l0 k X W j A H:=by
  intro k
  induction k with
  |zero=>intro X j;rfl
  | succ k ih=>
    intro X j;by_cases c:j < (A.length:Int)
    · simp only[gL.l0,gG.l0,aRQ,ih,c,if_true]
    · simp only[gL.l0,gG.l0,c,if_false]
theorem b83 (k:Nat):∀ a b,mI.l0 k a b=kT.l0 k a b:=by
  induction k with
  |zero=>intro a b;rfl
  | succ k ih=>
    intro a b;simp only[mI.l0,kT.l0,ih]
theorem b07:∀ (k a b:Nat),b < k→kT.l0 k (a:Int) (b:Int)=some ((Nat.gcd a b:Nat):Int):=by
  intro k
  induction k with
  |zero=>intro a b h;omega
  | succ k ih=>
    intro a b h;simp only[kT.l0];by_cases hb:b=0
    · subst hb
      rw[if_neg (by simp)];simp
    · rw[if_pos (by omega),if_neg (by omega)]
      rw[show Int.tmod (a:Int) (b:Int)=((a % b:Nat):Int)from by simp[Int.tmod]];rw[ih b (a % b) (by have:=Nat.mod_lt a (Nat.pos_of_ne_zero hb);omega),Nat.gcd_comm b,← Nat.gcd_rec,Nat.gcd_comm]
def gd (a b:Int):Int:=((Nat.gcd a.natAbs b.natAbs:Nat):Int)
theorem SF {a b:Int} (h:0 < b):0 < gd a b:=by
  have:=Nat.gcd_pos_of_pos_right a.natAbs (show 0 < b.natAbs by omega);unfold gd;omega
theorem WQ (a b:Int):gd a b ∣ a∧gd a b ∣ b:=by
  unfold gd;exact⟨Int.ofNat_dvd_left.2 (Nat.gcd_dvd_left _ _),Int.ofNat_dvd_left.2 (Nat.gcd_dvd_right _ _)⟩
def cut (a b:Int):Int × Int:=(a / gd a b,b / gd a b)
theorem aRR {a b:Int} (h:0 < b):(cut a b).1.natAbs≤a.natAbs∧0 < (cut a b).2∧(cut a b).2≤b:=by
  have hp:=SF (a:=a) h;obtain⟨⟨x,hx⟩,⟨y,hy⟩⟩:=WQ a b;unfold cut;generalize gd a b=g at *;subst hx hy;simp only;rw[Int.mul_ediv_cancel_left _ (by omega),Int.mul_ediv_cancel_left _ (by omega)];have hy:0 < y:=by
    rcases Int.lt_or_le 0 y with hy|hy
    · exact hy
    · have:=Int.mul_nonpos_of_nonneg_of_nonpos (Int.le_of_lt hp) hy
      omega
  refine⟨?_,hy,?_⟩
  · rw[Int.natAbs_mul]
    have:1≤g.natAbs:=by omega
    exact Nat.le_mul_of_pos_left _ this
  · have:=Int.mul_le_mul_of_nonneg_right (show 1≤g by omega) (Int.le_of_lt hy)
    omega
theorem bHV {a b:Int} (h:0 < b) (ha:0 < a):0 < (cut a b).1:=by
  have hp:=SF (a:=a) h;obtain⟨x,hx⟩:=(WQ a b).1;show 0 < a / gd a b
  generalize gd a b=g at *;subst hx;rw[Int.mul_ediv_cancel_left _ (by omega)];rcases Int.lt_or_le 0 x with hy|hy
  · exact hy
  · have:=Int.mul_nonpos_of_nonneg_of_nonpos (Int.le_of_lt hp) hy
    omega
theorem aNN (k:Nat) (a b:Int) (hb:0 < b) (hB:b≤4611686018427387904) (ha: -4611686018427387904≤a∧a≤4611686018427387904) (hk:b.toNat < k):kY.f k a b=some (cut a b):=by
  unfold kY.f wT.f kT.f;rw[cZ (x:=-a) (by omega) (by omega)];have e:(if a > -a then some a else some (-a))=some ((a.natAbs:Nat):Int):=by
    split <;> (congr 1;omega)
  rw[e,Option.bind_some];have hb2:b=((b.natAbs:Nat):Int):=by omega
  have hc:=aRR (a:=a) hb;have hp:=SF (a:=a) hb;have hd:=WQ a b
  rw[show kT.l0 k (a.natAbs:Int) b=some (gd a b)from by
    unfold gd
    rw[← b07 k a.natAbs b.natAbs (by omega),← hb2]]
  rw[Option.bind_some,if_neg (by omega)];unfold cut at hc ⊢;simp only at hc;rw[Int.tdiv_eq_ediv_of_dvd hd.1,Int.tdiv_eq_ediv_of_dvd hd.2,cZ (by omega) (by omega),cZ (by omega) (by omega)]
theorem b08 (d x y:Int) (hd:0 < d):gd (d * x) (d * y)=d * gd x y:=by
  unfold gd;rw[Int.natAbs_mul,Int.natAbs_mul,Nat.gcd_mul_left,Int.natCast_mul];congr 1;omega
def gA (l:List Int) (c:Int):Int:=l.foldl gd c
theorem b09 (d:Int) (hd:0 < d):∀ (l:List Int) (c:Int),gA (l.map (fun x=>d * x)) (d * c)=d * gA l c:=by
  intro l
  induction l with
  |nil=>intro c;rfl
  | cons x l ih=>
    intro c;show gA (l.map (fun x=>d * x)) (gd (d * c) (d * x))=d * gA l (gd c x)
    rw[b08 _ _ _ hd,ih]
theorem bHW (l:List Int) (c x:Int):gA (l ++ [x]) c=gd (gA l c) x:=by simp[gA,List.foldl_append]
theorem bOQ:∀ (l:List Int) (c:Int),(∀ x ∈ l,0 < x)→0 < c→0 < gA l c:=by
  intro l
  induction l with
  |nil=>intro c _ h;exact h
  | cons x l ih=>
    intro c h hc;exact ih (gd c x) (fun y hy=>h y (by simp[hy])) (SF (h x (by simp)))
theorem aGK (l:List Int) (h:∀ x ∈ l,0 < x) (hl:l ≠ []):0 < gA l 0:=by
  cases l with
  |nil=>exact absurd rfl hl
  | cons x l=>
    exact bOQ l (gd 0 x) (fun y hy=>h y (by simp[hy])) (SF (h x (by simp)))
def Lk (D P t b:Int):Prop:=0 < P∧P≤D∧0 < t∧0 < b∧b ∣ D∧t * D=b * P
theorem K4 {a b:Int} (ha:0 < a) (h:0 < a * b):0 < b:=by
  rcases Int.lt_or_le 0 b with hb|hb
  · exact hb
  · have:=Int.mul_nonpos_of_nonneg_of_nonpos (Int.le_of_lt ha) hb
    omega
theorem Lk.le {D P t b:Int} (h:Lk D P t b):t≤b∧b≤D∧0 < D:=by
  obtain⟨h1,h2,h3,h4,h5,h6⟩:=h;have hD:0 < D:=by omega
  refine⟨?_,Int.le_of_dvd hD h5,hD⟩;have:t * D≤b * D:=by
    rw[h6];exact Int.mul_le_mul_of_nonneg_left h2 (by omega)
  exact Int.le_of_mul_le_mul_right this hD
theorem b84 {x y:Int} (hx:0 < x) (hy:0 < y):∃ g:Int,0 < g∧(cut x y).1 * g=x∧(cut x y).2 * g=y∧Nat.Coprime (cut x y).2.natAbs (cut x y).1.natAbs:=by
  have hp:=SF (a:=x) hy;obtain⟨⟨u,hu⟩,⟨v,hv⟩⟩:=WQ x y;refine⟨gd x y,hp,?_,?_,?_⟩
  · show x / gd x y * gd x y=x
    exact Int.ediv_mul_cancel ⟨u,hu⟩
  · show y / gd x y * gd x y=y
    exact Int.ediv_mul_cancel ⟨v,hv⟩
  · have e1:(cut x y).1=u:=by
      show x / gd x y=u
      generalize gd x y=g at *;subst hu;exact Int.mul_ediv_cancel_left _ (by omega)
    have e2:(cut x y).2=v:=by
      show y / gd x y=v
      generalize gd x y=g at *;subst hv;exact Int.mul_ediv_cancel_left _ (by omega)
    rw[e1,e2];have hg:gd (gd x y * u) (gd x y * v)=gd x y * gd u v:=b08 _ _ _ hp;rw[← hu,← hv]at hg;have h1:gd u v=1:=by
      have:gd x y * gd u v=gd x y * 1:=by rw[← hg,Int.mul_one]
      exact(Int.mul_eq_mul_left_iff (by omega)).1 this
    unfold gd at h1;rw[Nat.Coprime,Nat.gcd_comm];omega
theorem aNO {D P t b s o R:Int} (h:Lk D P t b) (hs:0 < s) (ho:0 < o) (hos:o≤s) (hR:s * R ∣ P):
    Lk D (P / s * o) (cut (t * o) (b * s)).1 (cut (t * o) (b * s)).2∧R ∣ P / s * o:=by
  have hle:=h.le;obtain⟨h1,h2,h3,h4,h5,h6⟩:=h;obtain⟨q,hq⟩:=hR;have hm:P / s=R * q:=by
    rw[hq,Int.mul_assoc];exact Int.mul_ediv_cancel_left _ (by omega)
  rw[hm];have hP:P=s * (R * q):=by rw[hq,Int.mul_assoc]
  generalize hmm:R * q=m at *;have m0:0 < m:=K4 hs (by rw[← hP];exact h1);obtain⟨g,g0,gx,gy,co⟩:=b84 (x:=t * o) (y:=b * s) (Int.mul_pos h3 ho) (Int.mul_pos h4 hs);have t0:0 < (cut (t * o) (b * s)).1:=bHV (Int.mul_pos h4 hs) (Int.mul_pos h3 ho);have b0:0 < (cut (t * o) (b * s)).2:=(aRR (a:=t * o) (Int.mul_pos h4 hs)).2.1;generalize (cut (t * o) (b * s)).1=t' at *;generalize (cut (t * o) (b * s)).2=b' at *;have eq:t' * D=b' * (m * o):=by
    have:t' * D * g=b' * (m * o) * g:=by
      rw[show t' * D * g=(t' * g) * D from by rw[Int.mul_assoc,Int.mul_comm D g,← Int.mul_assoc],gx];rw[show b' * (m * o) * g=(b' * g) * (m * o)from by rw[Int.mul_assoc,Int.mul_comm (m * o) g,← Int.mul_assoc],gy];rw[show t * o * D=(t * D) * o from by rw[Int.mul_assoc,Int.mul_comm o D,← Int.mul_assoc],h6,hP];rw[Int.mul_assoc,Int.mul_assoc,Int.mul_assoc]
    exact Int.eq_of_mul_eq_mul_right (by omega) this
  refine⟨⟨Int.mul_pos m0 ho,?_,t0,b0,?_,eq⟩,?_⟩
  · have:m * o≤m * s:=Int.mul_le_mul_of_nonneg_left hos (by omega)
    rw[Int.mul_comm m s,← hP]at this;omega
  · have d1:b'.natAbs ∣ t'.natAbs * D.natAbs:=by
      rw[← Int.natAbs_mul,eq,Int.natAbs_mul];exact⟨_,rfl⟩
    exact Int.natAbs_dvd_natAbs.1 (Nat.Coprime.dvd_of_dvd_mul_left co d1)
  · exact⟨q * o,by rw[← hmm,Int.mul_assoc]⟩
theorem b85 {L b D:Int} (hL:0 < L) (hb:0 < b) (h1:L ∣ D) (h2:b ∣ D):0 < L / gd L b * b∧L / gd L b * b ∣ D∧L ∣ L / gd L b * b∧b ∣ L / gd L b * b:=by
  have hp:=SF (a:=L) hb;have e:L / gd L b * b=((Nat.lcm L.natAbs b.natAbs:Nat):Int):=by
    unfold gd Nat.lcm;have a1:L=((L.natAbs:Nat):Int):=by omega
    have a2:b=((b.natAbs:Nat):Int):=by omega
    generalize L.natAbs=l at *;generalize b.natAbs=c at *;subst a1 a2;obtain⟨x,hx⟩:=Nat.gcd_dvd_left l c;have g0:0 < Nat.gcd l c:=Nat.gcd_pos_of_pos_right _ (by omega)
    rw[show l * c / Nat.gcd l c=x * c from by
      conv=>lhs;lhs;rw[hx,Nat.mul_assoc]
      exact Nat.mul_div_cancel_left _ g0]
    rw[← Int.natCast_ediv,show l / Nat.gcd l c=x from by
      conv=>lhs;lhs;rw[hx]
      exact Nat.mul_div_cancel_left _ g0]
    simp
  have dl:L ∣ L / gd L b * b:=by
    rw[e];exact Int.natAbs_dvd_natAbs.1 (by simpa using Nat.dvd_lcm_left L.natAbs b.natAbs)
  refine⟨?_,?_,dl,⟨L / gd L b,by rw[Int.mul_comm]⟩⟩
  · obtain⟨u,hu⟩:=(WQ L b).1
    have:0 < L / gd L b:=by
      generalize gd L b=g at *;subst hu;rw[Int.mul_ediv_cancel_left _ (by omega)];exact K4 hp hL
    exact Int.mul_pos this hb
  · rw[e]
    exact Int.natAbs_dvd_natAbs.1 (by simpa using Nat.lcm_dvd (Int.natAbs_dvd_natAbs.2 h1) (Int.natAbs_dvd_natAbs.2 h2))
def qOf (L t b:Int):Int:=L / b * t
theorem bOR {D P t b L:Int} (h:Lk D P t b) (hL:0 < L) (hD:L ∣ D) (hb:b ∣ L):D * qOf L t b=L * P∧0 < qOf L t b∧qOf L t b≤D:=by
  have hle:=h.le;obtain⟨h1,h2,h3,h4,h5,h6⟩:=h;obtain⟨x,hx⟩:=hb;have e:qOf L t b=x * t:=by
    unfold qOf;rw[hx,Int.mul_ediv_cancel_left _ (by omega)]
  have x0:0 < x:=K4 h4 (by rw[← hx];exact hL);have eq:D * (x * t)=L * P:=by
    rw[show D * (x * t)=x * (t * D)from by rw[Int.mul_comm D,Int.mul_assoc],h6,hx];rw[← Int.mul_assoc,Int.mul_comm x b]
  rw[e];refine⟨eq,Int.mul_pos x0 h3,?_⟩;have hLD:=Int.le_of_dvd (by omega) hD;have l1:L * P≤D * P:=Int.mul_le_mul_of_nonneg_right hLD (by omega);rw[← eq]at l1;have:=Int.le_of_mul_le_mul_left l1 (by omega);omega
theorem lowest {D L:Int} (hD:0 < D) (hL:0 < L) (P Q:List Int) (h:Q.map (fun x=>D * x)=P.map (fun x=>L * x)):Q.map (fun x=>x / gA Q 0)=P.map (fun x=>x / gA P 0):=by
  have g1:=b09 D hD Q 0;have g2:=b09 L hL P 0;rw[Int.mul_zero]at g1 g2;rw[h,g2]at g1;have e1:Q.map (fun x=>x / gA Q 0)=(Q.map (fun x=>D * x)).map (fun x=>x / (D * gA Q 0)):=by
    rw[List.map_map];apply List.map_congr_left;intro x _;exact(Int.mul_ediv_mul_of_pos x (gA Q 0) hD).symm
  have e2:P.map (fun x=>x / gA P 0)=(P.map (fun x=>L * x)).map (fun x=>x / (L * gA P 0)):=by
    rw[List.map_map];apply List.map_congr_left;intro x _;exact(Int.mul_ediv_mul_of_pos x (gA P 0) hL).symm
  rw[e1,e2,h,g1]
def TQ (f:Int→Int) (h:Int):Int:=if h < 0 then f (-h)else 0
def sB (f:Int→Int):Int→List Bool→Int
  |_,[]=>0
  |j,b::bs=>(if b then f j else 0) + sB f (j + 1) bs
def sA (f:Int→Int):Int→Nat→Int
  |_,0=>0
  |j,n + 1=>f j + sA f (j + 1) n
def sC (f:Int→Int):List R→Int
  |[]=>0
  |h::hs=>TQ f h.f0 + TQ f h.f1 + sC f hs
theorem bOS (f:Int→Int):∀ (bs:List Bool) (j:Int),bs.all id=true→sB f j bs=sA f j bs.length:=by
  intro bs
  induction bs with
  |nil=>intro j _;rfl
  | cons b bs ih=>
    intro j h;simp only[List.all_cons,id,Bool.and_eq_true]at h;simp only[sB,h.1,if_true,List.length_cons,sA];rw[ih (j + 1) h.2]
theorem bOT (f:Int→Int):∀ (n:Nat) (j:Int),sB f j (List.replicate n false)=0:=by
  intro n
  induction n with
  |zero=>intro j;rfl
  | succ n ih=>
    intro j;simp only[List.replicate_succ,sB,ih (j + 1),Bool.false_eq_true,if_false,Int.add_zero]
theorem bOU (f:Int→Int):∀ (bs:List Bool) (m:Nat) (j:Int),m < bs.length→bs.getD m false=false→sB f j (bs.set m true)=sB f j bs + f (j + m):=by
  intro bs
  induction bs with
  |nil=>intro m j h;simp at h
  | cons b bs ih=>
    intro m j h h0;cases m with
    | zero=>
      simp at h0;subst h0;simp only[List.set_cons_zero,sB,if_true,Bool.false_eq_true,if_false,Int.natCast_zero,Int.add_zero];omega
    | succ m=>
      simp only[List.set_cons_succ,sB];rw[ih m (j + 1) (by simpa using h) (by simpa using h0),show j + 1 + (m:Int)=j + ((m + 1:Nat):Int)from by omega];omega
theorem aRT (f:Int→Int) {i n:Nat} {B:List Bool} {h:Int} (hn:n=B.length) (hs:l8 (i:Int) (n:Int) B h=true):sB f 1 ((mark B h).drop 1)=sB f 1 (B.drop 1) + TQ f h:=by
  unfold mark TQ;by_cases h0:h < 0
  · obtain⟨k1,k2,k3⟩:=K3 hs h0
    rw[if_pos h0,if_pos h0];obtain⟨j,hj⟩:∃ j:Nat,(-h).toNat=j + 1:=⟨(-h).toNat - 1,by omega⟩
    rw[hj]at k3 ⊢;cases B with
    |nil=>simp at hn;omega
    | cons b bs=>
      simp only[List.set_cons_succ,List.drop_succ_cons,List.drop_zero];rw[bOU f bs j 1 (by simp at hn;omega) (by simpa using k3),show(1:Int) + (j:Int)= -h from by omega]
  · rw[if_neg h0,if_neg h0,Int.add_zero]
theorem bHX (f:Int→Int) (n:Nat):∀ (us hs:List R) (i:Nat) (B:List Bool),us.length=hs.length→n=B.length→gI (n:Int) (i:Int) us hs B=true→sC f hs + sB f 1 (B.drop 1)=sA f 1 (n - 1):=by
  intro us
  induction us with
  | nil=>
    intro hs i B hl hn h;have:hs=[]:=List.eq_nil_of_length_eq_zero (by simpa using hl.symm);subst this;unfold gI at h;rw[bOS f _ _ h,hn];simp[sC]
  | cons a us ih=>
    intro hs i B hl hn h;cases hs with
    |nil=>simp at hl
    | cons x hs=>
      simp only[gI,Bool.and_eq_true]at h;obtain⟨_,s0,s1,g⟩:=h;have e0:=aRT f hn s0;have e1:=aRT f (B:=mark B x.f0) (by rw[kF];exact hn) s1;have e:=ih hs (i + 1) _ (by simpa using hl) (by rw[kF,kF];exact hn) g;simp only[sC];omega
theorem b0A {A H:List R} (h:good A H=true) (f:Int→Int):sC f H=sA f 1 (A.length - 1):=by
  simp only[good,Bool.and_eq_true,decide_eq_true_eq]at h;have e:=bHX f A.length A H 0 _ h.2.1.symm (by simp) h.2.2;rw[List.drop_replicate,bOT]at e;omega
def sR (G:Int→R→R→Int):Nat→List R→List R→Int
  |i,a::us,h::hs=>G (i:Int) a h + sR G (i + 1) us hs
  |_,_,_=>0
theorem aXX (G G':Int→R→R→Int):∀ (us hs:List R) (i:Nat),us.length=hs.length→(∀ j:Nat,j < us.length→G ((i + j:Nat):Int) (aA us (j:Int)) (aA hs (j:Int))=G' ((i + j:Nat):Int) (aA us (j:Int)) (aA hs (j:Int)))→sR G i us hs=sR G' i us hs:=by
  intro us
  induction us with
  |nil=>intro hs i hl he;simp[sR]
  | cons a us ih=>
    intro hs i hl he;cases hs with
    |nil=>simp at hl
    | cons x hs=>
      have e0:=he 0 (by simp);rw[nP,nP,Nat.add_zero]at e0;simp only[sR]
      rw[e0,ih hs (i + 1) (by simpa using hl) (fun j hj=>by
        have e:=he (j + 1) (by simpa using hj)
        rw[mV,mV,show i + (j + 1)=i + 1 + j from by omega]at e
        exact e)]
theorem b0B (G G':Int→R→R→Int):∀ (us hs:List R) (i:Nat),sR (fun j a h=>G j a h + G' j a h) i us hs=sR G i us hs + sR G' i us hs:=by
  intro us
  induction us with
  |nil=>intro hs i;simp[sR]
  | cons a us ih=>
    intro hs i;cases hs with
    |nil=>simp[sR]
    |cons x hs=>simp only[sR];rw[ih hs (i + 1)];omega
theorem b0C (f:Int→Int):∀ (us hs:List R) (i:Nat),us.length=hs.length→sR (fun j _ _=>f j) i us hs=sA f (i:Int) us.length:=by
  intro us
  induction us with
  |nil=>intro hs i hl;simp[sR,sA]
  | cons a us ih=>
    intro hs i hl;cases hs with
    |nil=>simp at hl
    | cons x hs=>
      simp only[sR,List.length_cons,sA];rw[ih hs (i + 1) (by simpa using hl),Int.natCast_add,Int.natCast_one]
theorem bOV (f:Int→Int):∀ (us hs:List R) (i:Nat),us.length=hs.length→sR (fun _ _ h=>TQ f h.f0 + TQ f h.f1) i us hs=sC f hs:=by
  intro us
  induction us with
  | nil=>
    intro hs i hl;have:hs=[]:=List.eq_nil_of_length_eq_zero (by simpa using hl.symm);subst this;simp[sR,sC]
  | cons a us ih=>
    intro hs i hl;cases hs with
    |nil=>simp at hl
    | cons x hs=>
      simp only[sR,sC];rw[ih hs (i + 1) (by simpa using hl)]
theorem aRU {A H:List R} (h:good A H=true) (f:Int→Int) (E L:Int→R→R→Int) (T:Int→R→R→Int)
    (he:∀ i:Nat,i < A.length→E i (aA A i) (aA H i)=L i (aA A i) (aA H i) + (TQ f (aA H i).f0 + TQ f (aA H i).f1))
    (hf:∀ i:Nat,i < A.length→E i (aA A i) (aA H i)=f i + T i (aA A i) (aA H i)):
    sR L 0 A H=f 0 + sR T 0 A H:=by
  have ok:=qW h;have o1:=ok.len;have o2:=ok.same.symm;have e1:=aXX E (fun i a h=>L i a h + (TQ f h.f0 + TQ f h.f1)) A H 0 o2 (fun j hj=>by rw[Nat.zero_add];exact he j hj);have e2:=aXX E (fun i a h=>f i + T i a h) A H 0 o2 (fun j hj=>by rw[Nat.zero_add];exact hf j hj);have e3:=b0B L (fun _ _ h=>TQ f h.f0 + TQ f h.f1) A H 0;have e4:=b0B (fun i _ _=>f i) T A H 0;have e5:=bOV f A H 0 o2;have e6:=b0C f A H 0 o2;have e7:=b0A h f;have e8:sA f ((0:Nat):Int) A.length=f 0 + sA f 1 (A.length - 1):=by
    obtain⟨m,hm⟩:∃ m,A.length=m + 1:=⟨A.length - 1,by omega⟩
    rw[hm];rfl
  omega
def KH (A H:List R) (W:List Int):Prop:=∀ i:Nat,i < A.length→rd W (i:Int)=mW W (aA H i).f0 + mW W (aA H i).f1
theorem aNP (X:List Int) (j m:Nat) (v:Int) (hj:j ≠ m):rd (X.set j v) (m:Int)=rd X (m:Int):=by
  simp only[rd,List.getD_eq_getElem?_getD,List.getElem?_set,Int.toNat_natCast];rw[if_neg hj]
theorem aO8 (X:List Int) (j:Nat) (v:Int) (hj:j < X.length):rd (X.set j v) (j:Int)=v:=by
  simp only[rd,List.getD_eq_getElem?_getD,List.getElem?_set,Int.toNat_natCast,if_true];rw[if_pos hj];rfl
theorem aRV {i n j:Nat} {h:Int} (X:List Int) (v:Int) (he:l7 (i:Int) (n:Int) h=true) (hj:j≤i):mW (X.set j v) h=mW X h:=by
  unfold mW;by_cases h0:h < 0
  · have c:=child he h0
    obtain⟨m,hm⟩:∃ m:Nat,-h=(m:Int):=⟨(-h).toNat,by omega⟩
    rw[if_pos h0,if_pos h0,hm,aNP X j m v (by omega)]
  · rw[if_neg h0,if_neg h0]
theorem aO9 {A H:List R} (ok:OJ A H):∀ (j:Nat) (X:List Int),j≤A.length→X.length=A.length→(∀ m:Nat,j≤m→m < A.length→1≤rd X (m:Int)∧rd X (m:Int)≤bd (A.length - m))→(∀ m:Nat,j≤m→m < A.length→rd X (m:Int)=mW X (aA H m).f0 + mW X (aA H m).f1)→
    ∃ W,WOk A.length W∧KH A H W∧∀ k,j < k→eT.l0 k X ((j:Int) - 1) A H=some W:=by
  have o1:=ok.len;have o2:=ok.same;intro j
  induction j with
  | zero=>
    intro X hj hX hb hq;refine⟨X,⟨hX,fun m hm=>hb m (by omega) hm⟩,fun m hm=>hq m (by omega) hm,fun k hk=>?_⟩;obtain⟨k,rfl⟩:∃ m,k=m + 1:=⟨k - 1,by omega⟩
    simp only[eT.l0];rw[if_neg (by omega)]
  | succ j ih=>
    intro X hj hX hb hq;have f:=ok.fin j (by omega);have e0:=at_eq (W:=X) (by omega) (by omega) f.1 (by omega);have e1:=at_eq (W:=X) (by omega) (by omega) f.2 (by omega);have b0:=Y8 (W:=X) f.1 (by omega) hX (fun m h1 h2=>hb m (by omega) h2);have b1:=Y8 (W:=X) f.2 (by omega) hX (fun m h1 h2=>hb m (by omega) h2);have b6:=bd6 (A.length - j - 1) (by omega);have w:=cZ (x:=mW X (aA H j).f0 + mW X (aA H j).f1) (by omega) (by omega);have same:=aO8 X j (mW X (aA H j).f0 + mW X (aA H j).f1) (by omega)
    obtain⟨W,hW,hWq,hs⟩:=ih (X.set j (mW X (aA H j).f0 + mW X (aA H j).f1)) (by omega) (by simpa using hX) (by
      intro m h1 h2
      by_cases hm:j=m
      · subst hm
        rw[same,show A.length - j=(A.length - j - 1) + 1 from by omega]
        simp only[bd]
        omega
      · rw[aNP X j m _ hm]
        exact hb m (by omega) h2) (by
      intro m h1 h2
      have fm:=ok.fin m h2
      rw[aRV X _ fm.1 h1,aRV X _ fm.2 h1]
      by_cases hm:j=m
      · subst hm
        exact same
      · rw[aNP X j m _ hm]
        exact hq m (by omega) h2)
    refine⟨W,hW,hWq,fun k hk=>?_⟩;obtain⟨k,rfl⟩:∃ m,k=m + 1:=⟨k - 1,by omega⟩
    simp only[eT.l0];rw[show((j + 1:Nat):Int) - 1=(j:Int)from by omega,if_pos (by omega),if_pos (by omega),if_pos (by omega),e0,Option.bind_some,e1,Option.bind_some,if_pos (by omega),w,cZ (x:=(j:Int) - 1) (by omega) (by omega),Int.toNat_natCast];exact hs k (by omega)
theorem b0D {A H:List R} (ok:OJ A H):∃ W,WOk A.length W∧KH A H W∧∀ k,10≤k→eT.f k A H=some W:=by
  have o1:=ok.len;obtain⟨W,hW,hq,hs⟩:=aO9 ok A.length (List.replicate A.length 0) (Nat.le_refl _) (by simp) (fun m h1 h2=>by omega) (fun m h1 h2=>by omega);refine⟨W,hW,hq,fun k hk=>?_⟩;unfold eT.f;rw[if_pos (by omega),if_pos (by omega),Option.bind_some,List.length_replicate,Int.toNat_natCast,cZ (x:=(A.length:Int) - 1) (by omega) (by omega)];exact hs k (by omega)
theorem aNQ {A H:List R} (ok:OJ A H) {W V:List Int} (hW:KH A H W) (hV:KH A H V):∀ (d m:Nat),A.length - d≤m→m < A.length→rd W (m:Int)=rd V (m:Int):=by
  intro d
  induction d with
  |zero=>intro m h1 h2;omega
  | succ d ih=>
    intro m h1 h2;have f:=ok.fin m h2;have e:∀ h:Int,l7 (m:Int) (A.length:Int) h=true→mW W h=mW V h:=by
      intro h he;unfold mW;by_cases h0:h < 0
      · have c:=child he h0
        obtain⟨q,hq⟩:∃ q:Nat,-h=(q:Int):=⟨(-h).toNat,by omega⟩
        rw[if_pos h0,if_pos h0,hq,ih q (by omega) (by omega)]
      · rw[if_neg h0,if_neg h0]
    rw[hW m h2,hV m h2,e _ f.1,e _ f.2]
theorem b86 {A H:List R} (ok:OJ A H) {W V:List Int} (hW:KH A H W) (hV:KH A H V) (h1:W.length=A.length) (h2:V.length=A.length):W=V:=by
  refine List.ext_getElem (by omega) (fun m hm1 hm2=>?_);have e:=aNQ ok hW hV A.length m (by omega) (by omega);simp only[rd,Int.toNat_natCast,List.getD_eq_getElem?_getD,List.getElem?_eq_getElem hm1,List.getElem?_eq_getElem hm2,Option.getD_some]at e;exact e
def tn (W:List Int):List R→List R→List Int
  |a::us,h::hs=>(a.f1 * mW W h.f1 - a.f0 * mW W h.f0)::tn W us hs
  |_,_=>[]
theorem SG (W:List Int):∀ (us hs:List R),us.length=hs.length→(tn W us hs).length=us.length:=by
  intro us
  induction us with
  |nil=>intro hs h;simp[tn]
  | cons a us ih=>
    intro hs h;cases hs with
    |nil=>simp at h
    |cons x hs=>simp only[tn,List.length_cons];rw[ih hs (by simpa using h)]
theorem bEV {A H:List R} (ok:OJ A H) {W:List Int} (hW:WOk A.length W) (j:Nat) (hj:j < A.length):
    (1≤mW W (aA H j).f0∧mW W (aA H j).f0≤6336)∧(1≤mW W (aA H j).f1∧mW W (aA H j).f1≤6336):=by
  have o1:=ok.len;have f:=ok.fin j hj;have b0:=Y8 (W:=W) f.1 hj hW.len (fun m h1 h2=>hW.bound m h2);have b1:=Y8 (W:=W) f.2 hj hW.len (fun m h1 h2=>hW.bound m h2);have b6:=bd6 (A.length - j - 1) (by omega);omega
theorem aDV {A H:List R} (ok:OJ A H) (j:Nat) (hj:j < A.length):(1≤(aA A j).f0∧(aA A j).f0≤12)∧(1≤(aA A j).f1∧(aA A j).f1≤12):=by
  have h:=ok.arm j hj;simp only[wQ,decide_eq_true_eq]at h;exact h
theorem aJ5 {a w:Int} (ha:1≤a∧a≤12) (hw:1≤w∧w≤6336):1≤a * w∧a * w≤76032:=by
  have h1:a * w≤12 * w:=Int.mul_le_mul_of_nonneg_right ha.2 (by omega);have h2:1 * w≤a * w:=Int.mul_le_mul_of_nonneg_right ha.1 (by omega);omega
theorem aRW {α:Type} (l:List α) (j:Nat) (d:α) (h:j < l.length):l.drop j=l.getD j d::l.drop (j + 1):=by
  rw[List.drop_eq_getElem_cons h,List.getD_eq_getElem?_getD,List.getElem?_eq_getElem h];rfl
theorem b0E {A H:List R} (ok:OJ A H) {W:List Int} (hW:WOk A.length W):∀ (d j:Nat) (X:List Int),j + d=A.length→X.length=j→∀ k,d < k→gG.l0 k X W (j:Int) A H=some (X ++ tn W (A.drop j) (H.drop j)):=by
  have o1:=ok.len;have o2:=ok.same;have o3:=hW.len;intro d
  induction d with
  | zero=>
    intro j X hj hX k hk;obtain⟨k,rfl⟩:∃ m,k=m + 1:=⟨k - 1,by omega⟩
    simp only[gG.l0];rw[if_neg (by omega),List.drop_of_length_le (by omega)];simp[tn]
  | succ d ih=>
    intro j X hj hX k hk;obtain⟨k,rfl⟩:∃ m,k=m + 1:=⟨k - 1,by omega⟩
    have f:=ok.fin j (by omega);have e0:=at_eq (W:=W) (by omega) (by omega) f.1 (by omega);have e1:=at_eq (W:=W) (by omega) (by omega) f.2 (by omega);have b:=bEV ok hW j (by omega);have a:=aDV ok j (by omega);have m0:=aJ5 a.1 b.1;have m1:=aJ5 a.2 b.2;have dA:A.drop j=aA A (j:Int)::A.drop (j + 1):=aRW A j _ (by omega);have dH:H.drop j=aA H (j:Int)::H.drop (j + 1):=aRW H j _ (by omega);have g:=ih (j + 1) (X ++ [(aA A j).f1 * mW W (aA H j).f1 - (aA A j).f0 * mW W (aA H j).f0]) (by omega) (by simp;omega) k (by omega);simp only[gG.l0];rw[if_pos (by omega),if_pos (by omega),if_pos (by omega),e1,Option.bind_some,e0,Option.bind_some,if_pos (by omega),cZ (x:=(j:Int) + 1) (by omega) (by omega),cZ (x:=(aA A j).f1 * mW W (aA H j).f1) (by omega) (by omega),cZ (x:=(aA A j).f0 * mW W (aA H j).f0) (by omega) (by omega),cZ (x:=(aA A j).f1 * mW W (aA H j).f1 - (aA A j).f0 * mW W (aA H j).f0) (by omega) (by omega)];rw[dA,dH];simp only[tn];rw[show((j:Int) + 1)=((j + 1:Nat):Int)from by omega,g];simp
theorem aGL {A H:List R} (ok:OJ A H):∃ W,WOk A.length W∧KH A H W∧∀ k,20≤k→eT.f k A H=some W∧fO.f k A H=some W∧gG.f k A H=some (tn W A H)∧gL.f k A H=some (tn W A H):=by
  have o1:=ok.len;obtain⟨W,hW,hq,hs⟩:=b0D ok;refine⟨W,hW,hq,fun k hk=>?_⟩;have e:=hs k (by omega);have t:=b0E ok hW A.length 0 [] (by omega) rfl k (by omega);simp only[Int.natCast_zero,List.drop_zero,List.nil_append]at t;refine⟨e,by rw[a3T];exact e,?_,?_⟩
  · simp only[gG.f,e,Option.bind_some,t]
  · simp only[gL.f,a3T,e,Option.bind_some,aHO,t]
def tot:List Int→Int
  |[]=>0
  |x::l=>x + tot l
theorem aXY:∀ (l m:List Int),tot (l ++ m)=tot l + tot m:=by
  intro l
  induction l with
  |nil=>intro m;simp[tot]
  |cons x l ih=>intro m;simp only[List.cons_append,tot,ih];omega
theorem bXX (W:List Int):∀ (us hs:List R) (i:Nat),us.length=hs.length→tot (tn W us hs)=sR (fun _ a h=>a.f1 * mW W h.f1 - a.f0 * mW W h.f0) i us hs:=by
  intro us
  induction us with
  |nil=>intro hs i hl;simp[tn,tot,sR]
  | cons a us ih=>
    intro hs i hl;cases hs with
    |nil=>simp at hl
    |cons x hs=>simp only[tn,tot,sR];rw[ih hs (i + 1) (by simpa using hl)]
def lf (h:Int):Int:=if h < 0 then 0 else h
theorem bOW (W:List Int) (h:Int):mW W h=lf h + TQ (rd W) h:=by
  unfold mW lf TQ;by_cases h0:h < 0
  · rw[if_pos h0,if_pos h0,if_pos h0];omega
  · rw[if_neg h0,if_neg h0,if_neg h0];omega
theorem b0F {i n h:Int} (he:l7 i n h=true) (hi:0≤i):h < 0∨0 < h:=by
  simp only[l7,kR,Bool.or_eq_true,decide_eq_true_eq]at he;omega
theorem b0G (X:List Int) (h:Int) (hh:h < 0∨0 < h):tot (up X h)=tot X + lf h:=by
  unfold up lf;by_cases h0:h < 0
  · rw[if_neg (by omega),if_pos h0];omega
  · rw[if_pos (by omega),if_neg h0,aXY];simp[tot]
theorem aDW:∀ (us hs:List R) (i:Nat) (X:List Int),us.length=hs.length→(∀ j:Nat,j < hs.length→((aA hs j).f0 < 0∨0 < (aA hs j).f0)∧((aA hs j).f1 < 0∨0 < (aA hs j).f1))→tot (leaves X hs)=tot X + sR (fun _ _ h=>lf h.f0 + lf h.f1) i us hs:=by
  intro us
  induction us with
  | nil=>
    intro hs i X hl he;have:hs=[]:=List.eq_nil_of_length_eq_zero (by simpa using hl.symm);subst this;simp[leaves,sR]
  | cons a us ih=>
    intro hs i X hl he;cases hs with
    |nil=>simp at hl
    | cons x hs=>
      have e0:=he 0 (by simp);rw[nP]at e0;simp only[leaves,sR]
      rw[ih hs (i + 1) _ (by simpa using hl) (fun j hj=>by
        have e:=he (j + 1) (by simpa using hj)
        rw[mV]at e
        exact e),b0G _ _ e0.2,b0G _ _ e0.1]
      omega
theorem V5 {A H:List R} (ok:OJ A H):∀ j:Nat,j < H.length→((aA H j).f0 < 0∨0 < (aA H j).f0)∧((aA H j).f1 < 0∨0 < (aA H j).f1):=fun j hj=>by
  have o2:=ok.same;have f:=ok.fin j (by omega);exact⟨b0F f.1 (by omega),b0F f.2 (by omega)⟩
theorem aDX {A H:List R} (h:good A H=true) {W:List Int} (hq:KH A H W):tot (leaves [] H)=rd W 0:=by
  have ok:=qW h;have e:=aDW A H 0 [] ok.same.symm (V5 ok)
  have s:=aRU h (rd W) (fun _ _ h=>mW W h.f0 + mW W h.f1) (fun _ _ h=>lf h.f0 + lf h.f1) (fun _ _ _=>0) (fun i hi=>by
    simp only[bOW]
    omega) (fun i hi=>by
    have:=hq i hi
    omega)
  have z:=b0C (fun _=>(0:Int)) A H 0 ok.same.symm;have z2:∀ (n:Nat) (j:Int),sA (fun _=>(0:Int)) j n=0:=by
    intro n
    induction n with
    |zero=>intro j;rfl
    |succ n ih=>intro j;simp only[sA,ih];rfl
  rw[z2]at z;simp only[tot]at e;omega
def HZ (X:List Int) (h v:Int):List Int:=if h < 0 then X.set (-h).toNat v else X
def puo (O:List (Int × Int)) (h v:Int):List (Int × Int):=if h < 0 then O else O ++ [(v,h)]
theorem OE (X:List Int) (h v:Int):(HZ X h v).length=X.length:=by unfold HZ;split <;> simp
def pf (g0 g1:Int→R→Int):Nat→List R→List R→List Int→List Int
  |i,a::us,h::hs,X=>pf g0 g1 (i + 1) us hs (HZ (HZ X h.f0 (g0 (X.getD i 0) a)) h.f1 (g1 (X.getD i 0) a))
  |_,_,_,X=>X
def po (g0 g1:Int→R→Int):Nat→List R→List R→List Int→List (Int × Int)→List (Int × Int)
  |i,a::us,h::hs,X,O=>po g0 g1 (i + 1) us hs (HZ (HZ X h.f0 (g0 (X.getD i 0) a)) h.f1 (g1 (X.getD i 0) a)) (puo (puo O h.f0 (g0 (X.getD i 0) a)) h.f1 (g1 (X.getD i 0) a))
  |_,_,_,_,O=>O
def en (h v:Int):List (Int × Int):=if h < 0 then[]else[(v,h)]
def fl (g0 g1:Int→R→Int) (Z:List Int):Nat→List R→List R→List (Int × Int)
  |i,a::us,h::hs=>en h.f0 (g0 (Z.getD i 0) a) ++ (en h.f1 (g1 (Z.getD i 0) a) ++ fl g0 g1 Z (i + 1) us hs)
  |_,_,_=>[]
theorem b0H (O:List (Int × Int)) (h v:Int):puo O h v=O ++ en h v:=by
  unfold puo en
  split <;> simp
theorem aDY {i n:Nat} {B:List Bool} {X:List Int} {h v:Int} (hs:l8 (i:Int) (n:Int) B h=true) (j:Nat) (hj:j≤i∨B.getD j false=true):(HZ X h v).getD j 0=X.getD j 0:=by
  unfold HZ;by_cases h0:h < 0
  · obtain⟨k1,k2,k3⟩:=K3 hs h0
    rw[if_pos h0,BA,if_neg];rintro⟨e1,_⟩;rcases hj with hj|hj
    · omega
    · rw[e1,hj]at k3
      cases k3
  · rw[if_neg h0]
theorem a7E (B:List Bool) (h:Int) (j:Nat) (hj:B.getD j false=true):(mark B h).getD j false=true:=by
  unfold mark
  split
  · rw[BA]
    split
    · rfl
    · exact hj
  · exact hj
theorem aAT {i n:Nat} {B:List Bool} {h:Int} (hn:n=B.length) (hs:l8 (i:Int) (n:Int) B h=true) (h0:h < 0):(mark B h).getD (-h).toNat false=true:=by
  obtain⟨k1,k2,k3⟩:=K3 hs h0;unfold mark;rw[if_pos h0,BA,if_pos ⟨rfl,by omega⟩]
theorem aRX {i n:Nat} {B:List Bool} {X:List Int} {h v:Int} (hn:n=X.length) (hs:l8 (i:Int) (n:Int) B h=true) (h0:h < 0):(HZ X h v).getD (-h).toNat 0=v:=by
  obtain⟨k1,k2,k3⟩:=K3 hs h0;unfold HZ;rw[if_pos h0,BA,if_pos ⟨rfl,by omega⟩]
theorem aAU (g0 g1:Int→R→Int) (n:Nat):∀ (us hs:List R) (i:Nat) (B:List Bool) (X:List Int) (O:List (Int × Int)),us.length=hs.length→n=B.length→n=X.length→gI (n:Int) (i:Int) us hs B=true→
    (∀ j:Nat,(j≤i∨B.getD j false=true)→(pf g0 g1 i us hs X).getD j 0=X.getD j 0)∧
    (∀ m:Nat,m < us.length→((aA hs m).f0 < 0→(pf g0 g1 i us hs X).getD (-(aA hs m).f0).toNat 0=g0 ((pf g0 g1 i us hs X).getD (i + m) 0) (aA us m))∧((aA hs m).f1 < 0→(pf g0 g1 i us hs X).getD (-(aA hs m).f1).toNat 0=g1 ((pf g0 g1 i us hs X).getD (i + m) 0) (aA us m)))∧
    po g0 g1 i us hs X O=O ++ fl g0 g1 (pf g0 g1 i us hs X) i us hs∧(pf g0 g1 i us hs X).length=n:=by
  intro us
  induction us with
  | nil=>
    intro hs i B X O hl hB hX h;refine⟨fun j _=>by simp[pf],fun m hm=>by simp at hm,by simp[po,fl],by simp[pf,hX]⟩
  | cons a us ih=>
    intro hs i B X O hl hB hX h;cases hs with
    |nil=>simp at hl
    | cons x hs=>
      simp only[gI,Bool.and_eq_true]at h;obtain⟨_,s0,s1,g⟩:=h;have hB1:n=(mark B x.f0).length:=by rw[kF];exact hB
      have hX1:n=(HZ X x.f0 (g0 (X.getD i 0) a)).length:=by rw[OE];exact hX
      obtain⟨p1,p2,p3,p4⟩:=ih hs (i + 1) (mark (mark B x.f0) x.f1) (HZ (HZ X x.f0 (g0 (X.getD i 0) a)) x.f1 (g1 (X.getD i 0) a)) (puo (puo O x.f0 (g0 (X.getD i 0) a)) x.f1 (g1 (X.getD i 0) a)) (by simpa using hl) (by rw[kF];exact hB1) (by rw[OE];exact hX1) g;simp only[pf,po,fl];generalize hZ:pf g0 g1 (i + 1) us hs (HZ (HZ X x.f0 (g0 (X.getD i 0) a)) x.f1 (g1 (X.getD i 0) a))=Z at p1 p2 p3 p4;have q1:∀ j:Nat,(j≤i∨B.getD j false=true)→Z.getD j 0=X.getD j 0:=fun j hj=>by
        rw[p1 j (by
          rcases hj with hj|hj
          · exact Or.inl (by omega)
          · exact Or.inr (a7E _ _ j (a7E _ _ j hj)))]
        rw[aDY s1 j (by
          rcases hj with hj|hj
          · exact Or.inl hj
          · exact Or.inr (a7E _ _ j hj)),aDY s0 j hj]
      have zi:=q1 i (Or.inl (Nat.le_refl i));refine⟨q1,?_,?_,p4⟩
      · intro m hm
        cases m with
        | zero=>
          rw[nP,nP,Nat.add_zero,zi];refine⟨fun h0=>?_,fun h0=>?_⟩
          · rw[p1 _ (Or.inr (a7E _ _ _ (aAT hB s0 h0))),aDY s1 _ (Or.inr (aAT hB s0 h0)),aRX hX s0 h0]
          · rw[p1 _ (Or.inr (aAT hB1 s1 h0)),aRX hX1 s1 h0]
        | succ m=>
          rw[mV,mV,show i + (m + 1)=i + 1 + m from by omega];exact p2 m (by simpa using hm)
      · rw[p3,zi,b0H,b0H,List.append_assoc,List.append_assoc]
def GX (f:Int × Int→Int):List (Int × Int)→Int
  |[]=>0
  |x::l=>f x + GX f l
theorem aOA (f:Int × Int→Int):∀ (l m:List (Int × Int)),GX f (l ++ m)=GX f l + GX f m:=by
  intro l
  induction l with
  |nil=>intro m;simp[GX]
  |cons x l ih=>intro m;simp only[List.cons_append,GX,ih];omega
def lfF (f:Int × Int→Int) (h v:Int):Int:=if h < 0 then 0 else f (v,h)
theorem bHY (f:Int × Int→Int) (h v:Int):GX f (en h v)=lfF f h v:=by
  unfold en lfF
  split <;> simp[GX]
theorem bEW (f:Int × Int→Int) (g0 g1:Int→R→Int) (Z:List Int):∀ (us hs:List R) (i:Nat),us.length=hs.length→GX f (fl g0 g1 Z i us hs)=sR (fun j a h=>lfF f h.f0 (g0 (rd Z j) a) + lfF f h.f1 (g1 (rd Z j) a)) i us hs:=by
  intro us
  induction us with
  |nil=>intro hs i hl;simp[fl,GX,sR]
  | cons a us ih=>
    intro hs i hl;cases hs with
    |nil=>simp at hl
    | cons x hs=>
      simp only[fl,sR,aOA,bHY];rw[ih hs (i + 1) (by simpa using hl)];simp only[rd,Int.toNat_natCast];omega
theorem aXZ {A H:List R} (h:good A H=true) {W Z:List Int} {p:Int} (hq:KH A H W) (z0:rd Z 0=p)
    (hz:∀ i:Nat,i < A.length→((aA H i).f0 < 0→rd Z (-(aA H i).f0)=rd Z (i:Int) - (aA A i).f0)∧((aA H i).f1 < 0→rd Z (-(aA H i).f1)=rd Z (i:Int) + (aA A i).f1)):
    GX (fun x=>x.2 * (x.1 - p)) (fl (fun x a=>x - a.f0) (fun x a=>x + a.f1) Z 0 A H)=tot (tn W A H)∧GX (fun x=>x.2) (fl (fun x a=>x - a.f0) (fun x a=>x + a.f1) Z 0 A H)=rd W 0:=by
  have ok:=qW h;have o2:=ok.same.symm;refine⟨?_,?_⟩
  · rw[bEW _ _ _ _ A H 0 o2,bXX W A H 0 o2]
    have s:=aRU h (fun j=>rd W j * (rd Z j - p)) (fun i a h=>mW W h.f0 * (rd Z i - a.f0 - p) + mW W h.f1 * (rd Z i + a.f1 - p)) (fun j a h=>lfF (fun x=>x.2 * (x.1 - p)) h.f0 (rd Z j - a.f0) + lfF (fun x=>x.2 * (x.1 - p)) h.f1 (rd Z j + a.f1)) (fun _ a h=>a.f1 * mW W h.f1 - a.f0 * mW W h.f0) (fun i hi=>by
      obtain⟨z1,z2⟩:=hz i hi
      have e:∀ (x v:Int),(x < 0→rd Z (-x)=v)→mW W x * (v - p)=lfF (fun x=>x.2 * (x.1 - p)) x v + TQ (fun j=>rd W j * (rd Z j - p)) x:=by
        intro x v hx
        unfold mW lfF TQ
        by_cases h0:x < 0
        · rw[if_pos h0,if_pos h0,if_pos h0]
          show rd W (-x) * (v - p)=0 + rd W (-x) * (rd Z (-x) - p)
          rw[hx h0,Int.zero_add]
        · rw[if_neg h0,if_neg h0,if_neg h0]
          exact(Int.add_zero _).symm
      have e1:=e _ _ z1
      have e2:=e _ _ z2
      omega) (fun i hi=>by
      have w:=hq i hi
      rw[w]
      simp only[Int.add_mul,Int.mul_sub,Int.mul_add,Int.sub_mul]
      rw[Int.mul_comm (aA A i).f1,Int.mul_comm (aA A i).f0]
      omega)
    rw[s,z0,Int.sub_self,Int.mul_zero,Int.zero_add]
  · rw[bEW _ _ _ _ A H 0 o2]
    have e:=aDX h hq;rw[aDW A H 0 [] o2 (V5 ok)]at e;simp only[tot,Int.zero_add]at e;rw[← e];exact aXX _ _ A H 0 o2 (fun j hj=>rfl)
def ZG (q:Int→Int) (g0 g1:Int→R→Int) (Z:List Int):Nat→List R→List R→List R
  |i,a::us,h::hs=>⟨if h.f0 < 0 then h.f0 else q (g0 (Z.getD i 0) a),if h.f1 < 0 then h.f1 else q (g1 (Z.getD i 0) a)⟩::ZG q g0 g1 Z (i + 1) us hs
  |_,_,_=>[]
theorem bOX (pre s:List Int) (x:Int):rd (pre ++ x::s) (pre.length:Int)=x:=by simp[rd]
theorem bEX (q:Int→Int) (pre s:List Int) (h v:Int) (hh:h < 0∨0 < h):pt (pre ++ ((en h v).map (fun x=>q x.1) ++ s)) pre.length h=(if h < 0 then h else q v)∧nx pre.length h=(pre ++ (en h v).map (fun x=>q x.1)).length:=by
  unfold pt nx en;by_cases h0:h < 0
  · have hn:¬ h > 0:=by omega
    simp[h0,hn]
  · have hp:h > 0:=by omega
    simp only[h0,hp,if_true,if_false];exact⟨bOX pre s (q v),by simp⟩
theorem bHZ (q:Int→Int) (g0 g1:Int→R→Int) (Z:List Int):∀ (us hs:List R) (i:Nat) (pre:List Int),us.length=hs.length→(∀ j:Nat,j < hs.length→((aA hs j).f0 < 0∨0 < (aA hs j).f0)∧((aA hs j).f1 < 0∨0 < (aA hs j).f1))→
    hang (pre ++ (fl g0 g1 Z i us hs).map (fun x=>q x.1)) pre.length hs=ZG q g0 g1 Z i us hs:=by
  intro us
  induction us with
  | nil=>
    intro hs i pre hl he;have:hs=[]:=List.eq_nil_of_length_eq_zero (by simpa using hl.symm);subst this;simp[hang,ZG]
  | cons a us ih=>
    intro hs i pre hl he;cases hs with
    |nil=>simp at hl
    | cons x hs=>
      have e0:=he 0 (by simp);rw[nP]at e0;simp only[fl,List.map_append,hang,ZG];have wM:=bEX q pre ((en x.f1 (g1 (Z.getD i 0) a)).map (fun x=>q x.1) ++ (fl g0 g1 Z (i + 1) us hs).map (fun x=>q x.1)) x.f0 (g0 (Z.getD i 0) a) e0.1;have vT:=bEX q (pre ++ (en x.f0 (g0 (Z.getD i 0) a)).map (fun x=>q x.1)) ((fl g0 g1 Z (i + 1) us hs).map (fun x=>q x.1)) x.f1 (g1 (Z.getD i 0) a) e0.2
      have r:=ih hs (i + 1) (pre ++ (en x.f0 (g0 (Z.getD i 0) a)).map (fun x=>q x.1) ++ (en x.f1 (g1 (Z.getD i 0) a)).map (fun x=>q x.1)) (by simpa using hl) (fun j hj=>by
        have e:=he (j + 1) (by simpa using hj)
        rw[mV]at e
        exact e)
      rw[wM.1,wM.2,vT.2];rw[List.append_assoc]at vT;rw[vT.1];simp only[List.append_assoc]at r ⊢;rw[r]
theorem bOY (g0 g1:Int→R→Int) (Z:List Int):∀ (us hs:List R) (i m:Nat),us.length=hs.length→m < us.length→
    (¬ (aA hs m).f0 < 0→(g0 (Z.getD (i + m) 0) (aA us m),(aA hs m).f0) ∈ fl g0 g1 Z i us hs)∧(¬ (aA hs m).f1 < 0→(g1 (Z.getD (i + m) 0) (aA us m),(aA hs m).f1) ∈ fl g0 g1 Z i us hs):=by
  intro us
  induction us with
  |nil=>intro hs i m hl hm;simp at hm
  | cons a us ih=>
    intro hs i m hl hm;cases hs with
    |nil=>simp at hl
    | cons x hs=>
      cases m with
      | zero=>
        rw[nP,nP,Nat.add_zero];simp only[fl,en];refine⟨fun h0=>?_,fun h0=>?_⟩ <;> rw[if_neg h0] <;> simp
      | succ m=>
        rw[mV,mV,show i + (m + 1)=i + 1 + m from by omega];have e:=ih hs (i + 1) m (by simpa using hl) (by simpa using hm);simp only[fl,List.mem_append];exact⟨fun h0=>Or.inr (Or.inr (e.1 h0)),fun h0=>Or.inr (Or.inr (e.2 h0))⟩
theorem bEY (g0 g1:Int→R→Int) (Z:List Int) (Pd:Int × Int→Prop):∀ (us hs:List R) (i:Nat),us.length=hs.length→
    (∀ m:Nat,m < us.length→(¬ (aA hs m).f0 < 0→Pd (g0 (Z.getD (i + m) 0) (aA us m),(aA hs m).f0))∧(¬ (aA hs m).f1 < 0→Pd (g1 (Z.getD (i + m) 0) (aA us m),(aA hs m).f1)))→∀ x ∈ fl g0 g1 Z i us hs,Pd x:=by
  intro us
  induction us with
  |nil=>intro hs i hl he x hx;simp[fl]at hx
  | cons a us ih=>
    intro hs i hl he x hx;cases hs with
    |nil=>simp at hl
    | cons y hs=>
      have e0:=he 0 (by simp);rw[nP,nP,Nat.add_zero]at e0;have one:∀ (h v:Int),(¬ h < 0→Pd (v,h))→x ∈ en h v→Pd x:=by
        intro h v hp hx;unfold en at hx;by_cases h0:h < 0
        · rw[if_pos h0]at hx
          cases hx
        · rw[if_neg h0]at hx
          have:x=(v,h):=by simpa using hx
          rw[this];exact hp h0
      simp only[fl,List.mem_append]at hx;rcases hx with hx|hx|hx
      · exact one _ _ e0.1 hx
      · exact one _ _ e0.2 hx
      · exact ih hs (i + 1) (by simpa using hl) (fun m hm=>by
          have e:=he (m + 1) (by simpa using hm)
          rw[mV,mV,show i + (m + 1)=i + 1 + m from by omega]at e
          exact e) x hx
theorem aNR (g0 g1:Int→R→Int) (Z:List Int):∀ (us hs:List R) (i:Nat) (X:List Int),us.length=hs.length→(∀ j:Nat,j < hs.length→((aA hs j).f0 < 0∨0 < (aA hs j).f0)∧((aA hs j).f1 < 0∨0 < (aA hs j).f1))→leaves X hs=X ++ (fl g0 g1 Z i us hs).map (fun x=>x.2):=by
  intro us
  induction us with
  | nil=>
    intro hs i X hl he;have:hs=[]:=List.eq_nil_of_length_eq_zero (by simpa using hl.symm);subst this;simp[leaves,fl]
  | cons a us ih=>
    intro hs i X hl he;cases hs with
    |nil=>simp at hl
    | cons x hs=>
      have e0:=he 0 (by simp);rw[nP]at e0;have u:∀ (Y:List Int) (h v:Int),(h < 0∨0 < h)→up Y h=Y ++ (en h v).map (fun x=>x.2):=by
        intro Y h v hh;unfold up en;by_cases h0:h < 0
        · rw[if_neg (by omega),if_pos h0];simp
        · rw[if_pos (by omega),if_neg h0];simp
      simp only[leaves,fl,List.map_append]
      rw[ih hs (i + 1) _ (by simpa using hl) (fun j hj=>by
        have e:=he (j + 1) (by simpa using hj)
        rw[mV]at e
        exact e),u _ x.f1 (g1 (Z.getD i 0) a) e0.2,u X x.f0 (g0 (Z.getD i 0) a) e0.1]
      simp
theorem bOZ (q:Int→Int) (g0 g1:Int→R→Int) (Z:List Int):∀ (us hs:List R) (i m:Nat),us.length=hs.length→m < us.length→
    aA (ZG q g0 g1 Z i us hs) (m:Int)=⟨if (aA hs m).f0 < 0 then(aA hs m).f0 else q (g0 (Z.getD (i + m) 0) (aA us m)),if (aA hs m).f1 < 0 then(aA hs m).f1 else q (g1 (Z.getD (i + m) 0) (aA us m))⟩:=by
  intro us
  induction us with
  |nil=>intro hs i m hl hm;simp at hm
  | cons a us ih=>
    intro hs i m hl hm;cases hs with
    |nil=>simp at hl
    | cons x hs=>
      cases m with
      |zero=>simp only[ZG,nP,Nat.add_zero]
      | succ m=>
        simp only[ZG];rw[mV,mV,mV,show i + (m + 1)=i + 1 + m from by omega];exact ih hs (i + 1) m (by simpa using hl) (by simpa using hm)
def wM (x:Int) (a:R):Int:=x / (a.f0 + a.f1) * a.f1
def vT (x:Int) (a:R):Int:=x / (a.f0 + a.f1) * a.f0
structure Parts (A H:List R) (Z:List Int):Prop where
  len:Z.length=A.length
  kid:∀ i:Nat,i < A.length→((aA H i).f0 < 0→rd Z (-(aA H i).f0)=wM (rd Z i) (aA A i))∧((aA H i).f1 < 0→rd Z (-(aA H i).f1)=vT (rd Z i) (aA A i))
  div:∀ i:Nat,i < A.length→(aA A i).f0 + (aA A i).f1 ∣ rd Z i
  pos:∀ i:Nat,i < A.length→0 < rd Z i
theorem SH {A H:List R} {Z:List Int} (ok:OJ A H) (o:Parts A H Z) (i:Nat) (hi:i < A.length):
    ∃ one:Int,0 < one∧rd Z (i:Int)=one * ((aA A i).f0 + (aA A i).f1)∧wM (rd Z i) (aA A i)=one * (aA A i).f1∧vT (rd Z i) (aA A i)=one * (aA A i).f0:=by
  have a:=aDV ok i hi;obtain⟨t,ht⟩:=o.div i hi;have hp:=o.pos i hi;have h1:rd Z (i:Int) / ((aA A i).f0 + (aA A i).f1)=t:=by
    rw[ht];exact Int.mul_ediv_cancel_left _ (by omega)
  refine⟨t,?_,by rw[ht,Int.mul_comm],by unfold wM;rw[h1],by unfold vT;rw[h1]⟩;rw[ht]at hp;exact K4 (by omega) hp
theorem b0I {A H:List R} {Z:List Int} (ok:OJ A H) (o:Parts A H Z) {g:Int} (hg:∀ x ∈ fl wM vT Z 0 A H,g ∣ x.1):∀ (d i:Nat),A.length - d≤i→i < A.length→(g ∣ wM (rd Z i) (aA A i)∧g ∣ vT (rd Z i) (aA A i))∧g ∣ rd Z i:=by
  intro d
  induction d with
  |zero=>intro i h1 h2;omega
  | succ d ih=>
    intro i h1 h2;have f:=ok.fin i h2;have kd:=o.kid i h2;have mm:=bOY wM vT Z A H 0 i ok.same.symm h2;rw[Nat.zero_add]at mm;have zz:Z.getD i 0=rd Z (i:Int):=by simp[rd]
    rw[zz]at mm;obtain⟨one,o0,e,e0,e1⟩:=SH ok o i h2;have I6:∀ h v:Int,l7 (i:Int) (A.length:Int) h=true→(h < 0→rd Z (-h)=v)→(¬ h < 0→(v,h) ∈ fl wM vT Z 0 A H)→g ∣ v:=by
      intro h v he hk hm;by_cases h0:h < 0
      · have c:=child he h0
        obtain⟨m,hm⟩:∃ m:Nat,-h=(m:Int):=⟨(-h).toNat,by omega⟩
        rw[← hk h0,hm];exact(ih m (by omega) (by omega)).2
      · exact hg _ (hm h0)
    have d0:=I6 _ _ f.1 kd.1 mm.1;have d1:=I6 _ _ f.2 kd.2 mm.2;refine⟨⟨d0,d1⟩,?_⟩;have:rd Z (i:Int)=wM (rd Z i) (aA A i) + vT (rd Z i) (aA A i):=by rw[e0,e1,← Int.mul_add,e,Int.add_comm]
    rw[this];exact Int.dvd_add d0 d1
theorem bEZ (Pd:Int→Prop) (W:List Int):∀ (us hs:List R),us.length=hs.length→(∀ j:Nat,j < us.length→Pd ((aA us j).f1 * mW W (aA hs j).f1 - (aA us j).f0 * mW W (aA hs j).f0))→∀ x ∈ tn W us hs,Pd x:=by
  intro us
  induction us with
  |nil=>intro hs hl he x hx;simp[tn]at hx
  | cons a us ih=>
    intro hs hl he x hx;cases hs with
    |nil=>simp at hl
    | cons y hs=>
      have e0:=he 0 (by simp);rw[nP,nP]at e0;simp only[tn]at hx;rcases List.mem_cons.1 hx with rfl|hx
      · exact e0
      · exact ih hs (by simpa using hl) (fun j hj=>by
          have e:=he (j + 1) (by simpa using hj)
          rw[mV,mV]at e
          exact e) x hx
theorem bXY (W:List Int):∀ (us hs:List R) (j:Nat),us.length=hs.length→j < us.length→(tn W us hs).getD j 0=(aA us j).f1 * mW W (aA hs j).f1 - (aA us j).f0 * mW W (aA hs j).f0:=by
  intro us
  induction us with
  |nil=>intro hs j hl hj;simp at hj
  | cons a us ih=>
    intro hs j hl hj;cases hs with
    |nil=>simp at hl
    | cons y hs=>
      cases j with
      |zero=>rw[nP,nP];simp[tn]
      | succ j=>
        rw[mV,mV];simp only[tn];rw[List.getD_cons_succ];exact ih hs j (by simpa using hl) (by simpa using hj)
theorem b0J {A H:List R} (ok:OJ A H) {Z:List Int} (o:Parts A H Z) {g:Int} (g0:0 < g) (hg:∀ x ∈ fl wM vT Z 0 A H,g ∣ x.1) {V:List Int} (hV:KH A (ZG (fun x=>x / g) wM vT Z 0 A H) V) (ok2:OJ A (ZG (fun x=>x / g) wM vT Z 0 A H)):
    ∀ x ∈ tn V A (ZG (fun x=>x / g) wM vT Z 0 A H),x=0:=by
  have o2:=ok.same.symm;have ends:∀ (U:List Int),(∀ m:Nat,m < A.length→rd U (m:Int)=rd Z (m:Int) / g)→∀ i:Nat,i < A.length→
      mW U (aA (ZG (fun x=>x / g) wM vT Z 0 A H) i).f0=wM (rd Z i) (aA A i) / g∧mW U (aA (ZG (fun x=>x / g) wM vT Z 0 A H) i).f1=vT (rd Z i) (aA A i) / g:=by
    intro U hU i hi;have f:=ok.fin i hi;have kd:=o.kid i hi;obtain⟨one,u0,e,e0,e1⟩:=SH ok o i hi;have a:=aDV ok i hi;have q0:0≤wM (rd Z i) (aA A i) / g:=Int.ediv_nonneg (by rw[e0];exact Int.mul_nonneg (by omega) (by omega)) (by omega);have q1:0≤vT (rd Z i) (aA A i) / g:=Int.ediv_nonneg (by rw[e1];exact Int.mul_nonneg (by omega) (by omega)) (by omega);rw[bOZ (fun x=>x / g) wM vT Z A H 0 i o2 hi,Nat.zero_add,show Z.getD i 0=rd Z (i:Int)from by simp[rd]];have I6:∀ h v:Int,l7 (i:Int) (A.length:Int) h=true→(h < 0→rd Z (-h)=v)→0≤v / g→mW U (if h < 0 then h else v / g)=v / g:=by
      intro h v he hk hv;by_cases h0:h < 0
      · have c:=child he h0
        obtain⟨m,hm⟩:∃ m:Nat,-h=(m:Int):=⟨(-h).toNat,by omega⟩
        unfold mW;rw[if_pos h0,if_pos h0,hm,hU m (by omega),← hm,hk h0]
      · unfold mW
        rw[if_neg h0,if_neg (by omega)]
    exact⟨I6 _ _ f.1 kd.1 q0,I6 _ _ f.2 kd.2 q1⟩
  have dv:=b0I ok o hg A.length;have hU:∀ m:Nat,m < A.length→rd (Z.map (fun x=>x / g)) (m:Int)=rd Z (m:Int) / g:=by
    intro m hm;have hl:=o.len;have h2:m < Z.length:=by omega
    simp[rd,List.getD_eq_getElem?_getD,List.getElem?_eq_getElem h2]
  have hUq:KH A (ZG (fun x=>x / g) wM vT Z 0 A H) (Z.map (fun x=>x / g)):=by
    intro i hi;have e:=ends _ hU i hi;obtain⟨one,u0,e2,e0,e1⟩:=SH ok o i hi;rw[hU i hi,e.1,e.2];have d:=dv i (by omega) hi;rw[← Int.add_ediv_of_dvd_left d.1.1,e0,e1,← Int.mul_add,e2,Int.add_comm]
  have hVr:∀ m:Nat,m < A.length→rd V (m:Int)=rd Z (m:Int) / g:=fun m hm=>by
    rw[← hU m hm];exact aNQ ok2 hV hUq A.length m (by omega) hm
  refine bEZ _ V A _ ok2.same.symm (fun i hi=>?_);have e:=ends V hVr i hi;obtain⟨one,u0,e2,e0,e1⟩:=SH ok o i hi;rw[e.1,e.2];obtain⟨⟨⟨x,hx⟩,⟨y,hy⟩⟩,_⟩:=dv i (by omega) hi;rw[hx,hy,Int.mul_ediv_cancel_left _ (by omega),Int.mul_ediv_cancel_left _ (by omega)];rw[hx]at e0;rw[hy]at e1;generalize (aA A i).f0=a0 at *;generalize (aA A i).f1=a1 at *;have:g * (a1 * y)=g * (a0 * x):=by grind
  have:=Int.eq_of_mul_eq_mul_left (by omega) this;omega
theorem b0K (n:Nat):∀ (us hs:List R) (i:Nat) (B:List Bool),us.length=hs.length→n=B.length→gI (n:Int) (i:Int) us hs B=true→∀ j:Nat,1≤j→j < n→B.getD j false=true∨∃ m:Nat,m < us.length∧i + m < j∧((aA hs m).f0= -(j:Int)∨(aA hs m).f1= -(j:Int)):=by
  intro us
  induction us with
  | nil=>
    intro hs i B hl hn h j h1 h2;left;unfold gI at h;rw[List.all_eq_true]at h;obtain⟨j,rfl⟩:∃ m,j=m + 1:=⟨j - 1,by omega⟩
    have h3:j + 1 < B.length:=by omega
    have:=h (B[j + 1]) (by
      rw[List.mem_iff_getElem]
      exact⟨j,by simp;omega,by simp[Nat.add_comm]⟩)
    rw[List.getD_eq_getElem?_getD,List.getElem?_eq_getElem h3];exact this
  | cons a us ih=>
    intro hs i B hl hn h j h1 h2;cases hs with
    |nil=>simp at hl
    | cons x hs=>
      simp only[gI,Bool.and_eq_true]at h;obtain⟨_,s0,s1,g⟩:=h;have out:∀ (C:List Bool) (y:Int),l8 (i:Int) n C y=true→(mark C y).getD j false=true→C.getD j false=true∨(y= -(j:Int)∧i < j):=by
        intro C y hs hm;unfold mark at hm;by_cases h0:y < 0
        · obtain⟨k1,k2,k3⟩:=K3 hs h0
          rw[if_pos h0,BA]at hm;by_cases e:(-y).toNat=j∧j < C.length
          · right
            omega
          · rw[if_neg e]at hm
            exact Or.inl hm
        · rw[if_neg h0]at hm
          exact Or.inl hm
      rcases ih hs (i + 1) _ (by simpa using hl) (by rw[kF,kF];exact hn) g j h1 h2 with e|⟨m,m1,m2,m3⟩
      · rcases out _ _ s1 e with e|e
        · rcases out _ _ s0 e with e|e
          · exact Or.inl e
          · exact Or.inr ⟨0,by simp,by omega,by rw[nP];exact Or.inl e.1⟩
        · exact Or.inr ⟨0,by simp,by omega,by rw[nP];exact Or.inr e.1⟩
      · exact Or.inr ⟨m + 1,by simpa using m1,by omega,by rw[mV];exact m3⟩
theorem aOB {A H:List R} (h:good A H=true) (j:Nat) (h1:1≤j) (h2:j < A.length):∃ m:Nat,m < j∧((aA H m).f0= -(j:Int)∨(aA H m).f1= -(j:Int)):=by
  simp only[good,Bool.and_eq_true,decide_eq_true_eq]at h;rcases b0K A.length A H 0 _ h.2.1.symm (by simp) h.2.2 j h1 h2 with e|⟨m,m1,m2,m3⟩
  · rw[List.getD_eq_getElem?_getD,List.getElem?_replicate]at e
    split at e <;> cases e
  · exact⟨m,by omega,m3⟩
theorem b0L {A H:List R} (h:good A H=true) {W Z:List Int} (hq:KH A H W) (o:Parts A H Z) (lv:∀ x ∈ tn W A H,x=0):∀ x ∈ fl wM vT Z 0 A H,x.2 * rd Z 0=x.1 * rd W 0:=by
  have ok:=qW h;have o1:=ok.len;have o2:=ok.same.symm;have turn:∀ i:Nat,i < A.length→(aA A i).f1 * mW W (aA H i).f1=(aA A i).f0 * mW W (aA H i).f0:=by
    intro i hi;have l:=SG W A H o2;have e:=bXY W A H i o2 hi
    have z:=lv ((tn W A H).getD i 0) (by
      rw[List.getD_eq_getElem?_getD,List.getElem?_eq_getElem (by omega)]
      exact List.getElem_mem _)
    omega
  have ends:∀ i:Nat,i < A.length→rd W (i:Int) * rd Z 0=rd Z (i:Int) * rd W 0→mW W (aA H i).f0 * rd Z 0=wM (rd Z i) (aA A i) * rd W 0∧mW W (aA H i).f1 * rd Z 0=vT (rd Z i) (aA A i) * rd W 0:=by
    intro i hi c;have t:=turn i hi;have w:=hq i hi;have a:=aDV ok i hi;obtain⟨one,u0,e,e0,e1⟩:=SH ok o i hi;rw[e0,e1];rw[e]at c;generalize (aA A i).f0=a0 at *;generalize (aA A i).f1=a1 at *;generalize mW W (aA H i).f0=w0 at *;generalize mW W (aA H i).f1=w1 at *;generalize rd W (i:Int)=wi at *;generalize rd W 0=W0 at *;generalize rd Z 0=Z0 at *;refine⟨?_,?_⟩
    · refine Int.eq_of_mul_eq_mul_right (a:=a0 + a1) (by omega) ?_
      clear e e0 e1
      grind
    · refine Int.eq_of_mul_eq_mul_right (a:=a0 + a1) (by omega) ?_
      clear e e0 e1
      grind
  have all:∀ (d j:Nat),j≤d→j < A.length→rd W (j:Int) * rd Z 0=rd Z (j:Int) * rd W 0:=by
    intro d
    induction d with
    | zero=>
      intro j h1 h2;have:j=0:=by omega
      subst this;exact Int.mul_comm _ _
    | succ d ih=>
      intro j h1 h2;rcases Nat.eq_zero_or_pos j with h0|h0
      · subst h0
        exact Int.mul_comm _ _
      · obtain⟨m,m1,m2⟩:=aOB h j h0 h2
        have e:=ends m (by omega) (ih m (by omega) (by omega));have kd:=o.kid m (by omega);rcases m2 with m2|m2
        · have k:=kd.1 (by omega)
          have e1:=e.1;rw[← k,m2]at e1;unfold mW at e1;rw[if_pos (by omega),Int.neg_neg]at e1;exact e1
        · have k:=kd.2 (by omega)
          have e1:=e.2;rw[← k,m2]at e1;unfold mW at e1;rw[if_pos (by omega),Int.neg_neg]at e1;exact e1
  refine bEY wM vT Z _ A H 0 o2 (fun i hi=>?_);have e:=ends i hi (all i i (Nat.le_refl i) hi);rw[Nat.zero_add,show Z.getD i 0=rd Z (i:Int)from by simp[rd]];refine⟨fun h0=>?_,fun h0=>?_⟩
  · have e1:=e.1
    unfold mW at e1;rw[if_neg h0]at e1;exact e1
  · have e1:=e.2
    unfold mW at e1;rw[if_neg h0]at e1;exact e1
theorem rdI (p s:List Int) (x:Int):rd (p ++ x::s) ((p.length:Int))=x:=by
  simp[rd]
abbrev F:=oG
def Lf (D P:Int) (f:F):Prop:=Lk D P f.f0 f.f1
def OG (D:Int):List Int→List F→Prop
  |[],[]=>True
  |p::ps,f::fs=>Lf D p f∧OG D ps fs
  |_,_=>False
theorem OG.snoc {D p:Int} {f:F}:∀ {ps:List Int} {fs:List F},OG D ps fs→Lf D p f→OG D (ps ++ [p]) (fs ++ [f]):=by
  intro ps
  induction ps with
  | nil=>
    intro fs h hf;cases fs with
    |nil=>exact⟨hf,trivial⟩
    |cons g gs=>exact absurd h (by simp[OG])
  | cons x ps ih=>
    intro fs h hf;cases fs with
    |nil=>exact absurd h (by simp[OG])
    |cons g gs=>exact⟨h.1,ih h.2 hf⟩
def lG:List R→Int
  |[]=>1
  |a::us=>(a.f0 + a.f1) * lG us
def okA (us:List R):Prop:=∀ a ∈ us,(1≤a.f0∧a.f0≤12)∧(1≤a.f1∧a.f1≤12)
def pw:Nat→Int
  |0=>1
  |n + 1=>24 * pw n
theorem bXZ (n:Nat) (h:n≤6):pw n≤191102976:=by
  have:n=0∨n=1∨n=2∨n=3∨n=4∨n=5∨n=6:=by omega
  rcases this with rfl|rfl|rfl|rfl|rfl|rfl|rfl <;> simp[pw]
theorem a3V:∀ us:List R,okA us→0 < lG us∧lG us≤pw us.length:=by
  intro us
  induction us with
  |nil=>intro _;simp[lG,pw]
  | cons a us ih=>
    intro h;obtain⟨h1,h2⟩:=ih (fun x hx=>h x (by simp[hx]));obtain⟨h3,h4⟩:=h a (by simp);refine⟨Int.mul_pos (by omega) h1,?_⟩;have m1:(a.f0 + a.f1) * lG us≤24 * lG us:=Int.mul_le_mul_of_nonneg_right (by omega) (by omega);simp only[lG,List.length_cons,pw];omega
theorem aY0 {x y:Int} (hx:0 < x∧x≤191102976) (hy:0 < y∧y≤24):0 < x * y∧x * y≤4586471424:=by
  refine⟨Int.mul_pos hx.1 hy.1,?_⟩;have m1:x * y≤x * 24:=Int.mul_le_mul_of_nonneg_left hy.2 (by omega);omega
def QT (X:List Int) (h v:Int):List Int:=if h < 0 then X.set (-h).toNat v else X
def L6 (Y:List F) (h:Int) (c:Int × Int):List F:=if h < 0 then Y.set (-h).toNat ⟨c.1,c.2⟩else Y
def CS (O:List Int) (h v:Int):List Int:=if h < 0 then O else O ++ [v]
def OH (O:List F) (h:Int) (c:Int × Int):List F:=if h < 0 then O else O ++ [⟨c.1,c.2⟩]
theorem a3W (X:List Int) (h v:Int):(QT X h v).length=X.length:=by unfold QT;split <;> simp
theorem WR (Y:List F) (h:Int) (c:Int × Int):(L6 Y h c).length=Y.length:=by unfold L6;split <;> simp
structure Sh (n:Nat) (D Q:Int) (i:Nat) (B:List Bool) (X:List Int) (Y:List F) (O:List Int) (O':List F):Prop where
  lB:B.length=n
  lX:X.length=n
  lY:Y.length=n
  rod:∀ j:Nat,i≤j→j < n→(j=0∨B.getD j false=true)→Lf D (X.getD j 0) (Y.getD j z70)∧Q ∣ X.getD j 0
  leaf:OG D O O'
theorem Sh.next {n i:Nat} {D s Q:Int} {B:List Bool} {X:List Int} {Y:List F} {O:List Int} {O':List F} (o:Sh n D (s * Q) i B X Y O O'):Sh n D Q (i + 1) B X Y O O':=
  ⟨o.lB,o.lX,o.lY,fun j hj hn hb=>by
    obtain⟨a,b⟩:=o.rod j (by omega) hn hb
    exact⟨a,Int.dvd_trans ⟨s,Int.mul_comm s Q⟩ b⟩,o.leaf⟩
theorem Sh.push {n i:Nat} {D Q h v:Int} {c:Int × Int} {B:List Bool} {X:List Int} {Y:List F} {O:List Int} {O':List F} (hs:l8 (i:Int) (n:Int) B h=true) (o:Sh n D Q (i + 1) B X Y O O') (hv:Lk D v c.1 c.2) (hq:Q ∣ v):
    Sh n D Q (i + 1) (mark B h) (QT X h v) (L6 Y h c) (CS O h v) (OH O' h c):=by
  by_cases h0:h < 0
  · obtain⟨k1,k2,k3⟩:=K3 hs h0
    have e1:=o.lX;have e2:=o.lY;have e3:=o.lB;refine⟨by rw[kF];exact o.lB,by rw[a3W];exact o.lX,by rw[WR];exact o.lY,?_,?_⟩
    · intro j hj hn hb
      unfold QT L6;rw[if_pos h0,if_pos h0,BA,BA];by_cases ej:(-h).toNat=j
      · rw[if_pos ⟨ej,by omega⟩,if_pos ⟨ej,by omega⟩]
        exact⟨hv,hq⟩
      · rw[if_neg (by omega),if_neg (by omega)]
        refine o.rod j hj hn ?_;rcases hb with hb|hb
        · exact Or.inl hb
        · unfold mark at hb
          rw[if_pos h0,BA,if_neg (by omega)]at hb;exact Or.inr hb
    · unfold CS OH
      rw[if_pos h0,if_pos h0];exact o.leaf
  · have b1:mark B h=B:=by unfold mark;rw[if_neg h0]
    have b2:QT X h v=X:=by unfold QT;rw[if_neg h0]
    have b3:L6 Y h c=Y:=by unfold L6;rw[if_neg h0]
    have b4:CS O h v=O ++ [v]:=by unfold CS;rw[if_neg h0]
    have b5:OH O' h c=O' ++ [⟨c.1,c.2⟩]:=by unfold OH;rw[if_neg h0]
    rw[b1,b2,b3,b4,b5];exact⟨o.lB,o.lX,o.lY,o.rod,o.leaf.snoc hv⟩
theorem aNT (k:Nat) (a b:Int) (ha:0≤a) (hb:0≤b) (hk:b.toNat < k):kT.f k a b=some (gd a b):=by
  unfold kT.f gd;have e:=b07 k a.natAbs b.natAbs (by omega);rw[← e];congr 1 <;> omega
theorem aDZ (k:Nat) (a b:Int) (ha:0≤a) (hb:0≤b) (hk:b.toNat < k):mI.f k a b=some (gd a b):=by
  unfold mI.f;rw[b83];exact aNT k a b ha hb hk
theorem bY0 (Y O:List F) (i:Nat) (A H:List R) (a h:R) (f:F) (k:Nat) (hA:aA A (i:Int)=a) (hH:aA H (i:Int)=h) (hY:dC Y (i:Int)=f) (c1:i < Y.length) (c2:i < A.length) (c3:i < H.length)
    (ht:0 < f.f0∧f.f0≤191102976) (hb:0 < f.f1∧f.f1≤191102976) (a0:1≤a.f0∧a.f0≤12) (a1:1≤a.f1∧a.f1≤12) (hk:4586471424 < k) (hu:h.f0 < 0→wrap64 (-h.f0)= -h.f0∧ -h.f0 < (Y.length:Int)) (hO:O.length≤1000):
    bW.l1 (k + 1) Y O (i:Int) 0 A H=bW.l1 k (L6 Y h.f0 (cut (f.f0 * a.f1) (f.f1 * (a.f0 + a.f1)))) (OH O h.f0 (cut (f.f0 * a.f1) (f.f1 * (a.f0 + a.f1)))) (i:Int) 1 A H:=by
  have w1:wrap64 (0 + 1)=1:=cZ (by omega) (by omega);have m1:=aY0 ht (y:=a.f1) ⟨by omega,by omega⟩;have m2:=aY0 hb (y:=a.f0 + a.f1) ⟨by omega,by omega⟩;simp only[bW.l1];rw[if_pos (by decide),if_pos (by omega),if_pos (by omega),if_pos (by omega),if_pos trivial,hA,hY,hH,cZ (x:=a.f0 + a.f1) (by omega) (by omega),cZ (x:=f.f0 * a.f1) (by omega) (by omega),cZ (x:=f.f1 * (a.f0 + a.f1)) (by omega) (by omega)];rw[aNN k _ _ m2.1 (by omega) (by omega) (by omega),Option.bind_some,if_pos (by omega),w1];unfold L6 OH;by_cases c:h.f0 < 0
  · obtain⟨h1,h2⟩:=hu c
    rw[if_pos c,if_pos c,if_pos c,h1,if_pos (by omega),if_pos h2]
  · rw[if_neg c,if_neg c,if_neg c,if_pos (by omega)]
theorem bY1 (Y O:List F) (i:Nat) (A H:List R) (a h:R) (f:F) (k:Nat) (hA:aA A (i:Int)=a) (hH:aA H (i:Int)=h) (hY:dC Y (i:Int)=f) (c1:i < Y.length) (c2:i < A.length) (c3:i < H.length)
    (ht:0 < f.f0∧f.f0≤191102976) (hb:0 < f.f1∧f.f1≤191102976) (a0:1≤a.f0∧a.f0≤12) (a1:1≤a.f1∧a.f1≤12) (hk:4586471424 < k) (hu:h.f1 < 0→wrap64 (-h.f1)= -h.f1∧ -h.f1 < (Y.length:Int)) (hO:O.length≤1000):
    bW.l1 (k + 1) Y O (i:Int) 1 A H=bW.l1 k (L6 Y h.f1 (cut (f.f0 * a.f0) (f.f1 * (a.f0 + a.f1)))) (OH O h.f1 (cut (f.f0 * a.f0) (f.f1 * (a.f0 + a.f1)))) (i:Int) 2 A H:=by
  have w2:wrap64 (1 + 1)=2:=cZ (by omega) (by omega);have m1:=aY0 ht (y:=a.f0) ⟨by omega,by omega⟩;have m2:=aY0 hb (y:=a.f0 + a.f1) ⟨by omega,by omega⟩;simp only[bW.l1];rw[if_pos (by decide),if_pos (by omega),if_pos (by omega),if_pos (by omega),if_neg (by decide),if_pos trivial,hA,hY,hH,cZ (x:=a.f0 + a.f1) (by omega) (by omega),cZ (x:=f.f0 * a.f0) (by omega) (by omega),cZ (x:=f.f1 * (a.f0 + a.f1)) (by omega) (by omega)];rw[aNN k _ _ m2.1 (by omega) (by omega) (by omega),Option.bind_some,if_pos (by omega),w2];unfold L6 OH;by_cases c:h.f1 < 0
  · obtain⟨h1,h2⟩:=hu c
    rw[if_pos c,if_pos c,if_pos c,h1,if_pos (by omega),if_pos h2]
  · rw[if_neg c,if_neg c,if_neg c,if_pos (by omega)]
theorem aRZ (O:List Int) (h v:Int):gA (CS O h v) 0=if h < 0 then gA O 0 else gd (gA O 0) v:=by
  unfold CS
  split
  · rfl
  · exact bHW O 0 v
theorem aHG:∀ (l:List Int) (c:Int),0≤c→0≤gA l c:=by
  intro l
  induction l with
  |nil=>intro c h;exact h
  | cons x l ih=>
    intro c h;exact ih (gd c x) (by unfold gd;omega)
theorem bY2 (X O:List Int) (one:Int) (P:List R) (n i:Int) (A H:List R) (a0 a1 h0 h1:Int) (k:Nat) (hv:0 < one * a1∧one * a1≤191102976) (hk:4586471424 < k) (hu:h0 < 0→wrap64 (-h0)= -h0∧ -h0 < (X.length:Int)) (hO:O.length≤1000):
    aZ.l2 (k + 1) X O (gA O 0) one P n i 0 A H a0 a1 h0 h1=aZ.l2 k (QT X h0 (one * a1)) (CS O h0 (one * a1)) (gA (CS O h0 (one * a1)) 0) one P n i 1 A H a0 a1 h0 h1:=by
  have w1:wrap64 (0 + 1)=1:=cZ (by omega) (by omega);have g0:=aHG O 0 (by omega);simp only[aZ.l2];rw[if_pos (by decide),if_pos trivial,w1,cZ (x:=one * a1) (by omega) (by omega),aRZ];unfold QT CS;by_cases c:h0 < 0
  · obtain⟨h1,h2⟩:=hu c
    rw[if_pos c,if_pos c,if_pos c,if_pos c,h1,if_pos (by omega),if_pos h2]
  · rw[if_neg c,if_neg c,if_neg c,if_neg c,if_pos (by omega),aDZ k _ _ g0 (by omega) (by omega),Option.bind_some]
theorem bY3 (X O:List Int) (one:Int) (P:List R) (n i:Int) (A H:List R) (a0 a1 h0 h1:Int) (k:Nat) (hv:0 < one * a0∧one * a0≤191102976) (hk:4586471424 < k) (hu:h1 < 0→wrap64 (-h1)= -h1∧ -h1 < (X.length:Int)) (hO:O.length≤1000):
    aZ.l2 (k + 1) X O (gA O 0) one P n i 1 A H a0 a1 h0 h1=aZ.l2 k (QT X h1 (one * a0)) (CS O h1 (one * a0)) (gA (CS O h1 (one * a0)) 0) one P n i 2 A H a0 a1 h0 h1:=by
  have w2:wrap64 (1 + 1)=2:=cZ (by omega) (by omega);have g0:=aHG O 0 (by omega);simp only[aZ.l2];rw[if_pos (by decide),if_neg (by decide),if_pos trivial,w2,cZ (x:=one * a0) (by omega) (by omega),aRZ];unfold QT CS;by_cases c:h1 < 0
  · obtain⟨h1,h2⟩:=hu c
    rw[if_pos c,if_pos c,if_pos c,if_pos c,h1,if_pos (by omega),if_pos h2]
  · rw[if_neg c,if_neg c,if_neg c,if_neg c,if_pos (by omega),aDZ k _ _ g0 (by omega) (by omega),Option.bind_some]
theorem c82 (g:Int):∀ (s p:List Int) (K:Nat),(p ++ s).length≤1000→s.length < K→(∀ x ∈ s,0 < x∧x≤191102976)→(s ≠ []→0 < g)→aZ.l3 K (p ++ s) g ((p ++ s).length:Int) (p.length:Int)=some (p ++ s.map (fun x=>x / g)):=by
  intro s
  induction s with
  | nil=>
    intro p K hl hK hb hg;obtain⟨K,rfl⟩:∃ m,K=m + 1:=⟨K - 1,by simp at hK;omega⟩
    simp only[aZ.l3];rw[if_neg (by simp)];rfl
  | cons x s ih=>
    intro p K hl hK hb hg;obtain⟨K,rfl⟩:∃ m,K=m + 1:=⟨K - 1,by simp at hK;omega⟩
    have g0:=hg (by simp);have x0:=hb x (by simp);have d0:0≤x / g:=Int.ediv_nonneg (by omega) (by omega);have d1:x / g≤x:=Int.ediv_le_self _ (by omega);have hn:((p.length:Nat):Int).toNat=p.length:=by omega
    have hs:(p ++ x::s).set p.length (x / g)=p ++ x / g::s:=by rw[List.set_append_right _ _ (Nat.le_refl _),Nat.sub_self,List.set_cons_zero]
    simp only[aZ.l3];rw[if_pos (by simp;omega),if_pos (by omega),if_pos (by simp;omega),if_neg (by omega),rdI,Int.tdiv_eq_ediv_of_nonneg (by omega),cZ (x:=x / g) (by omega) (by omega),hn,hs,cZ (x:=(p.length:Int) + 1) (by omega) (by simp at hl;omega)];have e:=ih (p ++ [x / g]) K (by simpa using hl) (by simp at hK;omega) (fun y hy=>hb y (by simp[hy])) (fun _=>g0);rw[show((p ++ [x / g] ++ s).length:Int)=((p ++ x::s).length:Int)from by simp,show((p ++ [x / g]).length:Int)=(p.length:Int) + 1 from by simp,List.append_assoc]at e;rw[show p ++ x / g::s=p ++ ([x / g] ++ s)from by simp,e];simp
theorem a3X (O:List Int) (h v:Int) (hh:h < 0∨0 < h):(CS O h v).length=nx O.length h:=by
  unfold CS nx;by_cases c:h < 0
  · rw[if_pos c,if_neg (by omega)]
  · rw[if_neg c,if_pos (by omega)]
    simp
theorem OG.each {D:Int}:∀ {ps:List Int} {fs:List F},OG D ps fs→∀ x ∈ ps,0 < x∧x≤D:=by
  intro ps
  induction ps with
  |nil=>intro fs h x hx;cases hx
  | cons y ps ih=>
    intro fs h x hx;cases fs with
    |nil=>exact absurd h (by simp[OG])
    | cons g gs=>
      rcases List.mem_cons.1 hx with rfl|hx
      · exact⟨h.1.1,h.1.2.1⟩
      · exact ih h.2 x hx
theorem b87 {n i:Nat} {B:List Bool} {Y:List F} {h:Int} {c:Int × Int} (hs:l8 (i:Int) (n:Int) B h=true):dC (L6 Y h c) (i:Int)=dC Y (i:Int):=by
  unfold L6;by_cases h0:h < 0
  · obtain⟨k1,k2,k3⟩:=K3 hs h0
    rw[if_pos h0];show(Y.set (-h).toNat _).getD i z70=Y.getD i z70
    rw[BA,if_neg (by omega)]
  · rw[if_neg h0]
theorem b0M {i n:Int} {B:List Bool} {h:Int} (hs:l8 i n B h=true) (hi:0≤i):h < 0∨0 < h:=by
  simp only[l8,kR,Bool.or_eq_true,Bool.and_eq_true,decide_eq_true_eq]at hs;omega
theorem aHH (O2:List (Int × Int)) (h v:Int):(puo O2 h v).map (fun x=>x.1)=CS (O2.map (fun x=>x.1)) h v:=by
  unfold puo CS
  split <;> simp
theorem run {A H:List R} (ok:OJ A H) {D:Int} (hD:0 < D∧D≤191102976):∀ (us hs pA q:List R) (i:Nat) (B:List Bool) (X:List Int) (Y:List F) (O:List Int) (O':List F),us.length=hs.length→A=pA ++ us→pA.length=i→H=q ++ hs→q.length=i→okA us→
    gI (A.length:Int) (i:Int) us hs B=true→Sh A.length D (lG us) i B X Y O O'→O.length≤2 * i→O'.length≤2 * i→∀ O2:List (Int × Int),O=O2.map (fun x=>x.1)→
    ∃ (P:List Int) (Fs:List F),P=(po wM vT i us hs X O2).map (fun x=>x.1)∧OG D P Fs∧P.length=O.length + cnt hs∧Fs.length≤2 * A.length∧∀ k,4 * us.length + 5000000000 < k→bW.l0 k Y O' (i:Int) A H=some Fs∧aZ.l1 k X O (gA O 0) A (A.length:Int) (i:Int) A H=some (P.map (fun x=>x / gA P 0)):=by
  have o1:=ok.len;have o2:=ok.same;intro us
  induction us with
  | nil=>
    intro hs pA q i B X Y O O' hl hA hpA hH hq hok hg o hO hO' O2 hO2;have:hs=[]:=List.eq_nil_of_length_eq_zero (by simpa using hl.symm);subst this;have hi:i=A.length:=by rw[hA,← hpA];simp
    refine⟨O,O',by rw[hO2];simp[po],o.leaf,by simp[cnt],by omega,fun k hk=>?_⟩;obtain⟨k,rfl⟩:∃ m,k=m + 1:=⟨k - 1,by omega⟩
    have ea:=o.leaf.each;refine⟨?_,?_⟩
    · simp only[bW.l0]
      rw[if_neg (by omega)]
    · simp only[aZ.l1]
      rw[if_neg (by omega)];have e:=c82 (gA O 0) O [] k (by simp;omega) (by omega) (fun x hx=>by have:=ea x hx;omega) (fun hne=>aGK O (fun x hx=>(ea x hx).1) hne)
      simpa using e
  | cons a us ih=>
    intro hs pA q i B X Y O O' hl hA hpA hH hq hok hg o hO hO' O2 hO2;cases hs with
    |nil=>simp at hl
    | cons x hs=>
      have hlen:A.length=i + us.length + 1:=by rw[hA,← hpA];simp;omega
      have hxA:aA A (i:Int)=a:=by rw[hA,← hpA];exact GG pA us a
      have hxH:aA H (i:Int)=x:=by rw[hH,← hq];exact GG q hs x
      have known:i=0∨B.getD i false=true:=by
        rcases Nat.eq_zero_or_pos i with h0|h0
        · exact Or.inl h0
        · exact Or.inr (aRP (A.length:Int) (a::us) (x::hs) i B hl hg i h0 (Nat.le_refl _) (by have:=o.lB;omega))
      simp only[gI,Bool.and_eq_true]at hg;obtain⟨_,s0,s1,g⟩:=hg;obtain⟨aa0,aa1⟩:=hok a (by simp);have hok2:okA us:=fun y hy=>hok y (by simp[hy])
      have f:=ok.fin i (by omega);rw[hxH]at f;have ends:∀ h:Int,l7 (i:Int) (A.length:Int) h=true→h < 0→wrap64 (-h)= -h∧ -h < (A.length:Int):=fun h he h0=>by
        have ch:=child he h0;exact⟨cZ (by omega) (by omega),by omega⟩
      have lX:=o.lX;have lY:=o.lY;obtain⟨lk,dv⟩:=o.rod i (Nat.le_refl _) (by omega) known;have hle:=Lk.le lk;have hP1:=lk.1;have hP2:=lk.2.1;have ht0:=lk.2.2.1;have hb0:=lk.2.2.2.1;simp only[lG]at dv o;have ch1:=aNO (o:=a.f1) (R:=lG us) lk (show 0 < a.f0 + a.f1 by omega) (by omega) (by omega) dv;have ch0:=aNO (o:=a.f0) (R:=lG us) lk (show 0 < a.f0 + a.f1 by omega) (by omega) (by omega) dv;have o2:=(o.next).push s0 ch1.1 ch1.2;have o3:=o2.push s1 ch0.1 ch0.2;have hxX:rd X (i:Int)=X.getD i 0:=rfl;have hxY:dC Y (i:Int)=Y.getD i z70:=rfl;generalize hPX:X.getD i 0=P at *;generalize Y.getD i z70=fr at *;have l1:=a3X O x.f0 (P / (a.f0 + a.f1) * a.f1) (b0M s0 (by omega));have l2:=a3X (CS O x.f0 (P / (a.f0 + a.f1) * a.f1)) x.f1 (P / (a.f0 + a.f1) * a.f0) (b0M s1 (by omega));rw[l1]at l2;have n1:=yV (nx O.length x.f0) x.f1;have n2:=yV O.length x.f0;have n3:=yV (nx 0 x.f0) x.f1;have n4:∀ h,nx 0 h≤1:=fun h=>by unfold nx;split <;> omega
      have n5:=n4 x.f0;have n6:=n4 x.f1;have pF:∀ (V:List F) (h:Int) (c:Int × Int),(OH V h c).length≤V.length + 1:=fun V h c=>by unfold OH;split <;> simp
      have p1:=pF O' x.f0 (cut (fr.f0 * a.f1) (fr.f1 * (a.f0 + a.f1)));have p2:=pF (OH O' x.f0 (cut (fr.f0 * a.f1) (fr.f1 * (a.f0 + a.f1)))) x.f1 (cut (fr.f0 * a.f0) (fr.f1 * (a.f0 + a.f1)));obtain⟨Pf,Fs,h0,h1,h2,h3,h4⟩:=ih hs (pA ++ [a]) (q ++ [x]) (i + 1) _ _ _ _ _ (by simpa using hl) (by rw[hA];simp) (by simp[hpA]) (by rw[hH];simp) (by simp[hq]) hok2 g o3 (by omega) (by omega) (puo (puo O2 x.f0 (P / (a.f0 + a.f1) * a.f1)) x.f1 (P / (a.f0 + a.f1) * a.f0)) (by rw[aHH,aHH,hO2]);refine⟨Pf,Fs,by rw[h0];simp only[po,wM,vT,hPX];rfl,h1,by rw[h2,l2];simp only[cnt];omega,h3,fun k hk=>?_⟩;simp only[List.length_cons]at hk;obtain⟨k,rfl⟩:∃ m,k=m + 4:=⟨k - 4,by omega⟩
      obtain⟨e1,e2⟩:=h4 k (by omega);have ws:wrap64 (a.f0 + a.f1)=a.f0 + a.f1:=cZ (by omega) (by omega);have q0:0≤P / (a.f0 + a.f1):=Int.ediv_nonneg (by omega) (by omega);have q1:P / (a.f0 + a.f1)≤P:=Int.ediv_le_self _ (by omega);refine⟨?_,?_⟩
      · rw[show bW.l0 (k + 4) Y O' (i:Int) A H=bW.l1 (k + 3) Y O' (i:Int) 0 A H from by
          simp only[bW.l0]
          rw[if_pos (by omega)]]
        rw[bY0 Y O' i A H a x fr (k + 2) hxA hxH hxY (by omega) (by omega) (by omega) ⟨ht0,by omega⟩ ⟨hb0,by omega⟩ aa0 aa1 (by omega) (by rw[lY];exact ends _ f.1) (by omega)];rw[bY1 _ _ i A H a x fr (k + 1) hxA hxH ((b87 s0).trans hxY) (by rw[WR];omega) (by omega) (by omega) ⟨ht0,by omega⟩ ⟨hb0,by omega⟩ aa0 aa1 (by omega) (by rw[WR,lY];exact ends _ f.2) (by omega)];simp only[bW.l1];rw[if_neg (by decide),cZ (x:=(i:Int) + 1) (by omega) (by omega)];exact e1
      · rw[show aZ.l1 (k + 4) X O (gA O 0) A (A.length:Int) (i:Int) A H=aZ.l2 (k + 3) X O (gA O 0) (P / (a.f0 + a.f1)) A (A.length:Int) (i:Int) 0 A H a.f0 a.f1 x.f0 x.f1 from by
          simp only[aZ.l1]
          rw[if_pos (by omega),if_pos (by omega),if_pos (by omega),if_pos (by omega),hxA,hxH,hxX,ws,if_neg (by omega),if_pos (by omega),Int.tdiv_eq_ediv_of_nonneg (by omega),cZ (x:=P / (a.f0 + a.f1)) (by omega) (by omega)]]
        have v1:=ch1.1.1;have v2:=ch1.1.2.1;have v3:=ch0.1.1;have v4:=ch0.1.2.1;rw[bY2 _ _ _ _ _ _ _ _ _ _ _ _ (k + 2) ⟨v1,by omega⟩ (by omega) (by rw[lX];exact ends _ f.1) (by omega)];rw[bY3 _ _ _ _ _ _ _ _ _ _ _ _ (k + 1) ⟨v3,by omega⟩ (by omega) (by rw[a3W,lX];exact ends _ f.2) (by omega)];simp only[aZ.l2];rw[if_neg (by decide),cZ (x:=(i:Int) + 1) (by omega) (by omega)];exact e2
def fq (L:Int) (f:F):Int:=qOf L f.f0 f.f1
theorem rdF (p s:List F) (x:F):dC (p ++ x::s) ((p.length:Int))=x:=by
  simp[dC]
theorem c83 {D:Int} (hD:0 < D∧D≤191102976):∀ (s p:List F) (L:Int),(p ++ s).length≤1000→0 < L→L ∣ D→(∀ f ∈ s,0 < f.f1∧f.f1 ∣ D)→
    ∃ L':Int,0 < L'∧L' ∣ D∧L ∣ L'∧(∀ f ∈ s,f.f1 ∣ L')∧∀ K k:Nat,K=k + s.length + 1→191102976 < k→bB.l0 K (p ++ s) L (p.length:Int)=bB.l1 k (p ++ s) L' [] 0 0:=by
  intro s
  induction s with
  | nil=>
    intro p L hl hL hLD hs;refine⟨L,hL,hLD,Int.dvd_refl _,fun f hf=>(by cases hf),fun K k hK hk=>?_⟩;subst hK;simp only[bB.l0,List.length_nil,Nat.add_zero];rw[if_neg (by simp)]
  | cons f s ih=>
    intro p L hl hL hLD hs;obtain⟨hb,hbD⟩:=hs f (by simp);obtain⟨m0,m1,m2,m3⟩:=b85 hL hb hLD hbD;obtain⟨L',h1,h2,h3,h4,h5⟩:=ih (p ++ [f]) (L / gd L f.f1 * f.f1) (by simpa using hl) m0 m1 (fun g hg=>hs g (by simp[hg]));have bL:=Int.le_of_dvd hD.1 hLD;have bb:=Int.le_of_dvd hD.1 hbD;have bm:=Int.le_of_dvd hD.1 m1;have gp:=SF (a:=L) hb;have q0:0≤L / gd L f.f1:=Int.ediv_nonneg (by omega) (by omega);have q1:L / gd L f.f1≤L:=Int.ediv_le_self _ (by omega);refine⟨L',h1,h2,Int.dvd_trans m2 h3,?_,fun K k hK hk=>?_⟩
    · intro g hg
      rcases List.mem_cons.1 hg with rfl|hg
      · exact Int.dvd_trans m3 h3
      · exact h4 g hg
    · obtain⟨K,rfl⟩:∃ m,K=m + 1:=⟨K - 1,by omega⟩
      simp only[List.length_cons]at hK;have e:=h5 K k (by omega) hk;simp only[bB.l0];rw[if_pos (by simp;omega),if_pos (by omega),rdF,aNT K _ _ (by omega) (by omega) (by omega),Option.bind_some,if_neg (by omega),Int.tdiv_eq_ediv_of_nonneg (by omega),cZ (x:=L / gd L f.f1) (by omega) (by omega),cZ (x:=L / gd L f.f1 * f.f1) (by omega) (by omega),uR p f (by simp at hl;omega),List.append_cons p f s];exact e
theorem bI0 (a b:Int):wT.f a b=some (mx a b):=by
  unfold wT.f mx;(repeat' split) <;> (first|rfl|omega|(congr 1;omega))
theorem b88 (a b:Int):E5.f a b=some (mn a b):=by
  unfold E5.f mn;(repeat' split) <;> (first|rfl|omega|(congr 1;omega))
theorem bI1 (a b:Int):gd (mx a b) (mn a b)=gd a b:=by
  unfold gd mx mn;(repeat' split) <;> (first|rfl|omega|(rw[Nat.gcd_comm];done)|(have e_:a=b:=(by omega);subst e_;rfl))
theorem c84 {D L:Int} (hD:0 < D∧D≤191102976):∀ (s p:List F) (Q:List Int) (c:Int),(p ++ s).length≤1000→Q.length=p.length→0≤c→(c≤191102976)→(∀ f ∈ s,0 < f.f1∧f.f1 ∣ L∧0 < f.f0∧0 < fq L f∧fq L f≤D)→0 < L→L≤D→
    ∀ K k:Nat,K=k + s.length + 1→191102976 < k→bB.l1 K (p ++ s) L Q c (p.length:Int)=bB.l2 k (Q ++ s.map (fq L)) (gA (s.map (fq L)) c) 0:=by
  intro s
  induction s with
  | nil=>
    intro p Q c hl hQ hc hc2 hs hL hLD K k hK hk;subst hK;simp only[bB.l1,List.length_nil,Nat.add_zero];rw[if_neg (by simp)];simp[gA]
  | cons f s ih=>
    intro p Q c hl hQ hc hc2 hs hL hLD K k hK hk;obtain⟨K,rfl⟩:∃ m,K=m + 1:=⟨K - 1,by omega⟩
    simp only[List.length_cons]at hK;obtain⟨hb,hbL,ht,hq,hqD⟩:=hs f (by simp);have q0:0≤L / f.f1:=Int.ediv_nonneg (by omega) (by omega);have q1:L / f.f1≤L:=Int.ediv_le_self _ (by omega);have hfl:L / f.f1 * f.f0=fq L f:=rfl;have gn:0≤gd c (fq L f):=by unfold gd;omega
    have gle:gd c (fq L f)≤191102976:=by
      have:=Int.le_of_dvd hq (WQ c (fq L f)).2;omega
    have hr:rd (Q ++ [fq L f]) (p.length:Int)=fq L f:=by rw[← hQ];simp[rd]
    have e:=ih (p ++ [f]) (Q ++ [fq L f]) (gd c (fq L f)) (by simpa using hl) (by simp[hQ]) gn gle (fun g hg=>hs g (by simp[hg])) hL hLD K k (by omega) hk;simp only[bB.l1];rw[if_pos (by simp;omega),if_pos (by omega),rdF,if_neg (by omega),if_pos (by simp at hl;omega),Option.bind_some,Int.tdiv_eq_ediv_of_nonneg (by omega),cZ (x:=L / f.f1) (by omega) (by omega),hfl,cZ (x:=fq L f) (by omega) (by omega)];rw[if_pos (by simp[hQ];omega),hr,bI0,Option.bind_some,b88,Option.bind_some,aNT K _ _ (by unfold mx;split <;> omega) (by unfold mn;split <;> omega) (by unfold mn;split <;> omega),Option.bind_some,bI1,uR p f (by simp at hl;omega),List.append_cons p f s,e];simp[gA]
def yL (l:List Int):Bool:=l.any (fun x=>decide (x > 99))
theorem c86 (g:Int):∀ (s p:List Int) (K:Nat),(p ++ s).length≤1000→s.length < K→(∀ x ∈ s,0 < x∧x≤191102976)→(s ≠ []→0 < g)→
    bB.l2 K (p ++ s) g (p.length:Int)=some (if yL (s.map (fun x=>x / g))=true then([],false)else(p ++ s.map (fun x=>x / g),true)):=by
  intro s
  induction s with
  | nil=>
    intro p K hl hK hb hg;obtain⟨K,rfl⟩:∃ m,K=m + 1:=⟨K - 1,by simp at hK;omega⟩
    simp only[bB.l2];rw[if_neg (by simp)];rfl
  | cons x s ih=>
    intro p K hl hK hb hg;obtain⟨K,rfl⟩:∃ m,K=m + 1:=⟨K - 1,by simp at hK;omega⟩
    have g0:=hg (by simp);have x0:=hb x (by simp);have d0:0≤x / g:=Int.ediv_nonneg (by omega) (by omega);have d1:x / g≤x:=Int.ediv_le_self _ (by omega);have hn:((p.length:Nat):Int).toNat=p.length:=by omega
    have hs:(p ++ x::s).set p.length (x / g)=p ++ x / g::s:=by rw[List.set_append_right _ _ (Nat.le_refl _),Nat.sub_self,List.set_cons_zero]
    simp only[bB.l2];rw[if_pos (by simp;omega),if_pos (by omega),if_neg (by omega),rdI,Int.tdiv_eq_ediv_of_nonneg (by omega),cZ (x:=x / g) (by omega) (by omega),hn,hs,Option.bind_some,rdI];by_cases big:x / g > 99
    · rw[if_pos big,if_pos (by simp[yL,big])]
    · have e:=ih (p ++ [x / g]) K (by simpa using hl) (by simp at hK;omega) (fun y hy=>hb y (by simp[hy])) (fun _=>g0)
      rw[if_neg big,uR p (x / g) (by simp at hl;omega),List.append_cons p (x / g) s,e];have:yL (List.map (fun x=>x / g) (x::s))=yL (s.map (fun x=>x / g)):=by simp[yL,big]
      rw[this];simp
theorem bP2:∀ (s p:List Int) (m:Int) (K:Nat),(p ++ s).length≤1000→s.length < K→∃ r,iQ.l0 K (p ++ s) m (p.length:Int)=some r∧(r > 99 ↔ m > 99∨yL s=true):=by
  intro s
  induction s with
  | nil=>
    intro p m K hl hK;obtain⟨K,rfl⟩:∃ m,K=m + 1:=⟨K - 1,by simp at hK;omega⟩
    simp only[iQ.l0];rw[if_neg (by simp)];exact⟨m,rfl,by simp[yL]⟩
  | cons x s ih=>
    intro p m K hl hK;obtain⟨K,rfl⟩:∃ m,K=m + 1:=⟨K - 1,by simp at hK;omega⟩
    simp only[iQ.l0];rw[if_pos (by simp;omega),if_pos (by omega),rdI,uR p x (by simp at hl;omega),List.append_cons p x s];obtain⟨r,h1,h2⟩:=ih (p ++ [x]) (mx m x) K (by simpa using hl) (by simp at hK;omega);refine⟨r,h1,h2.trans ?_⟩;have:yL (x::s)=(decide (x > 99)||yL s):=rfl;rw[this,Bool.or_eq_true,decide_eq_true_eq];have hm:mx m x > 99 ↔ m > 99∨x > 99:=by unfold mx;split <;> omega
    rw[hm,or_assoc]
theorem bP3 (l:List Int) (K:Nat) (hl:l.length≤1000) (hK:l.length < K) (hne:l ≠ []):∃ r,iQ.f K l=some r∧(r > 99 ↔ yL l=true):=by
  cases l with
  |nil=>exact absurd rfl hne
  | cons x s=>
    obtain⟨r,h1,h2⟩:=bP2 s [x] x K (by simpa using hl) (by simp at hK;omega);unfold iQ.f;rw[if_neg (by simp;omega),if_pos (by simp)];refine⟨r,?_,h2.trans ?_⟩
    · simpa [rd] using h1
    · have:yL (x::s)=(decide (x > 99)||yL s):=rfl
      rw[this,Bool.or_eq_true,decide_eq_true_eq]
theorem bY4 (P:List R) (A H:List R) (n:Nat):∀ (us pA:List R) (acc:Int) (X:List Int) (K k:Nat),P=pA ++ us→P.length≤6→okA us→X.length=n→1≤n→0 < acc→acc * lG us≤191102976→X.getD 0 0=acc→K=k + us.length + 1→
    aZ.l0 K X P (P.length:Int) (pA.length:Int) A H=aZ.l1 k (X.set 0 (acc * lG us)) [] 0 A (A.length:Int) 0 A H:=by
  intro us
  induction us with
  | nil=>
    intro pA acc X K k hP hP6 hok hX hn ha hb hx hK;subst hK;simp only[aZ.l0,List.length_nil,Nat.add_zero];rw[if_neg (by rw[hP];simp)];have:X.set 0 (acc * lG [])=X:=by
      cases X with
      |nil=>simp at hX;omega
      | cons y ys=>
        simp at hx;simp[lG,hx]
    rw[this]
  | cons a us ih=>
    intro pA acc X K k hP hP6 hok hX hn ha hb hx hK;obtain⟨K,rfl⟩:∃ m,K=m + 1:=⟨K - 1,by omega⟩
    simp only[List.length_cons]at hK;obtain⟨a0,a1⟩:=hok a (by simp);have hok2:okA us:=fun y hy=>hok y (by simp[hy])
    obtain⟨p0,_⟩:=a3V us hok2;have hr:aA P (pA.length:Int)=a:=by rw[hP];exact GG pA us a
    have hPl:P.length=pA.length + us.length + 1:=by rw[hP];simp;omega
    have s0:0 < acc * (a.f0 + a.f1):=Int.mul_pos ha (by omega);have tot:acc * lG (a::us)=acc * (a.f0 + a.f1) * lG us:=by simp only[lG];rw[Int.mul_assoc]
    have s1:acc * (a.f0 + a.f1)≤acc * (a.f0 + a.f1) * lG us:=by
      have:=Int.mul_le_mul_of_nonneg_left (show 1≤lG us by omega) (Int.le_of_lt s0);omega
    rw[tot]at hb ⊢;have hrx:rd X 0=acc:=hx;have e:=ih (pA ++ [a]) (acc * (a.f0 + a.f1)) (X.set 0 (acc * (a.f0 + a.f1))) K k (by rw[hP];simp) hP6 hok2 (by simpa using hX) hn s0 hb (by rw[BA,if_pos ⟨rfl,by omega⟩]) (by omega);simp only[aZ.l0];rw[if_pos (by omega),if_pos (by omega),if_pos (by omega),if_pos (by omega),hr,hrx,cZ (x:=a.f0 + a.f1) (by omega) (by omega),cZ (x:=acc * (a.f0 + a.f1)) (by omega) (by omega),uR pA a (by omega)];rw[show((0:Int)).toNat=0 from rfl,e,List.set_set]
theorem aNU {A H:List R} (ok:OJ A H):okA A:=by
  intro a ha;obtain⟨i,hi,rfl⟩:=List.mem_iff_getElem.1 ha;have f:=ok.arm i hi;have e:aA A (i:Int)=A[i]:=by
    simp only[aA,Int.toNat_natCast];rw[List.getD_eq_getElem?_getD,List.getElem?_eq_getElem hi];rfl
  rw[e]at f;simp only[wQ,decide_eq_true_eq]at f;exact f
theorem OG.q {D L:Int} (hL:0 < L) (hD:L ∣ D):∀ {ps:List Int} {fs:List F},OG D ps fs→(∀ f ∈ fs,f.f1 ∣ L)→(fs.map (fq L)).map (fun x=>D * x)=ps.map (fun x=>L * x)∧∀ f ∈ fs,0 < f.f1∧f.f1 ∣ D∧0 < f.f0∧0 < fq L f∧fq L f≤D:=by
  intro ps
  induction ps with
  | nil=>
    intro fs h _;cases fs with
    |nil=>exact⟨rfl,fun f hf=>(by cases hf)⟩
    |cons g gs=>exact absurd h (by simp[OG])
  | cons x ps ih=>
    intro fs h hs;cases fs with
    |nil=>exact absurd h (by simp[OG])
    | cons g gs=>
      obtain⟨e1,e2⟩:=ih h.2 (fun f hf=>hs f (by simp[hf]));obtain⟨q1,q2,q3⟩:=bOR h.1 hL hD (hs g (by simp));refine⟨?_,?_⟩
      · simp only[List.map_cons]
        rw[e1];congr 1
      · intro f hf
        rcases List.mem_cons.1 hf with rfl|hf
        · exact⟨h.1.2.2.2.1,h.1.2.2.2.2.1,h.1.2.2.1,q2,q3⟩
        · exact e2 f hf
theorem OG.d {D:Int}:∀ {ps:List Int} {fs:List F},OG D ps fs→(∀ f ∈ fs,0 < f.f1∧f.f1 ∣ D)∧ps.length=fs.length:=by
  intro ps
  induction ps with
  | nil=>
    intro fs h;cases fs with
    |nil=>exact⟨fun f hf=>(by cases hf),rfl⟩
    |cons g gs=>exact absurd h (by simp[OG])
  | cons x ps ih=>
    intro fs h;cases fs with
    |nil=>exact absurd h (by simp[OG])
    | cons g gs=>
      obtain⟨e1,e2⟩:=ih h.2;refine⟨?_,by simp[e2]⟩;intro f hf;rcases List.mem_cons.1 hf with rfl|hf
      · exact⟨h.1.2.2.2.1,h.1.2.2.2.2.1⟩
      · exact e1 f hf
theorem bI2 (c x:Int):gd c x ∣ c∧gd c x ∣ x:=WQ c x
theorem bP4:∀ (l:List Int) (c:Int),gA l c ∣ c∧∀ x ∈ l,gA l c ∣ x:=by
  intro l
  induction l with
  |nil=>intro c;exact⟨Int.dvd_refl _,fun x hx=>by cases hx⟩
  | cons x l ih=>
    intro c;obtain⟨h1,h2⟩:=ih (gd c x);have g:=bI2 c x;refine⟨Int.dvd_trans h1 g.1,fun y hy=>?_⟩;rcases List.mem_cons.1 hy with rfl|hy
    · exact Int.dvd_trans h1 g.2
    · exact h2 y hy
theorem b0N (n:Nat):∀ (us hs:List R) (i:Nat) (B:List Bool) (X:List Int),us.length=hs.length→n=B.length→n=X.length→i + us.length=n→gI (n:Int) (i:Int) us hs B=true→okA us→
    (∀ j:Nat,i≤j→j < n→(j=0∨B.getD j false=true)→0 < X.getD j 0∧lG us ∣ X.getD j 0)→
    ∀ m:Nat,m < us.length→(aA us m).f0 + (aA us m).f1 ∣ (pf wM vT i us hs X).getD (i + m) 0∧0 < (pf wM vT i us hs X).getD (i + m) 0:=by
  intro us
  induction us with
  |nil=>intro hs i B X _ _ _ _ _ _ _ m hm;simp at hm
  | cons a us ih=>
    intro hs i B X hl hB hX hn hg hok hx m hm;cases hs with
    |nil=>simp at hl
    | cons x hs=>
      have law:=(aAU wM vT n (a::us) (x::hs) i B X [] hl hB hX hg).1 i (Or.inl (Nat.le_refl i));simp only[List.length_cons]at hn;have known:i=0∨B.getD i false=true:=by
        rcases Nat.eq_zero_or_pos i with h0|h0
        · exact Or.inl h0
        · exact Or.inr (aRP (n:Int) (a::us) (x::hs) i B hl hg i h0 (Nat.le_refl _) (by omega))
      simp only[gI,Bool.and_eq_true]at hg;obtain⟨_,s0,s1,g⟩:=hg;obtain⟨aa0,aa1⟩:=hok a (by simp);have hok2:okA us:=fun y hy=>hok y (by simp[hy])
      obtain⟨px,dx⟩:=hx i (Nat.le_refl _) (by omega) known;obtain⟨t,ht⟩:=dx;simp only[lG]at ht;have pr:=(a3V us hok2).1;cases m with
      | zero=>
        rw[nP,Nat.add_zero,law];exact⟨⟨lG us * t,by rw[ht,Int.mul_assoc]⟩,px⟩
      | succ m=>
        rw[mV,show i + (m + 1)=i + 1 + m from by omega];simp only[pf];have q:X.getD i 0 / (a.f0 + a.f1)=lG us * t:=by
          rw[ht,Int.mul_assoc];exact Int.mul_ediv_cancel_left _ (by omega)
        have qp:0 < lG us * t:=by
          rw[ht,Int.mul_assoc]at px;exact K4 (by omega) px
        have v0:0 < wM (X.getD i 0) a∧lG us ∣ wM (X.getD i 0) a:=by
          unfold wM;rw[q];exact⟨Int.mul_pos qp (by omega),⟨t * a.f1,by rw[Int.mul_assoc]⟩⟩
        have v1:0 < vT (X.getD i 0) a∧lG us ∣ vT (X.getD i 0) a:=by
          unfold vT;rw[q];exact⟨Int.mul_pos qp (by omega),⟨t * a.f0,by rw[Int.mul_assoc]⟩⟩
        have step:∀ (C:List Bool) (Y:List Int) (h v:Int),n=Y.length→l8 (i:Int) (n:Int) C h=true→(0 < v∧lG us ∣ v)→(∀ j:Nat,i + 1≤j→j < n→(j=0∨C.getD j false=true)→0 < Y.getD j 0∧lG us ∣ Y.getD j 0)→
            ∀ j:Nat,i + 1≤j→j < n→(j=0∨(mark C h).getD j false=true)→0 < (HZ Y h v).getD j 0∧lG us ∣ (HZ Y h v).getD j 0:=by
          intro C Y h v hY hs hv hc j h1 h2 h3;unfold HZ;by_cases h0:h < 0
          · rw[if_pos h0,BA]
            by_cases e:(-h).toNat=j∧j < Y.length
            · rw[if_pos e];exact hv
            · rw[if_neg e]
              refine hc j h1 h2 ?_;rcases h3 with h3|h3
              · exact Or.inl h3
              · unfold mark at h3
                rw[if_pos h0,BA,if_neg (by omega)]at h3;exact Or.inr h3
          · rw[if_neg h0]
            unfold mark at h3;rw[if_neg h0]at h3;exact hc j h1 h2 h3
        refine ih hs (i + 1) (mark (mark B x.f0) x.f1) _ (by simpa using hl) (by rw[kF,kF];exact hB) (by rw[OE,OE];exact hX) (by omega) g hok2 (step _ _ _ _ (by rw[OE];exact hX) s1 v1 (step _ _ _ _ hX s0 v0 (fun j h1 h2 h3=>?_))) m (by simpa using hm);have e:=hx j (by omega) h2 h3;exact⟨e.1,Int.dvd_trans ⟨a.f0 + a.f1,by simp only[lG];rw[Int.mul_comm]⟩ e.2⟩
structure aAV (A H:List R) (w:List Int):Prop where
  good:good A H=true
  ok:∀ x ∈ w,kR x=true
  parts:∃ (Z:List Int) (g:Int),Parts A H Z∧0 < g∧(∀ x ∈ fl wM vT Z 0 A H,g ∣ x.1)∧w=(fl wM vT Z 0 A H).map (fun x=>x.1 / g)
theorem bY5 {A H:List R} (h:good A H=true) (D0:0 < lG A) {P:List Int} {D:Int} (h0:P=(po wM vT 0 A H ((List.replicate A.length 0).set 0 (lG A)) []).map (fun x=>x.1)) (each:∀ x ∈ P,0 < x∧x≤D) (Pne:P ≠ []) (big:¬ yL (P.map (fun x=>x / gA P 0))=true):aAV A H (P.map (fun x=>x / gA P 0)):=by
  have ok:=qW h;have o1:=ok.len;have o2:=ok.same;have g:=h;simp only[good,Bool.and_eq_true,decide_eq_true_eq]at g;have law:=aAU wM vT A.length A H 0 _ ((List.replicate A.length 0).set 0 (lG A)) [] o2.symm (by simp) (by simp) g.2.2
  have pr:=b0N A.length A H 0 _ ((List.replicate A.length 0).set 0 (lG A)) o2.symm (by simp) (by simp) (by simp) g.2.2 (aNU ok) (fun j _ hj hb=>by
    rcases hb with rfl|hb
    · rw[BA,if_pos ⟨rfl,by simp;omega⟩]
      exact⟨D0,Int.dvd_refl _⟩
    · simp[List.getD_eq_getElem?_getD,List.getElem?_replicate,hj]at hb)
  generalize pf wM vT 0 A H ((List.replicate A.length 0).set 0 (lG A))=Z at law pr;obtain⟨_,l2,l3,l4⟩:=law;rw[List.nil_append]at l3;rw[l3]at h0;have gp:=aGK P (fun x hx=>(each x hx).1) Pne;have gd:=(bP4 P 0).2;have zz:∀ i:Nat,Z.getD i 0=rd Z (i:Int):=fun i=>by simp[rd]
  refine⟨h,?_,Z,gA P 0,⟨l4,fun i hi=>?_,fun i hi=>?_,fun i hi=>?_⟩,gp,fun x hx=>?_,?_⟩
  · intro x hx
    obtain⟨y,hy,rfl⟩:=List.mem_map.1 hx;have e:=each y hy;obtain⟨t,ht⟩:=gd y hy
    have b:¬ y / gA P 0 > 99:=fun hb=>big (by
      unfold yL
      rw[List.any_eq_true]
      exact⟨_,hx,by simpa using hb⟩)
    have q:y / gA P 0=t:=by
      rw[ht];exact Int.mul_ediv_cancel_left _ (by omega)
    have tp:0 < t:=by
      have e1:=e.1;rw[ht]at e1;exact K4 gp e1
    simp only[kR,decide_eq_true_eq];omega
  · have e:=l2 i hi
    rw[Nat.zero_add,zz]at e;exact e
  · have e:=(pr i hi).1
    rw[Nat.zero_add,zz]at e;exact e
  · have e:=(pr i hi).2
    rw[Nat.zero_add,zz]at e;exact e
  · exact gd x.1 (by rw[h0];exact List.mem_map.2 ⟨x,hx,rfl⟩)
  · rw[h0,List.map_map]
    rfl
theorem aS0 (A H:List R) (hb:A.length + H.length≤1048576) (hw:WfR H):∃ r:List Int × Bool,r.1.length≤100∧(r.2=true→aAV A H r.1)∧∀ k,6000000000≤k→bB.f k A H=some r∧qA.f k A H=some r:=by
  by_cases h:good A H=true
  · have ok:=qW h
    have o1:=ok.len;have o2:=ok.same;have hc:=aAS h;have hok:=aNU ok;obtain⟨D0,D1⟩:=a3V A hok;have D2:=bXZ A.length (by omega);have g:=h;simp only[good,Bool.and_eq_true,decide_eq_true_eq]at g;have sh:Sh A.length (lG A) (lG A) 0 (List.replicate A.length false) ((List.replicate A.length 0).set 0 (lG A)) ((List.replicate A.length z70).set 0 ⟨1,1⟩) [] []:=by
      refine⟨by simp,by simp,by simp,?_,trivial⟩;intro j _ hj hb;rcases hb with rfl|hb
      · rw[BA,BA,if_pos ⟨rfl,by simp;omega⟩,if_pos ⟨rfl,by simp;omega⟩]
        exact⟨⟨D0,Int.le_refl _,by show(0:Int) < 1;omega,by show(0:Int) < 1;omega,⟨lG A,by show lG A=1 * lG A;omega⟩,rfl⟩,Int.dvd_refl _⟩
      · simp[List.getD_eq_getElem?_getD,List.getElem?_replicate,hj]at hb
    obtain⟨P,Fs,h0,h1,h2,h3,h4⟩:=run ok (D:=lG A) ⟨D0,by omega⟩ A H [] [] 0 _ _ _ [] [] o2.symm rfl rfl rfl rfl hok g.2.2 sh (by simp) (by simp) [] rfl;obtain⟨fd,fl2⟩:=h1.d;simp only[List.length_nil,Nat.zero_add]at h2;have each:=h1.each;have Pne:P ≠ []:=fun e=>by rw[e]at h2;simp at h2;omega
    obtain⟨L,L0,LD,_,Lf2,Ls⟩:=c83 (D:=lG A) ⟨D0,by omega⟩ Fs [] 1 (by simp;omega) (by omega) ⟨lG A,by omega⟩ fd;obtain⟨eq,eb⟩:=h1.q L0 LD Lf2;have low:=lowest D0 L0 P (Fs.map (fq L)) eq;have LleD:=Int.le_of_dvd D0 LD;have Qne:Fs.map (fq L) ≠ []:=fun e=>by
      have:(Fs.map (fq L)).length=0:=by rw[e];rfl
      rw[List.length_map]at this;omega
    have Qpos:∀ x ∈ Fs.map (fq L),0 < x∧x≤191102976:=by
      intro x hx;obtain⟨f,hf,rfl⟩:=List.mem_map.1 hx;have:=eb f hf;omega
    have gQ:=aGK (Fs.map (fq L)) (fun x hx=>(Qpos x hx).1) Qne;refine⟨if yL (P.map (fun x=>x / gA P 0))=true then([],false)else(P.map (fun x=>x / gA P 0),true),by split <;> simp;omega,?_,fun k hk=>⟨?_,?_⟩⟩
    · intro hr
      by_cases big:yL (P.map (fun x=>x / gA P 0))=true
      · rw[if_pos big]at hr;cases hr
      · rw[if_neg big]
        exact bY5 h D0 h0 each Pne big
    · unfold bB.f bW.f
      rw[NI A H _ hw (by omega),Option.bind_some,if_pos h,if_pos (by omega),if_pos (by omega),Option.bind_some,if_pos (by simp;omega)];have e:=(h4 k (by omega)).1;rw[show((0:Int)).toNat=0 from rfl,Int.toNat_natCast];simp only[Int.natCast_zero]at e;rw[e,Option.bind_some];have e2:=Ls k (k - Fs.length - 1) (by omega) (by omega);simp only[List.nil_append,List.length_nil,Int.natCast_zero]at e2;rw[e2];have e3:=c84 (D:=lG A) (L:=L) ⟨D0,by omega⟩ Fs [] [] 0 (by simp;omega) rfl (by omega) (by omega) (fun f hf=>by have:=eb f hf;exact⟨this.1,Lf2 f hf,this.2.2.1,this.2.2.2.1,this.2.2.2.2⟩) L0 LleD (k - Fs.length - 1) (k - Fs.length - 1 - Fs.length - 1) (by omega) (by omega);simp only[List.nil_append,List.length_nil,Int.natCast_zero]at e3;rw[e3];have e4:=c86 (gA (Fs.map (fq L)) 0) (Fs.map (fq L)) [] (k - Fs.length - 1 - Fs.length - 1) (by simp;omega) (by simp;omega) Qpos (fun _=>gQ);simp only[List.nil_append,List.length_nil,Int.natCast_zero]at e4;rw[e4,low]
    · unfold qA.f aZ.f
      rw[yE A H _ (by omega),Option.bind_some,if_pos h,if_pos (by omega),if_pos (by omega),Option.bind_some,if_pos (by simp;omega)];rw[show((0:Int)).toNat=0 from rfl,Int.toNat_natCast];have e0:=bY4 A A H A.length A [] 1 ((List.replicate A.length (0:Int)).set 0 1) k (k - A.length - 1) rfl (by omega) hok (by simp) (by omega) (by omega) (by omega) (by rw[BA,if_pos ⟨rfl,by simp;omega⟩]) (by omega);rw[List.length_nil,Int.natCast_zero,List.set_set,Int.one_mul]at e0;rw[e0];have e:=(h4 (k - A.length - 1) (by omega)).2;simp only[Int.natCast_zero]at e;have ge:gA ([]:List Int) 0=0:=rfl;rw[ge]at e;rw[e,Option.bind_some];obtain⟨r,m1,m2⟩:=bP3 (P.map (fun x=>x / gA P 0)) k (by simp;omega) (by simp;omega) (by simpa using Pne);rw[m1,Option.bind_some];by_cases big:yL (P.map (fun x=>x / gA P 0))=true
      · rw[if_pos (m2.2 big),if_pos big]
      · rw[if_neg (fun hh=>big (m2.1 hh)),if_neg big]
  · refine⟨([],false),by simp,fun hr=>(by cases hr),fun k hk=>?_⟩
    simp(disch:=omega) only[bB.f,qA.f,NI A H _ hw,yE,h,Option.bind_some,if_false,and_self,Bool.false_eq_true]
theorem bY6 (x y:Int):wrap64 (x + 18446744073709551616 * y)=wrap64 x:=by
  unfold wrap64;omega
theorem bY7 (a:Int):∃ q,wrap64 a=a + 18446744073709551616 * q:=⟨-((a + 9223372036854775808) / 18446744073709551616),by unfold wrap64;omega⟩
theorem bI3 (a b:Int):wrap64 (wrap64 a + b)=wrap64 (a + b):=by
  obtain⟨q,h⟩:=bY7 a;rw[h,show a + 18446744073709551616 * q + b=(a + b) + 18446744073709551616 * q from by omega,bY6]
theorem aS1 (a b:Int):wrap64 (a + wrap64 b)=wrap64 (a + b):=by rw[Int.add_comm,bI3,Int.add_comm]
theorem rdL (p s:List iJ) (x:iJ):lS (p ++ x::s) ((p.length:Int))=x:=by
  simp[lS]
def sw (x:R):R:=⟨x.f1,x.f0⟩
theorem b89 {i n:Nat} {B:List Bool} {x y:Int} (hn:n=B.length) (h0:l8 (i:Int) (n:Int) B x=true) (h1:l8 (i:Int) (n:Int) (mark B x) y=true):l8 (i:Int) (n:Int) B y=true∧l8 (i:Int) (n:Int) (mark B y) x=true∧mark (mark B x) y=mark (mark B y) x:=by
  have mk:∀ (C:List Bool) (a:Int),mark C a=if a < 0 then C.set (-a).toNat true else C:=fun _ _=>rfl
  by_cases hx:x < 0
  · by_cases hy:y < 0
    · obtain⟨a1,a2,a3⟩:=K3 h0 hx
      obtain⟨b1,b2,b3⟩:=K3 h1 hy;rw[mk,if_pos hx,BA]at b3;have ne:(-x).toNat ≠ (-y).toNat:=by
        intro e;rw[if_pos ⟨e,by omega⟩]at b3;cases b3
      rw[if_neg (by omega)]at b3;refine⟨?_,?_,?_⟩
      · simp only[l8,Bool.or_eq_true,Bool.and_eq_true,decide_eq_true_eq,Bool.not_eq_true']
        exact Or.inr ⟨⟨b1,b2⟩,b3⟩
      · simp only[l8,Bool.or_eq_true,Bool.and_eq_true,decide_eq_true_eq,Bool.not_eq_true']
        refine Or.inr ⟨⟨a1,a2⟩,?_⟩;show(mark B y).getD (-x).toNat false=false
        rw[mk,if_pos hy,BA,if_neg (by omega)];exact a3
      · rw[mk,mk,mk B y,mk,if_pos hx,if_pos hy,if_pos hy,if_pos hx,List.set_comm _ _ ne]
    · have m1:mark (mark B x) y=mark B x:=by rw[mk _ y,if_neg hy]
      have m2:mark B y=B:=by rw[mk _ y,if_neg hy]
      rw[m1,m2];refine⟨?_,h0,rfl⟩;simp only[l8,kR,Bool.or_eq_true,Bool.and_eq_true,decide_eq_true_eq]at h1 ⊢;rcases h1 with h1|h1
      · exact Or.inl h1
      · omega
  · have m1:mark B x=B:=by rw[mk,if_neg hx]
    rw[m1]at h1;have m2:mark (mark B y) x=mark B y:=by rw[mk _ x,if_neg hx]
    rw[m1,m2];refine⟨h1,?_,rfl⟩;simp only[l8,kR,Bool.or_eq_true,Bool.and_eq_true,decide_eq_true_eq]at h0 ⊢;rcases h0 with h0|h0
    · exact Or.inl h0
    · omega
theorem bY8 (n:Nat):∀ (us hs:List R) (i:Nat) (B:List Bool),n=B.length→gI (n:Int) (i:Int) us hs B=true→gI (n:Int) (i:Int) (us.map sw) (hs.map sw) B=true:=by
  intro us
  induction us with
  |nil=>intro hs i B hn h;unfold gI at h ⊢;simpa using h
  | cons a us ih=>
    intro hs i B hn h;cases hs with
    |nil=>unfold gI at h ⊢;simpa using h
    | cons x hs=>
      simp only[gI,Bool.and_eq_true]at h;obtain⟨⟨a0,a1⟩,s0,s1,g⟩:=h;obtain⟨c0,c1,c2⟩:=b89 hn s0 s1;simp only[List.map_cons,gI,Bool.and_eq_true,sw];rw[c2]at g;exact⟨⟨a1,a0⟩,c0,c1,ih hs (i + 1) _ (by rw[kF,kF];exact hn) g⟩
theorem aS2 {A H:List R} (h:good A H=true):good (A.map sw) (H.map sw)=true:=by
  simp only[good,Bool.and_eq_true,decide_eq_true_eq,List.length_map]at h ⊢;exact⟨h.1,h.2.1,bY8 A.length A H 0 _ (by simp) h.2.2⟩
theorem bY9 (l:List R) (j:Nat) (h:j < l.length):aA (l.map sw) (j:Int)=sw (aA l (j:Int)):=by
  simp[aA,List.getD_eq_getElem?_getD,List.getElem?_eq_getElem h]
theorem bP6 {A H:List R} (ok:OJ A H) {W:List Int} (h:KH A H W):KH (A.map sw) (H.map sw) W:=by
  intro i hi;rw[List.length_map]at hi;have o:=ok.same;rw[bY9 H i (by omega),h i hi,Int.add_comm];rfl
theorem bYA (W:List Int):∀ us hs:List R,tn W (us.map sw) (hs.map sw)=(tn W us hs).map (fun x=>-x):=by
  intro us
  induction us with
  |nil=>intro hs;simp[tn]
  | cons a us ih=>
    intro hs;cases hs with
    |nil=>simp[tn]
    | cons x hs=>
      simp only[List.map_cons,tn,ih,sw];rw[show -(a.f1 * mW W x.f1 - a.f0 * mW W x.f0)=a.f0 * mW W x.f0 - a.f1 * mW W x.f1 from by omega]
theorem aY1 {A H:List R} (h:good A H=true) {W V:List Int} (hW:WOk A.length W) (hq:KH A H W) (hV:WOk (A.map sw).length V) (hv:KH (A.map sw) (H.map sw) V):tn V (A.map sw) (H.map sw)=(tn W A H).map (fun x=>-x):=by
  have e:V=W:=b86 (qW (aS2 h)) hv (bP6 (qW h) hq) hV.len (by rw[List.length_map];exact hW.len);rw[e,bYA]
theorem a7F (a:Int):mJ.f a=some (decide (0≤a∧a≤60)):=by simp only[mJ.f,ZF,Option.bind_some]
theorem UC (a:Int):lK.f a=some (decide (0≤a∧a≤60)):=by simp only[lK.f,SE,Option.bind_some]
abbrev LL:=iJ
def pick (F:List LL) (b:Bool):List LL × Bool:=match b with
  |true=>(F,true)
  |false=>([],false)
def EQ (x:LL):Bool:=decide (0≤x.f0∧x.f0≤60)
def NK (x:LL):Bool:=EQ x && kR x.f1
theorem b0O (a b:Int):zY.f a b=some (!(NK ⟨a,b⟩)):=by
  unfold zY.f NK EQ;rw[UC,Option.bind_some,F6,Option.bind_some];by_cases h1:0≤a∧a≤60 <;> simp[h1]
theorem bP7:∀ (s p:List LL) (k:Nat),(p ++ s).length < 1000→s.length < k→∃ r,lH.l0 k (p ++ s) ((p ++ s).length:Int) (p.length:Int)=some r∧decide (r ≥ 0)= !(s.all NK):=by
  intro s
  induction s with
  | nil=>
    intro p k hl hk;obtain⟨k,rfl⟩:∃ m,k=m + 1:=⟨k - 1,by omega⟩
    simp only[lH.l0];rw[if_neg (by simp)];exact⟨-1,rfl,by simp⟩
  | cons x s ih=>
    intro p k hl hk;simp only[List.length_cons]at hk;obtain⟨k,rfl⟩:∃ m,k=m + 1:=⟨k - 1,by omega⟩
    simp only[lH.l0];rw[if_pos (by simp;omega),if_pos (by omega),if_pos (by simp;omega),rdL,b0O,Option.bind_some];by_cases hx:NK x=true
    · have hx2:NK ⟨x.f0,x.f1⟩=true:=hx
      rw[hx2,if_neg (by decide),uR p x (by simp at hl;omega),List.append_cons p x s];obtain⟨r,h1,h2⟩:=ih (p ++ [x]) k (by simpa using hl) (by omega);exact⟨r,h1,by rw[h2];simp[hx]⟩
    · rw[Bool.not_eq_true]at hx
      have hx2:NK ⟨x.f0,x.f1⟩=false:=hx;rw[hx2,if_pos (by decide)];exact⟨_,rfl,by simp[hx]⟩
theorem aAW (l:List LL) (k:Nat) (hl:l.length≤12) (hk:20≤k):oV.f k l=some (l.all NK):=by
  unfold oV.f;rw[if_neg (by omega)];unfold C8.f lH.f;obtain⟨r,h1,h2⟩:=bP7 l [] k (by simp only[List.nil_append];omega) (by omega);have h3:lH.l0 k l (l.length:Int) 0=some r:=h1;rw[h3,Option.bind_some,h2,Option.bind_some,Bool.not_not]
theorem aOC (l:List LL) (k:Nat) (hl:l.length≤12) (hk:20≤k):xK.f k l=some (pick l (l.all NK)):=by
  unfold xK.f;rw[aAW l k hl hk,Option.bind_some];cases l.all NK <;> rfl
def uH (P:List Int) (h v:Int):List Int:=if h < 0 then P.set (-h).toNat v else P
def rA (O:List LL) (h v:Int):List LL:=if h < 0 then O else O ++ [⟨v,h⟩]
def fin:Int→List R→List R→List Int→List LL→List LL
  | i,a::us,h::hs,P,O=>
    let v0:=wrap64 (rd P i - a.f0)
    let P1:=uH P h.f0 v0
    let v1:=wrap64 (rd P1 i + a.f1)
    fin (i + 1) us hs (uH P1 h.f1 v1) (rA (rA O h.f0 v0) h.f1 v1)
  |_,_,_,_,O=>O
theorem GI (P:List Int) (h v:Int):(uH P h v).length=P.length:=by unfold uH;split <;> simp
theorem GJ (O:List LL) (h v:Int):(rA O h v).length≤O.length + 1:=by unfold rA;split <;> simp
theorem aS3 {O:List LL} {i n h v:Int} (he:l7 i n h=true) (hi:0≤i) (hO:∀ x ∈ O,kR x.f1=true):∀ x ∈ rA O h v,kR x.f1=true:=by
  unfold rA;by_cases h0:h < 0
  · rw[if_pos h0];exact hO
  · rw[if_neg h0]
    intro x hx;rcases List.mem_append.1 hx with e|e
    · exact hO x e
    · have:x=⟨v,h⟩:=by simpa using e
      subst this;simp only[l7,Bool.or_eq_true,decide_eq_true_eq]at he;rcases he with he|he
      · exact he
      · omega
theorem aAX {O:List LL} (h v:Int) (hO:O.all EQ=false):(rA O h v).all EQ=false:=by
  unfold rA
  split
  · exact hO
  · simp only[List.all_append,hO,Bool.false_and]
theorem aS4:∀ (us hs:List R) (i:Int) (P:List Int) (O:List LL),O.all EQ=false→(fin i us hs P O).all EQ=false:=by
  intro us
  induction us with
  |nil=>intro hs i P O h;simpa only[fin] using h
  | cons a us ih=>
    intro hs i P O h;cases hs with
    |nil=>simpa only[fin] using h
    |cons x hs=>simp only[fin];exact ih _ _ _ _ (aAX _ _ (aAX _ _ h))
theorem bP8 (n:Int):∀ (us hs:List R) (i:Int) (P:List Int) (O:List LL),0≤i→us.length=hs.length→(∀ j:Nat,j < us.length→l7 (i + j) n (aA hs j).f0=true∧l7 (i + j) n (aA hs j).f1=true)→(∀ x ∈ O,kR x.f1=true)→
    (∀ x ∈ fin i us hs P O,kR x.f1=true)∧(fin i us hs P O).length≤O.length + 2 * us.length:=by
  intro us
  induction us with
  |nil=>intro hs i P O hi hl he hO;simp only[fin];exact⟨hO,by simp⟩
  | cons a us ih=>
    intro hs i P O hi hl he hO;cases hs with
    |nil=>simp at hl
    | cons h hs=>
      have e0:=he 0 (by simp);rw[nP]at e0;simp only[fin]
      have g:=ih hs (i + 1) (uH (uH P h.f0 (wrap64 (rd P i - a.f0))) h.f1 (wrap64 (rd (uH P h.f0 (wrap64 (rd P i - a.f0))) i + a.f1))) (rA (rA O h.f0 (wrap64 (rd P i - a.f0))) h.f1 (wrap64 (rd (uH P h.f0 (wrap64 (rd P i - a.f0))) i + a.f1))) (by omega) (by simpa using hl) (fun j hj=>by
        have e:=he (j + 1) (by simpa using hj)
        rw[mV]at e
        rw[show i + 1 + (j:Int)=i + ((j + 1:Nat):Int)from by omega]
        exact e) (aS3 e0.2 (by omega) (aS3 e0.1 (by omega) hO))
      refine⟨g.1,?_⟩;have l1:=GJ O h.f0 (wrap64 (rd P i - a.f0));have l2:=GJ (rA O h.f0 (wrap64 (rd P i - a.f0))) h.f1 (wrap64 (rd (uH P h.f0 (wrap64 (rd P i - a.f0))) i + a.f1));simp only[List.length_cons];omega
theorem bF2 (x a:Int):wrap64 (x + wrap64 (wrap64 (wrap64 (2 * 0) - 1) * a))=wrap64 (x - a):=by
  rw[show wrap64 (2 * 0)=0 from by simp[wrap64],show wrap64 ((0:Int) - 1)= -1 from by simp[wrap64],aS1,Int.neg_mul,Int.one_mul,Int.sub_eq_add_neg]
theorem bF3 (x a:Int):wrap64 (x + wrap64 (wrap64 (wrap64 (2 * 1) - 1) * a))=wrap64 (x + a):=by
  rw[show wrap64 (2 * 1)=2 from by simp[wrap64],show wrap64 ((2:Int) - 1)=1 from by simp[wrap64],aS1,Int.one_mul]
theorem bI4 (n i:Int) (P:List Int) (O:List LL) (A H:List R) (a h:R) (k:Nat) (hA:aA A i=a) (hH:aA H i=h) (c0:0≤i) (c1:i < A.length) (c2:i < H.length) (hn:n≤100) (hP:(P.length:Int)=n) (c3:i < n) (hO:O.length < 1000) (he:l7 i n h.f0=true):
    dN.l1 (k + 1) O P i 0 A H=if (h.f0 < 0∨EQ ⟨wrap64 (rd P i - a.f0),h.f0⟩=true)then dN.l1 k (rA O h.f0 (wrap64 (rd P i - a.f0))) (uH P h.f0 (wrap64 (rd P i - a.f0))) i 1 A H else some ([],false):=by
  have w1:wrap64 (0 + 1)=1:=cZ (by omega) (by omega);have c4:i < (P.length:Int):=by omega
  by_cases h3:h.f0 < 0
  · have ch:=child he h3
    have w:=cZ (x:=-h.f0) (by omega) (by omega);have r0:0≤ -h.f0:=by omega
    have r1: -h.f0 < (P.length:Int):=by omega
    simp only[dN.l1,c0,c1,c2,c4,hA,hH,h3,w,r0,r1,w1,bF2,rA,uH,if_true,true_or,Int.reduceLT]
  · have o1:O.length < 8796093022208:=by omega
    simp only[dN.l1,c0,c1,c2,c4,hA,hH,h3,w1,bF2,a7F,Option.bind_some,rA,uH,if_true,if_false,false_or,Int.reduceLT,EQ,o1]
theorem bI5 (n i:Int) (P:List Int) (O:List LL) (A H:List R) (a h:R) (k:Nat) (hA:aA A i=a) (hH:aA H i=h) (c0:0≤i) (c1:i < A.length) (c2:i < H.length) (hn:n≤100) (hP:(P.length:Int)=n) (c3:i < n) (hO:O.length < 1000) (he:l7 i n h.f1=true):
    dN.l1 (k + 1) O P i 1 A H=if (h.f1 < 0∨EQ ⟨wrap64 (rd P i + a.f1),h.f1⟩=true)then dN.l1 k (rA O h.f1 (wrap64 (rd P i + a.f1))) (uH P h.f1 (wrap64 (rd P i + a.f1))) i 2 A H else some ([],false):=by
  have w1:wrap64 (1 + 1)=2:=cZ (by omega) (by omega);have q:¬ ((1:Int)=0):=by omega
  have c4:i < (P.length:Int):=by omega
  by_cases h3:h.f1 < 0
  · have ch:=child he h3
    have w:=cZ (x:=-h.f1) (by omega) (by omega);have r0:0≤ -h.f1:=by omega
    have r1: -h.f1 < (P.length:Int):=by omega
    simp only[dN.l1,c0,c1,c2,c4,hA,hH,h3,w,r0,r1,w1,bF3,q,rA,uH,if_true,if_false,true_or,Int.reduceLT]
  · have o1:O.length < 8796093022208:=by omega
    simp only[dN.l1,c0,c1,c2,c4,hA,hH,h3,w1,bF3,q,a7F,Option.bind_some,rA,uH,if_true,if_false,false_or,Int.reduceLT,EQ,o1]
theorem aS5 {O:List LL} {h v:Int} (hO:O.all EQ=true) (hc:h < 0∨EQ ⟨v,h⟩=true):(rA O h v).all EQ=true:=by
  unfold rA;by_cases h0:h < 0
  · rw[if_pos h0];exact hO
  · rw[if_neg h0]
    rcases hc with hc|hc
    · omega
    · simp only[List.all_append,hO,Bool.true_and,List.all_cons,List.all_nil,Bool.and_true,hc]
theorem aS6 {O:List LL} {h v:Int} (hc:¬ (h < 0∨EQ ⟨v,h⟩=true)):(rA O h v).all EQ=false:=by
  have h0:¬ h < 0:=fun z=>hc (.inl z)
  have h1:EQ ⟨v,h⟩=false:=by
    rw[← Bool.not_eq_true];exact fun z=>hc (.inr z)
  unfold rA;rw[if_neg h0];simp only[List.all_append,List.all_cons,List.all_nil,Bool.and_true,h1,Bool.and_false]
theorem bYB (n:Int):∀ (us hs p q:List R) (P:List Int) (O:List LL) (k:Nat),p.length=q.length→us.length=hs.length→((p ++ us).length:Int)=n→n≤6→(P.length:Int)=n→(∀ j:Nat,j < us.length→l7 ((p.length:Int) + j) n (aA hs j).f0=true∧l7 ((p.length:Int) + j) n (aA hs j).f1=true)→O.all EQ=true→O.length + 2 * us.length < 1000→4 * us.length + 4≤k→
    dN.l0 k O P (p.length:Int) (p ++ us) (q ++ hs)=some (pick (fin (p.length:Int) us hs P O) ((fin (p.length:Int) us hs P O).all EQ)):=by
  intro us
  induction us with
  | nil=>
    intro hs p q P O k hpq hl hn h6 hP he hO hOl hk;obtain⟨k,rfl⟩:∃ m,k=m + 1:=⟨k - 1,by omega⟩
    simp only[dN.l0,fin];rw[if_neg (by simp),hO];rfl
  | cons a us ih=>
    intro hs p q P O k hpq hl hn h6 hP he hO hOl hk;cases hs with
    |nil=>simp at hl
    | cons h hs=>
      simp only[List.length_cons]at hk hOl;obtain⟨k,rfl⟩:∃ m,k=m + 4:=⟨k - 4,by omega⟩
      have hA:=GG p us a;have hH:aA (q ++ h::hs) (p.length:Int)=h:=by rw[hpq];exact GG q hs h
      have e0:=he 0 (by simp);rw[nP,Int.natCast_zero,Int.add_zero]at e0;simp only[List.length_append,List.length_cons,Int.natCast_add,Int.natCast_one]at hn;simp only[List.length_cons]at hl;have d1:(p.length:Int) < ((p ++ a::us).length:Int):=by simp;omega
      have d2:(p.length:Int) < ((q ++ h::hs).length:Int):=by simp;omega
      rw[show dN.l0 (k + 4) O P (p.length:Int) (p ++ a::us) (q ++ h::hs)=dN.l1 (k + 3) O P (p.length:Int) 0 (p ++ a::us) (q ++ h::hs)from by simp only[dN.l0,d1,if_true]];rw[bI4 n _ P O _ _ a h (k + 2) hA hH (by omega) d1 d2 (by omega) hP (by omega) (by omega) e0.1];simp only[fin];generalize hv0:wrap64 (rd P (p.length:Int) - a.f0)=v0;have lo:=GJ O h.f0 v0;by_cases g0:h.f0 < 0∨EQ ⟨v0,h.f0⟩=true
      · rw[if_pos g0]
        have a0:=aS5 hO g0;rw[bI5 n _ (uH P h.f0 v0) _ _ _ a h (k + 1) hA hH (by omega) d1 d2 (by omega) (by rw[GI];exact hP) (by omega) (by omega) e0.2];generalize hv1:wrap64 (rd (uH P h.f0 v0) (p.length:Int) + a.f1)=v1;have lo1:=GJ (rA O h.f0 v0) h.f1 v1;by_cases g1:h.f1 < 0∨EQ ⟨v1,h.f1⟩=true
        · rw[if_pos g1]
          rw[show dN.l1 (k + 1) (rA (rA O h.f0 v0) h.f1 v1) (uH (uH P h.f0 v0) h.f1 v1) (p.length:Int) 2 (p ++ a::us) (q ++ h::hs)=dN.l0 k (rA (rA O h.f0 v0) h.f1 v1) (uH (uH P h.f0 v0) h.f1 v1) (wrap64 ((p.length:Int) + 1)) (p ++ a::us) (q ++ h::hs)from by simp only[dN.l1,Int.reduceLT,if_false]];rw[uR p a (by omega),List.append_cons p a us,List.append_cons q h hs]
          rw[ih hs (p ++ [a]) (q ++ [h]) _ _ k (by simp[hpq]) (by omega) (by simp;omega) h6 (by rw[GI,GI];exact hP) (fun j hj=>by
            have e:=he (j + 1) (by simpa using hj)
            rw[mV]at e
            rw[show(((p ++ [a]).length:Nat):Int) + (j:Int)=(p.length:Int) + ((j + 1:Nat):Int)from by simp;omega]
            exact e) (aS5 a0 g1) (by omega) (by omega)]
          simp only[List.length_append,List.length_cons,List.length_nil,Nat.zero_add,Int.natCast_add,Int.natCast_one]
        · rw[if_neg g1,aS4 us hs _ _ _ (aS6 g1)]
          rfl
      · rw[if_neg g0,aS4 us hs _ _ _ (aAX _ _ (aS6 g0))]
        rfl
theorem bI6 (n i len b0 b1:Int) (P:List Int) (O:List LL) (A L H:List R) (u v:Int) (k:Nat) (c0:0≤i) (hn:n≤100) (hP:(P.length:Int)=n) (c3:i < n) (hO:O.length < 1000) (he:l7 i n u=true):
    dI.l1 (k + 1) P O i A len i 0 L H b0 b1 u v=dI.l1 k (uH P u (wrap64 (rd P i - b0))) (rA O u (wrap64 (rd P i - b0))) i A len i 1 L H b0 b1 u v:=by
  have w1:wrap64 (0 + 1)=1:=cZ (by omega) (by omega);have c4:i < (P.length:Int):=by omega
  by_cases h3:u < 0
  · have ch:=child he h3
    have w:=cZ (x:=-u) (by omega) (by omega);have r0:0≤ -u:=by omega
    have r1: -u < (P.length:Int):=by omega
    simp only[dI.l1,c0,c4,h3,w,r0,r1,w1,rA,uH,if_true,Int.reduceLT]
  · have o1:O.length < 8796093022208:=by omega
    simp only[dI.l1,c0,c4,h3,w1,rA,uH,if_true,if_false,Int.reduceLT,o1]
theorem bI7 (n i len b0 b1:Int) (P:List Int) (O:List LL) (A L H:List R) (u v:Int) (k:Nat) (c0:0≤i) (hn:n≤100) (hP:(P.length:Int)=n) (c3:i < n) (hO:O.length < 1000) (he:l7 i n v=true):
    dI.l1 (k + 1) P O i A len i 1 L H b0 b1 u v=dI.l1 k (uH P v (wrap64 (rd P i + b1))) (rA O v (wrap64 (rd P i + b1))) i A len i 2 L H b0 b1 u v:=by
  have w1:wrap64 (1 + 1)=2:=cZ (by omega) (by omega);have q:¬ ((1:Int)=0):=by omega
  have c4:i < (P.length:Int):=by omega
  by_cases h3:v < 0
  · have ch:=child he h3
    have w:=cZ (x:=-v) (by omega) (by omega);have r0:0≤ -v:=by omega
    have r1: -v < (P.length:Int):=by omega
    simp only[dI.l1,c0,c4,h3,w,r0,r1,w1,q,rA,uH,if_true,if_false,Int.reduceLT]
  · have o1:O.length < 8796093022208:=by omega
    simp only[dI.l1,c0,c4,h3,w1,q,rA,uH,if_true,if_false,Int.reduceLT,o1]
theorem bYC (n:Int):∀ (us hs p q:List R) (P:List Int) (O:List LL) (k:Nat),p.length=q.length→us.length=hs.length→((p ++ us).length:Int)=n→n≤6→(P.length:Int)=n→(∀ j:Nat,j < us.length→l7 ((p.length:Int) + j) n (aA hs j).f0=true∧l7 ((p.length:Int) + j) n (aA hs j).f1=true)→O.length + 2 * us.length≤12→4 * us.length + 30≤k→
    dI.l0 k P O (p ++ us) n (p.length:Int) (p ++ us) (q ++ hs)=some (pick (fin (p.length:Int) us hs P O) ((fin (p.length:Int) us hs P O).all NK)):=by
  intro us
  induction us with
  | nil=>
    intro hs p q P O k hpq hl hn h6 hP he hOl hk;obtain⟨k,rfl⟩:∃ m,k=m + 1:=⟨k - 1,by omega⟩
    simp only[List.length_nil]at hOl;simp only[dI.l0,fin];rw[if_neg (by simp at hn;omega),aOC O k (by omega) (by omega),Option.bind_some]
  | cons a us ih=>
    intro hs p q P O k hpq hl hn h6 hP he hOl hk;cases hs with
    |nil=>simp at hl
    | cons h hs=>
      simp only[List.length_cons]at hk hOl;obtain⟨k,rfl⟩:∃ m,k=m + 4:=⟨k - 4,by omega⟩
      have hA:=GG p us a;have hH:aA (q ++ h::hs) (p.length:Int)=h:=by rw[hpq];exact GG q hs h
      have e0:=he 0 (by simp);rw[nP,Int.natCast_zero,Int.add_zero]at e0;simp only[List.length_append,List.length_cons,Int.natCast_add,Int.natCast_one]at hn;simp only[List.length_cons]at hl;have d0:0≤(p.length:Int):=by omega
      have d1:(p.length:Int) < ((p ++ a::us).length:Int):=by simp;omega
      have d2:(p.length:Int) < ((q ++ h::hs).length:Int):=by simp;omega
      have d3:(p.length:Int) < n:=by omega
      rw[show dI.l0 (k + 4) P O (p ++ a::us) n (p.length:Int) (p ++ a::us) (q ++ h::hs)=dI.l1 (k + 3) P O (p.length:Int) (p ++ a::us) n (p.length:Int) 0 (p ++ a::us) (q ++ h::hs) a.f0 a.f1 h.f0 h.f1 from by simp only[dI.l0,d0,d1,d2,d3,hA,hH,if_true]];rw[bI6 n _ n _ _ P O _ _ _ _ _ (k + 2) d0 (by omega) hP d3 (by omega) e0.1];simp only[fin];generalize hv0:wrap64 (rd P (p.length:Int) - a.f0)=v0;have lo:=GJ O h.f0 v0;rw[bI7 n _ n _ _ (uH P h.f0 v0) _ _ _ _ _ _ (k + 1) d0 (by omega) (by rw[GI];exact hP) d3 (by omega) e0.2];generalize hv1:wrap64 (rd (uH P h.f0 v0) (p.length:Int) + a.f1)=v1;have lo1:=GJ (rA O h.f0 v0) h.f1 v1;rw[show dI.l1 (k + 1) (uH (uH P h.f0 v0) h.f1 v1) (rA (rA O h.f0 v0) h.f1 v1) (p.length:Int) (p ++ a::us) n (p.length:Int) 2 (p ++ a::us) (q ++ h::hs) a.f0 a.f1 h.f0 h.f1=dI.l0 k (uH (uH P h.f0 v0) h.f1 v1) (rA (rA O h.f0 v0) h.f1 v1) (p ++ a::us) n (wrap64 ((p.length:Int) + 1)) (p ++ a::us) (q ++ h::hs)from by simp only[dI.l1,Int.reduceLT,if_false]];rw[uR p a (by omega),List.append_cons p a us,List.append_cons q h hs]
      rw[ih hs (p ++ [a]) (q ++ [h]) _ _ k (by simp[hpq]) (by omega) (by simp;omega) h6 (by rw[GI,GI];exact hP) (fun j hj=>by
        have e:=he (j + 1) (by simpa using hj)
        rw[mV]at e
        rw[show(((p ++ [a]).length:Nat):Int) + (j:Int)=(p.length:Int) + ((j + 1:Nat):Int)from by simp;omega]
        exact e) (by omega) (by omega)]
      simp only[List.length_append,List.length_cons,List.length_nil,Nat.zero_add,Int.natCast_add,Int.natCast_one]
def r0 (x:Int) (a:R):Int:=x - a.f0
def r1 (x:Int) (a:R):Int:=x + a.f1
def mk2 (x:Int × Int):LL:=⟨x.1,x.2⟩
theorem aS7 (O:List (Int × Int)) (h v:Int):rA (O.map mk2) h v=(puo O h v).map mk2:=by
  unfold rA puo
  split <;> simp[mk2]
theorem aHI {X:List Int} {h v b:Int} (hX:∀ j:Nat,-b≤X.getD j 0∧X.getD j 0≤b) (hv: -b≤v∧v≤b):∀ j:Nat,-b≤(HZ X h v).getD j 0∧(HZ X h v).getD j 0≤b:=by
  intro j;unfold HZ
  split
  · rw[BA]
    split
    · exact hv
    · exact hX j
  · exact hX j
theorem bP9 (n:Nat):∀ (us hs:List R) (i:Nat) (B:List Bool) (X:List Int) (O:List (Int × Int)) (b:Int),gI (n:Int) (i:Int) us hs B=true→okA us→(∀ j:Nat,-b≤X.getD j 0∧X.getD j 0≤b)→b + 12 * us.length≤100000→
    fin (i:Int) us hs X (O.map mk2)=(po r0 r1 i us hs X O).map mk2:=by
  intro us
  induction us with
  |nil=>intro hs i B X O b hg hok hX hb;simp[fin,po]
  | cons a us ih=>
    intro hs i B X O b hg hok hX hb;cases hs with
    |nil=>simp[fin,po]
    | cons x hs=>
      simp only[gI,Bool.and_eq_true]at hg;obtain⟨_,s0,s1,g⟩:=hg;obtain⟨a0,a1⟩:=hok a (by simp);have hok2:okA us:=fun y hy=>hok y (by simp[hy])
      simp only[List.length_cons]at hb;have xi:=hX i;have e0:rd X (i:Int)=X.getD i 0:=by simp[rd]
      have w0:wrap64 (rd X (i:Int) - a.f0)=r0 (X.getD i 0) a:=by
        rw[e0];exact cZ (by omega) (by omega)
      have e1:rd (uH X x.f0 (r0 (X.getD i 0) a)) (i:Int)=X.getD i 0:=by
        have:=aDY (X:=X) (v:=r0 (X.getD i 0) a) s0 i (Or.inl (Nat.le_refl i));show(HZ X x.f0 (r0 (X.getD i 0) a)).getD (i:Int).toNat 0=X.getD i 0
        rw[Int.toNat_natCast];exact this
      have w1:wrap64 (rd (uH X x.f0 (r0 (X.getD i 0) a)) (i:Int) + a.f1)=r1 (X.getD i 0) a:=by
        rw[e1];exact cZ (by omega) (by omega)
      simp only[fin,po];rw[w0,w1,aS7,aS7,show(i:Int) + 1=((i + 1:Nat):Int)from by omega];have wide:∀ j:Nat,-(b + 12)≤X.getD j 0∧X.getD j 0≤b + 12:=fun j=>by have:=hX j;omega
      exact ih hs (i + 1) _ (HZ (HZ X x.f0 (r0 (X.getD i 0) a)) x.f1 (r1 (X.getD i 0) a)) _ (b + 12) g hok2 (aHI (aHI wide (by unfold r0;omega)) (by unfold r1;omega)) (by omega)
structure aY2 (A H:List R) (z:Int) (O:List LL):Prop where
  good:good A H=true
  place:0≤z∧z≤60
  all:O.all NK=true
  len:O.length≤12
  parts:∃ Z:List Int,rd Z 0=z∧O=(fl r0 r1 Z 0 A H).map mk2∧∀ i:Nat,i < A.length→((aA H i).f0 < 0→rd Z (-(aA H i).f0)=r0 (rd Z i) (aA A i))∧((aA H i).f1 < 0→rd Z (-(aA H i).f1)=r1 (rd Z i) (aA A i))
theorem bYD {A H:List R} (h:good A H=true) {z:Int} (hz:0≤z∧z≤60) {F:List LL} (hF:fin 0 A H ((List.replicate A.length (0:Int)).set (0:Int).toNat z) []=F) (ho:F.all NK=true) (hl:F.length≤12):aY2 A H z (fin 0 A H ((List.replicate A.length (0:Int)).set (0:Int).toNat z) []):=by
  have ok:=qW h;have o1:=ok.len;have o2:=ok.same;have g:=h;simp only[good,Bool.and_eq_true,decide_eq_true_eq]at g;have hX:∀ j:Nat,-60≤((List.replicate A.length (0:Int)).set (0:Int).toNat z).getD j 0∧((List.replicate A.length (0:Int)).set (0:Int).toNat z).getD j 0≤60:=by
    intro j;rw[BA]
    split
    · omega
    · rw[List.getD_eq_getElem?_getD,List.getElem?_replicate]
      split <;> simp
  have e:=bP9 A.length A H 0 _ ((List.replicate A.length (0:Int)).set (0:Int).toNat z) [] 60 g.2.2 (aNU ok) hX (by omega);have law:=aAU r0 r1 A.length A H 0 _ ((List.replicate A.length (0:Int)).set (0:Int).toNat z) [] o2.symm (by simp) (by simp) g.2.2;have x0:((List.replicate A.length (0:Int)).set (0:Int).toNat z).getD 0 0=z:=by
    rw[BA,if_pos ⟨rfl,by simp;omega⟩]
  rw[← hF]at ho hl;simp only[List.map_nil,Int.natCast_zero]at e;generalize (List.replicate A.length (0:Int)).set (0:Int).toNat z=X at *;obtain⟨l1,l2,l3,l4⟩:=law;rw[List.nil_append]at l3;rw[l3]at e;have zz:∀ i:Nat,(pf r0 r1 0 A H X).getD i 0=rd (pf r0 r1 0 A H X) (i:Int):=fun i=>by simp[rd]
  refine⟨h,hz,ho,hl,pf r0 r1 0 A H X,?_,e,fun i hi=>?_⟩
  · have:=l1 0 (Or.inl (Nat.le_refl 0))
    rw[x0,zz]at this;exact this
  · have:=l2 i hi
    rw[Nat.zero_add,zz]at this;exact this
theorem bI8 (A H:List R) (z:Int) (hb:A.length + H.length≤1048576) (hw:WfR H):∃ r:List LL × Bool,r.1.length≤100∧(r.2=true→aY2 A H z r.1)∧∀ k,1000 + 3 * A.length + 3 * H.length≤k→dN.f k A H z=some r∧dI.f k A H z=some r:=by
  by_cases h:good A H=true
  · by_cases hz:0≤z∧z≤60
    · have ok:=qW h
      have o1:=ok.len;have o2:=ok.same;have he:∀ j:Nat,j < A.length→l7 ((([]:List R).length:Int) + j) A.length (aA H j).f0=true∧l7 ((([]:List R).length:Int) + j) A.length (aA H j).f1=true:=fun j hj=>by simpa using ok.fin j hj
      have hf:=bP8 (A.length:Int) A H 0 ((List.replicate A.length (0:Int)).set (0:Int).toNat z) [] (by omega) o2.symm (fun j hj=>by simpa using ok.fin j hj) (by simp);have e2:(fin 0 A H ((List.replicate A.length (0:Int)).set (0:Int).toNat z) []).all NK=(fin 0 A H ((List.replicate A.length (0:Int)).set (0:Int).toNat z) []).all EQ:=by
        rw[Bool.eq_iff_iff,List.all_eq_true,List.all_eq_true];constructor
        · intro g x hx
          have:=g x hx;simp only[NK,Bool.and_eq_true]at this;exact this.1
        · intro g x hx
          simp only[NK,Bool.and_eq_true];exact⟨g x hx,hf.1 x hx⟩
      generalize hF:fin 0 A H ((List.replicate A.length (0:Int)).set (0:Int).toNat z) []=F at hf e2;refine⟨pick F (F.all EQ),by have:=hf.2;simp at this;unfold pick;cases F.all EQ <;> simp;omega,fun hr=>?_,fun k hk=>?_⟩
      · have hp:F.all EQ=true:=by
          revert hr
          unfold pick;cases F.all EQ <;> simp
        rw[hp]at e2 ⊢;rw[← hF];exact bYD h hz hF e2 (by have:=hf.2;simp at this;omega)
      obtain⟨k,rfl⟩:∃ m,k=m + 1:=⟨k - 1,by omega⟩
      have b1:0≤(A.length:Int):=by omega
      have b2:A.length≤35184372088832:=by omega
      have b3:0 < ((List.replicate A.length (0:Int)).length:Int):=by simp;omega
      have rr:((A.length:Int)).toNat=A.length:=by omega
      have g1:=bYB (A.length:Int) A H [] [] ((List.replicate A.length (0:Int)).set (0:Int).toNat z) [] k rfl o2.symm rfl (by omega) (by simp) he rfl (by simp only[List.length_nil];omega) (by omega);have g2:=bYC (A.length:Int) A H [] [] ((List.replicate A.length (0:Int)).set (0:Int).toNat z) [] k rfl o2.symm rfl (by omega) (by simp) he (by simp only[List.length_nil];omega) (by omega);simp only[List.nil_append,List.length_nil,Int.natCast_zero]at g1 g2;rw[hF]at g1 g2;rw[e2]at g2;simp(disch:=omega) only[dN.f,dI.f,dN.j0,dI.j0,NI A H _ hw,yE,h,hz,a7F,UC,and_self,decide_true,Bool.not_true,Bool.false_eq_true,Option.bind_some,if_true,if_false,b1,rr,b2,b3,g1,g2]
    · refine⟨([],false),by simp,fun hr=>(by cases hr),fun k hk=>?_⟩
      obtain⟨k,rfl⟩:∃ m,k=m + 1:=⟨k - 1,by omega⟩
      simp(disch:=omega) only[dN.f,dI.f,dN.j0,dI.j0,NI A H _ hw,yE,h,hz,a7F,UC,decide_false,Bool.not_false,Option.bind_some,if_true,and_self]
  · refine⟨([],false),by simp,fun hr=>(by cases hr),fun k hk=>?_⟩
    obtain⟨k,rfl⟩:∃ m,k=m + 1:=⟨k - 1,by omega⟩
    simp(disch:=omega) only[dN.f,dI.f,dN.j0,dI.j0,NI A H _ hw,yE,h,Option.bind_some,if_true,if_false,and_self,Bool.false_eq_true]
theorem b0P (z:Int):∀ (s p:List LL) (k:Nat) (acc:Int),(p ++ s).length≤12→(∀ x ∈ s,NK x=true)→0≤z∧z≤60→ -1000000 + 10000 * s.length≤acc∧acc≤1000000 - 10000 * s.length→s.length < k→
    jW.l0 k z acc (p ++ s) ((p ++ s).length:Int) (p.length:Int)=some (acc + GX (fun x=>x.2 * (x.1 - z)) (s.map (fun x=>(x.f0,x.f1)))):=by
  intro s
  induction s with
  | nil=>
    intro p k acc hl hs hz ha hk;obtain⟨k,rfl⟩:∃ m,k=m + 1:=⟨k - 1,by omega⟩
    simp only[jW.l0];rw[if_neg (by simp)];simp[GX]
  | cons x s ih=>
    intro p k acc hl hs hz ha hk;simp only[List.length_cons]at hk ha;obtain⟨k,rfl⟩:∃ m,k=m + 1:=⟨k - 1,by omega⟩
    have hx:=hs x (by simp);simp only[NK,EQ,kR,Bool.and_eq_true,decide_eq_true_eq]at hx;have m1:x.f1 * (x.f0 - z)≤99 * 60:=by
      rcases Int.lt_or_le (x.f0 - z) 0 with h0|h0
      · have:=Int.mul_nonpos_of_nonneg_of_nonpos (show 0≤x.f1 by omega) (Int.le_of_lt h0)
        omega
      · exact Int.mul_le_mul (by omega) (by omega) h0 (by omega)
    have m2:x.f1 * (z - x.f0)≤99 * 60:=by
      rcases Int.lt_or_le (z - x.f0) 0 with h0|h0
      · have:=Int.mul_nonpos_of_nonneg_of_nonpos (show 0≤x.f1 by omega) (Int.le_of_lt h0)
        omega
      · exact Int.mul_le_mul (by omega) (by omega) h0 (by omega)
    have m3:x.f1 * (z - x.f0)= -(x.f1 * (x.f0 - z)):=by rw[← Int.mul_neg];congr 1;omega
    simp only[jW.l0];rw[if_pos (by simp;omega),if_pos (by omega),if_pos (by simp;omega),rdL,cZ (x:=x.f0 - z) (by omega) (by omega),cZ (x:=x.f1 * (x.f0 - z)) (by omega) (by omega),cZ (x:=acc + x.f1 * (x.f0 - z)) (by omega) (by omega),uR p x (by simp at hl;omega),List.append_cons p x s,ih (p ++ [x]) k _ (by simpa using hl) (fun y hy=>hs y (by simp[hy])) hz (by omega) (by omega)];simp only[List.map_cons,GX];rw[Int.add_assoc]
theorem aOD:∀ (s p:List LL) (k:Nat) (acc:Int),(p ++ s).length≤12→(∀ x ∈ s,NK x=true)→0≤acc∧acc≤1000000 - 10000 * s.length→s.length < k→
    lT.l0 k acc (p ++ s) ((p ++ s).length:Int) (p.length:Int)=some (acc + GX (fun x=>x.2) (s.map (fun x=>(x.f0,x.f1)))):=by
  intro s
  induction s with
  | nil=>
    intro p k acc hl hs ha hk;obtain⟨k,rfl⟩:∃ m,k=m + 1:=⟨k - 1,by omega⟩
    simp only[lT.l0];rw[if_neg (by simp)];simp[GX]
  | cons x s ih=>
    intro p k acc hl hs ha hk;simp only[List.length_cons]at hk ha;obtain⟨k,rfl⟩:∃ m,k=m + 1:=⟨k - 1,by omega⟩
    have hx:=hs x (by simp);simp only[NK,EQ,kR,Bool.and_eq_true,decide_eq_true_eq]at hx;simp only[lT.l0];rw[if_pos (by simp;omega),if_pos (by omega),if_pos (by simp;omega),rdL,cZ (x:=acc + x.f1) (by omega) (by omega),uR p x (by simp at hl;omega),List.append_cons p x s,ih (p ++ [x]) k _ (by simpa using hl) (fun y hy=>hs y (by simp[hy])) (by omega) (by omega)];simp only[List.map_cons,GX];rw[Int.add_assoc]
theorem bPA {A H:List R} {z:Int} {O:List LL} (o:aY2 A H z O) {W:List Int} (hq:KH A H W) (k:Nat) (hk:100≤k):r9.f k O z=some (tot (tn W A H),true)∧vQ.f k O=some (rd W 0,true):=by
  obtain⟨Z,z0,hO,hz⟩:=o.parts;have law:=aXZ o.good hq z0 hz;have back:O.map (fun x=>(x.f0,x.f1))=fl r0 r1 Z 0 A H:=by
    rw[hO,List.map_map];have:((fun x:LL=>(x.f0,x.f1)) ∘ mk2)=id:=by
      funext x;rfl
    rw[this,List.map_id]
  have all:∀ x ∈ O,NK x=true:=fun x hx=>List.all_eq_true.1 o.all x hx
  have e1:=b0P z O [] k 0 (by simpa using o.len) all o.place (by have:=o.len;omega) (by have:=o.len;omega);have e2:=aOD O [] k 0 (by simpa using o.len) all (by have:=o.len;omega) (by have:=o.len;omega);simp only[List.nil_append,List.length_nil,Int.natCast_zero,Int.zero_add]at e1 e2;rw[back]at e1 e2;have f0:(fun(x:Int) (a:R)=>x - a.f0)=r0:=rfl;have f1:(fun(x:Int) (a:R)=>x + a.f1)=r1:=rfl;rw[f0,f1]at law;rw[law.1]at e1;rw[law.2]at e2;have pl:lK.f z=some true:=by
    rw[UC,decide_eq_true o.place]
  refine⟨?_,?_⟩
  · unfold r9.f jW.f
    rw[aAW O k o.len (by omega),Option.bind_some,if_pos o.all,pl,Option.bind_some,if_pos rfl,e1];rfl
  · unfold vQ.f lT.f
    rw[aAW O k o.len (by omega),Option.bind_some,if_pos o.all,e2];rfl
theorem bPB (x:Int):0≤IntKind.u64.wrap x∧IntKind.u64.wrap x < 18446744073709551616:=by
  simp[IntKind.wrap,IntKind.bits,IntKind.signed];omega
theorem wraps_u64 (n:Int) (h0:0≤n) (h1:n < 2 ^ 64):IntKind.u64.wrap n=n:=by
  simp[IntKind.wrap,IntKind.bits,IntKind.signed];omega
theorem bPC (x:Int) (h0:0≤x) (h1:x < 18446744073709551616):0≤Go.bits .and .u64 x 255∧Go.bits .and .u64 x 255≤255:=by
  have e:Go.bits .and .u64 x 255=x % 256:=Go.bits_mask .u64 64 (by decide) wraps_u64 8 (by decide) x h0 h1;rw[e];omega
theorem bPD (x:Int):0≤wrap64 (Go.bits .and .u64 (IntKind.u64.wrap x / 1099511627776) 255)∧wrap64 (Go.bits .and .u64 (IntKind.u64.wrap x / 1099511627776) 255)≤255:=by
  have h:=bPB x;have b:=bPC (IntKind.u64.wrap x / 1099511627776) (by omega) (by omega);rw[cZ (by omega) (by omega)];exact b
def Bytes (C:List Int):Prop:=∀ x ∈ C,0≤x∧x≤255
theorem b8A {C:List Int} (h:∀ x ∈ C,(Lit.int .u8 x).wf=true):Bytes C:=fun x hx=>by
  have:=h x hx;simp[Lit.wf,IntKind.min,IntKind.max,IntKind.signed,IntKind.bits]at this;omega
theorem bI9 {C:List Int} (hC:Bytes C) (p s:Int) (h0:0≤p) (h1:p≤1000000000):∃ b s',iX.f C p s=some (b,p + 1,s')∧0≤b∧b≤255:=by
  unfold iX.f;rw[cZ (x:=p + 1) (by omega) (by omega)];by_cases c:p < (C.length:Int)
  · have hm:rd C p ∈ C:=by
      have hl:p.toNat < C.length:=by omega
      simp only[rd];rw[List.getD_eq_getElem?_getD,List.getElem?_eq_getElem hl];exact List.getElem_mem hl
    have hb:=hC _ hm;rw[if_pos c,if_pos h0,if_pos (by omega),cZ (x:=rd C p) (by omega) (by omega)];exact⟨_,_,rfl,hb⟩
  · rw[if_neg c]
    by_cases c2:p + 1≤(C.length:Int)
    · omega
    · rw[if_neg c2]
      exact⟨_,_,rfl,bPD _⟩
theorem K5 {C:List Int} (hC:Bytes C) (p s n:Int) (h0:0≤p) (h1:p≤1000000000) (hn:n≤200):∃ x p' s',bT.f C p s n=some (x,p',s')∧p≤p'∧p'≤p + 1∧0≤x∧(x < n∨x=0):=by
  unfold bT.f;by_cases c:n≤1
  · rw[if_pos c]
    exact⟨0,p,s,rfl,by omega,by omega,by omega,Or.inr rfl⟩
  · obtain⟨b,s',e,b0,b1⟩:=bI9 hC p s h0 h1
    rw[if_neg c,e,Option.bind_some,if_neg (by omega),if_neg (by omega)];have m0:=Int.tmod_nonneg n b0;have m1:=Int.tmod_lt_of_pos b (show 0 < n by omega);exact⟨Int.tmod b n,p + 1,s',rfl,by omega,by omega,m0,Or.inl m1⟩
theorem a0O {C:List Int} (hC:Bytes C) (p s:Int) (l:List Int) (h0:0≤p) (h1:p≤1000000000) (hl:1≤l.length∧l.length≤200):∃ x p' s',kZ.f C p s l=some (x,p',s')∧p≤p'∧p'≤p + 1∧x ∈ l:=by
  unfold kZ.f;obtain⟨x,p',s',e,a1,a2,a3,a4⟩:=K5 hC p s (l.length:Int) h0 h1 (by omega);rw[e,Option.bind_some,if_pos a3,if_pos (by omega)];refine⟨_,_,_,rfl,a1,a2,?_⟩;have hx:x.toNat < l.length:=by omega
  simp only[rd];rw[List.getD_eq_getElem?_getD,List.getElem?_eq_getElem hx];exact List.getElem_mem hx
theorem bPE {C:List Int} (hC:Bytes C) (p s n:Int) (h0:0≤p) (h1:p≤1000000000) (hn:n≤200):∃ (b:Bool) (p' s':Int),xZ.f C p s n=some (b,p',s')∧p≤p'∧p'≤p + 1:=by
  unfold xZ.f;obtain⟨x,p',s',e,a1,a2,_⟩:=K5 hC p s n h0 h1 hn;rw[e,Option.bind_some];exact⟨_,_,_,rfl,a1,a2⟩
def Sm (x:R):Prop:=(-1000≤x.f0∧x.f0≤1000)∧(-1000≤x.f1∧x.f1≤1000)
def K7 (l:List R):Prop:=∀ x ∈ l,Sm x
theorem K7.set {l:List R} (h:K7 l) (i:Nat) {x:R} (hx:Sm x):K7 (l.set i x):=fun y hy=>by
  rcases List.mem_or_eq_of_mem_set hy with e|e
  · exact h y e
  · rw[e];exact hx
theorem K7.snoc {l:List R} (h:K7 l) {x:R} (hx:Sm x):K7 (l ++ [x]):=fun y hy=>by
  rcases List.mem_append.1 hy with e|e
  · exact h y e
  · have:y=x:=by simpa using e
    rw[this];exact hx
theorem K7.rd {l:List R} (h:K7 l) (i:Int):Sm (aA l i):=by
  simp only[aA];rw[List.getD_eq_getElem?_getD];by_cases hi:i.toNat < l.length
  · rw[List.getElem?_eq_getElem hi]
    exact h _ (List.getElem_mem hi)
  · rw[List.getElem?_eq_none (by omega)]
    simp only[Option.getD_none,Sm,z64];omega
theorem K7.wf {l:List R} (h:K7 l):WfR l:=fun x hx=>by
  have:=h x hx;simp only[Sm]at this;simp only[Wf];omega
structure Dr (p:Int) (r:List R × List R × Int × Int):Prop where
  a:r.1.length≤6
  h:r.2.1.length≤6
  sa:K7 r.1
  sh:K7 r.2.1
  p1:p≤r.2.2.1
  p2:r.2.2.1≤p + 100
theorem Dr.mono {p q:Int} {r:List R × List R × Int × Int} (o:Dr q r) (h1:p≤q) (h2:r.2.2.1≤p + 100):Dr p r:=⟨o.a,o.h,o.sa,o.sh,by have:=o.p1;omega,h2⟩
theorem aNW {C:List Int} (hC:Bytes C) (A H:List R) (n:Nat) (p s:Int) (h0:0≤p) (h1:p≤1000000) (hn:1≤n∧n≤6) (hA:A.length=n) (hH:H.length=n) (sA:K7 A) (sH:K7 H):
    ∃ r,Dr p r∧r.2.2.1≤p + 3∧∀ k,1≤k→aC.j2 k (n:Int) C p s A H=some r:=by
  obtain⟨x,p1,s1,e1,a1,a2,a3,a4⟩:=K5 hC p s 40 h0 (by omega) (by omega);by_cases c0:x=0
  · obtain⟨v,p2,s2,e2,b1,b2,b3⟩:=a0O hC p1 s1 [0,12,13] (by omega) (by omega) (by simp)
    refine⟨(A.set (0:Int).toNat (⟨v,(aA A 0).f1⟩:R),H,p2,s2),⟨by simp;omega,by simp only;omega,sA.set _ ⟨by simp at b3;simp only;omega,(sA.rd 0).2⟩,sH,by simp only;omega,by simp only;omega⟩,by simp only;omega,fun k hk=>?_⟩;obtain⟨k,rfl⟩:∃ m,k=m + 1:=⟨k - 1,by omega⟩
    simp only[aC.j2];rw[e1,Option.bind_some,if_pos c0,e2,Option.bind_some,if_pos (by omega)]
  · by_cases c1:x=1
    · obtain⟨y,p2,s2,e2,b1,b2,b3,b4⟩:=K5 hC p1 s1 (n:Int) (by omega) (by omega) (by omega)
      obtain⟨v,p3,s3,e3,d1,d2,d3⟩:=a0O hC p2 s2 [0,99,100,(-1),(-6)] (by omega) (by omega) (by simp);refine⟨(A,H.set (y:Int).toNat (⟨(aA H y).f0,v⟩:R),p3,s3),⟨by simp only;omega,by simp;omega,sA,sH.set _ ⟨(sH.rd y).1,by simp at d3;simp only;omega⟩,by simp only;omega,by simp only;omega⟩,by simp only;omega,fun k hk=>?_⟩;obtain⟨k,rfl⟩:∃ m,k=m + 1:=⟨k - 1,by omega⟩
      simp only[aC.j2];rw[e1,Option.bind_some,if_neg c0,if_pos c1,e2,Option.bind_some,e3,Option.bind_some,if_pos b3,if_pos (by omega)]
    · by_cases c2:x=2
      · refine⟨(A,H.drop (1:Int).toNat,p1,s1),⟨by simp only;omega,by simp;omega,sA,fun y hy=>sH y (List.mem_of_mem_drop hy),by simp only;omega,by simp only;omega⟩,by simp only;omega,fun k hk=>?_⟩
        obtain⟨k,rfl⟩:∃ m,k=m + 1:=⟨k - 1,by omega⟩
        simp only[aC.j2];rw[e1,Option.bind_some,if_neg c0,if_neg c1,if_pos c2,if_pos (by omega)]
      · refine⟨(A,H,p1,s1),⟨by simp only;omega,by simp only;omega,sA,sH,by simp only;omega,by simp only;omega⟩,by simp only;omega,fun k hk=>?_⟩
        obtain⟨k,rfl⟩:∃ m,k=m + 1:=⟨k - 1,by omega⟩
        simp only[aC.j2];rw[e1,Option.bind_some,if_neg c0,if_neg c1,if_neg c2]
theorem aY3 {w:List Int} (hw:∀ x ∈ w,kR x=true):∀ (hs:List R) (j:Nat),K7 hs→K7 (hang w j hs):=by
  have pv:∀ (j:Nat) (h:Int),-1000≤h∧h≤1000→ -1000≤pt w j h∧pt w j h≤1000:=by
    intro j h hh;unfold pt
    split
    · simp only[rd,Int.toNat_natCast]
      rw[List.getD_eq_getElem?_getD];by_cases hj:j < w.length
      · rw[List.getElem?_eq_getElem hj]
        have:=hw _ (List.getElem_mem hj);simp only[kR,decide_eq_true_eq]at this;simp only[Option.getD_some];omega
      · rw[List.getElem?_eq_none (by omega)]
        simp only[Option.getD_none];omega
    · exact hh
  intro hs
  induction hs with
  |nil=>intro j h x hx;cases hx
  | cons x hs ih=>
    intro j h y hy;simp only[hang]at hy;rcases List.mem_cons.1 hy with e|e
    · have hx:=h x (by simp)
      rw[e];exact⟨pv _ _ hx.1,pv _ _ hx.2⟩
    · exact ih _ (fun z hz=>h z (by simp[hz])) y e
theorem aNX {A H:List R} {w:List Int} (o:aAV A H w):cnt H=w.length:=by
  have ok:=qW o.good;obtain⟨Z,g,hp,hg,hd,hw⟩:=o.parts;have e:=aNR wM vT Z A H 0 [] ok.same.symm (V5 ok);have c:=a0N H [];rw[e]at c;rw[hw];simp at c ⊢;omega
theorem bPF (k:Nat) (n:Int) (w C:List Int) (p s:Int) (A H:List R):aC.j1 (k + 1) n w false C p s A H=aC.j2 k n C p s A H:=by
  simp only[aC.j1];rw[if_neg (by decide)]
theorem c88 (k:Nat) (n:Int) (w C:List Int) (p s:Int) (A H:List R):aC.j1 (k + 1) n w true C p s A H=(eO.f k A H w).bind fun b=>aC.j2 k n C p s b.1 b.2:=by
  simp only[aC.j1,if_true]
theorem aNY (k:Nat) (n:Int) (C:List Int) (p s:Int) (F A H:List R):aC.l0 (k + 1) n F n C p s A H=(bB.f k A H).bind fun b=>if b.2=true then(xZ.f C p s 3).bind fun t=>aC.j1 k n b.1 (!t.1) C t.2.1 t.2.2 A H else aC.j1 k n b.1 false C p s A H:=by
  simp only[aC.l0];rw[if_neg (Int.lt_irrefl n)]
theorem bIA {C:List Int} (hC:Bytes C) (A H:List R) (n:Nat) (p s:Int) (h0:0≤p) (h1:p≤900000) (hn:1≤n∧n≤6) (hA:A.length=n) (hH:H.length=n) (sA:K7 A) (sH:K7 H) (F:List R):
    ∃ r,Dr p r∧r.2.2.1≤p + 4∧∀ k,6000000100≤k→aC.l0 k (n:Int) F (n:Int) C p s A H=some r:=by
  obtain⟨w,w1,w2,w3⟩:=aS0 A H (by omega) sH.wf;by_cases c:w.2=true
  · obtain⟨b,p1,s1,e1,a1,a2⟩:=bPE hC p s 3 h0 (by omega) (by omega)
    have o:=w2 c;have cn:=aNX o;cases b with
    | true=>
      obtain⟨r,r1,r2,r3⟩:=aNW hC A H n p1 s1 (by omega) (by omega) hn hA hH sA sH;refine⟨r,r1.mono a1 (by omega),by omega,fun k hk=>?_⟩;obtain⟨k,rfl⟩:∃ m,k=m + 2:=⟨k - 2,by omega⟩
      rw[aNY,(w3 (k + 1) (by omega)).1,Option.bind_some,if_pos c,e1,Option.bind_some];show aC.j1 (k + 1) _ _ false C p1 s1 A H=some r
      rw[bPF];exact r3 k (by omega)
    | false=>
      obtain⟨r,r1,r2,r3⟩:=aNW hC A (hang w.1 0 H) n p1 s1 (by omega) (by omega) hn hA (by rw[a7Q];exact hH) sA (aY3 o.ok H 0 sH);refine⟨r,r1.mono a1 (by omega),by omega,fun k hk=>?_⟩;obtain⟨k,rfl⟩:∃ m,k=m + 2:=⟨k - 2,by omega⟩
      rw[aNY,(w3 (k + 1) (by omega)).1,Option.bind_some,if_pos c,e1,Option.bind_some];show aC.j1 (k + 1) _ _ true C p1 s1 A H=some r
      rw[c88,b04 w.1 A H k (by omega) (by omega) (by omega) (by omega) (by omega),Option.bind_some];exact r3 k (by omega)
  · obtain⟨r,r1,r2,r3⟩:=aNW hC A H n p s h0 (by omega) hn hA hH sA sH
    refine⟨r,r1,by omega,fun k hk=>?_⟩;obtain⟨k,rfl⟩:∃ m,k=m + 2:=⟨k - 2,by omega⟩
    rw[aNY,(w3 (k + 1) (by omega)).1,Option.bind_some,if_neg c,bPF];exact r3 k (by omega)
set_option maxHeartbeats 4000000 in
theorem bPG {C:List Int} (hC:Bytes C) (n:Nat) (hn:1≤n∧n≤6):∀ (d i:Nat) (F A H:List R) (p s:Int),i + d=n→A.length=i→H.length=i→(1≤i→1≤F.length)→F.length≤i + 1→(∀ x ∈ F,(0≤x.f0∧x.f0 < (i:Int))∧(x.f1=0∨x.f1=1))→K7 A→K7 H→0≤p→p + 10 * d≤800000→
    ∃ r,Dr p r∧r.2.2.1≤p + 4 + 5 * d∧∀ k,6000000100 + d≤k→aC.l0 k (n:Int) F (i:Int) C p s A H=some r:=by
  intro d
  induction d with
  | zero=>
    intro i F A H p s hi hA hH hF1 hF2 hF sA sH h0 h1;have:i=n:=by omega
    subst this;obtain⟨r,r1,r2,r3⟩:=bIA hC A H i p s h0 (by omega) hn hA hH sA sH F;exact⟨r,r1,by omega,fun k hk=>r3 k (by omega)⟩
  | succ d ih=>
    intro i F A H p s hi hA hH hF1 hF2 hF sA sH h0 h1;obtain⟨x1,p1,s1,e1,a1,b1,c1,d1⟩:=K5 hC p s 4 h0 (by omega) (by omega);replace d1:x1≤3:=by omega
    obtain⟨x2,p2,s2,e2,a2,b2,c2,d2⟩:=K5 hC p1 s1 4 (by omega) (by omega) (by omega);replace d2:x2≤3:=by omega
    obtain⟨x3,p3,s3,e3,a3,b3,c3,d3⟩:=K5 hC p2 s2 6 (by omega) (by omega) (by omega);replace d3:x3≤5:=by omega
    obtain⟨x4,p4,s4,e4,a4,b4,c4,d4⟩:=K5 hC p3 s3 6 (by omega) (by omega) (by omega);replace d4:x4≤5:=by omega
    have wc:(i:Int) + 1=((i + 1:Nat):Int):=by omega
    have sA2:K7 (A ++ [(⟨1 + x1,1 + x2⟩:R)]):=sA.snoc ⟨by simp only;omega,by simp only;omega⟩;have sH2:K7 (H ++ [(⟨1 + x3,1 + x4⟩:R)]):=sH.snoc ⟨by simp only;omega,by simp only;omega⟩;rcases Nat.eq_zero_or_pos i with z|z
    · subst z
      have hF0:F.length≤1:=by omega
      obtain⟨r,r1,r2,r3⟩:=ih 1 (F ++ [(⟨((0:Nat):Int),0⟩:R),(⟨((0:Nat):Int),1⟩:R)]) (A ++ [(⟨1 + x1,1 + x2⟩:R)]) (H ++ [(⟨1 + x3,1 + x4⟩:R)]) p4 s4 (by omega) (by rw[List.length_append,hA];rfl) (by rw[List.length_append,hH];rfl) (fun _=>by simp) (by
        cases F with
        |nil=>simp
        | cons y ys=>
          have:=hF y (by simp)
          omega) (fun y hy=>by
        rcases List.mem_append.1 hy with e|e
        · have:=hF y e
          omega
        · have:y=⟨((0:Nat):Int),0⟩∨y=⟨((0:Nat):Int),1⟩:=by simpa using e
          rcases this with rfl|rfl
          · exact⟨⟨by simp,by simp⟩,Or.inl rfl⟩
          · exact⟨⟨by simp,by simp⟩,Or.inr rfl⟩) sA2 sH2 (by omega) (by omega)
      refine⟨r,r1.mono (by omega) (by omega),by omega,fun k hk=>?_⟩;obtain⟨k,rfl⟩:∃ m,k=m + 1:=⟨k - 1,by omega⟩
      simp only[aC.l0];rw[if_pos (by omega),e1,Option.bind_some,e2,Option.bind_some,if_pos (by omega),Option.bind_some,e3,Option.bind_some,e4,Option.bind_some,if_pos (by omega),Option.bind_some,if_neg (by omega),Option.bind_some,if_pos (by simp;omega),cZ (x:=1 + x1) (by omega) (by omega),cZ (x:=1 + x2) (by omega) (by omega),cZ (x:=1 + x3) (by omega) (by omega),cZ (x:=1 + x4) (by omega) (by omega),cZ (x:=((0:Nat):Int) + 1) (by omega) (by omega),show((0:Nat):Int) + 1=((1:Nat):Int)from rfl];exact r3 k (by omega)
    · obtain⟨x5,p5,s5,e5,a5,b5,c5,d5⟩:=K5 hC p4 s4 (F.length:Int) (by omega) (by omega) (by omega)
      have hl:=hF1 z;replace d5:x5 < (F.length:Int):=by omega
      have hx5:x5.toNat < F.length:=by omega
      have hy:aA F x5 ∈ F:=by
        simp only[aA];rw[List.getD_eq_getElem?_getD,List.getElem?_eq_getElem hx5];exact List.getElem_mem hx5
      have hf:=hF _ hy;have hlen:(F.eraseIdx x5.toNat).length=F.length - 1:=by rw[List.length_eraseIdx,if_pos hx5]
      have free:∀ y ∈ F.eraseIdx x5.toNat ++ [(⟨(i:Int),0⟩:R),(⟨(i:Int),1⟩:R)],(0≤y.f0∧y.f0 < ((i + 1:Nat):Int))∧(y.f1=0∨y.f1=1):=fun y hy=>by
        rcases List.mem_append.1 hy with e|e
        · have:=hF y ((List.eraseIdx_sublist F x5.toNat).subset e)
          omega
        · have:y=⟨(i:Int),0⟩∨y=⟨(i:Int),1⟩:=by simpa using e
          rcases this with rfl|rfl
          · exact⟨⟨by simp only;omega,by simp only;omega⟩,Or.inl rfl⟩
          · exact⟨⟨by simp only;omega,by simp only;omega⟩,Or.inr rfl⟩
      have go:∀ v:R,Sm v→∃ r,Dr p5 r∧r.2.2.1≤p5 + 4 + 5 * d∧∀ k,6000000100 + d≤k→aC.l0 k (n:Int) (F.eraseIdx x5.toNat ++ [(⟨(i:Int),0⟩:R),(⟨(i:Int),1⟩:R)]) ((i + 1:Nat):Int) C p5 s5 (A ++ [(⟨1 + x1,1 + x2⟩:R)]) ((H ++ [(⟨1 + x3,1 + x4⟩:R)]).set (aA F x5).f0.toNat v)=some r:=fun v hv=>
        ih (i + 1) _ _ _ p5 s5 (by omega) (by simp;omega) (by simp;omega) (fun _=>by simp) (by simp only[List.length_append,List.length_cons,List.length_nil,hlen];omega) free sA2 (sH2.set _ hv) (by omega) (by omega)
      have sv:=sH2.rd (aA F x5).f0;by_cases c:(aA F x5).f1=0
      · obtain⟨r,r1,r2,r3⟩:=go ⟨-(i:Int),(aA (H ++ [(⟨1 + x3,1 + x4⟩:R)]) (aA F x5).f0).f1⟩ ⟨by simp only;omega,sv.2⟩
        refine⟨r,r1.mono (by omega) (by omega),by omega,fun k hk=>?_⟩;obtain⟨k,rfl⟩:∃ m,k=m + 1:=⟨k - 1,by omega⟩
        simp only[aC.l0];rw[if_pos (by omega),e1,Option.bind_some,e2,Option.bind_some,if_pos (by omega),Option.bind_some,e3,Option.bind_some,e4,Option.bind_some,if_pos (by omega),Option.bind_some,if_pos (by omega),e5,Option.bind_some];dsimp only;rw[if_pos (by omega),if_pos (by omega),if_pos (by omega),if_pos (by rw[List.length_append];simp only[List.length_cons,List.length_nil];omega),if_pos c,if_pos (by omega),cZ (x:=x5 + 1) (by omega) (by omega),if_pos (by omega),if_pos (by omega),Option.bind_some,Option.bind_some,if_pos (by simp[hlen];omega),cZ (x:=1 + x1) (by omega) (by omega),cZ (x:=1 + x2) (by omega) (by omega),cZ (x:=1 + x3) (by omega) (by omega),cZ (x:=1 + x4) (by omega) (by omega),cZ (x:=(i:Int) + 1) (by omega) (by omega),cZ (x:=-(i:Int)) (by omega) (by omega),wc];exact r3 k (by omega)
      · obtain⟨r,r1,r2,r3⟩:=go ⟨(aA (H ++ [(⟨1 + x3,1 + x4⟩:R)]) (aA F x5).f0).f0,-(i:Int)⟩ ⟨sv.1,by simp only;omega⟩
        refine⟨r,r1.mono (by omega) (by omega),by omega,fun k hk=>?_⟩;obtain⟨k,rfl⟩:∃ m,k=m + 1:=⟨k - 1,by omega⟩
        simp only[aC.l0];rw[if_pos (by omega),e1,Option.bind_some,e2,Option.bind_some,if_pos (by omega),Option.bind_some,e3,Option.bind_some,e4,Option.bind_some,if_pos (by omega),Option.bind_some,if_pos (by omega),e5,Option.bind_some];dsimp only;rw[if_pos (by omega),if_pos (by omega),if_pos (by omega),if_pos (by rw[List.length_append];simp only[List.length_cons,List.length_nil];omega),if_neg c,if_pos (by omega),if_pos (by omega),cZ (x:=x5 + 1) (by omega) (by omega),if_pos (by omega),if_pos (by omega),Option.bind_some,Option.bind_some,if_pos (by simp[hlen];omega),cZ (x:=1 + x1) (by omega) (by omega),cZ (x:=1 + x2) (by omega) (by omega),cZ (x:=1 + x3) (by omega) (by omega),cZ (x:=1 + x4) (by omega) (by omega),cZ (x:=(i:Int) + 1) (by omega) (by omega),cZ (x:=-(i:Int)) (by omega) (by omega),wc];exact r3 k (by omega)
theorem aHJ {C:List Int} (hC:Bytes C) (p s:Int) (h0:0≤p) (h1:p≤700000):∃ r,Dr p r∧∀ k,6000000200≤k→aC.f k C p s=some r:=by
  obtain⟨x,p1,s1,e1,a1,a2,a3⟩:=a0O hC p s [2,3,1,4,2,6] h0 (by omega) (by simp);have hx:1≤x∧x≤6:=by simp at a3;omega
  obtain⟨n,hn⟩:∃ n:Nat,x=(n:Int):=⟨x.toNat,by omega⟩
  subst hn;obtain⟨r,r1,r2,r3⟩:=bPG hC n (by omega) n 0 [] [] [] p1 s1 (by omega) rfl rfl (by omega) (by simp) (fun y hy=>by cases hy) (fun y hy=>by cases hy) (fun y hy=>by cases hy) (by omega) (by omega);refine⟨r,r1.mono a1 (by omega),fun k hk=>?_⟩;unfold aC.f;rw[e1,Option.bind_some];exact r3 k (by omega)
theorem aHP:∀ (s p:List Int) (k:Nat),(p ++ s).length < 1000→s.length < k→mH.l0 k (p ++ s) (p.length:Int)=some (s.all (fun x=>decide (x=0))):=by
  intro s
  induction s with
  | nil=>
    intro p k hl hk;obtain⟨k,rfl⟩:∃ m,k=m + 1:=⟨k - 1,by simp at hk;omega⟩
    simp only[mH.l0];rw[if_neg (by simp)];rfl
  | cons x s ih=>
    intro p k hl hk;obtain⟨k,rfl⟩:∃ m,k=m + 1:=⟨k - 1,by simp at hk;omega⟩
    have hr:rd (p ++ x::s) (p.length:Int)=x:=by simp[rd]
    simp only[mH.l0];rw[if_pos (by simp;omega),if_pos (by omega),hr,uR p x (by simp at hl;omega),List.append_cons p x s,ih (p ++ [x]) k (by simpa using hl) (by simp at hk;omega)];by_cases hx:x=0 <;> simp[hx]
theorem aGM:∀ (s p:List Int) (k:Nat),(p ++ s).length < 1000→s.length < k→∃ r,fV.l0 k (p ++ s) ((p ++ s).length:Int) (p.length:Int)=some r∧decide (r ≥ 0)= !(s.all (fun x=>decide (x=0))):=by
  intro s
  induction s with
  | nil=>
    intro p k hl hk;obtain⟨k,rfl⟩:∃ m,k=m + 1:=⟨k - 1,by simp at hk;omega⟩
    simp only[fV.l0];rw[if_neg (by simp)];exact⟨-1,rfl,by simp⟩
  | cons x s ih=>
    intro p k hl hk;obtain⟨k,rfl⟩:∃ m,k=m + 1:=⟨k - 1,by simp at hk;omega⟩
    have hr:rd (p ++ x::s) (p.length:Int)=x:=by simp[rd]
    simp only[fV.l0,zO.f];rw[if_pos (by simp;omega),if_pos (by omega),if_pos (by simp;omega),hr,Option.bind_some];by_cases hx:x=0
    · subst hx
      rw[if_neg (by decide),uR p 0 (by simp at hl;omega),List.append_cons p 0 s];obtain⟨r,h1,h2⟩:=ih (p ++ [0]) k (by simpa using hl) (by simp at hk;omega);exact⟨r,h1,by rw[h2];simp⟩
    · rw[if_pos (by simpa using hx)]
      exact⟨_,rfl,by simp[hx]⟩
theorem aNZ (T:List Int) (k:Nat) (hl:T.length < 1000) (hk:T.length < k):lI.f k T=some (!(T.all (fun x=>decide (x=0)))):=by
  unfold lI.f fV.f;obtain⟨r,h1,h2⟩:=aGM T [] k hl hk;have h3:fV.l0 k T (T.length:Int) 0=some r:=h1;rw[h3,Option.bind_some,h2]
theorem aGN (A:List R):∀ (hs q:List R) (X:List Int) (k:Nat),(q ++ hs).length≤1048576→X.length + 2 * hs.length≤4194304→4 * hs.length + 4 < k→
    eQ.l0 k X (q.length:Int) A (q ++ hs)=some (leaves X hs):=by
  intro hs
  induction hs with
  | nil=>
    intro q X k hl hX hk;obtain⟨k,rfl⟩:∃ m,k=m + 1:=⟨k - 1,by omega⟩
    simp only[eQ.l0];rw[if_neg (by simp)];rfl
  | cons h hs ih=>
    intro q X k hl hX hk;simp only[List.length_cons]at hX hk;obtain⟨k,rfl⟩:∃ m,k=m + 4:=⟨k - 4,by omega⟩
    have w1:wrap64 (0 + 1)=1:=cZ (by omega) (by omega);have w2:wrap64 (1 + 1)=2:=cZ (by omega) (by omega);have d0:0≤(q.length:Int):=by omega
    have d1:(q.length:Int) < ((q ++ h::hs).length:Int):=by simp;omega
    have q1:¬ ((1:Int)=0):=by omega
    have x0:X.length < 17592186044416:=by omega
    have u:=NJ X h.f0;have u1:=NJ (up X h.f0) h.f1;have x1:(up X h.f0).length < 17592186044416:=by omega
    rw[show eQ.l0 (k + 4) X (q.length:Int) A (q ++ h::hs)=eQ.l1 (k + 3) X (q.length:Int) 0 A (q ++ h::hs)from by simp only[eQ.l0,d1,if_true]]
    rw[show eQ.l1 (k + 3) X (q.length:Int) 0 A (q ++ h::hs)=eQ.l1 (k + 2) (up X h.f0) (q.length:Int) 1 A (q ++ h::hs)from by
      by_cases c:h.f0 > 0 <;> simp only[eQ.l1,d0,d1,GG,w1,x0,c,up,if_true,if_false,Int.reduceLT]]
    rw[show eQ.l1 (k + 2) (up X h.f0) (q.length:Int) 1 A (q ++ h::hs)=eQ.l1 (k + 1) (up (up X h.f0) h.f1) (q.length:Int) 2 A (q ++ h::hs)from by
      generalize up X h.f0=Y at x1
      by_cases c:h.f1 > 0 <;> simp only[eQ.l1,d0,d1,GG,w2,q1,x1,c,up,if_true,if_false,Int.reduceLT]]
    rw[show eQ.l1 (k + 1) (up (up X h.f0) h.f1) (q.length:Int) 2 A (q ++ h::hs)=eQ.l0 k (up (up X h.f0) h.f1) (wrap64 ((q.length:Int) + 1)) A (q ++ h::hs)from by simp only[eQ.l1,if_false,Int.reduceLT]];rw[uR q h (by simp at hl;omega),List.append_cons q h hs,ih (q ++ [h]) _ k (by simpa using hl) (by omega) (by omega)];rfl
theorem aGO:∀ (us hs p q:List R) (k:Nat),p.length=q.length→us.length=hs.length→(p ++ us).length≤1000→us.length < k→
    dO.l0 k (p.length:Int) (p ++ us) (q ++ hs) (p.map sw) (q.map sw)=some ((p ++ us).map sw,(q ++ hs).map sw,true):=by
  intro us
  induction us with
  | nil=>
    intro hs p q k hpq hl h6 hk;obtain⟨k,rfl⟩:∃ m,k=m + 1:=⟨k - 1,by omega⟩
    have:hs=[]:=List.eq_nil_of_length_eq_zero (by simpa using hl.symm);subst this;simp only[dO.l0];rw[if_neg (by simp)];simp
  | cons a us ih=>
    intro hs p q k hpq hl h6 hk;obtain⟨k,rfl⟩:∃ m,k=m + 1:=⟨k - 1,by omega⟩
    cases hs with
    |nil=>simp at hl
    | cons h hs=>
      simp only[List.length_cons]at hk;have hH:aA (q ++ h::hs) (p.length:Int)=h:=by rw[hpq];exact GG q hs h
      simp only[dO.l0];rw[if_pos (by simp;omega),if_pos (by omega),if_pos (by simp at h6 ⊢;omega),if_pos (by simp;omega),if_pos (by simp at h6 ⊢;omega),GG,hH,uR p a (by simp at h6;omega),List.append_cons p a us,List.append_cons q h hs];have e:=ih hs (p ++ [a]) (q ++ [h]) k (by simp[hpq]) (by simpa using hl) (by simpa using h6) (by omega);rw[List.map_append,List.map_append]at e;exact e
theorem aGP:∀ (us hs p q:List R) (k:Nat),p.length=q.length→us.length=hs.length→(p ++ us).length≤1000→us.length < k→
    iU.l0 k (p ++ us) ((p ++ us).length:Int) (p.length:Int) (p ++ us) (q ++ hs) (p.map sw) (q.map sw)=some ((p ++ us).map sw,(q ++ hs).map sw,true):=by
  intro us
  induction us with
  | nil=>
    intro hs p q k hpq hl h6 hk;obtain⟨k,rfl⟩:∃ m,k=m + 1:=⟨k - 1,by omega⟩
    have:hs=[]:=List.eq_nil_of_length_eq_zero (by simpa using hl.symm);subst this;simp only[iU.l0];rw[if_neg (by simp)];simp
  | cons a us ih=>
    intro hs p q k hpq hl h6 hk;obtain⟨k,rfl⟩:∃ m,k=m + 1:=⟨k - 1,by omega⟩
    cases hs with
    |nil=>simp at hl
    | cons h hs=>
      simp only[List.length_cons]at hk;have hH:aA (q ++ h::hs) (p.length:Int)=h:=by rw[hpq];exact GG q hs h
      simp only[iU.l0];rw[if_pos (by simp;omega),if_pos (by omega),if_pos (by simp;omega),if_pos (by simp;omega),if_pos (by simp at h6 ⊢;omega),if_pos (by simp at h6 ⊢;omega),GG,hH,uR p a (by simp at h6;omega),List.append_cons p a us,List.append_cons q h hs];have e:=ih hs (p ++ [a]) (q ++ [h]) k (by simp[hpq]) (by simpa using hl) (by simpa using h6) (by omega);rw[List.map_append,List.map_append]at e;exact e
theorem b8B:∀ (s p:List Int) (k:Nat),(p ++ s).length < 4611686018427387904→s.length < k→∃ r,fG.l0 k (p ++ s) ((p ++ s).length:Int) (p.length:Int)=some r∧decide (r ≥ 0)= !(s.all kR):=by
  intro s
  induction s with
  | nil=>
    intro p k hl hk;obtain⟨k,rfl⟩:∃ m,k=m + 1:=⟨k - 1,by simp at hk;omega⟩
    simp only[fG.l0];rw[if_neg (by simp)];exact⟨-1,rfl,by simp⟩
  | cons x s ih=>
    intro p k hl hk;obtain⟨k,rfl⟩:∃ m,k=m + 1:=⟨k - 1,by simp at hk;omega⟩
    simp only[fG.l0,xG.f,F6];rw[if_pos (by simp;omega),if_pos (by omega),if_pos (by simp;omega),rdI,Option.bind_some,Option.bind_some];by_cases hx:kR x=true
    · rw[hx,if_neg (by decide),uR p x (by simp at hl;omega),List.append_cons p x s]
      obtain⟨r,h1,h2⟩:=ih (p ++ [x]) k (by simpa using hl) (by simp at hk;omega);exact⟨r,h1,by rw[h2];simp[hx]⟩
    · rw[Bool.not_eq_true]at hx
      rw[hx,if_pos (by decide)];exact⟨_,rfl,by simp[hx]⟩
theorem aOE (T:List Int) (k:Nat) (hl:T.length≤1048576) (hk:T.length < k):mG.f k T=some (!(T.all kR)):=by
  unfold mG.f fG.f;obtain⟨r,h1,h2⟩:=b8B T [] k (by simp;omega) hk;have h3:fG.l0 k T (T.length:Int) 0=some r:=h1;rw[h3,Option.bind_some,h2]
theorem aHQ {A H:List R} (h:good A H=true) {w:List Int} (hl:w.length=A.length + 1) (hm:∀ x ∈ w,kR x=true) (k:Nat) (hk:2000≤k):good A (hang w 0 H)=true∧jQ.f k A H w=some (A,hang w 0 H,true):=by
  have ok:=qW h;have o1:=ok.len;have o2:=ok.same;have hc:=aAS h;have hlv:=a0N H [];simp only[List.length_nil,Nat.zero_add]at hlv;have hl2:(((leaves [] H).length:Int)=(w.length:Int)):=by omega
  have hx:w.all kR=true:=List.all_eq_true.2 hm;have g:=b06 h hm (by omega);refine⟨g,?_⟩;obtain⟨k,rfl⟩:∃ m,k=m + 1:=⟨k - 1,by omega⟩
  simp(disch:=omega) only[jQ.f,jQ.j0,kL.f,yE,h,hx,aO7,a7P,hl2,eq_self,aOE,g,Bool.not_true,Option.bind_some,if_true,if_false,and_self,Bool.false_eq_true]
structure aO0 (A H:List R) (t w:List Int × Bool) (lv:Bool × Bool) (le sh:List Int × Bool) (mi:List R × List R × Bool):Prop where
  tl:t.1.length≤100
  wl:w.1.length≤100
  ll:le.1.length≤100
  sl:sh.1.length≤100
  ml:mi.1.length≤100∧mi.2.1.length≤100
  t2:t.2=good A H
  ok:good A H=true→∃ W,WOk A.length W∧KH A H W∧t=(tn W A H,true)∧w=(W,true)∧lv=((tn W A H).all (fun x=>decide (x=0)),true)∧le=(leaves [] H,true)∧mi=(A.map sw,H.map sw,true)
  sh2:sh.2=true→aAV A H sh.1
theorem b0Q (A H:List R) (hA:A.length≤6) (hH:H.length≤6) (hw:WfR H):∃ t w lv le sh mi,aO0 A H t w lv le sh mi∧∀ k,6000001000≤k→
    (mU.f k A H=some t∧xH.f k A H=some t)∧(oQ.f k A H=some w∧vG.f k A H=some w)∧(qJ.f k A H=some lv∧yJ.f k A H=some lv)∧(xI.f k A H=some le∧xJ.f k A H=some le)∧(qA.f k A H=some sh∧bB.f k A H=some sh)∧(iU.f k A H=some mi∧dO.f k A H=some mi)∧aT.f k A H=some (good A H)∧uI.f k A H=some (good A H):=by
  obtain⟨sh,s1,s2,s3⟩:=aS0 A H (by omega) hw;have im:∀ k,6000001000≤k→aT.f k A H=some (good A H):=fun k hk=>yE A H k (by omega)
  have sm:∀ k,6000001000≤k→aV.f k A H=some (good A H):=fun k hk=>NI A H k hw (by omega)
  by_cases h:good A H=true
  · have ok:=qW h
    have o1:=ok.len;have o2:=ok.same;obtain⟨W,hW,hq,hs⟩:=aGL ok;have tl:=SG W A H o2.symm;have wl:=hW.len;have hl:=aHN H [];simp only[List.length_nil]at hl;refine⟨(tn W A H,true),(W,true),((tn W A H).all (fun x=>decide (x=0)),true),(leaves [] H,true),sh,(A.map sw,H.map sw,true),⟨by simp only;omega,by simp only;omega,by simp only;omega,s1,by simp;omega,h.symm,fun _=>⟨W,hW,hq,rfl,rfl,rfl,rfl,rfl⟩,s2⟩,fun k hk=>?_⟩;have sml:uI.f k A H=some (good A H):=by
      unfold uI.f;rw[sm k hk];rfl
    have i1:=im k hk;have i2:=sm k hk;obtain⟨e1,e2,e3,e4⟩:=hs k (by omega);have e5:mH.l0 k (tn W A H) 0=some ((tn W A H).all (fun x=>decide (x=0))):=aHP (tn W A H) [] k (by simp;omega) (by omega);have e6:eQ.l0 k [] 0 A H=some (leaves [] H):=aGN A H [] [] k (by simp only[List.nil_append];omega) (by simp only[List.length_nil];omega) (by omega);have e7:dO.l0 k 0 A H [] []=some (A.map sw,H.map sw,true):=aGO A H [] [] k rfl (by omega) (by simp only[List.nil_append];omega) (by omega);have e8:iU.l0 k A (A.length:Int) 0 A H [] []=some (A.map sw,H.map sw,true):=aGP A H [] [] k rfl (by omega) (by simp only[List.nil_append];omega) (by omega);refine⟨⟨?_,?_⟩,⟨?_,?_⟩,⟨?_,?_⟩,⟨?_,?_⟩,⟨(s3 k (by omega)).2,(s3 k (by omega)).1⟩,⟨?_,?_⟩,i1,sml⟩
    · simp only[mU.f,i1,h,e4,Option.bind_some,if_true]
    · simp only[xH.f,i2,h,e3,Option.bind_some,if_true]
    · simp only[oQ.f,i1,h,e2,Option.bind_some,if_true]
    · simp only[vG.f,i2,h,e1,Option.bind_some,if_true]
    · simp only[qJ.f,zX.f,i1,h,e4,aNZ (tn W A H) k (by omega) (by omega),Bool.not_not,Option.bind_some,if_true]
    · simp only[yJ.f,mH.f,i2,h,e3,e5,Option.bind_some,if_true]
    · simp only[xI.f,i1,h,a7P A H k (by omega) (by omega),Option.bind_some,if_true]
    · simp only[xJ.f,eQ.f,i2,h,e6,Option.bind_some,if_true]
    · simp only[iU.f,i1,h,e8,Option.bind_some,if_true]
    · simp only[dO.f,i2,h,e7,Option.bind_some,if_true]
  · have hf:good A H=false:=by simpa using h
    refine⟨([],false),([],false),(false,false),([],false),sh,([],[],false),⟨by simp,by simp,by simp,s1,by simp,hf.symm,fun g=>absurd g h,s2⟩,fun k hk=>?_⟩;have sml:uI.f k A H=some (good A H):=by
      unfold uI.f;rw[sm k hk];rfl
    have i1:=im k hk;have i2:=sm k hk;rw[hf]at i1 i2;refine⟨⟨?_,?_⟩,⟨?_,?_⟩,⟨?_,?_⟩,⟨?_,?_⟩,⟨(s3 k (by omega)).2,(s3 k (by omega)).1⟩,⟨?_,?_⟩,im k hk,sml⟩ <;> simp only[mU.f,xH.f,oQ.f,vG.f,qJ.f,yJ.f,xI.f,xJ.f,iU.f,dO.f,i1,i2,Option.bind_some,if_false,Bool.false_eq_true]
theorem UD (l:List Int) (k:Nat) (hl:l.length≤1000) (hk:l.length < k):jZ.f k l l=some true:=by
  have l0:∀ (s p:List Int) (k:Nat),(p ++ s).length≤1000→s.length < k→jZ.l0 k (p ++ s) (p ++ s) (p.length:Int)=some true:=by
    intro s
    induction s with
    | nil=>
      intro p k hl hk;obtain⟨k,rfl⟩:∃ m,k=m + 1:=⟨k - 1,by omega⟩
      simp only[jZ.l0];rw[if_neg (by simp)]
    | cons x s ih=>
      intro p k hl hk;simp only[List.length_cons]at hk;obtain⟨k,rfl⟩:∃ m,k=m + 1:=⟨k - 1,by omega⟩
      simp only[jZ.l0];rw[if_pos (by simp;omega),if_pos (by omega),if_pos (by simp;omega),if_pos trivial,uR p x (by simp at hl;omega),List.append_cons p x s];exact ih (p ++ [x]) k (by simpa using hl) (by omega)
  unfold jZ.f;rw[if_pos rfl];exact l0 l [] k (by simpa using hl) hk
theorem a7S (l:List R) (k:Nat) (hl:l.length≤1000) (hk:l.length < k):kX.f k l l=some true:=by
  have l0:∀ (s p:List R) (k:Nat),(p ++ s).length≤1000→s.length < k→kX.l0 k (p ++ s) (p ++ s) (p.length:Int)=some true:=by
    intro s
    induction s with
    | nil=>
      intro p k hl hk;obtain⟨k,rfl⟩:∃ m,k=m + 1:=⟨k - 1,by omega⟩
      simp only[kX.l0];rw[if_neg (by simp)]
    | cons x s ih=>
      intro p k hl hk;simp only[List.length_cons]at hk;obtain⟨k,rfl⟩:∃ m,k=m + 1:=⟨k - 1,by omega⟩
      simp only[kX.l0];rw[if_pos (by simp;omega),if_pos (by omega),if_pos (by simp;omega),if_pos trivial,if_pos trivial,uR p x (by simp at hl;omega),List.append_cons p x s];exact ih (p ++ [x]) k (by simpa using hl) (by omega)
  unfold kX.f;rw[if_pos rfl];exact l0 l [] k (by simpa using hl) hk
theorem aO1 (A H:List R) (k:Nat) (h1:A.length≤1000) (h2:H.length≤1000) (hk:1000 < k):AJ.f k A H A H=some true:=by
  unfold AJ.f;rw[a7S A k h1 (by omega),Option.bind_some,if_pos rfl,a7S H k h2 (by omega),Option.bind_some]
theorem b0R (l:List LL) (k:Nat) (hl:l.length≤1000) (hk:l.length < k):qU.f k l l=some true:=by
  have l0:∀ (s p:List LL) (k:Nat),(p ++ s).length≤1000→s.length < k→qU.l0 k (p ++ s) (p ++ s) (p.length:Int)=some true:=by
    intro s
    induction s with
    | nil=>
      intro p k hl hk;obtain⟨k,rfl⟩:∃ m,k=m + 1:=⟨k - 1,by omega⟩
      simp only[qU.l0];rw[if_neg (by simp)]
    | cons x s ih=>
      intro p k hl hk;simp only[List.length_cons]at hk;obtain⟨k,rfl⟩:∃ m,k=m + 1:=⟨k - 1,by omega⟩
      simp only[qU.l0];rw[if_pos (by simp;omega),if_pos (by omega),if_pos (by simp;omega),if_neg (by simp),uR p x (by simp at hl;omega),List.append_cons p x s];exact ih (p ++ [x]) k (by simpa using hl) (by omega)
  unfold qU.f;rw[if_pos rfl];exact l0 l [] k (by simpa using hl) hk
theorem aS8 (l:List Int) (b:Int) (hb:b≤10000000) (hl:l.length≤1000) (hx:∀ x ∈ l,-b≤x∧x≤b) (k:Nat) (hk:l.length < k):mK.f k l=some (tot l):=by
  have l0:∀ (s p:List Int) (k:Nat) (acc:Int),(p ++ s).length≤1000→(∀ x ∈ s,-10000000≤x∧x≤10000000)→ -100000000000 + 10000000 * s.length≤acc∧acc≤100000000000 - 10000000 * s.length→s.length < k→mK.l0 k (p ++ s) acc (p.length:Int)=some (acc + tot s):=by
    intro s
    induction s with
    | nil=>
      intro p k acc hl hx ha hk;obtain⟨k,rfl⟩:∃ m,k=m + 1:=⟨k - 1,by omega⟩
      simp only[mK.l0];rw[if_neg (by simp)];simp[tot]
    | cons x s ih=>
      intro p k acc hl hx ha hk;simp only[List.length_cons]at hk ha;obtain⟨k,rfl⟩:∃ m,k=m + 1:=⟨k - 1,by omega⟩
      have h:=hx x (by simp);simp only[mK.l0];rw[if_pos (by simp;omega),if_pos (by omega),rdI,cZ (x:=acc + x) (by omega) (by omega),uR p x (by simp at hl;omega),List.append_cons p x s,ih (p ++ [x]) k (acc + x) (by simpa using hl) (fun y hy=>hx y (by simp[hy])) (by omega) (by omega)];simp only[tot];rw[Int.add_assoc]
  unfold mK.f;have e:=l0 l [] k 0 (by simpa using hl) (fun x h=>by have:=hx x h;omega) (by omega) hk;rw[Int.zero_add]at e;exact e
theorem bIB {C:List Int} (hC:Bytes C) (hl:C.length≤65536) (a:Int) (h0:0≤a) (h1:a≤100):∃ D,J4.f C a=some D∧Bytes D:=by
  unfold J4.f;have bd:∀ (n:Nat) (x:Int),Bytes ([] ++ C.drop n ++ [x % 256]):=by
    intro n x y hy;simp only[List.nil_append]at hy;rcases List.mem_append.1 hy with e|e
    · exact hC y (List.mem_of_mem_drop e)
    · have:y=x % 256:=by simpa using e
      omega
  by_cases c:a > (C.length:Int)
  · rw[if_pos c,Option.bind_some,if_pos (by omega),if_pos (by omega),if_pos (by simp),Option.bind_some,if_pos (by simp)]
    exact⟨_,rfl,bd _ _⟩
  · rw[if_neg c,Option.bind_some,if_pos h0,if_pos (by omega),if_pos (by simp;omega),Option.bind_some,if_pos (by simp;omega)]
    exact⟨_,rfl,bd _ _⟩
theorem aO2 {A H:List R} {w:List Int} (o:aAV A H w) {W:List Int} (hW:WOk A.length W) (hq:KH A H W) (lv:∀ x ∈ tn W A H,x=0):w.length=(leaves [] H).length∧∀ i:Nat,i < w.length→rd (leaves [] H) (i:Int) * rd w 0=rd w (i:Int) * rd (leaves [] H) 0:=by
  have ok:=qW o.good;have o1:=ok.len;obtain⟨Z,g,hp,hg,hd,hw⟩:=o.parts;have e:=aNR wM vT Z A H 0 [] ok.same.symm (V5 ok);rw[List.nil_append]at e;have law:=b0L o.good hq hp lv;have z0:=hp.pos 0 (by omega);have w0:=(hW.bound 0 (by omega)).1;generalize hf:fl wM vT Z 0 A H=f at *;have hl:w.length=(leaves [] H).length:=by rw[e,hw];simp
  refine⟨hl,fun i hi=>?_⟩;have fi:i < f.length:=by rw[hw]at hi;simpa using hi
  have f0:0 < f.length:=by omega
  have e1:∀ j:Nat,j < f.length→∃ x ∈ f,rd (leaves [] H) (j:Int)=x.2∧rd w (j:Int)=x.1 / g:=by
    intro j hj;refine⟨f[j],List.getElem_mem hj,?_,?_⟩
    · rw[e]
      simp[rd,List.getD_eq_getElem?_getD,List.getElem?_eq_getElem hj]
    · rw[hw]
      simp[rd,List.getD_eq_getElem?_getD,List.getElem?_eq_getElem hj]
  obtain⟨x,hx,x1,x2⟩:=e1 i fi;obtain⟨y,hy,y1,y2⟩:=e1 0 f0;have lx:=law x hx;have ly:=law y hy;obtain⟨a,ha⟩:=hd x hx;obtain⟨b,hb⟩:=hd y hy;have q1:x.1 / g=a:=by rw[ha];exact Int.mul_ediv_cancel_left _ (by omega)
  have q2:y.1 / g=b:=by rw[hb];exact Int.mul_ediv_cancel_left _ (by omega)
  rw[Int.natCast_zero]at y1 y2;rw[x1,x2,y1,y2,q1,q2];rw[ha]at lx;rw[hb]at ly;rw[Int.natCast_zero]at z0 w0;generalize rd Z 0=Z0 at *;generalize rd W 0=W0 at *;refine Int.eq_of_mul_eq_mul_right (a:=g * (Z0 * W0)) (by have:=Int.mul_pos hg (Int.mul_pos z0 (show 0 < W0 by omega));omega) ?_;have t1:x.2 * b * (g * (Z0 * W0))=(x.2 * Z0) * (g * b * W0):=by ac_rfl
  have t2:a * y.2 * (g * (Z0 * W0))=(g * a * W0) * (y.2 * Z0):=by ac_rfl
  rw[t1,t2,lx,ly]
theorem aY4 {A H:List R} {w:List Int} (o:aAV A H w) {V:List Int} (hg:good A (hang w 0 H)=true) (hV:KH A (hang w 0 H) V):∀ x ∈ tn V A (hang w 0 H),x=0:=by
  have ok:=qW o.good;obtain⟨Z,g,hp,hg0,hd,hw⟩:=o.parts;have e:=bHZ (fun x=>x / g) wM vT Z A H 0 [] ok.same.symm (V5 ok);rw[List.nil_append,List.length_nil,← hw]at e;rw[e]at hV hg ⊢;exact b0J ok hp hg0 hd hV (qW hg)
theorem bYE (L w:List Int) (hl:w.length=L.length) (h0:L.length≤100) (hb:∀ i:Nat,i < w.length→rd L (i:Int) * rd w 0=rd w (i:Int) * rd L 0):∀ (d i:Nat) (k:Nat),i + d=L.length→d < k→laws_FnMobiles.l1 k L w (i:Int)=some true:=by
  intro d
  induction d with
  | zero=>
    intro i k hi hk;obtain⟨k,rfl⟩:∃ m,k=m + 1:=⟨k - 1,by omega⟩
    simp only[laws_FnMobiles.l1];rw[if_neg (by omega)]
  | succ d ih=>
    intro i k hi hk;obtain⟨k,rfl⟩:∃ m,k=m + 1:=⟨k - 1,by omega⟩
    simp only[laws_FnMobiles.l1];rw[if_pos (by omega),if_pos (by omega),if_pos (by omega),if_pos (by omega),if_pos (by omega),if_pos (by rw[hb i (by omega)]),cZ (x:=(i:Int) + 1) (by omega) (by omega),show(i:Int) + 1=((i + 1:Nat):Int)from by omega];exact ih (i + 1) k (by omega) (by omega)
theorem aO3 {l:List Int}:(l.all (fun x=>decide (x=0))=true) ↔ ∀ x ∈ l,x=0:=by
  rw[List.all_eq_true];simp
theorem bYF {A H:List R} (h:good A H=true) (hA:A.length≤6) {W:List Int} (hW:WOk A.length W) (hq:KH A H W) (w:List Int) (two:Bool) (ho:two=true→aAV A H w) (k:Nat) (hk:6000002000≤k):laws_FnMobiles.j2 k W ((tn W A H).all (fun x=>decide (x=0))) (leaves [] H) w two true A H=some true:=by
  have ok:=qW h;have o1:=ok.len;have o2:=ok.same;have hc:=aAS h;have hlv:=a0N H [];simp only[List.length_nil,Nat.zero_add]at hlv;have lt:=aDX h hq;have wb:=hW.bound 0 (by omega);have wl:=hW.len;have lb:∀ x ∈ leaves [] H,-10000≤x∧x≤10000:=by
    have e:=aNR (fun x _=>x) (fun x _=>x) [] A H 0 [] o2.symm (V5 ok);rw[List.nil_append]at e
    have f:=bEY (fun x _=>x) (fun x _=>x) [] (fun x=>-10000≤x.2∧x.2≤10000) A H 0 o2.symm (fun m hm=>by
      have f:=ok.fin m hm
      simp only[l7,kR,Bool.or_eq_true,decide_eq_true_eq]at f
      refine⟨fun h0=>?_,fun h0=>?_⟩ <;> simp only <;> omega)
    intro x hx;rw[e]at hx;obtain⟨y,hy,rfl⟩:=List.mem_map.1 hx;exact f y hy
  obtain⟨k,rfl⟩:∃ m,k=m + 1:=⟨k - 1,by omega⟩
  have va:=aS8 (leaves [] H) 10000 (by omega) (by omega) lb k (by omega);have len:(leaves [] H).length=A.length + 1:=by omega
  have pos:0 < (W.length:Int):=by omega
  have lwl:two=true→w.length=A.length + 1:=fun h2=>by
    have cn:=aNX (ho h2);omega
  have bPI:((leaves [] H).length:Int)=wrap64 ((A.length:Int) + 1):=by rw[cZ (by omega) (by omega),len];rfl
  simp only[laws_FnMobiles.j2,if_true];rw[if_pos bPI,va,Option.bind_some,if_pos pos,if_pos lt];clear bPI va lt;cases two with
  |false=>rfl
  | true=>
    have o:=ho rfl;have cn:=aNX o;obtain⟨g2,e2⟩:=aHQ h (w:=w) (lwl rfl) o.ok k (by omega);have ok2:=qW g2;obtain⟨V,hV,hv,hs⟩:=aGL ok2;have tl:=SG V A (hang w 0 H) ok2.same.symm;have z:=aY4 o g2 hv;have lvl:qJ.f k A (hang w 0 H)=some (true,true):=by
      obtain⟨e1,e3,e4,e5⟩:=hs k (by omega);have az:(tn V A (hang w 0 H)).all (fun x=>decide (x=0))=true:=aO3.2 z;simp only[qJ.f,zX.f,yE A (hang w 0 H) k (by omega),g2,e5,aNZ (tn V A (hang w 0 H)) k (by omega) (by omega),az,Bool.not_not,Option.bind_some,if_true]
    rw[if_pos rfl,e2,Option.bind_some];dsimp only;rw[lvl,Option.bind_some];dsimp only;rw[if_pos rfl,if_pos rfl,if_pos rfl];by_cases lv:(tn W A H).all (fun x=>decide (x=0))=true
    · rw[if_pos lv]
      obtain⟨c1,c2⟩:=aO2 o hW hq (aO3.1 lv);exact bYE (leaves [] H) w c1 (by omega) c2 (leaves [] H).length 0 k (by omega) (by omega)
    · rw[if_neg lv]
theorem bYG (T W L w:List Int) (lv two:Bool) (A H:List R) (hT:T.length≤100) (hb:∀ x ∈ T,-1000000≤x∧x≤1000000) (B:Nat) (hj:∀ k,B≤k→laws_FnMobiles.j2 k W lv L w two true A H=some true):∀ (d i:Nat) (k:Nat),i + d=T.length→B + d < k→laws_FnMobiles.l0 k T W lv L w two (T.map (fun x=>-x)) true (i:Int) A H=some true:=by
  intro d
  induction d with
  | zero=>
    intro i k hi hk;obtain⟨k,rfl⟩:∃ m,k=m + 1:=⟨k - 1,by omega⟩
    simp only[laws_FnMobiles.l0,if_true];rw[if_neg (by omega)];exact hj k (by omega)
  | succ d ih=>
    intro i k hi hk;obtain⟨k,rfl⟩:∃ m,k=m + 1:=⟨k - 1,by omega⟩
    have hi2:i < T.length:=by omega
    have e:rd (T.map (fun x=>-x)) (i:Int)= -rd T (i:Int):=by
      simp[rd,List.getD_eq_getElem?_getD,List.getElem?_eq_getElem hi2]
    have hm:rd T (i:Int) ∈ T:=by
      simp only[rd,Int.toNat_natCast];rw[List.getD_eq_getElem?_getD,List.getElem?_eq_getElem hi2];exact List.getElem_mem hi2
    have b:=hb _ hm;simp only[laws_FnMobiles.l0,if_true];rw[if_pos (by omega),if_pos (by omega),if_pos (by simp;omega),e,cZ (x:=-rd T (i:Int)) (by omega) (by omega),if_pos rfl,cZ (x:=(i:Int) + 1) (by omega) (by omega),show(i:Int) + 1=((i + 1:Nat):Int)from by omega];exact ih (i + 1) k (by omega) (by omega)
theorem bPJ {A H:List R} (ok:OJ A H) {W:List Int} (hW:WOk A.length W):∀ x ∈ tn W A H,-1000000≤x∧x≤1000000:=by
  refine bEZ _ W A H ok.same.symm (fun j hj=>?_);have b:=bEV ok hW j hj;have a:=aDV ok j hj;have m0:=aJ5 a.1 b.1;have m1:=aJ5 a.2 b.2;omega
theorem bYH {A H:List R} (hA:A.length≤6) {t w:List Int × Bool} {lv:Bool × Bool} {le sh:List Int × Bool} {mi:List R × List R × Bool} (o:aO0 A H t w lv le sh mi) (k:Nat) (hk:6000003000≤k):laws_FnMobiles.j0 k t.1 t.2 w.1 lv.1 le.1 sh.1 sh.2 A H mi.1 mi.2.1=some true:=by
  obtain⟨k,rfl⟩:∃ m,k=m + 1:=⟨k - 1,by omega⟩
  simp only[laws_FnMobiles.j0];by_cases h:good A H=true
  · obtain⟨W,hW,hq,rfl,rfl,rfl,rfl,rfl⟩:=o.ok h
    have ok:=qW h;have g2:=aS2 h;have ok2:=qW g2;obtain⟨V,hV,hv,hs⟩:=aGL ok2;have mir:=aY1 h hW hq hV hv;have tl:=SG W A H ok.same.symm;have rt:mU.f k (A.map sw) (H.map sw)=some ((tn W A H).map (fun x=>-x),true):=by
      simp only[mU.f,yE (A.map sw) (H.map sw) k (by omega),g2,(hs k (by omega)).2.2.2,mir,Option.bind_some,if_true]
    dsimp only;rw[if_pos rfl,rt,Option.bind_some];dsimp only;exact bYG _ _ _ _ _ _ A H (by omega) (bPJ ok hW) 6000002000 (fun k hk=>bYF h hA hW hq sh.1 sh.2 o.sh2 k hk) (tn W A H).length 0 k (by omega) (by omega)
  · have t2:=o.t2
    have hf:good A H=false:=by simpa using h
    rw[hf]at t2;rw[t2,if_neg (by decide)]
theorem bPK {A H:List R} {t w:List Int × Bool} {lv:Bool × Bool} {le sh:List Int × Bool} {mi:List R × List R × Bool} (o:aO0 A H t w lv le sh mi) {z:Int} {O:List LL} (l:aY2 A H z O) (k:Nat) (hk:1000≤k):t.2=true∧w.2=true∧r9.f k O z=some (tot t.1,true)∧vQ.f k O=some (rd w.1 0,true)∧mK.f k t.1=some (tot t.1)∧0 < (w.1.length:Int):=by
  obtain⟨W,hW,hq,rfl,rfl,rfl,rfl,rfl⟩:=o.ok l.good;have ok:=qW l.good;have o1:=ok.len;have law:=bPA l hq k (by omega);have tl:=SG W A H ok.same.symm;have wl:=hW.len;exact⟨rfl,rfl,law.1,law.2,aS8 _ 1000000 (by omega) (by omega) (bPJ ok hW) k (by omega),by simp only;omega⟩
theorem FnMobiles:laws_FnMobiles.Pure:=by
  intro l0 h1 h2 hw;have hC:=b8A hw;by_cases big:(l0.length:Int) > 65536
  · refine⟨1,?_⟩
    unfold laws_FnMobiles.f ET.f;rw[Option.bind_some,if_pos (decide_eq_true big)]
  · obtain⟨m,m1,m2⟩:=aHJ hC 0 0 (by omega) (by omega)
    obtain⟨D,d1,d2⟩:=bIB hC (by omega) 1 (by omega) (by omega);obtain⟨u,u1,u2⟩:=aHJ d2 0 0 (by omega) (by omega);obtain⟨z,p',s',z1,z2,z3,z4⟩:=a0O d2 u.2.2.1 u.2.2.2 [30,20,40,30,5,60,61,(-1)] (by have:=u1.p1;omega) (by have:=u1.p2;omega) (by simp);obtain⟨t,w,lv,le,sh,mi,o,r⟩:=b0Q m.1 m.2.1 m1.a m1.h m1.sh.wf;obtain⟨t',w',lv',le',sh',mi',o',r'⟩:=b0Q u.1 u.2.1 u1.a u1.h u1.sh.wf;have ua:=u1.a;have uh:=u1.h;obtain⟨O,O1,O2,O3⟩:=bI8 u.1 u.2.1 z (by omega) u1.sh.wf;obtain⟨K,hK⟩:∃ K:Nat,6000005000≤K:=⟨_,Nat.le_refl _⟩
    refine⟨K,?_⟩;have dm:∀ k,6000000200≤k→vC.f k l0=some (m.1,m.2.1):=fun k hk=>by
      unfold vC.f nJ.f;rw[m2 k hk];rfl
    have du:∀ k,6000000200≤k→eG.f k D=some (u.1,u.2.1,z):=fun k hk=>by
      unfold eG.f;rw[u2 k hk,Option.bind_some,z1];rfl
    have j0:=bYH m1.a o K (by omega);obtain⟨⟨a1,a2⟩,⟨a3,a4⟩,⟨a5,a6⟩,⟨a7,a8⟩,⟨a9,a10⟩,⟨a11,a12⟩,a13,a14⟩:=r K (by omega);obtain⟨⟨b1,b2⟩,⟨b3,b4⟩,_⟩:=r' K (by omega);obtain⟨c1,c2⟩:=O3 K (by omega);have vt:=UD t.1 K (by have:=o.tl;omega) (by have:=o.tl;omega);have vw:=UD w.1 K (by have:=o.wl;omega) (by have:=o.wl;omega);have vl:=UD le.1 K (by have:=o.ll;omega) (by have:=o.ll;omega);have vs:=UD sh.1 K (by have:=o.sl;omega) (by have:=o.sl;omega);have vm:=aO1 mi.1 mi.2.1 K (by have:=o.ml;omega) (by have:=o.ml;omega) (by omega);have vr:=b0R O.1 K (by omega) (by omega);have e0:=dm K (by omega);have e1:=du K (by omega);have row:O.2=true→t'.2=true∧w'.2=true∧r9.f K O.1 z=some (tot t'.1,true)∧vQ.f K O.1=some (rd w'.1 0,true)∧mK.f K t'.1=some (tot t'.1)∧0 < (w'.1.length:Int):=fun ho=>bPK o' (O2 ho) K (by omega)
    have t2:=o.t2;have bg:¬ ((decide ((l0.length:Int) > 65536))=true):=by simpa using big
    unfold laws_FnMobiles.f ET.f;rw[Option.bind_some,if_neg bg,e0,Option.bind_some];dsimp only;rw[a1,Option.bind_some,a2,Option.bind_some,a3,Option.bind_some,a4,Option.bind_some,a5,Option.bind_some,a6,Option.bind_some,a7,Option.bind_some,a8,Option.bind_some,a9,Option.bind_some,a10,Option.bind_some,a11,Option.bind_some,a12,Option.bind_some,d1,Option.bind_some,e1,Option.bind_some];dsimp only;rw[c2,Option.bind_some,c1,Option.bind_some];simp only[bne_self_eq_false,Bool.false_eq_true,if_false,vt,vw,vl,vs,vm,vr,Option.bind_some,if_true,a13,a14,t2];by_cases ho:O.2=true
    · obtain⟨q1,q2,q3,q4,q5,q6⟩:=row ho
      rw[if_pos ho,b1,Option.bind_some,q3,Option.bind_some,q4,Option.bind_some,b3,Option.bind_some];dsimp only;rw[if_pos q1,if_pos rfl,if_pos rfl,if_pos q2,q5,Option.bind_some,if_pos rfl,if_pos q6,if_pos rfl,← t2];exact j0
    · rw[if_neg ho,← t2]
      exact j0
end Go.Proofs.Ytinlhiakpmcagaa.Pure
