import Derived.Test.YtinlhiakpmcagaaZFnExactFirstHangingx13
set_option linter.unusedVariables false
set_option linter.unusedSimpArgs false
namespace Go.Proofs.Ytinlhiakpmcagaa.Pure
open Go.RowKit Go.Proofs.YtinlhiakpmcagaaW.PrintWords Go.Proofs.YtinlhiakpmcagaaW.PrintLast Go.Proofs.Ytinlhiakpmcagaa.PFnExactFirstHanging
theorem dS {x:Int} (h0: -9223372036854775808≤x) (h1:x≤9223372036854775807):wrap64 x=x:=by
  unfold wrap64;omega
theorem aPF {x:Int} (h:(Lit.int .i64 x).wf=true): -9223372036854775808≤x∧x≤9223372036854775807:=by
  simp[Lit.wf,IntKind.min,IntKind.max,IntKind.signed,IntKind.bits]at h;omega
theorem HZ (a b c:Int):gM.f a b c=some (decide (b≤a∧a≤c)):=by
  unfold gM.f
  split <;> simp_all
  omega
theorem F7 (a b c:Int):gG.f a b c=some (decide (b≤a∧a≤c)):=by
  unfold gG.f
  split <;> simp_all
  omega
theorem oL {α:Type} (p:List α) (x:α) (h:p.length < 9223372036854775807):wrap64 ((p.length:Int) + 1)=((p ++ [x]).length:Int):=by
  rw[dS (by omega) (by omega)];simp
theorem aV0 (n:Nat) (h:n≤9223372036854775807):wrap64 (1048576 - (n:Int))=1048576 - (n:Int):=dS (by omega) (by omega)
theorem a3L {α:Type} (q:List α) (z y:α) (n:Nat):(q ++ List.replicate (n + 1) z).set q.length y=(q ++ [y]) ++ List.replicate n z:=by
  rw[List.set_append_right _ _ (Nat.le_refl _),Nat.sub_self];simp[List.replicate_succ]
abbrev R:=S64
theorem BC (p s:List R) (x:R):aD (p ++ x::s) ((p.length:Int))=x:=by
  simp[aD]
def Wf (h:Int):Prop:=-9223372036854775808≤h∧h≤9223372036854775807
def WfR (l:List R):Prop:=∀ x ∈ l,Wf x.f0∧Wf x.f1
def mP (a:Int):Bool:=decide (1≤a∧a≤12)
def iU (h:Int):Bool:=decide (1≤h∧h≤99)
def lG (i n h:Int):Bool:=iU h||decide (i + 1≤ -h∧ -h≤n - 1)
def bump (T:List Int) (h:Int):List Int:=if h < 0 then T.set (-h).toNat (wrap64 (rd T (-h) + 1))else T
def DU (T:List Int):Bool:=T.all (fun t=>decide (t=1))
def gS (n:Int):Int→List R→List R→List Int→Bool
  |i,a::us,h::hs,T=>(mP a.f0 && lG i n h.f0) && ((mP a.f1 && lG i n h.f1) && gS n (i + 1) us hs (bump (bump T h.f0) h.f1))
  |_,_,_,T=>DU T
def lH (i n:Int) (B:List Bool) (h:Int):Bool:=iU h||(decide (i + 1≤ -h∧ -h≤n - 1) && !(mX false B (-h)))
def mark (B:List Bool) (h:Int):List Bool:=if h < 0 then B.set (-h).toNat true else B
def gI (n:Int):Int→List R→List R→List Bool→Bool
  |i,a::us,h::hs,B=>(mP a.f0 && mP a.f1) && (lH i n B h.f0 && (lH i n (mark B h.f0) h.f1 && gI n (i + 1) us hs (mark (mark B h.f0) h.f1)))
  |_,_,_,B=>(B.drop 1).all id
theorem FQ (T:List Int) (h:Int):(bump T h).length=T.length:=by unfold bump;split <;> simp
theorem mW (B:List Bool) (h:Int):(mark B h).length=B.length:=by unfold mark;split <;> simp
def big (m:Int) (T:List Int):Prop:=∃ j,2≤T.getD j 0∧T.getD j 0≤m
theorem Q9 {m:Int} {T:List Int} (h:Int) (hm:m≤1000000) (hb:big m T):big (m + 1) (bump T h):=by
  obtain⟨j,h1,h2⟩:=hb;refine⟨j,?_⟩;unfold bump;by_cases h0:h < 0
  · rw[if_pos h0]
    by_cases hj:(-h).toNat=j
    · have hl:j < T.length:=by
        rcases Nat.lt_or_ge j T.length with hl|hl
        · exact hl
        · rw[List.getD_eq_getElem?_getD,List.getElem?_eq_none hl]at h1
          simp at h1
      have e:(T.set (-h).toNat (wrap64 (rd T (-h) + 1))).getD j 0=T.getD j 0 + 1:=by
        rw[List.getD_eq_getElem?_getD,List.getElem?_set,if_pos hj,if_pos (by omega)];simp only[rd,hj,Option.getD_some];exact dS (by omega) (by omega)
      rw[e];omega
    · have e:(T.set (-h).toNat (wrap64 (rd T (-h) + 1))).getD j 0=T.getD j 0:=by
        rw[List.getD_eq_getElem?_getD,List.getElem?_set,if_neg hj,List.getD_eq_getElem?_getD]
      rw[e];omega
  · rw[if_neg h0]
    omega
theorem a3M {m:Int} {T:List Int} (hb:big m T):DU T=false:=by
  obtain⟨j,h1,h2⟩:=hb;have hl:j < T.length:=by
    rcases Nat.lt_or_ge j T.length with hl|hl
    · exact hl
    · rw[List.getD_eq_getElem?_getD,List.getElem?_eq_none hl]at h1
      simp at h1
  rw[List.getD_eq_getElem?_getD,List.getElem?_eq_getElem hl]at h1;unfold DU;rw[List.all_eq_false];refine⟨T[j],List.getElem_mem hl,?_⟩;simp at h1 ⊢;omega
theorem a9K (n:Int):∀ (us hs:List R) (i m:Int) (T:List Int),m + 2 * us.length≤1000000→big m T→gS n i us hs T=false:=by
  intro us
  induction us with
  |nil=>intro hs i m T hm hb;unfold gS;exact a3M hb
  | cons a us ih=>
    intro hs i m T hm hb;cases hs with
    |nil=>unfold gS;exact a3M hb
    | cons h hs=>
      simp only[List.length_cons,Int.natCast_add,Int.natCast_one]at hm;simp only[gS];rw[ih hs (i + 1) (m + 1 + 1) _ (by omega) (Q9 _ (by omega) (Q9 _ (by omega) hb))];simp
def F8:List Bool→List Int
  |[]=>[]
  |_::bs=>1::bs.map (fun b=>if b then 1 else 0)
theorem UZ (B:List Bool):(F8 B).length=B.length:=by cases B <;> simp[F8]
theorem a9L (B:List Bool) (j:Nat) (hj:j + 1 < B.length):(F8 B).getD (j + 1) 0=if B.getD (j + 1) false then 1 else 0:=by
  cases B with
  |nil=>simp at hj
  | cons b bs=>
    simp only[List.length_cons]at hj;have h2:j < bs.length:=by omega
    simp[F8,List.getD_eq_getElem?_getD,List.getElem?_eq_getElem h2]
theorem XK (B:List Bool) (i n h:Int) (hi:0≤i) (hn:n=B.length) (hs:lH i n B h=true):bump (F8 B) h=F8 (mark B h):=by
  unfold bump mark;by_cases h0:h < 0
  · rw[if_pos h0,if_pos h0]
    simp only[lH,iU,Bool.or_eq_true,Bool.and_eq_true,decide_eq_true_eq,Bool.not_eq_true']at hs;rcases hs with hs|hs
    · omega
    · obtain⟨j,hj⟩:∃ j:Nat,(-h).toNat=j + 1:=⟨(-h).toNat - 1,by omega⟩
      have hl:j + 1 < B.length:=by omega
      have e1:=a9L B j hl;have e2:B.getD (j + 1) false=false:=by rw[← hj];exact hs.2
      rw[e2]at e1;simp only[rd,hj];rw[e1];rw[show wrap64 ((if false=true then(1:Int)else 0) + 1)=1 from dS (by simp) (by simp)];cases B with
      |nil=>simp at hl
      |cons b bs=>simp[F8,List.set_cons_succ,List.map_set]
  · rw[if_neg h0,if_neg h0]
theorem a9M (B:List Bool) (i n h:Int) (hi:0≤i) (hn:n=B.length) (he:lG i n h=true) (hs:lH i n B h=false):big 2 (bump (F8 B) h):=by
  simp only[lH,lG,Bool.or_eq_true,Bool.or_eq_false_iff]at hs he;rw[hs.1]at he;simp only[Bool.false_eq_true,false_or,decide_eq_true_eq]at he;have hb:mX false B (-h)=true:=by simpa [he] using hs.2
  obtain⟨j,hj⟩:∃ j:Nat,(-h).toNat=j + 1:=⟨(-h).toNat - 1,by omega⟩
  have hl:j + 1 < B.length:=by omega
  have e1:=a9L B j hl;have e2:B.getD (j + 1) false=true:=by rw[← hj];exact hb
  rw[e2,if_pos rfl]at e1;refine⟨j + 1,?_⟩;unfold bump;rw[if_pos (by omega)];simp only[rd,hj];rw[e1,List.getD_eq_getElem?_getD,List.getElem?_set,if_pos rfl,if_pos (by rw[UZ];exact hl)];rw[show wrap64 (1 + 1)=2 from dS (by omega) (by omega)];simp
theorem NB {i n:Int} {B:List Bool} {h:Int} (hs:lH i n B h=true):lG i n h=true:=by
  unfold lH at hs;unfold lG
  revert hs
  cases iU h <;> simp
  intro h1 h2 _;exact⟨h1,h2⟩
theorem aV1 (n:Int):∀ (us hs:List R) (i:Int) (B:List Bool),0≤i→n=B.length→1≤n→us.length≤1000→gS n i us hs (F8 B)=gI n i us hs B:=by
  intro us;have base:∀ B:List Bool,n=B.length→1≤n→DU (F8 B)=(B.drop 1).all id:=by
    intro B h1 h2;cases B with
    |nil=>simp at h1;omega
    | cons b bs=>
      simp only[DU,F8,List.all_cons,decide_true,Bool.true_and,List.all_map,List.drop_succ_cons,List.drop_zero];congr 1;funext x;cases x <;> simp
  induction us with
  |nil=>intro hs i B hi hn h1 _;unfold gS gI;exact base B hn h1
  | cons a us ih=>
    intro hs i B hi hn h1 hl;simp only[List.length_cons]at hl;cases hs with
    |nil=>unfold gS gI;exact base B hn h1
    | cons h hs=>
      simp only[gS,gI];by_cases c0:mP a.f0=true
      · by_cases c1:mP a.f1=true
        · by_cases s0:lH i n B h.f0=true
          · have b0:=XK B i n h.f0 hi hn s0
            have hn2:n=(mark B h.f0).length:=by rw[mW];exact hn
            by_cases s1:lH i n (mark B h.f0) h.f1=true
            · have b1:=XK (mark B h.f0) i n h.f1 hi hn2 s1
              rw[c0,c1,s0,s1,NB s0,NB s1,b0,b1,ih hs (i + 1) _ (by omega) (by rw[mW];exact hn2) h1 (by omega)];simp
            · rw[Bool.not_eq_true]at s1
              rw[s1];by_cases e1:lG i n h.f1=true
              · have g:=a9M (mark B h.f0) i n h.f1 hi hn2 e1 s1
                rw[b0,a9K n us hs (i + 1) 2 _ (by omega) g];simp
              · rw[Bool.not_eq_true]at e1
                rw[e1];simp
          · rw[Bool.not_eq_true]at s0
            rw[s0];by_cases e0:lG i n h.f0=true
            · have g:=a9M B i n h.f0 hi hn e0 s0
              rw[a9K n us hs (i + 1) 3 _ (by omega) (Q9 _ (by omega) g)];simp
            · rw[Bool.not_eq_true]at e0
              rw[e0];simp
        · rw[Bool.not_eq_true]at c1
          rw[c1];simp
      · rw[Bool.not_eq_true]at c0
        rw[c0];simp
theorem uM (x:Int):gM.f x 1 12=some (mP x):=HZ x 1 12
theorem a0Q (i n h:Int) (hi:0≤i∧i≤100) (hn:0≤n∧n≤100) (hw:Wf h):pY.f i h n=some (lG i n h):=by
  unfold Wf at hw;unfold pY.f lG iU;rw[HZ,Option.bind_some,HZ];by_cases h1:1≤h∧h≤99
  · simp[h1]
  · rw[decide_eq_false h1,if_neg (by simp),Option.bind_some,Bool.false_or,dS (x:=i + 1) (by omega) (by omega),dS (x:=n - 1) (by omega) (by omega)]
    by_cases h2:i + 1≤ -h∧ -h≤n - 1
    · rw[dS (x:=-h) (by omega) (by omega)]
      have h3:h < 0:=by omega
      simp[h2,h3]
    · have h3:¬ (i + 1≤wrap64 (-h)∧wrap64 (-h)≤n - 1):=by
        unfold wrap64;omega
      rw[decide_eq_false h3,decide_eq_false h2,if_neg (by simp)]
theorem child {i n h:Int} (he:lG i n h=true) (h0:h < 0):i + 1≤ -h∧ -h≤n - 1:=by
  simp only[lG,iU,Bool.or_eq_true,decide_eq_true_eq]at he;omega
theorem aPG (n i:Int) (T:List Int) (A H:List R) (a h:R) (k:Nat) (hA:aD A i=a) (hH:aD H i=h) (c0:0≤i) (c1:i < A.length) (c2:i < H.length) (hi:i≤100) (hn:0≤n∧n≤100) (hT:(T.length:Int)=n) (hw:Wf h.f0):
    aQ.l1 (k + 2) n T i 0 A H=if (mP a.f0 && lG i n h.f0)=true then aQ.l1 k n (bump T h.f0) i 1 A H else some false:=by
  have e:=a0Q i n h.f0 ⟨c0,hi⟩ hn hw;have w1:wrap64 (0 + 1)=1:=dS (by omega) (by omega);by_cases h1:mP a.f0=true
  · by_cases h2:lG i n h.f0=true
    · by_cases h3:h.f0 < 0
      · have ch:=child h2 h3
        have w:=dS (x:=-h.f0) (by omega) (by omega);have r0:0≤ -h.f0:=by omega
        have r1: -h.f0 < (T.length:Int):=by omega
        rw[show aQ.l1 (k + 2) n T i 0 A H=aQ.j3 (k + 1) n T i 0 (!true) A H from by simp only[aQ.l1,c0,c1,c2,hA,hH,uM,e,h1,h2,Option.bind_some,if_true,Int.reduceLT]];simp only[aQ.j3,c0,c2,hH,h1,h2,h3,w,r0,r1,w1,bump,Bool.and_self,Bool.not_true,Bool.false_eq_true,if_true,if_false]
      · rw[show aQ.l1 (k + 2) n T i 0 A H=aQ.j3 (k + 1) n T i 0 (!true) A H from by simp only[aQ.l1,c0,c1,c2,hA,hH,uM,e,h1,h2,Option.bind_some,if_true,Int.reduceLT]]
        simp only[aQ.j3,c0,c2,hH,h1,h2,h3,w1,bump,Bool.and_self,Bool.not_true,Bool.false_eq_true,if_true,if_false]
    · rw[Bool.not_eq_true]at h2
      rw[show aQ.l1 (k + 2) n T i 0 A H=aQ.j3 (k + 1) n T i 0 (!false) A H from by simp only[aQ.l1,c0,c1,c2,hA,hH,uM,e,h1,h2,Option.bind_some,if_true,Int.reduceLT]];simp only[aQ.j3,h1,h2,Bool.and_false,Bool.not_false,Bool.false_eq_true,if_true,if_false]
  · rw[Bool.not_eq_true]at h1
    rw[show aQ.l1 (k + 2) n T i 0 A H=aQ.j3 (k + 1) n T i 0 true A H from by simp only[aQ.l1,c0,c1,hA,uM,h1,Option.bind_some,if_true,if_false,Bool.false_eq_true,Int.reduceLT]];simp only[aQ.j3,h1,Bool.false_and,Bool.false_eq_true,if_true,if_false]
theorem aPH (n i:Int) (T:List Int) (A H:List R) (a h:R) (k:Nat) (hA:aD A i=a) (hH:aD H i=h) (c0:0≤i) (c1:i < A.length) (c2:i < H.length) (hi:i≤100) (hn:0≤n∧n≤100) (hT:(T.length:Int)=n) (hw:Wf h.f1):
    aQ.l1 (k + 2) n T i 1 A H=if (mP a.f1 && lG i n h.f1)=true then aQ.l1 k n (bump T h.f1) i 2 A H else some false:=by
  have e:=a0Q i n h.f1 ⟨c0,hi⟩ hn hw;have w1:wrap64 (1 + 1)=2:=dS (by omega) (by omega);have q:¬ ((1:Int)=0):=by omega
  by_cases h1:mP a.f1=true
  · by_cases h2:lG i n h.f1=true
    · by_cases h3:h.f1 < 0
      · have ch:=child h2 h3
        have w:=dS (x:=-h.f1) (by omega) (by omega);have r0:0≤ -h.f1:=by omega
        have r1: -h.f1 < (T.length:Int):=by omega
        rw[show aQ.l1 (k + 2) n T i 1 A H=aQ.j3 (k + 1) n T i 1 (!true) A H from by simp only[aQ.l1,c0,c1,c2,hA,hH,uM,e,h1,h2,q,Option.bind_some,if_true,if_false,Int.reduceLT]];simp only[aQ.j3,c0,c2,hH,h1,h2,h3,w,r0,r1,w1,q,bump,Bool.and_self,Bool.not_true,Bool.false_eq_true,if_true,if_false]
      · rw[show aQ.l1 (k + 2) n T i 1 A H=aQ.j3 (k + 1) n T i 1 (!true) A H from by simp only[aQ.l1,c0,c1,c2,hA,hH,uM,e,h1,h2,q,Option.bind_some,if_true,if_false,Int.reduceLT]]
        simp only[aQ.j3,c0,c2,hH,h1,h2,h3,w1,q,bump,Bool.and_self,Bool.not_true,Bool.false_eq_true,if_true,if_false]
    · rw[Bool.not_eq_true]at h2
      rw[show aQ.l1 (k + 2) n T i 1 A H=aQ.j3 (k + 1) n T i 1 (!false) A H from by simp only[aQ.l1,c0,c1,c2,hA,hH,uM,e,h1,h2,q,Option.bind_some,if_true,if_false,Int.reduceLT]];simp only[aQ.j3,h1,h2,Bool.and_false,Bool.not_false,Bool.false_eq_true,if_true,if_false]
  · rw[Bool.not_eq_true]at h1
    rw[show aQ.l1 (k + 2) n T i 1 A H=aQ.j3 (k + 1) n T i 1 true A H from by simp only[aQ.l1,c0,c1,hA,uM,h1,q,Option.bind_some,if_true,if_false,Bool.false_eq_true,Int.reduceLT]];simp only[aQ.j3,h1,Bool.false_and,Bool.false_eq_true,if_true,if_false]
theorem aZV (n:Int):∀ (s p:List Int) (k:Nat),((p ++ s).length:Int)=n→n≤100→s.length < k→aQ.l2 k n (p ++ s) (p.length:Int)=some (DU s):=by
  intro s
  induction s with
  | nil=>
    intro p k hn h1 hk;obtain⟨k,rfl⟩:∃ m,k=m + 1:=⟨k - 1,by simp at hk;omega⟩
    simp only[aQ.l2];rw[if_neg (by simp at hn;omega)];rfl
  | cons x s ih=>
    intro p k hn h1 hk;obtain⟨k,rfl⟩:∃ m,k=m + 1:=⟨k - 1,by simp at hk;omega⟩
    have hr:rd (p ++ x::s) (p.length:Int)=x:=by simp[rd]
    simp only[aQ.l2];rw[if_pos (by simp at hn;omega),if_pos (by omega),if_pos (by simp at hn ⊢;omega),hr,oL p x (by simp at hn;omega),List.append_cons p x s,ih (p ++ [x]) k (by simpa using hn) h1 (by simp at hk;omega)];by_cases hx:x=1 <;> simp[DU,hx]
theorem aZW (n:Int):∀ (us hs:List R) (p q:List R) (T:List Int) (k:Nat),p.length=q.length→us.length=hs.length→((p ++ us).length:Int)=n→n≤6→(T.length:Int)=n→WfR hs→6 * us.length + 20≤k→
    aQ.l0 k n T (p.length:Int) (p ++ us) (q ++ hs)=some (gS n (p.length:Int) us hs T):=by
  intro us
  induction us with
  | nil=>
    intro hs p q T k hpq hl hn h6 hT hw hk;obtain⟨k,rfl⟩:∃ m,k=m + 1:=⟨k - 1,by omega⟩
    simp only[aQ.l0,gS];rw[if_neg (by simp at hn;omega)];exact aZV n T [] k hT (by omega) (by omega)
  | cons a us ih=>
    intro hs p q T k hpq hl hn h6 hT hw hk;cases hs with
    |nil=>simp at hl
    | cons h hs=>
      simp only[List.length_cons]at hk;obtain⟨k,rfl⟩:∃ m,k=m + 6:=⟨k - 6,by omega⟩
      have hA:=BC p us a;have hH:aD (q ++ h::hs) (p.length:Int)=h:=by rw[hpq];exact BC q hs h
      have hw0:=hw h (by simp);simp only[List.length_append,List.length_cons,Int.natCast_add,Int.natCast_one]at hn;simp only[List.length_cons]at hl;have d1:(p.length:Int) < ((p ++ a::us).length:Int):=by simp;omega
      have d2:(p.length:Int) < ((q ++ h::hs).length:Int):=by simp;omega
      have d3:(p.length:Int) < n:=by omega
      rw[show aQ.l0 (k + 6) n T (p.length:Int) (p ++ a::us) (q ++ h::hs)=aQ.l1 (k + 5) n T (p.length:Int) 0 (p ++ a::us) (q ++ h::hs)from by simp only[aQ.l0,d3,if_true]];rw[aPG n _ T _ _ a h (k + 3) hA hH (by omega) d1 d2 (by omega) (by omega) hT hw0.1];simp only[gS];by_cases g0:(mP a.f0 && lG (p.length:Int) n h.f0)=true
      · rw[if_pos g0,g0,aPH n _ _ _ _ a h (k + 1) hA hH (by omega) d1 d2 (by omega) (by omega) (by rw[FQ];exact hT) hw0.2]
        by_cases g1:(mP a.f1 && lG (p.length:Int) n h.f1)=true
        · rw[if_pos g1,g1]
          rw[show aQ.l1 (k + 1) n (bump (bump T h.f0) h.f1) (p.length:Int) 2 (p ++ a::us) (q ++ h::hs)=aQ.l0 k n (bump (bump T h.f0) h.f1) (wrap64 ((p.length:Int) + 1)) (p ++ a::us) (q ++ h::hs)from by simp only[aQ.l1,Int.reduceLT,if_false]];rw[oL p a (by omega),List.append_cons p a us,List.append_cons q h hs];rw[ih hs (p ++ [a]) (q ++ [h]) _ k (by simp[hpq]) (by omega) (by simp;omega) h6 (by rw[FQ,FQ];exact hT) (fun x hx=>hw x (by simp[hx])) (by omega)];simp
        · rw[if_neg g1]
          rw[Bool.not_eq_true]at g1;rw[g1];simp
      · rw[if_neg g0]
        rw[Bool.not_eq_true]at g0;rw[g0];simp
theorem QA (a:Int):nV.f a=some (mP a):=by simp only[nV.f,F7,Option.bind_some,mP]
theorem uN (a:Int):gX.f a=some (iU a):=by simp only[gX.f,F7,Option.bind_some,iU]
theorem V3 (i n h:Int) (hi:0≤i∧i≤100) (hn:0≤n∧n≤100):gG.f h (wrap64 (1 - n)) (wrap64 (wrap64 (-i) - 1))=some (decide (i + 1≤ -h∧ -h≤n - 1)):=by
  rw[F7,dS (x:=1 - n) (by omega) (by omega),dS (x:=-i) (by omega) (by omega),dS (x:=-i - 1) (by omega) (by omega)];congr 1;apply decide_eq_decide.2;omega
theorem aPI (n i len:Int) (B:List Bool) (A L H:List R) (u v:Int) (k:Nat) (c0:0≤i) (hi:i≤100) (hn:0≤n∧n≤100) (hB:(B.length:Int)=n):
    aW.l1 (k + 1) n B i A len i 0 L H u v=if lH i n B u=true then aW.l1 k n (mark B u) i A len i 1 L H u v else some false:=by
  have w1:wrap64 (0 + 1)=1:=dS (by omega) (by omega);by_cases h1:iU u=true
  · have h3:¬ u < 0:=by simp[iU]at h1;omega
    simp only[aW.l1,uN,h1,h3,w1,lH,mark,Bool.true_or,Option.bind_some,if_true,if_false,Int.reduceLT]
  · rw[Bool.not_eq_true]at h1
    by_cases h2:i + 1≤ -u∧ -u≤n - 1
    · have w:=dS (x:=-u) (by omega) (by omega)
      have r0:0≤ -u:=by omega
      have r1: -u < (B.length:Int):=by omega
      have h3:u < 0:=by omega
      cases hb:mX false B (-u) <;> simp only[aW.l1,uN,V3 i n u ⟨c0,hi⟩ hn,h1,h2,h3,hb,w,r0,r1,w1,lH,mark,Bool.false_or,Bool.true_and,Bool.not_true,Bool.not_false,and_self,decide_true,Option.bind_some,if_true,if_false,Bool.false_eq_true,Int.reduceLT]
    · simp only[aW.l1,uN,V3 i n u ⟨c0,hi⟩ hn,h1,h2,lH,Bool.false_or,Bool.false_and,decide_false,Option.bind_some,if_true,if_false,Bool.false_eq_true,Int.reduceLT]
theorem aPJ (n i len:Int) (B:List Bool) (A L H:List R) (u v:Int) (k:Nat) (c0:0≤i) (hi:i≤100) (hn:0≤n∧n≤100) (hB:(B.length:Int)=n):
    aW.l1 (k + 1) n B i A len i 1 L H u v=if lH i n B v=true then aW.l1 k n (mark B v) i A len i 2 L H u v else some false:=by
  have w1:wrap64 (1 + 1)=2:=dS (by omega) (by omega);have q:¬ ((1:Int)=0):=by omega
  by_cases h1:iU v=true
  · have h3:¬ v < 0:=by simp[iU]at h1;omega
    simp only[aW.l1,uN,h1,h3,w1,q,lH,mark,Bool.true_or,Option.bind_some,if_true,if_false,Int.reduceLT]
  · rw[Bool.not_eq_true]at h1
    by_cases h2:i + 1≤ -v∧ -v≤n - 1
    · have w:=dS (x:=-v) (by omega) (by omega)
      have r0:0≤ -v:=by omega
      have r1: -v < (B.length:Int):=by omega
      have h3:v < 0:=by omega
      cases hb:mX false B (-v) <;> simp only[aW.l1,uN,V3 i n v ⟨c0,hi⟩ hn,h1,h2,h3,hb,w,r0,r1,w1,q,lH,mark,Bool.false_or,Bool.true_and,Bool.not_true,Bool.not_false,and_self,decide_true,Option.bind_some,if_true,if_false,Bool.false_eq_true,Int.reduceLT]
    · simp only[aW.l1,uN,V3 i n v ⟨c0,hi⟩ hn,h1,h2,q,lH,Bool.false_or,Bool.false_and,decide_false,Option.bind_some,if_true,if_false,Bool.false_eq_true,Int.reduceLT]
theorem aEL:∀ (s p:List Bool) (k:Nat),(p ++ s).length < 1000→s.length < k→∃ r,dN.l0 k (p ++ s) false ((p ++ s).length:Int) (p.length:Int)=some r∧decide (r ≥ 0)= !(s.all id):=by
  intro s
  induction s with
  | nil=>
    intro p k hl hk;obtain⟨k,rfl⟩:∃ m,k=m + 1:=⟨k - 1,by simp at hk;omega⟩
    simp only[dN.l0];rw[if_neg (by simp)];exact⟨-1,rfl,by simp⟩
  | cons x s ih=>
    intro p k hl hk;obtain⟨k,rfl⟩:∃ m,k=m + 1:=⟨k - 1,by simp at hk;omega⟩
    have hr:mX false (p ++ x::s) (p.length:Int)=x:=by simp[mX]
    simp only[dN.l0];rw[if_pos (by simp;omega),if_pos (by omega),if_pos (by simp;omega),hr];cases x with
    | false=>
      rw[if_pos (by decide)];exact⟨_,rfl,by simp⟩
    | true=>
      rw[if_neg (by decide),oL p true (by simp at hl;omega),List.append_cons p true s];obtain⟨r,h1,h2⟩:=ih (p ++ [true]) k (by simpa using hl) (by simp at hk;omega);exact⟨r,h1,by rw[h2];simp⟩
theorem a11 (l:List Bool) (k:Nat) (hl:l.length < 1000) (hk:l.length < k):iO.f k l false=some (!(l.all id)):=by
  unfold iO.f dN.f;obtain⟨r,h1,h2⟩:=aEL l [] k hl hk;have h3:dN.l0 k l false (l.length:Int) 0=some r:=h1;rw[h3,Option.bind_some,h2]
theorem aZX (n:Int):∀ (us hs:List R) (p q:List R) (B:List Bool) (k:Nat),p.length=q.length→us.length=hs.length→((p ++ us).length:Int)=n→1≤n→n≤6→(B.length:Int)=n→6 * us.length + 20≤k→
    aW.l0 k n B (p ++ us) n (p.length:Int) (p ++ us) (q ++ hs)=some (gI n (p.length:Int) us hs B):=by
  intro us
  induction us with
  | nil=>
    intro hs p q B k hpq hl hn h1 h6 hB hk;obtain⟨k,rfl⟩:∃ m,k=m + 1:=⟨k - 1,by omega⟩
    simp only[aW.l0,gI];rw[if_neg (by simp at hn;omega),if_pos (by omega),a11 _ k (by simp;omega) (by simp;omega)];simp
  | cons a us ih=>
    intro hs p q B k hpq hl hn h1 h6 hB hk;cases hs with
    |nil=>simp at hl
    | cons h hs=>
      simp only[List.length_cons]at hk;obtain⟨k,rfl⟩:∃ m,k=m + 6:=⟨k - 6,by omega⟩
      have hA:=BC p us a;have hH:aD (q ++ h::hs) (p.length:Int)=h:=by rw[hpq];exact BC q hs h
      simp only[List.length_append,List.length_cons,Int.natCast_add,Int.natCast_one]at hn;simp only[List.length_cons]at hl;have d0:0≤(p.length:Int):=by omega
      have d1:(p.length:Int) < ((p ++ a::us).length:Int):=by simp;omega
      have d2:(p.length:Int) < ((q ++ h::hs).length:Int):=by simp;omega
      have d3:(p.length:Int) < n:=by omega
      simp only[gI];by_cases g0:(mP a.f0 && mP a.f1)=true
      · have g0':=g0
        simp only[Bool.and_eq_true]at g0';rw[g0];rw[show aW.l0 (k + 6) n B (p ++ a::us) n (p.length:Int) (p ++ a::us) (q ++ h::hs)=aW.l1 (k + 4) n B (p.length:Int) (p ++ a::us) n (p.length:Int) 0 (p ++ a::us) (q ++ h::hs) h.f0 h.f1 from by simp only[aW.l0,aW.j2,hA,hH,QA,d0,d1,d2,d3,g0'.1,g0'.2,Bool.not_true,Option.bind_some,if_true,if_false,Bool.false_eq_true]];rw[aPI n _ n B _ _ _ _ _ (k + 3) d0 (by omega) (by omega) hB];by_cases s0:lH (p.length:Int) n B h.f0=true
        · rw[if_pos s0,s0,aPJ n _ n _ _ _ _ _ _ (k + 2) d0 (by omega) (by omega) (by rw[mW];exact hB)]
          by_cases s1:lH (p.length:Int) n (mark B h.f0) h.f1=true
          · rw[if_pos s1,s1]
            rw[show aW.l1 (k + 2) n (mark (mark B h.f0) h.f1) (p.length:Int) (p ++ a::us) n (p.length:Int) 2 (p ++ a::us) (q ++ h::hs) h.f0 h.f1=aW.l0 (k + 1) n (mark (mark B h.f0) h.f1) (p ++ a::us) n (wrap64 ((p.length:Int) + 1)) (p ++ a::us) (q ++ h::hs)from by simp only[aW.l1,Int.reduceLT,if_false]];rw[oL p a (by omega),List.append_cons p a us,List.append_cons q h hs];rw[ih hs (p ++ [a]) (q ++ [h]) _ (k + 1) (by simp[hpq]) (by omega) (by simp;omega) h1 h6 (by rw[mW,mW];exact hB) (by omega)];simp
          · rw[if_neg s1]
            rw[Bool.not_eq_true]at s1;rw[s1];simp
        · rw[if_neg s0]
          rw[Bool.not_eq_true]at s0;rw[s0];simp
      · rw[Bool.not_eq_true]at g0
        rw[g0];cases x0:mP a.f0
        · simp only[aW.l0,aW.j2,hA,QA,d0,d1,d3,x0,Bool.false_and,Option.bind_some,if_true,if_false,Bool.false_eq_true]
        · rw[x0,Bool.true_and]at g0
          simp only[aW.l0,aW.j2,hA,QA,d0,d1,d3,x0,g0,Bool.not_false,Bool.false_and,Option.bind_some,if_true,if_false,Bool.false_eq_true]
def good (A H:List R):Bool:=decide (1≤(A.length:Int)∧(A.length:Int)≤6) && (decide (H.length=A.length) && gI (A.length:Int) 0 A H (List.replicate A.length false))
theorem F9 (A H:List R) (k:Nat) (hw:WfR H) (hk:100≤k):aQ.f k A H=some (good A H):=by
  obtain⟨k,rfl⟩:∃ m,k=m + 1:=⟨k - 1,by omega⟩
  unfold aQ.f good;rw[HZ,Option.bind_some];by_cases h1:1≤(A.length:Int)∧(A.length:Int)≤6
  · by_cases h2:H.length=A.length
    · have e:((H.length:Int) !=(A.length:Int))=false:=by simp[h2]
      have r:((A.length:Int)).toNat=A.length:=by omega
      obtain⟨n,hn⟩:∃ n,A.length=n + 1:=⟨A.length - 1,by omega⟩
      have t:(List.replicate A.length (0:Int)).set (0:Int).toNat 1=F8 (List.replicate A.length false):=by
        rw[hn];simp[List.replicate_succ,F8]
      have b1:0≤(A.length:Int):=by omega
      have b2:A.length≤35184372088832:=by omega
      have b3:0 < ((List.replicate A.length (0:Int)).length:Int):=by simp;omega
      have g:=aZW (A.length:Int) A H [] [] (F8 (List.replicate A.length false)) k rfl h2.symm rfl h1.2 (by rw[UZ];simp) hw (by omega);simp only[List.nil_append,List.length_nil,Int.natCast_zero]at g;simp only[h1,h2,and_self,decide_true,if_true,aQ.j0,e,Bool.false_eq_true,if_false,b1,r,b2,Option.bind_some,b3,t,g,Bool.true_and];rw[aV1 _ A H 0 _ (by omega) (by simp) h1.1 (by omega)];simp
    · have e:((H.length:Int) !=(A.length:Int))=true:=by simp;omega
      simp only[h1,h2,and_self,decide_true,decide_false,if_true,aQ.j0,e,Bool.false_and,Bool.and_false]
  · simp only[h1,decide_false,Bool.false_eq_true,if_false,if_true,aQ.j0,Bool.false_and]
theorem zO (A H:List R) (k:Nat) (hk:100≤k):aW.f k A H=some (good A H):=by
  obtain⟨k,rfl⟩:∃ m,k=m + 1:=⟨k - 1,by omega⟩
  unfold aW.f good;rw[F7,Option.bind_some];by_cases h1:1≤(A.length:Int)∧(A.length:Int)≤6
  · by_cases h2:H.length=A.length
    · have e:((H.length:Int) !=(A.length:Int))=false:=by simp[h2]
      have r:((A.length:Int)).toNat=A.length:=by omega
      have b1:0≤(A.length:Int):=by omega
      have b2:A.length≤281474976710656:=by omega
      have g:=aZX (A.length:Int) A H [] [] (List.replicate A.length false) k rfl h2.symm rfl h1.1 h1.2 (by simp) (by omega);simp only[List.nil_append,List.length_nil,Int.natCast_zero]at g;simp only[h1,h2,and_self,decide_true,if_true,aW.j0,e,Bool.false_eq_true,if_false,b1,r,b2,g,Bool.true_and];simp
    · have e:((H.length:Int) !=(A.length:Int))=true:=by simp;omega
      simp only[h1,h2,and_self,decide_true,decide_false,if_true,aW.j0,e,Bool.false_and,Bool.and_false]
  · simp only[h1,decide_false,Bool.false_eq_true,if_false,if_true,aW.j0,Bool.false_and]
def nx (j:Nat) (h:Int):Nat:=if h > 0 then j + 1 else j
def cnt:List R→Nat
  |[]=>0
  |h::hs=>nx (nx 0 h.f0) h.f1 + cnt hs
theorem rM (j:Nat) (h:Int):nx j h=j + nx 0 h:=by
  unfold nx
  split <;> omega
structure MOk (A H:List R):Prop where
  len:1≤A.length∧A.length≤6
  same:H.length=A.length
  arm:∀ i:Nat,i < A.length→mP (aD A i).f0=true∧mP (aD A i).f1=true
  fin:∀ i:Nat,i < A.length→lG i A.length (aD H i).f0=true∧lG i A.length (aD H i).f1=true
theorem a0R (a:R) (us:List R) (i:Nat):aD (a::us) ((i + 1:Nat):Int)=aD us (i:Int):=by
  simp[aD]
theorem a0S (a:R) (us:List R):aD (a::us) ((0:Nat):Int)=a:=by
  simp[aD]
theorem aV2 (n:Int):∀ (us hs:List R) (i:Int) (B:List Bool),us.length=hs.length→gI n i us hs B=true→
    ∀ j:Nat,j < us.length→(mP (aD us j).f0=true∧mP (aD us j).f1=true)∧(lG (i + j) n (aD hs j).f0=true∧lG (i + j) n (aD hs j).f1=true):=by
  intro us
  induction us with
  |nil=>intro hs i B hl h j hj;simp at hj
  | cons a us ih=>
    intro hs i B hl h j hj;cases hs with
    |nil=>simp at hl
    | cons x hs=>
      simp only[gI,Bool.and_eq_true]at h;cases j with
      | zero=>
        rw[a0S,a0S];simp only[Int.natCast_zero,Int.add_zero];exact⟨h.1,NB h.2.1,NB h.2.2.1⟩
      | succ j=>
        rw[a0R,a0R];have e:=ih hs (i + 1) _ (by simpa using hl) h.2.2.2 j (by simpa using hj);rw[show i + 1 + (j:Int)=i + ((j + 1:Nat):Int)from by omega]at e;exact e
theorem NC {A H:List R} (h:good A H=true):MOk A H:=by
  simp only[good,Bool.and_eq_true,decide_eq_true_eq]at h;have g:=aV2 (A.length:Int) A H 0 _ h.2.1.symm h.2.2;exact⟨by omega,h.2.1,fun i hi=>(g i hi).1,fun i hi=>by have:=(g i hi).2;rw[Int.zero_add]at this;exact this⟩
def tc:List Bool→Nat
  |[]=>0
  |b::bs=>(if b then 1 else 0) + tc bs
theorem aPK:∀ (B:List Bool) (j:Nat),j < B.length→B.getD j false=false→tc (B.set j true)=tc B + 1:=by
  intro B
  induction B with
  |nil=>intro j h;simp at h
  | cons b bs ih=>
    intro j h h0;cases j with
    | zero=>
      simp at h0;subst h0;simp[tc];omega
    | succ j=>
      simp only[List.set_cons_succ,tc];rw[ih j (by simpa using h) (by simpa using h0)];omega
theorem aPL:∀ (B:List Bool),B.all id=true→tc B=B.length:=by
  intro B
  induction B with
  |nil=>intro _;rfl
  | cons b bs ih=>
    intro h;simp only[List.all_cons,id,Bool.and_eq_true]at h;simp only[tc,h.1,if_true,List.length_cons];rw[ih h.2];omega
theorem aPM (n:Nat):tc (List.replicate n false)=0:=by
  induction n with
  |zero=>rfl
  |succ n ih=>simp[List.replicate_succ,tc,ih]
theorem XL {i n h:Int} {B:List Bool} (hi:0≤i) (hn:n=B.length) (hs:lH i n B h=true):(mark B h).headD false=B.headD false∧tc (mark B h) + nx 0 h=tc B + 1:=by
  simp only[lH,iU,Bool.or_eq_true,Bool.and_eq_true,decide_eq_true_eq,Bool.not_eq_true']at hs;unfold mark nx;by_cases h0:h < 0
  · rw[if_pos h0,if_neg (by omega)]
    rcases hs with hs|hs
    · omega
    · refine⟨?_,?_⟩
      · obtain⟨j,hj⟩:∃ j:Nat,(-h).toNat=j + 1:=⟨(-h).toNat - 1,by omega⟩
        rw[hj];cases B <;> simp
      · have e:=aPK B (-h).toNat (by omega) hs.2
        omega
  · rw[if_neg h0,if_pos (by omega)]
    exact⟨rfl,by omega⟩
theorem aPN (n:Int):∀ (us hs:List R) (i:Int) (B:List Bool),us.length=hs.length→gI n i us hs B=true→0≤i→n=B.length→1≤n→B.headD false=false→tc B + 2 * us.length + 1=B.length + cnt hs:=by
  intro us
  induction us with
  | nil=>
    intro hs i B hl h hi hn h1 hd;have:hs=[]:=List.eq_nil_of_length_eq_zero (by simpa using hl.symm);subst this;unfold gI at h;cases B with
    |nil=>simp at hn;omega
    | cons b bs=>
      simp at hd;subst hd;have e:=aPL bs (by simpa using h);simp[tc,cnt,e]
  | cons a us ih=>
    intro hs i B hl h hi hn h1 hd;cases hs with
    |nil=>simp at hl
    | cons x hs=>
      simp only[gI,Bool.and_eq_true]at h;obtain⟨_,s0,s1,g⟩:=h;obtain⟨a1,a2⟩:=XL hi hn s0;have hn2:n=(mark B x.f0).length:=by rw[mW];exact hn
      obtain⟨b1,b2⟩:=XL hi hn2 s1;have e:=ih hs (i + 1) _ (by simpa using hl) g (by omega) (by rw[mW];exact hn2) h1 (by rw[b1,a1];exact hd);rw[mW,mW]at e;have n1:=rM (nx 0 x.f0) x.f1;simp only[cnt,List.length_cons];omega
theorem a0T {A H:List R} (h:good A H=true):cnt H=A.length + 1:=by
  have ok:=NC h;have o1:=ok.len;have o2:=ok.same;simp only[good,Bool.and_eq_true,decide_eq_true_eq]at h
  have e:=aPN (A.length:Int) A H 0 _ h.2.1.symm h.2.2 (by omega) (by simp) (by omega) (by
    obtain⟨m,hm⟩:∃ m,A.length=m + 1:=⟨A.length - 1,by omega⟩
    rw[hm]
    simp[List.replicate_succ])
  rw[aPM,List.length_replicate]at e;omega
def up (X:List Int) (h:Int):List Int:=if h > 0 then X ++ [h]else X
def leaves (X:List Int):List R→List Int
  |[]=>X
  |h::hs=>leaves (up (up X h.f0) h.f1) hs
theorem XM (X:List Int) (h:Int):(up X h).length≤X.length + 1:=by
  unfold up
  split <;> simp
theorem X0:∀ (hs q:List R) (X:List Int) (k:Nat),(q ++ hs).length≤1048576→X.length + 2 * hs.length≤4194304→4 * hs.length + 4 < k→
    bW.l0 k X (q ++ hs) ((q ++ hs).length:Int) (q.length:Int)=some (leaves X hs):=by
  intro hs
  induction hs with
  | nil=>
    intro q X k hl hX hk;obtain⟨k,rfl⟩:∃ m,k=m + 1:=⟨k - 1,by omega⟩
    simp only[bW.l0];rw[if_neg (by simp)];rfl
  | cons h hs ih=>
    intro q X k hl hX hk;simp only[List.length_cons]at hX hk;obtain⟨k,rfl⟩:∃ m,k=m + 4:=⟨k - 4,by omega⟩
    have w1:wrap64 (0 + 1)=1:=dS (by omega) (by omega);have w2:wrap64 (1 + 1)=2:=dS (by omega) (by omega);have d0:0≤(q.length:Int):=by omega
    have d1:(q.length:Int) < ((q ++ h::hs).length:Int):=by simp;omega
    have q1:¬ ((1:Int)=0):=by omega
    have x0:X.length < 17592186044416:=by omega
    have u:=XM X h.f0;have u1:=XM (up X h.f0) h.f1;have x1:(up X h.f0).length < 17592186044416:=by omega
    rw[show bW.l0 (k + 4) X (q ++ h::hs) ((q ++ h::hs).length:Int) (q.length:Int)=bW.l1 (k + 3) X (q ++ h::hs) ((q ++ h::hs).length:Int) (q.length:Int) 0 h.f0 h.f1 from by simp only[bW.l0,d0,d1,BC,if_true]];generalize hn:((q ++ h::hs).length:Int)=n
    rw[show bW.l1 (k + 3) X (q ++ h::hs) n (q.length:Int) 0 h.f0 h.f1=bW.l1 (k + 2) (up X h.f0) (q ++ h::hs) n (q.length:Int) 1 h.f0 h.f1 from by
      by_cases c:h.f0 > 0 <;> simp only[bW.l1,w1,x0,c,up,if_true,if_false,Int.reduceLT]]
    rw[show bW.l1 (k + 2) (up X h.f0) (q ++ h::hs) n (q.length:Int) 1 h.f0 h.f1=bW.l1 (k + 1) (up (up X h.f0) h.f1) (q ++ h::hs) n (q.length:Int) 2 h.f0 h.f1 from by
      generalize up X h.f0=Y at x1
      by_cases c:h.f1 > 0 <;> simp only[bW.l1,w2,q1,x1,c,up,if_true,if_false,Int.reduceLT]]
    rw[show bW.l1 (k + 1) (up (up X h.f0) h.f1) (q ++ h::hs) n (q.length:Int) 2 h.f0 h.f1=bW.l0 k (up (up X h.f0) h.f1) (q ++ h::hs) n (wrap64 ((q.length:Int) + 1))from by simp only[bW.l1,if_false,Int.reduceLT]];subst hn;rw[oL q h (by simp at hl;omega),List.append_cons q h hs,ih (q ++ [h]) _ k (by simpa using hl) (by omega) (by omega)];rfl
theorem a9N (X:List Int) (h:Int):(up X h).length=nx X.length h:=by
  unfold up nx
  split <;> simp
theorem a7U:∀ (hs:List R) (X:List Int),(leaves X hs).length=X.length + cnt hs:=by
  intro hs
  induction hs with
  |nil=>intro X;rfl
  | cons h hs ih=>
    intro X;simp only[leaves,cnt];rw[ih,a9N,a9N];have n1:=rM (nx X.length h.f0) h.f1;have n2:=rM X.length h.f0;have n3:=rM (nx 0 h.f0) h.f1;omega
theorem FR (A H:List R) (k:Nat) (h2:H.length≤1048576) (hk:4 * H.length + 4 < k):bW.f k A H=some (leaves [] H):=by
  unfold bW.f;exact X0 H [] [] k (by simpa using h2) (by simp;omega) hk
theorem aEM (A H:List R) (h1:A.length≤1048576) (h2:H.length≤1048576):jF.f A H=some (A,H):=by
  unfold jF.f;rw[Option.bind_some,if_pos (by simp;omega),Option.bind_some,if_pos (by simp;omega)];rfl
theorem a0U (A:List R) (h1:A.length≤1048576):fT.f A=some A:=by
  unfold fT.f;rw[Option.bind_some,if_pos (by simp;omega)];rfl
theorem aJW (A H:List R) (h1:A.length≤1048576) (h2:H.length≤1048576):gK.f A H=some (A,H):=by
  unfold gK.f;rw[a0U A h1,Option.bind_some,a0U H h2];rfl
def pt (w:List Int) (j:Nat) (h:Int):Int:=if h > 0 then rd w (j:Int)else h
def hang (w:List Int):Nat→List R→List R
  |_,[]=>[]
  |j,h::hs=>⟨pt w j h.f0,pt w (nx j h.f0) h.f1⟩::hang w (nx (nx j h.f0) h.f1) hs
theorem a13 (w:List Int):∀ (hs:List R) (j:Nat),(hang w j hs).length=hs.length:=by
  intro hs
  induction hs with
  |nil=>intro j;rfl
  |cons h hs ih=>intro j;simp[hang,ih]
theorem set_mid {α:Type} (q s:List α) (x y:α):(q ++ x::s).set q.length y=q ++ y::s:=by
  rw[List.set_append_right _ _ (Nat.le_refl _),Nat.sub_self,List.set_cons_zero]
theorem aJX (w:List Int) (A q p hs:List R) (h g:R) (j k:Nat) (hpq:q.length=p.length) (hj:nx j h.f0≤w.length) (hw:w.length≤4194304):
    cK.l1 (k + 1) w (j:Int) (q.length:Int) 0 A (q ++ h::hs) A (p ++ g::hs)=cK.l1 k w (nx j h.f0:Int) (q.length:Int) 1 A (q ++ h::hs) A (p ++ (⟨if h.f0 > 0 then rd w j else g.f0,g.f1⟩:R)::hs):=by
  have w1:wrap64 (0 + 1)=1:=dS (by omega) (by omega);have hr:aD (p ++ g::hs) (q.length:Int)=g:=by rw[hpq];exact BC p hs g
  have hn:((q.length:Nat):Int).toNat=p.length:=by omega
  simp only[cK.l1];rw[if_pos (by decide),if_pos (by omega),if_pos (by simp;omega),if_pos trivial,BC,w1];unfold nx at hj ⊢;by_cases c:h.f0 > 0
  · rw[if_pos c]at hj
    rw[if_pos c,if_pos c,if_pos c,if_pos (by omega),if_pos (by omega),if_pos (by simp;omega),hr,hn,set_mid,dS (x:=(j:Int) + 1) (by omega) (by omega)];rfl
  · rw[if_neg c,if_neg c,if_neg c]
theorem aJY (w:List Int) (A q p hs:List R) (h g:R) (j k:Nat) (hpq:q.length=p.length) (hj:nx j h.f1≤w.length) (hw:w.length≤4194304):
    cK.l1 (k + 1) w (j:Int) (q.length:Int) 1 A (q ++ h::hs) A (p ++ g::hs)=cK.l1 k w (nx j h.f1:Int) (q.length:Int) 2 A (q ++ h::hs) A (p ++ (⟨g.f0,if h.f1 > 0 then rd w j else g.f1⟩:R)::hs):=by
  have w2:wrap64 (1 + 1)=2:=dS (by omega) (by omega);have hr:aD (p ++ g::hs) (q.length:Int)=g:=by rw[hpq];exact BC p hs g
  have hn:((q.length:Nat):Int).toNat=p.length:=by omega
  simp only[cK.l1];rw[if_pos (by decide),if_pos (by omega),if_pos (by simp;omega),if_neg (by decide),if_pos trivial,BC,w2];unfold nx at hj ⊢;by_cases c:h.f1 > 0
  · rw[if_pos c]at hj
    rw[if_pos c,if_pos c,if_pos c,if_pos (by omega),if_pos (by omega),if_pos (by simp;omega),hr,hn,set_mid,dS (x:=(j:Int) + 1) (by omega) (by omega)];rfl
  · rw[if_neg c,if_neg c,if_neg c]
theorem a0V (w:List Int) (A:List R) (hw:w.length≤4194304):∀ (hs q p:List R) (j k:Nat),q.length=p.length→(q ++ hs).length≤1048576→j + cnt hs≤w.length→4 * hs.length + 4 < k→
    cK.l0 k w (j:Int) (q.length:Int) A (q ++ hs) A (p ++ hs)=some (A,p ++ hang w j hs):=by
  intro hs
  induction hs with
  | nil=>
    intro q p j k hpq hl hc hk;obtain⟨k,rfl⟩:∃ m,k=m + 1:=⟨k - 1,by omega⟩
    simp only[cK.l0];rw[if_neg (by simp)];rfl
  | cons h hs ih=>
    intro q p j k hpq hl hc hk;simp only[List.length_cons]at hk;simp only[cnt]at hc;obtain⟨k,rfl⟩:∃ m,k=m + 4:=⟨k - 4,by omega⟩
    have n1:=rM (nx j h.f0) h.f1;have n2:=rM j h.f0;have n3:=rM (nx 0 h.f0) h.f1;have d1:(q.length:Int) < ((q ++ h::hs).length:Int):=by simp;omega
    rw[show cK.l0 (k + 4) w (j:Int) (q.length:Int) A (q ++ h::hs) A (p ++ h::hs)=cK.l1 (k + 3) w (j:Int) (q.length:Int) 0 A (q ++ h::hs) A (p ++ h::hs)from by simp only[cK.l0,d1,if_true]];rw[aJX w A q p hs h h j (k + 2) hpq (by omega) hw,aJY w A q p hs h _ (nx j h.f0) (k + 1) hpq (by omega) hw];simp only[cK.l1];rw[if_neg (by decide),oL q h (by simp at hl;omega),List.append_cons q h hs,List.append_cons p _ hs,ih (q ++ [h]) _ (nx (nx j h.f0) h.f1) k (by simp[hpq]) (by simpa using hl) (by omega) (by omega)];simp[hang,pt]
theorem aJZ (w:List Int) (A q p hs:List R) (n:Int) (X:List R) (h g:R) (j k:Nat) (hpq:q.length=p.length) (hj:nx j h.f0≤w.length) (hw:w.length≤4194304):
    bP.l1 (k + 1) w (j:Int) (q.length:Int) X n (q.length:Int) 0 A (p ++ g::hs) h.f0 h.f1=bP.l1 k w (nx j h.f0:Int) (q.length:Int) X n (q.length:Int) 1 A (p ++ (⟨if h.f0 > 0 then rd w j else g.f0,g.f1⟩:R)::hs) h.f0 h.f1:=by
  have w1:wrap64 (0 + 1)=1:=dS (by omega) (by omega);have hr:aD (p ++ g::hs) (q.length:Int)=g:=by rw[hpq];exact BC p hs g
  have hn:((q.length:Nat):Int).toNat=p.length:=by omega
  simp only[bP.l1];rw[if_pos (by decide),if_pos trivial,w1];unfold nx at hj ⊢;by_cases c:h.f0 > 0
  · rw[if_pos c]at hj
    rw[if_pos c,if_pos c,if_pos c,if_pos (by omega),if_pos (by omega),if_pos (by omega),if_pos (by simp;omega),hr,hn,set_mid,dS (x:=(j:Int) + 1) (by omega) (by omega)];rfl
  · rw[if_neg c,if_neg c,if_neg c]
theorem aK0 (w:List Int) (A q p hs:List R) (n:Int) (X:List R) (h g:R) (j k:Nat) (hpq:q.length=p.length) (hj:nx j h.f1≤w.length) (hw:w.length≤4194304):
    bP.l1 (k + 1) w (j:Int) (q.length:Int) X n (q.length:Int) 1 A (p ++ g::hs) h.f0 h.f1=bP.l1 k w (nx j h.f1:Int) (q.length:Int) X n (q.length:Int) 2 A (p ++ (⟨g.f0,if h.f1 > 0 then rd w j else g.f1⟩:R)::hs) h.f0 h.f1:=by
  have w2:wrap64 (1 + 1)=2:=dS (by omega) (by omega);have hr:aD (p ++ g::hs) (q.length:Int)=g:=by rw[hpq];exact BC p hs g
  have hn:((q.length:Nat):Int).toNat=p.length:=by omega
  simp only[bP.l1];rw[if_pos (by decide),if_neg (by decide),if_pos trivial,w2];unfold nx at hj ⊢;by_cases c:h.f1 > 0
  · rw[if_pos c]at hj
    rw[if_pos c,if_pos c,if_pos c,if_pos (by omega),if_pos (by omega),if_pos (by omega),if_pos (by simp;omega),hr,hn,set_mid,dS (x:=(j:Int) + 1) (by omega) (by omega)];rfl
  · rw[if_neg c,if_neg c,if_neg c]
theorem a0W (w:List Int) (A:List R) (hw:w.length≤4194304):∀ (hs q p:List R) (j k:Nat),q.length=p.length→(q ++ hs).length≤1048576→j + cnt hs≤w.length→4 * hs.length + 4 < k→
    bP.l0 k w (j:Int) (q ++ hs) ((q ++ hs).length:Int) (q.length:Int) A (p ++ hs)=some (A,p ++ hang w j hs):=by
  intro hs
  induction hs with
  | nil=>
    intro q p j k hpq hl hc hk;obtain⟨k,rfl⟩:∃ m,k=m + 1:=⟨k - 1,by omega⟩
    simp only[bP.l0];rw[if_neg (by simp)];rfl
  | cons h hs ih=>
    intro q p j k hpq hl hc hk;simp only[List.length_cons]at hk;simp only[cnt]at hc;obtain⟨k,rfl⟩:∃ m,k=m + 4:=⟨k - 4,by omega⟩
    have n1:=rM (nx j h.f0) h.f1;have n2:=rM j h.f0;have n3:=rM (nx 0 h.f0) h.f1;have d0:0≤(q.length:Int):=by omega
    have d1:(q.length:Int) < ((q ++ h::hs).length:Int):=by simp;omega
    rw[show bP.l0 (k + 4) w (j:Int) (q ++ h::hs) ((q ++ h::hs).length:Int) (q.length:Int) A (p ++ h::hs)=bP.l1 (k + 3) w (j:Int) (q.length:Int) (q ++ h::hs) ((q ++ h::hs).length:Int) (q.length:Int) 0 A (p ++ h::hs) h.f0 h.f1 from by simp only[bP.l0,d0,d1,BC,if_true]];rw[aJZ w A q p hs _ _ h h j (k + 2) hpq (by omega) hw,aK0 w A q p hs _ _ h _ (nx j h.f0) (k + 1) hpq (by omega) hw];simp only[bP.l1];rw[if_neg (by decide),oL q h (by simp at hl;omega),List.append_cons q h hs,List.append_cons p _ hs,ih (q ++ [h]) _ (nx (nx j h.f0) h.f1) k (by simp[hpq]) (by simpa using hl) (by omega) (by omega)];simp[hang,pt]
theorem a9O (w:List Int) (A H:List R) (k:Nat) (hw:w.length≤4194304) (h1:A.length≤1048576) (h2:H.length≤1048576) (hc:cnt H≤w.length) (hk:4 * H.length + 4 < k):cK.f k A H w=some (A,hang w 0 H):=by
  unfold cK.f;rw[aEM A H h1 h2,Option.bind_some];exact a0V w A hw H [] [] 0 k rfl (by simpa using h2) (by omega) hk
theorem a14 (w:List Int) (A H:List R) (k:Nat) (hw:w.length≤4194304) (h1:A.length≤1048576) (h2:H.length≤1048576) (hc:cnt H≤w.length) (hk:4 * H.length + 4 < k):bP.f k A H w=some (A,hang w 0 H):=by
  unfold bP.f;rw[aJW A H h1 h2,Option.bind_some];exact a0W w A hw H [] [] 0 k rfl (by simpa using h2) (by omega) hk
theorem a9P {i n h:Int} {B:List Bool} {w:List Int} {j:Nat} (hs:lH i n B h=true) (hw:∀ x ∈ w,iU x=true) (hj:nx j h≤w.length):lH i n B (pt w j h)=true∧mark B (pt w j h)=mark B h:=by
  unfold pt;unfold nx at hj;by_cases c:h > 0
  · rw[if_pos c]at hj
    rw[if_pos c];have hm:rd w (j:Int) ∈ w:=by
      simp only[rd,Int.toNat_natCast];rw[List.getD_eq_getElem?_getD,List.getElem?_eq_getElem (by omega)];exact List.getElem_mem _
    have hl:=hw _ hm;have hl2:=hl;simp only[iU,decide_eq_true_eq]at hl2;refine⟨by simp only[lH,hl,Bool.true_or],?_⟩;unfold mark;rw[if_neg (by omega),if_neg (by omega)]
  · rw[if_neg c]
    exact⟨hs,rfl⟩
theorem aK1 (n:Int) (w:List Int) (hw:∀ x ∈ w,iU x=true):∀ (us hs:List R) (i:Int) (B:List Bool) (j:Nat),j + cnt hs≤w.length→gI n i us hs B=true→gI n i us (hang w j hs) B=true:=by
  intro us
  induction us with
  | nil=>
    intro hs i B j hj h;unfold gI at h ⊢;exact h
  | cons a us ih=>
    intro hs i B j hj h;cases hs with
    |nil=>exact h
    | cons x hs=>
      simp only[cnt]at hj;have n1:=rM (nx j x.f0) x.f1;have n2:=rM j x.f0;have n3:=rM (nx 0 x.f0) x.f1;simp only[gI,Bool.and_eq_true]at h;obtain⟨s,s0,s1,g⟩:=h;obtain⟨p0,m0⟩:=a9P s0 hw (j:=j) (by omega);obtain⟨p1,m1⟩:=a9P s1 hw (j:=nx j x.f0) (by omega);simp only[hang,gI,Bool.and_eq_true];rw[m0,m1];exact⟨s,p0,p1,ih hs (i + 1) _ _ (by omega) g⟩
theorem a9Q {A H:List R} {w:List Int} (h:good A H=true) (hw:∀ x ∈ w,iU x=true) (hc:cnt H≤w.length):good A (hang w 0 H)=true:=by
  simp only[good,Bool.and_eq_true,decide_eq_true_eq]at h ⊢;refine⟨h.1,by rw[a13];exact h.2.1,aK1 _ w hw A H 0 _ 0 (by omega) h.2.2⟩
theorem a3N (h:Int) (W:List Int):jZ.f h W=lT.f h W:=rfl
theorem V4 (A H:List R):∀ (k:Nat) (X:List Int) (j:Int),dH.l0 k X j A H=dA.l0 k X j A H:=by
  intro k
  induction k with
  |zero=>intro X j;rfl
  | succ k ih=>
    intro X j;simp only[dH.l0,dA.l0,a3N,ih]
theorem a0X (k:Nat) (A H:List R):dH.f k A H=dA.f k A H:=by
  unfold dH.f dA.f;simp only[V4]
def AL (W:List Int) (h:Int):Int:=if h < 0 then rd W (-h)else h
theorem at_eq {i n h:Int} {W:List Int} (hi:0≤i) (hn:n≤100) (he:lG i n h=true) (hl:(W.length:Int)=n):lT.f h W=some (AL W h):=by
  unfold lT.f AL;by_cases h0:h < 0
  · have c:=child he h0
    rw[if_pos h0,if_pos h0,dS (x:=-h) (by omega) (by omega),if_pos (by omega),if_pos (by omega)]
  · rw[if_neg h0,if_neg h0]
def bd:Nat→Int
  |0=>99
  |d + 1=>2 * bd d
theorem X3:∀ (a b:Nat),a≤b→99≤bd a∧bd a≤bd b:=by
  intro a b
  induction b with
  | zero=>
    intro h;have:a=0:=by omega
    subst this;simp[bd]
  | succ b ih=>
    intro h;rcases Nat.lt_or_ge b a with h1|h1
    · have:a=b + 1:=by omega
      subst this;refine⟨?_,Int.le_refl _⟩;clear ih h h1
      induction b with
      |zero=>simp[bd]
      |succ b ih=>simp only[bd]at ih ⊢;omega
    · have:=ih h1
      simp only[bd];omega
theorem bd6 (d:Nat) (h:d≤6):bd d≤6336:=by
  have:=(X3 d 6 h).2
  simpa [bd] using this
theorem XN {n i:Nat} {h:Int} {W:List Int} (he:lG (i:Int) (n:Int) h=true) (hi:i < n) (hl:W.length=n) (hW:∀ m:Nat,i < m→m < n→1≤rd W (m:Int)∧rd W (m:Int)≤bd (n - m)):1≤AL W h∧AL W h≤bd (n - i - 1):=by
  unfold AL;by_cases h0:h < 0
  · rw[if_pos h0]
    have c:=child he h0;obtain⟨m,hm⟩:∃ m:Nat,-h=(m:Int):=⟨(-h).toNat,by omega⟩
    rw[hm]at c ⊢;have w:=hW m (by omega) (by omega);have b:=(X3 (n - m) (n - i - 1) (by omega)).2;omega
  · rw[if_neg h0]
    have b:=(X3 0 (n - i - 1) (by omega)).2;simp only[bd]at b;simp only[lG,iU,Bool.or_eq_true,decide_eq_true_eq]at he;omega
structure WOk (n:Nat) (W:List Int):Prop where
  len:W.length=n
  bound:∀ m:Nat,m < n→1≤rd W (m:Int)∧rd W (m:Int)≤bd (n - m)
theorem a7V {A H:List R} (ok:MOk A H):∀ (j:Nat) (X:List Int) (k:Nat),j≤A.length→X.length=A.length→j < k→(∀ m:Nat,j≤m→m < A.length→1≤rd X (m:Int)∧rd X (m:Int)≤bd (A.length - m))→
    ∃ W,WOk A.length W∧∀ k,j < k→dA.l0 k X ((j:Int) - 1) A H=some W:=by
  have o1:=ok.len;have o2:=ok.same;intro j
  induction j with
  | zero=>
    intro X k hj hX hk hb;refine⟨X,⟨hX,fun m hm=>hb m (by omega) hm⟩,fun k hk=>?_⟩;obtain⟨k,rfl⟩:∃ m,k=m + 1:=⟨k - 1,by omega⟩
    simp only[dA.l0];rw[if_neg (by omega)]
  | succ j ih=>
    intro X k hj hX hk hb;have f:=ok.fin j (by omega);have e0:=at_eq (W:=X) (by omega) (by omega) f.1 (by omega);have e1:=at_eq (W:=X) (by omega) (by omega) f.2 (by omega);have b0:=XN (W:=X) f.1 (by omega) hX (fun m h1 h2=>hb m (by omega) h2);have b1:=XN (W:=X) f.2 (by omega) hX (fun m h1 h2=>hb m (by omega) h2);have b6:=bd6 (A.length - j - 1) (by omega);have w:=dS (x:=AL X (aD H j).f0 + AL X (aD H j).f1) (by omega) (by omega)
    obtain⟨W,hW,hs⟩:=ih (X.set j (AL X (aD H j).f0 + AL X (aD H j).f1)) (j + 1) (by omega) (by simpa using hX) (by omega) (by
      intro m h1 h2
      by_cases hm:j=m
      · have:rd (X.set j (AL X (aD H j).f0 + AL X (aD H j).f1)) (m:Int)=AL X (aD H j).f0 + AL X (aD H j).f1:=by
          subst hm
          simp only[rd,List.getD_eq_getElem?_getD,List.getElem?_set,Int.toNat_natCast,if_true]
          rw[if_pos (by omega)]
          rfl
        rw[this,show A.length - m=(A.length - j - 1) + 1 from by omega]
        simp only[bd]
        omega
      · have:rd (X.set j (AL X (aD H j).f0 + AL X (aD H j).f1)) (m:Int)=rd X (m:Int):=by
          simp only[rd,List.getD_eq_getElem?_getD,List.getElem?_set,Int.toNat_natCast]
          rw[if_neg hm]
        rw[this]
        exact hb m (by omega) h2)
    refine⟨W,hW,fun k hk=>?_⟩;obtain⟨k,rfl⟩:∃ m,k=m + 1:=⟨k - 1,by omega⟩
    simp only[dA.l0];rw[show((j + 1:Nat):Int) - 1=(j:Int)from by omega,if_pos (by omega),if_pos (by omega),if_pos (by omega),e0,Option.bind_some,e1,Option.bind_some,if_pos (by omega),w,dS (x:=(j:Int) - 1) (by omega) (by omega),Int.toNat_natCast];exact hs k (by omega)
theorem a7W {A H:List R} (ok:MOk A H):∃ W,WOk A.length W∧∀ k,10≤k→dA.f k A H=some W:=by
  have o1:=ok.len;obtain⟨W,hW,hs⟩:=a7V ok A.length (List.replicate A.length 0) (A.length + 1) (Nat.le_refl _) (by simp) (by omega) (fun m h1 h2=>by omega);refine⟨W,hW,fun k hk=>?_⟩;unfold dA.f;rw[if_pos (by omega),if_pos (by omega),Option.bind_some,List.length_replicate,Int.toNat_natCast,dS (x:=(A.length:Int) - 1) (by omega) (by omega)];exact hs k (by omega)
theorem XR (W:List Int) (A H:List R):∀ (k:Nat) (X:List Int) (j:Int),dV.l0 k W X A (A.length:Int) j A H=dP.l0 k X W j A H:=by
  intro k
  induction k with
  |zero=>intro X j;rfl
  | succ k ih=>
    intro X j;by_cases c:j < (A.length:Int)
    · simp only[dV.l0,dP.l0,a3N,ih,c,if_true]
    · simp only[dV.l0,dP.l0,c,if_false]
theorem aEN {A H:List R} (ok:MOk A H) {W:List Int} (hW:WOk A.length W):∀ (d j:Nat) (X:List Int),j + d=A.length→X.length=j→∃ r:List Int,r.length=A.length∧∀ k,d < k→dP.l0 k X W (j:Int) A H=some r:=by
  have o1:=ok.len;have o2:=ok.same;have o3:=hW.len;intro d
  induction d with
  | zero=>
    intro j X hj hX;refine⟨X,by omega,fun k hk=>?_⟩;obtain⟨k,rfl⟩:∃ m,k=m + 1:=⟨k - 1,by omega⟩
    simp only[dP.l0];rw[if_neg (by omega)]
  | succ d ih=>
    intro j X hj hX;have f:=ok.fin j (by omega);have e0:=at_eq (W:=W) (by omega) (by omega) f.1 (by omega);have e1:=at_eq (W:=W) (by omega) (by omega) f.2 (by omega);obtain⟨r,h1,h2⟩:=ih (j + 1) (X ++ [wrap64 (wrap64 ((aD A j).f1 * AL W (aD H j).f1) - wrap64 ((aD A j).f0 * AL W (aD H j).f0))]) (by omega) (by simp;omega);refine⟨r,h1,fun k hk=>?_⟩;obtain⟨k,rfl⟩:∃ m,k=m + 1:=⟨k - 1,by omega⟩
    simp only[dP.l0];rw[if_pos (by omega),if_pos (by omega),if_pos (by omega),e1,Option.bind_some,e0,Option.bind_some,if_pos (by omega),dS (x:=(j:Int) + 1) (by omega) (by omega)];exact h2 k (by omega)
theorem V5 (p s:List Int) (x:Int):rd (p ++ x::s) ((p.length:Int))=x:=by
  simp[rd]
theorem a9R:∀ (s p:List Int) (k:Nat),(p ++ s).length < 4611686018427387904→s.length < k→fA.l0 k (p ++ s) (p ++ s) (p.length:Int)=some true:=by
  intro s
  induction s with
  | nil=>
    intro p k hl hk;obtain⟨k,rfl⟩:∃ m,k=m + 1:=⟨k - 1,by simp at hk;omega⟩
    simp only[fA.l0];rw[if_neg (by simp)]
  | cons x s ih=>
    intro p k hl hk;obtain⟨k,rfl⟩:∃ m,k=m + 1:=⟨k - 1,by simp at hk;omega⟩
    simp only[fA.l0];rw[if_pos (by simp;omega),if_pos (by omega),if_pos (by simp;omega),if_pos trivial,oL p x (by simp at hl;omega)];have e:=ih (p ++ [x]) k (by simpa using hl) (by simp at hk;omega);rw[List.append_assoc]at e;exact e
theorem FT (l:List Int) (k:Nat) (hl:l.length < 4611686018427387904) (hk:l.length < k):fA.f k l l=some true:=by
  unfold fA.f;rw[if_pos rfl];exact a9R l [] k (by simpa using hl) hk
def zC:Int→Nat→List Int
  |_,0=>[]
  |m,n + 1=>m::zC (m + 1) n
theorem a15:∀ (s p:List Int) (m:Int) (k:Nat),(p ++ s).length < 1073741824→0≤m→m + s.length < 4294967296→s.length < k→
    fF.l0 k (p ++ s) m (p.length:Int)=some (m + s.length,p ++ zC m s.length):=by
  intro s
  induction s with
  | nil=>
    intro p m k hl h0 h1 hk;obtain⟨k,rfl⟩:∃ j,k=j + 1:=⟨k - 1,by simp at hk;omega⟩
    simp only[fF.l0];rw[if_neg (by simp)];simp[zC]
  | cons x s ih=>
    intro p m k hl h0 h1 hk;obtain⟨k,rfl⟩:∃ j,k=j + 1:=⟨k - 1,by simp at hk;omega⟩
    simp only[fF.l0];simp only[List.length_cons,Int.natCast_add,Int.natCast_one,List.length_append]at h1 hl hk;rw[if_pos (by simp;omega),if_pos (by omega)];simp only[Int.toNat_natCast,List.set_append_right _ _ (Nat.le_refl _),Nat.sub_self,List.set_cons_zero];rw[oL p x (by omega),dS (x:=m + 1) (by omega) (by omega),List.append_cons];rw[show((p ++ [x]).length:Int)=((p ++ [m]).length:Int)from by simp];rw[ih (p ++ [m]) (m + 1) k (by simp;omega) (by omega) (by omega) (by omega)];simp[zC];omega
theorem a18:∀ (n:Nat) (p:List Int) (m:Int) (k:Nat),p.length + n < 1073741824→0≤m→m + n < 4294967296→n < k→
    fG.l0 k (p ++ zC m n) m (p.length:Int)=some (m + n):=by
  intro n
  induction n with
  | zero=>
    intro p m k hl h0 h1 hk;obtain⟨k,rfl⟩:∃ j,k=j + 1:=⟨k - 1,by omega⟩
    simp only[fG.l0];rw[if_neg (by simp[zC])];simp
  | succ n ih=>
    intro p m k hl h0 h1 hk;obtain⟨k,rfl⟩:∃ j,k=j + 1:=⟨k - 1,by omega⟩
    rw[show zC m (n + 1)=m::zC (m + 1) n from rfl];simp only[fG.l0];rw[if_pos (by simp;omega),if_pos (by omega),V5,if_pos rfl,dS (x:=m + 1) (by omega) (by omega),oL p m (by omega),List.append_cons];rw[ih (p ++ [m]) (m + 1) k (by simp;omega) (by omega) (by omega) (by omega)];congr 1;omega
theorem NQ (l:List Int) (m:Int) (k:Nat) (hl:l.length < 1073741824) (h0:0≤m) (h1:m + l.length < 4294967296) (hk:l.length < k):fF.f k l m=some (m + l.length,zC m l.length):=
  a15 l [] m k (by simpa using hl) h0 h1 hk
theorem a19 (n:Nat) (m:Int) (k:Nat) (hl:n < 1073741824) (h0:0≤m) (h1:m + n < 4294967296) (hk:n < k):fG.f k (zC m n) m=some (m + n):=
  a18 n [] m k (by simpa using hl) h0 h1 hk
theorem a9S:∀ (s p q:List Int) (k:Nat),p.length=q.length→(p ++ s).length < 4611686018427387904→s.length < k→
    eZ.l0 k (p ++ s) (q ++ List.replicate s.length 0) (p.length:Int)=some (q ++ s):=by
  intro s
  induction s with
  | nil=>
    intro p q k hpq hl hk;obtain⟨k,rfl⟩:∃ m,k=m + 1:=⟨k - 1,by simp at hk;omega⟩
    simp only[eZ.l0];rw[if_neg (by simp)];simp
  | cons x s ih=>
    intro p q k hpq hl hk;obtain⟨k,rfl⟩:∃ m,k=m + 1:=⟨k - 1,by simp at hk;omega⟩
    simp only[eZ.l0];rw[if_pos (by simp;omega),if_pos (by omega),if_pos (by simp;omega),V5,oL p x (by simp at hl;omega)];rw[show(((p.length:Nat):Int)).toNat=q.length from by omega,List.length_cons,a3L,List.append_cons p x s,ih (p ++ [x]) _ k (by simp[hpq]) (by simpa using hl) (by simp at hk;omega)];simp
theorem KV (l:List Int) (k:Nat) (hl:l.length≤1048576) (hk:l.length < k):eZ.f k l=some l:=by
  unfold eZ.f;rw[if_pos (by omega),if_pos (by omega)];exact a9S l [] [] k rfl (by simp;omega) hk
theorem aPP {l:List R} (h:∀ x ∈ l,((Lit.int .i64 x.f0).wf=true)∧((Lit.int .i64 x.f1).wf=true)):WfR l:=fun x hx=>⟨aPF (h x hx).1,aPF (h x hx).2⟩
theorem a7X (k:Nat) (a b:Int) (hk:3≤k):iR.f k a b=some (a,b):=by
  obtain⟨k,rfl⟩:∃ m,k=m + 3:=⟨k - 3,by omega⟩
  have w1:wrap64 (0 + 1)=1:=dS (by omega) (by omega);have w2:wrap64 (1 + 1)=2:=dS (by omega) (by omega);unfold iR.f;simp only[iR.l0,w1,w2];simp
theorem a0Y (k:Nat) (a b:Int) (hk:3≤k):iN.f k a b a b=some true:=by
  obtain⟨k,rfl⟩:∃ m,k=m + 3:=⟨k - 3,by omega⟩
  have w1:wrap64 (0 + 1)=1:=dS (by omega) (by omega);have w2:wrap64 (1 + 1)=2:=dS (by omega) (by omega);unfold iN.f;simp only[iN.l0,w1,w2];simp
theorem a1A:∀ (s p q:List R) (k:Nat),p.length=q.length→(p ++ s).length < 4611686018427387904→s.length + 4 < k→
    fE.l0 k (p ++ s) (q ++ List.replicate s.length z64) (p.length:Int)=some (q ++ s):=by
  intro s
  induction s with
  | nil=>
    intro p q k hpq hl hk;obtain⟨k,rfl⟩:∃ m,k=m + 1:=⟨k - 1,by simp at hk;omega⟩
    simp only[fE.l0];rw[if_neg (by simp)];simp
  | cons x s ih=>
    intro p q k hpq hl hk;obtain⟨k,rfl⟩:∃ m,k=m + 1:=⟨k - 1,by simp at hk;omega⟩
    simp only[fE.l0];rw[if_pos (by simp;omega),if_pos (by omega),a7X k _ _ (by simp at hk;omega),Option.bind_some,if_pos (by simp;omega),BC,oL p x (by simp at hl;omega)];rw[show(((p.length:Nat):Int)).toNat=q.length from by omega,List.length_cons,a3L,List.append_cons p x s,ih (p ++ [x]) _ k (by simp[hpq]) (by simpa using hl) (by simp at hk;omega)];simp
theorem NR (l:List R) (k:Nat) (hl:l.length≤1048576) (hk:l.length + 4 < k):fE.f k l=some l:=by
  unfold fE.f;rw[if_pos (by omega),if_pos (by omega)];exact a1A l [] [] k rfl (by simp;omega) hk
theorem FU (k:Nat) (A H:List R) (h1:A.length≤1048576) (h2:H.length≤1048576) (hk:A.length + 4 < k) (hk2:H.length + 4 < k):iC.f k A H=some (A,H):=by
  unfold iC.f;rw[NR A k h1 hk,NR H k h2 hk2];rfl
theorem a1B:∀ (s p:List R) (k:Nat),(p ++ s).length < 4611686018427387904→s.length + 4 < k→dD.l0 k (p ++ s) (p ++ s) (p.length:Int)=some true:=by
  intro s
  induction s with
  | nil=>
    intro p k hl hk;obtain⟨k,rfl⟩:∃ m,k=m + 1:=⟨k - 1,by simp at hk;omega⟩
    simp only[dD.l0];rw[if_neg (by simp)]
  | cons x s ih=>
    intro p k hl hk;obtain⟨k,rfl⟩:∃ m,k=m + 1:=⟨k - 1,by simp at hk;omega⟩
    simp only[dD.l0];rw[if_pos (by simp;omega),if_pos (by omega),if_pos (by simp;omega),BC,a0Y k _ _ (by simp at hk;omega),Option.bind_some,if_pos rfl,oL p x (by simp at hl;omega)];have e:=ih (p ++ [x]) k (by simpa using hl) (by simp at hk;omega);rw[List.append_assoc]at e;exact e
theorem JB (l:List R) (k:Nat) (hl:l.length < 4611686018427387904) (hk:l.length + 4 < k):dD.f k l l=some true:=by
  unfold dD.f;rw[if_pos rfl];exact a1B l [] k (by simpa using hl) hk
theorem XT (k:Nat) (A H:List R) (h1:A.length < 4611686018427387904) (h2:H.length < 4611686018427387904) (hk:A.length + 4 < k) (hk2:H.length + 4 < k):mK.f k A H A H=some true:=by
  unfold mK.f;rw[JB A k h1 hk,Option.bind_some,if_pos rfl,JB H k h2 hk2];rfl
theorem a1C (A H:List R) (h1:A.length≤9223372036854775807) (h2:H.length≤9223372036854775807):
    mI.f A H 1048576=some (if A.length + H.length≤1048576 then 1048576 - (A.length:Int) - (H.length:Int)else -1):=by
  unfold mI.f jI.f;rw[aV0 _ h1];by_cases c1:1048576 < A.length
  · rw[if_pos (by omega),Option.bind_some,if_pos (by decide),if_neg (by omega)]
  · rw[if_neg (by omega),Option.bind_some,if_neg (by omega),dS (x:=1048576 - (A.length:Int) - (H.length:Int)) (by omega) (by omega)]
    by_cases c2:A.length + H.length≤1048576
    · rw[if_neg (by omega),Option.bind_some,if_neg (by omega),if_pos c2]
    · rw[if_pos (by omega),Option.bind_some,if_pos (by decide),if_neg c2]
def J8:Int→Nat→List R
  |_,0=>[]
  |x,n + 1=>⟨x,x + 1⟩::J8 (x + 2) n
theorem aK2:∀ (s p:List R) (x:Int) (k:Nat),(p ++ s).length < 4611686018427387904→0≤x→x + 2 * s.length < 4611686018427387904→4 * s.length + 4 < k→
    bV.l0 k (p ++ s) x (p.length:Int)=some (x + 2 * (s.length:Int),p ++ J8 x s.length):=by
  intro s
  induction s with
  | nil=>
    intro p x k hl h0 h1 hk;obtain⟨k,rfl⟩:∃ m,k=m + 1:=⟨k - 1,by omega⟩
    simp only[bV.l0];rw[if_neg (by simp)];simp[J8]
  | cons y s ih=>
    intro p x k hl h0 h1 hk;simp only[List.length_cons,Int.natCast_add,Int.natCast_one]at h1 hk;obtain⟨k,rfl⟩:∃ m,k=m + 4:=⟨k - 4,by omega⟩
    have w1:wrap64 (0 + 1)=1:=dS (by omega) (by omega);have w2:wrap64 (1 + 1)=2:=dS (by omega) (by omega);have x1:=dS (x:=x + 1) (by omega) (by omega);have x2:=dS (x:=x + 1 + 1) (by omega) (by omega);have d0:0≤(p.length:Int):=by omega
    have q:¬ ((1:Int)=0):=by omega
    have d1:(p.length:Int) < ((p ++ y::s).length:Int):=by simp;omega
    have s1:∀ z:R,(p ++ y::s).set ((p.length:Int)).toNat z=p ++ z::s:=fun z=>by rw[Int.toNat_natCast,List.set_append_right _ _ (Nat.le_refl _),Nat.sub_self];rfl
    have d2:∀ z:R,(p.length:Int) < ((p ++ z::s).length:Int):=fun z=>by simp;omega
    have s2:∀ z z2:R,(p ++ z::s).set ((p.length:Int)).toNat z2=p ++ z2::s:=fun z z2=>by rw[Int.toNat_natCast,List.set_append_right _ _ (Nat.le_refl _),Nat.sub_self];rfl
    simp only[bV.l0,d1,if_true];rw[show bV.l1 (k + 3) (p ++ y::s) x (p.length:Int) 0=bV.l1 (k + 2) (p ++ ⟨x,y.f1⟩::s) (x + 1) (p.length:Int) 1 from by simp only[bV.l1,d0,d1,s1,BC,w1,x1,if_true,Int.reduceLT]];rw[show bV.l1 (k + 2) (p ++ ⟨x,y.f1⟩::s) (x + 1) (p.length:Int) 1=bV.l1 (k + 1) (p ++ ⟨x,x + 1⟩::s) (x + 1 + 1) (p.length:Int) 2 from by simp only[bV.l1,d0,d2,s2,BC,w2,x2,q,if_true,if_false,Int.reduceLT]];rw[show bV.l1 (k + 1) (p ++ ⟨x,x + 1⟩::s) (x + 1 + 1) (p.length:Int) 2=bV.l0 k (p ++ ⟨x,x + 1⟩::s) (x + 1 + 1) (wrap64 ((p.length:Int) + 1))from by simp only[bV.l1,if_false,Int.reduceLT]];rw[oL p (⟨x,x + 1⟩:R) (by simp at hl;omega),List.append_cons p (⟨x,x + 1⟩:R) s,ih (p ++ [(⟨x,x + 1⟩:R)]) (x + 1 + 1) k (by simpa using hl) (by omega) (by omega) (by omega)];congr 1;rw[show x + 1 + 1=x + 2 from by omega];simp[J8];omega
theorem JC (l:List R) (x:Int) (k:Nat) (hl:l.length < 4611686018427387904) (h0:0≤x) (h1:x + 2 * l.length < 4611686018427387904) (hk:4 * l.length + 4 < k):bV.f k l x=some (x + 2 * (l.length:Int),J8 x l.length):=by
  unfold bV.f;exact aK2 l [] x k hl h0 h1 hk
theorem XU (A H:List R) (k:Nat) (hb:A.length + H.length≤1048576) (hk:4 * A.length + 4 < k) (hk2:4 * H.length + 4 < k):mG.f k A H 1=some (1 + 2 * (A.length:Int) + 2 * (H.length:Int),J8 1 A.length,J8 (1 + 2 * (A.length:Int)) H.length):=by
  unfold mG.f;rw[JC A 1 k (by omega) (by omega) (by omega) hk,Option.bind_some,JC H _ k (by omega) (by omega) (by omega) hk2];rfl
theorem QB (b:Bool):(b !=b)=false:=by cases b <;> rfl
theorem aPQ (n:Int):∀ (s p:List Int) (k:Nat),(p ++ s).length < 4611686018427387904→s.length < k→j5.l0 k (p ++ s) n (p.length:Int)=some (s.all iU && (((p ++ s).length:Int)==n)):=by
  intro s
  induction s with
  | nil=>
    intro p k hl hk;obtain⟨k,rfl⟩:∃ m,k=m + 1:=⟨k - 1,by simp at hk;omega⟩
    simp only[j5.l0];rw[if_neg (by simp)];simp
  | cons x s ih=>
    intro p k hl hk;obtain⟨k,rfl⟩:∃ m,k=m + 1:=⟨k - 1,by simp at hk;omega⟩
    simp only[j5.l0];rw[if_pos (by simp;omega),if_pos (by omega),V5,HZ,Option.bind_some];by_cases hx:1≤x∧x≤99
    · rw[decide_eq_true hx,if_pos rfl,oL p x (by simp at hl;omega),List.append_cons p x s,ih (p ++ [x]) k (by simpa using hl) (by simp at hk;omega)]
      simp[iU,hx]
    · rw[decide_eq_false hx,if_neg (by decide)]
      simp[iU,hx]
theorem aEO:∀ (s p:List Int) (k:Nat),(p ++ s).length < 4611686018427387904→s.length < k→∃ r,dB.l0 k (p ++ s) ((p ++ s).length:Int) (p.length:Int)=some r∧decide (r ≥ 0)= !(s.all iU):=by
  intro s
  induction s with
  | nil=>
    intro p k hl hk;obtain⟨k,rfl⟩:∃ m,k=m + 1:=⟨k - 1,by simp at hk;omega⟩
    simp only[dB.l0];rw[if_neg (by simp)];exact⟨-1,rfl,by simp⟩
  | cons x s ih=>
    intro p k hl hk;obtain⟨k,rfl⟩:∃ m,k=m + 1:=⟨k - 1,by simp at hk;omega⟩
    simp only[dB.l0,l8.f,uN];rw[if_pos (by simp;omega),if_pos (by omega),if_pos (by simp;omega),V5,Option.bind_some,Option.bind_some];by_cases hx:iU x=true
    · rw[hx,if_neg (by decide),oL p x (by simp at hl;omega),List.append_cons p x s]
      obtain⟨r,h1,h2⟩:=ih (p ++ [x]) k (by simpa using hl) (by simp at hk;omega);exact⟨r,h1,by rw[h2];simp[hx]⟩
    · rw[Bool.not_eq_true]at hx
      rw[hx,if_pos (by decide)];exact⟨_,rfl,by simp[hx]⟩
theorem NS (T:List Int) (k:Nat) (hl:T.length≤1048576) (hk:T.length < k):iG.f k T=some (!(T.all iU)):=by
  unfold iG.f dB.f;obtain⟨r,h1,h2⟩:=aEO T [] k (by simp;omega) hk;have h3:dB.l0 k T (T.length:Int) 0=some r:=h1;rw[h3,Option.bind_some,h2]
theorem aK3:∀ (s p:List Int) (k:Nat),(p ++ s).length < 1000→s.length < k→gZ.l0 k (p ++ s) (p.length:Int)=some (s.all (fun x=>decide (x=0))):=by
  intro s
  induction s with
  | nil=>
    intro p k hl hk;obtain⟨k,rfl⟩:∃ m,k=m + 1:=⟨k - 1,by simp at hk;omega⟩
    simp only[gZ.l0];rw[if_neg (by simp)];rfl
  | cons x s ih=>
    intro p k hl hk;obtain⟨k,rfl⟩:∃ m,k=m + 1:=⟨k - 1,by simp at hk;omega⟩
    have hr:rd (p ++ x::s) (p.length:Int)=x:=by simp[rd]
    simp only[gZ.l0];rw[if_pos (by simp;omega),if_pos (by omega),hr,oL p x (by simp at hl;omega),List.append_cons p x s,ih (p ++ [x]) k (by simpa using hl) (by simp at hk;omega)];by_cases hx:x=0 <;> simp[hx]
theorem aV3:∀ (s p:List Int) (k:Nat),(p ++ s).length < 1000→s.length < k→∃ r,dG.l0 k (p ++ s) ((p ++ s).length:Int) (p.length:Int)=some r∧decide (r ≥ 0)= !(s.all (fun x=>decide (x=0))):=by
  intro s
  induction s with
  | nil=>
    intro p k hl hk;obtain⟨k,rfl⟩:∃ m,k=m + 1:=⟨k - 1,by simp at hk;omega⟩
    simp only[dG.l0];rw[if_neg (by simp)];exact⟨-1,rfl,by simp⟩
  | cons x s ih=>
    intro p k hl hk;obtain⟨k,rfl⟩:∃ m,k=m + 1:=⟨k - 1,by simp at hk;omega⟩
    have hr:rd (p ++ x::s) (p.length:Int)=x:=by simp[rd]
    simp only[dG.l0,o9.f];rw[if_pos (by simp;omega),if_pos (by omega),if_pos (by simp;omega),hr,Option.bind_some];by_cases hx:x=0
    · subst hx
      rw[if_neg (by decide),oL p 0 (by simp at hl;omega),List.append_cons p 0 s];obtain⟨r,h1,h2⟩:=ih (p ++ [0]) k (by simpa using hl) (by simp at hk;omega);exact⟨r,h1,by rw[h2];simp⟩
    · rw[if_pos (by simpa using hx)]
      exact⟨_,rfl,by simp[hx]⟩
theorem aEP (T:List Int) (k:Nat) (hl:T.length < 1000) (hk:T.length < k):gY.f k T=some (!(T.all (fun x=>decide (x=0)))):=by
  unfold gY.f dG.f;obtain⟨r,h1,h2⟩:=aV3 T [] k hl hk;have h3:dG.l0 k T (T.length:Int) 0=some r:=h1;rw[h3,Option.bind_some,h2]
theorem lev {A H:List R} (h:good A H=true):∃ b:Bool,∀ k,1000≤k→gZ.f k A H=some b∧oF.f k A H=some b:=by
  have ok:=NC h;have o1:=ok.len;obtain⟨W,hW,hs⟩:=a7W ok;obtain⟨T,h1,h2⟩:=aEN ok hW A.length 0 [] (by omega) rfl;refine⟨T.all (fun x=>decide (x=0)),fun k hk=>?_⟩;have h3:dP.l0 k [] W 0 A H=some T:=h2 k (by omega);have h4:gZ.l0 k T 0=some (T.all (fun x=>decide (x=0))):=aK3 T [] k (by simp;omega) (by omega);simp(disch:=omega) only[gZ.f,oF.f,dP.f,dV.f,XR,h3,h4,aEP,a0X,hs,Bool.not_not,Option.bind_some,and_self]
theorem DV (l:List Int) (h:l.length≤1048576):gD.f l=some l:=by
  simp only[gD.f,Option.bind_some,List.nil_append,List.length_nil];rw[if_pos (by omega)]
theorem KW (l:List Int) (h:l.length≤1048576):eO.f l=some l:=by
  simp only[eO.f,Option.bind_some,List.nil_append,List.length_nil];rw[if_pos (by omega)]
theorem a3O (a b:Int):cmp_Less_int.f a b=some (decide (a < b)):=by
  simp[cmp_Less_int.f,cmp_isNaN_int.f]
theorem insert (w rest:List Int) (x:Int) (i n:Nat) (hi:i < w.length) (hn:w.length≤100) (hx:rd w (i:Int)=x):∀ (m:Nat) (a b:List Int),a.length=m→a.length + b.length=i→i + 1 + rest.length≤100→
    ∃ out:List Int,out.length=i + 1∧(∀ e ∈ out,e=x∨e ∈ a∨e ∈ b)∧
      (∀ (r:List Int) (K:Nat),(∀ k,K≤k→aX.l0 k w out ((i + 1:Nat):Int)=some r)→∀ k,K + m + 1≤k→aX.l1 k w (a ++ b) (i:Int) (m:Int)=some r)∧
      (∀ (r:List Int) (K:Nat),(∀ k,K≤k→aH.l0 k (out ++ rest) 0 (n:Int) ((i + 1:Nat):Int)=some r)→∀ k,K + m + 1≤k→aH.l1 k (a ++ x::b ++ rest) 0 (n:Int) (i:Int) (m:Int)=some r):=by
  have hw1:wrap64 ((i:Int) + 1)=((i + 1:Nat):Int):=by rw[dS (by omega) (by omega)];omega
  intro m
  induction m with
  | zero=>
    intro a b ha hab hr;obtain rfl:=List.eq_nil_of_length_eq_zero ha;refine⟨x::b,by simp at hab ⊢;omega,by simp,fun r K h k hk=>?_,fun r K h k hk=>?_⟩
    · obtain⟨k,rfl⟩:∃ m,k=m + 1:=⟨k - 1,by omega⟩
      simp only[aX.l1];rw[if_neg (by decide),if_pos (by decide),if_pos (by simp)];simp only[Int.toNat_zero,Int.natCast_zero,List.take_zero,List.drop_zero,List.nil_append];rw[DV _ (by simp),Option.bind_some,if_pos (by omega),if_pos (by omega),hx];simp only[Option.bind_some,List.nil_append,List.length_nil,List.length_cons];rw[if_pos (by omega),if_pos (by simp at hab;omega),hw1];exact h k (by omega)
    · obtain⟨k,rfl⟩:∃ m,k=m + 1:=⟨k - 1,by omega⟩
      simp only[aH.l1];rw[if_neg (by decide),hw1];exact h k (by omega)
  | succ m ih=>
    intro a b ha hab hr;obtain⟨a,y,rfl⟩:∃ a' y,a=a' ++ [y]:=by
      rcases List.eq_nil_or_concat a with h|⟨a',y,h⟩
      · rw[h]at ha;simp at ha
      · exact⟨a',y,by simpa using h⟩
    have ham:a.length=m:=by simpa using ha
    have hm1:wrap64 (((m + 1:Nat):Int) - 1)=(m:Int):=by rw[dS (by simp at hab;omega) (by simp at hab;omega)];omega
    have hy:rd (a ++ [y] ++ b) (m:Int)=y:=by
      rw[← ham,show a ++ [y] ++ b=a ++ y::b by simp];exact V5 a b y
    have e1:a ++ [y] ++ x::b ++ rest=a ++ y::(x::b ++ rest):=by simp
    have hy2:rd (a ++ [y] ++ x::b ++ rest) (m:Int)=y:=by
      rw[e1,← ham];exact V5 a _ y
    have hx2:rd (a ++ [y] ++ x::b ++ rest) ((m + 1:Nat):Int)=x:=by
      rw[show a ++ [y] ++ x::b ++ rest=(a ++ [y]) ++ x::(b ++ rest) by simp,← ha];exact V5 _ _ x
    by_cases hlt:x < y
    · obtain⟨out,o1,o2,o3,o4⟩:=ih a (y::b) ham (by simp at hab ⊢;omega) hr
      refine⟨out,o1,fun e he=>?_,fun r K h k hk=>?_,fun r K h k hk=>?_⟩
      · rcases o2 e he with h|h|h
        · exact .inl h
        · exact .inr (.inl (by simp[h]))
        · rcases List.mem_cons.1 h with h|h
          · exact .inr (.inl (by simp[h]))
          · exact .inr (.inr h)
      · obtain⟨k,rfl⟩:∃ m,k=m + 1:=⟨k - 1,by omega⟩
        simp only[aX.l1];rw[if_pos (by omega),if_pos (by omega),if_pos (by omega),hm1,if_pos (by omega),if_pos (by simp at hab ⊢;omega),hx,hy,if_pos hlt,show a ++ [y] ++ b=a ++ y::b by simp];exact o3 r K h k (by omega)
      · obtain⟨k,rfl⟩:∃ m,k=m + 1:=⟨k - 1,by omega⟩
        simp only[aH.l1];rw[if_pos (by omega),if_pos (by omega),if_pos (by simp at hab ⊢;omega),hm1,if_pos (by omega),if_pos (by simp at hab ⊢;omega),a3O,Option.bind_some,hx2,hy2,decide_eq_true hlt,if_pos rfl];have e2:((a ++ [y] ++ x::b ++ rest).set (((m + 1:Nat):Int)).toNat y).set ((m:Nat):Int).toNat x=a ++ x::(y::b) ++ rest:=by
          rw[Int.toNat_natCast,Int.toNat_natCast,show a ++ [y] ++ x::b ++ rest=(a ++ [y]) ++ x::(b ++ rest) by simp,← ha,set_mid,show a ++ [y] ++ y::(b ++ rest)=a ++ y::(y::(b ++ rest)) by simp,← ham,set_mid];simp
        rw[e2];exact o4 r K h k (by omega)
    · refine⟨a ++ [y] ++ x::b,by simp at hab ⊢;omega,fun e he=>?_,fun r K h k hk=>?_,fun r K h k hk=>?_⟩
      · simp at he ⊢
        rcases he with h|h|h|h <;> simp[h]
      · obtain⟨k,rfl⟩:∃ m,k=m + 1:=⟨k - 1,by omega⟩
        simp only[aX.l1];rw[if_pos (by omega),if_pos (by omega),if_pos (by omega),hm1,if_pos (by omega),if_pos (by simp at hab ⊢;omega),hx,hy,if_neg hlt,if_pos (by omega),if_pos (by simp at hab ⊢;omega),Int.toNat_natCast,← ha,List.take_left,List.drop_left,DV _ (by simp at hab ⊢;omega)];simp only[Option.bind_some,List.length_cons,List.length_nil,List.length_append];rw[if_pos (by simp at hab;omega),if_pos (by simp at hab;omega),hw1];have e3:a ++ [y] ++ [x] ++ b=a ++ [y] ++ x::b:=by simp
        rw[e3];exact h k (by omega)
      · obtain⟨k,rfl⟩:∃ m,k=m + 1:=⟨k - 1,by omega⟩
        simp only[aH.l1];rw[if_pos (by omega),if_pos (by omega),if_pos (by simp at hab ⊢;omega),hm1,if_pos (by omega),if_pos (by simp at hab ⊢;omega),a3O,Option.bind_some,hx2,hy2,decide_eq_false hlt,if_neg (by decide),hw1];exact h k (by omega)
theorem a9T (w:List Int) (hn:w.length≤50):∀ (s p out:List Int),p ++ s=w→out.length=p.length→∃ r:List Int,r.length=w.length∧(∀ e ∈ r,e ∈ out∨e ∈ s)∧∀ k,100 * s.length + 1≤k→
    aX.l0 k w out (p.length:Int)=some r∧aH.l0 k (out ++ s) 0 (w.length:Int) (p.length:Int)=some r:=by
  intro s
  induction s with
  | nil=>
    intro p out hp ho;refine⟨out,by rw[ho,← hp];simp,fun e he=> .inl he,fun k hk=>?_⟩;obtain⟨k,rfl⟩:∃ m,k=m + 1:=⟨k - 1,by omega⟩
    have e:p.length=w.length:=by rw[← hp];simp
    simp only[aX.l0,aH.l0];rw[if_neg (by omega),if_neg (by omega)];simp
  | cons x s ih=>
    intro p out hp ho;have hl:p.length + s.length + 1=w.length:=by rw[← hp];simp;omega
    have hx:rd w (p.length:Int)=x:=by rw[← hp];exact V5 p s x
    obtain⟨aZY,o1,o2,o3,o4⟩:=insert w s x p.length w.length (by omega) (by omega) hx p.length out [] ho (by simp[ho]) (by omega);obtain⟨r,r1,r2,r3⟩:=ih (p ++ [x]) aZY (by rw[← hp];simp) (by simp[o1]);rw[show(p ++ [x]).length=p.length + 1 by simp]at r3;refine⟨r,r1,fun e he=>?_,fun k hk=>?_⟩
    · rcases r2 e he with h|h
      · rcases o2 e h with h|h|h
        · exact .inr (by simp[h])
        · exact .inl h
        · cases h
      · exact .inr (by simp[h])
    · obtain⟨k,rfl⟩:∃ m,k=m + 1:=⟨k - 1,by omega⟩
      have h3:=o3 r (100 * s.length + 1) (fun k hk=>(r3 k hk).1) k (by simp at hk;omega);have h4:=o4 r (100 * s.length + 1) (fun k hk=>(r3 k hk).2) k (by simp at hk;omega);simp only[aX.l0,aH.l0];rw[if_pos (by omega),if_pos (by omega),ho];refine⟨by simpa using h3,?_⟩;rw[show out ++ [x] ++ s=out ++ x::s by simp]at h4
      simpa using h4
set_option maxRecDepth 100000 in
theorem aPR (n:Nat) (h:n≤200) (k:Nat) (hk:1≤k):∃ t,bits_Len.f k (IntKind.u64.wrap (n:Int))=some t:=by
  obtain⟨k,rfl⟩:∃ m,k=m + 1:=⟨k - 1,by omega⟩
  have e:IntKind.u64.wrap (n:Int)=(n:Int):=by simp only[IntKind.wrap,IntKind.signed,IntKind.bits,Bool.false_and,Bool.false_eq_true,if_false];omega
  unfold bits_Len.f bits_Len64.f;rw[e,if_neg (by omega)];simp only[bits_Len64.j0];rw[if_neg (by omega),if_neg (by omega),if_pos (by omega),if_pos (by omega)];exact⟨_,rfl⟩
theorem a9U (w:List Int) (h1:1≤w.length) (hn:w.length≤7):∃ r:List Int,r.length=w.length∧(∀ e ∈ r,e ∈ w)∧∀ k,1000≤k→aX.f k w=some r∧l9.f k w=some r:=by
  obtain⟨x,s,rfl⟩:∃ x s,w=x::s:=by
    cases w with
    |nil=>simp at h1
    |cons x s=>exact⟨x,s,rfl⟩
  obtain⟨r,r1,r2,r3⟩:=a9T (x::s) (by omega) s [x] [x] rfl rfl;refine⟨r,r1,fun e he=>?_,fun k hk=>?_⟩
  · rcases r2 e he with h|h
    · simp at h;simp[h]
    · simp[h]
  · have hlen:s.length≤6:=by simpa using hn
    obtain⟨t,ht⟩:=aPR (x::s).length (by omega) k (by omega);have h2:=(r3 k (by omega)).2;have w01:wrap64 (0 + 1)=(([x]:List Int).length:Int):=by rw[dS (by omega) (by omega)];rfl
    have h12:wrap64 (((x::s).length:Int) - 0)≤12:=by rw[dS (by simp;omega) (by simp;omega)];omega
    refine⟨?_,?_⟩
    · obtain⟨k,rfl⟩:∃ m,k=m + 2:=⟨k - 2,by omega⟩
      have hx:rd (x::s) 0=x:=by simp[rd]
      unfold aX.f;simp only[aX.l0];rw[if_pos (by simp)];simp only[aX.l1];rw[if_neg (by decide),if_pos (by decide),if_pos (by decide)];simp only[List.take_nil,List.drop_nil];rw[DV _ (by simp),Option.bind_some,if_pos (by decide),if_pos (by simp),hx];simp only[Option.bind_some,List.nil_append,List.length_nil,List.length_cons];rw[if_pos (by omega),if_pos (by omega),w01];exact(r3 k (by omega)).1
    · unfold l9.f jA.f aH.f
      rw[ht,Option.bind_some,if_pos h12];have h5:aH.l0 k (x::s) 0 ((x::s).length:Int) (wrap64 (0 + 1))=some r:=by rw[w01];exact h2
      rw[h5];rfl
theorem more (A H:List R) (h:good A H=true):∀ (n:Nat) (order left:List Int),left.length=n→order.length + n=A.length + 1→(∀ x ∈ order,iU x=true)→(∀ x ∈ left,iU x=true)→∃ r:List Int × Bool,r.1.length≤7∧∀ k,2000 + 100 * n≤k→aY.f k A H order left=some r∧bF.f k A H order left=some r:=by
  have ok:=NC h;have o1:=ok.len;have o2:=ok.same;have hc:=a0T h;intro n
  induction n with
  | zero=>
    intro order left hl hn ho _;obtain rfl:=List.eq_nil_of_length_eq_zero hl;obtain⟨b,hb⟩:=lev (a9Q h ho (by omega));refine⟨(order,b),by simp only;omega,fun k hk=>?_⟩;obtain⟨k,rfl⟩:∃ m,k=m + 1:=⟨k - 1,by omega⟩
    have hb1:=(hb k (by omega)).1;have hb2:=(hb k (by omega)).2;have z:(([]:List Int).length:Int)=0:=rfl;simp(disch:=omega) only[aY.f,bF.f,z,a9O,a14,Option.bind_some,hb1,hb2,if_true,and_self]
  | succ n ih=>
    intro order left hl hn ho hw;clear hc;have loop:∀ (s p:List Int),p ++ s=left→∃ r:List Int × Bool,r.1.length≤7∧∀ k,2000 + 100 * n + 2 * s.length + 2≤k→aY.l0 k order left (p.length:Int) A H=some r∧bF.l0 k order left left (left.length:Int) (p.length:Int) A H=some r:=by
      intro s
      induction s with
      | nil=>
        intro p hp;refine⟨([],false),by simp,fun k hk=>?_⟩;obtain⟨k,rfl⟩:∃ m,k=m + 1:=⟨k - 1,by omega⟩
        have e:p.length=left.length:=by rw[← hp];simp
        simp only[aY.l0,bF.l0];rw[if_neg (by omega),if_neg (by omega)];exact⟨rfl,rfl⟩
      | cons x s ihs=>
        intro p hp;have hx:rd left (p.length:Int)=x:=by rw[← hp];exact V5 p s x
        have hlen:p.length + s.length + 1=left.length:=by rw[← hp];simp;omega
        have hs1:wrap64 ((p.length:Int) + 1)=((p.length + 1:Nat):Int):=by rw[dS (by omega) (by omega)];omega
        obtain⟨r1,hr1,h1⟩:=ihs (p ++ [x]) (by rw[← hp];simp);rw[show(p ++ [x]).length=p.length + 1 by simp]at h1;have hall:∀ y ∈ p ++ s,iU y=true:=fun y hy=>hw y (by rw[← hp];simp at hy ⊢;rcases hy with h|h <;> simp[h])
        obtain⟨r2,hr2,h2⟩:=ih (order ++ [x]) (p ++ s) (by simp;omega) (by simp;omega) (fun y hy=>by
          rcases List.mem_append.1 hy with h|h
          · exact ho y h
          · exact hw y (by rw[← hp];simp at h;simp[h])) hall
        have htake:left.take p.length=p:=by rw[← hp,List.take_left]
        have hdrop:left.drop (p.length + 1)=s:=by rw[← hp,List.append_cons,List.drop_left' (by simp)]
        have herase:left.eraseIdx p.length=p ++ s:=by rw[List.eraseIdx_eq_take_drop_succ,htake,hdrop]
        have hdel:eU.f left (p.length:Int) ((p.length + 1:Nat):Int)=some (p ++ s):=by
          unfold eU.f;have cd:0≤(p.length:Int)∧((p.length + 1:Nat):Int)=(p.length:Int) + 1∧((p.length + 1:Nat):Int)≤(left.length:Int):=⟨Int.natCast_nonneg _,by omega,by omega⟩
          rw[if_pos cd,Int.toNat_natCast,herase]
        have jf:∀ k,2000 + 100 * n + 2 * s.length + 3≤k→aY.j1 k order left (p.length:Int) false A H=some (if r2.2=true then(r2.1,true)else r1)∧bF.j1 k order left (p.length:Int) x left (left.length:Int) (p.length:Int) false A H=some (if r2.2=true then(r2.1,true)else r1):=by
          intro k hk;obtain⟨k,rfl⟩:∃ m,k=m + 1:=⟨k - 1,by omega⟩
          have hf:=h2 k (by omega);have hg:=h1 k (by omega);refine⟨?_,?_⟩
          · simp only[aY.j1]
            rw[if_neg (by decide),if_pos (by omega),if_pos (by omega),Int.toNat_natCast,htake,DV _ (by omega),Option.bind_some,hs1,if_pos (by omega),if_pos (by omega),Int.toNat_natCast,hdrop];simp only[Option.bind_some];rw[if_pos (by omega),DV _ (by omega),Option.bind_some,if_pos (by omega),hx];simp only[Option.bind_some,List.length_cons,List.length_nil];rw[if_pos (by omega),hf.1,Option.bind_some,hg.1];by_cases hb:r2.2=true
            · rw[if_pos hb,if_pos hb]
            · rw[if_neg hb,if_neg hb]
          · simp only[bF.j1]
            rw[if_neg (by decide),KW _ (by omega),Option.bind_some,hs1,hdel,Option.bind_some,KW _ (by omega)];simp only[Option.bind_some,List.length_cons,List.length_nil];rw[if_pos (by omega),hf.2,Option.bind_some,hg.2];by_cases hb:r2.2=true
            · rw[if_pos hb,if_pos hb]
            · rw[if_neg hb,if_neg hb]
        have jt:∀ k,2000 + 100 * n + 2 * s.length + 3≤k→aY.j1 k order left (p.length:Int) true A H=some r1∧bF.j1 k order left (p.length:Int) x left (left.length:Int) (p.length:Int) true A H=some r1:=by
          intro k hk;obtain⟨k,rfl⟩:∃ m,k=m + 1:=⟨k - 1,by omega⟩
          have hg:=h1 k (by omega);simp only[aY.j1,bF.j1,if_true];rw[hs1];exact hg
        have c1:(p.length:Int) < (left.length:Int):=by omega
        have c2:0≤(p.length:Int):=Int.natCast_nonneg _;by_cases hp0:0 < p.length
        · have hm1:wrap64 ((p.length:Int) - 1)=(p.length:Int) - 1:=dS (by omega) (by omega)
          have go:∀ k,2000 + 100 * n + 2 * (s.length + 1) + 2≤k + 1→aY.l0 (k + 1) order left (p.length:Int) A H=aY.j1 k order left (p.length:Int) (x==rd left ((p.length:Int) - 1)) A H∧bF.l0 (k + 1) order left left (left.length:Int) (p.length:Int) A H=bF.j1 k order left (p.length:Int) x left (left.length:Int) (p.length:Int) (x==rd left ((p.length:Int) - 1)) A H:=by
            intro k hk;have c4:(p.length:Int) > 0:=by omega
            have c5:0≤(p.length:Int) - 1:=by omega
            have c6:(p.length:Int) - 1 < (left.length:Int):=by omega
            simp only[aY.l0,bF.l0,if_pos c1,if_pos c2,if_pos c4,hm1,if_pos c5,if_pos c6,hx,and_self]
          cases hb:(x==rd left ((p.length:Int) - 1))with
          | true=>
            refine⟨r1,hr1,fun k hk=>?_⟩;obtain⟨k,rfl⟩:∃ m,k=m + 1:=⟨k - 1,by omega⟩
            have e:=go k (by simp at hk;omega);rw[hb]at e;rw[e.1,e.2];exact jt k (by simp at hk;omega)
          | false=>
            refine⟨if r2.2=true then(r2.1,true)else r1,by split <;> assumption,fun k hk=>?_⟩;obtain⟨k,rfl⟩:∃ m,k=m + 1:=⟨k - 1,by omega⟩
            have e:=go k (by simp at hk;omega);rw[hb]at e;rw[e.1,e.2];exact jf k (by simp at hk;omega)
        · refine⟨if r2.2=true then(r2.1,true)else r1,by split <;> assumption,fun k hk=>?_⟩
          obtain⟨k,rfl⟩:∃ m,k=m + 1:=⟨k - 1,by omega⟩
          have c4:¬ ((p.length:Int) > 0):=by omega
          simp only[aY.l0,bF.l0,if_pos c1,if_pos c2,if_neg c4,hx];exact jf k (by simp at hk;omega)
    obtain⟨r,hr1,hr⟩:=loop left [] rfl;refine⟨r,hr1,fun k hk=>?_⟩;obtain⟨k,rfl⟩:∃ m,k=m + 1:=⟨k - 1,by omega⟩
    have hq:=hr k (by omega);simp only[aY.f,bF.f];rw[if_neg (by omega),if_neg (by omega)]
    simpa using hq
theorem both (A H:List R) (w:List Int) (hb:A.length + H.length≤1048576) (hwl:w.length≤1048576) (hw:WfR H):∃ r:List Int × Bool,r.1.length≤100∧∀ k,4000 + 3 * A.length + 3 * H.length + 3 * w.length≤k→bX.f k A H w=some r∧dC.f k A H w=some r:=by
  by_cases h:good A H=true
  · have ok:=NC h
    have o1:=ok.len;have o2:=ok.same;have hc:=a0T h;have hlv:=a7U H [];simp only[List.length_nil,Nat.zero_add]at hlv;have n1:wrap64 ((A.length:Int) + 1)=(A.length:Int) + 1:=dS (by omega) (by omega);have ar:∀ k,w.length < k→j5.f k w ((A.length:Int) + 1)=some (w.all iU && ((w.length:Int)==(A.length:Int) + 1)):=fun k hk=>by
      unfold j5.f;exact aPQ _ w [] k (by simp;omega) hk
    by_cases hl:w.length=A.length + 1
    · have hl2:((w.length:Int)=((leaves [] H).length:Int))=True:=eq_true (by omega)
      have hl3:(((w.length:Nat):Int)==(A.length:Int) + 1)=true:=by simp;omega
      by_cases hx:w.all iU=true
      · have hm:∀ x ∈ w,iU x=true:=fun x hx2=>List.all_eq_true.1 hx x hx2
        obtain⟨v,v1,v2,v3⟩:=a9U w (by omega) (by omega);obtain⟨r,r1,r2⟩:=more A H h (A.length + 1) [] v (by omega) (by simp) (by simp) (fun x hx=>hm x (v2 x hx));refine⟨r,by omega,fun k hk=>?_⟩;obtain⟨k,rfl⟩:∃ m,k=m + 1:=⟨k - 1,by omega⟩
        have s1:=(v3 k (by omega)).1;have s2:=(v3 k (by omega)).2;have q1:=(r2 k (by omega)).1;have q2:=(r2 k (by omega)).2;simp(disch:=omega) only[bX.f,bX.j0,dC.f,dC.j0,F9 A H _ hw,zO,h,n1,ar,hx,hl3,FR,hl2,NS,KW,s1,s2,q1,q2,Bool.and_self,Bool.not_true,Option.bind_some,if_true,if_false,and_self,Bool.false_eq_true]
      · rw[Bool.not_eq_true]at hx
        refine⟨([],false),by simp,fun k hk=>?_⟩;obtain⟨k,rfl⟩:∃ m,k=m + 1:=⟨k - 1,by omega⟩
        simp(disch:=omega) only[bX.f,bX.j0,dC.f,dC.j0,F9 A H _ hw,zO,h,n1,ar,hx,hl2,FR,NS,Bool.false_and,Bool.not_false,Option.bind_some,if_true,if_false,and_self,Bool.false_eq_true]
    · have hl2:¬ ((w.length:Int)=((leaves [] H).length:Int)):=by omega
      have hl3:(((w.length:Nat):Int)==(A.length:Int) + 1)=false:=by simp;omega
      refine⟨([],false),by simp,fun k hk=>?_⟩;obtain⟨k,rfl⟩:∃ m,k=m + 1:=⟨k - 1,by omega⟩
      simp(disch:=omega) only[bX.f,bX.j0,dC.f,dC.j0,F9 A H _ hw,zO,h,n1,ar,hl3,hl2,FR,Bool.and_false,Bool.not_false,Option.bind_some,if_true,if_false,and_self,Bool.false_eq_true]
  · refine⟨([],false),by simp,fun k hk=>?_⟩
    obtain⟨k,rfl⟩:∃ m,k=m + 1:=⟨k - 1,by omega⟩
    simp(disch:=omega) only[bX.f,bX.j0,dC.f,dC.j0,F9 A H _ hw,zO,h,Option.bind_some,if_true,if_false,and_self,Bool.false_eq_true]
theorem FnExactFirstHanging:∀ (aA:List (S64)) (aC:List (S64)) (l1:List Int),(aA.length≤9223372036854775807)→(∀ x_ ∈ aA,((Lit.int .i64 x_.f0).wf=true)∧((Lit.int .i64 x_.f1).wf=true))→(aC.length≤9223372036854775807)→(∀ x_ ∈ aC,((Lit.int .i64 x_.f0).wf=true)∧((Lit.int .i64 x_.f1).wf=true))→(l1.length≤9223372036854775807)→(∀ x_ ∈ l1,(Lit.int .i64 x_).wf=true)→∃ k,bD.f k aA aC l1=some true:=by
  intro A H w h1 _ h2 wH h3 _;have hw:=aPP wH;refine⟨6000 + 4 * A.length + 4 * H.length + 4 * w.length + 6,?_⟩;have hsz:=a1C A H h1 h2;by_cases hwl:w.length≤1048576
  · have nw:¬ ((w.length:Int) > 1048576):=by omega
    by_cases hb:A.length + H.length≤1048576
    · rw[if_pos hb]at hsz
      have n0:¬ ((1048576:Int) - (A.length:Int) - (H.length:Int) < 0):=by omega
      obtain⟨r,hr1,hr⟩:=both A H w hb hwl hw;have hs:=fun k hk=>(hr k hk).1
      have hi:=fun k hk=>(hr k hk).2
      have hm2:∀ k,10 + 4 * A.length + 4 * H.length < k→mG.f k A H 1=some (1 + 2 * (A.length:Int) + 2 * (H.length:Int),J8 1 A.length,J8 (1 + 2 * (A.length:Int)) H.length):=fun k hk=>XU A H k hb (by omega) (by omega)
      have hm3:∀ k,w.length < k→fF.f k w (1 + 2 * (A.length:Int) + 2 * (H.length:Int))=some (1 + 2 * (A.length:Int) + 2 * (H.length:Int) + (w.length:Int),zC (1 + 2 * (A.length:Int) + 2 * (H.length:Int)) w.length):=fun k hk=>NQ w _ k (by omega) (by omega) (by omega) hk
      have n2:¬ (1 + 2 * (A.length:Int) + 2 * (H.length:Int) + (w.length:Int) < 0):=by omega
      have n1:¬ ((1:Int) + (r.1.length:Int) < 0):=by omega
      have hm:∀ k,1000≤k→fF.f k r.1 1=some (1 + (r.1.length:Int),zC 1 r.1.length):=fun k hk=>NQ r.1 1 k (by omega) (by omega) (by omega) (by omega)
      have hh:∀ k,1000≤k→fG.f k (zC 1 r.1.length) 1=some (1 + (r.1.length:Int)):=fun k hk=>a19 r.1.length 1 k (by omega) (by omega) (by omega) (by omega)
      simp(maxSteps:=4000000) (disch:=omega) only[bD.f,nw,hsz,n0,FU,KV,hs,hi,FT,Option.bind_some,QB,if_true,if_false];simp(maxSteps:=4000000) (disch:=omega) only[bD.j0,FU,KV,XT,FT,hm2,hm3,n2,Option.bind_some,QB,if_true,if_false,Bool.false_eq_true];simp(maxSteps:=4000000) (disch:=omega) only[bD.j1,FU,KV,hi,FT,hm,hh,n1,Option.bind_some,QB,if_true,if_false,Bool.false_eq_true];simp(maxSteps:=4000000) (disch:=omega) only[bD.j2,hh,n1,Option.bind_some,if_true,if_false,Bool.false_eq_true]
    · rw[if_neg hb]at hsz
      unfold bD.f;rw[if_neg nw,hsz,Option.bind_some,if_pos (by decide)]
  · unfold bD.f
    rw[if_pos (by omega)]
end Go.Proofs.Ytinlhiakpmcagaa.Pure
