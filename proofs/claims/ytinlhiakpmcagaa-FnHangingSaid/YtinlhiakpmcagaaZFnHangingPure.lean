import Derived.Test.YtinlhiakpmcagaaZFnHangingx23
set_option linter.unusedVariables false
set_option linter.unusedSimpArgs false
namespace Go.Proofs.Ytinlhiakpmcagaa.Pure
open Go.RowKit Go.Proofs.YtinlhiakpmcagaaW.PrintWords Go.Proofs.YtinlhiakpmcagaaW.PrintLast Go.Proofs.Ytinlhiakpmcagaa.PFnHanging
theorem bW {x:Int} (h0: -9223372036854775808≤x) (h1:x≤9223372036854775807):wrap64 x=x:=by
  unfold wrap64;omega
theorem KM (a b c:Int):lU.f a b c=some (decide (b≤a∧a≤c)):=by
  unfold lU.f
  split <;> simp_all
  omega
theorem L8 (a b c:Int):jX.f a b c=some (decide (b≤a∧a≤c)):=by
  unfold jX.f
  split <;> simp_all
  omega
theorem FJ {α:Type} (p:List α) (x:α) (h:p.length < 9223372036854775807):wrap64 ((p.length:Int) + 1)=((p ++ [x]).length:Int):=by
  rw[bW (by omega) (by omega)];simp
theorem bTR {α:Type} (q:List α) (z y:α) (n:Nat):(q ++ List.replicate (n + 1) z).set q.length y=(q ++ [y]) ++ List.replicate n z:=by
  rw[List.set_append_right _ _ (Nat.le_refl _),Nat.sub_self];simp[List.replicate_succ]
abbrev R:=S64
theorem VA (p s:List R) (x:R):aA (p ++ x::s) ((p.length:Int))=x:=by
  simp[aA]
def Wf (h:Int):Prop:=-9223372036854775808≤h∧h≤9223372036854775807
def TE (l:List R):Prop:=∀ x ∈ l,Wf x.f0∧Wf x.f1
def xG (a:Int):Bool:=decide (1≤a∧a≤12)
def iT (h:Int):Bool:=decide (1≤h∧h≤99)
def qL (i n h:Int):Bool:=iT h||decide (i + 1≤ -h∧ -h≤n - 1)
def bump (T:List Int) (h:Int):List Int:=if h < 0 then T.set (-h).toNat (wrap64 (rd T (-h) + 1))else T
def a1Z (T:List Int):Bool:=T.all (fun t=>decide (t=1))
def gS (n:Int):Int→List R→List R→List Int→Bool
  |i,a::us,h::hs,T=>(xG a.f0 && qL i n h.f0) && ((xG a.f1 && qL i n h.f1) && gS n (i + 1) us hs (bump (bump T h.f0) h.f1))
  |_,_,_,T=>a1Z T
def pG (i n:Int) (B:List Bool) (h:Int):Bool:=iT h||(decide (i + 1≤ -h∧ -h≤n - 1) && !(vY false B (-h)))
def mark (B:List Bool) (h:Int):List Bool:=if h < 0 then B.set (-h).toNat true else B
def gI (n:Int):Int→List R→List R→List Bool→Bool
  |i,a::us,h::hs,B=>(xG a.f0 && xG a.f1) && (pG i n B h.f0 && (pG i n (mark B h.f0) h.f1 && gI n (i + 1) us hs (mark (mark B h.f0) h.f1)))
  |_,_,_,B=>(B.drop 1).all id
theorem a5D (T:List Int) (h:Int):(bump T h).length=T.length:=by unfold bump;split <;> simp
theorem oU (B:List Bool) (h:Int):(mark B h).length=B.length:=by unfold mark;split <;> simp
def big (m:Int) (T:List Int):Prop:=∃ j,2≤T.getD j 0∧T.getD j 0≤m
theorem aIK {m:Int} {T:List Int} (h:Int) (hm:m≤1000000) (hb:big m T):big (m + 1) (bump T h):=by
  obtain⟨j,h1,h2⟩:=hb;refine⟨j,?_⟩;unfold bump;by_cases h0:h < 0
  · rw[if_pos h0]
    by_cases hj:(-h).toNat=j
    · have hl:j < T.length:=by
        rcases Nat.lt_or_ge j T.length with hl|hl
        · exact hl
        · rw[List.getD_eq_getElem?_getD,List.getElem?_eq_none hl]at h1
          simp at h1
      have e:(T.set (-h).toNat (wrap64 (rd T (-h) + 1))).getD j 0=T.getD j 0 + 1:=by
        rw[List.getD_eq_getElem?_getD,List.getElem?_set,if_pos hj,if_pos (by omega)];simp only[rd,hj,Option.getD_some];exact bW (by omega) (by omega)
      rw[e];omega
    · have e:(T.set (-h).toNat (wrap64 (rd T (-h) + 1))).getD j 0=T.getD j 0:=by
        rw[List.getD_eq_getElem?_getD,List.getElem?_set,if_neg hj,List.getD_eq_getElem?_getD]
      rw[e];omega
  · rw[if_neg h0]
    omega
theorem b2A {m:Int} {T:List Int} (hb:big m T):a1Z T=false:=by
  obtain⟨j,h1,h2⟩:=hb;have hl:j < T.length:=by
    rcases Nat.lt_or_ge j T.length with hl|hl
    · exact hl
    · rw[List.getD_eq_getElem?_getD,List.getElem?_eq_none hl]at h1
      simp at h1
  rw[List.getD_eq_getElem?_getD,List.getElem?_eq_getElem hl]at h1;unfold a1Z;rw[List.all_eq_false];refine⟨T[j],List.getElem_mem hl,?_⟩;simp at h1 ⊢;omega
theorem bD7 (n:Int):∀ (us hs:List R) (i m:Int) (T:List Int),m + 2 * us.length≤1000000→big m T→gS n i us hs T=false:=by
  intro us
  induction us with
  |nil=>intro hs i m T hm hb;unfold gS;exact b2A hb
  | cons a us ih=>
    intro hs i m T hm hb;cases hs with
    |nil=>unfold gS;exact b2A hb
    | cons h hs=>
      simp only[List.length_cons,Int.natCast_add,Int.natCast_one]at hm;simp only[gS];rw[ih hs (i + 1) (m + 1 + 1) _ (by omega) (aIK _ (by omega) (aIK _ (by omega) hb))];simp
def tOf:List Bool→List Int
  |[]=>[]
  |_::bs=>1::bs.map (fun b=>if b then 1 else 0)
theorem aM2 (B:List Bool):(tOf B).length=B.length:=by cases B <;> simp[tOf]
theorem bD8 (B:List Bool) (j:Nat) (hj:j + 1 < B.length):(tOf B).getD (j + 1) 0=if B.getD (j + 1) false then 1 else 0:=by
  cases B with
  |nil=>simp at hj
  | cons b bs=>
    simp only[List.length_cons]at hj;have h2:j < bs.length:=by omega
    simp[tOf,List.getD_eq_getElem?_getD,List.getElem?_eq_getElem h2]
theorem aQK (B:List Bool) (i n h:Int) (hi:0≤i) (hn:n=B.length) (hs:pG i n B h=true):bump (tOf B) h=tOf (mark B h):=by
  unfold bump mark;by_cases h0:h < 0
  · rw[if_pos h0,if_pos h0]
    simp only[pG,iT,Bool.or_eq_true,Bool.and_eq_true,decide_eq_true_eq,Bool.not_eq_true']at hs;rcases hs with hs|hs
    · omega
    · obtain⟨j,hj⟩:∃ j:Nat,(-h).toNat=j + 1:=⟨(-h).toNat - 1,by omega⟩
      have hl:j + 1 < B.length:=by omega
      have e1:=bD8 B j hl;have e2:B.getD (j + 1) false=false:=by rw[← hj];exact hs.2
      rw[e2]at e1;simp only[rd,hj];rw[e1];rw[show wrap64 ((if false=true then(1:Int)else 0) + 1)=1 from bW (by simp) (by simp)];cases B with
      |nil=>simp at hl
      |cons b bs=>simp[tOf,List.set_cons_succ,List.map_set]
  · rw[if_neg h0,if_neg h0]
theorem bD9 (B:List Bool) (i n h:Int) (hi:0≤i) (hn:n=B.length) (he:qL i n h=true) (hs:pG i n B h=false):big 2 (bump (tOf B) h):=by
  simp only[pG,qL,Bool.or_eq_true,Bool.or_eq_false_iff]at hs he;rw[hs.1]at he;simp only[Bool.false_eq_true,false_or,decide_eq_true_eq]at he;have hb:vY false B (-h)=true:=by simpa [he] using hs.2
  obtain⟨j,hj⟩:∃ j:Nat,(-h).toNat=j + 1:=⟨(-h).toNat - 1,by omega⟩
  have hl:j + 1 < B.length:=by omega
  have e1:=bD8 B j hl;have e2:B.getD (j + 1) false=true:=by rw[← hj];exact hb
  rw[e2,if_pos rfl]at e1;refine⟨j + 1,?_⟩;unfold bump;rw[if_pos (by omega)];simp only[rd,hj];rw[e1,List.getD_eq_getElem?_getD,List.getElem?_set,if_pos rfl,if_pos (by rw[aM2];exact hl)];rw[show wrap64 (1 + 1)=2 from bW (by omega) (by omega)];simp
theorem a7J {i n:Int} {B:List Bool} {h:Int} (hs:pG i n B h=true):qL i n h=true:=by
  unfold pG at hs;unfold qL
  revert hs
  cases iT h <;> simp
  intro h1 h2 _;exact⟨h1,h2⟩
theorem cGS (n:Int):∀ (us hs:List R) (i:Int) (B:List Bool),0≤i→n=B.length→1≤n→us.length≤1000→gS n i us hs (tOf B)=gI n i us hs B:=by
  intro us;have base:∀ B:List Bool,n=B.length→1≤n→a1Z (tOf B)=(B.drop 1).all id:=by
    intro B h1 h2;cases B with
    |nil=>simp at h1;omega
    | cons b bs=>
      simp only[a1Z,tOf,List.all_cons,decide_true,Bool.true_and,List.all_map,List.drop_succ_cons,List.drop_zero];congr 1;funext x;cases x <;> simp
  induction us with
  |nil=>intro hs i B hi hn h1 _;unfold gS gI;exact base B hn h1
  | cons a us ih=>
    intro hs i B hi hn h1 hl;simp only[List.length_cons]at hl;cases hs with
    |nil=>unfold gS gI;exact base B hn h1
    | cons h hs=>
      simp only[gS,gI];by_cases c0:xG a.f0=true
      · by_cases c1:xG a.f1=true
        · by_cases s0:pG i n B h.f0=true
          · have b0:=aQK B i n h.f0 hi hn s0
            have hn2:n=(mark B h.f0).length:=by rw[oU];exact hn
            by_cases s1:pG i n (mark B h.f0) h.f1=true
            · have b1:=aQK (mark B h.f0) i n h.f1 hi hn2 s1
              rw[c0,c1,s0,s1,a7J s0,a7J s1,b0,b1,ih hs (i + 1) _ (by omega) (by rw[oU];exact hn2) h1 (by omega)];simp
            · rw[Bool.not_eq_true]at s1
              rw[s1];by_cases e1:qL i n h.f1=true
              · have g:=bD9 (mark B h.f0) i n h.f1 hi hn2 e1 s1
                rw[b0,bD7 n us hs (i + 1) 2 _ (by omega) g];simp
              · rw[Bool.not_eq_true]at e1
                rw[e1];simp
          · rw[Bool.not_eq_true]at s0
            rw[s0];by_cases e0:qL i n h.f0=true
            · have g:=bD9 B i n h.f0 hi hn e0 s0
              rw[bD7 n us hs (i + 1) 3 _ (by omega) (aIK _ (by omega) g)];simp
            · rw[Bool.not_eq_true]at e0
              rw[e0];simp
        · rw[Bool.not_eq_true]at c1
          rw[c1];simp
      · rw[Bool.not_eq_true]at c0
        rw[c0];simp
theorem OW (x:Int):lU.f x 1 12=some (xG x):=KM x 1 12
theorem aXG (i n h:Int) (hi:0≤i∧i≤100) (hn:0≤n∧n≤100) (hw:Wf h):LJ.f i h n=some (qL i n h):=by
  unfold Wf at hw;unfold LJ.f qL iT;rw[KM,Option.bind_some,KM];by_cases h1:1≤h∧h≤99
  · simp[h1]
  · rw[decide_eq_false h1,if_neg (by simp),Option.bind_some,Bool.false_or,bW (x:=i + 1) (by omega) (by omega),bW (x:=n - 1) (by omega) (by omega)]
    by_cases h2:i + 1≤ -h∧ -h≤n - 1
    · rw[bW (x:=-h) (by omega) (by omega)]
      have h3:h < 0:=by omega
      simp[h2,h3]
    · have h3:¬ (i + 1≤wrap64 (-h)∧wrap64 (-h)≤n - 1):=by
        unfold wrap64;omega
      rw[decide_eq_false h3,decide_eq_false h2,if_neg (by simp)]
theorem child {i n h:Int} (he:qL i n h=true) (h0:h < 0):i + 1≤ -h∧ -h≤n - 1:=by
  simp only[qL,iT,Bool.or_eq_true,decide_eq_true_eq]at he;omega
theorem c4L (n i:Int) (T:List Int) (A H:List R) (a h:R) (k:Nat) (hA:aA A i=a) (hH:aA H i=h) (c0:0≤i) (c1:i < A.length) (c2:i < H.length) (hi:i≤100) (hn:0≤n∧n≤100) (hT:(T.length:Int)=n) (hw:Wf h.f0):
    aW.l1 (k + 2) n T i 0 A H=if (xG a.f0 && qL i n h.f0)=true then aW.l1 k n (bump T h.f0) i 1 A H else some false:=by
  have e:=aXG i n h.f0 ⟨c0,hi⟩ hn hw;have w1:wrap64 (0 + 1)=1:=bW (by omega) (by omega);by_cases h1:xG a.f0=true
  · by_cases h2:qL i n h.f0=true
    · by_cases h3:h.f0 < 0
      · have ch:=child h2 h3
        have w:=bW (x:=-h.f0) (by omega) (by omega);have r0:0≤ -h.f0:=by omega
        have r1: -h.f0 < (T.length:Int):=by omega
        rw[show aW.l1 (k + 2) n T i 0 A H=aW.j3 (k + 1) n T i 0 (!true) A H from by simp only[aW.l1,c0,c1,c2,hA,hH,OW,e,h1,h2,Option.bind_some,if_true,Int.reduceLT]];simp only[aW.j3,c0,c2,hH,h1,h2,h3,w,r0,r1,w1,bump,Bool.and_self,Bool.not_true,Bool.false_eq_true,if_true,if_false]
      · rw[show aW.l1 (k + 2) n T i 0 A H=aW.j3 (k + 1) n T i 0 (!true) A H from by simp only[aW.l1,c0,c1,c2,hA,hH,OW,e,h1,h2,Option.bind_some,if_true,Int.reduceLT]]
        simp only[aW.j3,c0,c2,hH,h1,h2,h3,w1,bump,Bool.and_self,Bool.not_true,Bool.false_eq_true,if_true,if_false]
    · rw[Bool.not_eq_true]at h2
      rw[show aW.l1 (k + 2) n T i 0 A H=aW.j3 (k + 1) n T i 0 (!false) A H from by simp only[aW.l1,c0,c1,c2,hA,hH,OW,e,h1,h2,Option.bind_some,if_true,Int.reduceLT]];simp only[aW.j3,h1,h2,Bool.and_false,Bool.not_false,Bool.false_eq_true,if_true,if_false]
  · rw[Bool.not_eq_true]at h1
    rw[show aW.l1 (k + 2) n T i 0 A H=aW.j3 (k + 1) n T i 0 true A H from by simp only[aW.l1,c0,c1,hA,OW,h1,Option.bind_some,if_true,if_false,Bool.false_eq_true,Int.reduceLT]];simp only[aW.j3,h1,Bool.false_and,Bool.false_eq_true,if_true,if_false]
theorem c4M (n i:Int) (T:List Int) (A H:List R) (a h:R) (k:Nat) (hA:aA A i=a) (hH:aA H i=h) (c0:0≤i) (c1:i < A.length) (c2:i < H.length) (hi:i≤100) (hn:0≤n∧n≤100) (hT:(T.length:Int)=n) (hw:Wf h.f1):
    aW.l1 (k + 2) n T i 1 A H=if (xG a.f1 && qL i n h.f1)=true then aW.l1 k n (bump T h.f1) i 2 A H else some false:=by
  have e:=aXG i n h.f1 ⟨c0,hi⟩ hn hw;have w1:wrap64 (1 + 1)=2:=bW (by omega) (by omega);have q:¬ ((1:Int)=0):=by omega
  by_cases h1:xG a.f1=true
  · by_cases h2:qL i n h.f1=true
    · by_cases h3:h.f1 < 0
      · have ch:=child h2 h3
        have w:=bW (x:=-h.f1) (by omega) (by omega);have r0:0≤ -h.f1:=by omega
        have r1: -h.f1 < (T.length:Int):=by omega
        rw[show aW.l1 (k + 2) n T i 1 A H=aW.j3 (k + 1) n T i 1 (!true) A H from by simp only[aW.l1,c0,c1,c2,hA,hH,OW,e,h1,h2,q,Option.bind_some,if_true,if_false,Int.reduceLT]];simp only[aW.j3,c0,c2,hH,h1,h2,h3,w,r0,r1,w1,q,bump,Bool.and_self,Bool.not_true,Bool.false_eq_true,if_true,if_false]
      · rw[show aW.l1 (k + 2) n T i 1 A H=aW.j3 (k + 1) n T i 1 (!true) A H from by simp only[aW.l1,c0,c1,c2,hA,hH,OW,e,h1,h2,q,Option.bind_some,if_true,if_false,Int.reduceLT]]
        simp only[aW.j3,c0,c2,hH,h1,h2,h3,w1,q,bump,Bool.and_self,Bool.not_true,Bool.false_eq_true,if_true,if_false]
    · rw[Bool.not_eq_true]at h2
      rw[show aW.l1 (k + 2) n T i 1 A H=aW.j3 (k + 1) n T i 1 (!false) A H from by simp only[aW.l1,c0,c1,c2,hA,hH,OW,e,h1,h2,q,Option.bind_some,if_true,if_false,Int.reduceLT]];simp only[aW.j3,h1,h2,Bool.and_false,Bool.not_false,Bool.false_eq_true,if_true,if_false]
  · rw[Bool.not_eq_true]at h1
    rw[show aW.l1 (k + 2) n T i 1 A H=aW.j3 (k + 1) n T i 1 true A H from by simp only[aW.l1,c0,c1,hA,OW,h1,q,Option.bind_some,if_true,if_false,Bool.false_eq_true,Int.reduceLT]];simp only[aW.j3,h1,Bool.false_and,Bool.false_eq_true,if_true,if_false]
theorem cUY (n:Int):∀ (s p:List Int) (k:Nat),((p ++ s).length:Int)=n→n≤100→s.length < k→aW.l2 k n (p ++ s) (p.length:Int)=some (a1Z s):=by
  intro s
  induction s with
  | nil=>
    intro p k hn h1 hk;obtain⟨k,rfl⟩:∃ m,k=m + 1:=⟨k - 1,by simp at hk;omega⟩
    simp only[aW.l2];rw[if_neg (by simp at hn;omega)];rfl
  | cons x s ih=>
    intro p k hn h1 hk;obtain⟨k,rfl⟩:∃ m,k=m + 1:=⟨k - 1,by simp at hk;omega⟩
    have hr:rd (p ++ x::s) (p.length:Int)=x:=by simp[rd]
    simp only[aW.l2];rw[if_pos (by simp at hn;omega),if_pos (by omega),if_pos (by simp at hn ⊢;omega),hr,FJ p x (by simp at hn;omega),List.append_cons p x s,ih (p ++ [x]) k (by simpa using hn) h1 (by simp at hk;omega)];by_cases hx:x=1 <;> simp[a1Z,hx]
theorem cUZ (n:Int):∀ (us hs:List R) (p q:List R) (T:List Int) (k:Nat),p.length=q.length→us.length=hs.length→((p ++ us).length:Int)=n→n≤6→(T.length:Int)=n→TE hs→6 * us.length + 20≤k→
    aW.l0 k n T (p.length:Int) (p ++ us) (q ++ hs)=some (gS n (p.length:Int) us hs T):=by
  intro us
  induction us with
  | nil=>
    intro hs p q T k hpq hl hn h6 hT hw hk;obtain⟨k,rfl⟩:∃ m,k=m + 1:=⟨k - 1,by omega⟩
    simp only[aW.l0,gS];rw[if_neg (by simp at hn;omega)];exact cUY n T [] k hT (by omega) (by omega)
  | cons a us ih=>
    intro hs p q T k hpq hl hn h6 hT hw hk;cases hs with
    |nil=>simp at hl
    | cons h hs=>
      simp only[List.length_cons]at hk;obtain⟨k,rfl⟩:∃ m,k=m + 6:=⟨k - 6,by omega⟩
      have hA:=VA p us a;have hH:aA (q ++ h::hs) (p.length:Int)=h:=by rw[hpq];exact VA q hs h
      have hw0:=hw h (by simp);simp only[List.length_append,List.length_cons,Int.natCast_add,Int.natCast_one]at hn;simp only[List.length_cons]at hl;have d1:(p.length:Int) < ((p ++ a::us).length:Int):=by simp;omega
      have d2:(p.length:Int) < ((q ++ h::hs).length:Int):=by simp;omega
      have d3:(p.length:Int) < n:=by omega
      rw[show aW.l0 (k + 6) n T (p.length:Int) (p ++ a::us) (q ++ h::hs)=aW.l1 (k + 5) n T (p.length:Int) 0 (p ++ a::us) (q ++ h::hs)from by simp only[aW.l0,d3,if_true]];rw[c4L n _ T _ _ a h (k + 3) hA hH (by omega) d1 d2 (by omega) (by omega) hT hw0.1];simp only[gS];by_cases g0:(xG a.f0 && qL (p.length:Int) n h.f0)=true
      · rw[if_pos g0,g0,c4M n _ _ _ _ a h (k + 1) hA hH (by omega) d1 d2 (by omega) (by omega) (by rw[a5D];exact hT) hw0.2]
        by_cases g1:(xG a.f1 && qL (p.length:Int) n h.f1)=true
        · rw[if_pos g1,g1]
          rw[show aW.l1 (k + 1) n (bump (bump T h.f0) h.f1) (p.length:Int) 2 (p ++ a::us) (q ++ h::hs)=aW.l0 k n (bump (bump T h.f0) h.f1) (wrap64 ((p.length:Int) + 1)) (p ++ a::us) (q ++ h::hs)from by simp only[aW.l1,Int.reduceLT,if_false]];rw[FJ p a (by omega),List.append_cons p a us,List.append_cons q h hs];rw[ih hs (p ++ [a]) (q ++ [h]) _ k (by simp[hpq]) (by omega) (by simp;omega) h6 (by rw[a5D,a5D];exact hT) (fun x hx=>hw x (by simp[hx])) (by omega)];simp
        · rw[if_neg g1]
          rw[Bool.not_eq_true]at g1;rw[g1];simp
      · rw[if_neg g0]
        rw[Bool.not_eq_true]at g0;rw[g0];simp
theorem aIL (a:Int):EP.f a=some (xG a):=by simp only[EP.f,L8,Option.bind_some,xG]
theorem FV (a:Int):mU.f a=some (iT a):=by simp only[mU.f,L8,Option.bind_some,iT]
theorem aM3 (i n h:Int) (hi:0≤i∧i≤100) (hn:0≤n∧n≤100):jX.f h (wrap64 (1 - n)) (wrap64 (wrap64 (-i) - 1))=some (decide (i + 1≤ -h∧ -h≤n - 1)):=by
  rw[L8,bW (x:=1 - n) (by omega) (by omega),bW (x:=-i) (by omega) (by omega),bW (x:=-i - 1) (by omega) (by omega)];congr 1;apply decide_eq_decide.2;omega
theorem c4N (n i len:Int) (B:List Bool) (A L H:List R) (u v:Int) (k:Nat) (c0:0≤i) (hi:i≤100) (hn:0≤n∧n≤100) (hB:(B.length:Int)=n):
    aY.l1 (k + 1) n B i A len i 0 L H u v=if pG i n B u=true then aY.l1 k n (mark B u) i A len i 1 L H u v else some false:=by
  have w1:wrap64 (0 + 1)=1:=bW (by omega) (by omega);by_cases h1:iT u=true
  · have h3:¬ u < 0:=by simp[iT]at h1;omega
    simp only[aY.l1,FV,h1,h3,w1,pG,mark,Bool.true_or,Option.bind_some,if_true,if_false,Int.reduceLT]
  · rw[Bool.not_eq_true]at h1
    by_cases h2:i + 1≤ -u∧ -u≤n - 1
    · have w:=bW (x:=-u) (by omega) (by omega)
      have r0:0≤ -u:=by omega
      have r1: -u < (B.length:Int):=by omega
      have h3:u < 0:=by omega
      cases hb:vY false B (-u) <;> simp only[aY.l1,FV,aM3 i n u ⟨c0,hi⟩ hn,h1,h2,h3,hb,w,r0,r1,w1,pG,mark,Bool.false_or,Bool.true_and,Bool.not_true,Bool.not_false,and_self,decide_true,Option.bind_some,if_true,if_false,Bool.false_eq_true,Int.reduceLT]
    · simp only[aY.l1,FV,aM3 i n u ⟨c0,hi⟩ hn,h1,h2,pG,Bool.false_or,Bool.false_and,decide_false,Option.bind_some,if_true,if_false,Bool.false_eq_true,Int.reduceLT]
theorem c4O (n i len:Int) (B:List Bool) (A L H:List R) (u v:Int) (k:Nat) (c0:0≤i) (hi:i≤100) (hn:0≤n∧n≤100) (hB:(B.length:Int)=n):
    aY.l1 (k + 1) n B i A len i 1 L H u v=if pG i n B v=true then aY.l1 k n (mark B v) i A len i 2 L H u v else some false:=by
  have w1:wrap64 (1 + 1)=2:=bW (by omega) (by omega);have q:¬ ((1:Int)=0):=by omega
  by_cases h1:iT v=true
  · have h3:¬ v < 0:=by simp[iT]at h1;omega
    simp only[aY.l1,FV,h1,h3,w1,q,pG,mark,Bool.true_or,Option.bind_some,if_true,if_false,Int.reduceLT]
  · rw[Bool.not_eq_true]at h1
    by_cases h2:i + 1≤ -v∧ -v≤n - 1
    · have w:=bW (x:=-v) (by omega) (by omega)
      have r0:0≤ -v:=by omega
      have r1: -v < (B.length:Int):=by omega
      have h3:v < 0:=by omega
      cases hb:vY false B (-v) <;> simp only[aY.l1,FV,aM3 i n v ⟨c0,hi⟩ hn,h1,h2,h3,hb,w,r0,r1,w1,q,pG,mark,Bool.false_or,Bool.true_and,Bool.not_true,Bool.not_false,and_self,decide_true,Option.bind_some,if_true,if_false,Bool.false_eq_true,Int.reduceLT]
    · simp only[aY.l1,FV,aM3 i n v ⟨c0,hi⟩ hn,h1,h2,q,pG,Bool.false_or,Bool.false_and,decide_false,Option.bind_some,if_true,if_false,Bool.false_eq_true,Int.reduceLT]
theorem bHK:∀ (s p:List Bool) (k:Nat),(p ++ s).length < 1000→s.length < k→∃ r,jM.l0 k (p ++ s) false ((p ++ s).length:Int) (p.length:Int)=some r∧decide (r ≥ 0)= !(s.all id):=by
  intro s
  induction s with
  | nil=>
    intro p k hl hk;obtain⟨k,rfl⟩:∃ m,k=m + 1:=⟨k - 1,by simp at hk;omega⟩
    simp only[jM.l0];rw[if_neg (by simp)];exact⟨-1,rfl,by simp⟩
  | cons x s ih=>
    intro p k hl hk;obtain⟨k,rfl⟩:∃ m,k=m + 1:=⟨k - 1,by simp at hk;omega⟩
    have hr:vY false (p ++ x::s) (p.length:Int)=x:=by simp[vY]
    simp only[jM.l0];rw[if_pos (by simp;omega),if_pos (by omega),if_pos (by simp;omega),hr];cases x with
    | false=>
      rw[if_pos (by decide)];exact⟨_,rfl,by simp⟩
    | true=>
      rw[if_neg (by decide),FJ p true (by simp at hl;omega),List.append_cons p true s];obtain⟨r,h1,h2⟩:=ih (p ++ [true]) k (by simpa using hl) (by simp at hk;omega);exact⟨r,h1,by rw[h2];simp⟩
theorem aZ2 (l:List Bool) (k:Nat) (hl:l.length < 1000) (hk:l.length < k):sU.f k l false=some (!(l.all id)):=by
  unfold sU.f jM.f;obtain⟨r,h1,h2⟩:=bHK l [] k hl hk;have h3:jM.l0 k l false (l.length:Int) 0=some r:=h1;rw[h3,Option.bind_some,h2]
theorem cV0 (n:Int):∀ (us hs:List R) (p q:List R) (B:List Bool) (k:Nat),p.length=q.length→us.length=hs.length→((p ++ us).length:Int)=n→1≤n→n≤6→(B.length:Int)=n→6 * us.length + 20≤k→
    aY.l0 k n B (p ++ us) n (p.length:Int) (p ++ us) (q ++ hs)=some (gI n (p.length:Int) us hs B):=by
  intro us
  induction us with
  | nil=>
    intro hs p q B k hpq hl hn h1 h6 hB hk;obtain⟨k,rfl⟩:∃ m,k=m + 1:=⟨k - 1,by omega⟩
    simp only[aY.l0,gI];rw[if_neg (by simp at hn;omega),if_pos (by omega),aZ2 _ k (by simp;omega) (by simp;omega)];simp
  | cons a us ih=>
    intro hs p q B k hpq hl hn h1 h6 hB hk;cases hs with
    |nil=>simp at hl
    | cons h hs=>
      simp only[List.length_cons]at hk;obtain⟨k,rfl⟩:∃ m,k=m + 6:=⟨k - 6,by omega⟩
      have hA:=VA p us a;have hH:aA (q ++ h::hs) (p.length:Int)=h:=by rw[hpq];exact VA q hs h
      simp only[List.length_append,List.length_cons,Int.natCast_add,Int.natCast_one]at hn;simp only[List.length_cons]at hl;have d0:0≤(p.length:Int):=by omega
      have d1:(p.length:Int) < ((p ++ a::us).length:Int):=by simp;omega
      have d2:(p.length:Int) < ((q ++ h::hs).length:Int):=by simp;omega
      have d3:(p.length:Int) < n:=by omega
      simp only[gI];by_cases g0:(xG a.f0 && xG a.f1)=true
      · have g0':=g0
        simp only[Bool.and_eq_true]at g0';rw[g0];rw[show aY.l0 (k + 6) n B (p ++ a::us) n (p.length:Int) (p ++ a::us) (q ++ h::hs)=aY.l1 (k + 4) n B (p.length:Int) (p ++ a::us) n (p.length:Int) 0 (p ++ a::us) (q ++ h::hs) h.f0 h.f1 from by simp only[aY.l0,aY.j2,hA,hH,aIL,d0,d1,d2,d3,g0'.1,g0'.2,Bool.not_true,Option.bind_some,if_true,if_false,Bool.false_eq_true]];rw[c4N n _ n B _ _ _ _ _ (k + 3) d0 (by omega) (by omega) hB];by_cases s0:pG (p.length:Int) n B h.f0=true
        · rw[if_pos s0,s0,c4O n _ n _ _ _ _ _ _ (k + 2) d0 (by omega) (by omega) (by rw[oU];exact hB)]
          by_cases s1:pG (p.length:Int) n (mark B h.f0) h.f1=true
          · rw[if_pos s1,s1]
            rw[show aY.l1 (k + 2) n (mark (mark B h.f0) h.f1) (p.length:Int) (p ++ a::us) n (p.length:Int) 2 (p ++ a::us) (q ++ h::hs) h.f0 h.f1=aY.l0 (k + 1) n (mark (mark B h.f0) h.f1) (p ++ a::us) n (wrap64 ((p.length:Int) + 1)) (p ++ a::us) (q ++ h::hs)from by simp only[aY.l1,Int.reduceLT,if_false]];rw[FJ p a (by omega),List.append_cons p a us,List.append_cons q h hs];rw[ih hs (p ++ [a]) (q ++ [h]) _ (k + 1) (by simp[hpq]) (by omega) (by simp;omega) h1 h6 (by rw[oU,oU];exact hB) (by omega)];simp
          · rw[if_neg s1]
            rw[Bool.not_eq_true]at s1;rw[s1];simp
        · rw[if_neg s0]
          rw[Bool.not_eq_true]at s0;rw[s0];simp
      · rw[Bool.not_eq_true]at g0
        rw[g0];cases x0:xG a.f0
        · simp only[aY.l0,aY.j2,hA,aIL,d0,d1,d3,x0,Bool.false_and,Option.bind_some,if_true,if_false,Bool.false_eq_true]
        · rw[x0,Bool.true_and]at g0
          simp only[aY.l0,aY.j2,hA,aIL,d0,d1,d3,x0,g0,Bool.not_false,Bool.false_and,Option.bind_some,if_true,if_false,Bool.false_eq_true]
def good (A H:List R):Bool:=decide (1≤(A.length:Int)∧(A.length:Int)≤6) && (decide (H.length=A.length) && gI (A.length:Int) 0 A H (List.replicate A.length false))
theorem qG (A H:List R) (k:Nat) (hw:TE H) (hk:100≤k):aW.f k A H=some (good A H):=by
  obtain⟨k,rfl⟩:∃ m,k=m + 1:=⟨k - 1,by omega⟩
  unfold aW.f good;rw[KM,Option.bind_some];by_cases h1:1≤(A.length:Int)∧(A.length:Int)≤6
  · by_cases h2:H.length=A.length
    · have e:((H.length:Int) !=(A.length:Int))=false:=by simp[h2]
      have r:((A.length:Int)).toNat=A.length:=by omega
      obtain⟨n,hn⟩:∃ n,A.length=n + 1:=⟨A.length - 1,by omega⟩
      have t:(List.replicate A.length (0:Int)).set (0:Int).toNat 1=tOf (List.replicate A.length false):=by
        rw[hn];simp[List.replicate_succ,tOf]
      have b1:0≤(A.length:Int):=by omega
      have b2:A.length≤35184372088832:=by omega
      have b3:0 < ((List.replicate A.length (0:Int)).length:Int):=by simp;omega
      have g:=cUZ (A.length:Int) A H [] [] (tOf (List.replicate A.length false)) k rfl h2.symm rfl h1.2 (by rw[aM2];simp) hw (by omega);simp only[List.nil_append,List.length_nil,Int.natCast_zero]at g;simp only[h1,h2,and_self,decide_true,if_true,aW.j0,e,Bool.false_eq_true,if_false,b1,r,b2,Option.bind_some,b3,t,g,Bool.true_and];rw[cGS _ A H 0 _ (by omega) (by simp) h1.1 (by omega)];simp
    · have e:((H.length:Int) !=(A.length:Int))=true:=by simp;omega
      simp only[h1,h2,and_self,decide_true,decide_false,if_true,aW.j0,e,Bool.false_and,Bool.and_false]
  · simp only[h1,decide_false,Bool.false_eq_true,if_false,if_true,aW.j0,Bool.false_and]
theorem o6 (A H:List R) (k:Nat) (hk:100≤k):aY.f k A H=some (good A H):=by
  obtain⟨k,rfl⟩:∃ m,k=m + 1:=⟨k - 1,by omega⟩
  unfold aY.f good;rw[L8,Option.bind_some];by_cases h1:1≤(A.length:Int)∧(A.length:Int)≤6
  · by_cases h2:H.length=A.length
    · have e:((H.length:Int) !=(A.length:Int))=false:=by simp[h2]
      have r:((A.length:Int)).toNat=A.length:=by omega
      have b1:0≤(A.length:Int):=by omega
      have b2:A.length≤281474976710656:=by omega
      have g:=cV0 (A.length:Int) A H [] [] (List.replicate A.length false) k rfl h2.symm rfl h1.1 h1.2 (by simp) (by omega);simp only[List.nil_append,List.length_nil,Int.natCast_zero]at g;simp only[h1,h2,and_self,decide_true,if_true,aY.j0,e,Bool.false_eq_true,if_false,b1,r,b2,g,Bool.true_and];simp
    · have e:((H.length:Int) !=(A.length:Int))=true:=by simp;omega
      simp only[h1,h2,and_self,decide_true,decide_false,if_true,aY.j0,e,Bool.false_and,Bool.and_false]
  · simp only[h1,decide_false,Bool.false_eq_true,if_false,if_true,aY.j0,Bool.false_and]
structure YL (A H:List R):Prop where
  len:1≤A.length∧A.length≤6
  same:H.length=A.length
  arm:∀ i:Nat,i < A.length→xG (aA A i).f0=true∧xG (aA A i).f1=true
  fin:∀ i:Nat,i < A.length→qL i A.length (aA H i).f0=true∧qL i A.length (aA H i).f1=true
theorem EE (a:R) (us:List R) (i:Nat):aA (a::us) ((i + 1:Nat):Int)=aA us (i:Int):=by
  simp[aA]
theorem EF (a:R) (us:List R):aA (a::us) ((0:Nat):Int)=a:=by
  simp[aA]
theorem cGT (n:Int):∀ (us hs:List R) (i:Int) (B:List Bool),us.length=hs.length→gI n i us hs B=true→
    ∀ j:Nat,j < us.length→(xG (aA us j).f0=true∧xG (aA us j).f1=true)∧(qL (i + j) n (aA hs j).f0=true∧qL (i + j) n (aA hs j).f1=true):=by
  intro us
  induction us with
  |nil=>intro hs i B hl h j hj;simp at hj
  | cons a us ih=>
    intro hs i B hl h j hj;cases hs with
    |nil=>simp at hl
    | cons x hs=>
      simp only[gI,Bool.and_eq_true]at h;cases j with
      | zero=>
        rw[EF,EF];simp only[Int.natCast_zero,Int.add_zero];exact⟨h.1,a7J h.2.1,a7J h.2.2.1⟩
      | succ j=>
        rw[EE,EE];have e:=ih hs (i + 1) _ (by simpa using hl) h.2.2.2 j (by simpa using hj);rw[show i + 1 + (j:Int)=i + ((j + 1:Nat):Int)from by omega]at e;exact e
theorem uN {A H:List R} (h:good A H=true):YL A H:=by
  simp only[good,Bool.and_eq_true,decide_eq_true_eq]at h;have g:=cGT (A.length:Int) A H 0 _ h.2.1.symm h.2.2;exact⟨by omega,h.2.1,fun i hi=>(g i hi).1,fun i hi=>by have:=(g i hi).2;rw[Int.zero_add]at this;exact this⟩
def nx (j:Nat) (h:Int):Nat:=if h > 0 then j + 1 else j
def cnt:List R→Nat
  |[]=>0
  |h::hs=>nx (nx 0 h.f0) h.f1 + cnt hs
theorem zP (j:Nat) (h:Int):nx j h=j + nx 0 h:=by
  unfold nx
  split <;> omega
def tc:List Bool→Nat
  |[]=>0
  |b::bs=>(if b then 1 else 0) + tc bs
theorem c4P:∀ (B:List Bool) (j:Nat),j < B.length→B.getD j false=false→tc (B.set j true)=tc B + 1:=by
  intro B
  induction B with
  |nil=>intro j h;simp at h
  | cons b bs ih=>
    intro j h h0;cases j with
    | zero=>
      simp at h0;subst h0;simp[tc];omega
    | succ j=>
      simp only[List.set_cons_succ,tc];rw[ih j (by simpa using h) (by simpa using h0)];omega
theorem c4Q:∀ (B:List Bool),B.all id=true→tc B=B.length:=by
  intro B
  induction B with
  |nil=>intro _;rfl
  | cons b bs ih=>
    intro h;simp only[List.all_cons,id,Bool.and_eq_true]at h;simp only[tc,h.1,if_true,List.length_cons];rw[ih h.2];omega
theorem c4R (n:Nat):tc (List.replicate n false)=0:=by
  induction n with
  |zero=>rfl
  |succ n ih=>simp[List.replicate_succ,tc,ih]
theorem aQL {i n h:Int} {B:List Bool} (hi:0≤i) (hn:n=B.length) (hs:pG i n B h=true):(mark B h).headD false=B.headD false∧tc (mark B h) + nx 0 h=tc B + 1:=by
  simp only[pG,iT,Bool.or_eq_true,Bool.and_eq_true,decide_eq_true_eq,Bool.not_eq_true']at hs;unfold mark nx;by_cases h0:h < 0
  · rw[if_pos h0,if_neg (by omega)]
    rcases hs with hs|hs
    · omega
    · refine⟨?_,?_⟩
      · obtain⟨j,hj⟩:∃ j:Nat,(-h).toNat=j + 1:=⟨(-h).toNat - 1,by omega⟩
        rw[hj];cases B <;> simp
      · have e:=c4P B (-h).toNat (by omega) hs.2
        omega
  · rw[if_neg h0,if_pos (by omega)]
    exact⟨rfl,by omega⟩
theorem c4S (n:Int):∀ (us hs:List R) (i:Int) (B:List Bool),us.length=hs.length→gI n i us hs B=true→0≤i→n=B.length→1≤n→B.headD false=false→tc B + 2 * us.length + 1=B.length + cnt hs:=by
  intro us
  induction us with
  | nil=>
    intro hs i B hl h hi hn h1 hd;have:hs=[]:=List.eq_nil_of_length_eq_zero (by simpa using hl.symm);subst this;unfold gI at h;cases B with
    |nil=>simp at hn;omega
    | cons b bs=>
      simp at hd;subst hd;have e:=c4Q bs (by simpa using h);simp[tc,cnt,e]
  | cons a us ih=>
    intro hs i B hl h hi hn h1 hd;cases hs with
    |nil=>simp at hl
    | cons x hs=>
      simp only[gI,Bool.and_eq_true]at h;obtain⟨_,s0,s1,g⟩:=h;obtain⟨a1,a2⟩:=aQL hi hn s0;have hn2:n=(mark B x.f0).length:=by rw[oU];exact hn
      obtain⟨b1,b2⟩:=aQL hi hn2 s1;have e:=ih hs (i + 1) _ (by simpa using hl) g (by omega) (by rw[oU];exact hn2) h1 (by rw[b1,a1];exact hd);rw[oU,oU]at e;have n1:=zP (nx 0 x.f0) x.f1;simp only[cnt,List.length_cons];omega
theorem S9 {A H:List R} (h:good A H=true):cnt H=A.length + 1:=by
  have ok:=uN h;have o1:=ok.len;have o2:=ok.same;simp only[good,Bool.and_eq_true,decide_eq_true_eq]at h
  have e:=c4S (A.length:Int) A H 0 _ h.2.1.symm h.2.2 (by omega) (by simp) (by omega) (by
    obtain⟨m,hm⟩:∃ m,A.length=m + 1:=⟨A.length - 1,by omega⟩
    rw[hm]
    simp[List.replicate_succ])
  rw[c4R,List.length_replicate]at e;omega
theorem tL {α:Type} (l:List α) (a j:Nat) (x d:α):(l.set a x).getD j d=if a=j∧j < l.length then x else l.getD j d:=by
  rw[List.getD_eq_getElem?_getD,List.getElem?_set,List.getD_eq_getElem?_getD];by_cases h:a=j
  · subst h
    by_cases h2:a < l.length
    · rw[if_pos rfl,if_pos h2,if_pos ⟨rfl,h2⟩]
      rfl
    · rw[if_pos rfl,if_neg h2,if_neg (by omega),List.getElem?_eq_none (by omega)]
  · rw[if_neg h,if_neg (by omega)]
theorem PT {i n:Nat} {B:List Bool} {h:Int} (hs:pG (i:Int) (n:Int) B h=true) (h0:h < 0):(i:Int) + 1≤ -h∧ -h≤(n:Int) - 1∧B.getD (-h).toNat false=false:=by
  simp only[pG,iT,Bool.or_eq_true,Bool.and_eq_true,decide_eq_true_eq,Bool.not_eq_true']at hs;rcases hs with hs|hs
  · omega
  · exact⟨hs.1.1,hs.1.2,hs.2⟩
theorem aPG (n:Int):∀ (us hs:List R) (i:Nat) (B:List Bool),us.length=hs.length→gI n (i:Int) us hs B=true→∀ j:Nat,1≤j→j≤i→j < B.length→B.getD j false=true:=by
  intro us
  induction us with
  | nil=>
    intro hs i B hl h j h1 h2 h3;unfold gI at h;rw[List.all_eq_true]at h;obtain⟨j,rfl⟩:∃ m,j=m + 1:=⟨j - 1,by omega⟩
    have:=h (B[j + 1]) (by
      rw[List.mem_iff_getElem]
      exact⟨j,by simp;omega,by simp[Nat.add_comm]⟩)
    rw[List.getD_eq_getElem?_getD,List.getElem?_eq_getElem h3];exact this
  | cons a us ih=>
    intro hs i B hl h j h1 h2 h3;cases hs with
    |nil=>simp at hl
    | cons x hs=>
      simp only[gI,Bool.and_eq_true]at h;obtain⟨_,s0,s1,g⟩:=h;have e:=ih hs (i + 1) _ (by simpa using hl) g j h1 (by omega) (by rw[oU,oU];exact h3);have out:∀ (C:List Bool) (y:Int),pG (i:Int) n C y=true→(mark C y).getD j false=true→C.getD j false=true:=by
        intro C y hs hm;unfold mark at hm;by_cases h0:y < 0
        · simp only[pG,iT,Bool.or_eq_true,Bool.and_eq_true,decide_eq_true_eq,Bool.not_eq_true']at hs
          rw[if_pos h0,tL,if_neg (by omega)]at hm;exact hm
        · rw[if_neg h0]at hm
          exact hm
      exact out B x.f0 s0 (out _ x.f1 s1 e)
def up (X:List Int) (h:Int):List Int:=if h > 0 then X ++ [h]else X
def leaves (X:List Int):List R→List Int
  |[]=>X
  |h::hs=>leaves (up (up X h.f0) h.f1) hs
theorem a3Y (X:List Int) (h:Int):(up X h).length≤X.length + 1:=by
  unfold up
  split <;> simp
theorem aPH:∀ (hs q:List R) (X:List Int) (k:Nat),(q ++ hs).length≤1048576→X.length + 2 * hs.length≤4194304→4 * hs.length + 4 < k→
    eU.l0 k X (q ++ hs) ((q ++ hs).length:Int) (q.length:Int)=some (leaves X hs):=by
  intro hs
  induction hs with
  | nil=>
    intro q X k hl hX hk;obtain⟨k,rfl⟩:∃ m,k=m + 1:=⟨k - 1,by omega⟩
    simp only[eU.l0];rw[if_neg (by simp)];rfl
  | cons h hs ih=>
    intro q X k hl hX hk;simp only[List.length_cons]at hX hk;obtain⟨k,rfl⟩:∃ m,k=m + 4:=⟨k - 4,by omega⟩
    have w1:wrap64 (0 + 1)=1:=bW (by omega) (by omega);have w2:wrap64 (1 + 1)=2:=bW (by omega) (by omega);have d0:0≤(q.length:Int):=by omega
    have d1:(q.length:Int) < ((q ++ h::hs).length:Int):=by simp;omega
    have q1:¬ ((1:Int)=0):=by omega
    have x0:X.length < 17592186044416:=by omega
    have u:=a3Y X h.f0;have u1:=a3Y (up X h.f0) h.f1;have x1:(up X h.f0).length < 17592186044416:=by omega
    rw[show eU.l0 (k + 4) X (q ++ h::hs) ((q ++ h::hs).length:Int) (q.length:Int)=eU.l1 (k + 3) X (q ++ h::hs) ((q ++ h::hs).length:Int) (q.length:Int) 0 h.f0 h.f1 from by simp only[eU.l0,d0,d1,VA,if_true]];generalize hn:((q ++ h::hs).length:Int)=n
    rw[show eU.l1 (k + 3) X (q ++ h::hs) n (q.length:Int) 0 h.f0 h.f1=eU.l1 (k + 2) (up X h.f0) (q ++ h::hs) n (q.length:Int) 1 h.f0 h.f1 from by
      by_cases c:h.f0 > 0 <;> simp only[eU.l1,w1,x0,c,up,if_true,if_false,Int.reduceLT]]
    rw[show eU.l1 (k + 2) (up X h.f0) (q ++ h::hs) n (q.length:Int) 1 h.f0 h.f1=eU.l1 (k + 1) (up (up X h.f0) h.f1) (q ++ h::hs) n (q.length:Int) 2 h.f0 h.f1 from by
      generalize up X h.f0=Y at x1
      by_cases c:h.f1 > 0 <;> simp only[eU.l1,w2,q1,x1,c,up,if_true,if_false,Int.reduceLT]]
    rw[show eU.l1 (k + 1) (up (up X h.f0) h.f1) (q ++ h::hs) n (q.length:Int) 2 h.f0 h.f1=eU.l0 k (up (up X h.f0) h.f1) (q ++ h::hs) n (wrap64 ((q.length:Int) + 1))from by simp only[eU.l1,if_false,Int.reduceLT]];subst hn;rw[FJ q h (by simp at hl;omega),List.append_cons q h hs,ih (q ++ [h]) _ k (by simpa using hl) (by omega) (by omega)];rfl
theorem bDA (X:List Int) (h:Int):(up X h).length=nx X.length h:=by
  unfold up nx
  split <;> simp
theorem VB:∀ (hs:List R) (X:List Int),(leaves X hs).length=X.length + cnt hs:=by
  intro hs
  induction hs with
  |nil=>intro X;rfl
  | cons h hs ih=>
    intro X;simp only[leaves,cnt];rw[ih,bDA,bDA];have n1:=zP (nx X.length h.f0) h.f1;have n2:=zP X.length h.f0;have n3:=zP (nx 0 h.f0) h.f1;omega
theorem FW (A H:List R) (k:Nat) (h2:H.length≤1048576) (hk:4 * H.length + 4 < k):eU.f k A H=some (leaves [] H):=by
  unfold eU.f;exact aPH H [] [] k (by simpa using h2) (by simp;omega) hk
theorem aXH (A H:List R) (h1:A.length≤1048576) (h2:H.length≤1048576):sM.f A H=some (A,H):=by
  unfold sM.f;rw[Option.bind_some,if_pos (by simp;omega),Option.bind_some,if_pos (by simp;omega)];rfl
theorem aXI (A:List R) (h1:A.length≤1048576):mF.f A=some A:=by
  unfold mF.f;rw[Option.bind_some,if_pos (by simp;omega)];rfl
theorem b2B (A H:List R) (h1:A.length≤1048576) (h2:H.length≤1048576):mV.f A H=some (A,H):=by
  unfold mV.f;rw[aXI A h1,Option.bind_some,aXI H h2];rfl
def pt (w:List Int) (j:Nat) (h:Int):Int:=if h > 0 then rd w (j:Int)else h
def hang (w:List Int):Nat→List R→List R
  |_,[]=>[]
  |j,h::hs=>⟨pt w j h.f0,pt w (nx j h.f0) h.f1⟩::hang w (nx (nx j h.f0) h.f1) hs
theorem QV (w:List Int):∀ (hs:List R) (j:Nat),(hang w j hs).length=hs.length:=by
  intro hs
  induction hs with
  |nil=>intro j;rfl
  |cons h hs ih=>intro j;simp[hang,ih]
theorem set_mid {α:Type} (q s:List α) (x y:α):(q ++ x::s).set q.length y=q ++ y::s:=by
  rw[List.set_append_right _ _ (Nat.le_refl _),Nat.sub_self,List.set_cons_zero]
theorem bTS (w:List Int) (A q p hs:List R) (h g:R) (j k:Nat) (hpq:q.length=p.length) (hj:nx j h.f0≤w.length) (hw:w.length≤4194304):
    fV.l1 (k + 1) w (j:Int) (q.length:Int) 0 A (q ++ h::hs) A (p ++ g::hs)=fV.l1 k w (nx j h.f0:Int) (q.length:Int) 1 A (q ++ h::hs) A (p ++ (⟨if h.f0 > 0 then rd w j else g.f0,g.f1⟩:R)::hs):=by
  have w1:wrap64 (0 + 1)=1:=bW (by omega) (by omega);have hr:aA (p ++ g::hs) (q.length:Int)=g:=by rw[hpq];exact VA p hs g
  have hn:((q.length:Nat):Int).toNat=p.length:=by omega
  simp only[fV.l1];rw[if_pos (by decide),if_pos (by omega),if_pos (by simp;omega),if_pos trivial,VA,w1];unfold nx at hj ⊢;by_cases c:h.f0 > 0
  · rw[if_pos c]at hj
    rw[if_pos c,if_pos c,if_pos c,if_pos (by omega),if_pos (by omega),if_pos (by simp;omega),hr,hn,set_mid,bW (x:=(j:Int) + 1) (by omega) (by omega)];rfl
  · rw[if_neg c,if_neg c,if_neg c]
theorem bTT (w:List Int) (A q p hs:List R) (h g:R) (j k:Nat) (hpq:q.length=p.length) (hj:nx j h.f1≤w.length) (hw:w.length≤4194304):
    fV.l1 (k + 1) w (j:Int) (q.length:Int) 1 A (q ++ h::hs) A (p ++ g::hs)=fV.l1 k w (nx j h.f1:Int) (q.length:Int) 2 A (q ++ h::hs) A (p ++ (⟨g.f0,if h.f1 > 0 then rd w j else g.f1⟩:R)::hs):=by
  have w2:wrap64 (1 + 1)=2:=bW (by omega) (by omega);have hr:aA (p ++ g::hs) (q.length:Int)=g:=by rw[hpq];exact VA p hs g
  have hn:((q.length:Nat):Int).toNat=p.length:=by omega
  simp only[fV.l1];rw[if_pos (by decide),if_pos (by omega),if_pos (by simp;omega),if_neg (by decide),if_pos trivial,VA,w2];unfold nx at hj ⊢;by_cases c:h.f1 > 0
  · rw[if_pos c]at hj
    rw[if_pos c,if_pos c,if_pos c,if_pos (by omega),if_pos (by omega),if_pos (by simp;omega),hr,hn,set_mid,bW (x:=(j:Int) + 1) (by omega) (by omega)];rfl
  · rw[if_neg c,if_neg c,if_neg c]
theorem aXJ (w:List Int) (A:List R) (hw:w.length≤4194304):∀ (hs q p:List R) (j k:Nat),q.length=p.length→(q ++ hs).length≤1048576→j + cnt hs≤w.length→4 * hs.length + 4 < k→
    fV.l0 k w (j:Int) (q.length:Int) A (q ++ hs) A (p ++ hs)=some (A,p ++ hang w j hs):=by
  intro hs
  induction hs with
  | nil=>
    intro q p j k hpq hl hc hk;obtain⟨k,rfl⟩:∃ m,k=m + 1:=⟨k - 1,by omega⟩
    simp only[fV.l0];rw[if_neg (by simp)];rfl
  | cons h hs ih=>
    intro q p j k hpq hl hc hk;simp only[List.length_cons]at hk;simp only[cnt]at hc;obtain⟨k,rfl⟩:∃ m,k=m + 4:=⟨k - 4,by omega⟩
    have n1:=zP (nx j h.f0) h.f1;have n2:=zP j h.f0;have n3:=zP (nx 0 h.f0) h.f1;have d1:(q.length:Int) < ((q ++ h::hs).length:Int):=by simp;omega
    rw[show fV.l0 (k + 4) w (j:Int) (q.length:Int) A (q ++ h::hs) A (p ++ h::hs)=fV.l1 (k + 3) w (j:Int) (q.length:Int) 0 A (q ++ h::hs) A (p ++ h::hs)from by simp only[fV.l0,d1,if_true]];rw[bTS w A q p hs h h j (k + 2) hpq (by omega) hw,bTT w A q p hs h _ (nx j h.f0) (k + 1) hpq (by omega) hw];simp only[fV.l1];rw[if_neg (by decide),FJ q h (by simp at hl;omega),List.append_cons q h hs,List.append_cons p _ hs,ih (q ++ [h]) _ (nx (nx j h.f0) h.f1) k (by simp[hpq]) (by simpa using hl) (by omega) (by omega)];simp[hang,pt]
theorem bTU (w:List Int) (A q p hs:List R) (n:Int) (X:List R) (h g:R) (j k:Nat) (hpq:q.length=p.length) (hj:nx j h.f0≤w.length) (hw:w.length≤4194304):
    fD.l1 (k + 1) w (j:Int) (q.length:Int) X n (q.length:Int) 0 A (p ++ g::hs) h.f0 h.f1=fD.l1 k w (nx j h.f0:Int) (q.length:Int) X n (q.length:Int) 1 A (p ++ (⟨if h.f0 > 0 then rd w j else g.f0,g.f1⟩:R)::hs) h.f0 h.f1:=by
  have w1:wrap64 (0 + 1)=1:=bW (by omega) (by omega);have hr:aA (p ++ g::hs) (q.length:Int)=g:=by rw[hpq];exact VA p hs g
  have hn:((q.length:Nat):Int).toNat=p.length:=by omega
  simp only[fD.l1];rw[if_pos (by decide),if_pos trivial,w1];unfold nx at hj ⊢;by_cases c:h.f0 > 0
  · rw[if_pos c]at hj
    rw[if_pos c,if_pos c,if_pos c,if_pos (by omega),if_pos (by omega),if_pos (by omega),if_pos (by simp;omega),hr,hn,set_mid,bW (x:=(j:Int) + 1) (by omega) (by omega)];rfl
  · rw[if_neg c,if_neg c,if_neg c]
theorem bTV (w:List Int) (A q p hs:List R) (n:Int) (X:List R) (h g:R) (j k:Nat) (hpq:q.length=p.length) (hj:nx j h.f1≤w.length) (hw:w.length≤4194304):
    fD.l1 (k + 1) w (j:Int) (q.length:Int) X n (q.length:Int) 1 A (p ++ g::hs) h.f0 h.f1=fD.l1 k w (nx j h.f1:Int) (q.length:Int) X n (q.length:Int) 2 A (p ++ (⟨g.f0,if h.f1 > 0 then rd w j else g.f1⟩:R)::hs) h.f0 h.f1:=by
  have w2:wrap64 (1 + 1)=2:=bW (by omega) (by omega);have hr:aA (p ++ g::hs) (q.length:Int)=g:=by rw[hpq];exact VA p hs g
  have hn:((q.length:Nat):Int).toNat=p.length:=by omega
  simp only[fD.l1];rw[if_pos (by decide),if_neg (by decide),if_pos trivial,w2];unfold nx at hj ⊢;by_cases c:h.f1 > 0
  · rw[if_pos c]at hj
    rw[if_pos c,if_pos c,if_pos c,if_pos (by omega),if_pos (by omega),if_pos (by omega),if_pos (by simp;omega),hr,hn,set_mid,bW (x:=(j:Int) + 1) (by omega) (by omega)];rfl
  · rw[if_neg c,if_neg c,if_neg c]
theorem aXK (w:List Int) (A:List R) (hw:w.length≤4194304):∀ (hs q p:List R) (j k:Nat),q.length=p.length→(q ++ hs).length≤1048576→j + cnt hs≤w.length→4 * hs.length + 4 < k→
    fD.l0 k w (j:Int) (q ++ hs) ((q ++ hs).length:Int) (q.length:Int) A (p ++ hs)=some (A,p ++ hang w j hs):=by
  intro hs
  induction hs with
  | nil=>
    intro q p j k hpq hl hc hk;obtain⟨k,rfl⟩:∃ m,k=m + 1:=⟨k - 1,by omega⟩
    simp only[fD.l0];rw[if_neg (by simp)];rfl
  | cons h hs ih=>
    intro q p j k hpq hl hc hk;simp only[List.length_cons]at hk;simp only[cnt]at hc;obtain⟨k,rfl⟩:∃ m,k=m + 4:=⟨k - 4,by omega⟩
    have n1:=zP (nx j h.f0) h.f1;have n2:=zP j h.f0;have n3:=zP (nx 0 h.f0) h.f1;have d0:0≤(q.length:Int):=by omega
    have d1:(q.length:Int) < ((q ++ h::hs).length:Int):=by simp;omega
    rw[show fD.l0 (k + 4) w (j:Int) (q ++ h::hs) ((q ++ h::hs).length:Int) (q.length:Int) A (p ++ h::hs)=fD.l1 (k + 3) w (j:Int) (q.length:Int) (q ++ h::hs) ((q ++ h::hs).length:Int) (q.length:Int) 0 A (p ++ h::hs) h.f0 h.f1 from by simp only[fD.l0,d0,d1,VA,if_true]];rw[bTU w A q p hs _ _ h h j (k + 2) hpq (by omega) hw,bTV w A q p hs _ _ h _ (nx j h.f0) (k + 1) hpq (by omega) hw];simp only[fD.l1];rw[if_neg (by decide),FJ q h (by simp at hl;omega),List.append_cons q h hs,List.append_cons p _ hs,ih (q ++ [h]) _ (nx (nx j h.f0) h.f1) k (by simp[hpq]) (by simpa using hl) (by omega) (by omega)];simp[hang,pt]
theorem aDC (w:List Int) (A H:List R) (k:Nat) (hw:w.length≤4194304) (h1:A.length≤1048576) (h2:H.length≤1048576) (hc:cnt H≤w.length) (hk:4 * H.length + 4 < k):fV.f k A H w=some (A,hang w 0 H):=by
  unfold fV.f;rw[aXH A H h1 h2,Option.bind_some];exact aXJ w A hw H [] [] 0 k rfl (by simpa using h2) (by omega) hk
theorem a5E (w:List Int) (A H:List R) (k:Nat) (hw:w.length≤4194304) (h1:A.length≤1048576) (h2:H.length≤1048576) (hc:cnt H≤w.length) (hk:4 * H.length + 4 < k):fD.f k A H w=some (A,hang w 0 H):=by
  unfold fD.f;rw[b2B A H h1 h2,Option.bind_some];exact aXK w A hw H [] [] 0 k rfl (by simpa using h2) (by omega) hk
theorem bDB {i n h:Int} {B:List Bool} {w:List Int} {j:Nat} (hs:pG i n B h=true) (hw:∀ x ∈ w,iT x=true) (hj:nx j h≤w.length):pG i n B (pt w j h)=true∧mark B (pt w j h)=mark B h:=by
  unfold pt;unfold nx at hj;by_cases c:h > 0
  · rw[if_pos c]at hj
    rw[if_pos c];have hm:rd w (j:Int) ∈ w:=by
      simp only[rd,Int.toNat_natCast];rw[List.getD_eq_getElem?_getD,List.getElem?_eq_getElem (by omega)];exact List.getElem_mem _
    have hl:=hw _ hm;have hl2:=hl;simp only[iT,decide_eq_true_eq]at hl2;refine⟨by simp only[pG,hl,Bool.true_or],?_⟩;unfold mark;rw[if_neg (by omega),if_neg (by omega)]
  · rw[if_neg c]
    exact⟨hs,rfl⟩
theorem bTW (n:Int) (w:List Int) (hw:∀ x ∈ w,iT x=true):∀ (us hs:List R) (i:Int) (B:List Bool) (j:Nat),j + cnt hs≤w.length→gI n i us hs B=true→gI n i us (hang w j hs) B=true:=by
  intro us
  induction us with
  | nil=>
    intro hs i B j hj h;unfold gI at h ⊢;exact h
  | cons a us ih=>
    intro hs i B j hj h;cases hs with
    |nil=>exact h
    | cons x hs=>
      simp only[cnt]at hj;have n1:=zP (nx j x.f0) x.f1;have n2:=zP j x.f0;have n3:=zP (nx 0 x.f0) x.f1;simp only[gI,Bool.and_eq_true]at h;obtain⟨s,s0,s1,g⟩:=h;obtain⟨p0,m0⟩:=bDB s0 hw (j:=j) (by omega);obtain⟨p1,m1⟩:=bDB s1 hw (j:=nx j x.f0) (by omega);simp only[hang,gI,Bool.and_eq_true];rw[m0,m1];exact⟨s,p0,p1,ih hs (i + 1) _ _ (by omega) g⟩
theorem aDD {A H:List R} {w:List Int} (h:good A H=true) (hw:∀ x ∈ w,iT x=true) (hc:cnt H≤w.length):good A (hang w 0 H)=true:=by
  simp only[good,Bool.and_eq_true,decide_eq_true_eq]at h ⊢;refine⟨h.1,by rw[QV];exact h.2.1,bTW _ w hw A H 0 _ 0 (by omega) h.2.2⟩
theorem a0B (h:Int) (W:List Int):oG.f h W=pX.f h W:=rfl
theorem aM4 (A H:List R):∀ (k:Nat) (X:List Int) (j:Int),fC.l0 k X j A H=dW.l0 k X j A H:=by
  intro k
  induction k with
  |zero=>intro X j;rfl
  | succ k ih=>
    intro X j;simp only[fC.l0,dW.l0,a0B,ih]
theorem KN (k:Nat) (A H:List R):fC.f k A H=dW.f k A H:=by
  unfold fC.f dW.f;simp only[aM4]
def qM (W:List Int) (h:Int):Int:=if h < 0 then rd W (-h)else h
theorem at_eq {i n h:Int} {W:List Int} (hi:0≤i) (hn:n≤100) (he:qL i n h=true) (hl:(W.length:Int)=n):pX.f h W=some (qM W h):=by
  unfold pX.f qM;by_cases h0:h < 0
  · have c:=child he h0
    rw[if_pos h0,if_pos h0,bW (x:=-h) (by omega) (by omega),if_pos (by omega),if_pos (by omega)]
  · rw[if_neg h0,if_neg h0]
def bd:Nat→Int
  |0=>99
  |d + 1=>2 * bd d
theorem aPI:∀ (a b:Nat),a≤b→99≤bd a∧bd a≤bd b:=by
  intro a b
  induction b with
  | zero=>
    intro h;have:a=0:=by omega
    subst this;simp[bd]
  | succ b ih=>
    intro h;rcases Nat.lt_or_ge b a with h1|h1
    · have:a=b + 1:=by omega
      subst this;refine⟨?_,Int.le_refl _⟩;clear ih h h1
      induction b with
      |zero=>simp[bd]
      |succ b ih=>simp only[bd]at ih ⊢;omega
    · have:=ih h1
      simp only[bd];omega
theorem bd6 (d:Nat) (h:d≤6):bd d≤6336:=by
  have:=(aPI d 6 h).2
  simpa [bd] using this
theorem TF {n i:Nat} {h:Int} {W:List Int} (he:qL (i:Int) (n:Int) h=true) (hi:i < n) (hl:W.length=n) (hW:∀ m:Nat,i < m→m < n→1≤rd W (m:Int)∧rd W (m:Int)≤bd (n - m)):1≤qM W h∧qM W h≤bd (n - i - 1):=by
  unfold qM;by_cases h0:h < 0
  · rw[if_pos h0]
    have c:=child he h0;obtain⟨m,hm⟩:∃ m:Nat,-h=(m:Int):=⟨(-h).toNat,by omega⟩
    rw[hm]at c ⊢;have w:=hW m (by omega) (by omega);have b:=(aPI (n - m) (n - i - 1) (by omega)).2;omega
  · rw[if_neg h0]
    have b:=(aPI 0 (n - i - 1) (by omega)).2;simp only[bd]at b;simp only[qL,iT,Bool.or_eq_true,decide_eq_true_eq]at he;omega
structure XW (n:Nat) (W:List Int):Prop where
  len:W.length=n
  bound:∀ m:Nat,m < n→1≤rd W (m:Int)∧rd W (m:Int)≤bd (n - m)
theorem aQS (W:List Int) (A H:List R):∀ (k:Nat) (X:List Int) (j:Int),jR.l0 k W X A (A.length:Int) j A H=kU.l0 k X W j A H:=by
  intro k
  induction k with
  |zero=>intro X j;rfl
  | succ k ih=>
    intro X j;by_cases c:j < (A.length:Int)
    · simp only[jR.l0,kU.l0,a0B,ih,c,if_true]
    · simp only[jR.l0,kU.l0,c,if_false]
theorem bDC:∀ (k a b:Nat),b < k→pR.l0 k (a:Int) (b:Int)=some ((Nat.gcd a b:Nat):Int):=by
  intro k
  induction k with
  |zero=>intro a b h;omega
  | succ k ih=>
    intro a b h;simp only[pR.l0];by_cases hb:b=0
    · subst hb
      rw[if_neg (by simp)];simp
    · rw[if_pos (by omega),if_neg (by omega)]
      rw[show Int.tmod (a:Int) (b:Int)=((a % b:Nat):Int)from by simp[Int.tmod]];rw[ih b (a % b) (by have:=Nat.mod_lt a (Nat.pos_of_ne_zero hb);omega),Nat.gcd_comm b,← Nat.gcd_rec,Nat.gcd_comm]
def gd (a b:Int):Int:=((Nat.gcd a.natAbs b.natAbs:Nat):Int)
theorem XX {a b:Int} (h:0 < b):0 < gd a b:=by
  have:=Nat.gcd_pos_of_pos_right a.natAbs (show 0 < b.natAbs by omega);unfold gd;omega
theorem a2A (a b:Int):gd a b ∣ a∧gd a b ∣ b:=by
  unfold gd;exact⟨Int.ofNat_dvd_left.2 (Nat.gcd_dvd_left _ _),Int.ofNat_dvd_left.2 (Nat.gcd_dvd_right _ _)⟩
def cut (a b:Int):Int × Int:=(a / gd a b,b / gd a b)
theorem b2C {a b:Int} (h:0 < b):(cut a b).1.natAbs≤a.natAbs∧0 < (cut a b).2∧(cut a b).2≤b:=by
  have hp:=XX (a:=a) h;obtain⟨⟨x,hx⟩,⟨y,hy⟩⟩:=a2A a b;unfold cut;generalize gd a b=g at *;subst hx hy;simp only;rw[Int.mul_ediv_cancel_left _ (by omega),Int.mul_ediv_cancel_left _ (by omega)];have hy:0 < y:=by
    rcases Int.lt_or_le 0 y with hy|hy
    · exact hy
    · have:=Int.mul_nonpos_of_nonneg_of_nonpos (Int.le_of_lt hp) hy
      omega
  refine⟨?_,hy,?_⟩
  · rw[Int.natAbs_mul]
    have:1≤g.natAbs:=by omega
    exact Nat.le_mul_of_pos_left _ this
  · have:=Int.mul_le_mul_of_nonneg_right (show 1≤g by omega) (Int.le_of_lt hy)
    omega
theorem bTX {a b:Int} (h:0 < b) (ha:0 < a):0 < (cut a b).1:=by
  have hp:=XX (a:=a) h;obtain⟨x,hx⟩:=(a2A a b).1;show 0 < a / gd a b
  generalize gd a b=g at *;subst hx;rw[Int.mul_ediv_cancel_left _ (by omega)];rcases Int.lt_or_le 0 x with hy|hy
  · exact hy
  · have:=Int.mul_nonpos_of_nonneg_of_nonpos (Int.le_of_lt hp) hy
    omega
theorem aXL (k:Nat) (a b:Int) (hb:0 < b) (hB:b≤4611686018427387904) (ha: -4611686018427387904≤a∧a≤4611686018427387904) (hk:b.toNat < k):vN.f k a b=some (cut a b):=by
  unfold vN.f rW.f pR.f;rw[bW (x:=-a) (by omega) (by omega)];have e:(if a > -a then some a else some (-a))=some ((a.natAbs:Nat):Int):=by
    split <;> (congr 1;omega)
  rw[e,Option.bind_some];have hb2:b=((b.natAbs:Nat):Int):=by omega
  have hc:=b2C (a:=a) hb;have hp:=XX (a:=a) hb;have hd:=a2A a b
  rw[show pR.l0 k (a.natAbs:Int) b=some (gd a b)from by
    unfold gd
    rw[← bDC k a.natAbs b.natAbs (by omega),← hb2]]
  rw[Option.bind_some,if_neg (by omega)];unfold cut at hc ⊢;simp only at hc;rw[Int.tdiv_eq_ediv_of_dvd hd.1,Int.tdiv_eq_ediv_of_dvd hd.2,bW (by omega) (by omega),bW (by omega) (by omega)]
theorem bDD (d x y:Int) (hd:0 < d):gd (d * x) (d * y)=d * gd x y:=by
  unfold gd;rw[Int.natAbs_mul,Int.natAbs_mul,Nat.gcd_mul_left,Int.natCast_mul];congr 1;omega
def gA (l:List Int) (c:Int):Int:=l.foldl gd c
theorem bDE (d:Int) (hd:0 < d):∀ (l:List Int) (c:Int),gA (l.map (fun x=>d * x)) (d * c)=d * gA l c:=by
  intro l
  induction l with
  |nil=>intro c;rfl
  | cons x l ih=>
    intro c;show gA (l.map (fun x=>d * x)) (gd (d * c) (d * x))=d * gA l (gd c x)
    rw[bDD _ _ _ hd,ih]
theorem c4T:∀ (l:List Int) (c:Int),(∀ x ∈ l,0 < x)→0 < c→0 < gA l c:=by
  intro l
  induction l with
  |nil=>intro c _ h;exact h
  | cons x l ih=>
    intro c h hc;exact ih (gd c x) (fun y hy=>h y (by simp[hy])) (XX (h x (by simp)))
theorem b2D (l:List Int) (h:∀ x ∈ l,0 < x) (hl:l ≠ []):0 < gA l 0:=by
  cases l with
  |nil=>exact absurd rfl hl
  | cons x l=>
    exact c4T l (gd 0 x) (fun y hy=>h y (by simp[hy])) (XX (h x (by simp)))
def Lk (D P t b:Int):Prop:=0 < P∧P≤D∧0 < t∧0 < b∧b ∣ D∧t * D=b * P
theorem VC {a b:Int} (ha:0 < a) (h:0 < a * b):0 < b:=by
  rcases Int.lt_or_le 0 b with hb|hb
  · exact hb
  · have:=Int.mul_nonpos_of_nonneg_of_nonpos (Int.le_of_lt ha) hb
    omega
theorem Lk.le {D P t b:Int} (h:Lk D P t b):t≤b∧b≤D∧0 < D:=by
  obtain⟨h1,h2,h3,h4,h5,h6⟩:=h;have hD:0 < D:=by omega
  refine⟨?_,Int.le_of_dvd hD h5,hD⟩;have:t * D≤b * D:=by
    rw[h6];exact Int.mul_le_mul_of_nonneg_left h2 (by omega)
  exact Int.le_of_mul_le_mul_right this hD
theorem bHL {x y:Int} (hx:0 < x) (hy:0 < y):∃ g:Int,0 < g∧(cut x y).1 * g=x∧(cut x y).2 * g=y∧Nat.Coprime (cut x y).2.natAbs (cut x y).1.natAbs:=by
  have hp:=XX (a:=x) hy;obtain⟨⟨u,hu⟩,⟨v,hv⟩⟩:=a2A x y;refine⟨gd x y,hp,?_,?_,?_⟩
  · show x / gd x y * gd x y=x
    exact Int.ediv_mul_cancel ⟨u,hu⟩
  · show y / gd x y * gd x y=y
    exact Int.ediv_mul_cancel ⟨v,hv⟩
  · have e1:(cut x y).1=u:=by
      show x / gd x y=u
      generalize gd x y=g at *;subst hu;exact Int.mul_ediv_cancel_left _ (by omega)
    have e2:(cut x y).2=v:=by
      show y / gd x y=v
      generalize gd x y=g at *;subst hv;exact Int.mul_ediv_cancel_left _ (by omega)
    rw[e1,e2];have hg:gd (gd x y * u) (gd x y * v)=gd x y * gd u v:=bDD _ _ _ hp;rw[← hu,← hv]at hg;have h1:gd u v=1:=by
      have:gd x y * gd u v=gd x y * 1:=by rw[← hg,Int.mul_one]
      exact(Int.mul_eq_mul_left_iff (by omega)).1 this
    unfold gd at h1;rw[Nat.Coprime,Nat.gcd_comm];omega
theorem aXM {D P t b s o R:Int} (h:Lk D P t b) (hs:0 < s) (ho:0 < o) (hos:o≤s) (hR:s * R ∣ P):
    Lk D (P / s * o) (cut (t * o) (b * s)).1 (cut (t * o) (b * s)).2∧R ∣ P / s * o:=by
  have hle:=h.le;obtain⟨h1,h2,h3,h4,h5,h6⟩:=h;obtain⟨q,hq⟩:=hR;have hm:P / s=R * q:=by
    rw[hq,Int.mul_assoc];exact Int.mul_ediv_cancel_left _ (by omega)
  rw[hm];have hP:P=s * (R * q):=by rw[hq,Int.mul_assoc]
  generalize hmm:R * q=m at *;have m0:0 < m:=VC hs (by rw[← hP];exact h1);obtain⟨g,g0,gx,gy,co⟩:=bHL (x:=t * o) (y:=b * s) (Int.mul_pos h3 ho) (Int.mul_pos h4 hs);have t0:0 < (cut (t * o) (b * s)).1:=bTX (Int.mul_pos h4 hs) (Int.mul_pos h3 ho);have b0:0 < (cut (t * o) (b * s)).2:=(b2C (a:=t * o) (Int.mul_pos h4 hs)).2.1;generalize (cut (t * o) (b * s)).1=t' at *;generalize (cut (t * o) (b * s)).2=b' at *;have eq:t' * D=b' * (m * o):=by
    have:t' * D * g=b' * (m * o) * g:=by
      rw[show t' * D * g=(t' * g) * D from by rw[Int.mul_assoc,Int.mul_comm D g,← Int.mul_assoc],gx];rw[show b' * (m * o) * g=(b' * g) * (m * o)from by rw[Int.mul_assoc,Int.mul_comm (m * o) g,← Int.mul_assoc],gy];rw[show t * o * D=(t * D) * o from by rw[Int.mul_assoc,Int.mul_comm o D,← Int.mul_assoc],h6,hP];rw[Int.mul_assoc,Int.mul_assoc,Int.mul_assoc]
    exact Int.eq_of_mul_eq_mul_right (by omega) this
  refine⟨⟨Int.mul_pos m0 ho,?_,t0,b0,?_,eq⟩,?_⟩
  · have:m * o≤m * s:=Int.mul_le_mul_of_nonneg_left hos (by omega)
    rw[Int.mul_comm m s,← hP]at this;omega
  · have d1:b'.natAbs ∣ t'.natAbs * D.natAbs:=by
      rw[← Int.natAbs_mul,eq,Int.natAbs_mul];exact⟨_,rfl⟩
    exact Int.natAbs_dvd_natAbs.1 (Nat.Coprime.dvd_of_dvd_mul_left co d1)
  · exact⟨q * o,by rw[← hmm,Int.mul_assoc]⟩
theorem bHM {L b D:Int} (hL:0 < L) (hb:0 < b) (h1:L ∣ D) (h2:b ∣ D):0 < L / gd L b * b∧L / gd L b * b ∣ D∧L ∣ L / gd L b * b∧b ∣ L / gd L b * b:=by
  have hp:=XX (a:=L) hb;have e:L / gd L b * b=((Nat.lcm L.natAbs b.natAbs:Nat):Int):=by
    unfold gd Nat.lcm;have a1:L=((L.natAbs:Nat):Int):=by omega
    have a2:b=((b.natAbs:Nat):Int):=by omega
    generalize L.natAbs=l at *;generalize b.natAbs=c at *;subst a1 a2;obtain⟨x,hx⟩:=Nat.gcd_dvd_left l c;have g0:0 < Nat.gcd l c:=Nat.gcd_pos_of_pos_right _ (by omega)
    rw[show l * c / Nat.gcd l c=x * c from by
      conv=>lhs;lhs;rw[hx,Nat.mul_assoc]
      exact Nat.mul_div_cancel_left _ g0]
    rw[← Int.natCast_ediv,show l / Nat.gcd l c=x from by
      conv=>lhs;lhs;rw[hx]
      exact Nat.mul_div_cancel_left _ g0]
    simp
  have dl:L ∣ L / gd L b * b:=by
    rw[e];exact Int.natAbs_dvd_natAbs.1 (by simpa using Nat.dvd_lcm_left L.natAbs b.natAbs)
  refine⟨?_,?_,dl,⟨L / gd L b,by rw[Int.mul_comm]⟩⟩
  · obtain⟨u,hu⟩:=(a2A L b).1
    have:0 < L / gd L b:=by
      generalize gd L b=g at *;subst hu;rw[Int.mul_ediv_cancel_left _ (by omega)];exact VC hp hL
    exact Int.mul_pos this hb
  · rw[e]
    exact Int.natAbs_dvd_natAbs.1 (by simpa using Nat.lcm_dvd (Int.natAbs_dvd_natAbs.2 h1) (Int.natAbs_dvd_natAbs.2 h2))
def qOf (L t b:Int):Int:=L / b * t
theorem c4U {D P t b L:Int} (h:Lk D P t b) (hL:0 < L) (hD:L ∣ D) (hb:b ∣ L):D * qOf L t b=L * P∧0 < qOf L t b∧qOf L t b≤D:=by
  have hle:=h.le;obtain⟨h1,h2,h3,h4,h5,h6⟩:=h;obtain⟨x,hx⟩:=hb;have e:qOf L t b=x * t:=by
    unfold qOf;rw[hx,Int.mul_ediv_cancel_left _ (by omega)]
  have x0:0 < x:=VC h4 (by rw[← hx];exact hL);have eq:D * (x * t)=L * P:=by
    rw[show D * (x * t)=x * (t * D)from by rw[Int.mul_comm D,Int.mul_assoc],h6,hx];rw[← Int.mul_assoc,Int.mul_comm x b]
  rw[e];refine⟨eq,Int.mul_pos x0 h3,?_⟩;have hLD:=Int.le_of_dvd (by omega) hD;have l1:L * P≤D * P:=Int.mul_le_mul_of_nonneg_right hLD (by omega);rw[← eq]at l1;have:=Int.le_of_mul_le_mul_left l1 (by omega);omega
theorem lowest {D L:Int} (hD:0 < D) (hL:0 < L) (P Q:List Int) (h:Q.map (fun x=>D * x)=P.map (fun x=>L * x)):Q.map (fun x=>x / gA Q 0)=P.map (fun x=>x / gA P 0):=by
  have g1:=bDE D hD Q 0;have g2:=bDE L hL P 0;rw[Int.mul_zero]at g1 g2;rw[h,g2]at g1;have e1:Q.map (fun x=>x / gA Q 0)=(Q.map (fun x=>D * x)).map (fun x=>x / (D * gA Q 0)):=by
    rw[List.map_map];apply List.map_congr_left;intro x _;exact(Int.mul_ediv_mul_of_pos x (gA Q 0) hD).symm
  have e2:P.map (fun x=>x / gA P 0)=(P.map (fun x=>L * x)).map (fun x=>x / (L * gA P 0)):=by
    rw[List.map_map];apply List.map_congr_left;intro x _;exact(Int.mul_ediv_mul_of_pos x (gA P 0) hL).symm
  rw[e1,e2,h,g1]
def chs (f:Int→Int) (h:Int):Int:=if h < 0 then f (-h)else 0
def sB (f:Int→Int):Int→List Bool→Int
  |_,[]=>0
  |j,b::bs=>(if b then f j else 0) + sB f (j + 1) bs
def sA (f:Int→Int):Int→Nat→Int
  |_,0=>0
  |j,n + 1=>f j + sA f (j + 1) n
def sC (f:Int→Int):List R→Int
  |[]=>0
  |h::hs=>chs f h.f0 + chs f h.f1 + sC f hs
def sR (G:Int→R→R→Int):Nat→List R→List R→Int
  |i,a::us,h::hs=>G (i:Int) a h + sR G (i + 1) us hs
  |_,_,_=>0
def L9 (A H:List R) (W:List Int):Prop:=∀ i:Nat,i < A.length→rd W (i:Int)=qM W (aA H i).f0 + qM W (aA H i).f1
theorem aXN (X:List Int) (j m:Nat) (v:Int) (hj:j ≠ m):rd (X.set j v) (m:Int)=rd X (m:Int):=by
  simp only[rd,List.getD_eq_getElem?_getD,List.getElem?_set,Int.toNat_natCast];rw[if_neg hj]
theorem aZ3 (X:List Int) (j:Nat) (v:Int) (hj:j < X.length):rd (X.set j v) (j:Int)=v:=by
  simp only[rd,List.getD_eq_getElem?_getD,List.getElem?_set,Int.toNat_natCast,if_true];rw[if_pos hj];rfl
theorem b2F {i n j:Nat} {h:Int} (X:List Int) (v:Int) (he:qL (i:Int) (n:Int) h=true) (hj:j≤i):qM (X.set j v) h=qM X h:=by
  unfold qM;by_cases h0:h < 0
  · have c:=child he h0
    obtain⟨m,hm⟩:∃ m:Nat,-h=(m:Int):=⟨(-h).toNat,by omega⟩
    rw[if_pos h0,if_pos h0,hm,aXN X j m v (by omega)]
  · rw[if_neg h0,if_neg h0]
theorem aZ4 {A H:List R} (ok:YL A H):∀ (j:Nat) (X:List Int),j≤A.length→X.length=A.length→(∀ m:Nat,j≤m→m < A.length→1≤rd X (m:Int)∧rd X (m:Int)≤bd (A.length - m))→(∀ m:Nat,j≤m→m < A.length→rd X (m:Int)=qM X (aA H m).f0 + qM X (aA H m).f1)→
    ∃ W,XW A.length W∧L9 A H W∧∀ k,j < k→dW.l0 k X ((j:Int) - 1) A H=some W:=by
  have o1:=ok.len;have o2:=ok.same;intro j
  induction j with
  | zero=>
    intro X hj hX hb hq;refine⟨X,⟨hX,fun m hm=>hb m (by omega) hm⟩,fun m hm=>hq m (by omega) hm,fun k hk=>?_⟩;obtain⟨k,rfl⟩:∃ m,k=m + 1:=⟨k - 1,by omega⟩
    simp only[dW.l0];rw[if_neg (by omega)]
  | succ j ih=>
    intro X hj hX hb hq;have f:=ok.fin j (by omega);have e0:=at_eq (W:=X) (by omega) (by omega) f.1 (by omega);have e1:=at_eq (W:=X) (by omega) (by omega) f.2 (by omega);have b0:=TF (W:=X) f.1 (by omega) hX (fun m h1 h2=>hb m (by omega) h2);have b1:=TF (W:=X) f.2 (by omega) hX (fun m h1 h2=>hb m (by omega) h2);have b6:=bd6 (A.length - j - 1) (by omega);have w:=bW (x:=qM X (aA H j).f0 + qM X (aA H j).f1) (by omega) (by omega);have same:=aZ3 X j (qM X (aA H j).f0 + qM X (aA H j).f1) (by omega)
    obtain⟨W,hW,hWq,hs⟩:=ih (X.set j (qM X (aA H j).f0 + qM X (aA H j).f1)) (by omega) (by simpa using hX) (by
      intro m h1 h2
      by_cases hm:j=m
      · subst hm
        rw[same,show A.length - j=(A.length - j - 1) + 1 from by omega]
        simp only[bd]
        omega
      · rw[aXN X j m _ hm]
        exact hb m (by omega) h2) (by
      intro m h1 h2
      have fm:=ok.fin m h2
      rw[b2F X _ fm.1 h1,b2F X _ fm.2 h1]
      by_cases hm:j=m
      · subst hm
        exact same
      · rw[aXN X j m _ hm]
        exact hq m (by omega) h2)
    refine⟨W,hW,hWq,fun k hk=>?_⟩;obtain⟨k,rfl⟩:∃ m,k=m + 1:=⟨k - 1,by omega⟩
    simp only[dW.l0];rw[show((j + 1:Nat):Int) - 1=(j:Int)from by omega,if_pos (by omega),if_pos (by omega),if_pos (by omega),e0,Option.bind_some,e1,Option.bind_some,if_pos (by omega),w,bW (x:=(j:Int) - 1) (by omega) (by omega),Int.toNat_natCast];exact hs k (by omega)
theorem a3Z {A H:List R} (ok:YL A H):∃ W,XW A.length W∧L9 A H W∧∀ k,10≤k→dW.f k A H=some W:=by
  have o1:=ok.len;obtain⟨W,hW,hq,hs⟩:=aZ4 ok A.length (List.replicate A.length 0) (Nat.le_refl _) (by simp) (fun m h1 h2=>by omega) (fun m h1 h2=>by omega);refine⟨W,hW,hq,fun k hk=>?_⟩;unfold dW.f;rw[if_pos (by omega),if_pos (by omega),Option.bind_some,List.length_replicate,Int.toNat_natCast,bW (x:=(A.length:Int) - 1) (by omega) (by omega)];exact hs k (by omega)
theorem aXO {A H:List R} (ok:YL A H) {W V:List Int} (hW:L9 A H W) (hV:L9 A H V):∀ (d m:Nat),A.length - d≤m→m < A.length→rd W (m:Int)=rd V (m:Int):=by
  intro d
  induction d with
  |zero=>intro m h1 h2;omega
  | succ d ih=>
    intro m h1 h2;have f:=ok.fin m h2;have e:∀ h:Int,qL (m:Int) (A.length:Int) h=true→qM W h=qM V h:=by
      intro h he;unfold qM;by_cases h0:h < 0
      · have c:=child he h0
        obtain⟨q,hq⟩:∃ q:Nat,-h=(q:Int):=⟨(-h).toNat,by omega⟩
        rw[if_pos h0,if_pos h0,hq,ih q (by omega) (by omega)]
      · rw[if_neg h0,if_neg h0]
    rw[hW m h2,hV m h2,e _ f.1,e _ f.2]
def tn (W:List Int):List R→List R→List Int
  |a::us,h::hs=>(a.f1 * qM W h.f1 - a.f0 * qM W h.f0)::tn W us hs
  |_,_=>[]
theorem aDE (W:List Int):∀ (us hs:List R),us.length=hs.length→(tn W us hs).length=us.length:=by
  intro us
  induction us with
  |nil=>intro hs h;simp[tn]
  | cons a us ih=>
    intro hs h;cases hs with
    |nil=>simp at h
    |cons x hs=>simp only[tn,List.length_cons];rw[ih hs (by simpa using h)]
theorem bOW {A H:List R} (ok:YL A H) {W:List Int} (hW:XW A.length W) (j:Nat) (hj:j < A.length):
    (1≤qM W (aA H j).f0∧qM W (aA H j).f0≤6336)∧(1≤qM W (aA H j).f1∧qM W (aA H j).f1≤6336):=by
  have o1:=ok.len;have f:=ok.fin j hj;have b0:=TF (W:=W) f.1 hj hW.len (fun m h1 h2=>hW.bound m h2);have b1:=TF (W:=W) f.2 hj hW.len (fun m h1 h2=>hW.bound m h2);have b6:=bd6 (A.length - j - 1) (by omega);omega
theorem bOX {A H:List R} (ok:YL A H) (j:Nat) (hj:j < A.length):(1≤(aA A j).f0∧(aA A j).f0≤12)∧(1≤(aA A j).f1∧(aA A j).f1≤12):=by
  have h:=ok.arm j hj;simp only[xG,decide_eq_true_eq]at h;exact h
theorem bOY {a w:Int} (ha:1≤a∧a≤12) (hw:1≤w∧w≤6336):1≤a * w∧a * w≤76032:=by
  have h1:a * w≤12 * w:=Int.mul_le_mul_of_nonneg_right ha.2 (by omega);have h2:1 * w≤a * w:=Int.mul_le_mul_of_nonneg_right ha.1 (by omega);omega
theorem b2G {α:Type} (l:List α) (j:Nat) (d:α) (h:j < l.length):l.drop j=l.getD j d::l.drop (j + 1):=by
  rw[List.drop_eq_getElem_cons h,List.getD_eq_getElem?_getD,List.getElem?_eq_getElem h];rfl
theorem bDF {A H:List R} (ok:YL A H) {W:List Int} (hW:XW A.length W):∀ (d j:Nat) (X:List Int),j + d=A.length→X.length=j→∀ k,d < k→kU.l0 k X W (j:Int) A H=some (X ++ tn W (A.drop j) (H.drop j)):=by
  have o1:=ok.len;have o2:=ok.same;have o3:=hW.len;intro d
  induction d with
  | zero=>
    intro j X hj hX k hk;obtain⟨k,rfl⟩:∃ m,k=m + 1:=⟨k - 1,by omega⟩
    simp only[kU.l0];rw[if_neg (by omega),List.drop_of_length_le (by omega)];simp[tn]
  | succ d ih=>
    intro j X hj hX k hk;obtain⟨k,rfl⟩:∃ m,k=m + 1:=⟨k - 1,by omega⟩
    have f:=ok.fin j (by omega);have e0:=at_eq (W:=W) (by omega) (by omega) f.1 (by omega);have e1:=at_eq (W:=W) (by omega) (by omega) f.2 (by omega);have b:=bOW ok hW j (by omega);have a:=bOX ok j (by omega);have m0:=bOY a.1 b.1;have m1:=bOY a.2 b.2;have dA:A.drop j=aA A (j:Int)::A.drop (j + 1):=b2G A j _ (by omega);have dH:H.drop j=aA H (j:Int)::H.drop (j + 1):=b2G H j _ (by omega);have g:=ih (j + 1) (X ++ [(aA A j).f1 * qM W (aA H j).f1 - (aA A j).f0 * qM W (aA H j).f0]) (by omega) (by simp;omega) k (by omega);simp only[kU.l0];rw[if_pos (by omega),if_pos (by omega),if_pos (by omega),e1,Option.bind_some,e0,Option.bind_some,if_pos (by omega),bW (x:=(j:Int) + 1) (by omega) (by omega),bW (x:=(aA A j).f1 * qM W (aA H j).f1) (by omega) (by omega),bW (x:=(aA A j).f0 * qM W (aA H j).f0) (by omega) (by omega),bW (x:=(aA A j).f1 * qM W (aA H j).f1 - (aA A j).f0 * qM W (aA H j).f0) (by omega) (by omega)];rw[dA,dH];simp only[tn];rw[show((j:Int) + 1)=((j + 1:Nat):Int)from by omega,g];simp
theorem bTY {A H:List R} (ok:YL A H):∃ W,XW A.length W∧L9 A H W∧∀ k,20≤k→dW.f k A H=some W∧fC.f k A H=some W∧kU.f k A H=some (tn W A H)∧jR.f k A H=some (tn W A H):=by
  have o1:=ok.len;obtain⟨W,hW,hq,hs⟩:=a3Z ok;refine⟨W,hW,hq,fun k hk=>?_⟩;have e:=hs k (by omega);have t:=bDF ok hW A.length 0 [] (by omega) rfl k (by omega);simp only[Int.natCast_zero,List.drop_zero,List.nil_append]at t;refine⟨e,by rw[KN];exact e,?_,?_⟩
  · simp only[kU.f,e,Option.bind_some,t]
  · simp only[jR.f,KN,e,Option.bind_some,aQS,t]
def tot:List Int→Int
  |[]=>0
  |x::l=>x + tot l
theorem VD:∀ (l m:List Int),tot (l ++ m)=tot l + tot m:=by
  intro l
  induction l with
  |nil=>intro m;simp[tot]
  |cons x l ih=>intro m;simp only[List.cons_append,tot,ih];omega
theorem bDG {i n h:Int} (he:qL i n h=true) (hi:0≤i):h < 0∨0 < h:=by
  simp only[qL,iT,Bool.or_eq_true,decide_eq_true_eq]at he;omega
theorem bTZ {A H:List R} (ok:YL A H):∀ j:Nat,j < H.length→((aA H j).f0 < 0∨0 < (aA H j).f0)∧((aA H j).f1 < 0∨0 < (aA H j).f1):=fun j hj=>by
  have o2:=ok.same;have f:=ok.fin j (by omega);exact⟨bDG f.1 (by omega),bDG f.2 (by omega)⟩
def VK (X:List Int) (h v:Int):List Int:=if h < 0 then X.set (-h).toNat v else X
def puo (O:List (Int × Int)) (h v:Int):List (Int × Int):=if h < 0 then O else O ++ [(v,h)]
theorem VE (X:List Int) (h v:Int):(VK X h v).length=X.length:=by unfold VK;split <;> simp
def pf (g0 g1:Int→R→Int):Nat→List R→List R→List Int→List Int
  |i,a::us,h::hs,X=>pf g0 g1 (i + 1) us hs (VK (VK X h.f0 (g0 (X.getD i 0) a)) h.f1 (g1 (X.getD i 0) a))
  |_,_,_,X=>X
def po (g0 g1:Int→R→Int):Nat→List R→List R→List Int→List (Int × Int)→List (Int × Int)
  |i,a::us,h::hs,X,O=>po g0 g1 (i + 1) us hs (VK (VK X h.f0 (g0 (X.getD i 0) a)) h.f1 (g1 (X.getD i 0) a)) (puo (puo O h.f0 (g0 (X.getD i 0) a)) h.f1 (g1 (X.getD i 0) a))
  |_,_,_,_,O=>O
def en (h v:Int):List (Int × Int):=if h < 0 then[]else[(v,h)]
def fl (g0 g1:Int→R→Int) (Z:List Int):Nat→List R→List R→List (Int × Int)
  |i,a::us,h::hs=>en h.f0 (g0 (Z.getD i 0) a) ++ (en h.f1 (g1 (Z.getD i 0) a) ++ fl g0 g1 Z (i + 1) us hs)
  |_,_,_=>[]
theorem bDH (O:List (Int × Int)) (h v:Int):puo O h v=O ++ en h v:=by
  unfold puo en
  split <;> simp
theorem aXP {i n:Nat} {B:List Bool} {X:List Int} {h v:Int} (hs:pG (i:Int) (n:Int) B h=true) (j:Nat) (hj:j≤i∨B.getD j false=true):(VK X h v).getD j 0=X.getD j 0:=by
  unfold VK;by_cases h0:h < 0
  · obtain⟨k1,k2,k3⟩:=PT hs h0
    rw[if_pos h0,tL,if_neg];rintro⟨e1,_⟩;rcases hj with hj|hj
    · omega
    · rw[e1,hj]at k3
      cases k3
  · rw[if_neg h0]
theorem aFA (B:List Bool) (h:Int) (j:Nat) (hj:B.getD j false=true):(mark B h).getD j false=true:=by
  unfold mark
  split
  · rw[tL]
    split
    · rfl
    · exact hj
  · exact hj
theorem aIM {i n:Nat} {B:List Bool} {h:Int} (hn:n=B.length) (hs:pG (i:Int) (n:Int) B h=true) (h0:h < 0):(mark B h).getD (-h).toNat false=true:=by
  obtain⟨k1,k2,k3⟩:=PT hs h0;unfold mark;rw[if_pos h0,tL,if_pos ⟨rfl,by omega⟩]
theorem b2H {i n:Nat} {B:List Bool} {X:List Int} {h v:Int} (hn:n=X.length) (hs:pG (i:Int) (n:Int) B h=true) (h0:h < 0):(VK X h v).getD (-h).toNat 0=v:=by
  obtain⟨k1,k2,k3⟩:=PT hs h0;unfold VK;rw[if_pos h0,tL,if_pos ⟨rfl,by omega⟩]
theorem aXQ (g0 g1:Int→R→Int) (n:Nat):∀ (us hs:List R) (i:Nat) (B:List Bool) (X:List Int) (O:List (Int × Int)),us.length=hs.length→n=B.length→n=X.length→gI (n:Int) (i:Int) us hs B=true→
    (∀ j:Nat,(j≤i∨B.getD j false=true)→(pf g0 g1 i us hs X).getD j 0=X.getD j 0)∧
    (∀ m:Nat,m < us.length→((aA hs m).f0 < 0→(pf g0 g1 i us hs X).getD (-(aA hs m).f0).toNat 0=g0 ((pf g0 g1 i us hs X).getD (i + m) 0) (aA us m))∧((aA hs m).f1 < 0→(pf g0 g1 i us hs X).getD (-(aA hs m).f1).toNat 0=g1 ((pf g0 g1 i us hs X).getD (i + m) 0) (aA us m)))∧
    po g0 g1 i us hs X O=O ++ fl g0 g1 (pf g0 g1 i us hs X) i us hs∧(pf g0 g1 i us hs X).length=n:=by
  intro us
  induction us with
  | nil=>
    intro hs i B X O hl hB hX h;refine⟨fun j _=>by simp[pf],fun m hm=>by simp at hm,by simp[po,fl],by simp[pf,hX]⟩
  | cons a us ih=>
    intro hs i B X O hl hB hX h;cases hs with
    |nil=>simp at hl
    | cons x hs=>
      simp only[gI,Bool.and_eq_true]at h;obtain⟨_,s0,s1,g⟩:=h;have hB1:n=(mark B x.f0).length:=by rw[oU];exact hB
      have hX1:n=(VK X x.f0 (g0 (X.getD i 0) a)).length:=by rw[VE];exact hX
      obtain⟨p1,p2,p3,p4⟩:=ih hs (i + 1) (mark (mark B x.f0) x.f1) (VK (VK X x.f0 (g0 (X.getD i 0) a)) x.f1 (g1 (X.getD i 0) a)) (puo (puo O x.f0 (g0 (X.getD i 0) a)) x.f1 (g1 (X.getD i 0) a)) (by simpa using hl) (by rw[oU];exact hB1) (by rw[VE];exact hX1) g;simp only[pf,po,fl];generalize hZ:pf g0 g1 (i + 1) us hs (VK (VK X x.f0 (g0 (X.getD i 0) a)) x.f1 (g1 (X.getD i 0) a))=Z at p1 p2 p3 p4;have q1:∀ j:Nat,(j≤i∨B.getD j false=true)→Z.getD j 0=X.getD j 0:=fun j hj=>by
        rw[p1 j (by
          rcases hj with hj|hj
          · exact Or.inl (by omega)
          · exact Or.inr (aFA _ _ j (aFA _ _ j hj)))]
        rw[aXP s1 j (by
          rcases hj with hj|hj
          · exact Or.inl hj
          · exact Or.inr (aFA _ _ j hj)),aXP s0 j hj]
      have zi:=q1 i (Or.inl (Nat.le_refl i));refine⟨q1,?_,?_,p4⟩
      · intro m hm
        cases m with
        | zero=>
          rw[EF,EF,Nat.add_zero,zi];refine⟨fun h0=>?_,fun h0=>?_⟩
          · rw[p1 _ (Or.inr (aFA _ _ _ (aIM hB s0 h0))),aXP s1 _ (Or.inr (aIM hB s0 h0)),b2H hX s0 h0]
          · rw[p1 _ (Or.inr (aIM hB1 s1 h0)),b2H hX1 s1 h0]
        | succ m=>
          rw[EE,EE,show i + (m + 1)=i + 1 + m from by omega];exact p2 m (by simpa using hm)
      · rw[p3,zi,bDH,bDH,List.append_assoc,List.append_assoc]
def cV1 (f:Int × Int→Int):List (Int × Int)→Int
  |[]=>0
  |x::l=>f x + cV1 f l
def hzq (q:Int→Int) (g0 g1:Int→R→Int) (Z:List Int):Nat→List R→List R→List R
  |i,a::us,h::hs=>⟨if h.f0 < 0 then h.f0 else q (g0 (Z.getD i 0) a),if h.f1 < 0 then h.f1 else q (g1 (Z.getD i 0) a)⟩::hzq q g0 g1 Z (i + 1) us hs
  |_,_,_=>[]
theorem c4V (g0 g1:Int→R→Int) (Z:List Int):∀ (us hs:List R) (i:Nat) (X:List Int),us.length=hs.length→(∀ j:Nat,j < hs.length→((aA hs j).f0 < 0∨0 < (aA hs j).f0)∧((aA hs j).f1 < 0∨0 < (aA hs j).f1))→leaves X hs=X ++ (fl g0 g1 Z i us hs).map (fun x=>x.2):=by
  intro us
  induction us with
  | nil=>
    intro hs i X hl he;have:hs=[]:=List.eq_nil_of_length_eq_zero (by simpa using hl.symm);subst this;simp[leaves,fl]
  | cons a us ih=>
    intro hs i X hl he;cases hs with
    |nil=>simp at hl
    | cons x hs=>
      have e0:=he 0 (by simp);rw[EF]at e0;have u:∀ (Y:List Int) (h v:Int),(h < 0∨0 < h)→up Y h=Y ++ (en h v).map (fun x=>x.2):=by
        intro Y h v hh;unfold up en;by_cases h0:h < 0
        · rw[if_neg (by omega),if_pos h0];simp
        · rw[if_pos (by omega),if_neg h0];simp
      simp only[leaves,fl,List.map_append]
      rw[ih hs (i + 1) _ (by simpa using hl) (fun j hj=>by
        have e:=he (j + 1) (by simpa using hj)
        rw[EE]at e
        exact e),u _ x.f1 (g1 (Z.getD i 0) a) e0.2,u X x.f0 (g0 (Z.getD i 0) a) e0.1]
      simp
def pa0 (x:Int) (a:R):Int:=x / (a.f0 + a.f1) * a.f1
def pa1 (x:Int) (a:R):Int:=x / (a.f0 + a.f1) * a.f0
structure Parts (A H:List R) (Z:List Int):Prop where
  len:Z.length=A.length
  kid:∀ i:Nat,i < A.length→((aA H i).f0 < 0→rd Z (-(aA H i).f0)=pa0 (rd Z i) (aA A i))∧((aA H i).f1 < 0→rd Z (-(aA H i).f1)=pa1 (rd Z i) (aA A i))
  div:∀ i:Nat,i < A.length→(aA A i).f0 + (aA A i).f1 ∣ rd Z i
  pos:∀ i:Nat,i < A.length→0 < rd Z i
theorem cGU (Pd:Int→Prop) (W:List Int):∀ (us hs:List R),us.length=hs.length→(∀ j:Nat,j < us.length→Pd ((aA us j).f1 * qM W (aA hs j).f1 - (aA us j).f0 * qM W (aA hs j).f0))→∀ x ∈ tn W us hs,Pd x:=by
  intro us
  induction us with
  |nil=>intro hs hl he x hx;simp[tn]at hx
  | cons a us ih=>
    intro hs hl he x hx;cases hs with
    |nil=>simp at hl
    | cons y hs=>
      have e0:=he 0 (by simp);rw[EF,EF]at e0;simp only[tn]at hx;rcases List.mem_cons.1 hx with rfl|hx
      · exact e0
      · exact ih hs (by simpa using hl) (fun j hj=>by
          have e:=he (j + 1) (by simpa using hj)
          rw[EE,EE]at e
          exact e) x hx
theorem bOZ (W:List Int):∀ (us hs:List R) (j:Nat),us.length=hs.length→j < us.length→(tn W us hs).getD j 0=(aA us j).f1 * qM W (aA hs j).f1 - (aA us j).f0 * qM W (aA hs j).f0:=by
  intro us
  induction us with
  |nil=>intro hs j hl hj;simp at hj
  | cons a us ih=>
    intro hs j hl hj;cases hs with
    |nil=>simp at hl
    | cons y hs=>
      cases j with
      |zero=>rw[EF,EF];simp[tn]
      | succ j=>
        rw[EE,EE];simp only[tn];rw[List.getD_cons_succ];exact ih hs j (by simpa using hl) (by simpa using hj)
theorem rdI (p s:List Int) (x:Int):rd (p ++ x::s) ((p.length:Int))=x:=by
  simp[rd]
theorem aZ5 (w:List Int) (hw:∀ x ∈ w,0 < x):∀ (hs:List R) (j:Nat) (X:List Int),j + cnt hs≤w.length→leaves X (hang w j hs)=X ++ (w.drop j).take (cnt hs):=by
  have one:∀ (h:Int) (j:Nat) (X:List Int),nx j h≤w.length→up X (pt w j h)=X ++ (w.drop j).take (nx 0 h):=by
    intro h j X hj;unfold nx at hj ⊢;unfold pt up;by_cases c:h > 0
    · rw[if_pos c]at hj
      rw[if_pos c,if_pos c];have hl:j < w.length:=by omega
      have e:rd w (j:Int)=w[j]:=by simp[rd,List.getD_eq_getElem?_getD,List.getElem?_eq_getElem hl]
      have p:=hw _ (List.getElem_mem hl);rw[e,if_pos (by omega),List.drop_eq_getElem_cons hl];rfl
    · rw[if_neg c,if_neg c,if_neg c]
      simp
  intro hs
  induction hs with
  |nil=>intro j X hj;simp[hang,leaves,cnt]
  | cons h hs ih=>
    intro j X hj;simp only[cnt]at hj;have n1:=zP (nx j h.f0) h.f1;have n2:=zP j h.f0;have n3:=zP (nx 0 h.f0) h.f1;simp only[hang,leaves,cnt];rw[one h.f0 j X (by omega),one h.f1 (nx j h.f0) _ (by omega),ih _ _ (by omega),List.append_assoc,List.append_assoc];congr 1;have t:∀ (l:List Int) (a b c:Nat),l.take (a + b + c)=l.take a ++ ((l.drop a).take b ++ (l.drop (a + b)).take c):=fun l a b c=>by
      rw[Nat.add_assoc,List.take_add,List.take_add,List.drop_drop]
    rw[n1,n2,n3,t,List.drop_drop,List.drop_drop,Nat.add_assoc]
theorem aM5 {H:List R} {w:List Int} (hw:∀ x ∈ w,iT x=true) (hc:cnt H=w.length):leaves [] (hang w 0 H)=w:=by
  rw[aZ5 w (fun x hx=>by
    have:=hw x hx
    simp only[iT,decide_eq_true_eq]at this
    omega) H 0 [] (by omega),hc]
  simp
theorem bHN {A A' H:List R} (hl:A'.length=A.length) {W:List Int} (h:L9 A H W):L9 A' H W:=fun i hi=>h i (by omega)
theorem aM6 {A H:List R} (hl:A.length=H.length) (W:List Int) (h:∀ j:Nat,j < A.length→(aA A j).f1 * qM W (aA H j).f1=(aA A j).f0 * qM W (aA H j).f0):∀ x ∈ tn W A H,x=0:=
  cGU (fun x=>x=0) W A H hl (fun j hj=>by have:=h j hj;omega)
def rel (h h':Int):Prop:=h'=h∨(iT h=true∧iT h'=true)
theorem b2I {i n:Int} {B:List Bool} {h h':Int} (r:rel h h') (hs:pG i n B h=true):pG i n B h'=true∧mark B h'=mark B h:=by
  rcases r with rfl|⟨l1,l2⟩
  · exact⟨hs,rfl⟩
  · refine⟨by simp only[pG,l2,Bool.true_or],?_⟩
    simp only[iT,decide_eq_true_eq]at l1 l2;unfold mark;rw[if_neg (by omega),if_neg (by omega)]
theorem c4W (n:Int):∀ (us hs hs':List R) (i:Int) (B:List Bool),hs'.length=hs.length→(∀ j:Nat,j < hs.length→rel (aA hs j).f0 (aA hs' j).f0∧rel (aA hs j).f1 (aA hs' j).f1)→gI n i us hs B=true→gI n i us hs' B=true:=by
  intro us
  induction us with
  |nil=>intro hs hs' i B hl hr h;unfold gI at h ⊢;exact h
  | cons a us ih=>
    intro hs hs' i B hl hr h;cases hs with
    | nil=>
      have:hs'=[]:=List.eq_nil_of_length_eq_zero (by simpa using hl);subst this;exact h
    | cons x hs=>
      cases hs' with
      |nil=>simp at hl
      | cons y hs'=>
        have r0:=hr 0 (by simp);rw[EF,EF]at r0;simp only[gI,Bool.and_eq_true]at h ⊢;obtain⟨s,s0,s1,g⟩:=h;obtain⟨p0,m0⟩:=b2I r0.1 s0;obtain⟨p1,m1⟩:=b2I r0.2 s1;rw[m0,m1]
        exact⟨s,p0,p1,ih hs hs' (i + 1) _ (by simpa using hl) (fun j hj=>by
          have e:=hr (j + 1) (by simpa using hj)
          rw[EE,EE]at e
          exact e) g⟩
theorem bHO {A H H':List R} (h:good A H=true) (hl:H'.length=H.length) (hr:∀ j:Nat,j < H.length→rel (aA H j).f0 (aA H' j).f0∧rel (aA H j).f1 (aA H' j).f1):good A H'=true:=by
  simp only[good,Bool.and_eq_true,decide_eq_true_eq]at h ⊢;exact⟨h.1,by omega,c4W _ A H H' 0 _ hl hr h.2.2⟩
theorem bDI {A H H':List R} (ok:YL A H) {W V:List Int} (hW:L9 A H W) (hV:L9 A H' V) (r:Nat) (hs:∀ j:Nat,r < j→j < A.length→aA H' j=aA H j):∀ (d m:Nat),A.length - d≤m→r < m→m < A.length→rd W (m:Int)=rd V (m:Int):=by
  intro d
  induction d with
  |zero=>intro m h1 h2 h3;omega
  | succ d ih=>
    intro m h1 h2 h3;have f:=ok.fin m h3;have e:∀ h:Int,qL (m:Int) (A.length:Int) h=true→qM W h=qM V h:=by
      intro h he;unfold qM;by_cases h0:h < 0
      · have c:=child he h0
        obtain⟨q,hq⟩:∃ q:Nat,-h=(q:Int):=⟨(-h).toNat,by omega⟩
        rw[if_pos h0,if_pos h0,hq,ih q (by omega) (by omega) (by omega)]
      · rw[if_neg h0,if_neg h0]
    rw[hW m h3,hV m h3,hs m h2 h3,e _ f.1,e _ f.2]
theorem bDJ {A H H':List R} (ok:YL A H) {W V:List Int} (hW:L9 A H W) (hV:L9 A H' V) (r:Nat) (hr:r < A.length) (hs:∀ j:Nat,r < j→j < A.length→aA H' j=aA H j) {h:Int} (he:qL (r:Int) (A.length:Int) h=true):qM V h=qM W h:=by
  unfold qM;by_cases h0:h < 0
  · have c:=child he h0
    obtain⟨q,hq⟩:∃ q:Nat,-h=(q:Int):=⟨(-h).toNat,by omega⟩
    rw[if_pos h0,if_pos h0,hq,bDI ok hW hV r hs A.length q (by omega) (by omega) (by omega)]
  · rw[if_neg h0,if_neg h0]
theorem bAH {s l r w:Int} (hw:w=l + r) (left:Int) (hd:left * w=s * r):(s - left) * r=left * l:=by grind
theorem SA (l:List R) (i j:Nat) (x:R):aA (l.set i x) (j:Int)=if i=j∧j < l.length then x else aA l (j:Int):=by
  simp only[aA,Int.toNat_natCast];exact tL l i j x _
abbrev F:=uG
def Lf (D P:Int) (f:F):Prop:=Lk D P f.f0 f.f1
def VF (D:Int):List Int→List F→Prop
  |[],[]=>True
  |p::ps,f::fs=>Lf D p f∧VF D ps fs
  |_,_=>False
theorem VF.snoc {D p:Int} {f:F}:∀ {ps:List Int} {fs:List F},VF D ps fs→Lf D p f→VF D (ps ++ [p]) (fs ++ [f]):=by
  intro ps
  induction ps with
  | nil=>
    intro fs h hf;cases fs with
    |nil=>exact⟨hf,trivial⟩
    |cons g gs=>exact absurd h (by simp[VF])
  | cons x ps ih=>
    intro fs h hf;cases fs with
    |nil=>exact absurd h (by simp[VF])
    |cons g gs=>exact⟨h.1,ih h.2 hf⟩
def rO:List R→Int
  |[]=>1
  |a::us=>(a.f0 + a.f1) * rO us
def okA (us:List R):Prop:=∀ a ∈ us,(1≤a.f0∧a.f0≤12)∧(1≤a.f1∧a.f1≤12)
def pw:Nat→Int
  |0=>1
  |n + 1=>24 * pw n
theorem cGV (n:Nat) (h:n≤6):pw n≤191102976:=by
  have:n=0∨n=1∨n=2∨n=3∨n=4∨n=5∨n=6:=by omega
  rcases this with rfl|rfl|rfl|rfl|rfl|rfl|rfl <;> simp[pw]
theorem aQM:∀ us:List R,okA us→0 < rO us∧rO us≤pw us.length:=by
  intro us
  induction us with
  |nil=>intro _;simp[rO,pw]
  | cons a us ih=>
    intro h;obtain⟨h1,h2⟩:=ih (fun x hx=>h x (by simp[hx]));obtain⟨h3,h4⟩:=h a (by simp);refine⟨Int.mul_pos (by omega) h1,?_⟩;have m1:(a.f0 + a.f1) * rO us≤24 * rO us:=Int.mul_le_mul_of_nonneg_right (by omega) (by omega);simp only[rO,List.length_cons,pw];omega
theorem bAI {x y:Int} (hx:0 < x∧x≤191102976) (hy:0 < y∧y≤24):0 < x * y∧x * y≤4586471424:=by
  refine⟨Int.mul_pos hx.1 hy.1,?_⟩;have m1:x * y≤x * 24:=Int.mul_le_mul_of_nonneg_left hy.2 (by omega);omega
def aFB (X:List Int) (h v:Int):List Int:=if h < 0 then X.set (-h).toNat v else X
def R6 (Y:List F) (h:Int) (c:Int × Int):List F:=if h < 0 then Y.set (-h).toNat ⟨c.1,c.2⟩else Y
def Z5 (O:List Int) (h v:Int):List Int:=if h < 0 then O else O ++ [v]
def VG (O:List F) (h:Int) (c:Int × Int):List F:=if h < 0 then O else O ++ [⟨c.1,c.2⟩]
theorem aXR (X:List Int) (h v:Int):(aFB X h v).length=X.length:=by unfold aFB;split <;> simp
theorem a2D (Y:List F) (h:Int) (c:Int × Int):(R6 Y h c).length=Y.length:=by unfold R6;split <;> simp
structure Sh (n:Nat) (D Q:Int) (i:Nat) (B:List Bool) (X:List Int) (Y:List F) (O:List Int) (O':List F):Prop where
  lB:B.length=n
  lX:X.length=n
  lY:Y.length=n
  rod:∀ j:Nat,i≤j→j < n→(j=0∨B.getD j false=true)→Lf D (X.getD j 0) (Y.getD j z70)∧Q ∣ X.getD j 0
  leaf:VF D O O'
theorem Sh.next {n i:Nat} {D s Q:Int} {B:List Bool} {X:List Int} {Y:List F} {O:List Int} {O':List F} (o:Sh n D (s * Q) i B X Y O O'):Sh n D Q (i + 1) B X Y O O':=
  ⟨o.lB,o.lX,o.lY,fun j hj hn hb=>by
    obtain⟨a,b⟩:=o.rod j (by omega) hn hb
    exact⟨a,Int.dvd_trans ⟨s,Int.mul_comm s Q⟩ b⟩,o.leaf⟩
theorem Sh.push {n i:Nat} {D Q h v:Int} {c:Int × Int} {B:List Bool} {X:List Int} {Y:List F} {O:List Int} {O':List F} (hs:pG (i:Int) (n:Int) B h=true) (o:Sh n D Q (i + 1) B X Y O O') (hv:Lk D v c.1 c.2) (hq:Q ∣ v):
    Sh n D Q (i + 1) (mark B h) (aFB X h v) (R6 Y h c) (Z5 O h v) (VG O' h c):=by
  by_cases h0:h < 0
  · obtain⟨k1,k2,k3⟩:=PT hs h0
    have e1:=o.lX;have e2:=o.lY;have e3:=o.lB;refine⟨by rw[oU];exact o.lB,by rw[aXR];exact o.lX,by rw[a2D];exact o.lY,?_,?_⟩
    · intro j hj hn hb
      unfold aFB R6;rw[if_pos h0,if_pos h0,tL,tL];by_cases ej:(-h).toNat=j
      · rw[if_pos ⟨ej,by omega⟩,if_pos ⟨ej,by omega⟩]
        exact⟨hv,hq⟩
      · rw[if_neg (by omega),if_neg (by omega)]
        refine o.rod j hj hn ?_;rcases hb with hb|hb
        · exact Or.inl hb
        · unfold mark at hb
          rw[if_pos h0,tL,if_neg (by omega)]at hb;exact Or.inr hb
    · unfold Z5 VG
      rw[if_pos h0,if_pos h0];exact o.leaf
  · have b1:mark B h=B:=by unfold mark;rw[if_neg h0]
    have b2:aFB X h v=X:=by unfold aFB;rw[if_neg h0]
    have b3:R6 Y h c=Y:=by unfold R6;rw[if_neg h0]
    have b4:Z5 O h v=O ++ [v]:=by unfold Z5;rw[if_neg h0]
    have b5:VG O' h c=O' ++ [⟨c.1,c.2⟩]:=by unfold VG;rw[if_neg h0]
    rw[b1,b2,b3,b4,b5];exact⟨o.lB,o.lX,o.lY,o.rod,o.leaf.snoc hv⟩
theorem bDK (k:Nat) (a b:Int) (ha:0≤a) (hb:0≤b) (hk:b.toNat < k):pR.f k a b=some (gd a b):=by
  unfold pR.f gd;have e:=bDC k a.natAbs b.natAbs (by omega);rw[← e];congr 1 <;> omega
theorem cGW (Y O:List F) (i:Nat) (A H:List R) (a h:R) (f:F) (k:Nat) (hA:aA A (i:Int)=a) (hH:aA H (i:Int)=h) (hY:mJ Y (i:Int)=f) (c1:i < Y.length) (c2:i < A.length) (c3:i < H.length)
    (ht:0 < f.f0∧f.f0≤191102976) (hb:0 < f.f1∧f.f1≤191102976) (a0:1≤a.f0∧a.f0≤12) (a1:1≤a.f1∧a.f1≤12) (hk:4586471424 < k) (hu:h.f0 < 0→wrap64 (-h.f0)= -h.f0∧ -h.f0 < (Y.length:Int)) (hO:O.length≤1000):
    dZ.l1 (k + 1) Y O (i:Int) 0 A H=dZ.l1 k (R6 Y h.f0 (cut (f.f0 * a.f1) (f.f1 * (a.f0 + a.f1)))) (VG O h.f0 (cut (f.f0 * a.f1) (f.f1 * (a.f0 + a.f1)))) (i:Int) 1 A H:=by
  have w1:wrap64 (0 + 1)=1:=bW (by omega) (by omega);have m1:=bAI ht (y:=a.f1) ⟨by omega,by omega⟩;have m2:=bAI hb (y:=a.f0 + a.f1) ⟨by omega,by omega⟩;simp only[dZ.l1];rw[if_pos (by decide),if_pos (by omega),if_pos (by omega),if_pos (by omega),if_pos trivial,hA,hY,hH,bW (x:=a.f0 + a.f1) (by omega) (by omega),bW (x:=f.f0 * a.f1) (by omega) (by omega),bW (x:=f.f1 * (a.f0 + a.f1)) (by omega) (by omega)];rw[aXL k _ _ m2.1 (by omega) (by omega) (by omega),Option.bind_some,if_pos (by omega),w1];unfold R6 VG;by_cases c:h.f0 < 0
  · obtain⟨h1,h2⟩:=hu c
    rw[if_pos c,if_pos c,if_pos c,h1,if_pos (by omega),if_pos h2]
  · rw[if_neg c,if_neg c,if_neg c,if_pos (by omega)]
theorem cGX (Y O:List F) (i:Nat) (A H:List R) (a h:R) (f:F) (k:Nat) (hA:aA A (i:Int)=a) (hH:aA H (i:Int)=h) (hY:mJ Y (i:Int)=f) (c1:i < Y.length) (c2:i < A.length) (c3:i < H.length)
    (ht:0 < f.f0∧f.f0≤191102976) (hb:0 < f.f1∧f.f1≤191102976) (a0:1≤a.f0∧a.f0≤12) (a1:1≤a.f1∧a.f1≤12) (hk:4586471424 < k) (hu:h.f1 < 0→wrap64 (-h.f1)= -h.f1∧ -h.f1 < (Y.length:Int)) (hO:O.length≤1000):
    dZ.l1 (k + 1) Y O (i:Int) 1 A H=dZ.l1 k (R6 Y h.f1 (cut (f.f0 * a.f0) (f.f1 * (a.f0 + a.f1)))) (VG O h.f1 (cut (f.f0 * a.f0) (f.f1 * (a.f0 + a.f1)))) (i:Int) 2 A H:=by
  have w2:wrap64 (1 + 1)=2:=bW (by omega) (by omega);have m1:=bAI ht (y:=a.f0) ⟨by omega,by omega⟩;have m2:=bAI hb (y:=a.f0 + a.f1) ⟨by omega,by omega⟩;simp only[dZ.l1];rw[if_pos (by decide),if_pos (by omega),if_pos (by omega),if_pos (by omega),if_neg (by decide),if_pos trivial,hA,hY,hH,bW (x:=a.f0 + a.f1) (by omega) (by omega),bW (x:=f.f0 * a.f0) (by omega) (by omega),bW (x:=f.f1 * (a.f0 + a.f1)) (by omega) (by omega)];rw[aXL k _ _ m2.1 (by omega) (by omega) (by omega),Option.bind_some,if_pos (by omega),w2];unfold R6 VG;by_cases c:h.f1 < 0
  · obtain⟨h1,h2⟩:=hu c
    rw[if_pos c,if_pos c,if_pos c,h1,if_pos (by omega),if_pos h2]
  · rw[if_neg c,if_neg c,if_neg c,if_pos (by omega)]
theorem aDG (O:List Int) (h v:Int) (hh:h < 0∨0 < h):(Z5 O h v).length=nx O.length h:=by
  unfold Z5 nx;by_cases c:h < 0
  · rw[if_pos c,if_neg (by omega)]
  · rw[if_neg c,if_pos (by omega)]
    simp
theorem VF.each {D:Int}:∀ {ps:List Int} {fs:List F},VF D ps fs→∀ x ∈ ps,0 < x∧x≤D:=by
  intro ps
  induction ps with
  |nil=>intro fs h x hx;cases hx
  | cons y ps ih=>
    intro fs h x hx;cases fs with
    |nil=>exact absurd h (by simp[VF])
    | cons g gs=>
      rcases List.mem_cons.1 hx with rfl|hx
      · exact⟨h.1.1,h.1.2.1⟩
      · exact ih h.2 x hx
theorem bHP {n i:Nat} {B:List Bool} {Y:List F} {h:Int} {c:Int × Int} (hs:pG (i:Int) (n:Int) B h=true):mJ (R6 Y h c) (i:Int)=mJ Y (i:Int):=by
  unfold R6;by_cases h0:h < 0
  · obtain⟨k1,k2,k3⟩:=PT hs h0
    rw[if_pos h0];show(Y.set (-h).toNat _).getD i z70=Y.getD i z70
    rw[tL,if_neg (by omega)]
  · rw[if_neg h0]
theorem bDL {i n:Int} {B:List Bool} {h:Int} (hs:pG i n B h=true) (hi:0≤i):h < 0∨0 < h:=by
  simp only[pG,iT,Bool.or_eq_true,Bool.and_eq_true,decide_eq_true_eq]at hs;omega
theorem aQN (O2:List (Int × Int)) (h v:Int):(puo O2 h v).map (fun x=>x.1)=Z5 (O2.map (fun x=>x.1)) h v:=by
  unfold puo Z5
  split <;> simp
theorem run {A H:List R} (ok:YL A H) {D:Int} (hD:0 < D∧D≤191102976):∀ (us hs pA q:List R) (i:Nat) (B:List Bool) (X:List Int) (Y:List F) (O:List Int) (O':List F),us.length=hs.length→A=pA ++ us→pA.length=i→H=q ++ hs→q.length=i→okA us→
    gI (A.length:Int) (i:Int) us hs B=true→Sh A.length D (rO us) i B X Y O O'→O.length≤2 * i→O'.length≤2 * i→∀ O2:List (Int × Int),O=O2.map (fun x=>x.1)→
    ∃ (P:List Int) (Fs:List F),P=(po pa0 pa1 i us hs X O2).map (fun x=>x.1)∧VF D P Fs∧P.length=O.length + cnt hs∧Fs.length≤2 * A.length∧∀ k,4 * us.length + 5000000000 < k→dZ.l0 k Y O' (i:Int) A H=some Fs:=by
  have o1:=ok.len;have o2:=ok.same;intro us
  induction us with
  | nil=>
    intro hs pA q i B X Y O O' hl hA hpA hH hq hok hg o hO hO' O2 hO2;have:hs=[]:=List.eq_nil_of_length_eq_zero (by simpa using hl.symm);subst this;have hi:i=A.length:=by rw[hA,← hpA];simp
    refine⟨O,O',by rw[hO2];simp[po],o.leaf,by simp[cnt],by omega,fun k hk=>?_⟩;obtain⟨k,rfl⟩:∃ m,k=m + 1:=⟨k - 1,by omega⟩
    have ea:=o.leaf.each;simp only[dZ.l0];rw[if_neg (by omega)]
  | cons a us ih=>
    intro hs pA q i B X Y O O' hl hA hpA hH hq hok hg o hO hO' O2 hO2;cases hs with
    |nil=>simp at hl
    | cons x hs=>
      have hlen:A.length=i + us.length + 1:=by rw[hA,← hpA];simp;omega
      have hxA:aA A (i:Int)=a:=by rw[hA,← hpA];exact VA pA us a
      have hxH:aA H (i:Int)=x:=by rw[hH,← hq];exact VA q hs x
      have known:i=0∨B.getD i false=true:=by
        rcases Nat.eq_zero_or_pos i with h0|h0
        · exact Or.inl h0
        · exact Or.inr (aPG (A.length:Int) (a::us) (x::hs) i B hl hg i h0 (Nat.le_refl _) (by have:=o.lB;omega))
      simp only[gI,Bool.and_eq_true]at hg;obtain⟨_,s0,s1,g⟩:=hg;obtain⟨aa0,aa1⟩:=hok a (by simp);have hok2:okA us:=fun y hy=>hok y (by simp[hy])
      have f:=ok.fin i (by omega);rw[hxH]at f;have ends:∀ h:Int,qL (i:Int) (A.length:Int) h=true→h < 0→wrap64 (-h)= -h∧ -h < (A.length:Int):=fun h he h0=>by
        have ch:=child he h0;exact⟨bW (by omega) (by omega),by omega⟩
      have lX:=o.lX;have lY:=o.lY;obtain⟨lk,dv⟩:=o.rod i (Nat.le_refl _) (by omega) known;have hle:=Lk.le lk;have hP1:=lk.1;have hP2:=lk.2.1;have ht0:=lk.2.2.1;have hb0:=lk.2.2.2.1;simp only[rO]at dv o;have ch1:=aXM (o:=a.f1) (R:=rO us) lk (show 0 < a.f0 + a.f1 by omega) (by omega) (by omega) dv;have ch0:=aXM (o:=a.f0) (R:=rO us) lk (show 0 < a.f0 + a.f1 by omega) (by omega) (by omega) dv;have o2:=(o.next).push s0 ch1.1 ch1.2;have o3:=o2.push s1 ch0.1 ch0.2;have hxX:rd X (i:Int)=X.getD i 0:=rfl;have hxY:mJ Y (i:Int)=Y.getD i z70:=rfl;generalize hPX:X.getD i 0=P at *;generalize Y.getD i z70=fr at *;have l1:=aDG O x.f0 (P / (a.f0 + a.f1) * a.f1) (bDL s0 (by omega));have l2:=aDG (Z5 O x.f0 (P / (a.f0 + a.f1) * a.f1)) x.f1 (P / (a.f0 + a.f1) * a.f0) (bDL s1 (by omega));rw[l1]at l2;have n1:=zP (nx O.length x.f0) x.f1;have n2:=zP O.length x.f0;have n3:=zP (nx 0 x.f0) x.f1;have n4:∀ h,nx 0 h≤1:=fun h=>by unfold nx;split <;> omega
      have n5:=n4 x.f0;have n6:=n4 x.f1;have pF:∀ (V:List F) (h:Int) (c:Int × Int),(VG V h c).length≤V.length + 1:=fun V h c=>by unfold VG;split <;> simp
      have p1:=pF O' x.f0 (cut (fr.f0 * a.f1) (fr.f1 * (a.f0 + a.f1)));have p2:=pF (VG O' x.f0 (cut (fr.f0 * a.f1) (fr.f1 * (a.f0 + a.f1)))) x.f1 (cut (fr.f0 * a.f0) (fr.f1 * (a.f0 + a.f1)));obtain⟨Pf,Fs,h0,h1,h2,h3,h4⟩:=ih hs (pA ++ [a]) (q ++ [x]) (i + 1) _ _ _ _ _ (by simpa using hl) (by rw[hA];simp) (by simp[hpA]) (by rw[hH];simp) (by simp[hq]) hok2 g o3 (by omega) (by omega) (puo (puo O2 x.f0 (P / (a.f0 + a.f1) * a.f1)) x.f1 (P / (a.f0 + a.f1) * a.f0)) (by rw[aQN,aQN,hO2]);refine⟨Pf,Fs,by rw[h0];simp only[po,pa0,pa1,hPX];rfl,h1,by rw[h2,l2];simp only[cnt];omega,h3,fun k hk=>?_⟩;simp only[List.length_cons]at hk;obtain⟨k,rfl⟩:∃ m,k=m + 4:=⟨k - 4,by omega⟩
      have e1:=h4 k (by omega);have ws:wrap64 (a.f0 + a.f1)=a.f0 + a.f1:=bW (by omega) (by omega);have q0:0≤P / (a.f0 + a.f1):=Int.ediv_nonneg (by omega) (by omega);have q1:P / (a.f0 + a.f1)≤P:=Int.ediv_le_self _ (by omega)
      rw[show dZ.l0 (k + 4) Y O' (i:Int) A H=dZ.l1 (k + 3) Y O' (i:Int) 0 A H from by
        simp only[dZ.l0]
        rw[if_pos (by omega)]]
      rw[cGW Y O' i A H a x fr (k + 2) hxA hxH hxY (by omega) (by omega) (by omega) ⟨ht0,by omega⟩ ⟨hb0,by omega⟩ aa0 aa1 (by omega) (by rw[lY];exact ends _ f.1) (by omega)];rw[cGX _ _ i A H a x fr (k + 1) hxA hxH ((bHP s0).trans hxY) (by rw[a2D];omega) (by omega) (by omega) ⟨ht0,by omega⟩ ⟨hb0,by omega⟩ aa0 aa1 (by omega) (by rw[a2D,lY];exact ends _ f.2) (by omega)];simp only[dZ.l1];rw[if_neg (by decide),bW (x:=(i:Int) + 1) (by omega) (by omega)];exact e1
def fq (L:Int) (f:F):Int:=qOf L f.f0 f.f1
theorem rdF (p s:List F) (x:F):mJ (p ++ x::s) ((p.length:Int))=x:=by
  simp[mJ]
theorem cV2 {D:Int} (hD:0 < D∧D≤191102976):∀ (s p:List F) (L:Int),(p ++ s).length≤1000→0 < L→L ∣ D→(∀ f ∈ s,0 < f.f1∧f.f1 ∣ D)→
    ∃ L':Int,0 < L'∧L' ∣ D∧L ∣ L'∧(∀ f ∈ s,f.f1 ∣ L')∧∀ K k:Nat,K=k + s.length + 1→191102976 < k→bU.l0 K (p ++ s) L (p.length:Int)=bU.l1 k (p ++ s) L' [] 0 0:=by
  intro s
  induction s with
  | nil=>
    intro p L hl hL hLD hs;refine⟨L,hL,hLD,Int.dvd_refl _,fun f hf=>(by cases hf),fun K k hK hk=>?_⟩;subst hK;simp only[bU.l0,List.length_nil,Nat.add_zero];rw[if_neg (by simp)]
  | cons f s ih=>
    intro p L hl hL hLD hs;obtain⟨hb,hbD⟩:=hs f (by simp);obtain⟨m0,m1,m2,m3⟩:=bHM hL hb hLD hbD;obtain⟨L',h1,h2,h3,h4,h5⟩:=ih (p ++ [f]) (L / gd L f.f1 * f.f1) (by simpa using hl) m0 m1 (fun g hg=>hs g (by simp[hg]));have bL:=Int.le_of_dvd hD.1 hLD;have bb:=Int.le_of_dvd hD.1 hbD;have bm:=Int.le_of_dvd hD.1 m1;have gp:=XX (a:=L) hb;have q0:0≤L / gd L f.f1:=Int.ediv_nonneg (by omega) (by omega);have q1:L / gd L f.f1≤L:=Int.ediv_le_self _ (by omega);refine⟨L',h1,h2,Int.dvd_trans m2 h3,?_,fun K k hK hk=>?_⟩
    · intro g hg
      rcases List.mem_cons.1 hg with rfl|hg
      · exact Int.dvd_trans m3 h3
      · exact h4 g hg
    · obtain⟨K,rfl⟩:∃ m,K=m + 1:=⟨K - 1,by omega⟩
      simp only[List.length_cons]at hK;have e:=h5 K k (by omega) hk;simp only[bU.l0];rw[if_pos (by simp;omega),if_pos (by omega),rdF,bDK K _ _ (by omega) (by omega) (by omega),Option.bind_some,if_neg (by omega),Int.tdiv_eq_ediv_of_nonneg (by omega),bW (x:=L / gd L f.f1) (by omega) (by omega),bW (x:=L / gd L f.f1 * f.f1) (by omega) (by omega),FJ p f (by simp at hl;omega),List.append_cons p f s];exact e
theorem aPJ (a b:Int):rW.f a b=some (mx a b):=by
  unfold rW.f mx;(repeat' split) <;> (first|rfl|omega|(congr 1;omega))
theorem bHQ (a b:Int):KG.f a b=some (mn a b):=by
  unfold KG.f mn;(repeat' split) <;> (first|rfl|omega|(congr 1;omega))
theorem bU0 (a b:Int):gd (mx a b) (mn a b)=gd a b:=by
  unfold gd mx mn;(repeat' split) <;> (first|rfl|omega|(rw[Nat.gcd_comm];done)|(have e_:a=b:=(by omega);subst e_;rfl))
theorem cV3 {D L:Int} (hD:0 < D∧D≤191102976):∀ (s p:List F) (Q:List Int) (c:Int),(p ++ s).length≤1000→Q.length=p.length→0≤c→(c≤191102976)→(∀ f ∈ s,0 < f.f1∧f.f1 ∣ L∧0 < f.f0∧0 < fq L f∧fq L f≤D)→0 < L→L≤D→
    ∀ K k:Nat,K=k + s.length + 1→191102976 < k→bU.l1 K (p ++ s) L Q c (p.length:Int)=bU.l2 k (Q ++ s.map (fq L)) (gA (s.map (fq L)) c) 0:=by
  intro s
  induction s with
  | nil=>
    intro p Q c hl hQ hc hc2 hs hL hLD K k hK hk;subst hK;simp only[bU.l1,List.length_nil,Nat.add_zero];rw[if_neg (by simp)];simp[gA]
  | cons f s ih=>
    intro p Q c hl hQ hc hc2 hs hL hLD K k hK hk;obtain⟨K,rfl⟩:∃ m,K=m + 1:=⟨K - 1,by omega⟩
    simp only[List.length_cons]at hK;obtain⟨hb,hbL,ht,hq,hqD⟩:=hs f (by simp);have q0:0≤L / f.f1:=Int.ediv_nonneg (by omega) (by omega);have q1:L / f.f1≤L:=Int.ediv_le_self _ (by omega);have hfl:L / f.f1 * f.f0=fq L f:=rfl;have gn:0≤gd c (fq L f):=by unfold gd;omega
    have gle:gd c (fq L f)≤191102976:=by
      have:=Int.le_of_dvd hq (a2A c (fq L f)).2;omega
    have hr:rd (Q ++ [fq L f]) (p.length:Int)=fq L f:=by rw[← hQ];simp[rd]
    have e:=ih (p ++ [f]) (Q ++ [fq L f]) (gd c (fq L f)) (by simpa using hl) (by simp[hQ]) gn gle (fun g hg=>hs g (by simp[hg])) hL hLD K k (by omega) hk;simp only[bU.l1];rw[if_pos (by simp;omega),if_pos (by omega),rdF,if_neg (by omega),if_pos (by simp at hl;omega),Option.bind_some,Int.tdiv_eq_ediv_of_nonneg (by omega),bW (x:=L / f.f1) (by omega) (by omega),hfl,bW (x:=fq L f) (by omega) (by omega)];rw[if_pos (by simp[hQ];omega),hr,aPJ,Option.bind_some,bHQ,Option.bind_some,bDK K _ _ (by unfold mx;split <;> omega) (by unfold mn;split <;> omega) (by unfold mn;split <;> omega),Option.bind_some,bU0,FJ p f (by simp at hl;omega),List.append_cons p f s,e];simp[gA]
def VH (l:List Int):Bool:=l.any (fun x=>decide (x > 99))
theorem cV4 (g:Int):∀ (s p:List Int) (K:Nat),(p ++ s).length≤1000→s.length < K→(∀ x ∈ s,0 < x∧x≤191102976)→(s ≠ []→0 < g)→
    bU.l2 K (p ++ s) g (p.length:Int)=some (if VH (s.map (fun x=>x / g))=true then([],false)else(p ++ s.map (fun x=>x / g),true)):=by
  intro s
  induction s with
  | nil=>
    intro p K hl hK hb hg;obtain⟨K,rfl⟩:∃ m,K=m + 1:=⟨K - 1,by simp at hK;omega⟩
    simp only[bU.l2];rw[if_neg (by simp)];rfl
  | cons x s ih=>
    intro p K hl hK hb hg;obtain⟨K,rfl⟩:∃ m,K=m + 1:=⟨K - 1,by simp at hK;omega⟩
    have g0:=hg (by simp);have x0:=hb x (by simp);have d0:0≤x / g:=Int.ediv_nonneg (by omega) (by omega);have d1:x / g≤x:=Int.ediv_le_self _ (by omega);have hn:((p.length:Nat):Int).toNat=p.length:=by omega
    have hs:(p ++ x::s).set p.length (x / g)=p ++ x / g::s:=by rw[List.set_append_right _ _ (Nat.le_refl _),Nat.sub_self,List.set_cons_zero]
    simp only[bU.l2];rw[if_pos (by simp;omega),if_pos (by omega),if_neg (by omega),rdI,Int.tdiv_eq_ediv_of_nonneg (by omega),bW (x:=x / g) (by omega) (by omega),hn,hs,Option.bind_some,rdI];by_cases big:x / g > 99
    · rw[if_pos big,if_pos (by simp[VH,big])]
    · have e:=ih (p ++ [x / g]) K (by simpa using hl) (by simp at hK;omega) (fun y hy=>hb y (by simp[hy])) (fun _=>g0)
      rw[if_neg big,FJ p (x / g) (by simp at hl;omega),List.append_cons p (x / g) s,e];have:VH (List.map (fun x=>x / g) (x::s))=VH (s.map (fun x=>x / g)):=by simp[VH,big]
      rw[this];simp
theorem bDM {A H:List R} (ok:YL A H):okA A:=by
  intro a ha;obtain⟨i,hi,rfl⟩:=List.mem_iff_getElem.1 ha;have f:=ok.arm i hi;have e:aA A (i:Int)=A[i]:=by
    simp only[aA,Int.toNat_natCast];rw[List.getD_eq_getElem?_getD,List.getElem?_eq_getElem hi];rfl
  rw[e]at f;simp only[xG,decide_eq_true_eq]at f;exact f
theorem VF.q {D L:Int} (hL:0 < L) (hD:L ∣ D):∀ {ps:List Int} {fs:List F},VF D ps fs→(∀ f ∈ fs,f.f1 ∣ L)→(fs.map (fq L)).map (fun x=>D * x)=ps.map (fun x=>L * x)∧∀ f ∈ fs,0 < f.f1∧f.f1 ∣ D∧0 < f.f0∧0 < fq L f∧fq L f≤D:=by
  intro ps
  induction ps with
  | nil=>
    intro fs h _;cases fs with
    |nil=>exact⟨rfl,fun f hf=>(by cases hf)⟩
    |cons g gs=>exact absurd h (by simp[VF])
  | cons x ps ih=>
    intro fs h hs;cases fs with
    |nil=>exact absurd h (by simp[VF])
    | cons g gs=>
      obtain⟨e1,e2⟩:=ih h.2 (fun f hf=>hs f (by simp[hf]));obtain⟨q1,q2,q3⟩:=c4U h.1 hL hD (hs g (by simp));refine⟨?_,?_⟩
      · simp only[List.map_cons]
        rw[e1];congr 1
      · intro f hf
        rcases List.mem_cons.1 hf with rfl|hf
        · exact⟨h.1.2.2.2.1,h.1.2.2.2.2.1,h.1.2.2.1,q2,q3⟩
        · exact e2 f hf
theorem VF.d {D:Int}:∀ {ps:List Int} {fs:List F},VF D ps fs→(∀ f ∈ fs,0 < f.f1∧f.f1 ∣ D)∧ps.length=fs.length:=by
  intro ps
  induction ps with
  | nil=>
    intro fs h;cases fs with
    |nil=>exact⟨fun f hf=>(by cases hf),rfl⟩
    |cons g gs=>exact absurd h (by simp[VF])
  | cons x ps ih=>
    intro fs h;cases fs with
    |nil=>exact absurd h (by simp[VF])
    | cons g gs=>
      obtain⟨e1,e2⟩:=ih h.2;refine⟨?_,by simp[e2]⟩;intro f hf;rcases List.mem_cons.1 hf with rfl|hf
      · exact⟨h.1.2.2.2.1,h.1.2.2.2.2.1⟩
      · exact e1 f hf
theorem bU1 (c x:Int):gd c x ∣ c∧gd c x ∣ x:=a2A c x
theorem c4Z:∀ (l:List Int) (c:Int),gA l c ∣ c∧∀ x ∈ l,gA l c ∣ x:=by
  intro l
  induction l with
  |nil=>intro c;exact⟨Int.dvd_refl _,fun x hx=>by cases hx⟩
  | cons x l ih=>
    intro c;obtain⟨h1,h2⟩:=ih (gd c x);have g:=bU1 c x;refine⟨Int.dvd_trans h1 g.1,fun y hy=>?_⟩;rcases List.mem_cons.1 hy with rfl|hy
    · exact Int.dvd_trans h1 g.2
    · exact h2 y hy
theorem bDN (n:Nat):∀ (us hs:List R) (i:Nat) (B:List Bool) (X:List Int),us.length=hs.length→n=B.length→n=X.length→i + us.length=n→gI (n:Int) (i:Int) us hs B=true→okA us→
    (∀ j:Nat,i≤j→j < n→(j=0∨B.getD j false=true)→0 < X.getD j 0∧rO us ∣ X.getD j 0)→
    ∀ m:Nat,m < us.length→(aA us m).f0 + (aA us m).f1 ∣ (pf pa0 pa1 i us hs X).getD (i + m) 0∧0 < (pf pa0 pa1 i us hs X).getD (i + m) 0:=by
  intro us
  induction us with
  |nil=>intro hs i B X _ _ _ _ _ _ _ m hm;simp at hm
  | cons a us ih=>
    intro hs i B X hl hB hX hn hg hok hx m hm;cases hs with
    |nil=>simp at hl
    | cons x hs=>
      have law:=(aXQ pa0 pa1 n (a::us) (x::hs) i B X [] hl hB hX hg).1 i (Or.inl (Nat.le_refl i));simp only[List.length_cons]at hn;have known:i=0∨B.getD i false=true:=by
        rcases Nat.eq_zero_or_pos i with h0|h0
        · exact Or.inl h0
        · exact Or.inr (aPG (n:Int) (a::us) (x::hs) i B hl hg i h0 (Nat.le_refl _) (by omega))
      simp only[gI,Bool.and_eq_true]at hg;obtain⟨_,s0,s1,g⟩:=hg;obtain⟨aa0,aa1⟩:=hok a (by simp);have hok2:okA us:=fun y hy=>hok y (by simp[hy])
      obtain⟨px,dx⟩:=hx i (Nat.le_refl _) (by omega) known;obtain⟨t,ht⟩:=dx;simp only[rO]at ht;have pr:=(aQM us hok2).1;cases m with
      | zero=>
        rw[EF,Nat.add_zero,law];exact⟨⟨rO us * t,by rw[ht,Int.mul_assoc]⟩,px⟩
      | succ m=>
        rw[EE,show i + (m + 1)=i + 1 + m from by omega];simp only[pf];have q:X.getD i 0 / (a.f0 + a.f1)=rO us * t:=by
          rw[ht,Int.mul_assoc];exact Int.mul_ediv_cancel_left _ (by omega)
        have qp:0 < rO us * t:=by
          rw[ht,Int.mul_assoc]at px;exact VC (by omega) px
        have v0:0 < pa0 (X.getD i 0) a∧rO us ∣ pa0 (X.getD i 0) a:=by
          unfold pa0;rw[q];exact⟨Int.mul_pos qp (by omega),⟨t * a.f1,by rw[Int.mul_assoc]⟩⟩
        have v1:0 < pa1 (X.getD i 0) a∧rO us ∣ pa1 (X.getD i 0) a:=by
          unfold pa1;rw[q];exact⟨Int.mul_pos qp (by omega),⟨t * a.f0,by rw[Int.mul_assoc]⟩⟩
        have step:∀ (C:List Bool) (Y:List Int) (h v:Int),n=Y.length→pG (i:Int) (n:Int) C h=true→(0 < v∧rO us ∣ v)→(∀ j:Nat,i + 1≤j→j < n→(j=0∨C.getD j false=true)→0 < Y.getD j 0∧rO us ∣ Y.getD j 0)→
            ∀ j:Nat,i + 1≤j→j < n→(j=0∨(mark C h).getD j false=true)→0 < (VK Y h v).getD j 0∧rO us ∣ (VK Y h v).getD j 0:=by
          intro C Y h v hY hs hv hc j h1 h2 h3;unfold VK;by_cases h0:h < 0
          · rw[if_pos h0,tL]
            by_cases e:(-h).toNat=j∧j < Y.length
            · rw[if_pos e];exact hv
            · rw[if_neg e]
              refine hc j h1 h2 ?_;rcases h3 with h3|h3
              · exact Or.inl h3
              · unfold mark at h3
                rw[if_pos h0,tL,if_neg (by omega)]at h3;exact Or.inr h3
          · rw[if_neg h0]
            unfold mark at h3;rw[if_neg h0]at h3;exact hc j h1 h2 h3
        refine ih hs (i + 1) (mark (mark B x.f0) x.f1) _ (by simpa using hl) (by rw[oU,oU];exact hB) (by rw[VE,VE];exact hX) (by omega) g hok2 (step _ _ _ _ (by rw[VE];exact hX) s1 v1 (step _ _ _ _ hX s0 v0 (fun j h1 h2 h3=>?_))) m (by simpa using hm);have e:=hx j (by omega) h2 h3;exact⟨e.1,Int.dvd_trans ⟨a.f0 + a.f1,by simp only[rO];rw[Int.mul_comm]⟩ e.2⟩
structure bHR (A H:List R) (w:List Int):Prop where
  good:good A H=true
  ok:∀ x ∈ w,iT x=true
  parts:∃ (Z:List Int) (g:Int),Parts A H Z∧0 < g∧(∀ x ∈ fl pa0 pa1 Z 0 A H,g ∣ x.1)∧w=(fl pa0 pa1 Z 0 A H).map (fun x=>x.1 / g)
theorem cGY {A H:List R} (h:good A H=true) (D0:0 < rO A) {P:List Int} {D:Int} (h0:P=(po pa0 pa1 0 A H ((List.replicate A.length 0).set 0 (rO A)) []).map (fun x=>x.1)) (each:∀ x ∈ P,0 < x∧x≤D) (Pne:P ≠ []) (big:¬ VH (P.map (fun x=>x / gA P 0))=true):bHR A H (P.map (fun x=>x / gA P 0)):=by
  have ok:=uN h;have o1:=ok.len;have o2:=ok.same;have g:=h;simp only[good,Bool.and_eq_true,decide_eq_true_eq]at g;have law:=aXQ pa0 pa1 A.length A H 0 _ ((List.replicate A.length 0).set 0 (rO A)) [] o2.symm (by simp) (by simp) g.2.2
  have pr:=bDN A.length A H 0 _ ((List.replicate A.length 0).set 0 (rO A)) o2.symm (by simp) (by simp) (by simp) g.2.2 (bDM ok) (fun j _ hj hb=>by
    rcases hb with rfl|hb
    · rw[tL,if_pos ⟨rfl,by simp;omega⟩]
      exact⟨D0,Int.dvd_refl _⟩
    · simp[List.getD_eq_getElem?_getD,List.getElem?_replicate,hj]at hb)
  generalize pf pa0 pa1 0 A H ((List.replicate A.length 0).set 0 (rO A))=Z at law pr;obtain⟨_,l2,l3,l4⟩:=law;rw[List.nil_append]at l3;rw[l3]at h0;have gp:=b2D P (fun x hx=>(each x hx).1) Pne;have gd:=(c4Z P 0).2;have zz:∀ i:Nat,Z.getD i 0=rd Z (i:Int):=fun i=>by simp[rd]
  refine⟨h,?_,Z,gA P 0,⟨l4,fun i hi=>?_,fun i hi=>?_,fun i hi=>?_⟩,gp,fun x hx=>?_,?_⟩
  · intro x hx
    obtain⟨y,hy,rfl⟩:=List.mem_map.1 hx;have e:=each y hy;obtain⟨t,ht⟩:=gd y hy
    have b:¬ y / gA P 0 > 99:=fun hb=>big (by
      unfold VH
      rw[List.any_eq_true]
      exact⟨_,hx,by simpa using hb⟩)
    have q:y / gA P 0=t:=by
      rw[ht];exact Int.mul_ediv_cancel_left _ (by omega)
    have tp:0 < t:=by
      have e1:=e.1;rw[ht]at e1;exact VC gp e1
    simp only[iT,decide_eq_true_eq];omega
  · have e:=l2 i hi
    rw[Nat.zero_add,zz]at e;exact e
  · have e:=(pr i hi).1
    rw[Nat.zero_add,zz]at e;exact e
  · have e:=(pr i hi).2
    rw[Nat.zero_add,zz]at e;exact e
  · exact gd x.1 (by rw[h0];exact List.mem_map.2 ⟨x,hx,rfl⟩)
  · rw[h0,List.map_map]
    rfl
theorem bU2 (A H:List R) (hb:A.length + H.length≤1048576) (hw:TE H):∃ r:List Int × Bool,r.1.length≤100∧(r.2=true→bHR A H r.1)∧∀ k,6000000000≤k→bU.f k A H=some r∧True:=by
  by_cases h:good A H=true
  · have ok:=uN h
    have o1:=ok.len;have o2:=ok.same;have hc:=S9 h;have hok:=bDM ok;obtain⟨D0,D1⟩:=aQM A hok;have D2:=cGV A.length (by omega);have g:=h;simp only[good,Bool.and_eq_true,decide_eq_true_eq]at g;have sh:Sh A.length (rO A) (rO A) 0 (List.replicate A.length false) ((List.replicate A.length 0).set 0 (rO A)) ((List.replicate A.length z70).set 0 ⟨1,1⟩) [] []:=by
      refine⟨by simp,by simp,by simp,?_,trivial⟩;intro j _ hj hb;rcases hb with rfl|hb
      · rw[tL,tL,if_pos ⟨rfl,by simp;omega⟩,if_pos ⟨rfl,by simp;omega⟩]
        exact⟨⟨D0,Int.le_refl _,by show(0:Int) < 1;omega,by show(0:Int) < 1;omega,⟨rO A,by show rO A=1 * rO A;omega⟩,rfl⟩,Int.dvd_refl _⟩
      · simp[List.getD_eq_getElem?_getD,List.getElem?_replicate,hj]at hb
    obtain⟨P,Fs,h0,h1,h2,h3,h4⟩:=run ok (D:=rO A) ⟨D0,by omega⟩ A H [] [] 0 _ _ _ [] [] o2.symm rfl rfl rfl rfl hok g.2.2 sh (by simp) (by simp) [] rfl;obtain⟨fd,fl2⟩:=h1.d;simp only[List.length_nil,Nat.zero_add]at h2;have each:=h1.each;have Pne:P ≠ []:=fun e=>by rw[e]at h2;simp at h2;omega
    obtain⟨L,L0,LD,_,Lf2,Ls⟩:=cV2 (D:=rO A) ⟨D0,by omega⟩ Fs [] 1 (by simp;omega) (by omega) ⟨rO A,by omega⟩ fd;obtain⟨eq,eb⟩:=h1.q L0 LD Lf2;have low:=lowest D0 L0 P (Fs.map (fq L)) eq;have LleD:=Int.le_of_dvd D0 LD;have Qne:Fs.map (fq L) ≠ []:=fun e=>by
      have:(Fs.map (fq L)).length=0:=by rw[e];rfl
      rw[List.length_map]at this;omega
    have Qpos:∀ x ∈ Fs.map (fq L),0 < x∧x≤191102976:=by
      intro x hx;obtain⟨f,hf,rfl⟩:=List.mem_map.1 hx;have:=eb f hf;omega
    have gQ:=b2D (Fs.map (fq L)) (fun x hx=>(Qpos x hx).1) Qne;refine⟨if VH (P.map (fun x=>x / gA P 0))=true then([],false)else(P.map (fun x=>x / gA P 0),true),by split <;> simp;omega,?_,fun k hk=>⟨?_,trivial⟩⟩
    · intro hr
      by_cases big:VH (P.map (fun x=>x / gA P 0))=true
      · rw[if_pos big]at hr;cases hr
      · rw[if_neg big]
        exact cGY h D0 h0 each Pne big
    · unfold bU.f dZ.f
      rw[qG A H _ hw (by omega),Option.bind_some,if_pos h,if_pos (by omega),if_pos (by omega),Option.bind_some,if_pos (by simp;omega)];have e:=h4 k (by omega);rw[show((0:Int)).toNat=0 from rfl,Int.toNat_natCast];simp only[Int.natCast_zero]at e;rw[e,Option.bind_some];have e2:=Ls k (k - Fs.length - 1) (by omega) (by omega);simp only[List.nil_append,List.length_nil,Int.natCast_zero]at e2;rw[e2];have e3:=cV3 (D:=rO A) (L:=L) ⟨D0,by omega⟩ Fs [] [] 0 (by simp;omega) rfl (by omega) (by omega) (fun f hf=>by have:=eb f hf;exact⟨this.1,Lf2 f hf,this.2.2.1,this.2.2.2.1,this.2.2.2.2⟩) L0 LleD (k - Fs.length - 1) (k - Fs.length - 1 - Fs.length - 1) (by omega) (by omega);simp only[List.nil_append,List.length_nil,Int.natCast_zero]at e3;rw[e3];have e4:=cV4 (gA (Fs.map (fq L)) 0) (Fs.map (fq L)) [] (k - Fs.length - 1 - Fs.length - 1) (by simp;omega) (by simp;omega) Qpos (fun _=>gQ);simp only[List.nil_append,List.length_nil,Int.natCast_zero]at e4;rw[e4,low]
  · refine⟨([],false),by simp,fun hr=>(by cases hr),fun k hk=>?_⟩
    simp(disch:=omega) only[bU.f,qG A H _ hw,h,Option.bind_some,if_false,Bool.false_eq_true,and_self]
theorem c52 (x:Int):0≤IntKind.u64.wrap x∧IntKind.u64.wrap x < 18446744073709551616:=by
  simp[IntKind.wrap,IntKind.bits,IntKind.signed];omega
theorem wraps_u64 (n:Int) (h0:0≤n) (h1:n < 2 ^ 64):IntKind.u64.wrap n=n:=by
  simp[IntKind.wrap,IntKind.bits,IntKind.signed];omega
theorem c54 (x:Int) (h0:0≤x) (h1:x < 18446744073709551616):0≤Go.bits .and .u64 x 255∧Go.bits .and .u64 x 255≤255:=by
  have e:Go.bits .and .u64 x 255=x % 256:=Go.bits_mask .u64 64 (by decide) wraps_u64 8 (by decide) x h0 h1;rw[e];omega
theorem c56 (x:Int):0≤wrap64 (Go.bits .and .u64 (IntKind.u64.wrap x / 1099511627776) 255)∧wrap64 (Go.bits .and .u64 (IntKind.u64.wrap x / 1099511627776) 255)≤255:=by
  have h:=c52 x;have b:=c54 (IntKind.u64.wrap x / 1099511627776) (by omega) (by omega);rw[bW (by omega) (by omega)];exact b
def Bytes (C:List Int):Prop:=∀ x ∈ C,0≤x∧x≤255
theorem bHS {C:List Int} (h:∀ x ∈ C,(Lit.int .u8 x).wf=true):Bytes C:=fun x hx=>by
  have:=h x hx;simp[Lit.wf,IntKind.min,IntKind.max,IntKind.signed,IntKind.bits]at this;omega
theorem bU3 {C:List Int} (hC:Bytes C) (p s:Int) (h0:0≤p) (h1:p≤1000000000):∃ b s',kP.f C p s=some (b,p + 1,s')∧0≤b∧b≤255:=by
  unfold kP.f;rw[bW (x:=p + 1) (by omega) (by omega)];by_cases c:p < (C.length:Int)
  · have hm:rd C p ∈ C:=by
      have hl:p.toNat < C.length:=by omega
      simp only[rd];rw[List.getD_eq_getElem?_getD,List.getElem?_eq_getElem hl];exact List.getElem_mem hl
    have hb:=hC _ hm;rw[if_pos c,if_pos h0,if_pos (by omega),bW (x:=rd C p) (by omega) (by omega)];exact⟨_,_,rfl,hb⟩
  · rw[if_neg c]
    by_cases c2:p + 1≤(C.length:Int)
    · omega
    · rw[if_neg c2]
      exact⟨_,_,rfl,c56 _⟩
theorem yO {C:List Int} (hC:Bytes C) (p s n:Int) (h0:0≤p) (h1:p≤1000000000) (hn:n≤200):∃ x p' s',bD.f C p s n=some (x,p',s')∧p≤p'∧p'≤p + 1∧0≤x∧(x < n∨x=0):=by
  unfold bD.f;by_cases c:n≤1
  · rw[if_pos c]
    exact⟨0,p,s,rfl,by omega,by omega,by omega,Or.inr rfl⟩
  · obtain⟨b,s',e,b0,b1⟩:=bU3 hC p s h0 h1
    rw[if_neg c,e,Option.bind_some,if_neg (by omega),if_neg (by omega)];have m0:=Int.tmod_nonneg n b0;have m1:=Int.tmod_lt_of_pos b (show 0 < n by omega);exact⟨Int.tmod b n,p + 1,s',rfl,by omega,by omega,m0,Or.inl m1⟩
theorem a2E {C:List Int} (hC:Bytes C) (p s:Int) (l:List Int) (h0:0≤p) (h1:p≤1000000000) (hl:1≤l.length∧l.length≤200):∃ x p' s',nH.f C p s l=some (x,p',s')∧p≤p'∧p'≤p + 1∧x ∈ l:=by
  unfold nH.f;obtain⟨x,p',s',e,a1,a2,a3,a4⟩:=yO hC p s (l.length:Int) h0 h1 (by omega);rw[e,Option.bind_some,if_pos a3,if_pos (by omega)];refine⟨_,_,_,rfl,a1,a2,?_⟩;have hx:x.toNat < l.length:=by omega
  simp only[rd];rw[List.getD_eq_getElem?_getD,List.getElem?_eq_getElem hx];exact List.getElem_mem hx
theorem aDH {C:List Int} (hC:Bytes C) (p s n:Int) (h0:0≤p) (h1:p≤1000000000) (hn:n≤200):∃ (b:Bool) (p' s':Int),mO.f C p s n=some (b,p',s')∧p≤p'∧p'≤p + 1:=by
  unfold mO.f;obtain⟨x,p',s',e,a1,a2,_⟩:=yO hC p s n h0 h1 hn;rw[e,Option.bind_some];exact⟨_,_,_,rfl,a1,a2⟩
def AP (A H:List R) (W:List Int) (X:List R) (i:Nat):Prop:=(aA X i).f0 * rd W i=((aA A i).f0 + (aA A i).f1) * qM W (aA H i).f1∧(aA X i).f1=((aA A i).f0 + (aA A i).f1) - (aA X i).f0
structure bAJ (A H:List R) (W:List Int) (r:List R × List R × Bool):Prop where
  len:r.1.length=A.length
  same:r.2.1=H
  good:good r.1 H=true
  arm:∀ i:Nat,i < A.length→AP A H W r.1 i
theorem bU4 {s x w:Int} (hs:2≤s∧s≤24) (hx:1≤x∧x≤6336) (hw:1≤w) (hm:Int.tmod (wrap64 ((wrap64 s) * x)) w=0):wrap64 (Int.tdiv (wrap64 ((wrap64 s) * x)) w) * w=s * x∧wrap64 ((wrap64 s) - wrap64 (Int.tdiv (wrap64 ((wrap64 s) * x)) w))=s - wrap64 (Int.tdiv (wrap64 ((wrap64 s) * x)) w):=by
  have m1:s * x≤24 * x:=Int.mul_le_mul_of_nonneg_right hs.2 (by omega);have m2:2 * x≤s * x:=Int.mul_le_mul_of_nonneg_right hs.1 (by omega);rw[bW (x:=s) (by omega) (by omega),bW (x:=s * x) (by omega) (by omega)]at hm ⊢;obtain⟨y,hy⟩:=Int.dvd_of_tmod_eq_zero hm;have q:Int.tdiv (s * x) w=y:=by rw[hy];exact Int.mul_tdiv_cancel_left _ (by omega)
  have yp:0≤y:=by
    rcases Int.lt_or_le y 0 with h|h
    · have:=Int.mul_nonpos_of_nonneg_of_nonpos (show 0≤w by omega) (Int.le_of_lt h)
      omega
    · exact h
  have yb:y≤w * y:=by
    have:=Int.mul_le_mul_of_nonneg_right hw yp;omega
  rw[q,bW (x:=y) (by omega) (by omega),bW (x:=s - y) (by omega) (by omega)];exact⟨by rw[hy,Int.mul_comm],rfl⟩
theorem AP.set {A H:List R} {W:List Int} {X:List R} {i j:Nat} (h:AP A H W X i) (hij:j ≠ i) (x:R):AP A H W (X.set j x) i:=by
  unfold AP at h ⊢;rw[SA,if_neg (by omega)];exact h
theorem bU5 {A H:List R} (ok:YL A H) (hw:TE H) {W:List Int} (hW:XW A.length W):∀ (d j:Nat) (X:List R),j + d=A.length→X.length=A.length→(∀ i:Nat,i < j→AP A H W X i)→
    ∃ r:List R × List R × Bool,r.1.length≤100∧r.2.1.length≤100∧(r.2.2=true→bAJ A H W r)∧∀ k,d + 200 < k→gH.l0 k W (j:Int) A H X H=some r∧jH.l0 k W A (A.length:Int) (j:Int) A H X H=some r:=by
  have o1:=ok.len;have o2:=ok.same;have o3:=hW.len;intro d
  induction d with
  | zero=>
    intro j X hj hX hap;refine⟨if good X H=true then(X,H,true)else([],[],false),by split <;> simp;omega,by split <;> simp;omega,fun hr=>?_,fun k hk=>?_⟩
    · by_cases h:good X H=true
      · rw[if_pos h]
        exact⟨hX,rfl,h,fun i hi=>hap i (by omega)⟩
      · rw[if_neg h]at hr
        cases hr
    obtain⟨k,rfl⟩:∃ m,k=m + 1:=⟨k - 1,by omega⟩
    refine⟨?_,?_⟩
    · simp only[gH.l0]
      rw[if_neg (by omega),qG X H k hw (by omega),Option.bind_some];by_cases h:good X H=true <;> simp[h]
    · simp only[jH.l0]
      rw[if_neg (by omega)];unfold jP.f;rw[o6 X H k (by omega),Option.bind_some];by_cases h:good X H=true <;> simp[h]
  | succ d ih=>
    intro j X hj hX hap;have f:=ok.fin j (by omega);have e1:=at_eq (W:=W) (by omega) (by omega) f.2 (by omega);have wp:=(hW.bound j (by omega)).1;by_cases hm:Int.tmod (wrap64 ((wrap64 (((aA A j).f0) + ((aA A j).f1))) * qM W (aA H j).f1)) (rd W j)=0
    · obtain⟨r,h1,h2,h4,h3⟩:=ih (j + 1) (X.set j (⟨wrap64 (Int.tdiv (wrap64 ((wrap64 (((aA A j).f0) + ((aA A j).f1))) * qM W (aA H j).f1)) (rd W j)),wrap64 ((wrap64 (((aA A j).f0) + ((aA A j).f1))) - (wrap64 (Int.tdiv (wrap64 ((wrap64 (((aA A j).f0) + ((aA A j).f1))) * qM W (aA H j).f1)) (rd W j))))⟩:R)) (by omega) (by simpa using hX) (fun i hi=>by
        rcases Nat.lt_or_ge i j with h0|h0
        · exact(hap i h0).set (by omega) _
        · have:i=j:=by omega
          subst this
          have ab:=bOX ok i (by omega)
          have wb:=(bOW ok hW i (by omega)).2
          have an:=bU4 (s:=(aA A i).f0 + (aA A i).f1) (by omega) wb wp hm
          unfold AP
          rw[SA,if_pos ⟨rfl,by omega⟩]
          exact⟨an.1,an.2⟩)
      refine⟨r,h1,h2,h4,fun k hk=>?_⟩;obtain⟨k,rfl⟩:∃ m,k=m + 1:=⟨k - 1,by omega⟩
      refine⟨?_,?_⟩
      · simp only[gH.l0]
        rw[if_pos (by omega),if_pos (by omega),if_pos (by omega),e1,Option.bind_some,if_pos (by omega),if_neg (by omega),if_pos hm,if_pos (by omega),bW (x:=(j:Int) + 1) (by omega) (by omega),Int.toNat_natCast];exact(h3 k (by omega)).1
      · simp only[jH.l0,a0B]
        rw[if_pos (by omega),if_pos (by omega),if_pos (by omega),if_pos (by omega),e1,Option.bind_some,if_pos (by omega),if_neg (by omega),if_pos hm,if_pos (by omega),bW (x:=(j:Int) + 1) (by omega) (by omega),Int.toNat_natCast];exact(h3 k (by omega)).2
    · refine⟨([],[],false),by simp,by simp,fun hr=>(by cases hr),fun k hk=>?_⟩
      obtain⟨k,rfl⟩:∃ m,k=m + 1:=⟨k - 1,by omega⟩
      refine⟨?_,?_⟩
      · simp only[gH.l0]
        rw[if_pos (by omega),if_pos (by omega),if_pos (by omega),e1,Option.bind_some,if_pos (by omega),if_neg (by omega),if_neg hm]
      · simp only[jH.l0,a0B]
        rw[if_pos (by omega),if_pos (by omega),if_pos (by omega),if_pos (by omega),e1,Option.bind_some,if_pos (by omega),if_neg (by omega),if_neg hm]
theorem bU6 (A H:List R) (hb:A.length + H.length≤1048576) (hw:TE H):∃ r:List R × List R × Bool,r.1.length≤100∧r.2.1.length≤100∧(r.2.2=true→good A H=true∧∃ W,XW A.length W∧L9 A H W∧bAJ A H W r)∧∀ k,1000 + 3 * A.length + 3 * H.length≤k→gH.f k A H=some r∧jH.f k A H=some r:=by
  by_cases h:good A H=true
  · have ok:=uN h
    have o1:=ok.len;have o2:=ok.same;obtain⟨W,hW,hq,hs⟩:=a3Z ok;obtain⟨r,hr1,hr2,hr4,hr⟩:=bU5 ok hw hW A.length 0 A (by omega) rfl (fun i hi=>by omega);refine⟨r,hr1,hr2,fun h2=>⟨h,W,hW,hq,hr4 h2⟩,fun k hk=>?_⟩;have e1:gH.l0 k W 0 A H A H=some r:=(hr k (by omega)).1;have e2:jH.l0 k W A (A.length:Int) 0 A H A H=some r:=(hr k (by omega)).2;simp(disch:=omega) only[gH.f,jH.f,qG A H _ hw,o6,h,KN,hs,aXH,b2B,e1,e2,Option.bind_some,if_true,and_self]
  · refine⟨([],[],false),by simp,by simp,fun hr=>(by cases hr),fun k hk=>?_⟩
    simp(disch:=omega) only[gH.f,jH.f,qG A H _ hw,o6,h,Option.bind_some,if_false,and_self,Bool.false_eq_true]
theorem c57 {A H:List R} {W:List Int} (h:good A H=true) (hq:L9 A H W) {r:List R × List R × Bool} (o:bAJ A H W r) {V:List Int} (hv:L9 r.1 H V):∀ x ∈ tn V r.1 H,x=0:=by
  have ok:=uN h;have ok2:=uN o.good;have o1:=o.len;refine aM6 ok2.same.symm V (fun i hi=>?_);have f:=ok2.fin i hi;have e:∀ y:Int,qL (i:Int) (r.1.length:Int) y=true→qM V y=qM W y:=by
    intro y he;unfold qM;by_cases h0:y < 0
    · have c:=child he h0
      obtain⟨q,hq2⟩:∃ q:Nat,-y=(q:Int):=⟨(-y).toNat,by omega⟩
      rw[if_pos h0,if_pos h0,hq2];exact aXO ok2 hv (bHN o1 hq) r.1.length q (by omega) (by omega)
    · rw[if_neg h0,if_neg h0]
  rw[e _ f.1,e _ f.2];obtain⟨a1,a2⟩:=o.arm i (by omega);rw[a2];exact bAH (hq i (by omega)) _ a1
def SmI (l:List Int):Prop:=∀ x ∈ l,0≤x∧x≤1000
theorem SmI.snoc {l:List Int} (h:SmI l) {x:Int} (hx:0≤x∧x≤1000):SmI (l ++ [x]):=fun y hy=>by
  rcases List.mem_append.1 hy with e|e
  · exact h y e
  · have:y=x:=by simpa using e
    rw[this];exact hx
theorem SmI.set {l:List Int} (h:SmI l) (i:Nat) {x:Int} (hx:0≤x∧x≤1000):SmI (l.set i x):=fun y hy=>by
  rcases List.mem_or_eq_of_mem_set hy with e|e
  · exact h y e
  · rw[e];exact hx
theorem bDO {C:List Int} (hC:Bytes C) (l:List Int) (p s:Int) (h0:0≤p) (h1:p≤1000000) (hl:l.length≤100) (sl:SmI l):∃ (v:List Int) (p' s':Int) (b:Bool),mO.f C p s 24=some (b,p',s')∧v=(if b=true then l ++ [1]else l)∧v.length≤l.length + 1∧SmI v∧p≤p'∧p'≤p + 1:=by
  obtain⟨b,p',s',e,a1,a2⟩:=aDH hC p s 24 h0 (by omega) (by omega);refine⟨_,p',s',b,e,rfl,?_,?_,a1,a2⟩
  · cases b <;> simp
  · cases b
    · exact sl
    · exact sl.snoc (by omega)
theorem bP0 {C:List Int} (hC:Bytes C) (l:List Int) (b:Bool) (p s:Int) (h0:0≤p) (h1:p≤100000) (hl:l.length≤100) (sl:SmI l) (hb:b=true→0 < l.length):∃ (v:List Int) (p' s':Int),v.length≤l.length + 1∧SmI v∧p≤p'∧p'≤p + 2∧∀ k,2≤k→aJ.j2 k l b C p s=some (v,p',s'):=by
  cases b with
  | true=>
    have hl0:=hb rfl;obtain⟨x,p1,s1,e1,a1,a2,a3⟩:=a2E hC p s [0,99,100] h0 (by omega) (by simp);obtain⟨v,p2,s2,b,e2,rfl,c1,c2,c3,c4⟩:=bDO hC (l.set (0:Int).toNat x) p1 s1 (by omega) (by omega) (by simpa using hl) (sl.set _ (by simp at a3;omega));refine⟨_,p2,s2,by simpa using c1,c2,by omega,by omega,fun k hk=>?_⟩;obtain⟨k,rfl⟩:∃ m,k=m + 2:=⟨k - 2,by omega⟩
    simp only[aJ.j2,if_true];rw[e1,Option.bind_some,if_pos (by omega)];dsimp only;simp only[aJ.j3];rw[e2,Option.bind_some];cases b
    · rfl
    · rw[if_pos rfl,if_pos rfl,if_pos (by simp;omega)]
  | false=>
    obtain⟨v,p2,s2,b,e2,rfl,c1,c2,c3,c4⟩:=bDO hC l p s (by omega) (by omega) hl sl;refine⟨_,p2,s2,c1,c2,by omega,by omega,fun k hk=>?_⟩;obtain⟨k,rfl⟩:∃ m,k=m + 2:=⟨k - 2,by omega⟩
    simp only[aJ.j2,Bool.false_eq_true,if_false];simp only[aJ.j3];rw[e2,Option.bind_some];cases b
    · rfl
    · rw[if_pos rfl,if_pos rfl,if_pos (by omega)]
theorem bP1 {C:List Int} (hC:Bytes C) (l:List Int) (p s:Int) (h0:0≤p) (h1:p≤10000) (hl:l.length≤100) (sl:SmI l):∃ (v:List Int) (p' s':Int),v.length≤l.length + 1∧SmI v∧p≤p'∧p'≤p + 3∧∀ k,3≤k→aJ.j1 k l C p s=some (v,p',s'):=by
  by_cases c:(l.length:Int) > 0
  · obtain⟨b,p1,s1,e,a1,a2⟩:=aDH hC p s 20 h0 (by omega) (by omega)
    obtain⟨v,p2,s2,c1,c2,c3,c4,c5⟩:=bP0 hC l b p1 s1 (by omega) (by omega) hl sl (fun _=>by omega);refine⟨v,p2,s2,c1,c2,by omega,by omega,fun k hk=>?_⟩;obtain⟨k,rfl⟩:∃ m,k=m + 1:=⟨k - 1,by omega⟩
    simp only[aJ.j1];rw[if_pos c,e,Option.bind_some];exact c5 k (by omega)
  · obtain⟨v,p2,s2,c1,c2,c3,c4,c5⟩:=bP0 hC l false p s (by omega) (by omega) hl sl (fun h=>by cases h)
    refine⟨v,p2,s2,c1,c2,by omega,by omega,fun k hk=>?_⟩;obtain⟨k,rfl⟩:∃ m,k=m + 1:=⟨k - 1,by omega⟩
    simp only[aJ.j1];rw[if_neg c];exact c5 k (by omega)
theorem cGZ {C:List Int} (hC:Bytes C) (A H:List R) (hA:A.length≤100):∀ (d:Nat) (l:List Int) (i:Nat) (p s:Int),i + d=8→l.length=i→SmI l→0≤p→p≤9000 - d→∃ (v:List Int) (p' s':Int),v.length≤9∧SmI v∧p≤p'∧p'≤p + 3 + d∧∀ k,d + 4≤k→aJ.l0 k l (i:Int) C p s A H=some (v,p',s'):=by
  intro d
  induction d with
  | zero=>
    intro l i p s hi hl sl h0 h1;obtain⟨v,p2,s2,c1,c2,c3,c4,c5⟩:=bP1 hC l p s h0 (by omega) (by omega) sl;refine⟨v,p2,s2,by omega,c2,by omega,by omega,fun k hk=>?_⟩;obtain⟨k,rfl⟩:∃ m,k=m + 1:=⟨k - 1,by omega⟩
    simp only[aJ.l0];rw[if_neg (show ¬ ((i:Int) < 8) by omega),c5 k (by omega)];simp
  | succ d ih=>
    intro l i p s hi hl sl h0 h1;by_cases c:(i:Int) < wrap64 ((A.length:Int) + 1)
    · obtain⟨x,p1,s1,e1,a1,a2,a3⟩:=a2E hC p s [1,2,3,1,4,6] h0 (by omega) (by simp)
      obtain⟨v,p2,s2,c1,c2,c3,c4,c5⟩:=ih (l ++ [x]) (i + 1) p1 s1 (by omega) (by simp;omega) (sl.snoc (by simp at a3;omega)) (by omega) (by omega);refine⟨v,p2,s2,c1,c2,by omega,by omega,fun k hk=>?_⟩;obtain⟨k,rfl⟩:∃ m,k=m + 1:=⟨k - 1,by omega⟩
      simp only[aJ.l0];rw[if_pos c,if_pos (by omega),e1,Option.bind_some,if_pos (by omega),bW (x:=(i:Int) + 1) (by omega) (by omega),show(i:Int) + 1=((i + 1:Nat):Int)from by omega];exact c5 k (by omega)
    · obtain⟨v,p2,s2,c1,c2,c3,c4,c5⟩:=bP1 hC l p s h0 (by omega) (by omega) sl
      refine⟨v,p2,s2,by omega,c2,by omega,by omega,fun k hk=>?_⟩;obtain⟨k,rfl⟩:∃ m,k=m + 1:=⟨k - 1,by omega⟩
      simp only[aJ.l0];rw[if_neg c];exact c5 k (by omega)
theorem aXS {C:List Int} (hC:Bytes C) (A H:List R) (hA:A.length≤100) (p s:Int) (h0:0≤p) (h1:p≤8000):∃ (v:List Int) (p' s':Int),v.length≤9∧SmI v∧p≤p'∧p'≤p + 11∧∀ k,20≤k→aJ.f k C p s A H=some (v,p',s'):=by
  obtain⟨v,p2,s2,c1,c2,c3,c4,c5⟩:=cGZ hC A H hA 8 [] 0 p s (by omega) rfl (fun x hx=>by cases hx) h0 (by omega);exact⟨v,p2,s2,c1,c2,c3,by omega,fun k hk=>c5 k (by omega)⟩
def Sm (x:R):Prop:=(-1000≤x.f0∧x.f0≤1000)∧(-1000≤x.f1∧x.f1≤1000)
def PX (l:List R):Prop:=∀ x ∈ l,Sm x
theorem PX.set {l:List R} (h:PX l) (i:Nat) {x:R} (hx:Sm x):PX (l.set i x):=fun y hy=>by
  rcases List.mem_or_eq_of_mem_set hy with e|e
  · exact h y e
  · rw[e];exact hx
theorem PX.snoc {l:List R} (h:PX l) {x:R} (hx:Sm x):PX (l ++ [x]):=fun y hy=>by
  rcases List.mem_append.1 hy with e|e
  · exact h y e
  · have:y=x:=by simpa using e
    rw[this];exact hx
theorem PX.rd {l:List R} (h:PX l) (i:Int):Sm (aA l i):=by
  simp only[aA];rw[List.getD_eq_getElem?_getD];by_cases hi:i.toNat < l.length
  · rw[List.getElem?_eq_getElem hi]
    exact h _ (List.getElem_mem hi)
  · rw[List.getElem?_eq_none (by omega)]
    simp only[Option.getD_none,Sm,z64];omega
theorem PX.wf {l:List R} (h:PX l):TE l:=fun x hx=>by
  have:=h x hx;simp only[Sm]at this;simp only[Wf];omega
structure Dr (p:Int) (r:List R × List R × Int × Int):Prop where
  a:r.1.length≤6
  h:r.2.1.length≤6
  sa:PX r.1
  sh:PX r.2.1
  p1:p≤r.2.2.1
  p2:r.2.2.1≤p + 100
theorem Dr.mono {p q:Int} {r:List R × List R × Int × Int} (o:Dr q r) (h1:p≤q) (h2:r.2.2.1≤p + 100):Dr p r:=⟨o.a,o.h,o.sa,o.sh,by have:=o.p1;omega,h2⟩
theorem aXT {C:List Int} (hC:Bytes C) (A H:List R) (n:Nat) (p s:Int) (h0:0≤p) (h1:p≤1000000) (hn:1≤n∧n≤6) (hA:A.length=n) (hH:H.length=n) (sA:PX A) (sH:PX H):
    ∃ r,Dr p r∧r.2.2.1≤p + 3∧∀ k,1≤k→aC.j2 k (n:Int) C p s A H=some r:=by
  obtain⟨x,p1,s1,e1,a1,a2,a3,a4⟩:=yO hC p s 40 h0 (by omega) (by omega);by_cases c0:x=0
  · obtain⟨v,p2,s2,e2,b1,b2,b3⟩:=a2E hC p1 s1 [0,12,13] (by omega) (by omega) (by simp)
    refine⟨(A.set (0:Int).toNat (⟨v,(aA A 0).f1⟩:R),H,p2,s2),⟨by simp;omega,by simp only;omega,sA.set _ ⟨by simp at b3;simp only;omega,(sA.rd 0).2⟩,sH,by simp only;omega,by simp only;omega⟩,by simp only;omega,fun k hk=>?_⟩;obtain⟨k,rfl⟩:∃ m,k=m + 1:=⟨k - 1,by omega⟩
    simp only[aC.j2];rw[e1,Option.bind_some,if_pos c0,e2,Option.bind_some,if_pos (by omega)]
  · by_cases c1:x=1
    · obtain⟨y,p2,s2,e2,b1,b2,b3,b4⟩:=yO hC p1 s1 (n:Int) (by omega) (by omega) (by omega)
      obtain⟨v,p3,s3,e3,d1,d2,d3⟩:=a2E hC p2 s2 [0,99,100,(-1),(-6)] (by omega) (by omega) (by simp);refine⟨(A,H.set (y:Int).toNat (⟨(aA H y).f0,v⟩:R),p3,s3),⟨by simp only;omega,by simp;omega,sA,sH.set _ ⟨(sH.rd y).1,by simp at d3;simp only;omega⟩,by simp only;omega,by simp only;omega⟩,by simp only;omega,fun k hk=>?_⟩;obtain⟨k,rfl⟩:∃ m,k=m + 1:=⟨k - 1,by omega⟩
      simp only[aC.j2];rw[e1,Option.bind_some,if_neg c0,if_pos c1,e2,Option.bind_some,e3,Option.bind_some,if_pos b3,if_pos (by omega)]
    · by_cases c2:x=2
      · refine⟨(A,H.drop (1:Int).toNat,p1,s1),⟨by simp only;omega,by simp;omega,sA,fun y hy=>sH y (List.mem_of_mem_drop hy),by simp only;omega,by simp only;omega⟩,by simp only;omega,fun k hk=>?_⟩
        obtain⟨k,rfl⟩:∃ m,k=m + 1:=⟨k - 1,by omega⟩
        simp only[aC.j2];rw[e1,Option.bind_some,if_neg c0,if_neg c1,if_pos c2,if_pos (by omega)]
      · refine⟨(A,H,p1,s1),⟨by simp only;omega,by simp only;omega,sA,sH,by simp only;omega,by simp only;omega⟩,by simp only;omega,fun k hk=>?_⟩
        obtain⟨k,rfl⟩:∃ m,k=m + 1:=⟨k - 1,by omega⟩
        simp only[aC.j2];rw[e1,Option.bind_some,if_neg c0,if_neg c1,if_neg c2]
theorem bAK {w:List Int} (hw:∀ x ∈ w,iT x=true):∀ (hs:List R) (j:Nat),PX hs→PX (hang w j hs):=by
  have pv:∀ (j:Nat) (h:Int),-1000≤h∧h≤1000→ -1000≤pt w j h∧pt w j h≤1000:=by
    intro j h hh;unfold pt
    split
    · simp only[rd,Int.toNat_natCast]
      rw[List.getD_eq_getElem?_getD];by_cases hj:j < w.length
      · rw[List.getElem?_eq_getElem hj]
        have:=hw _ (List.getElem_mem hj);simp only[iT,decide_eq_true_eq]at this;simp only[Option.getD_some];omega
      · rw[List.getElem?_eq_none (by omega)]
        simp only[Option.getD_none];omega
    · exact hh
  intro hs
  induction hs with
  |nil=>intro j h x hx;cases hx
  | cons x hs ih=>
    intro j h y hy;simp only[hang]at hy;rcases List.mem_cons.1 hy with e|e
    · have hx:=h x (by simp)
      rw[e];exact⟨pv _ _ hx.1,pv _ _ hx.2⟩
    · exact ih _ (fun z hz=>h z (by simp[hz])) y e
theorem c58 {A H:List R} {w:List Int} (o:bHR A H w):cnt H=w.length:=by
  have ok:=uN o.good;obtain⟨Z,g,hp,hg,hd,hw⟩:=o.parts;have e:=c4V pa0 pa1 Z A H 0 [] ok.same.symm (bTZ ok);have c:=VB H [];rw[e]at c;rw[hw];simp at c ⊢;omega
theorem c5A (k:Nat) (n:Int) (w C:List Int) (p s:Int) (A H:List R):aC.j1 (k + 1) n w false C p s A H=aC.j2 k n C p s A H:=by
  simp only[aC.j1];rw[if_neg (by decide)]
theorem cV5 (k:Nat) (n:Int) (w C:List Int) (p s:Int) (A H:List R):aC.j1 (k + 1) n w true C p s A H=(fV.f k A H w).bind fun b=>aC.j2 k n C p s b.1 b.2:=by
  simp only[aC.j1,if_true]
theorem aXU (k:Nat) (n:Int) (C:List Int) (p s:Int) (F A H:List R):aC.l0 (k + 1) n F n C p s A H=(bU.f k A H).bind fun b=>if b.2=true then(mO.f C p s 3).bind fun t=>aC.j1 k n b.1 (!t.1) C t.2.1 t.2.2 A H else aC.j1 k n b.1 false C p s A H:=by
  simp only[aC.l0];rw[if_neg (Int.lt_irrefl n)]
theorem bU7 {C:List Int} (hC:Bytes C) (A H:List R) (n:Nat) (p s:Int) (h0:0≤p) (h1:p≤900000) (hn:1≤n∧n≤6) (hA:A.length=n) (hH:H.length=n) (sA:PX A) (sH:PX H) (F:List R):
    ∃ r,Dr p r∧r.2.2.1≤p + 4∧∀ k,6000000100≤k→aC.l0 k (n:Int) F (n:Int) C p s A H=some r:=by
  obtain⟨w,w1,w2,w3⟩:=bU2 A H (by omega) sH.wf;by_cases c:w.2=true
  · obtain⟨b,p1,s1,e1,a1,a2⟩:=aDH hC p s 3 h0 (by omega) (by omega)
    have o:=w2 c;have cn:=c58 o;cases b with
    | true=>
      obtain⟨r,r1,r2,r3⟩:=aXT hC A H n p1 s1 (by omega) (by omega) hn hA hH sA sH;refine⟨r,r1.mono a1 (by omega),by omega,fun k hk=>?_⟩;obtain⟨k,rfl⟩:∃ m,k=m + 2:=⟨k - 2,by omega⟩
      rw[aXU,(w3 (k + 1) (by omega)).1,Option.bind_some,if_pos c,e1,Option.bind_some];show aC.j1 (k + 1) _ _ false C p1 s1 A H=some r
      rw[c5A];exact r3 k (by omega)
    | false=>
      obtain⟨r,r1,r2,r3⟩:=aXT hC A (hang w.1 0 H) n p1 s1 (by omega) (by omega) hn hA (by rw[QV];exact hH) sA (bAK o.ok H 0 sH);refine⟨r,r1.mono a1 (by omega),by omega,fun k hk=>?_⟩;obtain⟨k,rfl⟩:∃ m,k=m + 2:=⟨k - 2,by omega⟩
      rw[aXU,(w3 (k + 1) (by omega)).1,Option.bind_some,if_pos c,e1,Option.bind_some];show aC.j1 (k + 1) _ _ true C p1 s1 A H=some r
      rw[cV5,aDC w.1 A H k (by omega) (by omega) (by omega) (by omega) (by omega),Option.bind_some];exact r3 k (by omega)
  · obtain⟨r,r1,r2,r3⟩:=aXT hC A H n p s h0 (by omega) hn hA hH sA sH
    refine⟨r,r1,by omega,fun k hk=>?_⟩;obtain⟨k,rfl⟩:∃ m,k=m + 2:=⟨k - 2,by omega⟩
    rw[aXU,(w3 (k + 1) (by omega)).1,Option.bind_some,if_neg c,c5A];exact r3 k (by omega)
set_option maxHeartbeats 4000000 in
theorem c5B {C:List Int} (hC:Bytes C) (n:Nat) (hn:1≤n∧n≤6):∀ (d i:Nat) (F A H:List R) (p s:Int),i + d=n→A.length=i→H.length=i→(1≤i→1≤F.length)→F.length≤i + 1→(∀ x ∈ F,(0≤x.f0∧x.f0 < (i:Int))∧(x.f1=0∨x.f1=1))→PX A→PX H→0≤p→p + 10 * d≤800000→
    ∃ r,Dr p r∧r.2.2.1≤p + 4 + 5 * d∧∀ k,6000000100 + d≤k→aC.l0 k (n:Int) F (i:Int) C p s A H=some r:=by
  intro d
  induction d with
  | zero=>
    intro i F A H p s hi hA hH hF1 hF2 hF sA sH h0 h1;have:i=n:=by omega
    subst this;obtain⟨r,r1,r2,r3⟩:=bU7 hC A H i p s h0 (by omega) hn hA hH sA sH F;exact⟨r,r1,by omega,fun k hk=>r3 k (by omega)⟩
  | succ d ih=>
    intro i F A H p s hi hA hH hF1 hF2 hF sA sH h0 h1;obtain⟨x1,p1,s1,e1,a1,b1,c1,d1⟩:=yO hC p s 4 h0 (by omega) (by omega);replace d1:x1≤3:=by omega
    obtain⟨x2,p2,s2,e2,a2,b2,c2,d2⟩:=yO hC p1 s1 4 (by omega) (by omega) (by omega);replace d2:x2≤3:=by omega
    obtain⟨x3,p3,s3,e3,a3,b3,c3,d3⟩:=yO hC p2 s2 6 (by omega) (by omega) (by omega);replace d3:x3≤5:=by omega
    obtain⟨x4,p4,s4,e4,a4,b4,c4,d4⟩:=yO hC p3 s3 6 (by omega) (by omega) (by omega);replace d4:x4≤5:=by omega
    have wc:(i:Int) + 1=((i + 1:Nat):Int):=by omega
    have sA2:PX (A ++ [(⟨1 + x1,1 + x2⟩:R)]):=sA.snoc ⟨by simp only;omega,by simp only;omega⟩;have sH2:PX (H ++ [(⟨1 + x3,1 + x4⟩:R)]):=sH.snoc ⟨by simp only;omega,by simp only;omega⟩;rcases Nat.eq_zero_or_pos i with z|z
    · subst z
      have hF0:F.length≤1:=by omega
      obtain⟨r,r1,r2,r3⟩:=ih 1 (F ++ [(⟨((0:Nat):Int),0⟩:R),(⟨((0:Nat):Int),1⟩:R)]) (A ++ [(⟨1 + x1,1 + x2⟩:R)]) (H ++ [(⟨1 + x3,1 + x4⟩:R)]) p4 s4 (by omega) (by rw[List.length_append,hA];rfl) (by rw[List.length_append,hH];rfl) (fun _=>by simp) (by
        cases F with
        |nil=>simp
        | cons y ys=>
          have:=hF y (by simp)
          omega) (fun y hy=>by
        rcases List.mem_append.1 hy with e|e
        · have:=hF y e
          omega
        · have:y=⟨((0:Nat):Int),0⟩∨y=⟨((0:Nat):Int),1⟩:=by simpa using e
          rcases this with rfl|rfl
          · exact⟨⟨by simp,by simp⟩,Or.inl rfl⟩
          · exact⟨⟨by simp,by simp⟩,Or.inr rfl⟩) sA2 sH2 (by omega) (by omega)
      refine⟨r,r1.mono (by omega) (by omega),by omega,fun k hk=>?_⟩;obtain⟨k,rfl⟩:∃ m,k=m + 1:=⟨k - 1,by omega⟩
      simp only[aC.l0];rw[if_pos (by omega),e1,Option.bind_some,e2,Option.bind_some,if_pos (by omega),Option.bind_some,e3,Option.bind_some,e4,Option.bind_some,if_pos (by omega),Option.bind_some,if_neg (by omega),Option.bind_some,if_pos (by simp;omega),bW (x:=1 + x1) (by omega) (by omega),bW (x:=1 + x2) (by omega) (by omega),bW (x:=1 + x3) (by omega) (by omega),bW (x:=1 + x4) (by omega) (by omega),bW (x:=((0:Nat):Int) + 1) (by omega) (by omega),show((0:Nat):Int) + 1=((1:Nat):Int)from rfl];exact r3 k (by omega)
    · obtain⟨x5,p5,s5,e5,a5,b5,c5,d5⟩:=yO hC p4 s4 (F.length:Int) (by omega) (by omega) (by omega)
      have hl:=hF1 z;replace d5:x5 < (F.length:Int):=by omega
      have hx5:x5.toNat < F.length:=by omega
      have hy:aA F x5 ∈ F:=by
        simp only[aA];rw[List.getD_eq_getElem?_getD,List.getElem?_eq_getElem hx5];exact List.getElem_mem hx5
      have hf:=hF _ hy;have hlen:(F.eraseIdx x5.toNat).length=F.length - 1:=by rw[List.length_eraseIdx,if_pos hx5]
      have free:∀ y ∈ F.eraseIdx x5.toNat ++ [(⟨(i:Int),0⟩:R),(⟨(i:Int),1⟩:R)],(0≤y.f0∧y.f0 < ((i + 1:Nat):Int))∧(y.f1=0∨y.f1=1):=fun y hy=>by
        rcases List.mem_append.1 hy with e|e
        · have:=hF y ((List.eraseIdx_sublist F x5.toNat).subset e)
          omega
        · have:y=⟨(i:Int),0⟩∨y=⟨(i:Int),1⟩:=by simpa using e
          rcases this with rfl|rfl
          · exact⟨⟨by simp only;omega,by simp only;omega⟩,Or.inl rfl⟩
          · exact⟨⟨by simp only;omega,by simp only;omega⟩,Or.inr rfl⟩
      have go:∀ v:R,Sm v→∃ r,Dr p5 r∧r.2.2.1≤p5 + 4 + 5 * d∧∀ k,6000000100 + d≤k→aC.l0 k (n:Int) (F.eraseIdx x5.toNat ++ [(⟨(i:Int),0⟩:R),(⟨(i:Int),1⟩:R)]) ((i + 1:Nat):Int) C p5 s5 (A ++ [(⟨1 + x1,1 + x2⟩:R)]) ((H ++ [(⟨1 + x3,1 + x4⟩:R)]).set (aA F x5).f0.toNat v)=some r:=fun v hv=>
        ih (i + 1) _ _ _ p5 s5 (by omega) (by simp;omega) (by simp;omega) (fun _=>by simp) (by simp only[List.length_append,List.length_cons,List.length_nil,hlen];omega) free sA2 (sH2.set _ hv) (by omega) (by omega)
      have sv:=sH2.rd (aA F x5).f0;by_cases c:(aA F x5).f1=0
      · obtain⟨r,r1,r2,r3⟩:=go ⟨-(i:Int),(aA (H ++ [(⟨1 + x3,1 + x4⟩:R)]) (aA F x5).f0).f1⟩ ⟨by simp only;omega,sv.2⟩
        refine⟨r,r1.mono (by omega) (by omega),by omega,fun k hk=>?_⟩;obtain⟨k,rfl⟩:∃ m,k=m + 1:=⟨k - 1,by omega⟩
        simp only[aC.l0];rw[if_pos (by omega),e1,Option.bind_some,e2,Option.bind_some,if_pos (by omega),Option.bind_some,e3,Option.bind_some,e4,Option.bind_some,if_pos (by omega),Option.bind_some,if_pos (by omega),e5,Option.bind_some];dsimp only;rw[if_pos (by omega),if_pos (by omega),if_pos (by omega),if_pos (by rw[List.length_append];simp only[List.length_cons,List.length_nil];omega),if_pos c,if_pos (by omega),bW (x:=x5 + 1) (by omega) (by omega),if_pos (by omega),if_pos (by omega),Option.bind_some,Option.bind_some,if_pos (by simp[hlen];omega),bW (x:=1 + x1) (by omega) (by omega),bW (x:=1 + x2) (by omega) (by omega),bW (x:=1 + x3) (by omega) (by omega),bW (x:=1 + x4) (by omega) (by omega),bW (x:=(i:Int) + 1) (by omega) (by omega),bW (x:=-(i:Int)) (by omega) (by omega),wc];exact r3 k (by omega)
      · obtain⟨r,r1,r2,r3⟩:=go ⟨(aA (H ++ [(⟨1 + x3,1 + x4⟩:R)]) (aA F x5).f0).f0,-(i:Int)⟩ ⟨sv.1,by simp only;omega⟩
        refine⟨r,r1.mono (by omega) (by omega),by omega,fun k hk=>?_⟩;obtain⟨k,rfl⟩:∃ m,k=m + 1:=⟨k - 1,by omega⟩
        simp only[aC.l0];rw[if_pos (by omega),e1,Option.bind_some,e2,Option.bind_some,if_pos (by omega),Option.bind_some,e3,Option.bind_some,e4,Option.bind_some,if_pos (by omega),Option.bind_some,if_pos (by omega),e5,Option.bind_some];dsimp only;rw[if_pos (by omega),if_pos (by omega),if_pos (by omega),if_pos (by rw[List.length_append];simp only[List.length_cons,List.length_nil];omega),if_neg c,if_pos (by omega),if_pos (by omega),bW (x:=x5 + 1) (by omega) (by omega),if_pos (by omega),if_pos (by omega),Option.bind_some,Option.bind_some,if_pos (by simp[hlen];omega),bW (x:=1 + x1) (by omega) (by omega),bW (x:=1 + x2) (by omega) (by omega),bW (x:=1 + x3) (by omega) (by omega),bW (x:=1 + x4) (by omega) (by omega),bW (x:=(i:Int) + 1) (by omega) (by omega),bW (x:=-(i:Int)) (by omega) (by omega),wc];exact r3 k (by omega)
theorem XY {C:List Int} (hC:Bytes C) (p s:Int) (h0:0≤p) (h1:p≤700000):∃ r,Dr p r∧∀ k,6000000200≤k→aC.f k C p s=some r:=by
  obtain⟨x,p1,s1,e1,a1,a2,a3⟩:=a2E hC p s [2,3,1,4,2,6] h0 (by omega) (by simp);have hx:1≤x∧x≤6:=by simp at a3;omega
  obtain⟨n,hn⟩:∃ n:Nat,x=(n:Int):=⟨x.toNat,by omega⟩
  subst hn;obtain⟨r,r1,r2,r3⟩:=c5B hC n (by omega) n 0 [] [] [] p1 s1 (by omega) rfl rfl (by omega) (by simp) (fun y hy=>by cases hy) (fun y hy=>by cases hy) (fun y hy=>by cases hy) (by omega) (by omega);refine⟨r,r1.mono a1 (by omega),fun k hk=>?_⟩;unfold aC.f;rw[e1,Option.bind_some];exact r3 k (by omega)
theorem aQT:∀ (s p:List Int) (k:Nat),(p ++ s).length < 1000→s.length < k→nA.l0 k (p ++ s) (p.length:Int)=some (s.all (fun x=>decide (x=0))):=by
  intro s
  induction s with
  | nil=>
    intro p k hl hk;obtain⟨k,rfl⟩:∃ m,k=m + 1:=⟨k - 1,by simp at hk;omega⟩
    simp only[nA.l0];rw[if_neg (by simp)];rfl
  | cons x s ih=>
    intro p k hl hk;obtain⟨k,rfl⟩:∃ m,k=m + 1:=⟨k - 1,by simp at hk;omega⟩
    have hr:rd (p ++ x::s) (p.length:Int)=x:=by simp[rd]
    simp only[nA.l0];rw[if_pos (by simp;omega),if_pos (by omega),hr,FJ p x (by simp at hl;omega),List.append_cons p x s,ih (p ++ [x]) k (by simpa using hl) (by simp at hk;omega)];by_cases hx:x=0 <;> simp[hx]
theorem aPK:∀ (s p:List Int) (k:Nat),(p ++ s).length < 1000→s.length < k→∃ r,jA.l0 k (p ++ s) ((p ++ s).length:Int) (p.length:Int)=some r∧decide (r ≥ 0)= !(s.all (fun x=>decide (x=0))):=by
  intro s
  induction s with
  | nil=>
    intro p k hl hk;obtain⟨k,rfl⟩:∃ m,k=m + 1:=⟨k - 1,by simp at hk;omega⟩
    simp only[jA.l0];rw[if_neg (by simp)];exact⟨-1,rfl,by simp⟩
  | cons x s ih=>
    intro p k hl hk;obtain⟨k,rfl⟩:∃ m,k=m + 1:=⟨k - 1,by simp at hk;omega⟩
    have hr:rd (p ++ x::s) (p.length:Int)=x:=by simp[rd]
    simp only[jA.l0,FX.f];rw[if_pos (by simp;omega),if_pos (by omega),if_pos (by simp;omega),hr,Option.bind_some];by_cases hx:x=0
    · subst hx
      rw[if_neg (by decide),FJ p 0 (by simp at hl;omega),List.append_cons p 0 s];obtain⟨r,h1,h2⟩:=ih (p ++ [0]) k (by simpa using hl) (by simp at hk;omega);exact⟨r,h1,by rw[h2];simp⟩
    · rw[if_pos (by simpa using hx)]
      exact⟨_,rfl,by simp[hx]⟩
theorem bHT (T:List Int) (k:Nat) (hl:T.length < 1000) (hk:T.length < k):oK.f k T=some (!(T.all (fun x=>decide (x=0)))):=by
  unfold oK.f jA.f;obtain⟨r,h1,h2⟩:=aPK T [] k hl hk;have h3:jA.l0 k T (T.length:Int) 0=some r:=h1;rw[h3,Option.bind_some,h2]
theorem aPL (A:List R):∀ (hs q:List R) (X:List Int) (k:Nat),(q ++ hs).length≤1048576→X.length + 2 * hs.length≤4194304→4 * hs.length + 4 < k→
    gM.l0 k X (q.length:Int) A (q ++ hs)=some (leaves X hs):=by
  intro hs
  induction hs with
  | nil=>
    intro q X k hl hX hk;obtain⟨k,rfl⟩:∃ m,k=m + 1:=⟨k - 1,by omega⟩
    simp only[gM.l0];rw[if_neg (by simp)];rfl
  | cons h hs ih=>
    intro q X k hl hX hk;simp only[List.length_cons]at hX hk;obtain⟨k,rfl⟩:∃ m,k=m + 4:=⟨k - 4,by omega⟩
    have w1:wrap64 (0 + 1)=1:=bW (by omega) (by omega);have w2:wrap64 (1 + 1)=2:=bW (by omega) (by omega);have d0:0≤(q.length:Int):=by omega
    have d1:(q.length:Int) < ((q ++ h::hs).length:Int):=by simp;omega
    have q1:¬ ((1:Int)=0):=by omega
    have x0:X.length < 17592186044416:=by omega
    have u:=a3Y X h.f0;have u1:=a3Y (up X h.f0) h.f1;have x1:(up X h.f0).length < 17592186044416:=by omega
    rw[show gM.l0 (k + 4) X (q.length:Int) A (q ++ h::hs)=gM.l1 (k + 3) X (q.length:Int) 0 A (q ++ h::hs)from by simp only[gM.l0,d1,if_true]]
    rw[show gM.l1 (k + 3) X (q.length:Int) 0 A (q ++ h::hs)=gM.l1 (k + 2) (up X h.f0) (q.length:Int) 1 A (q ++ h::hs)from by
      by_cases c:h.f0 > 0 <;> simp only[gM.l1,d0,d1,VA,w1,x0,c,up,if_true,if_false,Int.reduceLT]]
    rw[show gM.l1 (k + 2) (up X h.f0) (q.length:Int) 1 A (q ++ h::hs)=gM.l1 (k + 1) (up (up X h.f0) h.f1) (q.length:Int) 2 A (q ++ h::hs)from by
      generalize up X h.f0=Y at x1
      by_cases c:h.f1 > 0 <;> simp only[gM.l1,d0,d1,VA,w2,q1,x1,c,up,if_true,if_false,Int.reduceLT]]
    rw[show gM.l1 (k + 1) (up (up X h.f0) h.f1) (q.length:Int) 2 A (q ++ h::hs)=gM.l0 k (up (up X h.f0) h.f1) (wrap64 ((q.length:Int) + 1)) A (q ++ h::hs)from by simp only[gM.l1,if_false,Int.reduceLT]];rw[FJ q h (by simp at hl;omega),List.append_cons q h hs,ih (q ++ [h]) _ k (by simpa using hl) (by omega) (by omega)];rfl
theorem a0C (l:List Int) (h:l.length≤1048576):sO.f l=some l:=by
  simp only[sO.f,Option.bind_some,List.nil_append,List.length_nil];rw[if_pos (by omega)]
theorem aPM (A H:List R) (h:H.length≤1000) (k:Nat) (hk:4 * H.length + 4 < k):gM.f k A H=some (leaves [] H):=by
  unfold gM.f;exact aPL A H [] [] k (by simp;omega) (by simp;omega) hk
def flat (T:List Int):Bool:=T.all (fun x=>decide (x=0))
theorem aIN {T:List Int}:flat T=true ↔ ∀ x ∈ T,x=0:=by
  unfold flat;rw[List.all_eq_true];simp
theorem aT9 {A H:List R} (h:good A H=true):∃ V,XW A.length V∧L9 A H V∧∀ k,1100≤k→dW.f k A H=some V∧fC.f k A H=some V∧jR.f k A H=some (tn V A H)∧nA.f k A H=some (flat (tn V A H))∧xN.f k A H=some (flat (tn V A H)):=by
  have ok:=uN h;have o1:=ok.len;obtain⟨V,hV,hv,hs⟩:=bTY ok;have tl:=aDE V A H ok.same.symm;refine⟨V,hV,hv,fun k hk=>?_⟩;obtain⟨e1,e2,e3,e4⟩:=hs k (by omega);have e5:nA.l0 k (tn V A H) 0=some (flat (tn V A H)):=aQT (tn V A H) [] k (by simp;omega) (by omega);refine⟨e1,e2,e4,?_,?_⟩
  · unfold nA.f
    rw[e3,Option.bind_some,e5]
  · unfold xN.f
    rw[e4,Option.bind_some,bHT _ k (by omega) (by omega),Option.bind_some,Bool.not_not];rfl
theorem bDP (n:Int):∀ (s p:List Int) (k:Nat),(p ++ s).length < 4611686018427387904→s.length < k→oW.l0 k (p ++ s) n (p.length:Int)=some (s.all iT && (((p ++ s).length:Int)==n)):=by
  intro s
  induction s with
  | nil=>
    intro p k hl hk;obtain⟨k,rfl⟩:∃ m,k=m + 1:=⟨k - 1,by simp at hk;omega⟩
    simp only[oW.l0];rw[if_neg (by simp)];simp
  | cons x s ih=>
    intro p k hl hk;obtain⟨k,rfl⟩:∃ m,k=m + 1:=⟨k - 1,by simp at hk;omega⟩
    simp only[oW.l0];rw[if_pos (by simp;omega),if_pos (by omega),rdI,KM,Option.bind_some];by_cases hx:1≤x∧x≤99
    · rw[decide_eq_true hx,if_pos rfl,FJ p x (by simp at hl;omega),List.append_cons p x s,ih (p ++ [x]) k (by simpa using hl) (by simp at hk;omega)]
      simp[iT,hx]
    · rw[decide_eq_false hx,if_neg (by decide)]
      simp[iT,hx]
theorem bAL:∀ (s p:List Int) (k:Nat),(p ++ s).length < 4611686018427387904→s.length < k→∃ r,iI.l0 k (p ++ s) ((p ++ s).length:Int) (p.length:Int)=some r∧decide (r ≥ 0)= !(s.all iT):=by
  intro s
  induction s with
  | nil=>
    intro p k hl hk;obtain⟨k,rfl⟩:∃ m,k=m + 1:=⟨k - 1,by simp at hk;omega⟩
    simp only[iI.l0];rw[if_neg (by simp)];exact⟨-1,rfl,by simp⟩
  | cons x s ih=>
    intro p k hl hk;obtain⟨k,rfl⟩:∃ m,k=m + 1:=⟨k - 1,by simp at hk;omega⟩
    simp only[iI.l0,zW.f,FV];rw[if_pos (by simp;omega),if_pos (by omega),if_pos (by simp;omega),rdI,Option.bind_some,Option.bind_some];by_cases hx:iT x=true
    · rw[hx,if_neg (by decide),FJ p x (by simp at hl;omega),List.append_cons p x s]
      obtain⟨r,h1,h2⟩:=ih (p ++ [x]) k (by simpa using hl) (by simp at hk;omega);exact⟨r,h1,by rw[h2];simp[hx]⟩
    · rw[Bool.not_eq_true]at hx
      rw[hx,if_pos (by decide)];exact⟨_,rfl,by simp[hx]⟩
theorem aAS (T:List Int) (k:Nat) (hl:T.length≤1048576) (hk:T.length < k):pV.f k T=some (!(T.all iT)):=by
  unfold pV.f iI.f;obtain⟨r,h1,h2⟩:=bAL T [] k (by simp;omega) hk;have h3:iI.l0 k T (T.length:Int) 0=some r:=h1;rw[h3,Option.bind_some,h2]
theorem bU8 (A H:List R) (w:List Int) (hb:A.length + H.length≤1048576) (hwl:w.length≤1048576) (hw:TE H):∃ r:List R × List R × Bool,r.1.length≤100∧r.2.1.length≤100∧(r.2.2=true→good A H=true∧(∀ x ∈ w,iT x=true)∧w.length=A.length + 1∧r.1=A∧r.2.1=hang w 0 H∧good A (hang w 0 H)=true)∧∀ k,1000 + 3 * A.length + 3 * H.length + 3 * w.length≤k→uD.f k A H w=some r∧iO.f k A H w=some r:=by
  by_cases h:good A H=true
  · have ok:=uN h
    have o1:=ok.len;have o2:=ok.same;have hc:=S9 h;have hlv:=VB H [];simp only[List.length_nil,Nat.zero_add]at hlv;have n1:wrap64 ((A.length:Int) + 1)=(A.length:Int) + 1:=bW (by omega) (by omega);have ar:∀ k,w.length < k→oW.f k w ((A.length:Int) + 1)=some (w.all iT && ((w.length:Int)==(A.length:Int) + 1)):=fun k hk=>by
      unfold oW.f;exact bDP _ w [] k (by simp;omega) hk
    by_cases hl:w.length=A.length + 1
    · have hl2:(((leaves [] H).length:Int)=(w.length:Int)):=by omega
      have hl3:(((w.length:Nat):Int)==(A.length:Int) + 1)=true:=by simp;omega
      by_cases hx:w.all iT=true
      · have hm:∀ x ∈ w,iT x=true:=fun x hx2=>List.all_eq_true.1 hx x hx2
        have g:=aDD h hm (by omega);refine⟨(A,hang w 0 H,true),by simp only;omega,by simp only[QV];omega,fun _=>⟨h,hm,hl,rfl,rfl,g⟩,fun k hk=>?_⟩;obtain⟨k,rfl⟩:∃ m,k=m + 1:=⟨k - 1,by omega⟩
        simp(disch:=omega) only[uD.f,iO.f,iO.j0,jP.f,qG A H _ hw,o6,h,n1,ar,hx,hl3,aDC,a5E,FW,hl2,eq_self,aAS,g,Bool.and_self,Bool.not_true,Option.bind_some,if_true,if_false,and_self,Bool.false_eq_true]
      · rw[Bool.not_eq_true]at hx
        refine⟨([],[],false),by simp,by simp,fun hr=>(by cases hr),fun k hk=>?_⟩;obtain⟨k,rfl⟩:∃ m,k=m + 1:=⟨k - 1,by omega⟩
        simp(disch:=omega) only[uD.f,iO.f,iO.j0,qG A H _ hw,o6,h,n1,ar,hx,hl2,eq_self,FW,aAS,Bool.false_and,Bool.not_false,Option.bind_some,if_true,if_false,and_self,Bool.false_eq_true]
    · have hl2:¬ ((w.length:Int)=((leaves [] H).length:Int)):=by omega
      have hl3:(((w.length:Nat):Int)==(A.length:Int) + 1)=false:=by simp;omega
      refine⟨([],[],false),by simp,by simp,fun hr=>(by cases hr),fun k hk=>?_⟩;obtain⟨k,rfl⟩:∃ m,k=m + 1:=⟨k - 1,by omega⟩
      simp(disch:=omega) only[uD.f,iO.f,iO.j0,qG A H _ hw,o6,h,n1,ar,hl3,hl2,FW,Bool.and_false,Option.bind_some,if_true,if_false,and_self,Bool.false_eq_true]
  · refine⟨([],[],false),by simp,by simp,fun hr=>(by cases hr),fun k hk=>?_⟩
    obtain⟨k,rfl⟩:∃ m,k=m + 1:=⟨k - 1,by omega⟩
    simp(disch:=omega) only[uD.f,iO.f,iO.j0,qG A H _ hw,o6,h,Option.bind_some,if_true,if_false,and_self,Bool.false_eq_true]
theorem c5D (A H:List R) (i e:Int) (k:Nat) (hw:TE H) (hk:100≤k):uT.f k A H i e=some (good A H && (decide (0≤i∧i≤(A.length:Int) - 1) && decide (0≤e∧e≤1)))∧IU.f k A H i e=some (good A H && (decide (0≤i∧i≤(A.length:Int) - 1) && decide (0≤e∧e≤1))):=by
  unfold uT.f IU.f;rw[qG A H k hw hk,o6 A H k hk,Option.bind_some,Option.bind_some];by_cases h:good A H=true
  · have o1:=(uN h).len
    rw[if_pos h,if_pos h,bW (x:=(A.length:Int) - 1) (by omega) (by omega),KM,L8,KM,L8,h];by_cases c:0≤i∧i≤(A.length:Int) - 1 <;> simp[c]
  · rw[if_neg h,if_neg h]
    simp[h]
theorem a2G {x d:Int} (hx:1≤x) (hd:1≤d) (hX:x≤1000000) (hm:Int.tmod x d=0):1≤Int.tdiv x d∧Int.tdiv x d≤1000000:=by
  obtain⟨y,hy⟩:=Int.dvd_of_tmod_eq_zero hm;subst hy;rw[Int.mul_tdiv_cancel_left _ (by omega)];have h0:1≤y:=by
    rcases Int.lt_or_le 0 y with h|h
    · omega
    · have:=Int.mul_nonpos_of_nonneg_of_nonpos (show 0≤d by omega) h
      omega
  have:=Int.mul_le_mul_of_nonneg_right hd (show 0≤y by omega);omega
theorem a7K {b x:Int} (h2:1≤b∧b≤12) (h3:1≤x∧x≤6336):wrap64 (b * x)=b * x∧1≤b * x∧b * x≤1000000:=by
  have m1:b * x≤12 * x:=Int.mul_le_mul_of_nonneg_right h2.2 (by omega);have m2:1 * x≤b * x:=Int.mul_le_mul_of_nonneg_right h2.1 (by omega);exact⟨bW (by omega) (by omega),by omega,by omega⟩
def fix (a b x:Int):Int × Bool:=if Int.tmod (b * x) a=0 then(if Int.tdiv (b * x) a > 99 then(0,false)else(Int.tdiv (b * x) a,true))else(0,false)
theorem cH0 (A H:List R) (W:List Int) (j x:Int) (k:Nat) (hk:10≤k) (hws:∀ k,10≤k→dW.f k A H=some W) (i0:0≤j) (i1:j < (A.length:Int)) (i2:j < (H.length:Int)) (e:pX.f (aA H j).f1 W=some x) (h1:1≤(aA A j).f0∧(aA A j).f0≤12) (h2:1≤(aA A j).f1∧(aA A j).f1≤12) (h3:1≤x∧x≤6336):
    iY.j0 (k + 1) j 0 false A H=some (fix (aA A j).f0 (aA A j).f1 x):=by
  obtain⟨p1,p2,p3⟩:=a7K h2 h3;simp only[iY.j0,Bool.false_eq_true,if_false,i0,i1,i2,if_true];rw[hws k hk,Option.bind_some,e,Option.bind_some,if_neg (by omega),p1];unfold fix;by_cases hm:Int.tmod ((aA A j).f1 * x) (aA A j).f0=0
  · have tb:=a2G p2 h1.1 p3 hm
    rw[if_pos hm,if_pos hm,bW (x:=Int.tdiv ((aA A j).f1 * x) (aA A j).f0) (by omega) (by omega)];generalize Int.tdiv ((aA A j).f1 * x) (aA A j).f0=Q at tb;by_cases hq:Q > 99 <;> simp[hq]
  · rw[if_neg hm,if_neg hm]
theorem cH1 (A H:List R) (W:List Int) (j x:Int) (k:Nat) (hk:10≤k) (hws:∀ k,10≤k→dW.f k A H=some W) (i0:0≤j) (i1:j < (A.length:Int)) (i2:j < (H.length:Int)) (e:pX.f (aA H j).f0 W=some x) (h1:1≤(aA A j).f1∧(aA A j).f1≤12) (h2:1≤(aA A j).f0∧(aA A j).f0≤12) (h3:1≤x∧x≤6336):
    iY.j0 (k + 1) j 1 false A H=some (fix (aA A j).f1 (aA A j).f0 x):=by
  obtain⟨p1,p2,p3⟩:=a7K h2 h3;have q:¬ ((1:Int)=0):=by omega
  simp only[iY.j0,Bool.false_eq_true,if_false,i0,i1,i2,q,if_true];rw[hws k hk,Option.bind_some,e,Option.bind_some,if_neg (by omega),p1];unfold fix;by_cases hm:Int.tmod ((aA A j).f0 * x) (aA A j).f1=0
  · have tb:=a2G p2 h1.1 p3 hm
    rw[if_pos hm,if_pos hm,bW (x:=Int.tdiv ((aA A j).f0 * x) (aA A j).f1) (by omega) (by omega)];generalize Int.tdiv ((aA A j).f0 * x) (aA A j).f1=Q at tb;by_cases hq:Q > 99 <;> simp[hq]
  · rw[if_neg hm,if_neg hm]
theorem cH2 (A H:List R) (W:List Int) (j x:Int) (k:Nat) (hk:10≤k) (hws:∀ k,10≤k→dW.f k A H=some W) (i0:0≤j) (i1:j < (A.length:Int)) (i2:j < (H.length:Int)) (e:pX.f (aA H j).f1 W=some x) (h1:1≤(aA A j).f0∧(aA A j).f0≤12) (h2:1≤(aA A j).f1∧(aA A j).f1≤12) (h3:1≤x∧x≤6336):
    iX.j0 (k + 1) j 0 false A H=some (fix (aA A j).f0 (aA A j).f1 x):=by
  obtain⟨p1,p2,p3⟩:=a7K h2 h3;simp only[iX.j0,Bool.false_eq_true,if_false,i0,i1,i2,if_true];rw[KN,hws k hk,Option.bind_some,a0B,e,Option.bind_some,if_neg (by omega),p1];unfold fix;by_cases hm:Int.tmod ((aA A j).f1 * x) (aA A j).f0=0
  · have tb:=a2G p2 h1.1 p3 hm
    rw[if_pos hm,if_pos hm,bW (x:=Int.tdiv ((aA A j).f1 * x) (aA A j).f0) (by omega) (by omega)];generalize Int.tdiv ((aA A j).f1 * x) (aA A j).f0=Q at tb;rw[FV,Option.bind_some];unfold iT;by_cases hq:Q > 99
    · rw[decide_eq_false (by omega),if_pos hq]
      rfl
    · rw[decide_eq_true (by omega),if_neg hq]
      rfl
  · rw[if_neg hm,if_neg hm]
theorem cH3 (A H:List R) (W:List Int) (j x:Int) (k:Nat) (hk:10≤k) (hws:∀ k,10≤k→dW.f k A H=some W) (i0:0≤j) (i1:j < (A.length:Int)) (i2:j < (H.length:Int)) (e:pX.f (aA H j).f0 W=some x) (h1:1≤(aA A j).f1∧(aA A j).f1≤12) (h2:1≤(aA A j).f0∧(aA A j).f0≤12) (h3:1≤x∧x≤6336):
    iX.j0 (k + 1) j 1 false A H=some (fix (aA A j).f1 (aA A j).f0 x):=by
  obtain⟨p1,p2,p3⟩:=a7K h2 h3;have q:¬ ((1:Int)=0):=by omega
  simp only[iX.j0,Bool.false_eq_true,if_false,i0,i1,i2,q,if_true];rw[KN,hws k hk,Option.bind_some,a0B,e,Option.bind_some,if_neg (by omega),p1];unfold fix;by_cases hm:Int.tmod ((aA A j).f0 * x) (aA A j).f1=0
  · have tb:=a2G p2 h1.1 p3 hm
    rw[if_pos hm,if_pos hm,bW (x:=Int.tdiv ((aA A j).f0 * x) (aA A j).f1) (by omega) (by omega)];generalize Int.tdiv ((aA A j).f0 * x) (aA A j).f1=Q at tb;rw[FV,Option.bind_some];unfold iT;by_cases hq:Q > 99
    · rw[decide_eq_false (by omega),if_pos hq]
      rfl
    · rw[decide_eq_true (by omega),if_neg hq]
      rfl
  · rw[if_neg hm,if_neg hm]
theorem aPN (A H:List R) (i e:Int) (k:Nat):iY.j0 (k + 1) i e true A H=some (0,false)∧iX.j0 (k + 1) i e true A H=some (0,false):=by
  simp only[iY.j0,iX.j0,if_true,and_self]
theorem bDQ {a b x:Int} (ha:1≤a∧a≤12) (hb:1≤b∧b≤12) (hx:1≤x∧x≤6336) (h:(fix a b x).2=true):iT (fix a b x).1=true∧(fix a b x).1 * a=b * x:=by
  obtain⟨p1,p2,p3⟩:=a7K hb hx;unfold fix at h ⊢;by_cases hm:Int.tmod (b * x) a=0
  · have tb:=a2G p2 ha.1 p3 hm
    obtain⟨y,hy⟩:=Int.dvd_of_tmod_eq_zero hm;have q:Int.tdiv (b * x) a=y:=by rw[hy];exact Int.mul_tdiv_cancel_left _ (by omega)
    rw[if_pos hm]at h ⊢;rw[q]at h tb ⊢;by_cases hq:y > 99
    · rw[if_pos hq]at h
      cases h
    · rw[if_neg hq]
      exact⟨by simp only[iT,decide_eq_true_eq];omega,by rw[hy,Int.mul_comm]⟩
  · rw[if_neg hm]at h
    cases h
def bAM (A H:List R) (i e v:Int):Prop:=good A H=true∧∃ j:Nat,i=(j:Int)∧j < A.length∧∃ W,L9 A H W∧
  ((e=0∧iT (aA H j).f0=true∧iT v=true∧v * (aA A j).f0=(aA A j).f1 * qM W (aA H j).f1)∨
   (e=1∧iT (aA H j).f1=true∧iT v=true∧v * (aA A j).f1=(aA A j).f0 * qM W (aA H j).f0))
theorem b2K {i n h:Int} (hi:0≤i) (hf:qL i n h=true) (hn:¬ (h < 0)):iT h=true:=by
  simp only[qL,Bool.or_eq_true]at hf;rcases hf with hf|hf
  · exact hf
  · rw[decide_eq_true_eq]at hf
    omega
theorem bU9 (A H:List R) (i e:Int) (hb:A.length + H.length≤1048576) (hw:TE H):∃ r:Int × Bool,(r.2=true→bAM A H i e r.1)∧∀ k,1000 + 3 * A.length + 3 * H.length≤k→iY.f k A H i e=some r∧iX.f k A H i e=some r:=by
  have hrod:=fun k hk=>c5D A H i e k hw hk
  by_cases hg:(good A H && (decide (0≤i∧i≤(A.length:Int) - 1) && decide (0≤e∧e≤1)))=true
  · have hg':=hg
    simp only[Bool.and_eq_true,decide_eq_true_eq]at hg';rw[hg]at hrod;have ok:=uN hg'.1;have o1:=ok.len;have o2:=ok.same;obtain⟨j,rfl⟩:∃ j:Nat,i=(j:Int):=⟨i.toNat,by omega⟩
    obtain⟨W,hW,hq,hws⟩:=a3Z ok;have o3:=hW.len;have f:=ok.fin j (by omega);have ar:=ok.arm j (by omega);simp only[xG,decide_eq_true_eq]at ar;have e0:=at_eq (W:=W) (by omega) (by omega) f.1 (by omega);have e1:=at_eq (W:=W) (by omega) (by omega) f.2 (by omega);have b0:=TF (W:=W) f.1 (by omega) o3 (fun m h1 h2=>hW.bound m h2);have b1:=TF (W:=W) f.2 (by omega) o3 (fun m h1 h2=>hW.bound m h2);have b6:=bd6 (A.length - j - 1) (by omega);have i0:0≤(j:Int):=by omega
    have i1:(j:Int) < (A.length:Int):=by omega
    have i2:(j:Int) < (H.length:Int):=by omega
    by_cases he:e=0
    · subst he
      have q1:∀ k,100≤k→iY.f k A H j 0=iY.j0 k j 0 (decide ((aA H j).f0 < 0)) A H∧iX.f k A H j 0=iX.j0 k j 0 (decide ((aA H j).f0 < 0)) A H:=by
        intro k hk;unfold iY.f iX.f;rw[(hrod k hk).1,(hrod k hk).2,Option.bind_some,Option.bind_some];simp only[i0,i2,if_true,and_self]
      by_cases hn:(aA H j).f0 < 0
      · refine⟨(0,false),fun hr=>(by cases hr),fun k hk=>?_⟩
        obtain⟨k,rfl⟩:∃ m,k=m + 1:=⟨k - 1,by omega⟩
        rw[(q1 (k + 1) (by omega)).1,(q1 (k + 1) (by omega)).2,decide_eq_true hn];exact aPN A H j 0 k
      · refine⟨fix (aA A j).f0 (aA A j).f1 (qM W (aA H j).f1),fun hr=>⟨hg'.1,j,rfl,by omega,W,hq,.inl ⟨rfl,b2K i0 f.1 hn,bDQ ar.1 ar.2 ⟨b1.1,by omega⟩ hr⟩⟩,fun k hk=>?_⟩
        obtain⟨k,rfl⟩:∃ m,k=m + 1:=⟨k - 1,by omega⟩
        rw[(q1 (k + 1) (by omega)).1,(q1 (k + 1) (by omega)).2,decide_eq_false hn];exact⟨cH0 A H W j _ k (by omega) hws i0 i1 i2 e1 ar.1 ar.2 ⟨b1.1,by omega⟩,cH2 A H W j _ k (by omega) hws i0 i1 i2 e1 ar.1 ar.2 ⟨b1.1,by omega⟩⟩
    · have he1:e=1:=by omega
      subst he1;have q1:∀ k,100≤k→iY.f k A H j 1=iY.j0 k j 1 (decide ((aA H j).f1 < 0)) A H∧iX.f k A H j 1=iX.j0 k j 1 (decide ((aA H j).f1 < 0)) A H:=by
        intro k hk;unfold iY.f iX.f;rw[(hrod k hk).1,(hrod k hk).2,Option.bind_some,Option.bind_some];simp only[i0,i2,he,if_true,if_false,and_self]
      by_cases hn:(aA H j).f1 < 0
      · refine⟨(0,false),fun hr=>(by cases hr),fun k hk=>?_⟩
        obtain⟨k,rfl⟩:∃ m,k=m + 1:=⟨k - 1,by omega⟩
        rw[(q1 (k + 1) (by omega)).1,(q1 (k + 1) (by omega)).2,decide_eq_true hn];exact aPN A H j 1 k
      · refine⟨fix (aA A j).f1 (aA A j).f0 (qM W (aA H j).f0),fun hr=>⟨hg'.1,j,rfl,by omega,W,hq,.inr ⟨rfl,b2K i0 f.2 hn,bDQ ar.2 ar.1 ⟨b0.1,by omega⟩ hr⟩⟩,fun k hk=>?_⟩
        obtain⟨k,rfl⟩:∃ m,k=m + 1:=⟨k - 1,by omega⟩
        rw[(q1 (k + 1) (by omega)).1,(q1 (k + 1) (by omega)).2,decide_eq_false hn];exact⟨cH1 A H W j _ k (by omega) hws i0 i1 i2 e0 ar.2 ar.1 ⟨b0.1,by omega⟩,cH3 A H W j _ k (by omega) hws i0 i1 i2 e0 ar.2 ar.1 ⟨b0.1,by omega⟩⟩
  · rw[Bool.not_eq_true]at hg
    rw[hg]at hrod;refine⟨(0,false),fun hr=>(by cases hr),fun k hk=>?_⟩;obtain⟨k,rfl⟩:∃ m,k=m + 1:=⟨k - 1,by omega⟩
    unfold iY.f iX.f;rw[(hrod (k + 1) (by omega)).1,(hrod (k + 1) (by omega)).2,Option.bind_some,Option.bind_some,if_neg (by simp),if_neg (by simp)];exact aPN A H i e k
theorem bDR {A H:List R} (h:good A H=true) {W:List Int} (hq:L9 A H W) (j:Nat) (hj:j < A.length) (y:R) (r0:rel (aA H j).f0 y.f0) (r1:rel (aA H j).f1 y.f1):
    ∃ V,(∀ x:Int,qL (j:Int) (A.length:Int) x=true→qM V x=qM W x)∧∀ k,1200≤k→wH.f k A (H.set j y)=some (tn V A (H.set j y),true)∧(j:Int) < ((tn V A (H.set j y)).length:Int)∧rd (tn V A (H.set j y)) (j:Int)=(aA A j).f1 * qM V y.f1 - (aA A j).f0 * qM V y.f0:=by
  have ok:=uN h;have o2:=ok.same
  have g:good A (H.set j y)=true:=bHO h (by simp) (fun m hm=>by
    rw[SA]
    by_cases c:j=m
    · subst c
      rw[if_pos ⟨rfl,hm⟩]
      exact⟨r0,r1⟩
    · rw[if_neg (by omega)]
      exact⟨.inl rfl,.inl rfl⟩)
  obtain⟨V,hV,hv,hs⟩:=aT9 g;have sl:(H.set j y).length=A.length:=by simp;omega
  have tl:=aDE V A (H.set j y) sl.symm;have e:=bOZ V A (H.set j y) j sl.symm hj;rw[SA,if_pos ⟨rfl,by omega⟩]at e;refine⟨V,fun x hx=>bDJ ok hq hv j hj (fun m h1 h2=>by rw[SA,if_neg (by omega)]) hx,fun k hk=>⟨?_,by omega,?_⟩⟩
  · simp only[wH.f,o6 A (H.set j y) k (by omega),g,(hs k (by omega)).2.2.1,Option.bind_some,if_true]
  · simp only[rd,Int.toNat_natCast]
    exact e
theorem c5E {A H:List R} {i e v:Int} (o:bAM A H i e v) (k:Nat) (hk:1200≤k):∃ j:Nat,i=(j:Int)∧(j:Int) < (H.length:Int)∧
    ((e=0∧∃ T,wH.f k A (H.set j (⟨v,(aA H j).f1⟩:R))=some (T,true)∧(j:Int) < (T.length:Int)∧rd T (j:Int)=0)∨
     (e=1∧∃ T,wH.f k A (H.set j (⟨(aA H j).f0,v⟩:R))=some (T,true)∧(j:Int) < (T.length:Int)∧rd T (j:Int)=0)):=by
  obtain⟨h,j,rfl,hj,W,hq,c⟩:=o;have ok:=uN h;have o2:=ok.same;have f:=ok.fin j hj;have lv:∀ (V:List Int) (x:Int),iT x=true→qM V x=x:=fun V x hx=>by
    simp only[iT,decide_eq_true_eq]at hx;unfold qM;rw[if_neg (by omega)]
  refine⟨j,rfl,by omega,?_⟩;rcases c with⟨he,c1,c2,c3⟩|⟨he,c1,c2,c3⟩
  · obtain⟨V,v1,v2⟩:=bDR h hq j hj (⟨v,(aA H j).f1⟩:R) (.inr ⟨c1,c2⟩) (.inl rfl)
    obtain⟨w1,w2,w3⟩:=v2 k hk;refine .inl ⟨he,_,w1,w2,?_⟩;rw[w3,lv V v c2,v1 _ f.2,← c3,Int.mul_comm v];omega
  · obtain⟨V,v1,v2⟩:=bDR h hq j hj (⟨(aA H j).f0,v⟩:R) (.inl rfl) (.inr ⟨c1,c2⟩)
    obtain⟨w1,w2,w3⟩:=v2 k hk;refine .inr ⟨he,_,w1,w2,?_⟩;rw[w3,lv V v c2,v1 _ f.1,← c3,Int.mul_comm v];omega
theorem bAN:∀ (s p:List Int) (k:Nat),(p ++ s).length < 4611686018427387904→s.length < k→∃ r,iJ.l0 k (p ++ s) ((p ++ s).length:Int) (p.length:Int)=some r∧decide (r ≥ 0)= !(s.all iT):=by
  intro s
  induction s with
  | nil=>
    intro p k hl hk;obtain⟨k,rfl⟩:∃ m,k=m + 1:=⟨k - 1,by simp at hk;omega⟩
    simp only[iJ.l0];rw[if_neg (by simp)];exact⟨-1,rfl,by simp⟩
  | cons x s ih=>
    intro p k hl hk;obtain⟨k,rfl⟩:∃ m,k=m + 1:=⟨k - 1,by simp at hk;omega⟩
    simp only[iJ.l0,xI.f,FV];rw[if_pos (by simp;omega),if_pos (by omega),if_pos (by simp;omega),rdI,Option.bind_some,Option.bind_some];by_cases hx:iT x=true
    · rw[hx,if_neg (by decide),FJ p x (by simp at hl;omega),List.append_cons p x s]
      obtain⟨r,h1,h2⟩:=ih (p ++ [x]) k (by simpa using hl) (by simp at hk;omega);exact⟨r,h1,by rw[h2];simp[hx]⟩
    · rw[Bool.not_eq_true]at hx
      rw[hx,if_pos (by decide)];exact⟨_,rfl,by simp[hx]⟩
theorem aM7 (T:List Int) (k:Nat) (hl:T.length≤1048576) (hk:T.length < k):oO.f k T=some (!(T.all iT)):=by
  unfold oO.f iJ.f;obtain⟨r,h1,h2⟩:=bAN T [] k (by simp;omega) hk;have h3:iJ.l0 k T (T.length:Int) 0=some r:=h1;rw[h3,Option.bind_some,h2]
theorem aDI (l:List Int) (h:l.length≤1048576):nE.f l=some l:=by
  simp only[nE.f,Option.bind_some,List.nil_append,List.length_nil];rw[if_pos (by omega)]
theorem b2L (a b:Int):cmp_Less_int.f a b=some (decide (a < b)):=by
  simp[cmp_Less_int.f,cmp_isNaN_int.f]
theorem insert (w rest:List Int) (x:Int) (i n:Nat) (hi:i < w.length) (hn:w.length≤100) (hx:rd w (i:Int)=x):∀ (m:Nat) (a b:List Int),a.length=m→a.length + b.length=i→i + 1 + rest.length≤100→
    ∃ out:List Int,out.length=i + 1∧tot out=tot a + tot b + x∧(∀ e ∈ out,e=x∨e ∈ a∨e ∈ b)∧
      (∀ (r:List Int) (K:Nat),(∀ k,K≤k→dG.l0 k w out ((i + 1:Nat):Int)=some r)→∀ k,K + m + 2≤k→dG.l1 k w (a ++ b) (i:Int) (m:Int)=some r)∧
      (∀ (r:List Int) (K:Nat),(∀ k,K≤k→aU.l0 k (out ++ rest) 0 (n:Int) ((i + 1:Nat):Int)=some r)→∀ k,K + m + 1≤k→aU.l1 k (a ++ x::b ++ rest) 0 (n:Int) (i:Int) (m:Int)=some r):=by
  have hw1:wrap64 ((i:Int) + 1)=((i + 1:Nat):Int):=by rw[bW (by omega) (by omega)];omega
  intro m
  induction m with
  | zero=>
    intro a b ha hab hr;obtain rfl:=List.eq_nil_of_length_eq_zero ha;refine⟨x::b,by simp at hab ⊢;omega,by simp[tot];omega,by simp,fun r K h k hk=>?_,fun r K h k hk=>?_⟩
    · obtain⟨k,rfl⟩:∃ m,k=m + 2:=⟨k - 2,by omega⟩
      simp only[dG.l1];rw[if_neg (by decide)];simp only[dG.j2];rw[if_pos (by decide),if_pos (by simp)];simp only[Int.toNat_zero,Int.natCast_zero,List.take_zero,List.drop_zero,List.nil_append];rw[a0C _ (by simp),Option.bind_some,if_pos (by omega),if_pos (by omega),hx];simp only[Option.bind_some,List.nil_append,List.length_nil,List.length_cons];rw[if_pos (by omega),if_pos (by simp at hab;omega),hw1];exact h k (by omega)
    · obtain⟨k,rfl⟩:∃ m,k=m + 1:=⟨k - 1,by omega⟩
      simp only[aU.l1];rw[if_neg (by decide),hw1];exact h k (by omega)
  | succ m ih=>
    intro a b ha hab hr;obtain⟨a,y,rfl⟩:∃ a' y,a=a' ++ [y]:=by
      rcases List.eq_nil_or_concat a with h|⟨a',y,h⟩
      · rw[h]at ha;simp at ha
      · exact⟨a',y,by simpa using h⟩
    have ham:a.length=m:=by simpa using ha
    have hm1:wrap64 (((m + 1:Nat):Int) - 1)=(m:Int):=by rw[bW (by simp at hab;omega) (by simp at hab;omega)];omega
    have hy:rd (a ++ [y] ++ b) (m:Int)=y:=by
      rw[← ham,show a ++ [y] ++ b=a ++ y::b by simp];exact rdI a b y
    have e1:a ++ [y] ++ x::b ++ rest=a ++ y::(x::b ++ rest):=by simp
    have hy2:rd (a ++ [y] ++ x::b ++ rest) (m:Int)=y:=by
      rw[e1,← ham];exact rdI a _ y
    have hx2:rd (a ++ [y] ++ x::b ++ rest) ((m + 1:Nat):Int)=x:=by
      rw[show a ++ [y] ++ x::b ++ rest=(a ++ [y]) ++ x::(b ++ rest) by simp,← ha];exact rdI _ _ x
    by_cases hlt:x < y
    · obtain⟨out,o1,o5,o2,o3,o4⟩:=ih a (y::b) ham (by simp at hab ⊢;omega) hr
      refine⟨out,o1,by rw[o5,VD];simp only[tot];omega,fun e he=>?_,fun r K h k hk=>?_,fun r K h k hk=>?_⟩
      · rcases o2 e he with h|h|h
        · exact .inl h
        · exact .inr (.inl (by simp[h]))
        · rcases List.mem_cons.1 h with h|h
          · exact .inr (.inl (by simp[h]))
          · exact .inr (.inr h)
      · obtain⟨k,rfl⟩:∃ m,k=m + 1:=⟨k - 1,by omega⟩
        simp only[dG.l1];rw[if_pos (by omega),if_pos (by omega),if_pos (by omega),hm1,if_pos (by omega),if_pos (by simp at hab ⊢;omega),hx,hy,if_pos hlt,show a ++ [y] ++ b=a ++ y::b by simp];exact o3 r K h k (by omega)
      · obtain⟨k,rfl⟩:∃ m,k=m + 1:=⟨k - 1,by omega⟩
        simp only[aU.l1];rw[if_pos (by omega),if_pos (by omega),if_pos (by simp at hab ⊢;omega),hm1,if_pos (by omega),if_pos (by simp at hab ⊢;omega),b2L,Option.bind_some,hx2,hy2,decide_eq_true hlt,if_pos rfl];have e2:((a ++ [y] ++ x::b ++ rest).set (((m + 1:Nat):Int)).toNat y).set ((m:Nat):Int).toNat x=a ++ x::(y::b) ++ rest:=by
          rw[Int.toNat_natCast,Int.toNat_natCast,show a ++ [y] ++ x::b ++ rest=(a ++ [y]) ++ x::(b ++ rest) by simp,← ha,set_mid,show a ++ [y] ++ y::(b ++ rest)=a ++ y::(y::(b ++ rest)) by simp,← ham,set_mid];simp
        rw[e2];exact o4 r K h k (by omega)
    · refine⟨a ++ [y] ++ x::b,by simp at hab ⊢;omega,by rw[VD];simp only[tot];omega,fun e he=>?_,fun r K h k hk=>?_,fun r K h k hk=>?_⟩
      · simp at he ⊢
        rcases he with h|h|h|h <;> simp[h]
      · obtain⟨k,rfl⟩:∃ m,k=m + 2:=⟨k - 2,by omega⟩
        simp only[dG.l1];rw[if_pos (by omega),if_pos (by omega),if_pos (by omega),hm1,if_pos (by omega),if_pos (by simp at hab ⊢;omega),hx,hy,if_neg hlt];simp only[dG.j2];rw[if_pos (by omega),if_pos (by simp at hab ⊢;omega),Int.toNat_natCast,← ha,List.take_left,List.drop_left,a0C _ (by simp at hab ⊢;omega),hx];simp only[Option.bind_some,List.length_cons,List.length_nil,List.length_append];rw[if_pos (by omega),if_pos (by omega),if_pos (by simp at hab;omega),if_pos (by simp at hab;omega),hw1];have e3:a ++ [y] ++ [x] ++ b=a ++ [y] ++ x::b:=by simp
        rw[e3];exact h k (by omega)
      · obtain⟨k,rfl⟩:∃ m,k=m + 1:=⟨k - 1,by omega⟩
        simp only[aU.l1];rw[if_pos (by omega),if_pos (by omega),if_pos (by simp at hab ⊢;omega),hm1,if_pos (by omega),if_pos (by simp at hab ⊢;omega),b2L,Option.bind_some,hx2,hy2,decide_eq_false hlt,if_neg (by decide),hw1];exact h k (by omega)
theorem bDS (w:List Int) (hn:w.length≤50):∀ (s p out:List Int),p ++ s=w→out.length=p.length→∃ r:List Int,r.length=w.length∧tot r=tot out + tot s∧(∀ e ∈ r,e ∈ out∨e ∈ s)∧∀ k,100 * s.length + 1≤k→
    dG.l0 k w out (p.length:Int)=some r∧aU.l0 k (out ++ s) 0 (w.length:Int) (p.length:Int)=some r:=by
  intro s
  induction s with
  | nil=>
    intro p out hp ho;refine⟨out,by rw[ho,← hp];simp,by simp[tot],fun e he=> .inl he,fun k hk=>?_⟩;obtain⟨k,rfl⟩:∃ m,k=m + 1:=⟨k - 1,by omega⟩
    have e:p.length=w.length:=by rw[← hp];simp
    simp only[dG.l0,aU.l0];rw[if_neg (by omega),if_neg (by omega)];simp
  | cons x s ih=>
    intro p out hp ho;have hl:p.length + s.length + 1=w.length:=by rw[← hp];simp;omega
    have hx:rd w (p.length:Int)=x:=by rw[← hp];exact rdI p s x
    obtain⟨cV6,o1,o5,o2,o3,o4⟩:=insert w s x p.length w.length (by omega) (by omega) hx p.length out [] ho (by simp[ho]) (by omega);obtain⟨r,r1,r4,r2,r3⟩:=ih (p ++ [x]) cV6 (by rw[← hp];simp) (by simp[o1]);rw[show(p ++ [x]).length=p.length + 1 by simp]at r3;refine⟨r,r1,by rw[r4,o5];simp only[tot];omega,fun e he=>?_,fun k hk=>?_⟩
    · rcases r2 e he with h|h
      · rcases o2 e h with h|h|h
        · exact .inr (by simp[h])
        · exact .inl h
        · cases h
      · exact .inr (by simp[h])
    · obtain⟨k,rfl⟩:∃ m,k=m + 1:=⟨k - 1,by omega⟩
      have h3:=o3 r (100 * s.length + 1) (fun k hk=>(r3 k hk).1) k (by simp at hk;omega);have h4:=o4 r (100 * s.length + 1) (fun k hk=>(r3 k hk).2) k (by simp at hk;omega);simp only[dG.l0,aU.l0];rw[if_pos (by omega),if_pos (by omega),ho];refine⟨by simpa using h3,?_⟩;rw[show out ++ [x] ++ s=out ++ x::s by simp]at h4
      simpa using h4
set_option maxRecDepth 100000 in
theorem c5F (n:Nat) (h:n≤200) (k:Nat) (hk:2≤k):∃ t,bits_Len.f k (IntKind.u64.wrap (n:Int))=some t:=by
  obtain⟨k,rfl⟩:∃ m,k=m + 2:=⟨k - 2,by omega⟩
  have e:IntKind.u64.wrap (n:Int)=(n:Int):=by simp only[IntKind.wrap,IntKind.signed,IntKind.bits,Bool.false_and,Bool.false_eq_true,if_false];omega
  unfold bits_Len.f bits_Len64.f;rw[e,if_neg (by omega)];simp only[bits_Len64.j0];rw[if_neg (by omega)];simp only[bits_Len64.j1];rw[if_neg (by omega),if_pos (by omega),if_pos (by omega)];exact⟨_,rfl⟩
theorem bDT (w:List Int) (h1:1≤w.length) (hn:w.length≤7):∃ r:List Int,r.length=w.length∧tot r=tot w∧(∀ e ∈ r,e ∈ w)∧∀ k,1000≤k→dG.f k w=some r∧xH.f k w=some r:=by
  obtain⟨x,s,rfl⟩:∃ x s,w=x::s:=by
    cases w with
    |nil=>simp at h1
    |cons x s=>exact⟨x,s,rfl⟩
  obtain⟨r,r1,r4,r2,r3⟩:=bDS (x::s) (by omega) s [x] [x] rfl rfl;refine⟨r,r1,by rw[r4];simp[tot],fun e he=>?_,fun k hk=>?_⟩
  · rcases r2 e he with h|h
    · simp at h;simp[h]
    · simp[h]
  · have hlen:s.length≤6:=by simpa using hn
    obtain⟨t,ht⟩:=c5F (x::s).length (by omega) k (by omega);have h2:=(r3 k (by omega)).2;have w01:wrap64 (0 + 1)=(([x]:List Int).length:Int):=by rw[bW (by omega) (by omega)];rfl
    have h12:wrap64 (((x::s).length:Int) - 0)≤12:=by rw[bW (by simp;omega) (by simp;omega)];omega
    refine⟨?_,?_⟩
    · obtain⟨k,rfl⟩:∃ m,k=m + 3:=⟨k - 3,by omega⟩
      have hx:rd (x::s) 0=x:=by simp[rd]
      unfold dG.f;simp only[dG.l0];rw[if_pos (by simp)];simp only[dG.l1];rw[if_neg (by decide)];simp only[dG.j2];rw[if_pos (by decide),if_pos (by decide)];simp only[List.take_nil,List.drop_nil];rw[a0C _ (by simp),Option.bind_some,if_pos (by decide),if_pos (by simp),hx];simp only[Option.bind_some,List.nil_append,List.length_nil,List.length_cons];rw[if_pos (by omega),if_pos (by omega),w01];exact(r3 k (by omega)).1
    · unfold xH.f sV.f aU.f
      rw[ht,Option.bind_some,if_pos h12];have h5:aU.l0 k (x::s) 0 ((x::s).length:Int) (wrap64 (0 + 1))=some r:=by rw[w01];exact h2
      rw[h5];rfl
structure Mr (A H:List R) (N:Int) (r:List Int × Bool):Prop where
  len:r.1.length≤7
  ok:r.2=true→r.1.length=A.length + 1∧(∀ x ∈ r.1,iT x=true)∧tot r.1=N∧∀ k,1200≤k→qU.f k A (hang r.1 0 H)=some (true,true)
theorem Mr.tt {A H:List R} {N:Int} {r:List Int × Bool} (o:Mr A H N r) (h:r.2=true):Mr A H N (r.1,true):=⟨o.len,fun _=>o.ok h⟩
theorem more (A H:List R) (h:good A H=true):∀ (n:Nat) (order left:List Int),left.length=n→order.length + n=A.length + 1→(∀ x ∈ order,iT x=true)→(∀ x ∈ left,iT x=true)→∃ r:List Int × Bool,Mr A H (tot order + tot left) r∧∀ k,2000 + 100 * n≤k→bH.f k A H order left=some r∧bI.f k A H order left=some r:=by
  have ok:=uN h;have o1:=ok.len;have o2:=ok.same;have hc:=S9 h;intro n
  induction n with
  | zero=>
    intro order left hl hn ho _;obtain rfl:=List.eq_nil_of_length_eq_zero hl;have g:=aDD h ho (by omega);obtain⟨V,_,_,hb⟩:=aT9 g;refine⟨(order,flat (tn V A (hang order 0 H))),⟨by simp only;omega,fun hr=>⟨by simp only;omega,ho,by simp[tot],fun k hk=>?_⟩⟩,fun k hk=>?_⟩
    · simp only[qU.f,o6 A (hang order 0 H) k (by omega),g,(hb k (by omega)).2.2.2.2,Option.bind_some,if_true]
      exact congrArg (fun b=>some (b,true)) hr
    obtain⟨k,rfl⟩:∃ m,k=m + 1:=⟨k - 1,by omega⟩
    have hb1:=(hb k (by omega)).2.2.2.1;have hb2:=(hb k (by omega)).2.2.2.2;have z:(([]:List Int).length:Int)=0:=rfl;simp(disch:=omega) only[bH.f,bI.f,z,aDC,a5E,Option.bind_some,hb1,hb2,if_true,and_self]
  | succ n ih=>
    intro order left hl hn ho hw;clear hc;have loop:∀ (s p:List Int),p ++ s=left→∃ r:List Int × Bool,Mr A H (tot order + tot left) r∧∀ k,2000 + 100 * n + 2 * s.length + 2≤k→bH.l0 k order left (p.length:Int) A H=some r∧bI.l0 k order left left (left.length:Int) (p.length:Int) A H=some r:=by
      intro s
      induction s with
      | nil=>
        intro p hp;refine⟨([],false),⟨by simp,fun hr=>(by cases hr)⟩,fun k hk=>?_⟩;obtain⟨k,rfl⟩:∃ m,k=m + 1:=⟨k - 1,by omega⟩
        have e:p.length=left.length:=by rw[← hp];simp
        simp only[bH.l0,bI.l0];rw[if_neg (by omega),if_neg (by omega)];exact⟨rfl,rfl⟩
      | cons x s ihs=>
        intro p hp;have hx:rd left (p.length:Int)=x:=by rw[← hp];exact rdI p s x
        have hlen:p.length + s.length + 1=left.length:=by rw[← hp];simp;omega
        have hs1:wrap64 ((p.length:Int) + 1)=((p.length + 1:Nat):Int):=by rw[bW (by omega) (by omega)];omega
        obtain⟨r1,hr1,h1⟩:=ihs (p ++ [x]) (by rw[← hp];simp);rw[show(p ++ [x]).length=p.length + 1 by simp]at h1;have hall:∀ y ∈ p ++ s,iT y=true:=fun y hy=>hw y (by rw[← hp];simp at hy ⊢;rcases hy with h|h <;> simp[h])
        obtain⟨r2,hr2,h2⟩:=ih (order ++ [x]) (p ++ s) (by simp;omega) (by simp;omega) (fun y hy=>by
          rcases List.mem_append.1 hy with h|h
          · exact ho y h
          · exact hw y (by rw[← hp];simp at h;simp[h])) hall
        have hN:tot (order ++ [x]) + tot (p ++ s)=tot order + tot left:=by
          rw[← hp,VD,VD,VD];simp only[tot];omega
        rw[hN]at hr2;have htake:left.take p.length=p:=by rw[← hp,List.take_left]
        have hdrop:left.drop (p.length + 1)=s:=by rw[← hp,List.append_cons,List.drop_left' (by simp)]
        have herase:left.eraseIdx p.length=p ++ s:=by rw[List.eraseIdx_eq_take_drop_succ,htake,hdrop]
        have hdel:lW.f left (p.length:Int) ((p.length + 1:Nat):Int)=some (p ++ s):=by
          unfold lW.f;have cd:0≤(p.length:Int)∧((p.length + 1:Nat):Int)=(p.length:Int) + 1∧((p.length + 1:Nat):Int)≤(left.length:Int):=⟨Int.natCast_nonneg _,by omega,by omega⟩
          rw[if_pos cd,Int.toNat_natCast,herase]
        have jf:∀ k,2000 + 100 * n + 2 * s.length + 3≤k→bH.j1 k order left (p.length:Int) false A H=some (if r2.2=true then(r2.1,true)else r1)∧bI.j1 k order left (p.length:Int) x left (left.length:Int) (p.length:Int) false A H=some (if r2.2=true then(r2.1,true)else r1):=by
          intro k hk;obtain⟨k,rfl⟩:∃ m,k=m + 1:=⟨k - 1,by omega⟩
          have hf:=h2 k (by omega);have hg:=h1 k (by omega);refine⟨?_,?_⟩
          · simp only[bH.j1]
            rw[if_neg (by decide),if_pos (by omega),if_pos (by omega),Int.toNat_natCast,htake,a0C _ (by omega),Option.bind_some,hs1,if_pos (by omega),if_pos (by omega),Int.toNat_natCast,hdrop];simp only[Option.bind_some];rw[if_pos (by omega),a0C _ (by omega),Option.bind_some,if_pos (by omega),hx];simp only[Option.bind_some,List.length_cons,List.length_nil];rw[if_pos (by omega),hf.1,Option.bind_some,hg.1];by_cases hb:r2.2=true
            · rw[if_pos hb,if_pos hb]
            · rw[if_neg hb,if_neg hb]
          · simp only[bI.j1]
            rw[if_neg (by decide),aDI _ (by omega),Option.bind_some,hs1,hdel,Option.bind_some,aDI _ (by omega)];simp only[Option.bind_some,List.length_cons,List.length_nil];rw[if_pos (by omega),hf.2,Option.bind_some,hg.2];by_cases hb:r2.2=true
            · rw[if_pos hb,if_pos hb]
            · rw[if_neg hb,if_neg hb]
        have jt:∀ k,2000 + 100 * n + 2 * s.length + 3≤k→bH.j1 k order left (p.length:Int) true A H=some r1∧bI.j1 k order left (p.length:Int) x left (left.length:Int) (p.length:Int) true A H=some r1:=by
          intro k hk;obtain⟨k,rfl⟩:∃ m,k=m + 1:=⟨k - 1,by omega⟩
          have hg:=h1 k (by omega);simp only[bH.j1,bI.j1,if_true];rw[hs1];exact hg
        have c1:(p.length:Int) < (left.length:Int):=by omega
        have c2:0≤(p.length:Int):=Int.natCast_nonneg _;by_cases hp0:0 < p.length
        · have hm1:wrap64 ((p.length:Int) - 1)=(p.length:Int) - 1:=bW (by omega) (by omega)
          have go:∀ k,2000 + 100 * n + 2 * (s.length + 1) + 2≤k + 1→bH.l0 (k + 1) order left (p.length:Int) A H=bH.j1 k order left (p.length:Int) (x==rd left ((p.length:Int) - 1)) A H∧bI.l0 (k + 1) order left left (left.length:Int) (p.length:Int) A H=bI.j1 k order left (p.length:Int) x left (left.length:Int) (p.length:Int) (x==rd left ((p.length:Int) - 1)) A H:=by
            intro k hk;have c4:(p.length:Int) > 0:=by omega
            have c5:0≤(p.length:Int) - 1:=by omega
            have c6:(p.length:Int) - 1 < (left.length:Int):=by omega
            simp only[bH.l0,bI.l0,if_pos c1,if_pos c2,if_pos c4,hm1,if_pos c5,if_pos c6,hx,and_self]
          cases hb:(x==rd left ((p.length:Int) - 1))with
          | true=>
            refine⟨r1,hr1,fun k hk=>?_⟩;obtain⟨k,rfl⟩:∃ m,k=m + 1:=⟨k - 1,by omega⟩
            have e:=go k (by simp at hk;omega);rw[hb]at e;rw[e.1,e.2];exact jt k (by simp at hk;omega)
          | false=>
            refine⟨if r2.2=true then(r2.1,true)else r1,by split;exact hr2.tt ‹_›;exact hr1,fun k hk=>?_⟩;obtain⟨k,rfl⟩:∃ m,k=m + 1:=⟨k - 1,by omega⟩
            have e:=go k (by simp at hk;omega);rw[hb]at e;rw[e.1,e.2];exact jf k (by simp at hk;omega)
        · refine⟨if r2.2=true then(r2.1,true)else r1,by split;exact hr2.tt ‹_›;exact hr1,fun k hk=>?_⟩
          obtain⟨k,rfl⟩:∃ m,k=m + 1:=⟨k - 1,by omega⟩
          have c4:¬ ((p.length:Int) > 0):=by omega
          simp only[bH.l0,bI.l0,if_pos c1,if_pos c2,if_neg c4,hx];exact jf k (by simp at hk;omega)
    obtain⟨r,hr1,hr⟩:=loop left [] rfl;refine⟨r,hr1,fun k hk=>?_⟩;obtain⟨k,rfl⟩:∃ m,k=m + 1:=⟨k - 1,by omega⟩
    have hq:=hr k (by omega);simp only[bH.f,bI.f];rw[if_neg (by omega),if_neg (by omega)]
    simpa using hq
theorem bUA (A H:List R) (w:List Int) (hb:A.length + H.length≤1048576) (hwl:w.length≤1048576) (hw:TE H):∃ r:List Int × Bool,r.1.length≤100∧(r.2=true→good A H=true∧(∀ x ∈ w,iT x=true)∧Mr A H (tot w) r)∧∀ k,4000 + 3 * A.length + 3 * H.length + 3 * w.length≤k→gG.f k A H w=some r∧jB.f k A H w=some r:=by
  by_cases h:good A H=true
  · have ok:=uN h
    have o1:=ok.len;have o2:=ok.same;have hc:=S9 h;have hlv:=VB H [];simp only[List.length_nil,Nat.zero_add]at hlv;have n1:wrap64 ((A.length:Int) + 1)=(A.length:Int) + 1:=bW (by omega) (by omega);have ar:∀ k,w.length < k→oW.f k w ((A.length:Int) + 1)=some (w.all iT && ((w.length:Int)==(A.length:Int) + 1)):=fun k hk=>by
      unfold oW.f;exact bDP _ w [] k (by simp;omega) hk
    by_cases hl:w.length=A.length + 1
    · have hl2:((w.length:Int)=((leaves [] H).length:Int))=True:=eq_true (by omega)
      have hl3:(((w.length:Nat):Int)==(A.length:Int) + 1)=true:=by simp;omega
      by_cases hx:w.all iT=true
      · have hm:∀ x ∈ w,iT x=true:=fun x hx2=>List.all_eq_true.1 hx x hx2
        obtain⟨v,v1,v4,v2,v3⟩:=bDT w (by omega) (by omega);obtain⟨r,r1,r2⟩:=more A H h (A.length + 1) [] v (by omega) (by simp) (by simp) (fun x hx=>hm x (v2 x hx));have hN:tot [] + tot v=tot w:=by simp only[tot];omega
        rw[hN]at r1;refine⟨r,by have:=r1.1;omega,fun _=>⟨h,hm,r1⟩,fun k hk=>?_⟩;obtain⟨k,rfl⟩:∃ m,k=m + 1:=⟨k - 1,by omega⟩
        have s1:=(v3 k (by omega)).1;have s2:=(v3 k (by omega)).2;have q1:=(r2 k (by omega)).1;have q2:=(r2 k (by omega)).2;simp(disch:=omega) only[gG.f,gG.j0,jB.f,jB.j0,qG A H _ hw,o6,h,n1,ar,hx,hl3,FW,hl2,aM7,aDI,s1,s2,q1,q2,Bool.and_self,Bool.not_true,Option.bind_some,if_true,if_false,and_self,Bool.false_eq_true]
      · rw[Bool.not_eq_true]at hx
        refine⟨([],false),by simp,fun hr=>(by cases hr),fun k hk=>?_⟩;obtain⟨k,rfl⟩:∃ m,k=m + 1:=⟨k - 1,by omega⟩
        simp(disch:=omega) only[gG.f,gG.j0,jB.f,jB.j0,qG A H _ hw,o6,h,n1,ar,hx,hl2,FW,aM7,Bool.false_and,Bool.not_false,Option.bind_some,if_true,if_false,and_self,Bool.false_eq_true]
    · have hl2:¬ ((w.length:Int)=((leaves [] H).length:Int)):=by omega
      have hl3:(((w.length:Nat):Int)==(A.length:Int) + 1)=false:=by simp;omega
      refine⟨([],false),by simp,fun hr=>(by cases hr),fun k hk=>?_⟩;obtain⟨k,rfl⟩:∃ m,k=m + 1:=⟨k - 1,by omega⟩
      simp(disch:=omega) only[gG.f,gG.j0,jB.f,jB.j0,qG A H _ hw,o6,h,n1,ar,hl3,hl2,FW,Bool.and_false,Bool.not_false,Option.bind_some,if_true,if_false,and_self,Bool.false_eq_true]
  · refine⟨([],false),by simp,fun hr=>(by cases hr),fun k hk=>?_⟩
    obtain⟨k,rfl⟩:∃ m,k=m + 1:=⟨k - 1,by omega⟩
    simp(disch:=omega) only[gG.f,gG.j0,jB.f,jB.j0,qG A H _ hw,o6,h,Option.bind_some,if_true,if_false,and_self,Bool.false_eq_true]
theorem cH4 {C:List Int} (hC:Bytes C):∃ (A H:List R) (v:List Int),A.length≤6∧H.length≤6∧TE H∧v.length≤9∧∀ k,6000000200≤k→eO.f k C=some (A,H,v):=by
  obtain⟨m,m1,m2⟩:=XY hC 0 0 (by omega) (by omega);obtain⟨v,p,s,c1,c2,c3,c4,c5⟩:=aXS hC m.1 m.2.1 (by have:=m1.a;omega) m.2.2.1 m.2.2.2 (by have:=m1.p1;omega) (by have:=m1.p2;omega);refine⟨m.1,m.2.1,v,m1.a,m1.h,m1.sh.wf,c1,fun k hk=>?_⟩;unfold eO.f;rw[m2 k hk,Option.bind_some,c5 k (by omega),Option.bind_some]
theorem bHU {C:List Int} (hC:Bytes C) (H:List R):∀ (d i:Nat) (X:List R) (p s:Int),i + d=X.length→X.length≤6→0≤p→p≤1000 - d→(∀ j:Nat,i≤j→j < X.length→(1≤(aA X j).f0∧(aA X j).f0≤12)∧(1≤(aA X j).f1∧(aA X j).f1≤12))→
    ∃ Y:List R,Y.length=X.length∧∀ k,d < k→aV.l0 k (i:Int) C p s X H=some (Y,H):=by
  intro d
  induction d with
  | zero=>
    intro i X p s hi h6 h0 h1 ha;refine⟨X,rfl,fun k hk=>?_⟩;obtain⟨k,rfl⟩:∃ m,k=m + 1:=⟨k - 1,by omega⟩
    simp only[aV.l0];rw[if_neg (by omega)]
  | succ d ih=>
    intro i X p s hi h6 h0 h1 ha;have a:=ha i (by omega) (by omega);have w:wrap64 ((wrap64 (((aA X i).f0) + ((aA X i).f1))) - 1)≤200:=by
      rw[bW (x:=(aA X i).f0 + (aA X i).f1) (by omega) (by omega),bW (by omega) (by omega)];omega
    obtain⟨x,p1,s1,e1,a1,a2,_⟩:=yO hC p s _ h0 (by omega) w;clear w;generalize hy:(⟨wrap64 (1 + x),1⟩:R)=y0;generalize hz:(⟨(aA (X.set (i:Int).toNat y0) i).f0,wrap64 ((wrap64 (((aA X i).f0) + ((aA X i).f1))) - ((aA (X.set (i:Int).toNat y0) i).f0))⟩:R)=y1
    obtain⟨Y,y2,y3⟩:=ih (i + 1) ((X.set (i:Int).toNat y0).set (i:Int).toNat y1) p1 s1 (by simp;omega) (by simpa using h6) (by omega) (by omega) (fun j h1 h2=>by
      rw[Int.toNat_natCast,SA,if_neg (by omega),SA,if_neg (by omega)]
      exact ha j (by omega) (by simpa using h2))
    refine⟨Y,by simpa using y2,fun k hk=>?_⟩;obtain⟨k,rfl⟩:∃ m,k=m + 1:=⟨k - 1,by omega⟩
    simp only[aV.l0];rw[if_pos (by omega),if_pos (by omega),e1,Option.bind_some];dsimp only;rw[hy,Option.bind_some,hz,bW (x:=(i:Int) + 1) (by omega) (by omega),show(i:Int) + 1=((i + 1:Nat):Int)from by omega];exact y3 k (by omega)
theorem cH5 {C:List Int} (hC:Bytes C):∃ A H:List R,A.length≤6∧H.length≤6∧TE H∧∀ k,6000000200≤k→aV.f k C=some (A,H):=by
  obtain⟨m,m1,m2⟩:=XY hC 0 0 (by omega) (by omega);have p1:=m1.p1;have p2:=m1.p2;have ma:=m1.a;have no:∀ k,1≤k→∀ p s:Int,aV.j0 k false C p s m.1 m.2.1=some (m.1,m.2.1):=fun k hk p s=>by
    obtain⟨k,rfl⟩:∃ m,k=m + 1:=⟨k - 1,by omega⟩
    simp only[aV.j0,Bool.false_eq_true,if_false]
  by_cases h:good m.1 m.2.1=true
  · have ok:=uN h
    obtain⟨b,p',s',e,b1,b2⟩:=aDH hC m.2.2.1 m.2.2.2 2 (by omega) (by omega) (by omega);have st:∀ k,6000000200≤k→aV.f k C=aV.j0 k b C p' s' m.1 m.2.1:=fun k hk=>by
      unfold aV.f;rw[m2 k hk,Option.bind_some,qG m.1 m.2.1 k m1.sh.wf (by omega),Option.bind_some,if_pos h,e,Option.bind_some]
    cases b with
    |false=>exact⟨m.1,m.2.1,ma,m1.h,m1.sh.wf,fun k hk=>by rw[st k hk,no k (by omega)]⟩
    | true=>
      obtain⟨Y,y1,y2⟩:=bHU hC m.2.1 m.1.length 0 m.1 p' s' (by omega) ma (by omega) (by omega) (fun j _ hj=>by
        have ar:=ok.arm j hj
        simp only[xG,decide_eq_true_eq]at ar
        exact ar)
      refine⟨Y,m.2.1,by omega,m1.h,m1.sh.wf,fun k hk=>?_⟩;rw[st k hk];obtain⟨k,rfl⟩:∃ m,k=m + 1:=⟨k - 1,by omega⟩
      simp only[aV.j0,if_true];exact y2 k (by omega)
  · refine⟨m.1,m.2.1,ma,m1.h,m1.sh.wf,fun k hk=>?_⟩
    unfold aV.f;rw[m2 k hk,Option.bind_some,qG m.1 m.2.1 k m1.sh.wf (by omega),Option.bind_some,if_neg h];exact no k (by omega) _ _
theorem bP2 {a b c:Int} (h:a≤c) (h2:b≤c):mx a b≤c:=by
  unfold mx
  split <;> omega
theorem cV7 {C:List Int} (hC:Bytes C):∃ (A H:List R) (i e:Int),A.length≤6∧H.length≤6∧TE H∧∀ k,6000000200≤k→dC.f k C=some (A,H,i,e):=by
  obtain⟨m,m1,m2⟩:=XY hC 0 0 (by omega) (by omega);have p1:=m1.p1;have p2:=m1.p2;have ma:=m1.a;obtain⟨x1,q1,s1,e1,a1,a2,_⟩:=yO hC m.2.2.1 m.2.2.2 (mx 1 (m.1.length:Int)) (by omega) (by omega) (bP2 (by omega) (by omega));obtain⟨x2,q2,s2,e2,b1,b2,_⟩:=yO hC q1 s1 24 (by omega) (by omega) (by omega);obtain⟨x3,q3,s3,e3,c1,c2,_⟩:=yO hC q2 s2 2 (by omega) (by omega) (by omega);obtain⟨x4,q4,s4,e4,d1,d2,_⟩:=yO hC q3 s3 24 (by omega) (by omega) (by omega);refine⟨m.1,m.2.1,wrap64 (x1 - (wrap64 (Int.tdiv x2 23))),wrap64 (x3 + (wrap64 (Int.tdiv x4 23))),ma,m1.h,m1.sh.wf,fun k hk=>?_⟩;unfold dC.f;rw[m2 k hk,Option.bind_some,aPJ,Option.bind_some,e1,Option.bind_some,e2,Option.bind_some,e3,Option.bind_some,e4,Option.bind_some]
theorem cV8 {C:List Int} (hC:Bytes C):∃ (A H:List R) (i:Int),A.length≤6∧H.length≤6∧TE H∧∀ k,6000000200≤k→eX.f k C=some (A,H,i):=by
  obtain⟨m,m1,m2⟩:=XY hC 0 0 (by omega) (by omega);have p1:=m1.p1;have p2:=m1.p2;have ma:=m1.a;obtain⟨x1,q1,s1,e1,a1,a2,_⟩:=yO hC m.2.2.1 m.2.2.2 (mx 1 (m.1.length:Int)) (by omega) (by omega) (bP2 (by omega) (by omega));obtain⟨x2,q2,s2,e2,b1,b2,_⟩:=yO hC q1 s1 24 (by omega) (by omega) (by omega);refine⟨m.1,m.2.1,wrap64 (x1 - (wrap64 (Int.tdiv x2 23))),ma,m1.h,m1.sh.wf,fun k hk=>?_⟩;unfold eX.f;rw[m2 k hk,Option.bind_some,aPJ,Option.bind_some,e1,Option.bind_some,e2,Option.bind_some]
theorem c5G {C:List Int} (hC:Bytes C):∃ (A H:List R) (v:List Int),A.length≤6∧H.length≤6∧TE H∧v.length≤20∧∀ k,6000000200≤k→aT.f k C=some (A,H,v):=by
  obtain⟨m,m1,m2⟩:=XY hC 0 0 (by omega) (by omega);have p1:=m1.p1;have p2:=m1.p2;have ma:=m1.a;have mh:=m1.h;have no:∀ p s:Int,0≤p→p≤1000→∃ v:List Int,v.length≤20∧∀ k,100≤k→aT.j0 k false C p s m.1 m.2.1=some (m.1,m.2.1,v):=fun p s h0 h1=>by
    obtain⟨v,p,s,c1,c2,c3,c4,c5⟩:=aXS hC m.1 m.2.1 (by omega) p s h0 (by omega);refine⟨v,by omega,fun k hk=>?_⟩;obtain⟨k,rfl⟩:∃ m,k=m + 1:=⟨k - 1,by omega⟩
    simp only[aT.j0,Bool.false_eq_true,if_false];rw[c5 k (by omega),Option.bind_some]
  obtain⟨v0,w1,w2⟩:=no m.2.2.1 m.2.2.2 (by omega) (by omega);have done:(∀ k,6000000200≤k→aT.f k C=aT.j0 k false C m.2.2.1 m.2.2.2 m.1 m.2.1)→∃ (A H:List R) (v:List Int),A.length≤6∧H.length≤6∧TE H∧v.length≤20∧∀ k,6000000200≤k→aT.f k C=some (A,H,v):=fun hd=>
    ⟨m.1,m.2.1,v0,ma,mh,m1.sh.wf,w1,fun k hk=>by rw[hd k hk,w2 k (by omega)]⟩
  by_cases h:good m.1 m.2.1=true
  · obtain⟨V,_,_,hs⟩:=aT9 h
    by_cases hf:flat (tn V m.1 m.2.1)=true
    · obtain⟨b,p',s',e,b1,b2⟩:=aDH hC m.2.2.1 m.2.2.2 4 (by omega) (by omega) (by omega)
      have st:∀ k,6000000200≤k→aT.f k C=aT.j0 k (!b) C p' s' m.1 m.2.1:=fun k hk=>by
        unfold aT.f;rw[m2 k hk,Option.bind_some,qG m.1 m.2.1 k m1.sh.wf (by omega),Option.bind_some,if_pos h,(hs k (by omega)).2.2.2.1,Option.bind_some,if_pos hf,e,Option.bind_some]
      cases b with
      | true=>
        obtain⟨v,c1,c2⟩:=no p' s' (by omega) (by omega);exact⟨m.1,m.2.1,v,ma,mh,m1.sh.wf,c1,fun k hk=>by rw[st k hk];exact c2 k (by omega)⟩
      | false=>
        have hlv:=VB m.2.1 [];have hc:=S9 h;simp only[List.length_nil,Nat.zero_add]at hlv;generalize hL:leaves [] m.2.1=L at hlv;obtain⟨x,q,s,e2,c1,c2,c3,c4⟩:=yO hC p' s' (L.length:Int) (by omega) (by omega) (by omega);refine⟨m.1,m.2.1,L.drop x.toNat ++ L.take x.toNat,ma,mh,m1.sh.wf,by simp;omega,fun k hk=>?_⟩;rw[st k hk];obtain⟨k,rfl⟩:∃ m,k=m + 1:=⟨k - 1,by omega⟩
        simp only[aT.j0,Bool.not_false,if_true];rw[aPM m.1 m.2.1 (by omega) k (by omega),Option.bind_some,hL,e2,Option.bind_some,if_pos c3,if_pos (by omega),a0C _ (by simp;omega),Option.bind_some,Option.bind_some,if_pos (by simp;omega)]
    · refine done (fun k hk=>?_)
      unfold aT.f;rw[m2 k hk,Option.bind_some,qG m.1 m.2.1 k m1.sh.wf (by omega),Option.bind_some,if_pos h,(hs k (by omega)).2.2.2.1,Option.bind_some,if_neg hf]
  · refine done (fun k hk=>?_)
    unfold aT.f;rw[m2 k hk,Option.bind_some,qG m.1 m.2.1 k m1.sh.wf (by omega),Option.bind_some,if_neg h]
structure Core (n c i:Nat) (B G:List Bool) (N M:List Int):Prop where
  lB:B.length=n
  lG:G.length=n
  lN:N.length=n
  lM:M.length=n
  old:∀ j:Nat,j < i→(G.getD j false=true∧N.getD j 0 < 0)∨(G.getD j false=false∧0≤N.getD j 0∧N.getD j 0=M.getD j 0)
  zero:i=0→G.getD 0 false=false∧N.getD 0 0=0
  seen:∀ j:Nat,i≤j→j < n→B.getD j false=true→(G.getD j false=true∧N.getD j 0= -1)∨(G.getD j false=false∧N.getD j 0=0)
  new:∀ j:Nat,i≤j→j < n→1≤j→B.getD j false=false→N.getD j 0= -1∧G.getD j false=decide (j=c)
theorem Core.gone {n c i:Nat} {B G:List Bool} {N M:List Int} (h:Core n c i B G N M) (h1:G.getD i false=true) (h2:N.getD i 0 < 0):Core n c (i + 1) B G N M where
  lB:=h.lB
  lG:=h.lG
  lN:=h.lN
  lM:=h.lM
  old:=fun j hj=>by
    by_cases e:j=i
    · subst e
      exact Or.inl ⟨h1,h2⟩
    · exact h.old j (by omega)
  zero:=fun e=>by omega
  seen:=fun j hj=>h.seen j (by omega)
  new:=fun j hj=>h.new j (by omega)
theorem Core.kept {n c i:Nat} {B G:List Bool} {N M:List Int} (h:Core n c i B G N M) (h1:G.getD i false=false) (hi:i < n) (m:Int) (hm:0≤m):Core n c (i + 1) B G (N.set i m) (M.set i m) where
  lB:=h.lB
  lG:=h.lG
  lN:=by rw[List.length_set];exact h.lN
  lM:=by rw[List.length_set];exact h.lM
  old:=fun j hj=>by
    have e1:=h.lN;have e2:=h.lM;rw[tL,tL];by_cases e:i=j
    · subst e
      rw[if_pos ⟨rfl,by omega⟩,if_pos ⟨rfl,by omega⟩];exact Or.inr ⟨h1,hm,rfl⟩
    · rw[if_neg (by omega),if_neg (by omega)]
      exact h.old j (by omega)
  zero:=fun e=>by omega
  seen:=fun j hj hn hB=>by
    rw[tL,if_neg (by omega)];exact h.seen j (by omega) hn hB
  new:=fun j hj hn h0 hB=>by
    rw[tL,if_neg (by omega)];exact h.new j (by omega) hn h0 hB
def KO (N:List Int) (c h:Int):List Int:=if h < 0 then(if -h=c then N else N.set (-h).toNat 0)else N
theorem aH0 (N:List Int) (c h:Int):(KO N c h).length=N.length:=by
  unfold KO
  split
  · split <;> simp
  · rfl
theorem Core.endK {n c i:Nat} {B G:List Bool} {N M:List Int} {h:Int} (hs:pG (i:Int) (n:Int) B h=true) (o:Core n c (i + 1) B G N M):Core n c (i + 1) (mark B h) G (KO N c h) M:=by
  by_cases h0:h < 0
  · obtain⟨k1,k2,k3⟩:=PT hs h0
    have e1:=o.lN;have e2:=o.lB;obtain⟨e,he⟩:∃ e:Nat,-h=(e:Int):=⟨(-h).toNat,by omega⟩
    have het:(-h).toNat=e:=by omega
    rw[het]at k3;obtain⟨n1,n2⟩:=o.new e (by omega) (by omega) (by omega) k3;refine⟨by rw[oU];exact o.lB,o.lG,by rw[aH0];exact o.lN,o.lM,?_,fun z=>by omega,?_,?_⟩
    · intro j hj
      have:(KO N c h).getD j 0=N.getD j 0:=by
        unfold KO;rw[if_pos h0]
        split
        · rfl
        · rw[tL,if_neg (by omega)]
      rw[this];exact o.old j hj
    · intro j hj hn hB
      by_cases ej:e=j
      · subst ej
        unfold KO;rw[if_pos h0];by_cases hc: -h=(c:Int)
        · rw[if_pos hc]
          left;exact⟨by rw[n2];simp;omega,n1⟩
        · rw[if_neg hc,tL,if_pos ⟨het,by omega⟩]
          right;exact⟨by rw[n2];simp;omega,rfl⟩
      · have b1:(mark B h).getD j false=B.getD j false:=by
          unfold mark;rw[if_pos h0,tL,if_neg (by omega)]
        have b2:(KO N c h).getD j 0=N.getD j 0:=by
          unfold KO;rw[if_pos h0]
          split
          · rfl
          · rw[tL,if_neg (by omega)]
        rw[b1]at hB;rw[b2];exact o.seen j hj hn hB
    · intro j hj hn h1 hB
      by_cases ej:e=j
      · subst ej
        unfold mark at hB;rw[if_pos h0,tL,if_pos ⟨het,by omega⟩]at hB;cases hB
      · have b1:(mark B h).getD j false=B.getD j false:=by
          unfold mark;rw[if_pos h0,tL,if_neg (by omega)]
        have b2:(KO N c h).getD j 0=N.getD j 0:=by
          unfold KO;rw[if_pos h0]
          split
          · rfl
          · rw[tL,if_neg (by omega)]
        rw[b1]at hB;rw[b2];exact o.new j hj hn h1 hB
  · have b1:mark B h=B:=by unfold mark;rw[if_neg h0]
    have b2:KO N c h=N:=by unfold KO;rw[if_neg h0]
    rw[b1,b2];exact o
theorem Core.endG {n c i:Nat} {B G:List Bool} {N M:List Int} {h:Int} (hs:pG (i:Int) (n:Int) B h=true) (o:Core n c (i + 1) B G N M):Core n c (i + 1) (mark B h) (mark G h) N M:=by
  by_cases h0:h < 0
  · obtain⟨k1,k2,k3⟩:=PT hs h0
    have e1:=o.lG;have e2:=o.lB;obtain⟨e,he⟩:∃ e:Nat,-h=(e:Int):=⟨(-h).toNat,by omega⟩
    have het:(-h).toNat=e:=by omega
    rw[het]at k3;obtain⟨n1,n2⟩:=o.new e (by omega) (by omega) (by omega) k3;have g1:∀ j,j ≠ e→(mark G h).getD j false=G.getD j false:=fun j hj=>by
      unfold mark;rw[if_pos h0,tL,if_neg (by omega)]
    have b1:∀ j,j ≠ e→(mark B h).getD j false=B.getD j false:=fun j hj=>by
      unfold mark;rw[if_pos h0,tL,if_neg (by omega)]
    have g2:(mark G h).getD e false=true:=by
      unfold mark;rw[if_pos h0,tL,if_pos ⟨het,by omega⟩]
    have b2:(mark B h).getD e false=true:=by
      unfold mark;rw[if_pos h0,tL,if_pos ⟨het,by omega⟩]
    refine⟨by rw[oU];exact o.lB,by rw[oU];exact o.lG,o.lN,o.lM,?_,fun z=>by omega,?_,?_⟩
    · intro j hj
      rw[g1 j (by omega)];exact o.old j hj
    · intro j hj hn hB
      by_cases ej:j=e
      · subst ej
        exact Or.inl ⟨g2,n1⟩
      · rw[b1 j ej]at hB
        rw[g1 j ej];exact o.seen j hj hn hB
    · intro j hj hn h1 hB
      by_cases ej:j=e
      · subst ej
        rw[b2]at hB;cases hB
      · rw[b1 j ej]at hB
        rw[g1 j ej];exact o.new j hj hn h1 hB
  · have b1:mark B h=B:=by unfold mark;rw[if_neg h0]
    have b2:mark G h=G:=by unfold mark;rw[if_neg h0]
    rw[b1,b2];exact o
def aFC (c:Nat) (B G:List Bool) (h:Int):Prop:=h < 0→ -h ≠ (c:Int)→B.getD (-h).toNat false=true∧G.getD (-h).toNat false=false
def Kid (c:Nat) (H:List R) (i:Nat) (B G:List Bool):Prop:=∀ j:Nat,j < i→G.getD j false=false→aFC c B G (aA H j).f0∧aFC c B G (aA H j).f1
def XZ (B G B' G':List Bool):Prop:=∀ e:Nat,B.getD e false=true→B'.getD e false=true∧G'.getD e false=G.getD e false
theorem aFC.mono {c:Nat} {B G B' G':List Bool} {h:Int} (o:aFC c B G h) (m:XZ B G B' G'):aFC c B' G' h:=fun h0 h1=>by
  obtain⟨a,b⟩:=o h0 h1;obtain⟨x,y⟩:=m _ a;exact⟨x,by rw[y];exact b⟩
theorem XZ.trans {B G B' G' B'' G'':List Bool} (a:XZ B G B' G') (b:XZ B' G' B'' G''):XZ B G B'' G'':=fun e h=>by
  obtain⟨x,y⟩:=a e h;obtain⟨x2,y2⟩:=b e x;exact⟨x2,by rw[y2,y]⟩
theorem aFD (B:List Bool) (h:Int) (e:Nat) (hb:B.getD e false=true):(mark B h).getD e false=true:=by
  unfold mark
  split
  · rw[tL]
    split
    · rfl
    · exact hb
  · exact hb
theorem bAO (B G:List Bool) (h:Int):XZ B G (mark B h) G:=fun e hb=>⟨aFD B h e hb,rfl⟩
theorem bP3 {i n:Nat} {B G:List Bool} {h:Int} (hs:pG (i:Int) (n:Int) B h=true):XZ B G (mark B h) (mark G h):=fun e hb=>by
  refine⟨aFD B h e hb,?_⟩;unfold mark;by_cases h0:h < 0
  · obtain⟨_,_,k3⟩:=PT hs h0
    rw[if_pos h0,tL,if_neg (fun hh=>by rw[hh.1,hb]at k3;cases k3)]
  · rw[if_neg h0]
theorem b2M {n c i:Nat} {B G:List Bool} {N M:List Int} {h:Int} (hs:pG (i:Int) (n:Int) B h=true) (o:Core n c (i + 1) B G N M):aFC c (mark B h) G h:=fun h0 h1=>by
  obtain⟨k1,k2,k3⟩:=PT hs h0;have e2:=o.lB;obtain⟨n1,n2⟩:=o.new (-h).toNat (by omega) (by omega) (by omega) k3;refine⟨?_,by rw[n2];simp;omega⟩;unfold mark;rw[if_pos h0,tL,if_pos ⟨rfl,by omega⟩]
def LA (c w:Int) (N:List Int) (h:Int):Int:=if h= -c then w else if h < 0 then wrap64 (-(rd N (-h)))else h
theorem c5I (c w:Int) (N:List Int) (i:Int) (A H X Y:List R) (u v:Int) (k:Nat) (hc:wrap64 (-c)= -c) (hu:u < 0→wrap64 (-u)= -u∧ -u < (N.length:Int)):
    bJ.l4 (k + 1) c w N i 0 A H X Y u v=bJ.l4 k c w N i 1 A H X Y (LA c w N u) v:=by
  have w1:wrap64 (0 + 1)=1:=bW (by omega) (by omega);simp only[bJ.l4];rw[if_pos (by decide),if_pos trivial,w1,hc];unfold LA;by_cases c1:u= -c
  · rw[if_pos c1,if_pos c1]
  · rw[if_neg c1,if_neg c1]
    by_cases c2:u < 0
    · obtain⟨h1,h2⟩:=hu c2
      rw[if_pos c2,if_pos c2,h1,if_pos (by omega),if_pos h2]
    · rw[if_neg c2,if_neg c2]
theorem c5J (c w:Int) (N:List Int) (i:Int) (A H X Y:List R) (u v:Int) (k:Nat) (hc:wrap64 (-c)= -c) (hu:v < 0→wrap64 (-v)= -v∧ -v < (N.length:Int)):
    bJ.l4 (k + 1) c w N i 1 A H X Y u v=bJ.l4 k c w N i 2 A H X Y u (LA c w N v):=by
  have w2:wrap64 (1 + 1)=2:=bW (by omega) (by omega);simp only[bJ.l4];rw[if_pos (by decide),if_neg (by decide),if_pos trivial,w2,hc];unfold LA;by_cases c1:v= -c
  · rw[if_pos c1,if_pos c1]
  · rw[if_neg c1,if_neg c1]
    by_cases c2:v < 0
    · obtain⟨h1,h2⟩:=hu c2
      rw[if_pos c2,if_pos c2,h1,if_pos (by omega),if_pos h2]
    · rw[if_neg c2,if_neg c2]
theorem c5K (c w:Int) (G:List Bool) (M:List Int) (P:List R) (n i:Int) (A H X Y:List R) (a b s t u v:Int) (k:Nat) (hc:wrap64 (-c)= -c) (hu:u < 0→wrap64 (-u)= -u∧ -u < (M.length:Int)) (hs:s=u):
    bP.l3 (k + 1) c G M w P n i 0 A H X Y a b s t u v=bP.l3 k c G M w P n i 1 A H X Y a b (LA c w M u) t u v:=by
  subst hs;have w1:wrap64 (0 + 1)=1:=bW (by omega) (by omega);simp only[bP.l3];rw[if_pos (by decide),if_pos trivial,w1,hc];unfold LA;by_cases c1:s= -c
  · rw[if_pos c1,if_pos c1]
  · rw[if_neg c1,if_neg c1]
    by_cases c2:s < 0
    · obtain⟨h1,h2⟩:=hu c2
      rw[if_pos c2,if_pos c2,h1,if_pos (by omega),if_pos h2]
    · rw[if_neg c2,if_neg c2]
theorem c5L (c w:Int) (G:List Bool) (M:List Int) (P:List R) (n i:Int) (A H X Y:List R) (a b s t u v:Int) (k:Nat) (hc:wrap64 (-c)= -c) (hu:v < 0→wrap64 (-v)= -v∧ -v < (M.length:Int)) (ht:t=v):
    bP.l3 (k + 1) c G M w P n i 1 A H X Y a b s t u v=bP.l3 k c G M w P n i 2 A H X Y a b s (LA c w M v) u v:=by
  subst ht;have w2:wrap64 (1 + 1)=2:=bW (by omega) (by omega);simp only[bP.l3];rw[if_pos (by decide),if_neg (by decide),if_pos trivial,w2,hc];unfold LA;by_cases c1:t= -c
  · rw[if_pos c1,if_pos c1]
  · rw[if_neg c1,if_neg c1]
    by_cases c2:t < 0
    · obtain⟨h1,h2⟩:=hu c2
      rw[if_pos c2,if_pos c2,h1,if_pos (by omega),if_pos h2]
    · rw[if_neg c2,if_neg c2]
theorem bUB (x:Int):Wf (wrap64 x):=by
  unfold Wf wrap64;omega
theorem bDU {c w h:Int} {N:List Int} (hw:Wf w) (hh:Wf h):Wf (LA c w N h):=by
  unfold LA
  split
  · exact hw
  · split
    · exact bUB _
    · exact hh
structure Fin (n c:Nat) (H:List R) (G:List Bool) (N M:List Int):Prop where
  lG:G.length=n
  lN:N.length=n
  lM:M.length=n
  old:∀ j:Nat,j < n→(G.getD j false=true∧N.getD j 0 < 0)∨(G.getD j false=false∧0≤N.getD j 0∧N.getD j 0=M.getD j 0)
  kid:∀ j:Nat,j < n→G.getD j false=false→∀ h:Int,(h=(aA H j).f0∨h=(aA H j).f1)→h < 0→ -h ≠ (c:Int)→G.getD (-h).toNat false=false
def kn (G:List Bool):Nat→Nat
 |0=>0
 |i + 1=>kn G i + (if G.getD i false=true then 0 else 1)
theorem b2N {G G':List Bool}:∀ i:Nat,(∀ j:Nat,j < i→G'.getD j false=G.getD j false)→kn G' i=kn G i:=by
  intro i
  induction i with
  |zero=>intro _;rfl
  | succ i ih=>
    intro h;simp only[kn];rw[h i (by omega),ih (fun j hj=>h j (by omega))]
theorem bP4 (G:List Bool):∀ i:Nat,kn G i≤i:=by
  intro i
  induction i with
  |zero=>exact Nat.le_refl _
  | succ i ih=>
    simp only[kn]
    split <;> omega
theorem bUC (G:List Bool) (j:Nat):∀ d:Nat,kn G j≤kn G (j + d):=by
  intro d
  induction d with
  |zero=>exact Nat.le_refl _
  | succ d ih=>
    rw[← Nat.add_assoc];simp only[kn]
    split <;> omega
theorem bAP {G:List Bool} {j i:Nat} (h:j < i) (g:G.getD j false=false):kn G j < kn G i:=by
  obtain⟨d,rfl⟩:∃ d,i=j + 1 + d:=⟨i - (j + 1),by omega⟩
  have e:=bUC G (j + 1) d;simp only[kn,g,Bool.false_eq_true,if_false]at e;omega
theorem bUD {G:List Bool} {c:Nat} (g:G.getD c false=true):∀ d:Nat,kn G (c + 1 + d) < c + 1 + d:=by
  intro d
  induction d with
  | zero=>
    have:=bP4 G c;simp only[Nat.add_zero,kn,g,if_true];omega
  | succ d ih=>
    rw[← Nat.add_assoc];simp only[kn]at ih ⊢
    split <;> omega
theorem bUE (G:List Bool):∀ (i m:Nat),m < kn G i→∃ j:Nat,j < i∧G.getD j false=false∧kn G j=m:=by
  intro i
  induction i with
  |zero=>intro m h;simp[kn]at h
  | succ i ih=>
    intro m h;simp only[kn]at h;by_cases e:m < kn G i
    · obtain⟨j,h1,h2,h3⟩:=ih m e
      exact⟨j,by omega,h2,h3⟩
    · cases g:G.getD i false with
      |true=>rw[g]at h;simp at h;omega
      |false=>rw[g]at h;simp at h;exact⟨i,by omega,g,by omega⟩
structure Num (c i:Nat) (G:List Bool) (N:List Int) (m:Nat):Prop where
  cut:G.getD c false=true
  top:G.getD 0 false=false
  cnt:m=kn G i
  num:∀ j:Nat,j < i→G.getD j false=false→N.getD j 0=(kn G j:Int)
theorem Num.gone {c i m:Nat} {G G':List Bool} {N:List Int} (o:Num c i G N m) (g:G.getD i false=true) (hs:∀ j:Nat,j≤i→G'.getD j false=G.getD j false) (hc:G'.getD c false=true):Num c (i + 1) G' N m where
  cut:=hc
  top:=by rw[hs 0 (by omega)];exact o.top
  cnt:=by
    rw[b2N (i + 1) (fun j hj=>hs j (by omega))];simp only[kn,g,if_true];exact o.cnt
  num:=fun j hj hg=>by
    rw[hs j (by omega)]at hg;rw[b2N j (fun j hj=>hs j (by omega))];by_cases e:j=i
    · subst e
      rw[g]at hg;cases hg
    · exact o.num j (by omega) hg
theorem Num.kept {c i m:Nat} {G:List Bool} {N N':List Int} (o:Num c i G N m) (g:G.getD i false=false) (hs:∀ j:Nat,j < i→N'.getD j 0=N.getD j 0) (hi:N'.getD i 0=(m:Int)):Num c (i + 1) G N' (m + 1) where
  cut:=o.cut
  top:=o.top
  cnt:=by
    simp only[kn,g,Bool.false_eq_true,if_false];have:=o.cnt;omega
  num:=fun j hj hg=>by
    by_cases e:j=i
    · subst e
      rw[hi,o.cnt]
    · rw[hs j (by omega)]
      exact o.num j (by omega) hg
theorem a4A {N:List Int} {c h:Int} {i n:Nat} (he:qL (i:Int) (n:Int) h=true) (j:Nat) (hj:j≤i):(KO N c h).getD j 0=N.getD j 0:=by
  unfold KO
  split
  · rename_i h0
    have ch:=child he h0
    split
    · rfl
    · rw[tL,if_neg (by omega)]
  · rfl
structure Got (A H:List R) (c:Nat) (w:Int) (G:List Bool) (N:List Int) (i:Nat) (X Y:List R):Prop where
  lX:X.length=kn G i
  lY:Y.length=kn G i
  all:∀ j:Nat,j < i→G.getD j false=false→aA X ((kn G j:Nat):Int)=aA A (j:Int)∧aA Y ((kn G j:Nat):Int)=(⟨LA c w N (aA H j).f0,LA c w N (aA H j).f1⟩:R)
theorem aXV (X s:List R) (m:Nat) (h:m < X.length):aA (X ++ s) (m:Int)=aA X (m:Int):=by
  simp[aA,List.getD_eq_getElem?_getD,List.getElem?_append_left h]
theorem Got.gone {A H:List R} {c i:Nat} {w:Int} {G:List Bool} {N:List Int} {X Y:List R} (o:Got A H c w G N i X Y) (g:G.getD i false=true):Got A H c w G N (i + 1) X Y where
  lX:=by simp only[kn,g,if_true];exact o.lX
  lY:=by simp only[kn,g,if_true];exact o.lY
  all:=fun j hj hg=>by
    by_cases e:j=i
    · subst e
      rw[g]at hg;cases hg
    · exact o.all j (by omega) hg
theorem Got.kept {A H:List R} {c i:Nat} {w:Int} {G:List Bool} {N:List Int} {X Y:List R} (o:Got A H c w G N i X Y) (g:G.getD i false=false):Got A H c w G N (i + 1) (X ++ [(⟨(aA A i).f0,(aA A i).f1⟩:R)]) (Y ++ [(⟨LA c w N (aA H i).f0,LA c w N (aA H i).f1⟩:R)]) where
  lX:=by simp only[kn,g,Bool.false_eq_true,if_false,List.length_append,List.length_cons,List.length_nil,o.lX]
  lY:=by simp only[kn,g,Bool.false_eq_true,if_false,List.length_append,List.length_cons,List.length_nil,o.lY]
  all:=fun j hj hg=>by
    by_cases e:j=i
    · subst e
      have e1:aA (X ++ [(⟨(aA A j).f0,(aA A j).f1⟩:R)]) (X.length:Int)=(⟨(aA A j).f0,(aA A j).f1⟩:R):=VA X [] _;have e2:aA (Y ++ [(⟨LA c w N (aA H j).f0,LA c w N (aA H j).f1⟩:R)]) (Y.length:Int)=(⟨LA c w N (aA H j).f0,LA c w N (aA H j).f1⟩:R):=VA Y [] _;rw[o.lX]at e1;rw[o.lY]at e2;exact⟨e1,e2⟩
    · have lt:kn G j < kn G i:=bAP (by omega) hg
      obtain⟨a1,a2⟩:=o.all j (by omega) hg;rw[aXV _ _ _ (by rw[o.lX];exact lt),aXV _ _ _ (by rw[o.lY];exact lt)];exact⟨a1,a2⟩
def aDJ (A H:List R) (c:Nat) (w:Int) (r:List R × List R × Bool):Prop:=good r.1 r.2.1=true∧∃ (G:List Bool) (N M:List Int) (m:Nat),Fin A.length c H G N M∧Num c A.length G N m∧Got A H c w G N A.length r.1 r.2.1
theorem cV9 {A H:List R} (ok:YL A H) (hw:TE H) {c:Nat} {w:Int} (hc:1≤c∧c < A.length) (hwf:Wf w) {G:List Bool} {N M:List Int} (F:Fin A.length c H G N M) {m:Nat} (Q:Num c A.length G N m):
    ∀ (d i:Nat) (X Y:List R),i + d=A.length→X.length≤i→Y.length≤i→TE Y→Got A H c w G N i X Y→∃ r:List R × List R × Bool,r.1.length≤100∧r.2.1.length≤100∧(r.2.2=true→aDJ A H c w r)∧∀ k,5 * d + 200 < k→bJ.l3 k (c:Int) w N (i:Int) A H X Y=some r∧bP.l2 k (c:Int) G M w A (A.length:Int) (i:Int) A H X Y=some r:=by
  have o1:=ok.len;have o2:=ok.same;have f1:=F.lG;have f2:=F.lN;have f3:=F.lM;have hcw:wrap64 (-(c:Int))= -(c:Int):=bW (by omega) (by omega);intro d
  induction d with
  | zero=>
    intro i X Y hi hX hY hwY hgo;refine⟨if good X Y=true then(X,Y,true)else([],[],false),by split <;> simp;omega,by split <;> simp;omega,fun hr=>?_,fun k hk=>?_⟩
    · by_cases h:good X Y=true
      · rw[if_pos h]
        have e:i=A.length:=by omega
        rw[e]at hgo;exact⟨h,G,N,M,m,F,Q,hgo⟩
      · rw[if_neg h]at hr
        cases hr
    obtain⟨k,rfl⟩:∃ m,k=m + 1:=⟨k - 1,by omega⟩
    refine⟨?_,?_⟩
    · simp only[bJ.l3]
      rw[if_neg (by omega),qG X Y k hwY (by omega),Option.bind_some];by_cases h:good X Y=true <;> simp[h]
    · simp only[bP.l2]
      rw[if_neg (by omega)];unfold jP.f;rw[o6 X Y k (by omega),Option.bind_some];by_cases h:good X Y=true <;> simp[h]
  | succ d ih=>
    intro i X Y hi hX hY hwY hgo;rcases F.old i (by omega)with⟨g,ng⟩|⟨g,ng,nm⟩
    · obtain⟨r,h1,h2,h4,h3⟩:=ih (i + 1) X Y (by omega) (by omega) (by omega) hwY (hgo.gone g)
      refine⟨r,h1,h2,h4,fun k hk=>?_⟩;obtain⟨k,rfl⟩:∃ m,k=m + 1:=⟨k - 1,by omega⟩
      have e:=h3 k (by omega);have hN:rd N (i:Int) < 0:=ng;have hG:vY false G (i:Int)=true:=g;refine⟨?_,?_⟩
      · simp only[bJ.l3]
        rw[if_pos (by omega),if_pos (by omega),if_pos (by omega),if_pos hN,bW (x:=(i:Int) + 1) (by omega) (by omega)];exact e.1
      · simp only[bP.l2]
        rw[if_pos (by omega),if_pos (by omega),if_pos (by omega),if_pos (by omega),if_pos hG,bW (x:=(i:Int) + 1) (by omega) (by omega)];exact e.2
    · have f:=ok.fin i (by omega)
      have hx:=hw (aA H i) (by
        have hl:i < H.length:=by omega
        simp only[aA,Int.toNat_natCast]
        rw[List.getD_eq_getElem?_getD,List.getElem?_eq_getElem hl]
        exact List.getElem_mem hl)
      have kid:∀ h:Int,(h=(aA H i).f0∨h=(aA H i).f1)→qL (i:Int) (A.length:Int) h=true→(h < 0→wrap64 (-h)= -h∧ -h < (A.length:Int))∧LA c w M h=LA c w N h:=by
        intro h hh he;refine⟨fun h0=>by have ch:=child he h0;exact⟨bW (by omega) (by omega),by omega⟩,?_⟩;unfold LA;by_cases c1:h= -(c:Int)
        · rw[if_pos c1,if_pos c1]
        · rw[if_neg c1,if_neg c1]
          by_cases c2:h < 0
          · have ch:=child he c2
            rw[if_pos c2,if_pos c2];have kg:=F.kid i (by omega) g h hh c2 (by omega);rcases F.old (-h).toNat (by omega)with⟨g2,_⟩|⟨_,_,n2⟩
            · rw[kg]at g2
              cases g2
            · have:rd N (-h)=rd M (-h):=n2
              rw[this]
          · rw[if_neg c2,if_neg c2]
      obtain⟨k0,r0⟩:=kid _ (Or.inl rfl) f.1;obtain⟨k1,r1⟩:=kid _ (Or.inr rfl) f.2
      obtain⟨r,h1,h2,h4,h3⟩:=ih (i + 1) (X ++ [(⟨(aA A i).f0,(aA A i).f1⟩:R)]) (Y ++ [(⟨LA c w N (aA H i).f0,LA c w N (aA H i).f1⟩:R)]) (by omega) (by simp;omega) (by simp;omega) (by
        intro y hy
        rcases List.mem_append.1 hy with hy|hy
        · exact hwY y hy
        · rw[List.mem_singleton]at hy
          subst hy
          exact⟨bDU hwf hx.1,bDU hwf hx.2⟩) (hgo.kept g)
      refine⟨r,h1,h2,h4,fun k hk=>?_⟩;obtain⟨k,rfl⟩:∃ m,k=m + 4:=⟨k - 4,by omega⟩
      have e:=h3 k (by omega);have hN:¬ rd N (i:Int) < 0:=by
        have:0≤rd N (i:Int):=ng;omega
      have hG:¬ vY false G (i:Int)=true:=by
        have:vY false G (i:Int)=false:=g;rw[this];decide
      refine⟨?_,?_⟩
      · rw[show bJ.l3 (k + 4) (c:Int) w N (i:Int) A H X Y=bJ.l4 (k + 3) (c:Int) w N (i:Int) 0 A H X Y (aA H i).f0 (aA H i).f1 from by
          simp only[bJ.l3]
          rw[if_pos (by omega),if_pos (by omega),if_pos (by omega),if_neg hN,if_pos (by omega)]]
        rw[c5I _ _ _ _ _ _ _ _ _ _ (k + 2) hcw (by rw[f2];exact k0),c5J _ _ _ _ _ _ _ _ _ _ (k + 1) hcw (by rw[f2];exact k1)];simp only[bJ.l4];rw[if_neg (by decide),if_pos (by omega),if_pos (by omega),if_pos (by omega),if_pos (by omega),bW (x:=(i:Int) + 1) (by omega) (by omega)];exact e.1
      · rw[show bP.l2 (k + 4) (c:Int) G M w A (A.length:Int) (i:Int) A H X Y=bP.l3 (k + 3) (c:Int) G M w A (A.length:Int) (i:Int) 0 A H X Y (aA A i).f0 (aA A i).f1 (aA H i).f0 (aA H i).f1 (aA H i).f0 (aA H i).f1 from by
          simp only[bP.l2]
          rw[if_pos (by omega),if_pos (by omega),if_pos (by omega),if_pos (by omega),if_neg hG,if_pos (by omega)]]
        rw[c5K _ _ _ _ _ _ _ _ _ _ _ _ _ _ _ _ _ (k + 2) hcw (by rw[f3];exact k0) rfl,c5L _ _ _ _ _ _ _ _ _ _ _ _ _ _ _ _ _ (k + 1) hcw (by rw[f3];exact k1) rfl,r0,r1];simp only[bP.l3];rw[if_neg (by decide),Option.bind_some,if_pos (by simp;omega),Option.bind_some,if_pos (by simp;omega),bW (x:=(i:Int) + 1) (by omega) (by omega)];exact e.2
theorem c5M (c w m:Int) (N:List Int) (i:Nat) (A H:List R) (k:Nat) (hi:i < H.length) (hu:(aA H i).f0 < 0→wrap64 (-(aA H i).f0)= -(aA H i).f0∧ -(aA H i).f0 < (N.length:Int)):
    bJ.l2 (k + 1) c w N m (i:Int) 0 A H=bJ.l2 k c w (KO N c (aA H i).f0) m (i:Int) 1 A H:=by
  have w1:wrap64 (0 + 1)=1:=bW (by omega) (by omega);simp only[bJ.l2];rw[if_pos (by decide),if_pos (by omega),if_pos (by omega),if_pos trivial,w1];unfold KO;by_cases c2:(aA H i).f0 < 0
  · obtain⟨h1,h2⟩:=hu c2
    rw[if_pos c2,if_pos c2,h1];by_cases c1: -(aA H i).f0=c
    · rw[if_pos c1,if_pos c1]
    · rw[if_neg c1,if_neg c1,if_pos (by omega),if_pos h2]
  · rw[if_neg c2,if_neg c2]
theorem c5N (c w m:Int) (N:List Int) (i:Nat) (A H:List R) (k:Nat) (hi:i < H.length) (hu:(aA H i).f1 < 0→wrap64 (-(aA H i).f1)= -(aA H i).f1∧ -(aA H i).f1 < (N.length:Int)):
    bJ.l2 (k + 1) c w N m (i:Int) 1 A H=bJ.l2 k c w (KO N c (aA H i).f1) m (i:Int) 2 A H:=by
  have w2:wrap64 (1 + 1)=2:=bW (by omega) (by omega);simp only[bJ.l2];rw[if_pos (by decide),if_pos (by omega),if_pos (by omega),if_neg (by decide),if_pos trivial,w2];unfold KO;by_cases c2:(aA H i).f1 < 0
  · obtain⟨h1,h2⟩:=hu c2
    rw[if_pos c2,if_pos c2,h1];by_cases c1: -(aA H i).f1=c
    · rw[if_pos c1,if_pos c1]
    · rw[if_neg c1,if_neg c1,if_pos (by omega),if_pos h2]
  · rw[if_neg c2,if_neg c2]
theorem c5O (c:Int) (G:List Bool) (M:List Int) (m n i:Int) (A H:List R) (u v:Int) (k:Nat) (hu:u < 0→wrap64 (-u)= -u∧ -u < (G.length:Int)):
    bP.l1 (k + 1) c G M m n i 0 A H u v=bP.l1 k c (mark G u) M m n i 1 A H u v:=by
  have w1:wrap64 (0 + 1)=1:=bW (by omega) (by omega);simp only[bP.l1];rw[if_pos (by decide),if_pos trivial,w1];unfold mark;by_cases c2:u < 0
  · obtain⟨h1,h2⟩:=hu c2
    rw[if_pos c2,if_pos c2,h1,if_pos (by omega),if_pos h2]
  · rw[if_neg c2,if_neg c2]
theorem c5P (c:Int) (G:List Bool) (M:List Int) (m n i:Int) (A H:List R) (u v:Int) (k:Nat) (hu:v < 0→wrap64 (-v)= -v∧ -v < (G.length:Int)):
    bP.l1 (k + 1) c G M m n i 1 A H u v=bP.l1 k c (mark G v) M m n i 2 A H u v:=by
  have w2:wrap64 (1 + 1)=2:=bW (by omega) (by omega);simp only[bP.l1];rw[if_pos (by decide),if_neg (by decide),if_pos trivial,w2];unfold mark;by_cases c2:v < 0
  · obtain⟨h1,h2⟩:=hu c2
    rw[if_pos c2,if_pos c2,h1,if_pos (by omega),if_pos h2]
  · rw[if_neg c2,if_neg c2]
theorem c3S {A H:List R} (ok:YL A H) (hw:TE H) {c:Nat} {W:List Int} (hW:XW A.length W) (hws:∀ k,10≤k→dW.f k A H=some W) (hc:1≤c∧c < A.length):
    ∀ (us hs q:List R) (i:Nat) (B G:List Bool) (N M:List Int) (m:Nat),us.length=hs.length→H=q ++ hs→q.length=i→i + us.length=A.length→gI (A.length:Int) (i:Int) us hs B=true→Core A.length c i B G N M→Kid c H i B G→m≤i→Num c i G N m→
      ∃ r:List R × List R × Bool,r.1.length≤100∧r.2.1.length≤100∧(r.2.2=true→aDJ A H c (rd W c) r)∧∀ k,4 * us.length + 300 < k→bJ.l1 k (c:Int) (rd W c) N (m:Int) (i:Int) A H=some r∧bP.l0 k (c:Int) G M (m:Int) (A.length:Int) (i:Int) A H=some r:=by
  have o1:=ok.len;have o2:=ok.same;have w1:=hW.len;have wb:=hW.bound c hc.2;have wb6:=bd6 (A.length - c) (by omega);intro us
  induction us with
  | nil=>
    intro hs q i B G N M m hl hH hq hi hg o kd hm nu;simp only[List.length_nil]at hi;have i0:i=A.length:=by omega
    subst i0
    have F:Fin A.length c H G N M:=⟨o.lG,o.lN,o.lM,o.old,fun j hj hG h hh h0 h1=>by
      have kk:=kd j hj hG
      rcases hh with rfl|rfl
      · exact(kk.1 h0 h1).2
      · exact(kk.2 h0 h1).2⟩
    obtain⟨r,h1,h2,h4,h3⟩:=cV9 ok hw hc (w:=rd W c) (by unfold Wf;omega) F nu A.length 0 [] [] (by omega) (by simp) (by simp) (fun y hy=>by cases hy) ⟨rfl,rfl,fun j hj=>by omega⟩;refine⟨r,h1,h2,h4,fun k hk=>?_⟩;obtain⟨k,rfl⟩:∃ m,k=m + 1:=⟨k - 1,by omega⟩
    have e:=h3 k (by omega);refine⟨?_,?_⟩
    · simp only[bJ.l1]
      rw[if_neg (by omega)];exact e.1
    · simp only[bP.l0]
      rw[if_neg (by omega),KN,hws k (by omega),Option.bind_some,if_pos (by omega),if_pos (by omega)];exact e.2
  | cons a us ih=>
    intro hs q i B G N M m hl hH hq hi hg o kd hm nu;cases hs with
    |nil=>simp at hl
    | cons x hs=>
      simp only[List.length_cons]at hi;have g1:=o.lG;have g2:=o.lN;have g3:=o.lM;have g4:=o.lB;have hx:aA H (i:Int)=x:=by rw[hH,← hq];exact VA q hs x
      have seen:1≤i→B.getD i false=true:=fun h=>aPG (A.length:Int) (a::us) (x::hs) i B hl hg i h (Nat.le_refl _) (by omega)
      simp only[gI,Bool.and_eq_true]at hg;obtain⟨_,s0,s1,g⟩:=hg;have now:(G.getD i false=true∧N.getD i 0 < 0)∨(G.getD i false=false∧0≤N.getD i 0):=by
        rcases Nat.eq_zero_or_pos i with h0|h0
        · obtain⟨z1,z2⟩:=o.zero h0
          rw[h0];exact Or.inr ⟨z1,by omega⟩
        · rcases o.seen i (Nat.le_refl _) (by omega) (seen h0)with⟨a1,a2⟩|⟨a1,a2⟩
          · exact Or.inl ⟨a1,by omega⟩
          · exact Or.inr ⟨a1,by omega⟩
      have f:=ok.fin i (by omega);rw[hx]at f;have ends:∀ h:Int,qL (i:Int) (A.length:Int) h=true→h < 0→wrap64 (-h)= -h∧ -h < (A.length:Int):=fun h he h0=>by
        have ch:=child he h0;exact⟨bW (by omega) (by omega),by omega⟩
      have stay:∀ (G2:List Bool) (y:Int),pG (i:Int) (A.length:Int) B y=true∨qL (i:Int) (A.length:Int) y=true→∀ j:Nat,j≤i→(mark G2 y).getD j false=G2.getD j false:=by
        intro G2 y hy j hj;unfold mark;by_cases h0:y < 0
        · have ch:=child (hy.elim a7J id) h0
          rw[if_pos h0,tL,if_neg (by omega)]
        · rw[if_neg h0]
      rcases now with⟨gg,gn⟩|⟨gg,gn⟩
      · have c1:=(o.gone gg gn).endG s0
        have c2:=c1.endG s1;have mo:XZ B G (mark (mark B x.f0) x.f1) (mark (mark G x.f0) x.f1):=XZ.trans (bP3 s0) (bP3 s1);have kd2:Kid c H (i + 1) (mark (mark B x.f0) x.f1) (mark (mark G x.f0) x.f1):=by
          intro j hj hG;rw[stay _ _ (Or.inr f.2) j (by omega),stay _ _ (Or.inr f.1) j (by omega)]at hG;by_cases e:j=i
          · subst e
            rw[gg]at hG;cases hG
          · obtain⟨y1,y2⟩:=kd j (by omega) hG
            exact⟨y1.mono mo,y2.mono mo⟩
        obtain⟨r,h1,h2,h4,h3⟩:=ih hs (q ++ [x]) (i + 1) _ _ N M m (by simpa using hl) (by rw[hH];simp) (by simp[hq]) (by omega) g c2 kd2 (by omega) (nu.gone gg (fun j hj=>by rw[stay _ _ (Or.inr f.2) j hj,stay _ _ (Or.inr f.1) j hj]) (aFD _ _ _ (aFD _ _ _ nu.cut)));refine⟨r,h1,h2,h4,fun k hk=>?_⟩;simp only[List.length_cons]at hk;obtain⟨k,rfl⟩:∃ m,k=m + 4:=⟨k - 4,by omega⟩
        have hN:rd N (i:Int) < 0:=gn;have hG:vY false G (i:Int)=true:=gg;refine⟨?_,?_⟩
        · simp only[bJ.l1]
          rw[if_pos (by omega),if_pos (by omega),if_pos (by omega),if_pos hN,bW (x:=(i:Int) + 1) (by omega) (by omega)];exact(h3 (k + 3) (by omega)).1
        · rw[show bP.l0 (k + 4) (c:Int) G M (m:Int) (A.length:Int) (i:Int) A H=bP.l1 (k + 3) (c:Int) G M (m:Int) (A.length:Int) (i:Int) 0 A H x.f0 x.f1 from by
            simp only[bP.l0]
            rw[if_pos (by omega),if_pos (by omega),if_pos (by omega),if_pos hG,if_pos (by omega),hx]]
          rw[c5O _ _ _ _ _ _ _ _ _ _ (k + 2) (by rw[g1];exact ends _ f.1),c5P _ _ _ _ _ _ _ _ _ _ (k + 1) (by rw[oU,g1];exact ends _ f.2)];simp only[bP.l1];rw[if_neg (by decide),bW (x:=(i:Int) + 1) (by omega) (by omega)];exact(h3 k (by omega)).2
      · have c1:=(o.kept gg (by omega) (m:Int) (by omega)).endK s0
        have c2:=c1.endK s1;have mo:XZ B G (mark (mark B x.f0) x.f1) G:=XZ.trans (bAO _ _ _) (bAO _ _ _);have kd2:Kid c H (i + 1) (mark (mark B x.f0) x.f1) G:=by
          intro j hj hG;by_cases e:j=i
          · subst e
            rw[hx];exact⟨(b2M s0 (o.kept gg (by omega) (m:Int) (by omega))).mono (bAO _ _ _),b2M s1 c1⟩
          · obtain⟨y1,y2⟩:=kd j (by omega) hG
            exact⟨y1.mono mo,y2.mono mo⟩
        have nu2:=nu.kept gg (N':=KO (KO (N.set i (m:Int)) (c:Int) x.f0) (c:Int) x.f1) (fun j hj=>by rw[a4A f.2 j (by omega),a4A f.1 j (by omega),tL,if_neg (by omega)]) (by rw[a4A f.2 i (by omega),a4A f.1 i (by omega),tL,if_pos ⟨rfl,by omega⟩]);obtain⟨r,h1,h2,h4,h3⟩:=ih hs (q ++ [x]) (i + 1) _ _ _ _ (m + 1) (by simpa using hl) (by rw[hH];simp) (by simp[hq]) (by omega) g c2 kd2 (by omega) nu2;refine⟨r,h1,h2,h4,fun k hk=>?_⟩;simp only[List.length_cons]at hk;obtain⟨k,rfl⟩:∃ m,k=m + 4:=⟨k - 4,by omega⟩
        have hN:¬ rd N (i:Int) < 0:=by
          have:0≤rd N (i:Int):=gn;omega
        have hG:¬ vY false G (i:Int)=true:=by
          have:vY false G (i:Int)=false:=gg;rw[this];decide
        have wm:wrap64 ((m:Int) + 1)=((m + 1:Nat):Int):=by rw[bW (by omega) (by omega)];omega
        refine⟨?_,?_⟩
        · rw[show bJ.l1 (k + 4) (c:Int) (rd W c) N (m:Int) (i:Int) A H=bJ.l2 (k + 3) (c:Int) (rd W c) (N.set i (m:Int)) ((m + 1:Nat):Int) (i:Int) 0 A H from by
            simp only[bJ.l1]
            rw[if_pos (by omega),if_pos (by omega),if_pos (by omega),if_neg hN,wm,Int.toNat_natCast]]
          rw[c5M _ _ _ _ _ _ _ (k + 2) (by omega) (by rw[hx,List.length_set,g2];exact ends _ f.1),c5N _ _ _ _ _ _ _ (k + 1) (by omega) (by rw[hx,aH0,List.length_set,g2];exact ends _ f.2),hx];simp only[bJ.l2];rw[if_neg (by decide),bW (x:=(i:Int) + 1) (by omega) (by omega)];exact(h3 k (by omega)).1
        · simp only[bP.l0]
          rw[if_pos (by omega),if_pos (by omega),if_pos (by omega),if_neg hG,if_pos (by omega),wm,bW (x:=(i:Int) + 1) (by omega) (by omega),Int.toNat_natCast];exact(h3 (k + 3) (by omega)).2
theorem cVA (c w:Int) (A H:List R) (hA:A.length≤1000):∀ (d i k:Nat),i + d=A.length→1≤A.length→d < k→∃ j,k - d - 1=j∧bJ.l0 k c w (List.replicate i (-1) ++ List.replicate d 0) 0 (i:Int) A H=bJ.l1 j c w ((List.replicate A.length (-1)).set 0 0) 0 0 A H:=by
  intro d
  induction d with
  | zero=>
    intro i k hi h1 hk;refine⟨k - 1,by omega,?_⟩;obtain⟨k,rfl⟩:∃ m,k=m + 1:=⟨k - 1,by omega⟩
    simp only[bJ.l0];rw[if_neg (by omega),if_pos (by simp;omega)];have:i=A.length:=by omega
    subst this;simp
  | succ d ih=>
    intro i k hi h1 hk;obtain⟨k,rfl⟩:∃ m,k=m + 1:=⟨k - 1,by omega⟩
    obtain⟨j,hj,e⟩:=ih (i + 1) k (by omega) h1 (by omega);refine⟨j,by omega,?_⟩;simp only[bJ.l0];rw[if_pos (by omega),if_pos (by omega),if_pos (by simp;omega),bW (x:=(i:Int) + 1) (by omega) (by omega),Int.toNat_natCast];have hs:(List.replicate i (-1:Int) ++ List.replicate (d + 1) 0).set i (-1)=List.replicate (i + 1) (-1) ++ List.replicate d 0:=by
      have z:=bTR (List.replicate i (-1:Int)) 0 (-1) d;rw[List.length_replicate]at z;rw[z,List.replicate_succ']
    rw[hs];exact e
theorem bUF (A H:List R) (c:Int) (hb:A.length + H.length≤1048576) (hw:TE H):∃ r:List R × List R × Bool,r.1.length≤100∧r.2.1.length≤100∧(r.2.2=true→good A H=true∧∃ (c0:Nat) (W:List Int),(1≤c0∧c0 < A.length)∧XW A.length W∧L9 A H W∧aDJ A H c0 (rd W c0) r)∧∀ k,1000 + 3 * A.length + 3 * H.length≤k→bJ.f k A H c=some r∧bP.f k A H c=some r:=by
  by_cases h:good A H=true
  · have ok:=uN h
    have o1:=ok.len;have o2:=ok.same;have n1:wrap64 ((A.length:Int) - 1)=(A.length:Int) - 1:=bW (by omega) (by omega);by_cases hc:1≤c∧c≤(A.length:Int) - 1
    · obtain⟨c,rfl⟩:∃ m:Nat,c=(m:Int):=⟨c.toNat,by omega⟩
      obtain⟨W,hW,hq,hs⟩:=a3Z ok;have w1:=hW.len;have g:=h;simp only[good,Bool.and_eq_true,decide_eq_true_eq]at g;have core:Core A.length c 0 (List.replicate A.length false) ((List.replicate A.length false).set c true) ((List.replicate A.length (-1)).set 0 0) (List.replicate A.length 0):=by
        refine⟨by simp,by simp,by simp,by simp,fun j hj=>by omega,fun _=>⟨?_,?_⟩,?_,?_⟩
        · rw[tL,if_neg (by omega)]
          have h0:0 < A.length:=by omega
          simp[List.getD_eq_getElem?_getD,List.getElem?_replicate,h0]
        · rw[tL,if_pos ⟨rfl,by simp;omega⟩]
        · intro j _ hj hB
          simp[List.getD_eq_getElem?_getD,List.getElem?_replicate,hj]at hB
        · intro j _ hj h1 _
          rw[tL,if_neg (by omega),tL];refine⟨by simp[List.getD_eq_getElem?_getD,List.getElem?_replicate,hj],?_⟩;by_cases e:c=j
          · rw[if_pos ⟨e,by simp;omega⟩]
            simp[e]
          · rw[if_neg (by omega)]
            simp[List.getD_eq_getElem?_getD,List.getElem?_replicate,hj];omega
      obtain⟨r,hr1,hr2,hr4,hr⟩:=c3S ok hw hW hs (c:=c) ⟨by omega,by omega⟩ A H [] 0 _ _ _ _ 0 o2.symm rfl rfl (by omega) g.2.2 core (fun j hj=>by omega) (Nat.le_refl _) ⟨by rw[tL,if_pos ⟨rfl,by simp;omega⟩],(core.zero rfl).1,rfl,fun j hj=>by omega⟩;refine⟨r,hr1,hr2,fun h2=>⟨h,c,W,⟨by omega,by omega⟩,hW,hq,hr4 h2⟩,fun k hk=>⟨?_,?_⟩⟩
      · unfold bJ.f uT.f
        obtain⟨k,rfl⟩:∃ m,k=m + 1:=⟨k - 1,by omega⟩
        rw[qG A H _ hw (by omega),Option.bind_some,if_pos h,n1,KM,Option.bind_some,decide_eq_true (by omega),if_pos rfl,KM,Option.bind_some,Option.bind_some,if_pos (by decide)];simp only[bJ.j0];rw[if_neg (by simp;omega),hs k (by omega),Option.bind_some,if_pos (by omega),if_pos (by omega),if_pos (by omega),if_pos (by omega)];obtain⟨j,hj,e⟩:=cVA (c:Int) (rd W c) A H (by omega) A.length 0 k (by omega) (by omega) (by omega);simp only[List.replicate_zero,List.nil_append,Int.natCast_zero]at e;rw[Int.toNat_natCast,e];exact(hr j (by omega)).1
      · unfold bP.f
        obtain⟨k,rfl⟩:∃ m,k=m + 1:=⟨k - 1,by omega⟩
        rw[o6 A H _ (by omega),Option.bind_some,if_pos h,n1,L8,Option.bind_some,decide_eq_true (by omega)];simp only[bP.j0];rw[if_neg (by decide),if_pos (by omega),if_pos (by omega),Option.bind_some,if_pos (by omega),if_pos (by simp;omega),if_pos (by omega),Int.toNat_natCast,Int.toNat_natCast];exact(hr k (by omega)).2
    · refine⟨([],[],false),by simp,by simp,fun hr=>(by cases hr),fun k hk=>⟨?_,?_⟩⟩
      · unfold bJ.f uT.f
        obtain⟨k,rfl⟩:∃ m,k=m + 1:=⟨k - 1,by omega⟩
        rw[qG A H _ hw (by omega),Option.bind_some,if_pos h,n1,KM,Option.bind_some];by_cases h0:c=0
        · subst h0
          rw[decide_eq_true (by omega),if_pos rfl,KM,Option.bind_some,Option.bind_some,if_pos (by decide)];simp only[bJ.j0];rw[if_pos (by decide)]
        · rw[decide_eq_false (by omega),if_neg (by decide),Option.bind_some,if_neg (by decide)]
          simp only[bJ.j0];rw[if_pos trivial]
      · unfold bP.f
        obtain⟨k,rfl⟩:∃ m,k=m + 1:=⟨k - 1,by omega⟩
        rw[o6 A H _ (by omega),Option.bind_some,if_pos h,n1,L8,Option.bind_some,decide_eq_false (by omega)];simp only[bP.j0];rw[if_pos (by decide)]
  · refine⟨([],[],false),by simp,by simp,fun hr=>(by cases hr),fun k hk=>⟨?_,?_⟩⟩
    · unfold bJ.f uT.f
      obtain⟨k,rfl⟩:∃ m,k=m + 1:=⟨k - 1,by omega⟩
      rw[qG A H _ hw (by omega),Option.bind_some,if_neg h,Option.bind_some,if_neg (by decide)];simp only[bJ.j0];rw[if_pos trivial]
    · unfold bP.f
      obtain⟨k,rfl⟩:∃ m,k=m + 1:=⟨k - 1,by omega⟩
      rw[o6 A H _ (by omega),Option.bind_some,if_neg h];simp only[bP.j0];rw[if_pos trivial]
theorem c5R {A H:List R} (h:good A H=true) {c:Nat} (hc:1≤c∧c < A.length) {W:List Int} (hW:XW A.length W) (hq:L9 A H W) {r:List R × List R × Bool} (o:aDJ A H c (rd W c) r) {V:List Int} (hv:L9 r.1 r.2.1 V):r.1.length < A.length∧rd V 0=rd W 0∧((∀ x ∈ tn W A H,x=0)→∀ x ∈ tn V r.1 r.2.1,x=0):=by
  have ok:=uN h;have n6:=ok.len;obtain⟨g2,G,N,M,m,F,Q,o⟩:=o;have ok2:=uN g2;have lX:=o.lX;have wc:=(hW.bound c hc.2).1;have key:∀ (d j:Nat),A.length - d≤j→j < A.length→G.getD j false=false→(rd V ((kn G j:Nat):Int)=rd W (j:Int))∧∀ y:Int,(y=(aA H j).f0∨y=(aA H j).f1)→qM V (LA c (rd W c) N y)=qM W y:=by
    intro d
    induction d with
    |zero=>intro j h1 h2;omega
    | succ d ih=>
      intro j h1 h2 hg;have f:=ok.fin j h2;have lt:kn G j < kn G A.length:=bAP h2 hg;have ends:∀ y:Int,(y=(aA H j).f0∨y=(aA H j).f1)→qM V (LA c (rd W c) N y)=qM W y:=by
        intro y hy;have he:qL (j:Int) (A.length:Int) y=true:=by
          rcases hy with rfl|rfl
          · exact f.1
          · exact f.2
        unfold LA;by_cases c1:y= -(c:Int)
        · rw[if_pos c1]
          unfold qM;rw[if_neg (by omega),if_pos (by omega),show -y=(c:Int) by omega]
        · rw[if_neg c1]
          by_cases c2:y < 0
          · have ch:=child he c2
            obtain⟨e,hee⟩:∃ e:Nat,-y=(e:Int):=⟨(-y).toNat,by omega⟩
            have kg:=F.kid j h2 hg y hy c2 (by omega);rw[show(-y).toNat=e by omega]at kg;have ne:=Q.num e (by omega) kg;have k1:kn G 0 < kn G e:=bAP (by omega) Q.top;have k2:=bP4 G e;have i1:=(ih e (by omega) (by omega) kg).1;rw[if_pos c2,hee,show rd N (e:Int)=N.getD e 0 from rfl,ne,bW (x:=-((kn G e:Nat):Int)) (by omega) (by omega)];unfold qM;rw[if_pos (by omega),if_pos c2,hee,Int.neg_neg,i1]
          · rw[if_neg c2]
            unfold qM;rw[if_neg c2,if_neg c2]
      have e1:=hv (kn G j) (by omega);rw[(o.all j h2 hg).2]at e1;refine⟨?_,ends⟩;rw[e1,hq j h2];simp only;rw[ends _ (.inl rfl),ends _ (.inr rfl)]
  refine⟨?_,?_,fun lv=>?_⟩
  · obtain⟨d,hd⟩:∃ d,A.length=c + 1 + d:=⟨A.length - (c + 1),by omega⟩
    have:=bUD Q.cut d;rw[← hd]at this;omega
  · exact(key A.length 0 (by omega) (by omega) Q.top).1
  · refine aM6 ok2.same.symm V (fun m hm=>?_)
    obtain⟨j,j1,j2,rfl⟩:=bUE G A.length m (by omega);have e:=bOZ W A H j ok.same.symm j1;have tl:=aDE W A H ok.same.symm;have z:(tn W A H).getD j 0=0:=by
      have hj:j < (tn W A H).length:=by omega
      rw[List.getD_eq_getElem?_getD,List.getElem?_eq_getElem hj];exact lv _ (List.getElem_mem hj)
    obtain⟨a1,a2⟩:=o.all j j1 j2;obtain⟨_,ends⟩:=key A.length j (by omega) j1 j2;rw[a1,a2];simp only;rw[ends _ (.inl rfl),ends _ (.inr rfl)];omega
theorem aM8 (l:List Int) (k:Nat) (hl:l.length≤1000) (hk:l.length < k):qY.f k l l=some true:=by
  have l0:∀ (s p:List Int) (k:Nat),(p ++ s).length≤1000→s.length < k→qY.l0 k (p ++ s) (p ++ s) (p.length:Int)=some true:=by
    intro s
    induction s with
    | nil=>
      intro p k hl hk;obtain⟨k,rfl⟩:∃ m,k=m + 1:=⟨k - 1,by omega⟩
      simp only[qY.l0];rw[if_neg (by simp)]
    | cons x s ih=>
      intro p k hl hk;simp only[List.length_cons]at hk;obtain⟨k,rfl⟩:∃ m,k=m + 1:=⟨k - 1,by omega⟩
      simp only[qY.l0];rw[if_pos (by simp;omega),if_pos (by omega),if_pos (by simp;omega),if_pos trivial,FJ p x (by simp at hl;omega),List.append_cons p x s];exact ih (p ++ [x]) k (by simpa using hl) (by omega)
  unfold qY.f;rw[if_pos rfl];exact l0 l [] k (by simpa using hl) hk
theorem aH1 (l:List R) (k:Nat) (hl:l.length≤1000) (hk:l.length < k):oQ.f k l l=some true:=by
  have l0:∀ (s p:List R) (k:Nat),(p ++ s).length≤1000→s.length < k→oQ.l0 k (p ++ s) (p ++ s) (p.length:Int)=some true:=by
    intro s
    induction s with
    | nil=>
      intro p k hl hk;obtain⟨k,rfl⟩:∃ m,k=m + 1:=⟨k - 1,by omega⟩
      simp only[oQ.l0];rw[if_neg (by simp)]
    | cons x s ih=>
      intro p k hl hk;simp only[List.length_cons]at hk;obtain⟨k,rfl⟩:∃ m,k=m + 1:=⟨k - 1,by omega⟩
      simp only[oQ.l0];rw[if_pos (by simp;omega),if_pos (by omega),if_pos (by simp;omega),if_pos trivial,if_pos trivial,FJ p x (by simp at hl;omega),List.append_cons p x s];exact ih (p ++ [x]) k (by simpa using hl) (by omega)
  unfold oQ.f;rw[if_pos rfl];exact l0 l [] k (by simpa using hl) hk
theorem a2H (A H:List R) (k:Nat) (h1:A.length≤1000) (h2:H.length≤1000) (hk:1000 < k):tZ.f k A H A H=some true:=by
  unfold tZ.f;rw[aH1 A k h1 (by omega),Option.bind_some,if_pos rfl,aH1 H k h2 (by omega),Option.bind_some]
theorem b2O (l:List Int) (b:Int) (hb:b≤10000000) (hl:l.length≤1000) (hx:∀ x ∈ l,-b≤x∧x≤b) (k:Nat) (hk:l.length < k):uH.f k l=some (tot l):=by
  have l0:∀ (s p:List Int) (k:Nat) (acc:Int),(p ++ s).length≤1000→(∀ x ∈ s,-10000000≤x∧x≤10000000)→ -100000000000 + 10000000 * s.length≤acc∧acc≤100000000000 - 10000000 * s.length→s.length < k→uH.l0 k (p ++ s) acc (p.length:Int)=some (acc + tot s):=by
    intro s
    induction s with
    | nil=>
      intro p k acc hl hx ha hk;obtain⟨k,rfl⟩:∃ m,k=m + 1:=⟨k - 1,by omega⟩
      simp only[uH.l0];rw[if_neg (by simp)];simp[tot]
    | cons x s ih=>
      intro p k acc hl hx ha hk;simp only[List.length_cons]at hk ha;obtain⟨k,rfl⟩:∃ m,k=m + 1:=⟨k - 1,by omega⟩
      have h:=hx x (by simp);simp only[uH.l0];rw[if_pos (by simp;omega),if_pos (by omega),rdI,bW (x:=acc + x) (by omega) (by omega),FJ p x (by simp at hl;omega),List.append_cons p x s,ih (p ++ [x]) k (acc + x) (by simpa using hl) (fun y hy=>hx y (by simp[hy])) (by omega) (by omega)];simp only[tot];rw[Int.add_assoc]
  unfold uH.f;have e:=l0 l [] k 0 (by simpa using hl) (fun x h=>by have:=hx x h;omega) (by omega) hk;rw[Int.zero_add]at e;exact e
theorem b2P {C:List Int} (hC:Bytes C) (hl:C.length≤65536) (a:Int) (h0:0≤a) (h1:a≤100):∃ D,vF.f C a=some D∧Bytes D:=by
  unfold vF.f;have bd:∀ (n:Nat) (x:Int),Bytes ([] ++ C.drop n ++ [x % 256]):=by
    intro n x y hy;simp only[List.nil_append]at hy;rcases List.mem_append.1 hy with e|e
    · exact hC y (List.mem_of_mem_drop e)
    · have:y=x % 256:=by simpa using e
      omega
  by_cases c:a > (C.length:Int)
  · rw[if_pos c,Option.bind_some,if_pos (by omega),if_pos (by omega),if_pos (by simp),Option.bind_some,if_pos (by simp)]
    exact⟨_,rfl,bd _ _⟩
  · rw[if_neg c,Option.bind_some,if_pos h0,if_pos (by omega),if_pos (by simp;omega),Option.bind_some,if_pos (by simp;omega)]
    exact⟨_,rfl,bd _ _⟩
theorem aQU {A H:List R} (h:good A H=true) {w:List Int} (hl:w.length=A.length + 1) (hm:∀ x ∈ w,iT x=true) (k:Nat) (hk:2000≤k):iO.f k A H w=some (A,hang w 0 H,true):=by
  have ok:=uN h;have o1:=ok.len;have o2:=ok.same;have hc:=S9 h;have hlv:=VB H [];simp only[List.length_nil,Nat.zero_add]at hlv;have hl2:(((leaves [] H).length:Int)=(w.length:Int)):=by omega
  have hx:w.all iT=true:=List.all_eq_true.2 hm;have g:=aDD h hm (by omega);obtain⟨k,rfl⟩:∃ m,k=m + 1:=⟨k - 1,by omega⟩
  simp(disch:=omega) only[iO.f,iO.j0,jP.f,o6,h,hx,a5E,FW,hl2,eq_self,aAS,g,Bool.not_true,Option.bind_some,if_true,if_false,and_self,Bool.false_eq_true]
theorem aAT {A H:List R} (h:good A H=true):∃ V,XW A.length V∧L9 A H V∧∀ k,1200≤k→qU.f k A H=some (flat (tn V A H),true)∧uB.f k A H=some (V,true):=by
  obtain⟨V,hV,hv,hs⟩:=aT9 h;refine⟨V,hV,hv,fun k hk=>?_⟩;obtain⟨e1,e2,e3,e4,e5⟩:=hs k (by omega);simp only[qU.f,uB.f,o6 A H k (by omega),h,e2,e5,Option.bind_some,if_true,and_self]
theorem bP5 {A H:List R} {r:List R × List R × Bool} (o:r.2.2=true→good A H=true∧∃ (c0:Nat) (W:List Int),(1≤c0∧c0 < A.length)∧XW A.length W∧L9 A H W∧aDJ A H c0 (rd W c0) r) (k:Nat) (hk:3000≤k):laws_FnHanging.j3 k r.2.2 A H r.1 r.2.1=some true:=by
  obtain⟨k,rfl⟩:∃ m,k=m + 1:=⟨k - 1,by omega⟩
  simp only[laws_FnHanging.j3];by_cases hr:r.2.2=true
  · obtain⟨h,c,W,hc,hW,hq,o⟩:=o hr
    have ok:=uN h;have ok2:=uN o.1;have n1:=ok.len;have n2:=ok2.len;obtain⟨V,hV,hv,hs⟩:=aAT h;obtain⟨U,hU,hu,ht⟩:=aAT o.1;rw[aXO ok hq hv A.length c (by omega) hc.2]at o;obtain⟨l1,l2,l3⟩:=c5R h hc hV hv o hu;obtain⟨s1,s2⟩:=hs k (by omega);obtain⟨t1,t2⟩:=ht k (by omega);have vl:=hV.len;have ul:=hU.len;rw[if_pos hr,s2,Option.bind_some,t2,Option.bind_some,s1,Option.bind_some,t1,Option.bind_some];dsimp only;rw[if_pos rfl,if_pos rfl,if_pos rfl,if_pos (by omega),if_pos (by omega),if_pos l2,if_pos (by omega)];by_cases hf:flat (tn V A H)=true
    · rw[if_pos hf,aIN.2 (l3 (aIN.1 hf))]
    · rw[if_neg hf]
  · rw[if_neg hr]
theorem bAQ {A H A4 H4:List R} {w:List Int} {q:List Int × Bool} {r:List R × List R × Bool} (wl:w.length≤20) (p:q.2=true→good A4 H4=true∧(∀ x ∈ w,iT x=true)∧Mr A4 H4 (tot w) q) (o:r.2.2=true→good A H=true∧∃ (c0:Nat) (W:List Int),(1≤c0∧c0 < A.length)∧XW A.length W∧L9 A H W∧aDJ A H c0 (rd W c0) r) (k:Nat) (hk:3100≤k):laws_FnHanging.j2 k w q.1 q.2 r.2.2 A4 H4 A H r.1 r.2.1=some true:=by
  obtain⟨k,rfl⟩:∃ m,k=m + 1:=⟨k - 1,by omega⟩
  simp only[laws_FnHanging.j2];by_cases hq:q.2=true
  · obtain⟨h,hm,mr⟩:=p hq
    have ql:=mr.len;obtain⟨m1,m2,m3,m4⟩:=mr.ok hq;have lb:∀ l:List Int,(∀ x ∈ l,iT x=true)→∀ x ∈ l,-100≤x∧x≤100:=fun l hl x hx=>by
      have:=hl x hx;simp only[iT,decide_eq_true_eq]at this;omega
    rw[if_pos hq,aQU h m1 m2 k (by omega),Option.bind_some];dsimp only;rw[m4 k (by omega),Option.bind_some];dsimp only;rw[if_pos rfl,if_pos rfl,if_pos rfl,b2O q.1 100 (by omega) (by omega) (lb _ m2) k (by omega),Option.bind_some,b2O w 100 (by omega) (by omega) (lb _ hm) k (by omega),Option.bind_some,if_pos m3];exact bP5 o k (by omega)
  · rw[if_neg hq]
    exact bP5 o k (by omega)
theorem bP6 {A H A4 H4 A3 H3:List R} {i e:Int} {u:Int × Bool} {w:List Int} {q:List Int × Bool} {r:List R × List R × Bool} (fx:u.2=true→bAM A3 H3 i e u.1) (wl:w.length≤20) (p:q.2=true→good A4 H4=true∧(∀ x ∈ w,iT x=true)∧Mr A4 H4 (tot w) q) (o:r.2.2=true→good A H=true∧∃ (c0:Nat) (W:List Int),(1≤c0∧c0 < A.length)∧XW A.length W∧L9 A H W∧aDJ A H c0 (rd W c0) r) (k:Nat) (hk:3200≤k):laws_FnHanging.j1 k i e u.1 u.2 w q.1 q.2 r.2.2 A3 H3 A4 H4 A H r.1 r.2.1=some true:=by
  obtain⟨k,rfl⟩:∃ m,k=m + 1:=⟨k - 1,by omega⟩
  simp only[laws_FnHanging.j1];by_cases hu:u.2=true
  · obtain⟨j,rfl,hj,c⟩:=c5E (fx hu) k (by omega)
    rw[if_pos hu,if_pos (by omega),if_pos hj,Int.toNat_natCast];rcases c with⟨rfl,T,t1,t2,t3⟩|⟨rfl,T,t1,t2,t3⟩
    · rw[if_pos rfl,t1,Option.bind_some]
      dsimp only;rw[if_pos rfl,if_pos t2,if_pos t3];exact bAQ wl p o k (by omega)
    · rw[if_neg (by decide),if_pos rfl,t1,Option.bind_some]
      dsimp only;rw[if_pos rfl,if_pos t2,if_pos t3];exact bAQ wl p o k (by omega)
  · rw[if_neg hu]
    exact bAQ wl p o k (by omega)
theorem cH6 {A H A4 H4 A3 H3 A2 H2:List R} {s:List R × List R × Bool} {i e:Int} {u:Int × Bool} {w:List Int} {q:List Int × Bool} {r:List R × List R × Bool} (la:s.2.2=true→good A2 H2=true∧∃ W,XW A2.length W∧L9 A2 H2 W∧bAJ A2 H2 W s) (fx:u.2=true→bAM A3 H3 i e u.1) (wl:w.length≤20) (p:q.2=true→good A4 H4=true∧(∀ x ∈ w,iT x=true)∧Mr A4 H4 (tot w) q) (o:r.2.2=true→good A H=true∧∃ (c0:Nat) (W:List Int),(1≤c0∧c0 < A.length)∧XW A.length W∧L9 A H W∧aDJ A H c0 (rd W c0) r) (k:Nat) (hk:3300≤k):laws_FnHanging.j0 k s.2.2 i e u.1 u.2 w q.1 q.2 r.2.2 s.1 s.2.1 A3 H3 A4 H4 A H r.1 r.2.1=some true:=by
  obtain⟨k,rfl⟩:∃ m,k=m + 1:=⟨k - 1,by omega⟩
  simp only[laws_FnHanging.j0];by_cases hs:s.2.2=true
  · obtain⟨h,W,hW,hq,a⟩:=la hs
    have g:=a.good;rw[a.same];obtain⟨V,hV,hv,ht⟩:=aAT g;rw[if_pos hs,(ht k (by omega)).1,aIN.2 (c57 h hq a hv),Option.bind_some];dsimp only;rw[if_pos rfl,if_pos rfl];exact bP6 fx wl p o k (by omega)
  · rw[if_neg hs]
    exact bP6 fx wl p o k (by omega)
theorem FnHanging:laws_FnHanging.Pure:=by
  intro l0 h1 h2 hw;have hC:=bHS hw;by_cases big:(l0.length:Int) > 65536
  · refine⟨1,?_⟩
    unfold laws_FnHanging.f KS.f;rw[Option.bind_some,if_pos (decide_eq_true big)]
  · obtain⟨C1,c1,c2⟩:=b2P hC (by omega) 1 (by omega) (by omega)
    obtain⟨C2,c3,c4⟩:=b2P hC (by omega) 2 (by omega) (by omega);obtain⟨A1,H1,w1,a1,b1,d1,e1,f1⟩:=cH4 hC;obtain⟨A2,H2,a2,b2,d2,f2⟩:=cH5 c2;obtain⟨A3,H3,i,e,a3,b3,d3,f3⟩:=cV7 c4;obtain⟨A4,H4,w4,a4,b4,d4,e4,f4⟩:=c5G c2;obtain⟨A5,H5,c,a5,b5,d5,f5⟩:=cV8 c4;obtain⟨r1,x1,y1,o1,g1⟩:=bU8 A1 H1 w1 (by omega) (by omega) d1;obtain⟨r2,x2,y2,o2,g2⟩:=bU6 A2 H2 (by omega) d2;obtain⟨r3,o3,g3⟩:=bU9 A3 H3 i e (by omega) d3;obtain⟨r4,x4,o4,g4⟩:=bUA A4 H4 w4 (by omega) (by omega) d4;obtain⟨r5,x5,y5,o5,g5⟩:=bUF A5 H5 c (by omega) d5;obtain⟨K,hK⟩:∃ K:Nat,6000005000≤K:=⟨_,Nat.le_refl _⟩
    refine⟨K,?_⟩;have bg:¬ ((decide ((l0.length:Int) > 65536))=true):=by simpa using big
    have j0:=cH6 o2 o3 e4 o4 o5 K (by omega);have v1:=a2H r1.1 r1.2.1 K (by omega) (by omega) (by omega);have v2:=a2H r2.1 r2.2.1 K (by omega) (by omega) (by omega);have v4:=aM8 r4.1 K (by omega) (by omega);have v5:=a2H r5.1 r5.2.1 K (by omega) (by omega) (by omega);have vw:=aM8 w1 K (by omega) (by omega);unfold laws_FnHanging.f KS.f;rw[Option.bind_some,if_neg bg,f1 K (by omega),Option.bind_some];dsimp only;rw[(g1 K (by omega)).2,Option.bind_some,(g1 K (by omega)).1,Option.bind_some,c1,Option.bind_some,f2 K (by omega),Option.bind_some];dsimp only;rw[(g2 K (by omega)).2,Option.bind_some,(g2 K (by omega)).1,Option.bind_some,c3,Option.bind_some,f3 K (by omega),Option.bind_some];dsimp only;rw[(g3 K (by omega)).2,Option.bind_some,(g3 K (by omega)).1,Option.bind_some,Option.bind_some,f4 K (by omega),Option.bind_some];dsimp only;rw[(g4 K (by omega)).2,Option.bind_some,(g4 K (by omega)).1,Option.bind_some,Option.bind_some,f5 K (by omega),Option.bind_some];dsimp only;rw[(g5 K (by omega)).2,Option.bind_some,(g5 K (by omega)).1,Option.bind_some];simp only[bne_self_eq_false,Bool.false_eq_true,if_false,v1,v2,v4,v5,Option.bind_some,if_true];by_cases hr:r1.2.2=true
    · obtain⟨q1,q2,q3,q4,q5,q6⟩:=o1 hr
      have hc:=S9 q1;have lo:E5.f K r1.1 r1.2.1=some (w1,true):=by
        rw[q4,q5];simp only[E5.f,o6 A1 (hang w1 0 H1) K (by omega),q6,FW A1 (hang w1 0 H1) K (by rw[QV];omega) (by rw[QV];omega),aM5 (H:=H1) q2 (by omega),Option.bind_some,if_true]
      rw[if_pos hr,lo,Option.bind_some];dsimp only;rw[if_pos rfl,vw,Option.bind_some,if_pos rfl];exact j0
    · rw[if_neg hr]
      exact j0
end Go.Proofs.Ytinlhiakpmcagaa.Pure
