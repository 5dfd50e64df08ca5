import Derived.Test.YtnnpfekgapikfaaZFnOverhangsx0
import Derived.Test.YtnnpfekgapikfaaZFnOverhangsx1
namespace Go.Proofs.Ytnnpfekgapikfaa.PFnOverhangs
open Go.RowKit Go.Proofs.YtnnpfekgapikfaaW.PrintWords Go.Proofs.YtnnpfekgapikfaaW.PrintLast Go.Proofs.YtnnpfekgapikfaaW.PrintMore
attribute [local go_sem] max2_int min2_int max_two min_two max_three min_three max_four min_four
set_option linter.unusedVariables false
set_option linter.unusedSimpArgs false
def GO.ok (w m S d:Int):Prop:=2 * m * mx d 0≤2 * m * d + 2 * S + m * w∧2 * m * d + 2 * S + m * w≤2 * m * (mn d 0 + w)
def GO.P (w:Int):Nat→Int→Int→Prop
 |0,a,v=>a=0∧v=0
 |m + 1,a,v=>∃ S R d,GO.P w m S R∧ -w≤d∧d≤w∧GO.ok w ((m:Int) + 1) S d∧a=S + ((m:Int) + 1) * d∧v=mx 0 (R + d)
def GO.vl (w n a v:Int):Int:=v + w + (-(2 * a + n * w)) / (2 * n)
def GO.Best (w:Int) (m:Nat) (b:Int):Prop:=0≤b∧(∀ a v,GO.P w m a v→GO.vl w ((m:Int) + 1) a v≤b)∧(b=0∨∃ a v,GO.P w m a v∧b=GO.vl w ((m:Int) + 1) a v)
theorem GO.Best.one {w:Int} {m:Nat} {b c:Int} (h:GO.Best w m b) (g:GO.Best w m c):b=c:=by
 obtain⟨h0,h1,h2⟩:=h;obtain⟨g0,g1,g2⟩:=g;have e1:b≤c:=by
  rcases h2 with rfl|⟨a,v,hp,rfl⟩
  · exact g0
  · exact g1 a v hp
 have e2:c≤b:=by
  rcases g2 with rfl|⟨a,v,hp,rfl⟩
  · exact h0
  · exact h1 a v hp
 omega
theorem GO.mulle {a b c:Int} (h:a≤b) (hc:0≤c):c * a≤c * b:=Int.mul_le_mul_of_nonneg_left h hc
theorem GO.P.bound {w:Int} (hw:1≤w):∀ (m:Nat) (a v:Int),GO.P w m a v→0≤2 * a + ((m:Int) + 1) * w∧2 * a + ((m:Int) + 1) * w≤2 * (((m:Int) + 1) * w)∧0≤v∧v≤(m:Int) * w:=by
 intro m
 induction m with
 |zero=>
  rintro a v ⟨rfl,rfl⟩;simp;omega
 |succ m ih=>
  rintro a v ⟨S,R,d,hp,h1,h2,⟨h3,h4⟩,rfl,rfl⟩;obtain⟨i1,i2,i3,i4⟩:=ih S R hp;have e1:(((m + 1:Nat):Int) + 1) * w=((m:Int) + 1) * w + w:=by rw[show(((m + 1:Nat):Int) + 1)=((m:Int) + 1) + 1 from by omega,Int.add_mul,Int.one_mul]
  have e2:((m + 1:Nat):Int) * w=(m:Int) * w + w:=by rw[show((m + 1:Nat):Int)=(m:Int) + 1 from by omega,Int.add_mul,Int.one_mul]
  have hm:0≤2 * ((m:Int) + 1):=by omega
  have b1:2 * ((m:Int) + 1) * 0≤2 * ((m:Int) + 1) * mx d 0:=GO.mulle (by unfold mx;split <;> omega) hm;have b2:2 * ((m:Int) + 1) * (mn d 0 + w)≤2 * ((m:Int) + 1) * w:=GO.mulle (by unfold mn;split <;> omega) hm;have e3:2 * ((m:Int) + 1) * w=2 * (((m:Int) + 1) * w):=Int.mul_assoc _ _ _;have e4:2 * ((m:Int) + 1) * d=2 * (((m:Int) + 1) * d):=Int.mul_assoc _ _ _;rw[Int.mul_zero]at b1;rw[e1,e2];refine⟨by omega,by omega,by unfold mx;split <;> omega,?_⟩;unfold mx
  split <;> omega
theorem GO.prod {m x:Int} {B:Nat} (h0:0≤m) (h8:m≤16) (hx: -(B:Int)≤x) (hy:x≤B): -(16 * (B:Int))≤m * x∧m * x≤16 * B:=by
 have:m=0∨m=1∨m=2∨m=3∨m=4∨m=5∨m=6∨m=7∨m=8∨m=9∨m=10∨m=11∨m=12∨m=13∨m=14∨m=15∨m=16:=by omega
 rcases this with rfl|rfl|rfl|rfl|rfl|rfl|rfl|rfl|rfl|rfl|rfl|rfl|rfl|rfl|rfl|rfl|rfl <;> omega
theorem GO.P.small {w:Int} {m:Nat} {a v:Int} (hw:1≤w∧w≤24) (hm:m≤7) (h:GO.P w m a v): -192≤a∧a≤192∧0≤v∧v≤192:=by
 obtain⟨h1,h2,h3,h4⟩:=GO.P.bound hw.1 m a v h;have e:((m:Int) + 1) * w=(m:Int) * w + w:=by rw[Int.add_mul,Int.one_mul]
 have b:(m:Int) * w≤7 * w:=Int.mul_le_mul_of_nonneg_right (by omega) (by omega);omega
def GO.Rep (T Pr:Int→Int→Prop):Prop:=(∀ a v,T a v→Pr a v)∧∀ a v,Pr a v→∃ v',v≤v'∧T a v'
theorem GO.Rep.congr {T Pr Qr:Int→Int→Prop} (h:GO.Rep T Pr) (he:∀ a v,Pr a v ↔ Qr a v):GO.Rep T Qr:=⟨fun a v t=>(he a v).mp (h.1 a v t),fun a v q=>h.2 a v ((he a v).mpr q)⟩
theorem GO.Rep.put {T T' Pr:Int→Int→Prop} {a v:Int} (h:GO.Rep T Pr) (ht:∀ x y,T' x y ↔ (x=a∧y=v)∨(x ≠ a∧T x y)) (hv:∀ y,T a y→y≤v):GO.Rep T' (fun x y=>Pr x y∨(x=a∧y=v)):=by
 refine⟨fun x y t=>?_,fun x y p=>?_⟩
 · rcases(ht x y).mp t with e|⟨_,t⟩
   · exact Or.inr e
   · exact Or.inl (h.1 x y t)
 · rcases p with p|⟨rfl,rfl⟩
   · obtain⟨z,hz,t⟩:=h.2 x y p
     by_cases e:x=a
     · subst e
       exact⟨v,Int.le_trans hz (hv z t),(ht _ _).mpr (Or.inl ⟨rfl,rfl⟩)⟩
     · exact⟨z,hz,(ht _ _).mpr (Or.inr ⟨e,t⟩)⟩
   · exact⟨y,Int.le_refl _,(ht _ _).mpr (Or.inl ⟨rfl,rfl⟩)⟩
theorem GO.Rep.skip {T Pr:Int→Int→Prop} {a v z:Int} (h:GO.Rep T Pr) (t:T a z) (hz:v≤z):GO.Rep T (fun x y=>Pr x y∨(x=a∧y=v)):=by
 refine⟨fun x y t=>Or.inl (h.1 x y t),fun x y p=>?_⟩;rcases p with p|⟨rfl,rfl⟩
 · exact h.2 x y p
 · exact⟨z,hz,t⟩
theorem GO.vl_mono {w n a v v':Int} (h:v≤v'):GO.vl w n a v≤GO.vl w n a v':=by unfold GO.vl;omega
def GO.next (w k S R:Int) (a v:Int):Prop:=∃ d,-w≤d∧d≤w∧GO.ok w k S d∧a=S + k * d∧v=mx 0 (R + d)
theorem GO.next_mono {w k S R R' a v:Int} (h:GO.next w k S R a v) (hr:R≤R'):∃ v',v≤v'∧GO.next w k S R' a v':=by
 obtain⟨d,h1,h2,h3,h4,rfl⟩:=h;exact⟨mx 0 (R' + d),by unfold mx;(repeat' split) <;> omega,d,h1,h2,h3,h4,rfl⟩
theorem GO.Rep.step {w:Int} {m:Nat} {T U:Int→Int→Prop} (h:GO.Rep T (GO.P w m)) (g:GO.Rep U (fun a v=>∃ S R,T S R∧GO.next w ((m:Int) + 1) S R a v)):GO.Rep U (GO.P w (m + 1)):=by
 refine⟨fun a v u=>?_,fun a v p=>?_⟩
 · obtain⟨S,R,t,d,h1,h2,h3,h4,h5⟩:=g.1 a v u
   exact⟨S,R,d,h.1 S R t,h1,h2,h3,h4,h5⟩
 · obtain⟨S,R,d,p,h1,h2,h3,h4,h5⟩:=p
   obtain⟨R',hr,t⟩:=h.2 S R p;obtain⟨v',hv,q⟩:=GO.next_mono (w:=w) (k:=(m:Int) + 1) (S:=S) (R:=R) (a:=a) (v:=v) ⟨d,h1,h2,h3,h4,h5⟩ hr;obtain⟨v'',hv',u⟩:=g.2 a v' ⟨S,R',t,q⟩;exact⟨v'',by omega,u⟩
theorem GO.Rep.best {w:Int} {m:Nat} {T:Int→Int→Prop} (h:GO.Rep T (GO.P w m)) {b:Int} (h0:0≤b) (h1:∀ a v,T a v→GO.vl w ((m:Int) + 1) a v≤b) (h2:b=0∨∃ a v,T a v∧b=GO.vl w ((m:Int) + 1) a v):GO.Best w m b:=by
 refine⟨h0,fun a v p=>?_,?_⟩
 · obtain⟨v',hv,t⟩:=h.2 a v p
   exact Int.le_trans (GO.vl_mono hv) (h1 a v' t)
 · rcases h2 with h2|⟨a,v,t,e⟩
   · exact Or.inl h2
   · exact Or.inr ⟨a,v,h.1 a v t,e⟩
def GO.okB (w m S d:Int):Bool:=decide (2 * m * mx d 0≤2 * m * d + 2 * S + m * w) && decide (2 * m * d + 2 * S + m * w≤2 * m * (mn d 0 + w))
def GO.all (w:Int):Nat→List (Int × Int)
 |0=>[(0,0)]
 |m + 1=>(GO.all w m).flatMap fun p=>(((List.range (2 * w.toNat + 1)).map fun(j:Nat)=>(j:Int) - w).filter fun d=>GO.okB w ((m:Int) + 1) p.1 d).map fun d=>(p.1 + ((m:Int) + 1) * d,mx 0 (p.2 + d))
theorem GO.mem_all {w:Int} (hw:1≤w):∀ (m:Nat) (a v:Int),(a,v) ∈ GO.all w m ↔ GO.P w m a v:=by
 intro m
 induction m with
 |zero=>
  intro a v;simp[GO.all,GO.P]
 |succ m ih=>
  intro a v;simp only[GO.all,GO.P,List.mem_flatMap,List.mem_map,List.mem_filter,List.mem_range,Prod.exists,Prod.mk.injEq,GO.okB,GO.ok,Bool.and_eq_true,decide_eq_true_eq];constructor
  · rintro⟨S,R,hp,d,⟨⟨j,hj,rfl⟩,h3,h4⟩,rfl,rfl⟩
    exact⟨S,R,_,(ih S R).mp hp,by omega,by omega,⟨h3,h4⟩,rfl,rfl⟩
  · rintro⟨S,R,d,hp,h1,h2,⟨h3,h4⟩,rfl,rfl⟩
    exact⟨S,R,(ih S R).mpr hp,d,⟨⟨(d + w).toNat,by omega,by omega⟩,h3,h4⟩,rfl,rfl⟩
def GO.most:List Int→Int
 |[]=>0
 |x::l=>mx x (GO.most l)
theorem GO.most_ge:∀ (l:List Int),0≤GO.most l∧∀ x ∈ l,x≤GO.most l:=by
 intro l
 induction l with
 |nil=>simp[GO.most]
 |cons y l ih=>
  obtain⟨i1,i2⟩:=ih;have e:GO.most (y::l)=mx y (GO.most l):=rfl;have b:y≤mx y (GO.most l)∧GO.most l≤mx y (GO.most l):=by unfold mx;split <;> omega
  rw[e];refine⟨by omega,fun x hx=>?_⟩;rcases List.mem_cons.mp hx with rfl|hx
  · exact b.1
  · have:=i2 x hx
    omega
theorem GO.most_in:∀ (l:List Int),GO.most l=0∨GO.most l ∈ l:=by
 intro l
 induction l with
 |nil=>exact Or.inl rfl
 |cons y l ih=>
  have e:GO.most (y::l)=mx y (GO.most l):=rfl;rw[e];by_cases h:y < GO.most l
  · have:mx y (GO.most l)=GO.most l:=by unfold mx;rw[if_pos h]
    rw[this];rcases ih with ih|ih
    · exact Or.inl ih
    · exact Or.inr (List.mem_cons_of_mem _ ih)
  · have:mx y (GO.most l)=y:=by unfold mx;rw[if_neg h]
    rw[this];exact Or.inr List.mem_cons_self
def GO.best (w:Int) (m:Nat):Int:=GO.most ((GO.all w m).map fun p=>GO.vl w ((m:Int) + 1) p.1 p.2)
theorem GO.best_ok {w:Int} (hw:1≤w) (m:Nat):GO.Best w m (GO.best w m):=by
 obtain⟨g0,g1⟩:=GO.most_ge ((GO.all w m).map fun p=>GO.vl w ((m:Int) + 1) p.1 p.2);refine⟨g0,fun a v h=>g1 _ (List.mem_map.mpr ⟨(a,v),(GO.mem_all hw m a v).mpr h,rfl⟩),?_⟩;rcases GO.most_in ((GO.all w m).map fun p=>GO.vl w ((m:Int) + 1) p.1 p.2)with h|h
 · exact Or.inl h
 · obtain⟨⟨a,v⟩,h1,h2⟩:=List.mem_map.mp h
   exact Or.inr ⟨a,v,(GO.mem_all hw m a v).mp h1,h2.symm⟩
theorem GO.wid {x:Int} (h0: -9223372036854775808≤x) (h1:x≤9223372036854775807):wrap64 x=x:=by unfold wrap64;omega
theorem GO.okA {a k x d p q t:Int} (hp:p=2 * k * d) (hq:q=k * a) (ht:t=2 * k * (d + a)) (hd:d < 0):(decide (p + 2 * x + q < 0)||decide (t < p + 2 * x + q))= !GO.okB a k x d:=by
  have m1:mx d 0=0:=by unfold mx;split <;> omega
  have m2:mn d 0=d:=by unfold mn;split <;> omega
  unfold GO.okB;rw[m1,m2,← hp,← hq,← ht,Int.mul_zero,Bool.not_and,← decide_not,← decide_not];congr 1 <;> exact decide_eq_decide.mpr (by omega)
theorem GO.okC {a k x d p q:Int} (hp:p=2 * k * d) (hq:q=k * a) (hd:0 < d):(decide (p + 2 * x + q < p)||decide (2 * q < p + 2 * x + q))= !GO.okB a k x d:=by
  have m1:mx d 0=d:=by unfold mx;split <;> omega
  have m2:mn d 0=0:=by unfold mn;split <;> omega
  unfold GO.okB;rw[m1,m2,← hp,← hq,Int.zero_add,show 2 * k * a=2 * q from by rw[hq,Int.mul_assoc],Bool.not_and,← decide_not,← decide_not];congr 1 <;> exact decide_eq_decide.mpr (by omega)
theorem GO.okZ {a k x d p q t:Int} (hp:p=2 * k * d) (hq:q=k * a) (ht:t=2 * k * (d + a)) (h0:0≤d) (hd:d≤0):(decide (p + 2 * x + q < p)||decide (t < p + 2 * x + q))= !GO.okB a k x d:=by
  obtain rfl:d=0:=by omega
  have m1:mx 0 0=0:=by unfold mx;split <;> omega
  have m2:mn 0 0=0:=by unfold mn;split <;> omega
  unfold GO.okB;rw[m1,m2,← hp,← hq,← ht,Bool.not_and,← decide_not,← decide_not];congr 1 <;> exact decide_eq_decide.mpr (by omega)
theorem GO.law3:Maps.Keyed Try.prog 3:=Maps.int_keyed Try.underlying3
theorem GO.zero3 (w:World):(zeroValue 3).run Try.prog w= .ok (.int .i64 0) w:=by kernel_rfl
def GO.At (D:DataW Unit) (a v:Int):Prop:=Maps.has D (.int .i64 a)=true∧∀ z,D.atKey (.int .i64 a) z= .lit (.int .i64 v)
theorem GO.At_one {D:DataW Unit} {a v v':Int} (h:GO.At D a v) (g:GO.At D a v'):v=v':=by
 have e:=(h.2 .nil).symm.trans (g.2 .nil)
 simpa using e
theorem GO.At_put {D:DataW Unit} (hD:Maps.IsMap D) (a v x y:Int):GO.At (D.put (.int .i64 a) (.lit (.int .i64 v))) x y ↔ (x=a∧y=v)∨(x ≠ a∧GO.At D x y):=by
  by_cases e:x=a
  · subst e
    have h1:=Maps.has_put_same hD (k:= .int .i64 x) trivial (.lit (.int .i64 v));have h2:=fun z=>Maps.atKey_put_same hD (k:= .int .i64 x) trivial (.lit (.int .i64 v)) z
    constructor
    · rintro⟨_,h⟩
      have:=(h .nil).symm.trans (h2 .nil);exact Or.inl ⟨rfl,by simpa using this⟩
    · rintro(⟨_,rfl⟩|⟨h,_⟩)
      · exact⟨h1,h2⟩
      · exact absurd rfl h
  · have hne:(Lit.int .i64 x) ≠ .int .i64 a:=fun h=>e (by cases h;rfl)
    have h1:=Maps.has_put_other (D:=D) hne (.lit (.int .i64 v));have h2:=fun z=>Maps.atKey_put_other (D:=D) hne (.lit (.int .i64 v)) z
    constructor
    · rintro⟨p,h⟩
      exact Or.inr ⟨e,h1 ▸ p,fun z=>(h2 z) ▸ h z⟩
    · rintro(⟨h,_⟩|⟨_,p,h⟩)
      · exact absurd h e
      · exact⟨h1.trans p,fun z=>(h2 z).trans (h z)⟩
theorem GO.At_hat {D:DataW Unit} {a v:Int} (h:∀ z,D.atKey (.int .i64 a) z= .lit (.int .i64 v)):GO.At D a v:=⟨Maps.has_true_of_atKey h,h⟩
theorem a9Z {H:Type} {P:Program} (w:World) {ops:Array Oper} {rest:List Oper} {o:Oper} {a:Act} {Q:Exit→Act→World→Prop}
    (hg:o.guard=none) (m x v:Operand) (t:TypeId) (hop:o.op=Op.insert t m x v)
    (k e:TypeId) (K:Maps.Keyed P k) (ht:P.underlying t=some (.map k e)) (R:Value→Option (DataW H × List MemPlace)) (b n:Nat) (D:DataW H)
    (hm:a.eval m= .map (some b)) (hown:w.ownsMap P k R b n D) (hn:n < maxLen) (key val:Value) (kl:Lit) (hx:a.eval x=key) (hv:a.eval v=val) (hkey:keyOf P k key=some kl)
    (d:DataW H) (ps:List MemPlace) (hval:R val=some (d,ps))
    (hK:∀ w',w'.ownsMap P k R b (n + 1) (D.put kl d)→w.grownBy w' (some b)→wpList P ops Q rest (a.put o.dst undef) w'):
    wpList P ops Q (o::rest) a w:=by
  refine wpList_plain hg fun K' hK'=>?_
  obtain⟨w',hrun,r1,r2⟩:=hown.update K ht hn hkey hval;unfold Oper.wp;simp[execOp,hop,hm,hx,hv,hrun,Result.andThen];exact hK' _ _ (hK w' r1 r2)
theorem GO.atKey_has {D:DataW Unit} (hD:Maps.IsMap D) {kl:Lit} (h:Maps.has D kl=true) (z z':DataW Unit):D.atKey kl z=D.atKey kl z':=by
  obtain⟨es,rfl⟩:=hD;rw[Maps.has_eq]at h;cases hq:es.find? (fun p=>p.1.sameKey kl)with
  | none=>
    rw[List.find?_eq_none]at hq;obtain⟨p,hp,hk⟩:=List.any_eq_true.1 h;exact absurd hk (by simpa using hq p hp)
  |some p=>simp only[DataW.atKey,hq]
theorem GO.At_of {D:DataW Unit} (hD:Maps.IsMap D) {x c:Int} (h:Maps.has D (.int .i64 x)=true) (hc:D.atKey (.int .i64 x) (.lit (.int .i64 0))= .lit (.int .i64 c)):GO.At D x c:=⟨h,fun z=>(GO.atKey_has hD h z _).trans hc⟩
abbrev GO.own (w:World) (b n:Nat) (D:DataW Unit):Prop:=w.ownsMap Try.prog 3 (plainElem Try.prog 3) b n D
def GO.R1 (w0:World) (a n:Int) (k b B:Nat) (D:DataW Unit) (wr:World):Prop:=1≤k∧(k:Int)≤n∧B≤49 ^ (k - 1)∧w0.heap.size≤b∧GO.own wr b B D∧GO.Rep (GO.At D) (GO.P a (k - 1))∧Below w0.heap.size w0 wr
def GO.R2 (w0:World) (a:Int) (k b r b2 B:Nat) (D:DataW Unit) (left:Lit→Bool) (cnt n2:Nat) (Dn:DataW Unit) (wr:World):Prop:=
  wr.ranges Try.prog 3 (plainElem Try.prog 3) b r B D left cnt∧cnt≤B∧GO.own wr b2 n2 Dn∧n2≤49 * (B - cnt)∧GO.Rep (GO.At Dn) (fun x y=>∃ S R,GO.At D S R∧left (.int .i64 S)=false∧GO.next a k S R x y)∧Below w0.heap.size w0 wr
def GO.R3 (w0:World) (a:Int) (k b r b2 B:Nat) (D:DataW Unit) (left bBQ:Lit→Bool) (cnt1 N:Nat) (S0 R0 d:Int) (n3:Nat) (Dn:DataW Unit) (wr:World):Prop:=
  wr.ranges Try.prog 3 (plainElem Try.prog 3) b r B D bBQ cnt1∧GO.own wr b2 n3 Dn∧(n3:Int)≤N + (d + a)∧GO.Rep (GO.At Dn) (fun x y=>(∃ S R,GO.At D S R∧left (.int .i64 S)=false∧GO.next a k S R x y)∨∃ d',-a≤d'∧d' < d∧GO.ok a k S0 d'∧x=S0 + k * d'∧y=mx 0 (R0 + d'))∧Below w0.heap.size w0 wr
theorem GO.low {B k cnt n3:Nat} {d a:Int} (hB:B≤49 ^ (k - 1)) (hk:k≤8) (h:(n3:Int)≤(49 * (B - cnt):Nat) + (d + a)) (hd:d + a≤100):n3 < maxLen:=by
  have h1:49 ^ (k - 1)≤49 ^ 7:=Nat.pow_le_pow_right (by omega) (by omega);have h2:(49:Nat) ^ 7=678223072849:=by decide
  unfold maxLen;omega
theorem GO.R3_skip {a k S0 R0 d:Int} {F:Int→Int→Prop} (h:GO.okB a k S0 d=false) (x y:Int):(F x y∨∃ d',-a≤d'∧d' < d∧GO.ok a k S0 d'∧x=S0 + k * d'∧y=mx 0 (R0 + d')) ↔ (F x y∨∃ d',-a≤d'∧d' < d + 1∧GO.ok a k S0 d'∧x=S0 + k * d'∧y=mx 0 (R0 + d')):=by
  refine or_congr Iff.rfl ⟨?_,?_⟩
  · rintro⟨d',h1,h2,h3⟩
    exact⟨d',h1,by omega,h3⟩
  · rintro⟨d',h1,h2,h3,h4⟩
    by_cases e:d'=d
    · subst e
      simp only[GO.okB,Bool.and_eq_false_iff,decide_eq_false_iff_not]at h;exact absurd h3 (fun g=>by rcases h with h|h;exact h g.1;exact h g.2)
    · exact⟨d',h1,by omega,h3,h4⟩
theorem GO.R3_add {a k S0 R0 d:Int} {F:Int→Int→Prop} (h:GO.okB a k S0 d=true) (hd: -a≤d) (x y:Int):((F x y∨∃ d',-a≤d'∧d' < d∧GO.ok a k S0 d'∧x=S0 + k * d'∧y=mx 0 (R0 + d'))∨(x=S0 + k * d∧y=mx 0 (R0 + d))) ↔ (F x y∨∃ d',-a≤d'∧d' < d + 1∧GO.ok a k S0 d'∧x=S0 + k * d'∧y=mx 0 (R0 + d')):=by
  rw[or_assoc];refine or_congr Iff.rfl ⟨?_,?_⟩
  · rintro(⟨d',h1,h2,h3⟩|⟨h1,h2⟩)
    · exact⟨d',h1,by omega,h3⟩
    · simp only[GO.okB,Bool.and_eq_true,decide_eq_true_eq]at h
      exact⟨d,hd,by omega,h,h1,h2⟩
  · rintro⟨d',h1,h2,h3,h4⟩
    by_cases e:d'=d
    · subst e
      exact Or.inr h4
    · exact Or.inl ⟨d',h1,by omega,h3,h4⟩
theorem GO.R2_next {D:DataW Unit} {a k x c:Int} {left:Lit→Bool} (hat:∀ z,D.atKey (.int .i64 x) z= .lit (.int .i64 c)) (hlx:left (.int .i64 x)=true) (X Y:Int):
    ((∃ S R,GO.At D S R∧left (.int .i64 S)=false∧GO.next a k S R X Y)∨∃ d',-a≤d'∧d' < a + 1∧GO.ok a k x d'∧X=x + k * d'∧Y=mx 0 (c + d')) ↔ ∃ S R,GO.At D S R∧(left (.int .i64 S) && !(Lit.int .i64 S).sameKey (.int .i64 x))=false∧GO.next a k S R X Y:=by
  have hx:=GO.At_hat hat;constructor
  · rintro(⟨S,R,h1,h2,h3⟩|⟨d',h1,h2,h3,h4,h5⟩)
    · exact⟨S,R,h1,by rw[h2];rfl,h3⟩
    · refine⟨x,c,hx,?_,d',h1,by omega,h3,h4,h5⟩
      rw[WideAt.sameKey_self (a:= .int .i64 x) trivial];simp
  · rintro⟨S,R,h1,h2,h3⟩
    by_cases e:S=x
    · subst e
      obtain rfl:=GO.At_one h1 hx;obtain⟨d',g1,g2,g3⟩:=h3;exact Or.inr ⟨d',g1,by omega,g3⟩
    · have hne:(Lit.int .i64 S).sameKey (.int .i64 x)=false:=Maps.sameKey_ne (fun h=>e (by cases h;rfl))
      rw[hne]at h2;exact Or.inl ⟨S,R,h1,by simpa using h2,h3⟩
theorem GO.R1_next {D Dn:DataW Unit} {a:Int} {k:Nat} {left:Lit→Bool} (hk:1≤k) (hrep:GO.Rep (GO.At D) (GO.P a (k - 1))) (hA:GO.Rep (GO.At Dn) (fun x y=>∃ S R,GO.At D S R∧left (.int .i64 S)=false∧GO.next a k S R x y)) (hl:∀ kl,left kl=false):GO.Rep (GO.At Dn) (GO.P a (k + 1 - 1)):=by
  have e:k + 1 - 1=(k - 1) + 1:=by omega
  rw[e];refine GO.Rep.step hrep (hA.congr fun X Y=>?_);rw[show(((k - 1:Nat):Int) + 1)=(k:Int)from by omega];exact⟨fun⟨S,R,h1,_,h3⟩=>⟨S,R,h1,h3⟩,fun⟨S,R,h1,h3⟩=>⟨S,R,h1,hl _,h3⟩⟩
theorem GO.R1_start {a:Int}:GO.Rep (GO.At ((DataW.map []).put (.int .i64 0) (.lit (.int .i64 0)))) (GO.P a (1 - 1)):=by
  constructor
  · intro x y h
    rcases(GO.At_put Maps.isMap_empty 0 0 x y).mp h with h|⟨_,h⟩
    · exact h
    · cases h.1
  · rintro x y ⟨rfl,rfl⟩
    exact⟨0,Int.le_refl _,(GO.At_put Maps.isMap_empty 0 0 0 0).mpr (Or.inl ⟨rfl,rfl⟩)⟩
theorem GO.R3_put {Dm:DataW Unit} {a k S0 R0 d s v:Int} {F:Int→Int→Prop} (hA:GO.Rep (GO.At Dm) (fun x y=>F x y∨∃ d',-a≤d'∧d' < d∧GO.ok a k S0 d'∧x=S0 + k * d'∧y=mx 0 (R0 + d')))
    (hD:Maps.IsMap Dm) (hok:GO.okB a k S0 d=true) (hd: -a≤d) (hs:s=k * d) (hv:v=mx 0 (R0 + d)) (hold:∀ y,GO.At Dm (S0 + s) y→y≤v):
    GO.Rep (GO.At (Dm.put (.int .i64 (S0 + s)) (.lit (.int .i64 v)))) (fun x y=>F x y∨∃ d',-a≤d'∧d' < d + 1∧GO.ok a k S0 d'∧x=S0 + k * d'∧y=mx 0 (R0 + d')):=by
  refine GO.Rep.congr (GO.Rep.put hA (GO.At_put hD (S0 + s) v) hold) fun x y=>?_
  rw[hs,hv];exact GO.R3_add hok hd x y
theorem GO.R3_old {Dm:DataW Unit} {a k S0 R0 d s v z:Int} {F:Int→Int→Prop} (hA:GO.Rep (GO.At Dm) (fun x y=>F x y∨∃ d',-a≤d'∧d' < d∧GO.ok a k S0 d'∧x=S0 + k * d'∧y=mx 0 (R0 + d')))
    (hok:GO.okB a k S0 d=true) (hd: -a≤d) (hs:s=k * d) (hv:v=mx 0 (R0 + d)) (hz:GO.At Dm (S0 + s) z) (hvz:v≤z):
    GO.Rep (GO.At Dm) (fun x y=>F x y∨∃ d',-a≤d'∧d' < d + 1∧GO.ok a k S0 d'∧x=S0 + k * d'∧y=mx 0 (R0 + d')):=by
  refine GO.Rep.congr (GO.Rep.skip hA hz hvz) fun x y=>?_
  rw[hs,hv];exact GO.R3_add hok hd x y
def GO.R4 (w0:World) (a n:Int) (b r B:Nat) (D:DataW Unit) (left:Lit→Bool) (cnt:Nat) (best:Int) (wr:World):Prop:=
  wr.ranges Try.prog 3 (plainElem Try.prog 3) b r B D left cnt∧0≤best∧best≤1000∧(∀ S R,GO.At D S R→left (.int .i64 S)=false→GO.vl a n S R≤best)∧(best=0∨∃ S R,GO.At D S R∧best=GO.vl a n S R)∧Below w0.heap.size w0 wr
theorem GO.R4_end {D:DataW Unit} {a n:Int} {k:Nat} {left:Lit→Bool} {best:Int} (hk:1≤k) (hn:(k:Int)=n) (hrep:GO.Rep (GO.At D) (GO.P a (k - 1))) (h0:0≤best) (h1:∀ S R,GO.At D S R→left (.int .i64 S)=false→GO.vl a n S R≤best)
    (h2:best=0∨∃ S R,GO.At D S R∧best=GO.vl a n S R) (hl:∀ kl,left kl=false):GO.Best a (n.toNat - 1) best:=by
  have e:n.toNat - 1=k - 1:=by omega
  rw[e];have e2:(((k - 1:Nat):Int) + 1)=n:=by omega
  refine GO.Rep.best hrep h0 ?_ ?_
  · rw[e2]
    exact fun S R h=>h1 S R h (hl _)
  · rw[e2]
    exact h2
theorem GO.down {a x c n:Int} {k:Nat} (ha:1≤a) (hk:1≤k) (hn:(k:Int)=n) (h:GO.P a (k - 1) x c):∃ L:Int,L=(-(2 * x + n * a)) / (2 * n)∧ -a≤L∧L≤0∧0≤2 * x + n * a∧2 * x + n * a≤2 * (n * a):=by
  obtain⟨h1,h2,_,_⟩:=GO.P.bound ha (k - 1) x c h;rw[show(((k - 1:Nat):Int) + 1)=n from by omega]at h1 h2;refine⟨_,rfl,?_,?_,h1,h2⟩
  · rw[Int.le_ediv_iff_mul_le (by omega)]
    have: -a * (2 * n)= -(2 * (n * a)):=by rw[Int.neg_mul,Int.mul_comm a,Int.mul_assoc]
    omega
  · have:(-(2 * x + n * a)) / (2 * n)≤0 / (2 * n):=Int.ediv_le_ediv (by omega) (by omega)
    simpa using this
theorem GO.R4_next {D:DataW Unit} {a n x c v best:Int} {left:Lit→Bool} (hat:∀ z,D.atKey (.int .i64 x) z= .lit (.int .i64 c)) (hlx:left (.int .i64 x)=true) (hv:v=GO.vl a n x c)
    (h1:∀ S R,GO.At D S R→left (.int .i64 S)=false→GO.vl a n S R≤best) (h2:best=0∨∃ S R,GO.At D S R∧best=GO.vl a n S R) (h0:0≤best):
    0≤(if best < v then v else best)∧(∀ S R,GO.At D S R→(left (.int .i64 S) && !(Lit.int .i64 S).sameKey (.int .i64 x))=false→GO.vl a n S R≤(if best < v then v else best))∧((if best < v then v else best)=0∨∃ S R,GO.At D S R∧(if best < v then v else best)=GO.vl a n S R):=by
  have hx:=GO.At_hat hat;refine⟨by split <;> omega,?_,?_⟩
  · intro S R g1 g2
    by_cases e:S=x
    · subst e
      obtain rfl:=GO.At_one g1 hx;rw[← hv]
      split <;> omega
    · have hne:(Lit.int .i64 S).sameKey (.int .i64 x)=false:=Maps.sameKey_ne (fun h=>e (by cases h;rfl))
      rw[hne]at g2;have:=h1 S R g1 (by simpa using g2)
      split <;> omega
  · split
    · exact Or.inr ⟨x,c,hx,hv⟩
    · exact h2
theorem GO.low_iff {a x n L l p q:Int} (hn:1≤n) (hL:L=(-(2 * x + n * a)) / (2 * n)) (hp:p=2 * n * l) (hq:q=n * a):l≤L ↔ p + 2 * x + q≤0:=by
  rw[hL,Int.le_ediv_iff_mul_le (by omega),Int.mul_comm l,← hp,← hq];omega
set_option maxRecDepth 100000 in
set_option maxHeartbeats 8000000 in
theorem GO.walk (a n:Int) (ha:1≤a∧a≤24) (hn:1≤n∧n≤8) (w:World):
    Calls Try.prog 8 #[.int .i64 a,.int .i64 n] w fun e w'=>∃ b:Int,e= .returned (.tuple #[.int .i64 b,.bool true])∧GO.Best a (n.toNat - 1) b∧Below w.heap.size w w':=by
  have hmm:=@run_makeMap Try.prog;have hs:sS.f a n=some true:=by
    obtain⟨h1,h2⟩:=ha;obtain⟨h3,h4⟩:=hn;simp[sS.f,vN.f,oK.f,h1,h2,h3,h4]
  have hown0:=World.ownsMap_made w.drew Try.prog 3 (plainElem (H:=Unit) Try.prog 3);go_enter Try.func8,Try.ntmps8
  go_wp2_with (first
    |((with_reducible refine aI (f:=54) rfl ?_);refine bM (some 24) rfl rfl Try.func54 (by kernel_rfl) rfl #[.int .i64 a,.int .i64 n] rfl tM ?_;(with_reducible refine(sS.calls a n true _ hs).mono ?_);rintro e w' ⟨rfl,⟨nd,rfl⟩⟩;refine⟨_,rfl,?_⟩)
    |(refine a9Z _ rfl _ _ _ 57 rfl 3 3 GO.law3 Try.underlying57 _ _ 0 _ rfl (World.ownsMap_made _ _ _ _) (by unfold maxLen;omega) _ _ _ rfl rfl (Maps.keyOf_int_mk Try.underlying3 (by decide)) _ [] (plainElem_int (H:=Unit) Try.underlying3 (by decide)) ?_;intro w1 hown1 hgrow1)
    |go_in)
  go_loopw [6,7] (fun v6 v7 wr=>∃ (k b B:Nat) (D:DataW Unit),v7= .int .i64 k∧v6= .map (some b)∧GO.R1 w a n k b B D wr) (fun _ v7 _=>(n - intOf v7).toNat)
  case atStart=>
    refine⟨1,_,1,_,rfl,rfl,by omega,by omega,by simp,Nat.le_refl _,hown1,GO.R1_start,?_⟩;exact((wZ.below ⟨nd,rfl⟩).alloc (by simp) _).grown hgrow1 (by simp) (fun j hj=>by cases hj;exact Nat.le_refl _)
  case round=>
    obtain⟨k,b,B,D,rfl,rfl,hR⟩:=hrel;by_cases hlt:(k:Int) < n
    · have hl1:decide ((k:Int) < n)=true:=decide_eq_true hlt
      obtain⟨hk1,hkn,hB,hb,hown,hrep,hbel⟩:=hR;have e1:(wr.alloc (.map #[] 0)).heap.size=wr.heap.size + 1:=by simp
      go_wp2_with (first
        |(at_range;refine wpList_range_own _ rfl _ 57 rfl 3 3 GO.law3 Try.underlying57 _ b B _ rfl (hown.alloc _) ?_;intro w0 hrg0 hg0 hs0)
        |go_in)
      go_frame;rw[e1]at hrg0 hs0 ⊢;have hown2:GO.own w0 wr.heap.size 0 (.map []):=(World.ownsMap_made wr Try.prog 3 (plainElem (H:=Unit) Try.prog 3)).kept hg0 (by simp);have aQJ:Below w.heap.size w w0:=(hbel.alloc hbel.size _).grown hg0 (by have:=hbel.size;simp;omega) (fun j hj=>by cases hj);have hsz2:w.heap.size≤wr.heap.size:=hbel.size;have hbb:b < wr.heap.size:=hown.lt;clear e1 hg0;generalize wr.heap.size=b2 at hrg0 hs0 hown2 hsz2 hbb ⊢;go_loopw [36] (fun _ w2=>∃ (left:Lit→Bool) (cnt n2:Nat) (Dn:DataW Unit),GO.R2 w a k b (b2 + 1) b2 B D left cnt n2 Dn w2) (fun _ w2=>w2.rangeLeft b (b2 + 1))
      case atStart=>
        exact⟨_,_,0,.map [],hrg0,hown.size_le,hown2,Nat.zero_le _,⟨(fun x y h=>by cases h.1),(fun x y h=>by obtain⟨S,R,h1,h2,_⟩:=h;rw[h1.1]at h2;cases h2)⟩,aQJ⟩
      case round=>
        obtain⟨left,cnt,n2,Dn,hrg,hcs,hout,hn2,hA,hnx⟩:=hrel
        go_wp2_with (first
          |(at_next;refine wpList_next_ranges_ii _ rfl _ rfl 3 3 .i64 .i64 GO.law3 Try.underlying3 Try.underlying3 b (b2 + 1) B _ _ _ rfl hrg ?_ ?_)
          |go_in)
        · intro hc0 hl0
          go_wp2;have hk7:49 * (B - 0)≤49 ^ k:=by
            have:49 ^ k=49 * 49 ^ (k - 1):=by rw[← Nat.pow_succ'];congr 1;omega
            omega
          go_roundw
          case rel=>exact⟨k + 1,b2,49 ^ k,Dn,by go_num,rfl,by omega,by omega,by simp,hsz2,hout.mono (by subst hc0;omega),GO.R1_next hk1 hrep hA hl0,hnx⟩
          case measure=>simp[intOf];omega
        · intro x c w3 cnt1 hwx hwc hlx hat hrg1 hlt1 hg1 hs1 hen
          have hP:=hrep.1 x c (GO.At_hat hat);have hx:=GO.P.small ha (by omega) hP;obtain⟨hx1,hx2,hc1,hc2⟩:=hx;go_wp2;go_loopw [11] (fun v11 w4=>∃ (d:Int) (n3:Nat) (Dm:DataW Unit),v11= .int .i64 d∧ -a≤d∧d≤a + 1∧GO.R3 w a k b (b2 + 1) b2 B D left (fun z=>left z && !z.sameKey (.int .i64 x)) cnt1 (49 * (B - cnt)) x c d n3 Dm w4) (fun v11 _=>(a + 1 - intOf v11).toNat)
          case atStart=>
            exact⟨-a,n2,Dn,rfl,by omega,by omega,hrg1,hout.kept hg1 (by simp),by omega,hA.congr fun X Y=>⟨Or.inl,fun h=>by rcases h with h|⟨d',h1,h2,_⟩;exact h;omega⟩,hnx.grown hg1 hnx.size (fun j hj=>by cases hj;omega)⟩
          case round=>
            obtain⟨d,n3,Dm,rfl,hd1,hd2,hrg3,VM,hn3,hA3,aA9⟩:=hrel;by_cases hld:d≤a
            · have hl3:decide (d≤a)=true:=decide_eq_true hld
              have k2:wrap64 (2 * (k:Int))=2 * (k:Int):=GO.wid (by omega) (by omega);obtain⟨p,hp,hp1,hp2⟩:∃ p:Int,p=2 * (k:Int) * d∧ -384≤p∧p≤384:=⟨_,rfl,by have:=GO.prod (m:=2 * (k:Int)) (x:=d) (B:=24) (by omega) (by omega) (by omega) (by omega);omega,by have:=GO.prod (m:=2 * (k:Int)) (x:=d) (B:=24) (by omega) (by omega) (by omega) (by omega);omega⟩
              obtain⟨q,hq,hq1,hq2⟩:∃ q:Int,q=(k:Int) * a∧ -384≤q∧q≤384:=⟨_,rfl,by have:=GO.prod (m:=(k:Int)) (x:=a) (B:=24) (by omega) (by omega) (by omega) (by omega);omega,by have:=GO.prod (m:=(k:Int)) (x:=a) (B:=24) (by omega) (by omega) (by omega) (by omega);omega⟩
              obtain⟨s,hs,hs1,hs2⟩:∃ s:Int,s=(k:Int) * d∧ -384≤s∧s≤384:=⟨_,rfl,by have:=GO.prod (m:=(k:Int)) (x:=d) (B:=24) (by omega) (by omega) (by omega) (by omega);omega,by have:=GO.prod (m:=(k:Int)) (x:=d) (B:=24) (by omega) (by omega) (by omega) (by omega);omega⟩
              obtain⟨t,ht,ht1,ht2⟩:∃ t:Int,t=2 * (k:Int) * (d + a)∧ -800≤t∧t≤800:=⟨_,rfl,by have:=GO.prod (m:=2 * (k:Int)) (x:=d + a) (B:=48) (by omega) (by omega) (by omega) (by omega);omega,by have:=GO.prod (m:=2 * (k:Int)) (x:=d + a) (B:=48) (by omega) (by omega) (by omega) (by omega);omega⟩
              have ep:wrap64 (2 * (k:Int) * d)=p:=by rw[← hp];exact GO.wid (by omega) (by omega)
              have eq:wrap64 ((k:Int) * a)=q:=by rw[← hq];exact GO.wid (by omega) (by omega)
              have es:wrap64 ((k:Int) * d)=s:=by rw[← hs];exact GO.wid (by omega) (by omega)
              have et:wrap64 (2 * (k:Int) * (d + a))=t:=by rw[← ht];exact GO.wid (by omega) (by omega)
              have er:wrap64 (2 * (k:Int) * a)=2 * q:=by rw[show 2 * (k:Int) * a=2 * q from by rw[hq,Int.mul_assoc]];exact GO.wid (by omega) (by omega)
              have ez:wrap64 0=0:=GO.wid (by omega) (by omega);replace hp:=Aside0.mk hp;replace hq:=Aside0.mk hq;replace hs:=Aside0.mk hs;replace ht:=Aside0.mk ht;clear k2;go_upto_region 15 with(fail)
              go_cut [76] (fun v76 wc=>v76= .bool (!GO.okB a k x d)∧wc=wr)
              case first=>
                rcases Int.lt_or_le d 0 with hneg|hpos
                · have hn0:¬ (0 < d):=by omega
                  have hn1:¬ (0≤d):=by omega
                  go_wp2
                  all_goals
                    go_meet
                    case rel=>
                      refine⟨?_,rfl⟩;first
                      |(rw[← GO.okA hp.out hq.out ht.out hneg];done)
                      |(rw[← GO.okA hp.out hq.out ht.out hneg,decide_eq_true (show p + 2 * x + q < 0 by assumption)];(try rfl);done)
                · have hn1:¬ (d < 0):=by omega
                  rcases Int.lt_or_le 0 d with hp0|hz0
                  · have hn2:¬ (d≤0):=by omega
                    go_wp2
                    all_goals
                      go_meet
                      case rel=>
                        refine⟨?_,rfl⟩;first
                        |(rw[← GO.okC hp.out hq.out hp0];done)
                        |(rw[← GO.okC hp.out hq.out hp0,decide_eq_true (show p + 2 * x + q < p by assumption)];(try rfl);done)
                  · have hn2:¬ (0 < d):=by omega
                    go_wp2
                    all_goals
                      go_meet
                      case rel=>
                        refine⟨?_,rfl⟩;first
                        |(rw[← GO.okZ hp.out hq.out ht.out hpos hz0];done)
                        |(rw[← GO.okZ hp.out hq.out ht.out hpos hz0,decide_eq_true (show p + 2 * x + q < p by assumption)];(try rfl);done)
              case rest=>
                obtain⟨rfl,rfl⟩:=hcut;cases hok:GO.okB a k x d with
                | false=>
                  go_wp2;go_roundw
                  case rel=>exact⟨d + 1,n3,Dm,rfl,by omega,by omega,hrg3,VM,by omega,hA3.congr (GO.R3_skip hok),aA9⟩
                  case measure=>simp[intOf];omega
                | true=>
                  have hlow:n3 < maxLen:=GO.low hB (by omega) hn3 (by omega);cases hh:Maps.has Dm (.int .i64 (x + s))with
                  | false=>
                    go_wp2_with (first
                      |(at_lookup;refine wpList_lookup_own_ok_int _ rfl _ _ 57 rfl 3 3 .i64 GO.law3 Try.underlying57 Try.underlying3 (GO.zero3 _) b2 n3 _ rfl VM _ _ rfl (Maps.keyOf_int_mk Try.underlying3 (WalkArith.wf_i64 (by omega))) ?_;intro c4 b6W bI2)
                      |(at_mapUpdate;refine wpList_mapUpdate_own _ rfl _ _ _ 57 rfl 3 3 GO.law3 Try.underlying57 _ b2 n3 _ rfl VM hlow _ _ _ rfl rfl (Maps.keyOf_int_mk Try.underlying3 (WalkArith.wf_i64 (by omega))) _ [] (plainElem_int Try.underlying3 (WalkArith.wf_i64 (by omega))) ?_;intro w5 aQK hg5;go_frame)
                      |go_in)
                    all_goals
                      have aWX:=hrg3.kept hg5 (fun e=>by have:=Option.some.inj e;omega) (fun e=>by have:=Option.some.inj e;omega);go_roundw
                      case rel=>exact⟨d + 1,n3 + 1,_,rfl,by omega,by omega,aWX,aQK,by simp only[Int.natCast_add,Int.natCast_one];omega,GO.R3_put hA3 VM.isMap hok hd1 hs.out (by unfold mx;split <;> omega) (fun y hy=>absurd hy.1 (by rw[hh];decide)),aA9.grown hg5 aA9.size (fun j hj=>by cases hj;exact hsz2)⟩
                      case measure=>simp[intOf];omega
                  | true=>
                    go_wp2_with (first
                      |(at_lookup;refine wpList_lookup_own_ok_int _ rfl _ _ 57 rfl 3 3 .i64 GO.law3 Try.underlying57 Try.underlying3 (GO.zero3 _) b2 n3 _ rfl VM _ _ rfl (Maps.keyOf_int_mk Try.underlying3 (WalkArith.wf_i64 (by omega))) ?_;intro c4 b6W bI2)
                      |(at_mapUpdate;refine wpList_mapUpdate_own _ rfl _ _ _ 57 rfl 3 3 GO.law3 Try.underlying57 _ b2 n3 _ rfl VM hlow _ _ _ rfl rfl (Maps.keyOf_int_mk Try.underlying3 (WalkArith.wf_i64 (by omega))) _ [] (plainElem_int Try.underlying3 (WalkArith.wf_i64 (by omega))) ?_;intro w5 aQK hg5;go_frame)
                      |go_in)
                    all_goals have hAt:=GO.At_of VM.isMap hh b6W
                    all_goals first
                      |( have aWX:=hrg3.kept hg5 (fun e=>by have:=Option.some.inj e;omega) (fun e=>by have:=Option.some.inj e;omega)
                         go_roundw
                         case rel=>exact⟨d + 1,n3 + 1,_,rfl,by omega,by omega,aWX,aQK,by simp only[Int.natCast_add,Int.natCast_one];omega,GO.R3_put hA3 VM.isMap hok hd1 hs.out (by unfold mx;split <;> omega) (fun y hy=>by have:=GO.At_one hy hAt;omega),aA9.grown hg5 aA9.size (fun j hj=>by cases hj;exact hsz2)⟩
                         case measure=>simp[intOf];omega)
                      |( go_roundw
                         case rel=>exact⟨d + 1,n3,Dm,rfl,by omega,by omega,hrg3,VM,by omega,GO.R3_old hA3 hok hd1 hs.out rfl hAt (by unfold mx;split <;> omega),aA9⟩
                         case measure=>simp[intOf];omega)
            · have hl3:decide (d≤a)=false:=decide_eq_false hld
              go_wp2;obtain rfl:d=a + 1:=by omega
              go_roundw
              case rel=>exact⟨_,cnt1,n3,Dm,hrg3,by omega,VM,by omega,hA3.congr (GO.R2_next hat hlx),aA9⟩
              case measure=>rw[hrg3.left_eq,hrg.left_eq];exact hlt1
    · have hl1:decide ((k:Int) < n)=false:=decide_eq_false hlt
      obtain⟨hk1,hkn,hB,hb,hown,hrep,hbel⟩:=hR
      go_wp2_with (first
        |(at_range;refine wpList_range_own _ rfl _ 57 rfl 3 3 GO.law3 Try.underlying57 _ b B _ rfl hown ?_;intro w0 hrg0 hg0 hs0)
        |go_in)
      (try go_frame);have aQJ:Below w.heap.size w w0:=hbel.grown hg0 hbel.size (fun j hj=>by cases hj);have hsz2:w.heap.size≤wr.heap.size:=hbel.size;clear hg0;generalize wr.heap.size=r at hrg0 hs0 hsz2 ⊢;go_loopw [17] (fun v17 w2=>∃ (best:Int) (left:Lit→Bool) (cnt:Nat),v17= .int .i64 best∧GO.R4 w a n b r B D left cnt best w2) (fun _ w2=>w2.rangeLeft b r)
      case atStart=>exact⟨0,_,_,rfl,hrg0,by omega,by omega,(fun S R h1 h2=>by rw[h1.1]at h2;cases h2),Or.inl rfl,aQJ⟩
      case round=>
        obtain⟨best,left,cnt,rfl,hrg,hb0,hb1,hA1,hA2,hnx⟩:=hrel
        go_wp2_with (first
          |(at_next;refine wpList_next_ranges_ii _ rfl _ rfl 3 3 .i64 .i64 GO.law3 Try.underlying3 Try.underlying3 b r B _ _ _ rfl hrg ?_ ?_)
          |go_in)
        · intro hc0 hl0
          go_wp2;go_ret2;exact⟨best,rfl,GO.R4_end hk1 (by omega) hrep hb0 hA1 hA2 hl0,hnx⟩
        · intro x c w3 cnt1 hwx hwc hlx hat hrg1 hlt1 hg1 hs1 hen
          have hP:=hrep.1 x c (GO.At_hat hat);have hx:=GO.P.small ha (by omega) hP;obtain⟨hx1,hx2,hc1,hc2⟩:=hx;obtain⟨L,hL,hL1,hL2,hL3,hL4⟩:=GO.down (n:=n) ha.1 hk1 (by omega) hP;replace hL:=Aside0.mk hL;go_wp2;go_loop [17,20] (fun v17 v20=>∃ l:Int,v17= .int .i64 best∧v20= .int .i64 l∧L≤l∧l≤0) (fun _ v20=>(intOf v20 - L).toNat)
          case atStart=>exact⟨0,rfl,rfl,by omega,by omega⟩
          case round=>
            obtain⟨l,rfl,rfl,c98,c99⟩:=hrel;have c9A:decide (-99≤l)=true:=decide_eq_true (by omega);obtain⟨p,hp,hp1,hp2⟩:∃ p:Int,p=2 * n * l∧ -384≤p∧p≤384:=⟨_,rfl,by have:=GO.prod (m:=2 * n) (x:=l) (B:=24) (by omega) (by omega) (by omega) (by omega);omega,by have:=GO.prod (m:=2 * n) (x:=l) (B:=24) (by omega) (by omega) (by omega) (by omega);omega⟩
            obtain⟨q,hq,hq1,hq2⟩:∃ q:Int,q=n * a∧ -384≤q∧q≤384:=⟨_,rfl,by have:=GO.prod (m:=n) (x:=a) (B:=24) (by omega) (by omega) (by omega) (by omega);omega,by have:=GO.prod (m:=n) (x:=a) (B:=24) (by omega) (by omega) (by omega) (by omega);omega⟩
            obtain⟨t,ht,ht1,ht2⟩:∃ t:Int,t=2 * n * (l + a)∧ -800≤t∧t≤800:=⟨_,rfl,by have:=GO.prod (m:=2 * n) (x:=l + a) (B:=48) (by omega) (by omega) (by omega) (by omega);omega,by have:=GO.prod (m:=2 * n) (x:=l + a) (B:=48) (by omega) (by omega) (by omega) (by omega);omega⟩
            have ep:wrap64 (2 * n * l)=p:=by rw[← hp];exact GO.wid (by omega) (by omega)
            have eq:wrap64 (n * a)=q:=by rw[← hq];exact GO.wid (by omega) (by omega)
            have et:wrap64 (2 * n * (l + a))=t:=by rw[← ht];exact GO.wid (by omega) (by omega)
            have ez:wrap64 0=0:=GO.wid (by omega) (by omega);rw[← hq]at hL3 hL4;have hk:l≤L ↔ p + 2 * x + q≤0:=GO.low_iff hn.1 hL.out hp hq;have hk2:t=p + 2 * q:=by rw[ht,hp,hq,Int.mul_add,Int.mul_assoc 2 n a]
            replace hp:=Aside0.mk hp;replace hq:=Aside0.mk hq;replace ht:=Aside0.mk ht;replace hk:=Aside0.mk hk;replace hk2:=Aside0.mk hk2;by_cases hfin:l≤L
            · have hc0:=hk.out.mp hfin
              have hc1:=hk2.out;have c1:decide (p≤p + 2 * x + q)=true:=decide_eq_true (by omega);have c2:decide (p + 2 * x + q≤t)=true:=decide_eq_true (by omega);have c3:decide (p + 2 * x + q≤0)=true:=decide_eq_true (by omega);clear hc1;rcases Int.lt_or_le 0 (l + a)with hla|hla
              all_goals
                go_wp2
              all_goals
                have hv:l + c + a=GO.vl a n x c:=by
                  have:=hL.out;unfold GO.vl;omega
                have hs4:=GO.R4_next hat hlx hv hA1 hA2 hb0;refine⟨⟨_,_,cnt1,rfl,hrg1,hs4.1,?_,hs4.2.1,hs4.2.2,hnx.grown hg1 hnx.size (fun j hj=>by cases hj;exact hsz2)⟩,?_⟩
                · split <;> omega
                · rw[hrg1.left_eq,hrg.left_eq]
                  exact hlt1
            · have hc0:¬ (p + 2 * x + q≤0):=fun h=>hfin (hk.out.mpr h)
              have hla:0 < l + a:=by omega
              have c1:decide (p≤p + 2 * x + q)=true:=decide_eq_true (by omega);have c3:decide (p + 2 * x + q≤0)=false:=decide_eq_false (by omega);go_wp2;go_round
              case rel=>exact⟨l - 1,rfl,rfl,by omega,by omega⟩
              case measure=>simp[intOf];omega
set_option maxRecDepth 100000 in
set_option maxHeartbeats 8000000 in
theorem GO.walkNo (a n:Int) (w:World) (hs:sS.f a n=some false):
    Calls Try.prog 8 #[.int .i64 a,.int .i64 n] w fun e w'=>e= .returned (.tuple #[.int .i64 0,.bool false])∧Below w.heap.size w w':=by
  go_enter Try.func8,Try.ntmps8
  go_wp2_with (first
    |((with_reducible refine aI (f:=54) rfl ?_);refine bM (some 24) rfl rfl Try.func54 (by kernel_rfl) rfl #[.int .i64 a,.int .i64 n] rfl tM ?_;(with_reducible refine(sS.calls a n false _ hs).mono ?_);rintro e w' ⟨rfl,⟨nd,rfl⟩⟩;refine⟨_,rfl,?_⟩)
    |go_in)
  go_ret2;exact⟨rfl,wZ.below ⟨nd,rfl⟩⟩
theorem GO.isSize_true {a n:Int} (h:sS.f a n=some true):(1≤a∧a≤24)∧(1≤n∧n≤8):=by
  simp only[sS.f,vN.f,oK.f]at h;by_cases h1:1≤a
  · by_cases h2:a≤24
    · by_cases h3:1≤n
      · by_cases h4:n≤8
        · exact⟨⟨h1,h2⟩,h3,h4⟩
        · simp[h1,h2,h3,h4]at h
      · simp[h1,h2,h3]at h
    · simp[h1,h2]at h
  · simp[h1]at h
def jO.f (a0:Int) (a1:Int):Option (Int × Bool):=(sS.f a0 a1).bind fun t=>(if t=true then(some (GO.best a0 (a1.toNat - 1),true))else(some (0,false)))
theorem jO.calls (a0:Int) (a1:Int) (r1:Int) (r2:Bool) (w:World) (h:jO.f a0 a1=some (r1,r2)):
    Calls Try.prog 8 #[.int .i64 a0,.int .i64 a1] w fun e w'=>e= .returned (.tuple #[.int .i64 r1,.bool r2])∧Below w.heap.size w w':=by
  unfold jO.f at h;cases hs:sS.f a0 a1 with
  |none=>rw[hs]at h;cases h
  | some t=>
    rw[hs,Option.bind_some]at h;cases t with
    | false=>
      rw[if_neg (by decide)]at h;cases h;exact GO.walkNo a0 a1 w hs
    | true=>
      rw[if_pos rfl]at h;cases h;obtain⟨ha,hn⟩:=GO.isSize_true hs;refine(GO.walk a0 a1 ha hn w).mono ?_;rintro e w' ⟨b,rfl,hb,hbel⟩;rw[GO.Best.one (GO.best_ok ha.1 (a1.toNat - 1)) hb];exact⟨rfl,hbel⟩
def mD.l0:Nat→Int→Int→Int→Int→List Int→List Int→Option (Int × Int)
 |0,_,_,_,_,_,_=>none
 |k + 1,x6,x7,x8,aO6,aF2,a7M=>if x8 < (aF2.length:Int)then(if 0≤x8 then(if x8 < (a7M.length:Int)then(mD.l0 k (wrap64 (x6 + (wrap64 ((rd a7M x8) * (wrap64 ((wrap64 (2 * (rd aF2 x8))) + aO6)))))) (wrap64 (x7 + (rd a7M x8))) (wrap64 (x8 + 1)) aO6 aF2 a7M)else(none))else(none))else(some (x6,x7))
def mD.f (k:Nat) (aG:Int) (aC:List Int) (aD:List Int) (a1:Int):Option (Int × Int):=mD.l0 k 0 0 a1 aG aC aD
set_option maxHeartbeats 8000000 in
set_option maxRecDepth 100000 in
theorem mD.calls (k:Nat) (aG:Int) (bB:Option Addr) (bA:Nat) (aC:List Int) (aY:Option Addr) (aZ:Nat) (aD:List Int) (a1:Int) (r1:Int) (r2:Int) (w:World) (jF:Kd.C (Kd.int .i64) w bB aC.length aC) (jG:aC.length≤bA) (jH:Kd.C (Kd.int .i64) w aY aD.length aD) (jI:aD.length≤aZ) (h:mD.f k aG aC aD a1=some (r1,r2)):
  Calls Try.prog 55 #[.agg #[.int .i64 aG,.slice bB aC.length bA,.slice aY aD.length aZ],.int .i64 a1] w fun e w'=>e= .returned (.tuple #[.int .i64 r1,.int .i64 r2])∧Below w.heap.size w w':=by
 have uN:=Try.underlying27;have dJ:=Aside0.mk jF;have gW:=Aside0.mk jG;clear jF jG;have gD:=Aside0.mk jH;have gX:=Aside0.mk jI;clear jH jI;have HB:=Aside0.mk (Below.refl w.heap.size w);have H:(mD.l0 k 0 0 a1 aG aC aD)=some (r1,r2):=h;clear h;have H':=Aside0.mk H;clear H;go_enter Try.func55,Try.ntmps55;go_wp2_with (first|((with_reducible refine bK (N:=2) rfl ?_);refine bE 2 #[.int .i64 aG,.slice bB aC.length bA,.slice aY aD.length aZ] 27 ?_;intro aQL hg w3 hbox hb;have a2I:=Aside0.mk hbox;have aBL:=sB HB hg;have b0A:=aBL;replace HB:=hB HB hb;clear hb hbox hg));repeat(go_quiet (first|((with_reducible refine bK (N:=2) rfl ?_);refine bE 2 #[.int .i64 aG,.slice bB aC.length bA,.slice aY aD.length aZ] 27 ?_;intro aQL hg w3 hbox hb;have a2I:=Aside0.mk hbox;have aBL:=sB HB hg;have b0A:=aBL;replace HB:=hB HB hb;clear hb hbox hg));try go_wp2_with (first|((with_reducible refine bK (N:=2) rfl ?_);refine bE 2 #[.int .i64 aG,.slice bB aC.length bA,.slice aY aD.length aZ] 27 ?_;intro aQL hg w3 hbox hb;have a2I:=Aside0.mk hbox;have aBL:=sB HB hg;have b0A:=aBL;replace HB:=hB HB hb;clear hb hbox hg)))
 go_loopg [6,7,8] k (fun kq v6 v7 v8 w'=>∃ (iW:Int) (iN:Int) (tZ:Int),v6= .int .i64 iW∧v7= .int .i64 iN∧v8= .int .i64 tZ∧Aside0 (mD.l0 kq iW iN tZ aG aC aD=some (r1,r2))∧Aside0 (kq≤k)∧Aside0 (w'.heap[aQL]? =some (.cells #[.int .i64 aG,(.slice bB aC.length bA),(.slice aY aD.length aZ)] 27 (0,0)))∧Aside0 (Below w.heap.size w w'))
 case atStart=>exact⟨(0),(0),(a1),tS,tS,tS,H',⟨Nat.le_refl _⟩,⟨tK a2I.out⟩,⟨tB HB.out⟩⟩
 case round=>
  clear H';obtain⟨iW,iN,tZ,rfl,rfl,rfl,HA,rD,a2I,HB⟩:=hrel;cases gk with
  |zero=>exact absurd HA.out (by simp[mD.l0])
  |succ k1=>
   have H:=HA.out;clear HA;simp only[mD.l0]at H;by_cases c4:tZ < (aC.length:Int)
   ·rw[if_pos c4]at H;have GU:decide (tZ < (aC.length:Int))=true:=decide_eq_true c4;clear c4;by_cases c5:0≤tZ
    ·rw[if_pos c5]at H;have QZ:decide (0≤tZ)=true:=decide_eq_true c5;clear c5;by_cases c6:tZ < (aD.length:Int)
     ·rw[if_pos c6]at H;have aEV:decide (tZ < (aD.length:Int))=true:=decide_eq_true c6;clear c6;have H':=Aside0.mk H;clear H;obtain⟨TB,TC,TD,TE,TF,TG⟩:=dM a2I;have aWY:0≤(tZ:Int):=of_decide_eq_true (by first|(with_reducible assumption)|assumption);have aWZ:tZ < (aD.length:Int):=of_decide_eq_true (by first|(with_reducible assumption)|assumption);obtain⟨bBR,bI3,aO7⟩:=Kd.at_int gD.out tZ aWY aWZ;cases bI3;replace aO7:=hC HB aO7;replace aWY:=eq_true aWY;replace aWZ:=eq_true aWZ;have aX0:0≤(tZ:Int):=of_decide_eq_true (by first|(with_reducible assumption)|assumption);have aX1:tZ < (aC.length:Int):=of_decide_eq_true (by first|(with_reducible assumption)|assumption);obtain⟨c4Z,bI4,aO8⟩:=Kd.at_int dJ.out tZ aX0 aX1;cases bI4;replace aO8:=hC HB aO8;replace aX0:=eq_true aX0;replace aX1:=eq_true aX1;have aX2:0≤(tZ:Int):=of_decide_eq_true (by first|(with_reducible assumption)|assumption);have aX3:tZ < (aD.length:Int):=of_decide_eq_true (by first|(with_reducible assumption)|assumption);obtain⟨bBS,bI5,aO9⟩:=Kd.at_int gD.out tZ aX2 aX3;obtain rfl:bBR=bBS:=(by injection bI5)
      replace aO9:=hC HB aO9;replace aX2:=eq_true aX2;replace aX3:=eq_true aX3;go_wp2;repeat(go_quiet (fail);try go_wp2)
      go_roundg k1
      case measure=>have:=rD.out;omega
      case rel=>exact⟨(wrap64 (iW + (wrap64 ((rd aD tZ) * (wrap64 ((wrap64 (2 * (rd aC tZ))) + aG)))))),(wrap64 (iN + (rd aD tZ))),(wrap64 (tZ + 1)),tS,tS,tS,H',⟨by have:=rD.out;omega⟩,⟨tK a2I.out⟩,⟨tB HB.out⟩⟩
     ·rw[if_neg c6]at H;exact absurd H (by simp)
    ·rw[if_neg c5]at H;exact absurd H (by simp)
   ·rw[if_neg c4]at H;have GU:decide (tZ < (aC.length:Int))=false:=decide_eq_false c4;clear c4;simp only[Option.some.injEq,Prod.mk.injEq]at H;obtain⟨rfl,rfl⟩:=H;obtain⟨QK,TH,QL,QM,QN,QO⟩:=dM a2I;go_wp2;repeat(go_quiet (fail);try go_wp2)
    go_ret2;exact⟨tE,tB HB.out⟩
end Go.Proofs.Ytnnpfekgapikfaa.PFnOverhangs
