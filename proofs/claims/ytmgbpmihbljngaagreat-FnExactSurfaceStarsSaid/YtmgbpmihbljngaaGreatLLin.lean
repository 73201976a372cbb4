/- Plain laws of what the printed functions compute. No conditions beside those that each states. -/
import Derived.Test.YtmgbpmihbljngaaGreatLBase
namespace Go.Proofs.YtmgbpmihbljngaaGreat.PA
open RowKit YtmgbpmihbljngaaGreatW.PrintWords YtmgbpmihbljngaaGreatW.PrintLast YtmgbpmihbljngaaGreatW.PrintMore
set_option linter.unusedVariables false
set_option linter.unusedSimpArgs false
def fn (r:List Int) (j:Nat):Int:=rd r (j:Int)
theorem Z7 {p x y c:Int} (a b:Int) (hx:p ∣ x) (hy:p ∣ y) (h:c=a*x+b*y):p ∣ c:=by
 rw[h];exact Int.dvd_add (Int.dvd_mul_of_dvd_right hx) (Int.dvd_mul_of_dvd_right hy)
theorem Jl {p x c:Int} (a:Int) (hx:p ∣ x) (h:c=a*x):p ∣ c:=by
 rw[h];exact Int.dvd_mul_of_dvd_right hx
inductive Sp (p:Int) (w:Nat) (L:List (List Int)):(Nat->Int)->Prop where
 | zero (v:Nat->Int):(∀ j,j < w->p ∣ v j)->Sp p w L v
 | add (v u:Nat->Int) (r:List Int) (t:Int):r∈L->Sp p w L u->(∀ j,j < w->p ∣ v j - (u j+t*fn r j))->Sp p w L v
theorem Sp.congr {p:Int} {w:Nat} {L:List (List Int)} {u v:Nat->Int} (h:Sp p w L u) (he:∀ j,j < w->p ∣ v j - u j):Sp p w L v:=by
 cases h with
 | zero _ hz=>exact .zero v λj hj=>Z7 1 1 (he j hj) (hz j hj) (by omega)
 | add _ u' r t hr hu h2=>exact .add v u' r t hr hu λj hj=>Z7 1 1 (he j hj) (h2 j hj) (by omega)
theorem Sp.sum {p:Int} {w:Nat} {L:List (List Int)} {u v:Nat->Int} (hu:Sp p w L u) (hv:Sp p w L v):Sp p w L λj=>u j+v j:=by
 induction hv with
 | zero v hz=>exact hu.congr λj hj=>Jl 1 (hz j hj) (by omega)
 | add v u' r t hr _ h2 ih=>exact .add _ _ r t hr ih λj hj=>Jl 1 (h2 j hj) (by omega)
theorem Sp.scale {p:Int} {w:Nat} {L:List (List Int)} {v:Nat->Int} (s:Int) (hv:Sp p w L v):Sp p w L λj=>s*v j:=by
 induction hv with
 | zero v hz=>exact .zero _ λj hj=>Jl s (hz j hj) rfl
 | add v u r t hr _ h2 ih=>exact .add _ _ r (s*t) hr ih λj hj=>Jl s (h2 j hj) (by rw[Int.mul_sub,Int.mul_add,Int.mul_assoc])
theorem Sp.mem {p:Int} {w:Nat} {L:List (List Int)} {r:List Int} (hr:r∈L):Sp p w L (fn r):=
 .add _ (λ_=>0) r 1 hr (.zero _ λ_ _=>Int.dvd_zero p) λj _=>by simp
theorem Sp.sub {p:Int} {w:Nat} {L M:List (List Int)} (h:∀ r∈L,Sp p w M (fn r)) {v:Nat->Int} (hv:Sp p w L v):Sp p w M v:=by
 induction hv with
 | zero v hz=>exact .zero v hz
 | add v u r t hr _ h2 ih=>exact(ih.sum ((h r hr).scale t)).congr h2
structure Rref (p:Int) (w:Nat) (P:List (Nat×List Int)):Prop where
 lt:∀ x∈P,x.1 < w
 ok:∀ x∈P,x.2.length=w/\∀ y∈x.2,0<=y/\y < p
 one:∀ x∈P,fn x.2 x.1=1
 low:∀ x∈P,∀ j,j < x.1->fn x.2 j=0
 off:∀ x∈P,∀ y∈P,x.1≠y.1->fn x.2 y.1=0
 inc:P.Pairwise λx y=>x.1 < y.1
def cs (P:List (Nat×List Int)) (v:Nat->Int) (j:Nat):Int:=(P.map λx=>v x.1*fn x.2 j).sum
theorem qky {p:Int}:∀ (l:List Int),(∀ x∈l,p ∣ x)->p ∣ l.sum
 | [],_=>by simp
 | x :: l,h=>by
  rw[List.sum_cons];exact Int.dvd_add (h x (by simp)) (qky l λy hy=>h y (by simp[hy]))
theorem qha {p:Int} {P:List (Nat×List Int)} {v:Nat->Int} {j:Nat} (h:∀ x∈P,p ∣ v x.1*fn x.2 j):p ∣ cs P v j:=by
 refine qky _ λy hy=>?_;obtain⟨x,hx,rfl⟩:=List.mem_map.1 hy;exact h x hx
theorem qol :∀ (P:List (Nat×List Int)) (u v:Nat->Int) (t:Int) (j:Nat),cs P (λi=>u i+t*v i) j=cs P u j+t*cs P v j
 | [],_,_,_,_=>by simp[cs]
 | x :: P,u,v,t,j=>by
  have ih:=qol P u v t j;simp only[cs,List.map_cons,List.sum_cons]at ih ⊢;rw[ih]
  grind
theorem qu4 {p:Int} {w:Nat} {P:List (Nat×List Int)} (hlt:∀ x∈P,x.1 < w) {u v:Nat->Int} (h:∀ j,j < w->p ∣ v j - u j) (j:Nat):p ∣ cs P v j - cs P u j:=by
 have e:cs P v j - cs P u j=cs P (λi=>v i+(-1)*u i) j:=by rw[qol];omega
 rw[e];exact qha λx hx=>Jl (fn x.2 j) (h x.1 (hlt x hx)) (by rw[Int.mul_comm];congr 1;omega)
theorem qd6 {α:Type} (f:α->Int) (x:α) (A B:List α) (ha:∀ y∈A,f y=0) (hb:∀ y∈B,f y=0):((A++x :: B).map f).sum=f x:=by
 have hz:∀ C:List α,(∀ y∈C,f y=0)->(C.map f).sum=0:=by
  intro C
  induction C with
  | nil=>intro _;rfl
  | cons y C ih=>intro h;rw[List.map_cons,List.sum_cons,h y (by simp),ih λz hz=>h z (by simp[hz])];rfl
 rw[List.map_append,List.sum_append,List.map_cons,List.sum_cons,hz A ha,hz B hb];omega
theorem qel {P:List (Nat×List Int)} (hi:P.Pairwise λx y=>x.1 < y.1) {x:Nat×List Int} (hx:x∈P):∃ A B,P=A++x :: B/\(∀ y∈A,y.1≠x.1)/\∀ y∈B,y.1≠x.1:=by
 obtain⟨A,B,rfl⟩:=List.append_of_mem hx;rw[List.pairwise_append,List.pairwise_cons]at hi;exact⟨A,B,rfl,λy hy=>Nat.ne_of_lt (hi.2.2 y hy x (by simp)),λy hy=>Nat.ne_of_gt (hi.2.1.1 y hy)⟩
theorem Rref.Dt {p:Int} {w:Nat} {P:List (Nat×List Int)} (h:Rref p w P) {x:Nat×List Int} (hx:x∈P) (j:Nat):cs P (fn x.2) j=fn x.2 j:=by
 obtain⟨A,B,e,ha,hb⟩:=qel h.inc hx;have h1:∀ y,y∈P->y.1≠x.1->fn x.2 y.1*fn y.2 j=0:=λy hy hn=>by rw[h.off x hx y hy (Ne.symm hn),Int.zero_mul]
 rw[cs]
 conv=>lhs;rw[e]
 rw[qd6 _ x A B (λy hy=>h1 y (by rw[e];simp[hy]) (ha y hy)) (λy hy=>h1 y (by rw[e];simp[hy]) (hb y hy)),h.one x hx,Int.one_mul]
theorem Rref.coord {p:Int} {w:Nat} {P:List (Nat×List Int)} (h:Rref p w P) {v:Nat->Int} (hv:Sp p w (P.map Prod.snd) v):∀ j,j < w->p ∣ v j - cs P v j:=by
 induction hv with
 | zero v hz=>exact λj hj=>Z7 1 (-1) (hz j hj) (qha (P:=P) (j:=j) λx hx=>Jl (fn x.2 j) (hz x.1 (h.lt x hx)) (Int.mul_comm _ _)) (by omega)
 | add v u r t hr _ h2 ih=>
  intro j hj;obtain⟨x,hx,rfl⟩:=List.mem_map.1 hr;have h3:=qu4 h.lt h2 j;rw[qol,h.Dt hx]at h3;have h4:=h2 j hj;have h5:=ih j hj;exact Z7 1 1 (Z7 1 (-1) h4 h3 rfl) h5 (by omega)
theorem Rref.lead {p:Int} {w:Nat} {P:List (Nat×List Int)} (h:Rref p w P) {v:Nat->Int} (hv:Sp p w (P.map Prod.snd) v) {j:Nat} (hj:j < w) (hz:∀ i,i < j->p ∣ v i) (hn:¬ p ∣ v j):∃ x∈P,x.1=j:=by
 by_cases hex:∃ x∈P,x.1=j
 ·exact hex
 ·exfalso
  have h1:=h.coord hv j hj;refine hn (Z7 1 1 h1 (qha (P:=P) (v:=v) (j:=j) λx hx=>?_) (by omega));have hne:x.1≠j:=λe=>hex ⟨x,hx,e⟩
  by_cases hlt:x.1 < j
  ·exact Jl (fn x.2 j) (hz x.1 hlt) (Int.mul_comm _ _)
  ·rw[h.low x hx j (by omega),Int.mul_zero];exact Int.dvd_zero p
theorem qf6 {α:Type} {key:α->Nat}:∀ {P Q:List α},P.Pairwise (λx y=>key x < key y)->Q.Pairwise (λx y=>key x < key y)->(∀ x,x∈P↔x∈Q)->P=Q
 | [],[],_,_,_=>rfl
 | [],y :: Q,_,_,h=>absurd ((h y).2 (by simp)) (by simp)
 | x :: P,[],_,_,h=>absurd ((h x).1 (by simp)) (by simp)
 | x :: P,y :: Q,hp,hq,h=>by
  rw[List.pairwise_cons]at hp hq;have e:x=y:=by
   rcases List.mem_cons.1 ((h x).1 (by simp)) with e|hx
   ·exact e
   ·rcases List.mem_cons.1 ((h y).2 (by simp)) with e|hy
    ·exact e.symm
    ·have:=hq.1 x hx;have:=hp.1 y hy;omega
  subst e;rw[qf6 hp.2 hq.2 λz=>?_];constructor
  ·intro hz
   rcases List.mem_cons.1 ((h z).1 (by simp[hz])) with e|hz'
   ·subst e;have:=hp.1 z hz;omega
   ·exact hz'
  ·intro hz
   rcases List.mem_cons.1 ((h z).2 (by simp[hz])) with e|hz'
   ·subst e;have:=hq.1 z hz;omega
   ·exact hz'
theorem J3 {p:Int} (hp:2<=p):¬ p ∣ 1:=λh=>by
 have:=Int.le_of_dvd (by omega) h;omega
theorem qdi {p a b:Int} (ha:0<=a/\a < p) (hb:0<=b/\b < p) (h:p ∣ a - b):a=b:=by
 obtain⟨k,hk⟩:=h
 have:k=0:=by
  by_cases h1:1<=k
  ·have:=Int.mul_le_mul_of_nonneg_left h1 (show 0<=p by omega);omega
  ·by_cases h2:k<=-1
   ·have:=Int.mul_le_mul_of_nonneg_left h2 (show 0<=p by omega);omega
   ·omega
 subst this;omega
theorem Zi {p:Int} {w:Nat} {r:List Int} (h:r.length=w/\∀ x∈r,0<=x/\x < p) (j:Nat) (hj:j < w):0<=fn r j/\fn r j < p:=by
 rw[fn,Jo r j (by omega)];exact h.2 _ (List.getElem_mem _)
theorem qoq {a b:List Int} {w:Nat} (ha:a.length=w) (hb:b.length=w) (h:∀ j,j < w->fn a j=fn b j):a=b:=by
 refine List.ext_getElem (by omega) λj h1 h2=>?_
 have:=h j (by omega)
 rwa [fn,fn,Jo a j h1,Jo b j h2]at this
theorem Rref.heads {p:Int} {w:Nat} {P Q:List (Nat×List Int)} (hp:2<=p) (h:Rref p w P) (k:Rref p w Q) (hs:∀ x∈P,Sp p w (Q.map Prod.snd) (fn x.2)) {x:Nat×List Int} (hx:x∈P):∃ y∈Q,y.1=x.1:=
 k.lead (hs x hx) (h.lt x hx) (λi hi=>by rw[h.low x hx i hi];exact Int.dvd_zero p) (by rw[h.one x hx];exact J3 hp)
theorem Rref.unique {p:Int} {w:Nat} {P Q:List (Nat×List Int)} (hp:2<=p) (h:Rref p w P) (k:Rref p w Q) (hs:∀ x∈P,Sp p w (Q.map Prod.snd) (fn x.2)) (ks:∀ x∈Q,Sp p w (P.map Prod.snd) (fn x.2)):P=Q:=by
 have key:∀ {P Q:List (Nat×List Int)},Rref p w P->Rref p w Q->(∀ x∈P,Sp p w (Q.map Prod.snd) (fn x.2))->(∀ x∈Q,Sp p w (P.map Prod.snd) (fn x.2))->∀ x,x∈P->x∈Q:=by
  intro P Q h k hs ks x hx;obtain⟨y,hy,e⟩:=h.heads hp k hs hx;have e2:x.2=y.2:=by
   refine qoq (h.ok x hx).1 (k.ok y hy).1 λj hj=>qdi (Zi (h.ok x hx) j hj) (Zi (k.ok y hy) j hj) ?_;have h1:=k.coord (hs x hx) j hj;have h2:cs Q (fn x.2) j=fn y.2 j:=by
    obtain⟨A,B,e3,ha,hb⟩:=qel k.inc hy;have h3:∀ z,z∈Q->z.1≠y.1->fn x.2 z.1*fn z.2 j=0:=λz hz hn=>by
     obtain⟨x',hx',e4⟩:=k.heads hp h ks hz;rw[<-e4,h.off x hx x' hx' (by rw[e4,<-e];exact Ne.symm hn),Int.zero_mul]
    rw[cs]
    conv=>lhs;rw[e3]
    rw[qd6 _ y A B (λz hz=>h3 z (by rw[e3];simp[hz]) (ha z hz)) (λz hz=>h3 z (by rw[e3];simp[hz]) (hb z hz)),e,h.one x hx,Int.one_mul]
   rwa [h2]at h1
  have:x=y:=Prod.ext e.symm e2
  rwa [this]
 exact qf6 (key:=Prod.fst) h.inc k.inc λx=>⟨key h k hs ks x,key k h ks hs x⟩
theorem Jx :∀ {P Q:List (Nat×List Int)},P.Pairwise (λx y=>x.1 < y.1)->Q.Pairwise (λx y=>x.1 < y.1)->(∀ x∈P,∃ y∈Q,y.1=x.1)->P.length<=Q.length
 | [],_,_,_,_=>by simp
 | x :: P,Q,hp,hq,h=>by
  obtain⟨y,hy,e⟩:=h x (by simp);obtain⟨A,B,rfl⟩:=List.append_of_mem hy;rw[List.pairwise_cons]at hp;have hq':=hq;rw[List.pairwise_append,List.pairwise_cons]at hq;have hq2:(A++B).Pairwise λx y=>x.1 < y.1:=by
   rw[List.pairwise_append];exact⟨hq.1,hq.2.1.2,λa ha b hb=>hq.2.2 a ha b (by simp[hb])⟩
  have:=Jx hp.2 hq2 λz hz=>by
   obtain⟨u,hu,e2⟩:=h z (by simp[hz]);have hne:u.1≠y.1:=by have:=hp.1 z hz;omega
   refine⟨u,?_,e2⟩;simp only[List.mem_append,List.mem_cons]at hu ⊢
   rcases hu with hu|rfl|hu
   ·exact .inl hu
   ·exact absurd rfl hne
   ·exact .inr hu
  simp at this ⊢
  omega
theorem Rref.DH {p:Int} {w:Nat} {P Q:List (Nat×List Int)} (hp:2<=p) (h:Rref p w P) (k:Rref p w Q) (hs:∀ x∈P,Sp p w (Q.map Prod.snd) (fn x.2)):P.length<=Q.length:=
 Jx h.inc k.inc λ_ hx=>h.heads hp k hs hx
end Go.Proofs.YtmgbpmihbljngaaGreat.PA
