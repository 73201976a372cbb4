/- For every code: a drawn form has the value 0 at all places of a drawn line if and only if the reference says so; then it has the value 0 at the line's second row, and twice the form is 0 on the line, too. No conditions. -/
import Derived.Test.YtmgbpmihbljngaaWMore
import Derived.Test.YtmgbpmihbljngaaPAx2
import Derived.Test.YtmgbpmihbljngaaPAx7
import Derived.Test.YtmgbpmihbljngaaPAx16
import Derived.Test.YtmgbpmihbljngaaPAx20
import Derived.Test.YtmgbpmihbljngaaPAx1
import Derived.Test.YtmgbpmihbljngaaPAx21
import Derived.Test.YtmgbpmihbljngaaPAx22
import Derived.Test.YtmgbpmihbljngaaPAx14
import Derived.Test.YtmgbpmihbljngaaPAx23
import Derived.Test.YtmgbpmihbljngaaPAx18
import Derived.Test.YtmgbpmihbljngaaPAx3
import Derived.Test.YtmgbpmihbljngaaPAx4
import Derived.Test.YtmgbpmihbljngaaPAx5
import Derived.Test.YtmgbpmihbljngaaPAx8
import Derived.Test.YtmgbpmihbljngaaPAx9
import Derived.Test.YtmgbpmihbljngaaPAx19
import Derived.Test.YtmgbpmihbljngaaPAx0
import Derived.Test.YtmgbpmihbljngaaPAx10
import Derived.Test.YtmgbpmihbljngaaPAx13
import Derived.Test.YtmgbpmihbljngaaPAx15
import Derived.Test.YtmgbpmihbljngaaPAx11
import Derived.Test.YtmgbpmihbljngaaPAx12
import Derived.Test.YtmgbpmihbljngaaPAx24
import Derived.Test.YtmgbpmihbljngaaPAx27
import Derived.Test.YtmgbpmihbljngaaPAx28
import Derived.Test.YtmgbpmihbljngaaPAx29
import Derived.Test.YtmgbpmihbljngaaPAx26
import Derived.Test.YtmgbpmihbljngaaPAx25
import Derived.Test.YtmgbpmihbljngaaPAx30
namespace Go.Proofs.Ytmgbpmihbljngaa.PA
open Go.RowKit Go.Proofs.YtmgbpmihbljngaaW.PrintWords Go.Proofs.YtmgbpmihbljngaaW.PrintLast Go.Proofs.YtmgbpmihbljngaaW.PrintMore
set_option linter.unusedVariables false
set_option linter.unusedSimpArgs false
theorem wsm {i:Int} (h0:-1000000000000000000≤i) (h:i≤1000000000000000000):wrap64 i=i:=by unfold wrap64;omega
theorem Ev.k {α:Type} {x:Option α} {r:α} (h:x=some r):Ev (fun _=>x) r:=⟨0,fun _ _=>h⟩
theorem Ev.ite {α:Type} {c:Prop} [Decidable c] {g f:Nat→Option α} {r:α} (h1:c→Ev g r) (h2:¬ c→Ev f r):Ev (fun k=>if c then g k else f k) r:=by
  by_cases h:c
  · exact(h1 h).congr (fun k=>if_pos h)
  · exact(h2 h).congr (fun k=>if_neg h)
theorem Ev.yes {α:Type} {c:Prop} [Decidable c] {g f:Nat→Option α} {r:α} (h:c) (h1:Ev g r):Ev (fun k=>if c then g k else f k) r:=h1.congr (fun k=>if_pos h)
theorem Ev.no {α:Type} {c:Prop} [Decidable c] {g f:Nat→Option α} {r:α} (h:¬ c) (h1:Ev f r):Ev (fun k=>if c then g k else f k) r:=h1.congr (fun k=>if_neg h)
theorem Ji (l:List Int) (j:Nat) (h:j < l.length):rd l (j:Int)=l[j]:=by simp[rd,List.getD_eq_getElem?_getD,h]
theorem qa1 (l:List Int) (j:Nat) (h:j < l.length):l.drop j=rd l (j:Int) :: l.drop (j+1):=by rw[Ji l j h,List.drop_eq_getElem_cons h]
end Go.Proofs.Ytmgbpmihbljngaa.PA
namespace Go.Proofs.Ytmgbpmihbljngaa.PA
open Go.RowKit Go.Proofs.YtmgbpmihbljngaaW.PrintWords Go.Proofs.YtmgbpmihbljngaaW.PrintLast Go.Proofs.YtmgbpmihbljngaaW.PrintMore
set_option linter.unusedVariables false
set_option linter.unusedSimpArgs false
def fn (r:List Int) (j:Nat):Int:=rd r (j:Int)
theorem Je {p x y c:Int} (a b:Int) (hx:p ∣ x) (hy:p ∣ y) (h:c=a*x+b*y):p ∣ c:=by
  rw[h];exact Int.dvd_add (Int.dvd_mul_of_dvd_right hx) (Int.dvd_mul_of_dvd_right hy)
theorem Jh {p x c:Int} (a:Int) (hx:p ∣ x) (h:c=a*x):p ∣ c:=by
  rw[h];exact Int.dvd_mul_of_dvd_right hx
inductive Sp (p:Int) (w:Nat) (L:List (List Int)):(Nat→Int)→Prop where
  | zero (v:Nat→Int):(∀ j,j < w→p ∣ v j)→Sp p w L v
  | add (v u:Nat→Int) (r:List Int) (t:Int):r∈L→Sp p w L u→(∀ j,j < w→p ∣ v j - (u j+t*fn r j))→Sp p w L v
theorem Sp.congr {p:Int} {w:Nat} {L:List (List Int)} {u v:Nat→Int} (h:Sp p w L u) (he:∀ j,j < w→p ∣ v j - u j):Sp p w L v:=by
  cases h with
  | zero _ hz=>exact .zero v fun j hj=>Je 1 1 (he j hj) (hz j hj) (by omega)
  | add _ u' r t hr hu h2=>exact .add v u' r t hr hu fun j hj=>Je 1 1 (he j hj) (h2 j hj) (by omega)
theorem Sp.sum {p:Int} {w:Nat} {L:List (List Int)} {u v:Nat→Int} (hu:Sp p w L u) (hv:Sp p w L v):Sp p w L fun j=>u j+v j:=by
  induction hv with
  | zero v hz=>exact hu.congr fun j hj=>Jh 1 (hz j hj) (by omega)
  | add v u' r t hr _ h2 ih=>exact .add _ _ r t hr ih fun j hj=>Jh 1 (h2 j hj) (by omega)
theorem Sp.scale {p:Int} {w:Nat} {L:List (List Int)} {v:Nat→Int} (s:Int) (hv:Sp p w L v):Sp p w L fun j=>s*v j:=by
  induction hv with
  | zero v hz=>exact .zero _ fun j hj=>Jh s (hz j hj) rfl
  | add v u r t hr _ h2 ih=>exact .add _ _ r (s*t) hr ih fun j hj=>Jh s (h2 j hj) (by rw[Int.mul_sub,Int.mul_add,Int.mul_assoc])
theorem Sp.mem {p:Int} {w:Nat} {L:List (List Int)} {r:List Int} (hr:r∈L):Sp p w L (fn r):=
  .add _ (fun _=>0) r 1 hr (.zero _ fun _ _=>Int.dvd_zero p) fun j _=>by simp
theorem Sp.sub {p:Int} {w:Nat} {L M:List (List Int)} (h:∀ r∈L,Sp p w M (fn r)) {v:Nat→Int} (hv:Sp p w L v):Sp p w M v:=by
  induction hv with
  | zero v hz=>exact .zero v hz
  | add v u r t hr _ h2 ih=>exact(ih.sum ((h r hr).scale t)).congr h2
structure Rref (p:Int) (w:Nat) (P:List (Nat×List Int)):Prop where
  lt:∀ x∈P,x.1 < w
  ok:∀ x∈P,x.2.length=w∧∀ y∈x.2,0≤y∧y < p
  one:∀ x∈P,fn x.2 x.1=1
  low:∀ x∈P,∀ j,j < x.1→fn x.2 j=0
  off:∀ x∈P,∀ y∈P,x.1≠y.1→fn x.2 y.1=0
  inc:P.Pairwise fun x y=>x.1 < y.1
def cs (P:List (Nat×List Int)) (v:Nat→Int) (j:Nat):Int:=(P.map fun x=>v x.1*fn x.2 j).sum
theorem qhj {p:Int}:∀ (l:List Int),(∀ x∈l,p ∣ x)→p ∣ l.sum
  | [],_=>by simp
  | x :: l,h=>by
    rw[List.sum_cons]
    exact Int.dvd_add (h x (by simp)) (qhj l fun y hy=>h y (by simp[hy]))
theorem qew {p:Int} {P:List (Nat×List Int)} {v:Nat→Int} {j:Nat} (h:∀ x∈P,p ∣ v x.1*fn x.2 j):p ∣ cs P v j:=by
  refine qhj _ fun y hy=>?_
  obtain⟨x,hx,rfl⟩:=List.mem_map.1 hy
  exact h x hx
theorem qjz :∀ (P:List (Nat×List Int)) (u v:Nat→Int) (t:Int) (j:Nat),cs P (fun i=>u i+t*v i) j=cs P u j+t*cs P v j
  | [],_,_,_,_=>by simp[cs]
  | x :: P,u,v,t,j=>by
    have ih:=qjz P u v t j
    simp only[cs,List.map_cons,List.sum_cons]at ih ⊢
    rw[ih]
    grind
theorem qpj {p:Int} {w:Nat} {P:List (Nat×List Int)} (hlt:∀ x∈P,x.1 < w) {u v:Nat→Int} (h:∀ j,j < w→p ∣ v j - u j) (j:Nat):p ∣ cs P v j - cs P u j:=by
  have e:cs P v j - cs P u j=cs P (fun i=>v i+(-1)*u i) j:=by rw[qjz];omega
  rw[e]
  exact qew fun x hx=>Jh (fn x.2 j) (h x.1 (hlt x hx)) (by rw[Int.mul_comm];congr 1;omega)
theorem qc2 {α:Type} (f:α→Int) (x:α) (A B:List α) (ha:∀ y∈A,f y=0) (hb:∀ y∈B,f y=0):((A++x :: B).map f).sum=f x:=by
  have hz:∀ C:List α,(∀ y∈C,f y=0)→(C.map f).sum=0:=by
    intro C
    induction C with
    | nil=>intro _;rfl
    | cons y C ih=>intro h;rw[List.map_cons,List.sum_cons,h y (by simp),ih fun z hz=>h z (by simp[hz])];rfl
  rw[List.map_append,List.sum_append,List.map_cons,List.sum_cons,hz A ha,hz B hb];omega
theorem qgj {P:List (Nat×List Int)} (hi:P.Pairwise fun x y=>x.1 < y.1) {x:Nat×List Int} (hx:x∈P):∃ A B,P=A++x :: B∧(∀ y∈A,y.1≠x.1)∧∀ y∈B,y.1≠x.1:=by
  obtain⟨A,B,rfl⟩:=List.append_of_mem hx
  rw[List.pairwise_append,List.pairwise_cons]at hi
  exact⟨A,B,rfl,fun y hy=>Nat.ne_of_lt (hi.2.2 y hy x (by simp)),fun y hy=>Nat.ne_of_gt (hi.2.1.1 y hy)⟩
theorem Rref.cs_row {p:Int} {w:Nat} {P:List (Nat×List Int)} (h:Rref p w P) {x:Nat×List Int} (hx:x∈P) (j:Nat):cs P (fn x.2) j=fn x.2 j:=by
  obtain⟨A,B,e,ha,hb⟩:=qgj h.inc hx
  have h1:∀ y,y∈P→y.1≠x.1→fn x.2 y.1*fn y.2 j=0:=fun y hy hn=>by rw[h.off x hx y hy (Ne.symm hn),Int.zero_mul]
  rw[cs]
  conv=>lhs;rw[e]
  rw[qc2 _ x A B (fun y hy=>h1 y (by rw[e];simp[hy]) (ha y hy)) (fun y hy=>h1 y (by rw[e];simp[hy]) (hb y hy)),h.one x hx,Int.one_mul]
theorem Rref.coord {p:Int} {w:Nat} {P:List (Nat×List Int)} (h:Rref p w P) {v:Nat→Int} (hv:Sp p w (P.map Prod.snd) v):∀ j,j < w→p ∣ v j - cs P v j:=by
  induction hv with
  | zero v hz=>exact fun j hj=>Je 1 (-1) (hz j hj) (qew (P:=P) (j:=j) fun x hx=>Jh (fn x.2 j) (hz x.1 (h.lt x hx)) (Int.mul_comm _ _)) (by omega)
  | add v u r t hr _ h2 ih=>
    intro j hj
    obtain⟨x,hx,rfl⟩:=List.mem_map.1 hr
    have h3:=qpj h.lt h2 j
    rw[qjz,h.cs_row hx]at h3
    have h4:=h2 j hj
    have h5:=ih j hj
    exact Je 1 1 (Je 1 (-1) h4 h3 rfl) h5 (by omega)
theorem Rref.lead {p:Int} {w:Nat} {P:List (Nat×List Int)} (h:Rref p w P) {v:Nat→Int} (hv:Sp p w (P.map Prod.snd) v) {j:Nat} (hj:j < w) (hz:∀ i,i < j→p ∣ v i) (hn:¬ p ∣ v j):∃ x∈P,x.1=j:=by
  by_cases hex:∃ x∈P,x.1=j
  · exact hex
  · exfalso
    have h1:=h.coord hv j hj
    refine hn (Je 1 1 h1 (qew (P:=P) (v:=v) (j:=j) fun x hx=>?_) (by omega))
    have hne:x.1≠j:=fun e=>hex ⟨x,hx,e⟩
    by_cases hlt:x.1 < j
    · exact Jh (fn x.2 j) (hz x.1 hlt) (Int.mul_comm _ _)
    · rw[h.low x hx j (by omega),Int.mul_zero];exact Int.dvd_zero p
theorem qgl {α:Type} {key:α→Nat}:∀ {P Q:List α},P.Pairwise (fun x y=>key x < key y)→Q.Pairwise (fun x y=>key x < key y)→(∀ x,x∈P↔x∈Q)→P=Q
  | [],[],_,_,_=>rfl
  | [],y :: Q,_,_,h=>absurd ((h y).2 (by simp)) (by simp)
  | x :: P,[],_,_,h=>absurd ((h x).1 (by simp)) (by simp)
  | x :: P,y :: Q,hp,hq,h=>by
    rw[List.pairwise_cons]at hp hq
    have e:x=y:=by
      rcases List.mem_cons.1 ((h x).1 (by simp)) with e | hx
      · exact e
      · rcases List.mem_cons.1 ((h y).2 (by simp)) with e | hy
        · exact e.symm
        · have:=hq.1 x hx;have:=hp.1 y hy;omega
    subst e
    rw[qgl hp.2 hq.2 fun z=>?_]
    constructor
    · intro hz
      rcases List.mem_cons.1 ((h z).1 (by simp[hz])) with e | hz'
      · subst e;have:=hp.1 z hz;omega
      · exact hz'
    · intro hz
      rcases List.mem_cons.1 ((h z).2 (by simp[hz])) with e | hz'
      · subst e;have:=hq.1 z hz;omega
      · exact hz'
theorem qae {p:Int} (hp:2≤p):¬ p ∣ 1:=fun h=>by
  have:=Int.le_of_dvd (by omega) h;omega
theorem qfq {p a b:Int} (ha:0≤a∧a < p) (hb:0≤b∧b < p) (h:p ∣ a - b):a=b:=by
  obtain⟨k,hk⟩:=h
  have:k=0:=by
    by_cases h1:1≤k
    · have:=Int.mul_le_mul_of_nonneg_left h1 (show 0≤p by omega);omega
    · by_cases h2:k≤-1
      · have:=Int.mul_le_mul_of_nonneg_left h2 (show 0≤p by omega);omega
      · omega
  subst this;omega
theorem Jb {p:Int} {w:Nat} {r:List Int} (h:r.length=w∧∀ x∈r,0≤x∧x < p) (j:Nat) (hj:j < w):0≤fn r j∧fn r j < p:=by
  rw[fn,Ji r j (by omega)];exact h.2 _ (List.getElem_mem _)
theorem qkg {a b:List Int} {w:Nat} (ha:a.length=w) (hb:b.length=w) (h:∀ j,j < w→fn a j=fn b j):a=b:=by
  refine List.ext_getElem (by omega) fun j h1 h2=>?_
  have:=h j (by omega)
  rwa [fn,fn,Ji a j h1,Ji b j h2]at this
theorem Rref.heads {p:Int} {w:Nat} {P Q:List (Nat×List Int)} (hp:2≤p) (h:Rref p w P) (k:Rref p w Q) (hs:∀ x∈P,Sp p w (Q.map Prod.snd) (fn x.2)) {x:Nat×List Int} (hx:x∈P):∃ y∈Q,y.1=x.1:=
  k.lead (hs x hx) (h.lt x hx) (fun i hi=>by rw[h.low x hx i hi];exact Int.dvd_zero p) (by rw[h.one x hx];exact qae hp)
theorem Rref.unique {p:Int} {w:Nat} {P Q:List (Nat×List Int)} (hp:2≤p) (h:Rref p w P) (k:Rref p w Q) (hs:∀ x∈P,Sp p w (Q.map Prod.snd) (fn x.2)) (ks:∀ x∈Q,Sp p w (P.map Prod.snd) (fn x.2)):P=Q:=by
  have key:∀ {P Q:List (Nat×List Int)},Rref p w P→Rref p w Q→(∀ x∈P,Sp p w (Q.map Prod.snd) (fn x.2))→(∀ x∈Q,Sp p w (P.map Prod.snd) (fn x.2))→∀ x,x∈P→x∈Q:=by
    intro P Q h k hs ks x hx
    obtain⟨y,hy,e⟩:=h.heads hp k hs hx
    have e2:x.2=y.2:=by
      refine qkg (h.ok x hx).1 (k.ok y hy).1 fun j hj=>qfq (Jb (h.ok x hx) j hj) (Jb (k.ok y hy) j hj) ?_
      have h1:=k.coord (hs x hx) j hj
      have h2:cs Q (fn x.2) j=fn y.2 j:=by
        obtain⟨A,B,e3,ha,hb⟩:=qgj k.inc hy
        have h3:∀ z,z∈Q→z.1≠y.1→fn x.2 z.1*fn z.2 j=0:=fun z hz hn=>by
          obtain⟨x',hx',e4⟩:=k.heads hp h ks hz
          rw[← e4,h.off x hx x' hx' (by rw[e4,← e];exact Ne.symm hn),Int.zero_mul]
        rw[cs]
        conv=>lhs;rw[e3]
        rw[qc2 _ y A B (fun z hz=>h3 z (by rw[e3];simp[hz]) (ha z hz)) (fun z hz=>h3 z (by rw[e3];simp[hz]) (hb z hz)),e,h.one x hx,Int.one_mul]
      rwa [h2]at h1
    have:x=y:=Prod.ext e.symm e2
    rwa [this]
  exact qgl (key:=Prod.fst) h.inc k.inc fun x=>⟨key h k hs ks x,key k h ks hs x⟩
theorem Ja :∀ {P Q:List (Nat×List Int)},P.Pairwise (fun x y=>x.1 < y.1)→Q.Pairwise (fun x y=>x.1 < y.1)→(∀ x∈P,∃ y∈Q,y.1=x.1)→P.length≤Q.length
  | [],_,_,_,_=>by simp
  | x :: P,Q,hp,hq,h=>by
    obtain⟨y,hy,e⟩:=h x (by simp)
    obtain⟨A,B,rfl⟩:=List.append_of_mem hy
    rw[List.pairwise_cons]at hp
    have hq':=hq
    rw[List.pairwise_append,List.pairwise_cons]at hq
    have hq2:(A++B).Pairwise fun x y=>x.1 < y.1:=by
      rw[List.pairwise_append]
      exact⟨hq.1,hq.2.1.2,fun a ha b hb=>hq.2.2 a ha b (by simp[hb])⟩
    have:=Ja hp.2 hq2 fun z hz=>by
      obtain⟨u,hu,e2⟩:=h z (by simp[hz])
      have hne:u.1≠y.1:=by have:=hp.1 z hz;omega
      refine⟨u,?_,e2⟩
      simp only[List.mem_append,List.mem_cons]at hu ⊢
      rcases hu with hu | rfl | hu
      · exact .inl hu
      · exact absurd rfl hne
      · exact .inr hu
    simp at this ⊢
    omega
theorem Rref.len_le {p:Int} {w:Nat} {P Q:List (Nat×List Int)} (hp:2≤p) (h:Rref p w P) (k:Rref p w Q) (hs:∀ x∈P,Sp p w (Q.map Prod.snd) (fn x.2)):P.length≤Q.length:=
  Ja h.inc k.inc fun _ hx=>h.heads hp k hs hx
end Go.Proofs.Ytmgbpmihbljngaa.PA
namespace Go.Proofs.Ytmgbpmihbljngaa.PA
open Go.RowKit Go.Proofs.YtmgbpmihbljngaaW.PrintWords Go.Proofs.YtmgbpmihbljngaaW.PrintLast Go.Proofs.YtmgbpmihbljngaaW.PrintMore
set_option linter.unusedVariables false
set_option linter.unusedSimpArgs false
theorem Z4 (p:Int):jd.f p=some (zk p):=by
  unfold jd.f zk
  repeat' split
  all_goals first | (subst_vars;rfl) | (congr 1;symm;rw[decide_eq_true_iff];omega) | (congr 1;symm;rw[decide_eq_false_iff_not];omega)
theorem Jv {p:Int} (h:zk p=true):p=7∨p=11∨p=13∨p=17∨p=19∨p=23∨p=29∨p=31:=of_decide_eq_true h
def Qr (p:Int) (l:List Int) (n:Nat):Bool:=zk p && decide (l.length=n) && l.all fun x=>decide (0≤x) && decide (x < p)
theorem qac (p:Int) (l:List Int) (n:Nat):ja.f p l (n:Int)=some (Qr p l n):=by
  unfold ja.f Qr
  congr 3
  rw[Bool.eq_iff_iff,decide_eq_true_iff,decide_eq_true_iff]
  omega
theorem je {p:Int} {l:List Int} {n:Nat} (h:Qr p l n=true):zk p=true∧l.length=n∧∀ x∈l,0≤x∧x < p:=by
  unfold Qr at h
  rw[Bool.and_eq_true,Bool.and_eq_true]at h
  refine⟨h.1.1,of_decide_eq_true h.1.2,fun x hx=>?_⟩
  have:=List.all_eq_true.1 h.2 x hx
  rw[Bool.and_eq_true]at this
  exact⟨of_decide_eq_true this.1,of_decide_eq_true this.2⟩
theorem qad {p:Int} {l:List Int} {n:Nat} (h1:zk p=true) (h2:l.length=n) (h3:∀ x∈l,0≤x∧x < p):Qr p l n=true:=by
  unfold Qr
  rw[h1,decide_eq_true h2,Bool.true_and,Bool.true_and,List.all_eq_true]
  intro x hx
  rw[decide_eq_true (h3 x hx).1,decide_eq_true (h3 x hx).2];rfl
theorem zn {p:Int} (h:zk p=true):7≤p∧p≤31:=by have:=Jv h;omega
theorem qft {p:Int} {l:List Int} {n:Nat} (h:Qr p l n=true) (i:Int) (h0:0≤i) (h1:i < n):0≤rd l i∧rd l i < p:=by
  obtain⟨_,hl,hr⟩:=je h
  obtain⟨j,rfl⟩:=Int.eq_ofNat_of_zero_le h0
  rw[Ji l j (by omega)]
  exact hr _ (List.getElem_mem _)
end Go.Proofs.Ytmgbpmihbljngaa.PA
namespace Go.Proofs.Ytmgbpmihbljngaa.PA
open Go.RowKit Go.Proofs.YtmgbpmihbljngaaW.PrintWords Go.Proofs.YtmgbpmihbljngaaW.PrintLast Go.Proofs.YtmgbpmihbljngaaW.PrintMore
set_option linter.unusedVariables false
set_option linter.unusedSimpArgs false
def invP (p x:Int):Int:=(zo.f 40 p x).getD 0
theorem qke :∀ p∈([7,11,13,17,19,23,29,31]:List Int),∀ x∈List.range 31,(x:Int) < p→zo.f 40 p (x:Int)=some (invP p (x:Int))∧0≤invP p (x:Int)∧invP p (x:Int) < p∧((x:Int)≠0→((x:Int)*invP p (x:Int)) % p=1)∧((x:Int)=0→invP p (x:Int)=0):=by decide+kernel
theorem Zr {p:Int} (hp:zk p=true) {x:Int} (h0:0≤x) (h1:x < p):zo.f 40 p x=some (invP p x)∧0≤invP p x∧invP p x < p∧(x≠0→(x*invP p x) % p=1)∧(x=0→invP p x=0):=by
  obtain⟨y,rfl⟩:=Int.eq_ofNat_of_zero_le h0
  have hb:=zn hp
  refine qke p ?_ y (List.mem_range.2 (by omega)) h1
  have:=Jv hp
  simpa using this
theorem ql8 {p:Int} (hp:zk p=true) {x:Int} (h0:0≤x) (h1:x < p):Ev (fun k=>zo.f k p x) (invP p x):=Ev.of (zo.mono p x) (Zr hp h0 h1).1
theorem qnj {p:Int} (hp:zk p=true):invP p 1=1:=by
  have hb:=zn hp
  obtain⟨_,h2,h3,h4,_⟩:=Zr hp (x:=1) (by omega) (by omega)
  have:=h4 (by omega)
  rw[Int.one_mul,Int.emod_eq_of_lt h2 h3]at this
  exact this
theorem qpl {p:Int} (hp:zk p=true) {x:Int} (h0:0≤x) (h1:x < p) (hx:x≠0):invP p x≠0:=by
  intro e
  have:=(Zr hp h0 h1).2.2.2.1 hx
  rw[e]at this
  simp at this
end Go.Proofs.Ytmgbpmihbljngaa.PA
namespace Go.Proofs.Ytmgbpmihbljngaa.PA
open Go.RowKit Go.Proofs.YtmgbpmihbljngaaW.PrintWords Go.Proofs.YtmgbpmihbljngaaW.PrintLast Go.Proofs.YtmgbpmihbljngaaW.PrintMore
set_option linter.unusedVariables false
set_option linter.unusedSimpArgs false
def j6 (p t:Int) (h r:List Int):List Int:=List.zipWith (fun x y=>(x - t*y) % p) r h
def Q8 (p b:Int) (r:List Int):List Int:=r.map fun x=>x*b % p
def redP (p:Int):Nat→Nat→List (List Int)→List (List Int)→List (List Int)
  | 0,_,_,O=>O
  | d+1,c,L,O=>
    match L.findIdx? (fun row=>rd row (c:Int) !=0) with
    | none=>redP p d (c+1) L O
    | some i=>redP p d (c+1) ((L.eraseIdx i).map fun r=>j6 p (rd r (c:Int)) (Q8 p (invP p (rd (L.getD i []) (c:Int))) (L.getD i [])) r) ((O.map fun r=>j6 p (rd r (c:Int)) (Q8 p (invP p (rd (L.getD i []) (c:Int))) (L.getD i [])) r)++[Q8 p (invP p (rd (L.getD i []) (c:Int))) (L.getD i [])])
def qaq (p:Int):Nat→Nat→List (List Int)→List Int→List Int
  | 0,_,_,H=>H
  | d+1,c,L,H=>
    match L.findIdx? (fun row=>rd row (c:Int) !=0) with
    | none=>qaq p d (c+1) L H
    | some i=>qaq p d (c+1) ((L.eraseIdx i).map fun r=>j6 p (rd r (c:Int)) (Q8 p (invP p (rd (L.getD i []) (c:Int))) (L.getD i [])) r) (H++[(c:Int)])
def okR (p:Int) (w:Nat) (L:List (List Int)):Prop:=∀ r∈L,r.length=w∧∀ x∈r,0≤x∧x < p
theorem Zn (p:Int) (w:Nat):okR p w []:=fun _ h=>absurd h (by simp)
theorem Jc {p:Int} {w:Nat} {r:List Int} {L:List (List Int)} (h1:r.length=w∧∀ x∈r,0≤x∧x < p) (h2:okR p w L):okR p w (r :: L):=fun x hx=>by
  rcases List.mem_cons.1 hx with rfl | hx
  · exact h1
  · exact h2 x hx
theorem qey {p:Int} {w:Nat} {L M:List (List Int)} (h1:okR p w L) (h2:okR p w M):okR p w (L++M):=fun x hx=>by
  rcases List.mem_append.1 hx with hx | hx
  · exact h1 x hx
  · exact h2 x hx
theorem qep {p t:Int} {w:Nat} {h r:List Int} (hp:0 < p) (hh:h.length=w) (hr:r.length=w):(j6 p t h r).length=w∧∀ x∈j6 p t h r,0≤x∧x < p:=by
  refine⟨by simp[j6,hh,hr],fun x hx=>?_⟩
  rw[j6,List.mem_iff_getElem]at hx
  obtain⟨i,hi,rfl⟩:=hx
  rw[List.getElem_zipWith]
  exact⟨Int.emod_nonneg _ (by omega),Int.emod_lt_of_pos _ hp⟩
theorem qb2 {p b:Int} {w:Nat} {r:List Int} (hp:0 < p) (hr:r.length=w):(Q8 p b r).length=w∧∀ x∈Q8 p b r,0≤x∧x < p:=by
  refine⟨by simp[Q8,hr],fun x hx=>?_⟩
  obtain⟨y,_,rfl⟩:=List.mem_map.1 hx
  exact⟨Int.emod_nonneg _ (by omega),Int.emod_lt_of_pos _ hp⟩
theorem Q6 {L:List (List Int)} {i:Nat} (h:i < L.length):L.getD i []∈L:=by
  rw[List.getD_eq_getElem?_getD,List.getElem?_eq_getElem h];exact List.getElem_mem h
theorem qap {p:Int} {w:Nat} {L:List (List Int)} {h:List Int} (t:List Int→Int) (hp:0 < p) (hh:h.length=w) (hL:okR p w L):okR p w (L.map fun r=>j6 p (t r) h r):=fun x hx=>by
  obtain⟨r,hr,rfl⟩:=List.mem_map.1 hx
  exact qep hp hh (hL r hr).1
theorem qbc {p:Int} {w:Nat} {L:List (List Int)} (i:Nat) (hL:okR p w L):okR p w (L.eraseIdx i):=fun r hr=>hL r (List.mem_of_mem_eraseIdx hr)
theorem qb8 {L:List (List Int)} {P:List Int→Bool} {i:Nat} (h:L.findIdx? P=some i):i < L.length∧P (L.getD i [])=true:=by
  rw[List.findIdx?_eq_some_iff_getElem]at h
  obtain⟨hi,hp,_⟩:=h
  exact⟨hi,by rw[List.getD_eq_getElem?_getD,List.getElem?_eq_getElem hi];exact hp⟩
theorem qef {p:Int} {w:Nat} {r:List Int} (h:r.length=w∧∀ x∈r,0≤x∧x < p) (j:Nat) (hj:j < w):0≤rd r (j:Int)∧rd r (j:Int) < p:=by
  rw[Ji r j (by omega)];exact h.2 _ (List.getElem_mem _)
theorem qh1 {p t:Int} {h r:List Int} (j:Nat) (h1:j < r.length) (h2:j < h.length):rd (j6 p t h r) (j:Int)=(rd r (j:Int) - t*rd h (j:Int)) % p:=by
  rw[Ji _ j (by simp[j6];omega),Ji _ j h1,Ji _ j h2];simp[j6]
theorem qis {p b:Int} {r:List Int} (j:Nat) (h1:j < r.length):rd (Q8 p b r) (j:Int)=rd r (j:Int)*b % p:=by
  rw[Ji _ j (by simp[Q8];omega),Ji _ j h1];simp[Q8]
def modW (p x:Int):Int:=Int.tmod (wrap64 (Int.tmod x p+p)) p
theorem qk5 {p:Int} (hp:0 < p) (x:Int):-p < Int.tmod x p∧Int.tmod x p < p:=by
  refine⟨?_,Int.tmod_lt_of_pos x hp⟩
  have h1:=Int.tmod_lt_of_pos (-x) hp
  rw[Int.neg_tmod]at h1
  omega
theorem qml {p:Int} (x:Int):(Int.tmod x p+p) % p=x % p:=by
  have h:=Int.mul_tdiv_add_tmod x p
  have e:x=Int.tmod x p+p*x.tdiv p:=by omega
  rw[Int.add_emod_right]
  conv=>rhs;rw[e,Int.add_mul_emod_self_left]
theorem Z9 {x p:Int} (hp:7≤p∧p≤31) (h0:-1000000000≤x) (h1:x≤1000000000):modW p (wrap64 x)=x % p:=by
  rw[wsm (by omega) (by omega),modW]
  have hb:=qk5 (p:=p) (by omega) x
  rw[wsm (by omega) (by omega),Int.tmod_eq_emod_of_nonneg (by omega),qml]
end Go.Proofs.Ytmgbpmihbljngaa.PA
namespace Go.Proofs.Ytmgbpmihbljngaa.PA
open Go.RowKit Go.Proofs.YtmgbpmihbljngaaW.PrintWords Go.Proofs.YtmgbpmihbljngaaW.PrintLast Go.Proofs.YtmgbpmihbljngaaW.PrintMore
set_option linter.unusedVariables false
set_option linter.unusedSimpArgs false
def qd0 (l:List Int):Int:=(l.find? (fun x=>x !=0)).getD 0
def rowP (p:Int) (l:List Int):List Int:=l.map fun x=>x*invP p (qd0 l) % p
theorem qcs (x:Int) (l:List Int):qd0 (x :: l)=if x=0 then qd0 l else x:=by
  unfold qd0
  by_cases h:x=0
  · simp[h]
  · simp[h]
theorem qgu {p x y:Int} (hp:p≤31) (h0:0≤x) (h1:x < p) (h2:0≤y) (h3:y < p):0≤x*y∧x*y≤900:=by
  have h:=Int.mul_le_mul (show x≤30 by omega) (show y≤30 by omega) h2 (by omega)
  exact⟨Int.mul_nonneg h0 h2,by omega⟩
theorem qhm {p:Int} (hp:zk p=true) (l:List Int) (hr:∀ x∈l,0≤x∧x < p) (hl:l.length≤1000):∀ (d i:Nat) (acc:List Int) (n:Int),i+d=l.length→acc.length=i→(n=0∨0≤n∧n < p)→
    Ev (fun k=>qu.l0 k p l acc n (i:Int)) (acc++(l.drop i).map fun x=>x*(if n=0 then invP p (qd0 (l.drop i)) else n) % p)
  | 0,i,acc,n,h,ha,hn=>by
    refine Ev.step (f:=fun _=>some acc) (fun k=>?_) ?_
    · rw[qu.l0,if_neg (by omega)]
    · rw[List.drop_eq_nil_of_le (by omega)];simpa using Ev.now acc
  | d + 1, i, acc, n, h, ha, hn => by
    have hb:=zn hp
    have hi:i < l.length:=by omega
    have hx:=hr _ (List.getElem_mem hi)
    rw[← Ji l i hi]at hx
    rw[qa1 l i hi]
    by_cases h0:n=0
    · have hv:=Zr hp hx.1 hx.2
      have hm:=qgu hb.2 hx.1 hx.2 hv.2.1 hv.2.2.1
      refine Ev.step (f:=fun k=>(zo.f k p (rd l (i:Int))).bind fun t=>qu.l0 k p l (acc++[Int.tmod (wrap64 ((rd l (i:Int))*t)) p]) t ((i+1:Nat):Int)) (fun k=>?_) (Ev.bind (ql8 hp hx.1 hx.2) ?_)
      · rw[qu.l0,if_pos (by omega),if_pos h0,if_pos (by omega)]
        congr 1
        funext t
        rw[if_neg (by omega),if_pos (by omega),wsm (i:=(i:Int)+1) (by omega) (by omega)]
        rfl
      · have ih:=qhm hp l hr hl d (i+1) (acc++[Int.tmod (wrap64 ((rd l (i:Int))*invP p (rd l (i:Int)))) p]) (invP p (rd l (i:Int))) (by omega) (by simp[ha]) (.inr ⟨hv.2.1,hv.2.2.1⟩)
        rw[wsm (by omega) (by omega),Int.tmod_eq_emod_of_nonneg hm.1]at ih ⊢
        rw[List.append_assoc]at ih
        rw[qcs,if_pos h0]
        by_cases hz:rd l (i:Int)=0
        · rw[if_pos hz]
          rw[if_pos (hv.2.2.2.2 hz)]at ih
          simp only[hz,Int.zero_mul,List.map_cons]at ih ⊢
          exact ih
        · rw[if_neg hz]
          rw[if_neg (qpl hp hx.1 hx.2 hz)]at ih
          simpa using ih
    · have hn':0≤n∧n < p:=by rcases hn with h | h;exact absurd h h0;exact h
      have hm:=qgu hb.2 hx.1 hx.2 hn'.1 hn'.2
      refine Ev.step (f:=fun k=>qu.l0 k p l (acc++[Int.tmod (wrap64 ((rd l (i:Int))*n)) p]) n ((i+1:Nat):Int)) (fun k=>?_) ?_
      · rw[qu.l0,if_pos (by omega),if_neg h0,if_pos (by omega),if_neg (by omega),if_pos (by omega),wsm (i:=(i:Int)+1) (by omega) (by omega)]
        rfl
      · have ih:=qhm hp l hr hl d (i+1) (acc++[Int.tmod (wrap64 ((rd l (i:Int))*n)) p]) n (by omega) (by simp[ha]) hn
        rw[wsm (by omega) (by omega),Int.tmod_eq_emod_of_nonneg hm.1]at ih ⊢
        rw[if_neg h0]at ih ⊢
        simpa using ih
theorem qdg {p:Int} (hp:zk p=true) (l:List Int) (hr:∀ x∈l,0≤x∧x < p) (hl:l.length≤1000):Ev (fun k=>qu.f k p l) (rowP p l):=by
  have:=qhm hp l hr hl l.length 0 [] 0 (by omega) rfl (.inl rfl)
  unfold qu.f
  simpa [rowP] using this
end Go.Proofs.Ytmgbpmihbljngaa.PA
namespace Go.Proofs.Ytmgbpmihbljngaa.PA
open Go.RowKit Go.Proofs.YtmgbpmihbljngaaW.PrintWords Go.Proofs.YtmgbpmihbljngaaW.PrintLast Go.Proofs.YtmgbpmihbljngaaW.PrintMore
set_option linter.unusedVariables false
set_option linter.unusedSimpArgs false
theorem qbe (p x:Int) (hp:p≠0):jy.f p x=some (modW p x):=by rw[jy.f,if_neg hp];rfl
theorem qh9 {p t:Int} {w:Nat} (hp:7≤p∧p≤31) (ht:0≤t∧t < p) {h r:List Int} (hh:h.length=w∧∀ x∈h,0≤x∧x < p) (hr:r.length=w∧∀ x∈r,0≤x∧x < p) (hw:w≤1000):∀ (d i:Nat),i+d=w→Ev (fun k=>zh.l0 k p r t h ((j6 p t h r).take i) (i:Int)) (j6 p t h r)
  | 0,i,he=>by
    have hl:=(qep (p:=p) (t:=t) (by omega) hh.1 hr.1).1
    refine Ev.step (f:=fun _=>some (j6 p t h r)) (fun k=>?_) (Ev.now _)
    rw[zh.l0,if_neg (by omega),List.take_of_length_le (by omega)]
  | d + 1, i, he => by
    have hl:=(qep (p:=p) (t:=t) (by omega) hh.1 hr.1).1
    have hx:=qef hr i (by omega)
    have hy:=qef hh i (by omega)
    have hm:=qgu hp.2 ht.1 ht.2 hy.1 hy.2
    refine Ev.step (f:=fun k=>zh.l0 k p r t h ((j6 p t h r).take (i+1)) ((i+1:Nat):Int)) (fun k=>?_) (qh9 hp ht hh hr hw d (i+1) (by omega))
    rw[zh.l0,if_pos (by omega),if_pos (by omega),if_pos (by omega),qbe _ _ (by omega),Option.bind_some,if_pos (by simp;omega),wsm (i:=(i:Int)+1) (by omega) (by omega),wsm (i:=t*rd h (i:Int)) (by omega) (by omega),Z9 hp (by omega) (by omega)]
    have e:(j6 p t h r).take (i+1)=(j6 p t h r).take i++[(rd r (i:Int) - t*rd h (i:Int)) % p]:=by
      rw[List.take_add_one,List.getElem?_eq_getElem (by omega),← Ji (j6 p t h r) i (by omega),qh1 i (by omega) (by omega)]
      rfl
    rw[e]
    rfl
theorem qgw {p t:Int} {w:Nat} (hp:7≤p∧p≤31) (ht:0≤t∧t < p) {h r:List Int} (hh:h.length=w∧∀ x∈h,0≤x∧x < p) (hr:r.length=w∧∀ x∈r,0≤x∧x < p) (hw:w≤1000):Ev (fun k=>zh.f k p r t h) (j6 p t h r):=by
  unfold zh.f
  simpa using qh9 hp ht hh hr hw w 0 (by omega)
theorem qa3 (L:List (List Int)) (i:Nat):jk L (i:Int)=L.getD i []:=by simp[jk]
theorem qix :∀ (l:List Int) (c:Nat),c < l.length→(∀ j:Nat,j < c→rd l (j:Int)=0)→rd l (c:Int)≠0→qd0 l=rd l (c:Int)
  | [],c,h,_,_=>absurd h (by simp)
  | x :: l,0,_,_,hn=>by
    have e:rd (x :: l) ((0:Nat):Int)=x:=by simp[rd]
    rw[e]at hn ⊢
    rw[qcs,if_neg hn]
  | x :: l,c+1,h,hz,hn=>by
    have e:∀ j:Nat,rd (x :: l) ((j+1:Nat):Int)=rd l (j:Int):=fun j=>by simp[rd]
    have h0:x=0:=by have:=hz 0 (by omega);simpa [rd] using this
    rw[qcs,if_pos h0,e]
    exact qix l c (by simpa using h) (fun j hj=>by rw[← e];exact hz (j+1) (by omega)) (by rw[← e];exact hn)
theorem qpa {p:Int} {l:List Int} {c:Nat} (hc:c < l.length) (hz:∀ j:Nat,j < c→rd l (j:Int)=0) (hn:rd l (c:Int)≠0):rowP p l=Q8 p (invP p (rd l (c:Int))) l:=by
  rw[rowP,qix l c hc hz hn,Q8]
def qdj (c:Nat) (L:List (List Int)):Prop:=∀ r∈L,∀ j:Nat,j < c→rd r (j:Int)=0
theorem qej {p:Int} (hp:zk p=true) {w c:Nat} (hc:c < w) {L:List (List Int)} (hL:okR p w L) (hz:qdj c L) {i:Nat} (hf:L.findIdx? (fun row=>rd row (c:Int) !=0)=some i):
    qdj (c+1) ((L.eraseIdx i).map fun r=>j6 p (rd r (c:Int)) (Q8 p (invP p (rd (L.getD i []) (c:Int))) (L.getD i [])) r):=by
  intro r hr j hj
  obtain⟨q,hq,rfl⟩:=List.mem_map.1 hr
  have hq':=List.mem_of_mem_eraseIdx hq
  obtain⟨hi,hne⟩:=qb8 hf
  have hx:=hL _ (Q6 hi)
  have hxr:=qef hx c hc
  have hne':rd (L.getD i []) (c:Int)≠0:=by simpa using hne
  have hql:=(hL q hq').1
  rw[qh1 j (by omega) (by rw[(qb2 (by have:=zn hp;omega) hx.1).1];omega),qis j (by omega)]
  by_cases e:j=c
  · subst e
    rw[(Zr hp hxr.1 hxr.2).2.2.2.1 hne',Int.mul_one,Int.sub_self,Int.zero_emod]
  · rw[hz q hq' j (by omega),hz _ (Q6 hi) j (by omega)]
    simp
theorem qei {c:Nat} {L:List (List Int)} (hz:qdj c L) (hf:L.findIdx? (fun row=>rd row (c:Int) !=0)=none):qdj (c+1) L:=by
  intro r hr j hj
  by_cases e:j=c
  · subst e
    have:=List.findIdx?_eq_none_iff.1 hf r hr
    simpa using this
  · exact hz r hr j (by omega)
theorem qgi {p:Int} {w:Nat} {rows out:List (List Int)} {heads:List Int} {c:Nat} {R:List (List Int)×List Int} (hc:c < w) (hw:w≤1000) (hlen:rows.length < 1000000) (hr:∀ r∈rows,r.length=w)
    (hnone:rows.findIdx? (fun row=>rd row (c:Int) !=0)=none→Ev (fun k=>qd.l0 k p rows (w:Int) out heads ((c+1:Nat):Int)) R)
    (hsome:∀ i,rows.findIdx? (fun row=>rd row (c:Int) !=0)=some i→Ev (fun k=>(qu.f k p (rows.getD i [])).bind fun t=>qd.l2 k p rows (w:Int) out heads (c:Int) (i:Int) t [] 0) R):
    ∀ (d i:Nat),i+d=rows.length→(rows.take i).findIdx? (fun row=>rd row (c:Int) !=0)=none→Ev (fun k=>qd.l1 k p rows (w:Int) out heads (c:Int) (-1) (i:Int)) R
  | 0,i,he,hf=>by
    have hf':rows.findIdx? (fun row=>rd row (c:Int) !=0)=none:=by rwa [List.take_of_length_le (by omega)]at hf
    refine Ev.step (f:=fun k=>qd.j2 k p rows (w:Int) out heads (c:Int) (-1) (i:Int) false) (fun k=>?_) ?_
    · rw[qd.l1,if_neg (by omega)]
    · refine Ev.step (f:=fun k=>qd.l0 k p rows (w:Int) out heads ((c+1:Nat):Int)) (fun k=>?_) (hnone hf')
      rw[qd.j2,if_neg (by simp),if_pos (by omega),wsm (by omega) (by omega)]
      rfl
  | d + 1, i, he, hf => by
    have hi:i < rows.length:=by omega
    have hrl:(rows.getD i []).length=w:=hr _ (Q6 hi)
    refine Ev.step (f:=fun k=>qd.j2 k p rows (w:Int) out heads (c:Int) (-1) (i:Int) true) (fun k=>?_) ?_
    · rw[qd.l1,if_pos (by omega)];rfl
    · by_cases hz:rd (rows.getD i []) (c:Int)=0
      · refine Ev.step (f:=fun k=>qd.l1 k p rows (w:Int) out heads (c:Int) (-1) ((i+1:Nat):Int)) (fun k=>?_) (qgi hc hw hlen hr hnone hsome d (i+1) (by omega) ?_)
        · rw[qd.j2,if_pos rfl,if_pos (by omega),if_pos (by omega),if_pos (by omega),qa3,if_pos (by omega),if_pos hz,wsm (by omega) (by omega)]
          rfl
        · rw[List.take_add_one,List.findIdx?_append,hf,List.getElem?_eq_getElem hi]
          rw[List.getD_eq_getElem?_getD,List.getElem?_eq_getElem hi]at hz
          simp only[Option.getD_some]at hz
          simp[List.findIdx?_cons,hz]
      · have hfi:rows.findIdx? (fun row=>rd row (c:Int) !=0)=some i:=by
          rw[List.getD_eq_getElem?_getD,List.getElem?_eq_getElem hi]at hz
          simp only[Option.getD_some]at hz
          have hsplit:rows=rows.take i++rows[i] :: rows.drop (i+1):=by rw[List.getElem_cons_drop,List.take_append_drop]
          rw[hsplit,List.findIdx?_append,hf]
          have hz':(rd rows[i] (c:Int) !=0)=true:=bne_iff_ne.mpr hz
          rw[List.findIdx?_cons,hz']
          simp only[if_true,Option.map_some,Option.none_or,List.length_take,Nat.zero_add]
          rw[Nat.min_eq_left (by omega)]
        have hs:=hsome i hfi
        have hfin:∀ q:Nat,Ev (fun k=>qd.j2 k p rows (w:Int) out heads (c:Int) (i:Int) (q:Int) false) R:=fun q=>by
          refine Ev.step (f:=fun k=>(qu.f k p (rows.getD i [])).bind fun t=>qd.l2 k p rows (w:Int) out heads (c:Int) (i:Int) t [] 0) (fun k=>?_) hs
          rw[qd.j2,if_neg (by simp),if_neg (by omega),if_pos (by omega),if_pos (by omega),qa3]
        refine Ev.step (f:=fun k=>qd.l1 k p rows (w:Int) out heads (c:Int) (i:Int) ((i+1:Nat):Int)) (fun k=>?_) ?_
        · rw[qd.j2,if_pos rfl,if_pos (by omega),if_pos (by omega),if_pos (by omega),qa3,if_pos (by omega),if_neg hz,wsm (by omega) (by omega)]
          rfl
        · refine Ev.step (f:=fun k=>qd.j2 k p rows (w:Int) out heads (c:Int) (i:Int) ((i+1:Nat):Int) false) (fun k=>?_) (hfin (i+1))
          rw[qd.l1]
          split
          · rw[decide_eq_false (by omega)]
          · rfl
theorem qk1 {p:Int} {w:Nat} (hp:7≤p∧p≤31) {rows out:List (List Int)} {heads:List Int} {c at_:Nat} {row:List Int} {R:List (List Int)×List Int} (hc:c < w) (hw:w≤1000) (hlen:rows.length < 1000000) (hr:okR p w rows) (hrow:row.length=w∧∀ x∈row,0≤x∧x < p) (hat:at_ < rows.length)
    (hend:Ev (fun k=>qd.l3 k p ((rows.eraseIdx at_).map fun r=>j6 p (rd r (c:Int)) row r) (w:Int) out heads (c:Int) row 0) R):
    ∀ (d i:Nat),i+d=rows.length→Ev (fun k=>qd.l2 k p rows (w:Int) out heads (c:Int) (at_:Int) row (((rows.take i).eraseIdx at_).map fun r=>j6 p (rd r (c:Int)) row r) (i:Int)) R
  | 0,i,he=>by
    refine Ev.step (f:=fun k=>qd.l3 k p ((rows.eraseIdx at_).map fun r=>j6 p (rd r (c:Int)) row r) (w:Int) out heads (c:Int) row 0) (fun k=>?_) hend
    rw[qd.l2,if_neg (by omega),List.take_of_length_le (by omega)]
  | d + 1, i, he => by
    have hi:i < rows.length:=by omega
    have ih:=qk1 hp hc hw hlen hr hrow hat hend d (i+1) (by omega)
    by_cases e:i=at_
    · subst e
      refine Ev.step (f:=fun k=>qd.l2 k p rows (w:Int) out heads (c:Int) (i:Int) row (((rows.take (i+1)).eraseIdx i).map fun r=>j6 p (rd r (c:Int)) row r) ((i+1:Nat):Int)) (fun k=>?_) ih
      rw[qd.l2,if_pos (by omega),if_pos rfl,wsm (by omega) (by omega)]
      have e1:(rows.take i).eraseIdx i=rows.take i:=List.eraseIdx_of_length_le (by rw[List.length_take];omega)
      have e2:(rows.take (i+1)).eraseIdx i=rows.take i:=by
        rw[List.take_add_one,List.eraseIdx_append_of_length_le (by rw[List.length_take];omega)]
        simp[Nat.min_eq_left (Nat.le_of_lt hi),List.getElem?_eq_getElem hi]
      rw[e1,e2]
      rfl
    · have hrow_i:=hr _ (Q6 hi)
      have ht:=qef hrow_i c hc
      refine Ev.step (f:=fun k=>(zh.f k p (rows.getD i []) (rd (rows.getD i []) (c:Int)) row).bind fun t=>if (((rows.take i).eraseIdx at_).map fun r=>j6 p (rd r (c:Int)) row r).length < 5864062014805 then qd.l2 k p rows (w:Int) out heads (c:Int) (at_:Int) row ((((rows.take i).eraseIdx at_).map fun r=>j6 p (rd r (c:Int)) row r)++[t]) ((i+1:Nat):Int) else none) (fun k=>?_) ?_
      · rw[qd.l2,if_pos (by omega),if_neg (by omega),if_pos (by omega),if_pos (by omega),qa3,if_pos (by omega),wsm (by omega) (by omega)]
        rfl
      · refine Ev.bind (qgw hp ht hrow hrow_i hw) (Ev.yes ?_ ?_)
        · rw[List.length_map]
          have h1:=List.length_eraseIdx_le (rows.take i) at_
          have h2:(rows.take i).length≤rows.length:=by rw[List.length_take];omega
          omega
        · have e2:((rows.take (i+1)).eraseIdx at_).map (fun r=>j6 p (rd r (c:Int)) row r)=((rows.take i).eraseIdx at_).map (fun r=>j6 p (rd r (c:Int)) row r)++[j6 p (rd (rows.getD i []) (c:Int)) row (rows.getD i [])]:=by
            have e3:rows.take (i+1)=rows.take i++[rows.getD i []]:=by
              rw[List.take_add_one,List.getElem?_eq_getElem hi,List.getD_eq_getElem?_getD,List.getElem?_eq_getElem hi];rfl
            by_cases hlt:at_ < i
            · rw[e3,List.eraseIdx_append_of_lt_length (by simp;omega),List.map_append];rfl
            · rw[List.eraseIdx_of_length_le (by simp;omega),List.eraseIdx_of_length_le (by simp;omega),e3,List.map_append];rfl
          rw[e2]at ih
          exact ih
theorem qm1 {α:Type} (N R:List α) (j:Nat) (v:α) (hl:N.length=R.length) (hj:j < R.length) (hv:N[j]? =some v):(N.take j++R.drop j).set j v=N.take (j+1)++R.drop (j+1):=by
  rw[List.set_append_right _ _ (by simp;omega),List.length_take,Nat.min_eq_left (by omega),Nat.sub_self,List.drop_eq_getElem_cons hj,List.set_cons_zero,List.take_add_one,hv]
  simp
theorem ql0 {p:Int} {w:Nat} (hp:7≤p∧p≤31) {rest out:List (List Int)} {heads:List Int} {c:Nat} {row:List Int} {R:List (List Int)×List Int} (hc:c < w) (hw:w≤1000) (hlen:out.length < 1000000) (hh:heads.length < 1000000) (hr:okR p w out) (hrow:row.length=w∧∀ x∈row,0≤x∧x < p)
    (hend:Ev (fun k=>qd.l0 k p rest (w:Int) ((out.map fun r=>j6 p (rd r (c:Int)) row r)++[row]) (heads++[(c:Int)]) ((c+1:Nat):Int)) R):
    ∀ (d i:Nat),i+d=out.length→Ev (fun k=>qd.l3 k p rest (w:Int) ((out.map fun r=>j6 p (rd r (c:Int)) row r).take i++out.drop i) heads (c:Int) row (i:Int)) R
  | 0,i,he=>by
    refine Ev.step (f:=fun k=>qd.l0 k p rest (w:Int) ((out.map fun r=>j6 p (rd r (c:Int)) row r)++[row]) (heads++[(c:Int)]) ((c+1:Nat):Int)) (fun k=>?_) hend
    rw[List.drop_eq_nil_of_le (by omega),List.append_nil,List.take_of_length_le (by simp;omega),qd.l3,if_neg (by simp;omega),if_pos (by simp;omega),if_pos (by omega),wsm (by omega) (by omega)]
    rfl
  | d + 1, i, he => by
    have hi:i < out.length:=by omega
    have ih:=ql0 hp hc hw hlen hh hr hrow hend d (i+1) (by omega)
    have hrow_i:=hr _ (Q6 hi)
    have ht:=qef hrow_i c hc
    have hcur:((out.map fun r=>j6 p (rd r (c:Int)) row r).take i++out.drop i).getD i []=out.getD i []:=by
      simp[List.getD_eq_getElem?_getD,List.getElem?_append_right,Nat.min_eq_left (Nat.le_of_lt hi),hi]
    have hcl:((out.map fun r=>j6 p (rd r (c:Int)) row r).take i++out.drop i).length=out.length:=by simp;omega
    have hset:((out.map fun r=>j6 p (rd r (c:Int)) row r).take i++out.drop i).set i (j6 p (rd (out.getD i []) (c:Int)) row (out.getD i []))=(out.map fun r=>j6 p (rd r (c:Int)) row r).take (i+1)++out.drop (i+1):=
      qm1 _ _ _ _ (by simp) hi (by simp[List.getD_eq_getElem?_getD,List.getElem?_eq_getElem hi])
    refine Ev.step (f:=fun k=>(zh.f k p (out.getD i []) (rd (out.getD i []) (c:Int)) row).bind fun t=>qd.l3 k p rest (w:Int) (((out.map fun r=>j6 p (rd r (c:Int)) row r).take i++out.drop i).set i t) heads (c:Int) row ((i+1:Nat):Int)) (fun k=>?_) ?_
    · rw[qd.l3,if_pos (by omega),if_pos (by omega),if_pos (by omega),qa3,hcur,if_pos (by omega),wsm (by omega) (by omega),Int.toNat_natCast]
      rfl
    · refine Ev.bind (qgw hp ht hrow hrow_i hw) ?_
      rw[hset]
      exact ih
theorem qcv {p:Int} (hp:zk p=true) {w:Nat} (hw:w≤1000):∀ (d c:Nat) (L O:List (List Int)) (H:List Int),c+d=w→okR p w L→okR p w O→qdj c L→L.length+O.length < 1000000→H.length=O.length→
    Ev (fun k=>qd.l0 k p L (w:Int) O H (c:Int)) (redP p d c L O,qaq p d c L H)
  | 0,c,L,O,H,hc,_,_,_,_,_=>by
    refine Ev.step (f:=fun _=>some (O,H)) (fun k=>?_) (Ev.now _)
    rw[qd.l0,if_neg (by omega)]
  | d + 1, c, L, O, H, hc, hL, hO, hz, hl, hH => by
    have hb:=zn hp
    refine Ev.step (f:=fun k=>qd.l1 k p L (w:Int) O H (c:Int) (-1) ((0:Nat):Int)) (fun k=>?_) ?_
    · rw[qd.l0,if_pos (by omega)];rfl
    · refine qgi (by omega) hw (by omega) (fun r hr=>(hL r hr).1) (fun hf=>?_) (fun i hf=>?_) L.length 0 (by omega) rfl
      · have ih:=qcv hp hw d (c+1) L O H (by omega) hL hO (qei hz hf) hl hH
        rw[redP,qaq,hf]
        exact ih
      · obtain⟨hi,hne⟩:=qb8 hf
        have hx:=hL _ (Q6 hi)
        have hne':rd (L.getD i []) (c:Int)≠0:=by simpa using hne
        have hs:=qb2 (p:=p) (b:=invP p (rd (L.getD i []) (c:Int))) (by omega) hx.1
        have hzn:=qej hp (by omega) hL hz hf
        have ih:=qcv hp hw d (c+1) ((L.eraseIdx i).map fun r=>j6 p (rd r (c:Int)) (Q8 p (invP p (rd (L.getD i []) (c:Int))) (L.getD i [])) r) ((O.map fun r=>j6 p (rd r (c:Int)) (Q8 p (invP p (rd (L.getD i []) (c:Int))) (L.getD i [])) r)++[Q8 p (invP p (rd (L.getD i []) (c:Int))) (L.getD i [])]) (H++[(c:Int)]) (by omega)
          (qap _ (by omega) hs.1 (qbc i hL)) (qey (qap _ (by omega) hs.1 hO) (Jc hs (Zn p w))) hzn (by simp[List.length_eraseIdx,hi];omega) (by simp[hH])
        rw[redP,qaq,hf]
        simp only
        refine Ev.bind (a:=Q8 p (invP p (rd (L.getD i []) (c:Int))) (L.getD i [])) ?_ ?_
        · have h1:=qdg hp (L.getD i []) hx.2 (by omega)
          rwa [qpa (by omega) (hz _ (Q6 hi)) hne']at h1
        · have h2:=ql0 hb (c:=c) (heads:=H) (out:=O) (rest:=(L.eraseIdx i).map fun r=>j6 p (rd r (c:Int)) (Q8 p (invP p (rd (L.getD i []) (c:Int))) (L.getD i [])) r) (by omega) hw (by omega) (by omega) hO hs ih O.length 0 (by omega)
          have h3:=qk1 hb (c:=c) (by omega) hw (by omega) hL hs hi (by simpa using h2) L.length 0 (by omega)
          simpa using h3
theorem qaz {p:Int} (hp:zk p=true) {w:Nat} (hw:w≤1000) (L:List (List Int)) (hL:okR p w L) (hl:L.length < 1000000):Ev (fun k=>qd.f k p L (w:Int)) (redP p w 0 L [],qaq p w 0 L []):=by
  unfold qd.f
  exact qcv hp hw w 0 L [] [] (by omega) hL (Zn p w) (fun _ _ j hj=>absurd hj (by omega)) (by simpa using hl) rfl
end Go.Proofs.Ytmgbpmihbljngaa.PA
namespace Go.Proofs.Ytmgbpmihbljngaa.PA
open Go.RowKit Go.Proofs.YtmgbpmihbljngaaW.PrintWords Go.Proofs.YtmgbpmihbljngaaW.PrintLast Go.Proofs.YtmgbpmihbljngaaW.PrintMore
set_option linter.unusedVariables false
set_option linter.unusedSimpArgs false
theorem qau (a p:Int):p ∣ a - a % p:=⟨a / p,by have:=Int.mul_ediv_add_emod a p;omega⟩
theorem qpw {p t:Int} {h r:List Int} {w:Nat} (hh:h.length=w) (hr:r.length=w) {j:Nat} (hj:j < w):fn (j6 p t h r) j=(fn r j - t*fn h j) % p:=qh1 j (by omega) (by omega)
theorem qnq {p b:Int} {r:List Int} {w:Nat} (hr:r.length=w) {j:Nat} (hj:j < w):fn (Q8 p b r) j=fn r j*b % p:=qis j (by omega)
theorem qnt {α:Type} [Inhabited α] (L:List α) (i:Nat) (d:α) (hi:i < L.length):L=L.take i++L.getD i d :: L.drop (i+1)∧L.eraseIdx i=L.take i++L.drop (i+1):=by
  refine⟨?_,List.eraseIdx_eq_take_drop_succ L i⟩
  rw[List.getD_eq_getElem?_getD,List.getElem?_eq_getElem hi,Option.getD_some,List.getElem_cons_drop,List.take_append_drop]
theorem qmk {L:List (List Int)} {i:Nat} (hi:i < L.length) {r:List Int}:r∈L↔r=L.getD i []∨r∈L.eraseIdx i:=by
  obtain⟨h1,h2⟩:=qnt L i [] hi
  rw[h2]
  conv=>lhs;rw[h1]
  simp only[List.mem_append,List.mem_cons]
  constructor
  · rintro (h | h | h)
    · exact .inr (.inl h)
    · exact .inl h
    · exact .inr (.inr h)
  · rintro (h | h | h)
    · exact .inr (.inl h)
    · exact .inl h
    · exact .inr (.inr h)
theorem qe0 {p:Int} (hp:zk p=true) {w:Nat}:∀ (d c:Nat) (L:List (List Int)) (P:List (Nat×List Int)),c+d=w→okR p w L→Rref p w P→(∀ x∈P,x.1 < c)→qdj c L→
    ∃ Q:List (Nat×List Int),redP p d c L (P.map Prod.snd)=Q.map Prod.snd∧qaq p d c L (P.map fun x=>(x.1:Int))=Q.map (fun x=>(x.1:Int))∧Rref p w Q∧(∀ r∈L++P.map Prod.snd,Sp p w (Q.map Prod.snd) (fn r))∧∀ x∈Q,Sp p w (L++P.map Prod.snd) (fn x.2)
  | 0,c,L,P,hw,hL,hP,hlt,hz=>by
    refine⟨P,rfl,rfl,hP,fun r hr=>?_,fun x hx=>Sp.mem (by simp;exact .inr ⟨_,hx⟩)⟩
    rcases List.mem_append.1 hr with hr | hr
    · exact .zero _ fun j hj=>by rw[fn,hz r hr j (by omega)];exact Int.dvd_zero p
    · exact Sp.mem hr
  | d + 1, c, L, P, hw, hL, hP, hlt, hz => by
    have hb:=zn hp
    rw[redP,qaq]
    cases hf:L.findIdx? (fun row=>rd row (c:Int) !=0) with
    | none=>exact qe0 hp d (c+1) L P (by omega) hL hP (fun x hx=>by have:=hlt x hx;omega) (qei hz hf)
    | some i=>
      simp only
      obtain⟨hi,hne⟩:=qb8 hf
      have hx:=hL _ (Q6 hi)
      have hxr:=qef hx c (by omega)
      have hne':rd (L.getD i []) (c:Int)≠0:=by simpa using hne
      have hinv:=(Zr hp hxr.1 hxr.2).2.2.2.1 hne'
      have hs:=qb2 (p:=p) (b:=invP p (rd (L.getD i []) (c:Int))) (by omega) hx.1
      have hzn:=qej hp (by omega) hL hz hf
      obtain⟨x,hxe⟩:∃ x,L.getD i []=x:=⟨_,rfl⟩
      rw[hxe]at hx hxr hne' hinv hs hzn ⊢
      have hxm:x∈L:=hxe ▸ Q6 hi
      obtain⟨b,hbe⟩:∃ b,invP p (rd x (c:Int))=b:=⟨_,rfl⟩
      rw[hbe]at hinv hs hzn ⊢
      obtain⟨h,hhe⟩:∃ h,Q8 p b x=h:=⟨_,rfl⟩
      have hfh:∀ j,j < w→fn h j=fn x j*b % p:=fun j hj=>by rw[← hhe];exact qnq hx.1 hj
      rw[hhe]at hs hzn ⊢
      have hhc:fn h c=1:=by rw[hfh c (by omega)];exact hinv
      have hhl:∀ j,j < c→fn h j=0:=fun j hj=>by rw[hfh j (by omega),fn,hz x hxm j hj];simp
      have hfl:∀ r:List Int,r.length=w→∀ j,j < w→fn (j6 p (rd r (c:Int)) h r) j=(fn r j - fn r c*fn h j) % p:=fun r hr j hj=>qpw hs.1 hr hj
      have hP':Rref p w (P.map (fun y=>(y.1,j6 p (rd y.2 (c:Int)) h y.2))++[(c,h)]):=by
        have hm:∀ z,z∈P.map (fun y=>(y.1,j6 p (rd y.2 (c:Int)) h y.2))++[(c,h)]→(∃ y∈P,z=(y.1,j6 p (rd y.2 (c:Int)) h y.2))∨z=(c,h):=by
          intro z hz
          rcases List.mem_append.1 hz with hz | hz
          · obtain⟨y,hy,rfl⟩:=List.mem_map.1 hz;exact .inl ⟨y,hy,rfl⟩
          · exact .inr (by simpa using hz)
        refine⟨fun z hz=>?_,fun z hz=>?_,fun z hz=>?_,fun z hz j hj=>?_,fun z hz z' hz' hnn=>?_,?_⟩
        · rcases hm z hz with ⟨y,hy,rfl⟩ | rfl
          · exact hP.lt y hy
          · show c < w;omega
        · rcases hm z hz with ⟨y,hy,rfl⟩ | rfl
          · exact qep (by omega) hs.1 (hP.ok y hy).1
          · exact hs
        · rcases hm z hz with ⟨y,hy,rfl⟩ | rfl
          · have h1:=hlt y hy
            show fn (j6 p (rd y.2 (c:Int)) h y.2) y.1=1
            rw[hfl _ (hP.ok y hy).1 y.1 (by omega),hP.one y hy,hhl y.1 h1,Int.mul_zero,Int.sub_zero,Int.emod_eq_of_lt (by omega) (by omega)]
          · exact hhc
        · rcases hm z hz with ⟨y,hy,rfl⟩ | rfl
          · have h1:=hlt y hy
            have hj':j < y.1:=hj
            show fn (j6 p (rd y.2 (c:Int)) h y.2) j=0
            rw[hfl _ (hP.ok y hy).1 j (by omega),hP.low y hy j hj',hhl j (by omega)];simp
          · exact hhl j hj
        · rcases hm z hz with ⟨y,hy,rfl⟩ | rfl
          · rcases hm z' hz' with ⟨y',hy',rfl⟩ | rfl
            · have h1:=hlt y' hy'
              show fn (j6 p (rd y.2 (c:Int)) h y.2) y'.1=0
              rw[hfl _ (hP.ok y hy).1 y'.1 (by omega),hP.off y hy y' hy' hnn,hhl y'.1 h1];simp
            · show fn (j6 p (rd y.2 (c:Int)) h y.2) c=0
              rw[hfl _ (hP.ok y hy).1 c (by omega),hhc];simp
          · rcases hm z' hz' with ⟨y',hy',rfl⟩ | rfl
            · exact hhl y'.1 (hlt y' hy')
            · exact absurd rfl hnn
        · rw[List.pairwise_append]
          refine⟨?_,by simp,fun a ha b hb=>?_⟩
          · rw[List.pairwise_map];exact hP.inc
          · obtain⟨y,hy,rfl⟩:=List.mem_map.1 ha
            have hbe:b=(c,h):=by simpa using hb
            subst hbe
            exact hlt y hy
      have e1:(P.map Prod.snd).map (fun r=>j6 p (rd r (c:Int)) h r)++[h]=(P.map (fun y=>(y.1,j6 p (rd y.2 (c:Int)) h y.2))++[(c,h)]).map Prod.snd:=by
        simp[List.map_map,Function.comp_def]
      have e2:(P.map fun x=>(x.1:Int))++[(c:Int)]=(P.map (fun y=>(y.1,j6 p (rd y.2 (c:Int)) h y.2))++[(c,h)]).map fun x=>(x.1:Int):=by
        simp[List.map_map,Function.comp_def]
      have ih:=qe0 hp d (c+1) ((L.eraseIdx i).map fun r=>j6 p (rd r (c:Int)) h r) (P.map (fun y=>(y.1,j6 p (rd y.2 (c:Int)) h y.2))++[(c,h)]) (by omega) (qap _ (by omega) hs.1 (qbc i hL)) hP' (fun z hz=>by
          rcases List.mem_append.1 hz with hz | hz
          · obtain⟨y,hy,rfl⟩:=List.mem_map.1 hz;have:=hlt y hy;show y.1 < c+1;omega
          · have:z=(c,h):=by simpa using hz
            subst this;show c < c+1;omega) hzn
      rw[e1,e2]
      obtain⟨Q,hq1,hq2,hQ,hq3,hq4⟩:=ih
      have hold:∀ r,r∈L++P.map Prod.snd→r.length=w:=fun r hr=>by
        rcases List.mem_append.1 hr with hr | hr
        · exact(hL r hr).1
        · obtain⟨y,hy,rfl⟩:=List.mem_map.1 hr;exact(hP.ok y hy).1
      have hxs:∀ j,j < w→p ∣ fn x j - fn x c*fn h j:=fun j hj=>by
        have h1:=qau (fn x j*b) p
        rw[← hfh j hj]at h1
        have h2:p ∣ fn x c*b - 1:=by
          have:=qau (fn x c*b) p
          rw[show fn x c*b % p=1 from hinv]at this;exact this
        exact Je (fn x c) (-(fn x j)) h1 h2 (by grind)
      have hnewm:∀ r,r∈L.eraseIdx i++P.map Prod.snd→j6 p (rd r (c:Int)) h r∈((L.eraseIdx i).map fun r=>j6 p (rd r (c:Int)) h r)++(P.map (fun y=>(y.1,j6 p (rd y.2 (c:Int)) h y.2))++[(c,h)]).map Prod.snd:=fun r hr=>by
        rcases List.mem_append.1 hr with hr | hr
        · exact List.mem_append_left _ (List.mem_map_of_mem hr)
        · obtain⟨y,hy,rfl⟩:=List.mem_map.1 hr
          refine List.mem_append_right _ (List.mem_map.2 ⟨(y.1,j6 p (rd y.2 (c:Int)) h y.2),List.mem_append_left _ (List.mem_map.2 ⟨y,hy,rfl⟩),rfl⟩)
      have hhm:h∈((L.eraseIdx i).map fun r=>j6 p (rd r (c:Int)) h r)++(P.map (fun y=>(y.1,j6 p (rd y.2 (c:Int)) h y.2))++[(c,h)]).map Prod.snd:=
        List.mem_append_right _ (List.mem_map.2 ⟨(c,h),by simp,rfl⟩)
      have hto:∀ r,r∈L++P.map Prod.snd→Sp p w (((L.eraseIdx i).map fun r=>j6 p (rd r (c:Int)) h r)++(P.map (fun y=>(y.1,j6 p (rd y.2 (c:Int)) h y.2))++[(c,h)]).map Prod.snd) (fn r):=fun r hr=>by
        have hcase:r=x∨r∈L.eraseIdx i++P.map Prod.snd:=by
          rcases List.mem_append.1 hr with hr | hr
          · rcases (qmk hi).1 hr with h1 | h1
            · exact .inl (h1.trans hxe)
            · exact .inr (List.mem_append_left _ h1)
          · exact .inr (List.mem_append_right _ hr)
        rcases hcase with rfl | hr2
        · exact((Sp.mem hhm).scale (fn r c)).congr hxs
        · refine((Sp.mem (hnewm r hr2)).sum ((Sp.mem hhm).scale (fn r c))).congr fun j hj=>?_
          rw[hfl r (hold r hr) j hj]
          exact Jh 1 (qau (fn r j - fn r c*fn h j) p) (by omega)
      have hfrom_h:Sp p w (L++P.map Prod.snd) (fn h):=((Sp.mem (List.mem_append_left _ hxm)).scale b).congr fun j hj=>by
        rw[hfh j hj]
        exact Jh (-1) (qau (fn x j*b) p) (by rw[Int.mul_comm b];omega)
      have hfrom:∀ r,r∈((L.eraseIdx i).map fun r=>j6 p (rd r (c:Int)) h r)++(P.map (fun y=>(y.1,j6 p (rd y.2 (c:Int)) h y.2))++[(c,h)]).map Prod.snd→Sp p w (L++P.map Prod.snd) (fn r):=fun r hr=>by
        have hcase:r=h∨∃ q,q∈L++P.map Prod.snd∧r=j6 p (rd q (c:Int)) h q:=by
          rcases List.mem_append.1 hr with hr | hr
          · obtain⟨q,hq,rfl⟩:=List.mem_map.1 hr
            exact .inr ⟨q,List.mem_append_left _ (List.mem_of_mem_eraseIdx hq),rfl⟩
          · obtain⟨z,hz,rfl⟩:=List.mem_map.1 hr
            rcases List.mem_append.1 hz with hz | hz
            · obtain⟨y,hy,rfl⟩:=List.mem_map.1 hz
              exact .inr ⟨y.2,List.mem_append_right _ (List.mem_map_of_mem hy),rfl⟩
            · have:z=(c,h):=by simpa using hz
              subst this;exact .inl rfl
        rcases hcase with rfl | ⟨q,hq,rfl⟩
        · exact hfrom_h
        · refine((Sp.mem hq).sum (hfrom_h.scale (-(fn q c)))).congr fun j hj=>?_
          rw[hfl q (hold q hq) j hj]
          exact Jh (-1) (qau (fn q j - fn q c*fn h j) p) (by grind)
      exact⟨Q,hq1,hq2,hQ,fun r hr=>Sp.sub hq3 (hto r hr),fun z hz=>Sp.sub hfrom (hq4 z hz)⟩
theorem Zs {p:Int} (hp:zk p=true) {w:Nat} {L:List (List Int)} (hL:okR p w L):
    ∃ Q:List (Nat×List Int),redP p w 0 L []=Q.map Prod.snd∧qaq p w 0 L []=Q.map (fun x=>(x.1:Int))∧Rref p w Q∧(∀ r∈L,Sp p w (Q.map Prod.snd) (fn r))∧∀ x∈Q,Sp p w L (fn x.2):=by
  have h:=qe0 hp w 0 L [] (by omega) hL ⟨by simp,by simp,by simp,by simp,by simp,by simp⟩ (by simp) (fun r _ j hj=>absurd hj (by omega))
  simpa using h
end Go.Proofs.Ytmgbpmihbljngaa.PA
namespace Go.Proofs.Ytmgbpmihbljngaa.PA
open Go.RowKit Go.Proofs.YtmgbpmihbljngaaW.PrintWords Go.Proofs.YtmgbpmihbljngaaW.PrintLast Go.Proofs.YtmgbpmihbljngaaW.PrintMore
set_option linter.unusedVariables false
set_option linter.unusedSimpArgs false
theorem qbv (p:Int):∀ (d c:Nat) (L O:List (List Int)),(redP p d c L O).length≤L.length+O.length
  | 0,_,L,O=>by rw[redP];omega
  | d + 1, c, L, O => by
    rw[redP]
    split
    · exact qbv p d (c+1) L O
    · next i hf=>
      have hi:=(qb8 hf).1
      refine Nat.le_trans (qbv p d (c+1) _ _) ?_
      simp[List.length_eraseIdx,hi]
      omega
theorem qay {p:Int} (hp:0 < p) {w:Nat}:∀ (d c:Nat) (L O:List (List Int)),okR p w L→okR p w O→okR p w (redP p d c L O)
  | 0,_,L,O,_,hO=>by rw[redP];exact hO
  | d + 1, c, L, O, hL, hO => by
    rw[redP]
    split
    · exact qay hp d (c+1) L O hL hO
    · next i hf=>
      have hi:=(qb8 hf).1
      have hs:=qb2 (p:=p) (b:=invP p (rd (L.getD i []) (c:Int))) hp (hL _ (Q6 hi)).1
      exact qay hp d (c+1) _ _ (qap _ hp hs.1 (qbc i hL)) (qey (qap _ hp hs.1 hO) (Jc hs (Zn p w)))
def qaf (p:Int) (w:Nat) (L:List (List Int)):List Int:=(redP p w 0 L []).flatten
def Z5 (p:Int) (w:Nat) (L:List (List Int)):Nat:=(redP p w 0 L []).length
theorem qfl {w:Nat}:∀ (M:List (List Int)),(∀ r∈M,r.length=w)→M.flatten.length=M.length*w
  | [],_=>by simp
  | r :: M,h=>by
    rw[List.flatten_cons,List.length_append,h r (by simp),qfl M (fun x hx=>h x (by simp[hx])),List.length_cons,Nat.add_mul,Nat.one_mul,Nat.add_comm]
theorem qdq {p:Int} (hp:0 < p) {w:Nat} {L:List (List Int)} (hL:okR p w L):(qaf p w L).length=Z5 p w L*w:=qfl _ (fun r hr=>(qay hp w 0 L [] hL (Zn p w) r hr).1)
def Zp (p:Int) (l:List Int):Bool:=Qr p l 8 && decide (qaf p 4 [l.take 4,l.drop 4]=l)
theorem J7 {p:Int} {l:List Int} (h:Qr p l 8=true):okR p 4 [l.take 4,l.drop 4]:=by
  obtain⟨_,hl,hx⟩:=je h
  refine Jc ⟨by simp;omega,fun x hx'=>hx x (List.mem_of_mem_take hx')⟩ (Jc ⟨by simp;omega,fun x hx'=>hx x (List.mem_of_mem_drop hx')⟩ (Zn p 4))
theorem Jd {p:Int} {l:List Int} (h:Zp p l=true):Qr p l 8=true:=by
  rw[Zp,Bool.and_eq_true]at h;exact h.1
theorem qg3 {p:Int} {l:List Int} (h:Zp p l=true):Z5 p 4 [l.take 4,l.drop 4]=2:=by
  have hn:=Jd h
  have hb:=zn (je hn).1
  rw[Zp,Bool.and_eq_true]at h
  have h2:=of_decide_eq_true h.2
  have h3:=qdq (w:=4) (by omega) (J7 hn)
  rw[h2,(je hn).2.1]at h3
  omega
end Go.Proofs.Ytmgbpmihbljngaa.PA
namespace Go.Proofs.Ytmgbpmihbljngaa.PA
open Go.RowKit Go.Proofs.YtmgbpmihbljngaaW.PrintWords Go.Proofs.YtmgbpmihbljngaaW.PrintLast Go.Proofs.YtmgbpmihbljngaaW.PrintMore
set_option linter.unusedVariables false
set_option linter.unusedSimpArgs false
theorem qdi {p:Int} (hp:zk p=true) {w:Nat} {L M:List (List Int)} (hL:okR p w L) (hM:okR p w M) (h:∀ r∈L,Sp p w M (fn r)):Z5 p w L≤Z5 p w M:=by
  have hb:=zn hp
  obtain⟨P,e1,_,hP,_,h2⟩:=Zs hp hL
  obtain⟨Q,e3,_,hQ,h4,_⟩:=Zs hp hM
  rw[Z5,Z5,e1,e3,List.length_map,List.length_map]
  exact hP.len_le (by omega) hQ fun x hx=>Sp.sub h4 (Sp.sub h (h2 x hx))
theorem qo2 {p:Int} (hp:zk p=true) {w:Nat} {L M:List (List Int)} (hL:okR p w L) (hM:okR p w M) (h:∀ r∈L,Sp p w M (fn r)) (k:∀ r∈M,Sp p w L (fn r)):redP p w 0 L []=redP p w 0 M []:=by
  have hb:=zn hp
  obtain⟨P,e1,_,hP,h1,h2⟩:=Zs hp hL
  obtain⟨Q,e3,_,hQ,h4,h5⟩:=Zs hp hM
  rw[e1,e3,hP.unique (by omega) hQ (fun x hx=>Sp.sub h4 (Sp.sub h (h2 x hx))) (fun x hx=>Sp.sub h1 (Sp.sub k (h5 x hx)))]
theorem qda {p:Int} {w:Nat} (L:List (List Int)):Z5 p w L≤L.length:=by
  have:=qbv p w 0 L []
  simpa [Z5] using this
end Go.Proofs.Ytmgbpmihbljngaa.PA
namespace Go.Proofs.Ytmgbpmihbljngaa.PA
open Go.RowKit Go.Proofs.YtmgbpmihbljngaaW.PrintWords Go.Proofs.YtmgbpmihbljngaaW.PrintLast Go.Proofs.YtmgbpmihbljngaaW.PrintMore
set_option linter.unusedVariables false
set_option linter.unusedSimpArgs false
theorem qoa {p:Int} (hp:zk p=true) {w:Nat} {L:List (List Int)} (hL:okR p w L):redP p w 0 (redP p w 0 L []) []=redP p w 0 L []:=by
  have hb:=zn hp
  obtain⟨P,e1,_,hP,h1,h2⟩:=Zs hp hL
  have hok:=qay (p:=p) (by omega) w 0 L [] hL (Zn p w)
  rw[e1]at hok ⊢
  rw[← e1]
  refine(qo2 hp (e1 ▸ hok) hL (fun r hr=>?_) (fun r hr=>?_))
  · rw[e1]at hr
    obtain⟨x,hx,rfl⟩:=List.mem_map.1 hr
    exact h2 x hx
  · rw[e1];exact h1 r hr
theorem qm6 {x y l:List Int} (hx:x.length=4) (h:[x,y].flatten=l):l.take 4=x∧l.drop 4=y:=by
  subst h
  simp[← hx]
theorem qnb {p:Int} (hp:zk p=true) {L:List (List Int)} (hL:okR p 4 L) (h2:Z5 p 4 L=2):
    Zp p (qaf p 4 L)=true∧redP p 4 0 L []=[(qaf p 4 L).take 4,(qaf p 4 L).drop 4]:=by
  have hb:=zn hp
  have hro:=qay (p:=p) (by omega) 4 0 L [] hL (Zn p 4)
  have hself:=qoa hp hL
  rw[Z5]at h2
  have hsp:qaf p 4 L=(redP p 4 0 L []).flatten:=rfl
  generalize hM:redP p 4 0 L []=M at*
  match M,h2 with
  | [x,y],_=>
    have hx:=hro x (by simp)
    have hy:=hro y (by simp)
    obtain⟨e1,e2⟩:=qm6 hx.1 hsp.symm
    have hl8:(qaf p 4 L).length=8:=by rw[hsp];simp;omega
    refine⟨?_,by rw[e1,e2]⟩
    rw[Zp,e1,e2,qad hp hl8 (fun z hz=>?_),Bool.true_and]
    · rw[qaf,hself,← hsp];exact decide_eq_true rfl
    · rw[hsp]at hz
      simp only[List.flatten_cons,List.flatten_nil,List.append_nil,List.mem_append]at hz
      rcases hz with hz | hz
      · exact hx.2 z hz
      · exact hy.2 z hz
theorem qmh {p:Int} {l:List Int} (h:Zp p l=true):redP p 4 0 [l.take 4,l.drop 4] []=[l.take 4,l.drop 4]:=by
  have hn:=Jd h
  have hp:=(je hn).1
  have hs:=(qnb hp (J7 hn) (qg3 h)).2
  rw[Zp,Bool.and_eq_true]at h
  rw[of_decide_eq_true h.2]at hs
  exact hs
end Go.Proofs.Ytmgbpmihbljngaa.PA
namespace Go.Proofs.Ytmgbpmihbljngaa.PA
open Go.RowKit Go.Proofs.YtmgbpmihbljngaaW.PrintWords Go.Proofs.YtmgbpmihbljngaaW.PrintLast Go.Proofs.YtmgbpmihbljngaaW.PrintMore
set_option linter.unusedVariables false
set_option linter.unusedSimpArgs false
def J1 (l:List Int):Bool:=(l.find? (fun x=>x !=0)) == some 1
def Qu (p:Int) (a:List Int):Bool:=Qr p a 4 && J1 a
end Go.Proofs.Ytmgbpmihbljngaa.PA
namespace Go.Proofs.Ytmgbpmihbljngaa.PA
open Go.RowKit Go.Proofs.YtmgbpmihbljngaaW.PrintWords Go.Proofs.YtmgbpmihbljngaaW.PrintLast Go.Proofs.YtmgbpmihbljngaaW.PrintMore
set_option linter.unusedVariables false
set_option linter.unusedSimpArgs false
theorem qe8 :∀ (l:List Int) (h:Nat),h < l.length→fn l h=1→(∀ j,j < h→fn l j=0)→J1 l=true
  | [],_,h,_,_=>absurd h (by simp)
  | x :: l,0,_,h1,_=>by
    have:x=1:=by simpa [fn,rd] using h1
    subst this;rfl
  | x :: l,h+1,hl,h1,hz=>by
    have e:∀ j:Nat,fn (x :: l) (j+1)=fn l j:=fun j=>by simp[fn,rd]
    have hx:x=0:=by simpa [fn,rd] using hz 0 (by omega)
    have ih:=qe8 l h (by simpa using hl) (by rw[← e];exact h1) (fun j hj=>by rw[← e];exact hz (j+1) (by omega))
    subst hx
    simpa [J1] using ih
theorem qia {p:Int} {l:List Int} (h:Zp p l=true):Qu p (l.take 4)=true∧Qu p (l.drop 4)=true:=by
  have hn:=Jd h
  have hp:=(je hn).1
  obtain⟨P,e1,_,hP,_,_⟩:=Zs hp (J7 hn)
  rw[qmh h]at e1
  have key:∀ r∈[l.take 4,l.drop 4],Qu p r=true:=fun r hr=>by
    have hok:=J7 hn r hr
    rw[e1]at hr
    obtain⟨x,hx,rfl⟩:=List.mem_map.1 hr
    rw[Qu,qad hp hok.1 hok.2,Bool.true_and]
    exact qe8 x.2 x.1 (by have:=hP.lt x hx;omega) (hP.one x hx) (hP.low x hx)
  exact⟨key _ (by simp),key _ (by simp)⟩
end Go.Proofs.Ytmgbpmihbljngaa.PA
namespace Go.Proofs.Ytmgbpmihbljngaa.PA
open Go.RowKit Go.Proofs.YtmgbpmihbljngaaW.PrintWords Go.Proofs.YtmgbpmihbljngaaW.PrintLast Go.Proofs.YtmgbpmihbljngaaW.PrintMore
set_option linter.unusedVariables false
set_option linter.unusedSimpArgs false
def J4 (b:List Int):Prop:=b.length≤2000∧∀ x∈b,0≤x∧x≤255
theorem wf_u8 {x:Int} (h:(Lit.int .u8 x).wf=true):0≤x∧x≤255:=by
  simp[Lit.wf,IntKind.min,IntKind.max,IntKind.signed,IntKind.bits]at h
  omega
theorem qms (l:List Int) (h:∀ x∈l,(Lit.int .u8 x).wf=true):∃ b,Z2.f l=some (b,0)∧J4 b:=by
  unfold Z2.f
  by_cases hl:(l.length:Int)>2000
  · rw[if_pos hl,if_pos (by omega)]
    exact⟨_,rfl,by simp;omega,fun x hx=>wf_u8 (h x (List.mem_of_mem_take hx))⟩
  · rw[if_neg hl]
    exact⟨_,rfl,by omega,fun x hx=>wf_u8 (h x hx)⟩
end Go.Proofs.Ytmgbpmihbljngaa.PA
namespace Go.Proofs.Ytmgbpmihbljngaa.PA
open Go.RowKit Go.Proofs.YtmgbpmihbljngaaW.PrintWords Go.Proofs.YtmgbpmihbljngaaW.PrintLast Go.Proofs.YtmgbpmihbljngaaW.PrintMore
set_option linter.unusedVariables false
set_option linter.unusedSimpArgs false
theorem qek (x y:Int) (hx:0≤x) (hy:0≤y) (hx2:x < 2 ^ 40) (hy2:y < 2 ^ 40):0≤Go.bits .xor .i64 x y:=by
  obtain⟨a,rfl⟩:=Int.eq_ofNat_of_zero_le hx
  obtain⟨b,rfl⟩:=Int.eq_ofNat_of_zero_le hy
  have ha:a < 2 ^ 40:=by omega
  have hb:b < 2 ^ 40:=by omega
  have hc:=Nat.xor_lt_two_pow ha hb
  have e:(BitVec.ofInt 64 (a:Int) ^^^ BitVec.ofInt 64 (b:Int)).toNat=a ^^^ b:=by
    rw[BitVec.toNat_xor,BitVec.ofInt_natCast,BitVec.ofInt_natCast,BitVec.toNat_ofNat,BitVec.toNat_ofNat,Nat.mod_eq_of_lt (by omega),Nat.mod_eq_of_lt (by omega)]
  show 0≤IntKind.wrap .i64 (((BitVec.ofInt 64 (a:Int) ^^^ BitVec.ofInt 64 (b:Int)).toNat:Nat):Int)
  rw[e]
  generalize a ^^^ b=c at hc
  have hm:((c:Int)) % (2 ^ 64:Int)=c:=by omega
  simp only[IntKind.wrap,IntKind.bits,IntKind.signed,hm]
  rw[if_neg (by simp;omega)]
  omega
theorem qhk {b:List Int} (h:J4 b) (i:Int):0≤rd b i∧rd b i≤255:=by
  unfold rd
  rw[List.getD_eq_getElem?_getD]
  cases hi:b[i.toNat]? with
  | none=>simp
  | some x=>exact h.2 x (List.mem_of_getElem? hi)
theorem Q0 (b:List Int) (h:J4 b) (p n:Int) (hp:0≤p) (hp2:p≤1000000):∃ v,Ev (fun k=>qb.f k b p n) (v,p+1)∧0≤v∧(1≤n→v < n):=by
  have w1:wrap64 (p+1)=p+1:=wsm (by omega) (by omega)
  have w2:wrap64 (p+1 - 1)=p:=by rw[wsm (by omega) (by omega)];omega
  unfold qb.f
  by_cases hn:n < 1
  · refine⟨0,Ev.yes hn ?_,by omega,by omega⟩
    refine Ev.step (f:=fun _=>some (0,p+1)) (fun k=>?_) (Ev.now _)
    rw[qb.j0,if_pos rfl,w1]
  · by_cases hb:b.length=0
    · refine⟨0,Ev.no hn ?_,by omega,by omega⟩
      refine Ev.step (f:=fun _=>some (0,p+1)) (fun k=>?_) (Ev.now _)
      rw[qb.j0,if_pos (by simp[hb]),w1]
    · have hbf:¬ ((b.length:Int) == 0)=true:=by simp;intro e;simp[e]at hb
      have hb0:¬ (b.length:Int)=0:=by omega
      by_cases hlt:p < (b.length:Int)
      · have hr:=qhk h p
        refine⟨Int.tmod (rd b p) n,Ev.no hn ?_,Int.tmod_nonneg _ hr.1,fun _=>Int.tmod_lt_of_pos _ (by omega)⟩
        refine Ev.step (f:=fun _=>some (Int.tmod (rd b p) n,p+1)) (fun k=>?_) (Ev.now _)
        rw[qb.j0,if_neg hbf,w1,w2,if_pos hlt,if_pos hp,if_neg (by omega),wsm (by omega) (by omega)]
      · have hlp:0 < (b.length:Int):=by omega
        have hi1:=Int.tmod_nonneg (b.length:Int) hp
        have hi2:=Int.tmod_lt_of_pos p hlp
        have w3:wrap64 (wrap64 (p*7)+3)=p*7+3:=by rw[wsm (i:=p*7) (by omega) (by omega),wsm (by omega) (by omega)]
        have hj1:=Int.tmod_nonneg (b.length:Int) (a:=p*7+3) (by omega)
        have hj2:=Int.tmod_lt_of_pos (p*7+3) hlp
        have r1:=qhk h (Int.tmod p (b.length:Int))
        have r2:=qhk h (Int.tmod (p*7+3) (b.length:Int))
        have hq0:0≤Int.tdiv p (b.length:Int):=Int.tdiv_nonneg hp (by omega)
        have hq1:Int.tdiv p (b.length:Int)≤p:=by rw[Int.tdiv_eq_ediv_of_nonneg hp];exact Int.ediv_le_self _ hp
        have e:=@qb.j0.eq_2
        generalize hx:wrap64 (wrap64 (wrap64 (wrap64 (wrap64 (rd b (Int.tmod p (b.length:Int)))*131)+wrap64 (wrap64 (rd b (Int.tmod (p*7+3) (b.length:Int)))*1117))+wrap64 (p*29))+wrap64 (wrap64 (Int.tdiv p (b.length:Int))*53))=X
        have hX:0≤X∧X < 2 ^ 40:=by
          rw[← hx]
          generalize rd b (Int.tmod p (b.length:Int))=y1 at r1
          generalize rd b (Int.tmod (p*7+3) (b.length:Int))=y2 at r2
          generalize Int.tdiv p (b.length:Int)=y3 at hq0 hq1
          rw[wsm (i:=y1) (by omega) (by omega),wsm (i:=y2) (by omega) (by omega),wsm (i:=y3) (by omega) (by omega),wsm (i:=y1*131) (by omega) (by omega),wsm (i:=y2*1117) (by omega) (by omega),wsm (i:=y3*53) (by omega) (by omega),wsm (i:=p*29) (by omega) (by omega),wsm (i:=y1*131+y2*1117) (by omega) (by omega),wsm (i:=y1*131+y2*1117+p*29) (by omega) (by omega),wsm (by omega) (by omega)]
          omega
        have hd:0≤Int.tdiv X 64∧Int.tdiv X 64≤X:=by rw[Int.tdiv_eq_ediv_of_nonneg hX.1];omega
        have hxor:=qek X (wrap64 (Int.tdiv X 64)) hX.1 (by rw[wsm (by omega) (by omega)];omega) hX.2 (by rw[wsm (by omega) (by omega)];omega)
        refine⟨Int.tmod (Go.bits .xor .i64 X (wrap64 (Int.tdiv X 64))) n,Ev.no hn ?_,Int.tmod_nonneg _ hxor,fun _=>Int.tmod_lt_of_pos _ (by omega)⟩
        refine Ev.step (f:=fun _=>some (Int.tmod (Go.bits .xor .i64 X (wrap64 (Int.tdiv X 64))) n,p+1)) (fun k=>?_) (Ev.now _)
        rw[qb.j0,if_neg hbf,w1,w2,if_neg hlt,if_neg hb0,if_pos hi1,if_pos hi2,w3,if_pos hj1,if_pos hj2,if_neg (by omega),hx]
end Go.Proofs.Ytmgbpmihbljngaa.PA
namespace Go.Proofs.Ytmgbpmihbljngaa.PA
open Go.RowKit Go.Proofs.YtmgbpmihbljngaaW.PrintWords Go.Proofs.YtmgbpmihbljngaaW.PrintLast Go.Proofs.YtmgbpmihbljngaaW.PrintMore
set_option linter.unusedVariables false
set_option linter.unusedSimpArgs false
def qlb :List Int:=[1,0,0,0,0,0,0,0,0,0,1,0,0,0,0,0,1,0,0,1]
theorem qbh (p:Int):Ev (fun k=>q8.f k p) (if zk p=true then (qlb,true) else ([],false)):=by
  refine Ev.of (q8.mono p) (k:=60) ?_
  unfold q8.f
  rw[Z4]
  cases zk p
  · rfl
  · show q8.l0 60 [] 0=some (qlb,true)
    decide+kernel
end Go.Proofs.Ytmgbpmihbljngaa.PA
namespace Go.Proofs.Ytmgbpmihbljngaa.PA
open Go.RowKit Go.Proofs.YtmgbpmihbljngaaW.PrintWords Go.Proofs.YtmgbpmihbljngaaW.PrintLast Go.Proofs.YtmgbpmihbljngaaW.PrintMore
set_option linter.unusedVariables false
set_option linter.unusedSimpArgs false
theorem qdt (b:List Int) (hb:J4 b) (p:Int) (hp:1≤p∧p≤31):∀ (d i:Nat) (f:List Int) (s:Int),i+d=20→f.length=i→0≤s→s+2*d+10≤1000000→(∀ x∈f,0≤x∧x < p)→
    ∃ f' s',Ev (fun k=>zf.l0 k p f (i:Int) b s) (f',s')∧f'.length≤20∧s≤s'∧s'≤s+2*d+1∧(∀ x∈f',0≤x∧x < p)
  | 0,i,f,s,h,hf,h0,h1,hr=>by
    obtain⟨v,hv,hv0,hv1⟩:=Q0 b hb s 24 h0 (by omega)
    by_cases hz:v=0
    · refine⟨f.take 19,s+1,?_,by simp;omega,by omega,by omega,fun x hx=>hr x (List.mem_of_mem_take hx)⟩
      refine Ev.step (f:=fun k=>(qb.f k b s 24).bind fun t=>if t.1=0 then (if 19≤(f.length:Int) then some (f.take (19:Int).toNat,t.2) else none) else some (f,t.2)) (fun k=>?_) (Ev.bind hv ?_)
      · rw[zf.l0,if_neg (by omega)]
      · exact Ev.yes hz (Ev.yes (by omega) (Ev.now _))
    · refine⟨f,s+1,?_,by omega,by omega,by omega,hr⟩
      refine Ev.step (f:=fun k=>(qb.f k b s 24).bind fun t=>if t.1=0 then (if 19≤(f.length:Int) then some (f.take (19:Int).toNat,t.2) else none) else some (f,t.2)) (fun k=>?_) (Ev.bind hv ?_)
      · rw[zf.l0,if_neg (by omega)]
      · exact Ev.no hz (Ev.now _)
  | d + 1, i, f, s, h, hf, h0, h1, hr => by
    obtain⟨v,hv,hv0,hv1⟩:=Q0 b hb s p h0 (by omega)
    obtain⟨u,hu,hu0,hu1⟩:=Q0 b hb (s+1) 2 (by omega) (by omega)
    have hv2:=hv1 (by omega)
    have hu2:=hu1 (by omega)
    have hvu:0≤v*u∧v*u < p:=by
      have:u=0∨u=1:=by omega
      rcases this with rfl | rfl<;>simp<;>omega
    obtain⟨f',s',he,hl,g1,g2,g3⟩:=qdt b hb p hp d (i+1) (f++[wrap64 (v*u)]) (s+1+1) (by omega) (by simp[hf]) (by omega) (by omega) (by
      rw[wsm (by omega) (by omega)]
      intro x hx
      rcases List.mem_append.1 hx with hx | hx
      · exact hr x hx
      · rw[List.mem_singleton.1 hx];exact hvu)
    refine⟨f',s',?_,hl,by omega,by omega,g3⟩
    refine Ev.step (f:=fun k=>(qb.f k b s p).bind fun t=>(qb.f k b t.2 2).bind fun t2=>zf.l0 k p (f++[wrap64 (t.1*t2.1)]) ((i+1:Nat):Int) b t2.2) (fun k=>?_) (Ev.bind hv (Ev.bind hu he))
    rw[zf.l0,if_pos (by omega)]
    congr 1;funext t
    congr 1;funext t2
    rw[if_pos (by omega),wsm (i:=(i:Int)+1) (by omega) (by omega)]
    rfl
theorem qkx (b:List Int) (hb:J4 b) (p s:Int) (hp:1≤p∧p≤31) (h0:0≤s) (h1:s≤900000):∃ f s',Ev (fun k=>zf.f k b s p) (f,s')∧f.length≤20∧s≤s'∧s'≤s+50:=by
  unfold zf.f
  cases hq:zk p
  · obtain⟨f,s',he,hl,g1,g2,_⟩:=qdt b hb p hp 20 0 [] s (by omega) rfl h0 (by omega) (by simp)
    refine⟨f,s',Ev.bind (qbh p) ?_,hl,g1,by omega⟩
    rw[hq]
    refine Ev.no (by simp) (Ev.step (f:=fun k=>zf.l0 k p [] ((0:Nat):Int) b s) (fun k=>?_) he)
    rw[zf.j0,if_neg (by simp)];rfl
  · obtain⟨v,hv,hv0,hv1⟩:=Q0 b hb s 3 h0 (by omega)
    by_cases hz:v=0
    · refine⟨qlb,s+1,Ev.bind (qbh p) ?_,by decide,by omega,by omega⟩
      rw[hq]
      refine Ev.yes rfl (Ev.bind hv (Ev.step (f:=fun _=>some (qlb,s+1)) (fun k=>?_) (Ev.now _)))
      rw[zf.j0,if_pos (by simp[hz])];rfl
    · obtain⟨f,s',he,hl,g1,g2,_⟩:=qdt b hb p hp 20 0 [] (s+1) (by omega) rfl (by omega) (by omega) (by simp)
      refine⟨f,s',Ev.bind (qbh p) ?_,hl,by omega,by omega⟩
      rw[hq]
      refine Ev.yes rfl (Ev.bind hv (Ev.step (f:=fun k=>zf.l0 k p [] ((0:Nat):Int) b (s+1)) (fun k=>?_) he))
      rw[zf.j0,if_neg (by simp[hz])];rfl
end Go.Proofs.Ytmgbpmihbljngaa.PA
namespace Go.Proofs.Ytmgbpmihbljngaa.PA
open Go.RowKit Go.Proofs.YtmgbpmihbljngaaW.PrintWords Go.Proofs.YtmgbpmihbljngaaW.PrintLast Go.Proofs.YtmgbpmihbljngaaW.PrintMore
set_option linter.unusedVariables false
set_option linter.unusedSimpArgs false
def Zm (p:Int):List Int:=if p=7 then [3,5,6] else if p=13 then [4,10,12] else if p=19 then [8,12,18] else if p=31 then [6,26,30] else []
theorem qj5 {p:Int} (h:zk p=false):Zm p=[]:=by
  have:¬ (p=7∨p=11∨p=13∨p=17∨p=19∨p=23∨p=29∨p=31):=of_decide_eq_false h
  unfold Zm
  rw[if_neg (by omega),if_neg (by omega),if_neg (by omega),if_neg (by omega)]
theorem qdc (p:Int):Zm p=[]∨(p=7∨p=13∨p=19∨p=31):=by
  unfold Zm
  by_cases h1:p=7
  · exact .inr (.inl h1)
  by_cases h2:p=13
  · exact .inr (.inr (.inl h2))
  by_cases h3:p=19
  · exact .inr (.inr (.inr (.inl h3)))
  by_cases h4:p=31
  · exact .inr (.inr (.inr (.inr h4)))
  · rw[if_neg h1,if_neg h2,if_neg h3,if_neg h4];exact .inl rfl
end Go.Proofs.Ytmgbpmihbljngaa.PA
namespace Go.Proofs.Ytmgbpmihbljngaa.PA
open Go.RowKit Go.Proofs.YtmgbpmihbljngaaW.PrintWords Go.Proofs.YtmgbpmihbljngaaW.PrintLast Go.Proofs.YtmgbpmihbljngaaW.PrintMore
set_option linter.unusedVariables false
set_option linter.unusedSimpArgs false
theorem qh4 :∀ p∈([7,11,13,17,19,23,29,31]:List Int),j8.f 60 p=some (Zm p,decide (Zm p≠[])):=by decide+kernel
theorem qmq (p:Int):Ev (fun k=>j8.f k p) (Zm p,decide (Zm p≠[])):=by
  cases hp:zk p with
  | true=>exact Ev.of (j8.mono p) (qh4 p (by have:=Jv hp;simp;omega))
  | false=>
    unfold j8.f
    refine Ev.bind (Ev.k (Z4 p)) ?_
    rw[hp,qj5 hp]
    exact Ev.no (by simp) (Ev.now _)
end Go.Proofs.Ytmgbpmihbljngaa.PA
namespace Go.Proofs.Ytmgbpmihbljngaa.PA
open Go.RowKit Go.Proofs.YtmgbpmihbljngaaW.PrintWords Go.Proofs.YtmgbpmihbljngaaW.PrintLast Go.Proofs.YtmgbpmihbljngaaW.PrintMore
set_option linter.unusedVariables false
set_option linter.unusedSimpArgs false
def qo5 (p:Int) (k:Nat):List (List Int):=
  if k / 9=0 then [[(Zm p).getD (k / 3 % 3) 0,1,0,0],[0,0,(Zm p).getD (k % 3) 0,1]]
  else if k / 9=1 then [[(Zm p).getD (k / 3 % 3) 0,0,1,0],[0,(Zm p).getD (k % 3) 0,0,1]]
  else [[(Zm p).getD (k / 3 % 3) 0,0,0,1],[0,(Zm p).getD (k % 3) 0,1,0]]
def qif (p k:Int):List Int:=qaf p 4 (qo5 p k.toNat)
theorem qib :∀ p∈([7,13,19,31]:List Int),∀ k∈List.range 27,(qif p (k:Int)).length=8:=by decide+kernel
theorem qm0 {p k:Int} (hp:p=7∨p=13∨p=19∨p=31) (h0:0≤k) (h1:k < 27):(qif p k).length=8:=by
  have h:=qib p (by simp;omega) k.toNat (by simp;omega)
  rwa [show ((k.toNat:Nat):Int)=k by omega]at h
def clP (p k:Int):List Int×Bool:=if Zm p≠[]∧0≤k∧k < 27 then (qif p k,true) else ([],false)
theorem qpz (p k:Int):(clP p k).1.length≤8:=by
  unfold clP
  split
  · next h=>
    rcases qdc p with h2 | h2
    · exact absurd h2 h.1
    · exact Nat.le_of_eq (qm0 h2 h.2.1 h.2.2)
  · simp
end Go.Proofs.Ytmgbpmihbljngaa.PA
namespace Go.Proofs.Ytmgbpmihbljngaa.PA
open Go.RowKit Go.Proofs.YtmgbpmihbljngaaW.PrintWords Go.Proofs.YtmgbpmihbljngaaW.PrintLast Go.Proofs.YtmgbpmihbljngaaW.PrintMore
set_option linter.unusedVariables false
set_option linter.unusedSimpArgs false
theorem qgd :∀ p∈([7,13,19,31]:List Int),∀ k∈List.range 27,Qv.f 60 p (Zm p) (k:Int)=some (qif p (k:Int)):=by decide+kernel
theorem qkl {p k:Int} (hp:p=7∨p=13∨p=19∨p=31) (h0:0≤k) (h1:k < 27):Ev (fun n=>Qv.f n p (Zm p) k) (qif p k):=by
  have h:=qgd p (by simp;omega) k.toNat (by simp;omega)
  rw[show ((k.toNat:Nat):Int)=k by omega]at h
  exact Ev.of (Qv.mono _ _ _) h
end Go.Proofs.Ytmgbpmihbljngaa.PA
namespace Go.Proofs.Ytmgbpmihbljngaa.PA
open Go.RowKit Go.Proofs.YtmgbpmihbljngaaW.PrintWords Go.Proofs.YtmgbpmihbljngaaW.PrintLast Go.Proofs.YtmgbpmihbljngaaW.PrintMore
set_option linter.unusedVariables false
set_option linter.unusedSimpArgs false
theorem qhp (p k:Int):Ev (fun n=>Qn.f n p k) (clP p k):=by
  unfold Qn.f clP
  refine Ev.bind (qmq p) ?_
  rcases qdc p with h | h
  · rw[h,if_neg (by simp)];exact Ev.no (by simp) (Ev.now _)
  · have hl:(Zm p).length=3:=by rcases h with rfl | rfl | rfl | rfl<;>rfl
    have hne:Zm p≠[]:=by intro e;rw[e]at hl;simp at hl
    refine Ev.yes (by simp[hne]) ?_
    by_cases h0:0≤k
    · refine Ev.bind (a:=decide (k≤26)) (Ev.k (by unfold zq.f;rw[if_pos (by omega)])) ?_
      by_cases h1:k < 27
      · rw[if_pos ⟨hne,h0,h1⟩,decide_eq_true (show k≤26 by omega)]
        exact Ev.yes rfl (Ev.bind (qkl h h0 h1) (Ev.now _))
      · rw[if_neg (fun e=>h1 e.2.2),decide_eq_false (show ¬ k≤26 by omega)]
        exact Ev.no (by simp) (Ev.now _)
    · refine Ev.bind (a:=false) (Ev.k (by unfold zq.f;rw[if_neg (by omega)])) ?_
      rw[if_neg (fun e=>h0 e.2.1)]
      exact Ev.no (by simp) (Ev.now _)
end Go.Proofs.Ytmgbpmihbljngaa.PA
namespace Go.Proofs.Ytmgbpmihbljngaa.PA
open Go.RowKit Go.Proofs.YtmgbpmihbljngaaW.PrintWords Go.Proofs.YtmgbpmihbljngaaW.PrintLast Go.Proofs.YtmgbpmihbljngaaW.PrintMore
set_option linter.unusedVariables false
set_option linter.unusedSimpArgs false
theorem qfx (p x:Int) (hp:1≤p∧p≤40):∀ (d:Nat) (i:Int),0≤i→i+d=p→∃ r,Ev (fun k=>zo.l0 k p x i) r∧0≤r∧r < p
  | 0,i,h0,h=>by
    refine⟨0,Ev.step (f:=fun _=>some 0) (fun k=>?_) (Ev.now _),by omega,by omega⟩
    rw[zo.l0,if_neg (by omega)]
  | d + 1, i, h0, h => by
    by_cases hc:(Int.tmod (wrap64 (i*x)) p)=1
    · refine⟨i,Ev.step (f:=fun _=>some i) (fun k=>?_) (Ev.now _),by omega,by omega⟩
      rw[zo.l0,if_pos (by omega),if_neg (by omega),if_pos hc]
    · obtain⟨r,hr,h1,h2⟩:=qfx p x hp d (i+1) (by omega) (by omega)
      refine⟨r,Ev.step (f:=fun k=>zo.l0 k p x (i+1)) (fun k=>?_) hr,h1,h2⟩
      rw[zo.l0,if_pos (by omega),if_neg (by omega),if_neg hc,wsm (by omega) (by omega)]
end Go.Proofs.Ytmgbpmihbljngaa.PA
namespace Go.Proofs.Ytmgbpmihbljngaa.PA
open Go.RowKit Go.Proofs.YtmgbpmihbljngaaW.PrintWords Go.Proofs.YtmgbpmihbljngaaW.PrintLast Go.Proofs.YtmgbpmihbljngaaW.PrintMore
set_option linter.unusedVariables false
set_option linter.unusedSimpArgs false
theorem qhi (p:Int) (hp:1≤p∧p≤40) (l:List Int) (hl:l.length≤1000):∀ (d i:Nat) (acc:List Int) (n:Int),i+d=l.length→acc.length=i→∃ r,Ev (fun k=>qu.l0 k p l acc n (i:Int)) r∧r.length=l.length
  | 0,i,acc,n,h,ha=>by
    refine⟨acc,Ev.step (f:=fun _=>some acc) (fun k=>?_) (Ev.now _),by omega⟩
    rw[qu.l0,if_neg (by omega)]
  | d + 1, i, acc, n, h, ha => by
    by_cases h0:n=0
    · obtain⟨t,ht,_,_⟩:=qfx p (rd l (i:Int)) hp (p - 1).toNat 1 (by omega) (by omega)
      obtain⟨r,hr,hrl⟩:=qhi p hp l hl d (i+1) (acc++[Int.tmod (wrap64 ((rd l (i:Int))*t)) p]) t (by omega) (by simp[ha])
      refine⟨r,Ev.step (f:=fun k=>(zo.f k p (rd l (i:Int))).bind fun t=>qu.l0 k p l (acc++[Int.tmod (wrap64 ((rd l (i:Int))*t)) p]) t ((i+1:Nat):Int)) (fun k=>?_) (Ev.bind ht hr),hrl⟩
      rw[qu.l0,if_pos (by omega),if_pos h0,if_pos (by omega)]
      congr 1
      funext t
      rw[if_neg (by omega),if_pos (by omega),wsm (i:=(i:Int)+1) (by omega) (by omega)]
      rfl
    · obtain⟨r,hr,hrl⟩:=qhi p hp l hl d (i+1) (acc++[Int.tmod (wrap64 ((rd l (i:Int))*n)) p]) n (by omega) (by simp[ha])
      refine⟨r,Ev.step (f:=fun k=>qu.l0 k p l (acc++[Int.tmod (wrap64 ((rd l (i:Int))*n)) p]) n ((i+1:Nat):Int)) (fun k=>?_) hr,hrl⟩
      rw[qu.l0,if_pos (by omega),if_neg h0,if_pos (by omega),if_neg (by omega),if_pos (by omega),wsm (i:=(i:Int)+1) (by omega) (by omega)]
      rfl
theorem qmr (p:Int) (hp:1≤p∧p≤40) (l:List Int) (hl:l.length≤1000):∃ r,Ev (fun k=>qu.f k p l) r∧r.length=l.length:=by
  unfold qu.f
  exact qhi p hp l hl l.length 0 [] 0 (by omega) rfl
end Go.Proofs.Ytmgbpmihbljngaa.PA
namespace Go.Proofs.Ytmgbpmihbljngaa.PA
open Go.RowKit Go.Proofs.YtmgbpmihbljngaaW.PrintWords Go.Proofs.YtmgbpmihbljngaaW.PrintLast Go.Proofs.YtmgbpmihbljngaaW.PrintMore
set_option linter.unusedVariables false
set_option linter.unusedSimpArgs false
theorem qic (l:List Int) (hl:l.length≤1000000):∀ (d i:Nat),i+d=l.length→Ev (fun k=>zb.l0 k l (i:Int)) ((l.drop i).all fun x=>x == 0)
  | 0,i,h=>by
    refine Ev.step (f:=fun _=>some true) (fun k=>?_) ?_
    · rw[zb.l0,if_neg (by omega)]
    · rw[List.drop_eq_nil_of_le (by omega)];exact Ev.now _
  | d + 1, i, h => by
    have ih:=qic l hl d (i+1) (by omega)
    rw[qa1 l i (by omega),List.all_cons]
    by_cases hz:rd l (i:Int)=0
    · refine Ev.step (f:=fun k=>zb.l0 k l ((i+1:Nat):Int)) (fun k=>?_) ?_
      · rw[zb.l0,if_pos (by omega),if_pos (by omega),if_pos hz,wsm (by omega) (by omega)];rfl
      · simpa [hz] using ih
    · refine Ev.step (f:=fun _=>some false) (fun k=>?_) ?_
      · rw[zb.l0,if_pos (by omega),if_pos (by omega),if_neg hz]
      · rw[show (rd l (i:Int) == 0)=false from beq_eq_false_iff_ne.2 hz]
        exact Ev.now false
theorem qao (l:List Int) (hl:l.length≤1000000):Ev (fun k=>zb.f k l) (l.all fun x=>x == 0):=by
  unfold zb.f
  simpa using qic l hl l.length 0 (by omega)
end Go.Proofs.Ytmgbpmihbljngaa.PA
namespace Go.Proofs.Ytmgbpmihbljngaa.PA
open Go.RowKit Go.Proofs.YtmgbpmihbljngaaW.PrintWords Go.Proofs.YtmgbpmihbljngaaW.PrintLast Go.Proofs.YtmgbpmihbljngaaW.PrintMore
set_option linter.unusedVariables false
set_option linter.unusedSimpArgs false
theorem qec (b:List Int) (hb:J4 b) (p s:Int) (hp:1≤p∧p≤31) (h0:0≤s) (h1:s≤900000):∃ a s',Ev (fun k=>jz.f k b s p) (a,s')∧a.length≤5∧s≤s'∧s'≤s+50:=by
  obtain⟨v1,e1,_,_⟩:=Q0 b hb s 2 h0 (by omega)
  obtain⟨v2,e2,_,_⟩:=Q0 b hb (s+1) p (by omega) (by omega)
  obtain⟨v3,e3,_,_⟩:=Q0 b hb (s+1+1) p (by omega) (by omega)
  obtain⟨v4,e4,_,_⟩:=Q0 b hb (s+1+1+1) p (by omega) (by omega)
  obtain⟨r,er,hr⟩:=qmr p (by omega) [v1,v2,v3,v4] (by simp)
  have ez:=qao r (by rw[hr];simp)
  simp only[List.length_cons,List.length_nil]at hr
  unfold jz.f
  cases hz:(r.all fun x=>x == 0)
  · obtain⟨v5,e5,_,_⟩:=Q0 b hb (s+1+1+1+1) 24 (by omega) (by omega)
    rw[hz]at ez
    by_cases h5:v5=0
    · refine⟨r++[0],s+1+1+1+1+1,Ev.bind e1 (Ev.bind e2 (Ev.bind e3 (Ev.bind e4 (Ev.bind er (Ev.bind ez (Ev.no (by simp) (Ev.bind e5 (Ev.yes h5 (Ev.yes (by omega) (Ev.now _)))))))))),by simp[hr],by omega,by omega⟩
    · refine⟨r,s+1+1+1+1+1,Ev.bind e1 (Ev.bind e2 (Ev.bind e3 (Ev.bind e4 (Ev.bind er (Ev.bind ez (Ev.no (by simp) (Ev.bind e5 (Ev.no h5 (Ev.now _))))))))),by simp[hr],by omega,by omega⟩
  · obtain⟨v5,e5,_,_⟩:=Q0 b hb (s+1+1+1+1) p (by omega) (by omega)
    rw[hz]at ez
    exact⟨[0,0,1,v5],s+1+1+1+1+1,Ev.bind e1 (Ev.bind e2 (Ev.bind e3 (Ev.bind e4 (Ev.bind er (Ev.bind ez (Ev.yes rfl (Ev.bind e5 (Ev.now _)))))))),by simp,by omega,by omega⟩
end Go.Proofs.Ytmgbpmihbljngaa.PA
namespace Go.Proofs.Ytmgbpmihbljngaa.PA
open Go.RowKit Go.Proofs.YtmgbpmihbljngaaW.PrintWords Go.Proofs.YtmgbpmihbljngaaW.PrintLast Go.Proofs.YtmgbpmihbljngaaW.PrintMore
set_option linter.unusedVariables false
set_option linter.unusedSimpArgs false
theorem Jr {p:Int} {a:List Int} (h:Qu p a=true):Qr p a 4=true∧J1 a=true:=by
  rw[Qu,Bool.and_eq_true]at h;exact h
theorem Jz {p:Int} {a:List Int} (h:Qr p a 4=true):a.length=4∧∀ x∈a,0≤x∧x < p:=(je h).2
end Go.Proofs.Ytmgbpmihbljngaa.PA
namespace Go.Proofs.Ytmgbpmihbljngaa.PA
open Go.RowKit Go.Proofs.YtmgbpmihbljngaaW.PrintWords Go.Proofs.YtmgbpmihbljngaaW.PrintLast Go.Proofs.YtmgbpmihbljngaaW.PrintMore
set_option linter.unusedVariables false
set_option linter.unusedSimpArgs false
theorem qcq :∀ (l:List Int),J1 l=true→∃ h,h < l.length∧fn l h=1∧∀ j,j < h→fn l j=0
  | [],h=>by simp[J1]at h
  | x :: l,h=>by
    by_cases hx:x=0
    · subst hx
      have h':J1 l=true:=by simpa [J1] using h
      obtain⟨i,h1,h2,h3⟩:=qcq l h'
      have e:∀ j:Nat,fn (0 :: l) (j+1)=fn l j:=fun j=>by simp[fn,rd]
      refine⟨i+1,by simpa using h1,by rw[e];exact h2,fun j hj=>?_⟩
      cases j with
      | zero=>simp[fn,rd]
      | succ j=>rw[e];exact h3 j (by omega)
    · have h1:x=1:=by simpa [J1,hx] using h
      subst h1
      exact⟨0,by simp,by simp[fn,rd],fun j hj=>absurd hj (by omega)⟩
theorem qgr {p:Int} {w:Nat} (hp:2≤p) {a:List Int} (ha:a.length=w∧∀ x∈a,0≤x∧x < p) (hm:J1 a=true) {x:Nat×List Int} (hx:Rref p w [x]) (hs:Sp p w [x.2] (fn a)):a=x.2:=by
  obtain⟨h,h1,h2,h3⟩:=qcq a hm
  have hl:=hx.lead (v:=fn a) hs (j:=h) (by omega) (fun i hi=>by rw[h3 i hi];exact Int.dvd_zero p) (by rw[h2];exact qae hp)
  obtain⟨y,hy,e⟩:=hl
  have hyx:y=x:=by simpa using hy
  subst hyx
  refine qkg ha.1 (hx.ok y (by simp)).1 fun j hj=>qfq (Jb ha j hj) (Jb (hx.ok y (by simp)) j hj) ?_
  have:=hx.coord (v:=fn a) hs j hj
  have e2:cs [y] (fn a) j=fn y.2 j:=by simp[cs,e,h2]
  rwa [e2]at this
theorem qe6 {p:Int} {w:Nat} (hp:2≤p) {a:List Int} (ha:a.length=w) (hm:J1 a=true):¬ Sp p w [] (fn a):=fun hs=>by
  obtain⟨h,h1,h2,h3⟩:=qcq a hm
  cases hs with
  | zero _ hz=>have:=hz h (by omega);rw[h2]at this;exact qae hp this
  | add _ u r t hr _ _=>exact absurd hr (by simp)
theorem qi7 {p:Int} {a b:List Int} (ha:Qu p a=true) (hb:Qu p b=true) (hne:a≠b):Z5 p 4 [a,b]=2:=by
  obtain⟨ha1,ha2⟩:=Jr ha
  obtain⟨hb1,hb2⟩:=Jr hb
  have hp:=(je ha1).1
  have hbd:=zn hp
  have hok:okR p 4 [a,b]:=Jc (Jz ha1) (Jc (Jz hb1) (Zn p 4))
  have hle:=qda (p:=p) (w:=4) [a,b]
  obtain⟨P,e1,_,hP,h1,h2⟩:=Zs hp hok
  have hl:Z5 p 4 [a,b]=P.length:=by rw[Z5,e1,List.length_map]
  match P,hP,h1,hl with
  | [],_,h1,_=>exact absurd (h1 a (by simp)) (qe6 (by omega) (Jz ha1).1 ha2)
  | [x],hP,h1,_=>exact absurd ((qgr (by omega) (Jz ha1) ha2 hP (h1 a (by simp))).trans (qgr (by omega) (Jz hb1) hb2 hP (h1 b (by simp))).symm) hne
  | _ :: _ :: _,_,_,hl=>simp at hl hle;omega
theorem qmt {p:Int} {a:List Int} (ha:Qu p a=true):Z5 p 4 [a,a]≠2:=by
  have ha1:=(Jr ha).1
  have hok:okR p 4 [a]:=Jc (Jz ha1) (Zn p 4)
  have h:=qdi (je ha1).1 (Jc (Jz ha1) hok) hok (fun r hr=>by
    have:r=a:=by simpa using hr
    subst this;exact Sp.mem (by simp))
  have h2:=qda (p:=p) (w:=4) [a]
  simp at h2
  omega
end Go.Proofs.Ytmgbpmihbljngaa.PA
namespace Go.Proofs.Ytmgbpmihbljngaa.PA
open Go.RowKit Go.Proofs.YtmgbpmihbljngaaW.PrintWords Go.Proofs.YtmgbpmihbljngaaW.PrintLast Go.Proofs.YtmgbpmihbljngaaW.PrintMore
set_option linter.unusedVariables false
set_option linter.unusedSimpArgs false
def qbd (p:Int) (a b:List Int):List Int×Bool:=if Qu p a=true∧Qu p b=true∧a≠b then (qaf p 4 [a,b],true) else ([],false)
theorem qfv {p:Int} {a b:List Int} (ha:Qu p a=true) (hb:Qu p b=true):okR p 4 [a,b]:=Jc (Jz (Jr ha).1) (Jc (Jz (Jr hb).1) (Zn p 4))
end Go.Proofs.Ytmgbpmihbljngaa.PA
namespace Go.Proofs.Ytmgbpmihbljngaa.PA
open Go.RowKit Go.Proofs.YtmgbpmihbljngaaW.PrintWords Go.Proofs.YtmgbpmihbljngaaW.PrintLast Go.Proofs.YtmgbpmihbljngaaW.PrintMore
set_option linter.unusedVariables false
set_option linter.unusedSimpArgs false
theorem qhf {p:Int} {a b:List Int} (h:(qbd p a b).2=true):(qbd p a b).1.length=8:=by
  unfold qbd at h ⊢
  by_cases hc:Qu p a=true∧Qu p b=true∧a≠b
  · rw[if_pos hc]
    have hn:=je (Jr hc.1).1
    have hb:=zn hn.1
    rw[qdq (by omega) (qfv hc.1 hc.2.1),qi7 hc.1 hc.2.1 hc.2.2]
  · rw[if_neg hc]at h;simp at h
end Go.Proofs.Ytmgbpmihbljngaa.PA
namespace Go.Proofs.Ytmgbpmihbljngaa.PA
open Go.RowKit Go.Proofs.YtmgbpmihbljngaaW.PrintWords Go.Proofs.YtmgbpmihbljngaaW.PrintLast Go.Proofs.YtmgbpmihbljngaaW.PrintMore
set_option linter.unusedVariables false
set_option linter.unusedSimpArgs false
theorem qly {p:Int} (hp:zk p=true) {L:List (List Int)} (hL:okR p 4 L) (hl:L.length < 1000000):Ev (fun k=>Qa.f k p L) (if Z5 p 4 L=2 then (qaf p 4 L,true) else ([],false)):=by
  unfold Qa.f
  have hb:=zn hp
  refine Ev.bind (qaz hp (w:=4) (by omega) L hL hl) ?_
  have hro:=qay (p:=p) (by omega) 4 0 L [] hL (Zn p 4)
  have hrk:Z5 p 4 L=(redP p 4 0 L []).length:=rfl
  have hsp:qaf p 4 L=(redP p 4 0 L []).flatten:=rfl
  rw[hrk,hsp]
  generalize redP p 4 0 L []=M at*
  by_cases h2:M.length=2
  · match M,h2 with
    | [x,y],h2=>
      have hx:=(hro x (by simp)).1
      have hy:=(hro y (by simp)).1
      have hend:Ev (fun _=>some (x++y,true)) (if [x,y].length=2 then ([x,y].flatten,true) else ([],false)):=by
        rw[if_pos h2]
        simp only[List.flatten_cons,List.flatten_nil,List.append_nil]
        exact Ev.now _
      exact Ev.yes h2 (Ev.yes ⟨by show x.length < _;omega,by show y.length < _;omega⟩ hend)
  · refine Ev.no h2 ?_
    rw[if_neg h2]
    exact Ev.now _
end Go.Proofs.Ytmgbpmihbljngaa.PA
namespace Go.Proofs.Ytmgbpmihbljngaa.PA
open Go.RowKit Go.Proofs.YtmgbpmihbljngaaW.PrintWords Go.Proofs.YtmgbpmihbljngaaW.PrintLast Go.Proofs.YtmgbpmihbljngaaW.PrintMore
set_option linter.unusedVariables false
set_option linter.unusedSimpArgs false
theorem qgg {p:Int} (hp:zk p=true) {l:List Int} (hr:∀ x∈l,0≤x∧x < p):(!(l.all fun x=>x == 0) && decide (rowP p l=l))=J1 l:=by
  have hb:=zn hp
  unfold J1 rowP qd0
  cases h:l.find? (fun x=>x !=0) with
  | none=>
    have:(l.all fun x=>x == 0)=true:=by
      rw[List.all_eq_true]
      intro x hx
      have:=List.find?_eq_none.1 h x hx
      simpa using this
    rw[this];rfl
  | some y=>
    have hy:=List.mem_of_find?_eq_some h
    have hy0:y≠0:=by simpa using List.find?_some h
    have hall:(l.all fun x=>x == 0)=false:=by
      rw[Bool.eq_false_iff]
      intro e
      exact hy0 (by simpa using List.all_eq_true.1 e y hy)
    rw[hall]
    simp only[Bool.not_false,Bool.true_and,Option.getD_some]
    rw[Bool.eq_iff_iff,decide_eq_true_iff,beq_iff_eq]
    constructor
    · intro e
      have e1:y*invP p y % p=y:=by
        have h2:∀ (m:List Int),(m.map fun x=>x*invP p y % p)=m→y∈m→y*invP p y % p=y:=by
          intro m
          induction m with
          | nil=>intro _ h;simp at h
          | cons z m ih=>
            intro e h
            rw[List.map_cons]at e
            injection e with e1 e2
            rcases List.mem_cons.1 h with rfl | h
            · exact e1
            · exact ih e2 h
        exact h2 l e hy
      have:=(Zr hp (hr y hy).1 (hr y hy).2).2.2.2.1 hy0
      rw[this]at e1
      rw[← e1]
    · intro e
      injection e with e
      subst e
      rw[qnj hp]
      refine(List.map_congr_left (g:=id) fun x hx=>?_).trans (List.map_id _)
      rw[Int.mul_one,Int.emod_eq_of_lt (hr x hx).1 (hr x hx).2];rfl
end Go.Proofs.Ytmgbpmihbljngaa.PA
namespace Go.Proofs.Ytmgbpmihbljngaa.PA
open Go.RowKit Go.Proofs.YtmgbpmihbljngaaW.PrintWords Go.Proofs.YtmgbpmihbljngaaW.PrintLast Go.Proofs.YtmgbpmihbljngaaW.PrintMore
set_option linter.unusedVariables false
set_option linter.unusedSimpArgs false
theorem qg5 {p:Int} (hp:zk p=true) (x:Int):qaa p x=(decide (0≤x) && decide (x < p)):=by
  have hb:=zn hp
  rw[qaa,wsm (by omega) (by omega),show decide (x≤p - 1)=decide (x < p) from decide_eq_decide.2 (by omega)]
theorem qfr (p:Int) (l:List Int):Ev (fun k=>Qe.f k p l) (Qu p l):=by
  unfold Qe.f
  refine Ev.bind (Ev.k (Z4 p)) ?_
  cases hp:zk p with
  | false=>
    refine Ev.no (by simp) ?_
    rw[show Qu p l=false from by simp[Qu,Qr,hp]]
    exact Ev.now _
  | true=>
    refine Ev.yes rfl ?_
    by_cases hl:l.length=4
    · refine Ev.yes hl ?_
      by_cases ha:l.all (qaa p)=true
      · refine Ev.yes ha ?_
        have hr:∀ x∈l,0≤x∧x < p:=fun x hx=>by
          have h1:=List.all_eq_true.1 ha x hx
          rw[qg5 hp]at h1
          simpa using h1
        refine Ev.bind (qdg hp l hr (by omega)) (Ev.bind (qao l (by omega)) (Ev.yes (by simp[rowP,hl]) ?_))
        have e:(!(l.all fun x=>x == 0) && (rowP p l == l))=Qu p l:=by
          rw[Qu,qad hp hl hr,Bool.true_and,← qgg hp hr]
          congr 1
          rw[Bool.eq_iff_iff];simp
        rw[e]
        exact Ev.now _
      · refine Ev.no ha ?_
        rw[show Qu p l=false from by
          cases hh:Qu p l with
          | false=>rfl
          | true=>
            refine absurd (List.all_eq_true.2 fun x hx=>?_) ha
            rw[Qu,Bool.and_eq_true]at hh
            rw[qg5 hp]
            simpa using (je hh.1).2.2 x hx]
        exact Ev.now _
    · refine Ev.no hl ?_
      rw[show Qu p l=false from by
        cases hh:Qu p l with
        | false=>rfl
        | true=>
          rw[Qu,Bool.and_eq_true]at hh
          exact absurd (je hh.1).2.1 hl]
      exact Ev.now _
end Go.Proofs.Ytmgbpmihbljngaa.PA
namespace Go.Proofs.Ytmgbpmihbljngaa.PA
open Go.RowKit Go.Proofs.YtmgbpmihbljngaaW.PrintWords Go.Proofs.YtmgbpmihbljngaaW.PrintLast Go.Proofs.YtmgbpmihbljngaaW.PrintMore
set_option linter.unusedVariables false
set_option linter.unusedSimpArgs false
theorem qiz (p:Int) (a b:List Int):Ev (fun k=>js.f k p a b) (qbd p a b):=by
  unfold js.f qbd
  refine Ev.bind (qfr p a) ?_
  cases ha:Qu p a with
  | false=>rw[if_neg (by simp)];exact Ev.no (by simp) (Ev.now _)
  | true=>
    refine Ev.yes rfl (Ev.bind (qfr p b) ?_)
    cases hb:Qu p b with
    | false=>rw[if_neg (by simp)];exact Ev.no (by simp) (Ev.now _)
    | true=>
      have hn:=je (Jr ha).1
      refine Ev.yes rfl (Ev.bind (qly hn.1 (qfv ha hb) (by simp)) ?_)
      by_cases e:a=b
      · subst e
        rw[if_neg (qmt ha),if_neg (by simp)];exact Ev.now _
      · rw[if_pos (qi7 ha hb e),if_pos ⟨rfl,rfl,e⟩];exact Ev.now _
end Go.Proofs.Ytmgbpmihbljngaa.PA
namespace Go.Proofs.Ytmgbpmihbljngaa.PA
open Go.RowKit Go.Proofs.YtmgbpmihbljngaaW.PrintWords Go.Proofs.YtmgbpmihbljngaaW.PrintLast Go.Proofs.YtmgbpmihbljngaaW.PrintMore
set_option linter.unusedVariables false
set_option linter.unusedSimpArgs false
theorem qj8 (b:List Int) (hb:J4 b) (p s:Int) (hp:1≤p∧p≤31) (h0:0≤s) (h1:s≤800000):∃ l s',Ev (fun k=>jb.f k b s p) (l,s')∧l.length≤8∧s≤s'∧s'≤s+200:=by
  obtain⟨v,hv,hv0,hv1⟩:=Q0 b hb s 27 h0 (by omega)
  have hend : ∀ (c : List Int) (s2 : Int), c.length ≤ 8 → s ≤ s2 → s2 ≤ s + 50 → ∀ x : Bool, ∃ l s', Ev (fun k => jb.j0 k p c x b s2) (l, s') ∧ l.length ≤ 8 ∧ s ≤ s' ∧ s' ≤ s + 200 := by
    intro c s2 hc g1 g2 x
    cases x with
    | true=>exact⟨c,s2,Ev.step (f:=fun _=>some (c,s2)) (fun k=>by rw[jb.j0,if_pos rfl]) (Ev.now _),hc,g1,by omega⟩
    | false =>
      obtain⟨a1,t1,e1,_,l1,l2⟩:=qec b hb p s2 hp (by omega) (by omega)
      obtain⟨a2,t2,e2,_,l3,l4⟩:=qec b hb p t1 hp (by omega) (by omega)
      have e3:=qiz p a1 a2
      have hlen:=qhf (p:=p) (a:=a1) (b:=a2)
      generalize qbd p a1 a2=t at*
      obtain⟨t,ok⟩:=t
      cases ok with
      | true=>
        have h8:t.length=8:=hlen rfl
        obtain⟨u,hu,_,_⟩:=Q0 b hb t2 24 (by omega) (by omega)
        by_cases hz:u=0
        · refine⟨t.take 7,t2+1,by
            refine Ev.step (fun k=>by rw[jb.j0,if_neg (by simp)]) (Ev.bind e1 (Ev.bind e2 (Ev.bind e3 (Ev.yes rfl (Ev.bind hu ?_)))))
            exact Ev.yes hz (Ev.yes (by show (7:Int)≤(t.length:Int);omega) (Ev.now _)),by simp;omega,by omega,by omega⟩
        · exact⟨t,t2+1,by
            refine Ev.step (fun k=>by rw[jb.j0,if_neg (by simp)]) (Ev.bind e1 (Ev.bind e2 (Ev.bind e3 (Ev.yes rfl (Ev.bind hu ?_)))))
            exact Ev.no hz (Ev.now _),by omega,by omega,by omega⟩
      | false=>
        exact⟨[1,0,0,0,0,1,0,0],t2,by
          refine Ev.step (fun k=>by rw[jb.j0,if_neg (by simp)]) (Ev.bind e1 (Ev.bind e2 (Ev.bind e3 ?_)))
          exact Ev.no (by simp) (Ev.now _),by simp,by omega,by omega⟩
  have hc:=qhp p v
  have hcl:=qpz p v
  generalize clP p v=t at*
  obtain⟨t,ok⟩:=t
  unfold jb.f
  cases ok with
  | true=>
    obtain⟨u,hu,_,_⟩:=Q0 b hb (s+1) 2 (by omega) (by omega)
    obtain⟨l,s',h2,h3,h4,h5⟩:=hend t (s+1+1) hcl (by omega) (by omega) (u == 0)
    exact⟨l,s',Ev.bind hv (Ev.bind hc (Ev.yes rfl (Ev.bind hu h2))),h3,h4,h5⟩
  | false=>
    obtain⟨l,s',h2,h3,h4,h5⟩:=hend t (s+1) hcl (by omega) (by omega) false
    exact⟨l,s',Ev.bind hv (Ev.bind hc (Ev.no (by simp) h2)),h3,h4,h5⟩
end Go.Proofs.Ytmgbpmihbljngaa.PA
namespace Go.Proofs.Ytmgbpmihbljngaa.PA
open Go.RowKit Go.Proofs.YtmgbpmihbljngaaW.PrintWords Go.Proofs.YtmgbpmihbljngaaW.PrintLast Go.Proofs.YtmgbpmihbljngaaW.PrintMore
set_option linter.unusedVariables false
set_option linter.unusedSimpArgs false
theorem qjp (b:List Int) (h:J4 b) (p:Int) (hp:0≤p) (hp2:p≤1000000):∃ v,Ev (fun k=>Qm.f k b p) (v,p+1)∧(v=7∨v=11∨v=13∨v=17∨v=19∨v=23∨v=29∨v=31∨v=9∨v=5):=by
  obtain⟨v,hv,h0,h1⟩:=Q0 b h p 13 hp hp2
  have h2:=h1 (by omega)
  refine⟨rd ([7,11,13,17,19,23,29,31,13,19,31,9,5]:List Int) v,?_,?_⟩
  · unfold Qm.f
    refine Ev.bind (Ev.now _) (Ev.bind hv ?_)
    exact Ev.yes h0 (Ev.yes (by simpa using h2) (Ev.now _))
  · have:v=0∨v=1∨v=2∨v=3∨v=4∨v=5∨v=6∨v=7∨v=8∨v=9∨v=10∨v=11∨v=12:=by omega
    rcases this with rfl | rfl | rfl | rfl | rfl | rfl | rfl | rfl | rfl | rfl | rfl | rfl | rfl<;>simp[rd]
end Go.Proofs.Ytmgbpmihbljngaa.PA
namespace Go.Proofs.Ytmgbpmihbljngaa.PA
open Go.RowKit Go.Proofs.YtmgbpmihbljngaaW.PrintWords Go.Proofs.YtmgbpmihbljngaaW.PrintLast Go.Proofs.YtmgbpmihbljngaaW.PrintMore
set_option linter.unusedVariables false
set_option linter.unusedSimpArgs false
theorem qez (a b c:Int):zq.f a b c=some (decide (b≤a) && decide (a≤c)):=by
  unfold zq.f
  by_cases h:a≥b
  · rw[if_pos h,decide_eq_true (show b≤a from h),Bool.true_and]
  · rw[if_neg h,decide_eq_false (show ¬ b≤a from h),Bool.false_and]
end Go.Proofs.Ytmgbpmihbljngaa.PA
namespace Go.Proofs.Ytmgbpmihbljngaa.PA
open Go.RowKit Go.Proofs.YtmgbpmihbljngaaW.PrintWords Go.Proofs.YtmgbpmihbljngaaW.PrintLast Go.Proofs.YtmgbpmihbljngaaW.PrintMore
set_option linter.unusedVariables false
set_option linter.unusedSimpArgs false
theorem qit (p x y z:Int) (hx:0≤x∧x≤100) (hy:0≤y∧y≤100) (hz:0≤z∧z≤100):∃ r,Ev (fun k=>zx.f k p x y z) r:=by
  cases hp:zk p with
  | false=>
    refine⟨(0,0,0,false),?_⟩
    unfold zx.f
    refine Ev.bind (Ev.k (Z4 p)) ?_
    rw[hp]
    exact Ev.no (by simp) (Ev.step (f:=fun _=>some (0,0,0,false)) (fun k=>by rw[zx.j0,if_pos rfl]) (Ev.now _))
  | true=>
    have hb:=zn hp
    have hi:∀ w:Int,0≤w∧w≤100→zq.f w (-1000) 1000=some true:=fun w hw=>by
      rw[qez,decide_eq_true (show (-1000:Int)≤w by omega),decide_eq_true (show w≤1000 by omega)];rfl
    have hm:∀ w:Int,0≤w∧w≤100→jy.f p w=some (w % p):=fun w hw=>by
      rw[qbe _ _ (by omega),← Z9 ⟨by omega,by omega⟩ (show -1000000000≤w by omega) (by omega),wsm (by omega) (by omega)]
    have hr:∀ w∈[x % p,y % p,z % p],0≤w∧w < p:=fun w hw=>by
      simp only[List.mem_cons,List.not_mem_nil,or_false]at hw
      rcases hw with rfl | rfl | rfl<;>exact⟨Int.emod_nonneg _ (by omega),Int.emod_lt_of_pos _ (by omega)⟩
    have hj:∃ r,Ev (fun k=>zx.j0 k p x y z false) r:=by
      cases hz0:([x % p,y % p,z % p].all fun x=>x == 0) with
      | true=>
        refine⟨(0,0,0,false),Ev.step (fun k=>by rw[zx.j0,if_neg (by simp),hm x hx,Option.bind_some,hm y hy,Option.bind_some,hm z hz,Option.bind_some,Option.bind_some]) (Ev.bind (qao _ (by simp)) ?_)⟩
        rw[hz0]
        exact Ev.yes rfl (Ev.now _)
      | false=>
        refine⟨(rd (rowP p [x % p,y % p,z % p]) 0,rd (rowP p [x % p,y % p,z % p]) 1,rd (rowP p [x % p,y % p,z % p]) 2,true),Ev.step (fun k=>by rw[zx.j0,if_neg (by simp),hm x hx,Option.bind_some,hm y hy,Option.bind_some,hm z hz,Option.bind_some,Option.bind_some]) (Ev.bind (qao _ (by simp)) ?_)⟩
        rw[hz0]
        refine Ev.no (by simp) ?_
        have hP:Ev (fun k=>jw.f k p [x % p,y % p,z % p]) (rd (rowP p [x % p,y % p,z % p]) 0,rd (rowP p [x % p,y % p,z % p]) 1,rd (rowP p [x % p,y % p,z % p]) 2):=by
          unfold jw.f
          exact Ev.bind (qdg hp _ hr (by simp)) (Ev.yes (by simp[rowP]) (Ev.yes (by simp[rowP]) (Ev.yes (by simp[rowP]) (Ev.now _))))
        exact Ev.bind hP (Ev.now _)
    obtain⟨r,hr2⟩:=hj
    refine⟨r,?_⟩
    unfold zx.f
    refine Ev.bind (Ev.k (Z4 p)) ?_
    rw[hp]
    exact Ev.yes rfl (Ev.bind (Ev.k (hi x hx)) (Ev.yes rfl (Ev.bind (Ev.k (hi y hy)) (Ev.yes rfl (Ev.bind (Ev.k (hi z hz)) hr2)))))
theorem qd3 (b:List Int) (hb:J4 b) (p s:Int) (hp:1≤p∧p≤31) (h0:0≤s) (h1:s≤900000):∃ x y z s',Ev (fun k=>Qk.f k b s p) (x,y,z,s')∧s≤s'∧s'≤s+10:=by
  obtain⟨u,hu,u0,u1⟩:=Q0 b hb s 3 h0 (by omega)
  obtain⟨v,hv,v0,v1⟩:=Q0 b hb (s+1) p (by omega) (by omega)
  obtain⟨w,hw,w0,w1⟩:=Q0 b hb (s+1+1) p (by omega) (by omega)
  have u2:=u1 (by omega)
  have v2:=v1 (by omega)
  have w2:=w1 (by omega)
  obtain⟨⟨x,y,z,ok⟩,hr⟩:=qit p u v w ⟨u0,by omega⟩ ⟨v0,by omega⟩ ⟨w0,by omega⟩
  unfold Qk.f
  cases ok with
  | false=>exact⟨0,0,1,s+1+1+1,Ev.bind hu (Ev.bind hv (Ev.bind hw (Ev.bind hr (Ev.no (by simp) (Ev.now _))))),by omega,by omega⟩
  | true=>
    obtain⟨t,ht,t0,t1⟩:=Q0 b hb (s+1+1+1) 24 (by omega) (by omega)
    by_cases e:t=0
    · exact⟨2,y,z,s+1+1+1+1,Ev.bind hu (Ev.bind hv (Ev.bind hw (Ev.bind hr (Ev.yes rfl (Ev.bind ht (Ev.yes e (Ev.now _))))))),by omega,by omega⟩
    · exact⟨x,y,z,s+1+1+1+1,Ev.bind hu (Ev.bind hv (Ev.bind hw (Ev.bind hr (Ev.yes rfl (Ev.bind ht (Ev.no e (Ev.now _))))))),by omega,by omega⟩
end Go.Proofs.Ytmgbpmihbljngaa.PA
namespace Go.Proofs.Ytmgbpmihbljngaa.PA
open Go.RowKit Go.Proofs.YtmgbpmihbljngaaW.PrintWords Go.Proofs.YtmgbpmihbljngaaW.PrintLast Go.Proofs.YtmgbpmihbljngaaW.PrintMore
set_option linter.unusedVariables false
set_option linter.unusedSimpArgs false
def ptB (p x y z:Int):Bool:=Qr p [x,y,z] 3 && J1 [x,y,z]
theorem qm5 {p:Int} (hp:zk p=true) {l:List Int} (hr:∀ x∈l,0≤x∧x < p):((rowP p l).all fun x=>x == 0)=l.all fun x=>x == 0:=by
  have hb:=zn hp
  rw[Bool.eq_iff_iff,List.all_eq_true,List.all_eq_true]
  unfold rowP
  constructor
  · intro h x hx
    cases hf:l.find? (fun x=>x !=0) with
    | none=>have:=List.find?_eq_none.1 hf x hx;simpa using this
    | some y=>
      have hy:=List.mem_of_find?_eq_some hf
      have hy0:y≠0:=by simpa using List.find?_some hf
      have h1:=h _ (List.mem_map.2 ⟨y,hy,rfl⟩)
      rw[qd0,hf]at h1
      have:=(Zr hp (hr y hy).1 (hr y hy).2).2.2.2.1 hy0
      simp only[Option.getD_some]at h1
      rw[this]at h1
      simp at h1
  · intro h x hx
    obtain⟨y,hy,rfl⟩:=List.mem_map.1 hx
    have:=h y hy
    simp at this
    simp[this]
end Go.Proofs.Ytmgbpmihbljngaa.PA
namespace Go.Proofs.Ytmgbpmihbljngaa.PA
open Go.RowKit Go.Proofs.YtmgbpmihbljngaaW.PrintWords Go.Proofs.YtmgbpmihbljngaaW.PrintLast Go.Proofs.YtmgbpmihbljngaaW.PrintMore
set_option linter.unusedVariables false
set_option linter.unusedSimpArgs false
theorem qpe {p:Int} (hp:zk p=true) (x y z:Int):Ev (fun k=>jl.f k p x y z) (ptB p x y z):=by
  have hb:=zn hp
  have hlin:∀ x,linB p x=true↔0≤x∧x < p:=fun x=>by
    rw[linB,wsm (by omega) (by omega),Bool.and_eq_true,decide_eq_true_iff,decide_eq_true_iff];omega
  have hno:∀ w∈[x,y,z],¬ linB p w=true→ptB p x y z=false:=fun w hw hn=>by
    cases hh:ptB p x y z with
    | false=>rfl
    | true=>
      rw[ptB,Bool.and_eq_true]at hh
      exact absurd ((hlin w).2 ((je hh.1).2.2 w hw)) hn
  unfold jl.f
  by_cases h1:linB p x=true
  · refine Ev.yes h1 ?_
    by_cases h2:linB p y=true
    · refine Ev.yes h2 ?_
      by_cases h3:linB p z=true
      · refine Ev.yes h3 ?_
        have hr:∀ w∈[x,y,z],0≤w∧w < p:=fun w hw=>by
          simp only[List.mem_cons,List.not_mem_nil,or_false]at hw
          rcases hw with rfl | rfl | rfl
          · exact(hlin _).1 h1
          · exact(hlin _).1 h2
          · exact(hlin _).1 h3
        refine Ev.bind (qdg hp [x,y,z] hr (by simp)) (Ev.bind (qao _ (by simp[rowP])) ?_)
        have hn:Qr p [x,y,z] 3=true:=qad hp rfl hr
        rw[qm5 hp hr,ptB,hn,Bool.true_and,← qgg hp hr]
        cases hz:[x,y,z].all (fun x=>x == 0) with
        | true=>exact Ev.yes rfl (Ev.now _)
        | false=>
          refine Ev.no (by simp) (Ev.yes (by simp[rowP]) ?_)
          have e:((rd (rowP p [x,y,z]) 0 == x) && (rd (rowP p [x,y,z]) 1 == y) && (rd (rowP p [x,y,z]) 2 == z))=(!false && decide (rowP p [x,y,z]=[x,y,z])):=by
            rw[Bool.eq_iff_iff]
            simp[rowP,rd,and_assoc]
          rw[← e]
          exact Ev.now _
      · rw[hno z (by simp) h3];exact Ev.no h3 (Ev.now _)
    · rw[hno y (by simp) h2];exact Ev.no h2 (Ev.now _)
  · rw[hno x (by simp) h1];exact Ev.no h1 (Ev.now _)
end Go.Proofs.Ytmgbpmihbljngaa.PA
namespace Go.Proofs.Ytmgbpmihbljngaa.PA
open Go.RowKit Go.Proofs.YtmgbpmihbljngaaW.PrintWords Go.Proofs.YtmgbpmihbljngaaW.PrintLast Go.Proofs.YtmgbpmihbljngaaW.PrintMore
set_option linter.unusedVariables false
set_option linter.unusedSimpArgs false
theorem qfp (p x y z:Int):Ev (fun k=>j9.f k p x y z) (ptB p x y z):=by
  unfold j9.f
  refine Ev.bind (Ev.k (Z4 p)) ?_
  cases hp:zk p with
  | true=>exact Ev.yes rfl (Ev.bind (qpe hp x y z) (Ev.now _))
  | false=>
    rw[show ptB p x y z=false by simp[ptB,Qr,hp]]
    exact Ev.no (by simp) (Ev.now _)
end Go.Proofs.Ytmgbpmihbljngaa.PA
namespace Go.Proofs.Ytmgbpmihbljngaa.PA
open Go.RowKit Go.Proofs.YtmgbpmihbljngaaW.PrintWords Go.Proofs.YtmgbpmihbljngaaW.PrintLast Go.Proofs.YtmgbpmihbljngaaW.PrintMore
set_option linter.unusedVariables false
set_option linter.unusedSimpArgs false
theorem Zy {p x y:Int} (hp:7≤p∧p≤31) (hx:0≤x∧x < p) (hy:0≤y∧y < p):0≤x*y∧x*y≤900:=qgu hp.2 hx.1 hx.2 hy.1 hy.2
def crsP (p:Int) (a b:Int×Int×Int):List Int:=[(a.2.1*b.2.2 - a.2.2*b.2.1) % p,(a.2.2*b.1 - a.1*b.2.2) % p,(a.1*b.2.1 - a.2.1*b.1) % p]
def inP (p:Int) (a:Int×Int×Int):Prop:=(0≤a.1∧a.1 < p)∧(0≤a.2.1∧a.2.1 < p)∧(0≤a.2.2∧a.2.2 < p)
theorem qex {p:Int} {a:Int×Int×Int} (h:ptB p a.1 a.2.1 a.2.2=true):inP p a:=by
  rw[ptB,Bool.and_eq_true]at h
  have:=(je h.1).2.2
  exact⟨this _ (by simp),this _ (by simp),this _ (by simp)⟩
theorem qf0 {p:Int} (hp:7≤p∧p≤31) (a b:Int×Int×Int) (ha:inP p a) (hb:inP p b):Qd.f p a.1 a.2.1 a.2.2 b.1 b.2.1 b.2.2=some (crsP p a b):=by
  obtain⟨a0,a1,a2⟩:=ha
  obtain⟨b0,b1,b2⟩:=hb
  have m1:=Zy hp a1 b2
  have m2:=Zy hp a2 b1
  have m3:=Zy hp a2 b0
  have m4:=Zy hp a0 b2
  have m5:=Zy hp a0 b1
  have m6:=Zy hp a1 b0
  unfold Qd.f
  rw[wsm (i:=a.2.1*b.2.2) (by omega) (by omega),wsm (i:=a.2.2*b.2.1) (by omega) (by omega),wsm (i:=a.2.2*b.1) (by omega) (by omega),wsm (i:=a.1*b.2.2) (by omega) (by omega),wsm (i:=a.1*b.2.1) (by omega) (by omega),wsm (i:=a.2.1*b.1) (by omega) (by omega),
    qbe _ _ (by omega),qbe _ _ (by omega),qbe _ _ (by omega),Z9 hp (by omega) (by omega),Z9 hp (by omega) (by omega),Z9 hp (by omega) (by omega)]
  rfl
theorem qp5 {p:Int} (hp:7≤p∧p≤31) (a:Int×Int×Int) (ha:inP p a) (x y z:Int) (hx:0≤x∧x < p) (hy:0≤y∧y < p) (hz:0≤z∧z < p):Zf.f p a.1 a.2.1 a.2.2 [x,y,z]=some ((a.1*x+a.2.1*y+a.2.2*z) % p == 0):=by
  obtain⟨a0,a1,a2⟩:=ha
  have m1:=Zy hp a0 hx
  have m2:=Zy hp a1 hy
  have m3:=Zy hp a2 hz
  unfold Zf.f
  rw[if_pos (by simp),if_pos (by simp),if_pos (by simp),if_neg (by omega)]
  simp only[rd,Int.toNat_zero,Int.toNat_one,show (2:Int).toNat=2 from rfl,List.getD_cons_zero,List.getD_cons_succ]
  rw[wsm (i:=a.1*x) (by omega) (by omega),wsm (i:=a.2.1*y) (by omega) (by omega),wsm (i:=a.2.2*z) (by omega) (by omega),wsm (i:=a.1*x+a.2.1*y) (by omega) (by omega),wsm (by omega) (by omega),Int.tmod_eq_emod_of_nonneg (by omega)]
def colB (p:Int) (a b c:Int×Int×Int):Bool:=(c.1*(a.2.1*b.2.2 - a.2.2*b.2.1)+c.2.1*(a.2.2*b.1 - a.1*b.2.2)+c.2.2*(a.1*b.2.1 - a.2.1*b.1)) % p == 0
theorem mod3 (p x y z u v w:Int):(x*(u % p)+y*(v % p)+z*(w % p)) % p=(x*u+y*v+z*w) % p:=by
  have e:x*(u % p)+y*(v % p)+z*(w % p)=x*u+y*v+z*w+p*(-(x*(u / p)+y*(v / p)+z*(w / p))):=by
    simp only[Int.emod_def];grind
  rw[e,Int.add_mul_emod_self_left]
theorem qih {p:Int} (hp:7≤p∧p≤31) (a b c:Int×Int×Int) (hc:inP p c):Zf.f p c.1 c.2.1 c.2.2 (crsP p a b)=some (colB p a b c):=by
  have hm:∀ y:Int,0≤y % p∧y % p < p:=fun y=>⟨Int.emod_nonneg _ (by omega),Int.emod_lt_of_pos _ (by omega)⟩
  rw[crsP,qp5 hp c hc _ _ _ (hm _) (hm _) (hm _),colB]
  congr 2
  exact mod3 p _ _ _ _ _ _
end Go.Proofs.Ytmgbpmihbljngaa.PA
namespace Go.Proofs.Ytmgbpmihbljngaa.PA
open Go.RowKit Go.Proofs.YtmgbpmihbljngaaW.PrintWords Go.Proofs.YtmgbpmihbljngaaW.PrintLast Go.Proofs.YtmgbpmihbljngaaW.PrintMore
set_option linter.unusedVariables false
set_option linter.unusedSimpArgs false
def tpl (x:S43):Int×Int×Int:=(x.f0.f0,x.f0.f1,x.f0.f2)
def tps (l:List S43):List (Int×Int×Int):=l.map tpl
theorem qbi (l:List S43) (i:Nat) (hi:i < l.length):tpl (q4 l (i:Int))=(tps l).getD i (0,0,0):=by
  simp[q4,tps,List.getD_eq_getElem?_getD,hi]
def allN (f:Nat→Bool):Nat→Nat→Bool
  | 0,_=>true
  | d+1,i=>f i && allN f d (i+1)
theorem qdh (f:Nat→Bool):∀ d i,allN f d i=true↔∀ j,i≤j→j < i+d→f j=true
  | 0,i=>by simp[allN];omega
  | d + 1, i => by
    rw[allN,Bool.and_eq_true,qdh f d (i+1)]
    constructor
    · intro h j h1 h2
      by_cases e:j=i
      · subst e;exact h.1
      · exact h.2 j (by omega) (by omega)
    · intro h
      exact⟨h i (by omega) (by omega),fun j h1 h2=>h j (by omega) (by omega)⟩
def apI (p:Int) (Q:List (Int×Int×Int)) (i:Nat):Bool:=ptB p (Q.getD i (0,0,0)).1 (Q.getD i (0,0,0)).2.1 (Q.getD i (0,0,0)).2.2 && allN (fun k=>allN (fun j=>!colB p (Q.getD k (0,0,0)) (Q.getD j (0,0,0)) (Q.getD i (0,0,0))) k 0) i 0
def qbl (p:Int) (Q:List (Int×Int×Int)):Bool:=allN (apI p Q) Q.length 0
theorem qko {p:Int} (hp:zk p=true) (l:List S43) (hl:l.length≤1000000):Ev (fun k=>qq.f k p l) (qbl p (tps l)):=by
  have hb:=zn hp
  have hlen:(tps l).length=l.length:=by simp[tps]
  have hpt:∀ (i:Nat),i < l.length→Ev (fun k=>j9.f k p (q4 l (i:Int)).f0.f0 (q4 l (i:Int)).f0.f1 (q4 l (i:Int)).f0.f2) (ptB p ((tps l).getD i (0,0,0)).1 ((tps l).getD i (0,0,0)).2.1 ((tps l).getD i (0,0,0)).2.2):=fun i hi=>by
    rw[← qbi l i hi];exact qfp _ _ _ _
  have h2:∀ (i k:Nat) (R:Bool),i < l.length→k < i→(∀ j,j < i→inP p ((tps l).getD j (0,0,0)))→inP p ((tps l).getD i (0,0,0))→Ev (fun q=>qq.l1 q p l (i:Int) ((k+1:Nat):Int)) R→∀ (d j:Nat),j+d=k→Ev (fun q=>qq.l2 q p l (i:Int) (k:Int) (j:Int)) (allN (fun j=>!colB p ((tps l).getD k (0,0,0)) ((tps l).getD j (0,0,0)) ((tps l).getD i (0,0,0))) d j && R):=by
    intro i k R hi hk hin hii hend d
    induction d with
    | zero=>
      intro j hj
      refine Ev.step (fun q=>by rw[qq.l2,if_neg (by omega),wsm (by omega) (by omega)]) ?_
      rw[allN,Bool.true_and]
      exact hend
    | succ d ih=>
      intro j hj
      have e1:∀ m:Nat,m < l.length→(q4 l (m:Int)).f0.f0=((tps l).getD m (0,0,0)).1∧(q4 l (m:Int)).f0.f1=((tps l).getD m (0,0,0)).2.1∧(q4 l (m:Int)).f0.f2=((tps l).getD m (0,0,0)).2.2:=fun m hm=>by rw[← qbi l m hm];exact⟨rfl,rfl,rfl⟩
      obtain⟨a1,a2,a3⟩:=e1 i hi
      obtain⟨b1,b2,b3⟩:=e1 k (by omega)
      obtain⟨c1,c2,c3⟩:=e1 j (by omega)
      refine Ev.step (fun q=>by rw[qq.l2,if_pos (by omega),if_pos (by omega),if_pos (by omega),if_pos (by omega),if_pos (by omega),if_pos (by omega),if_pos (by omega),a1,a2,a3,b1,b2,b3,c1,c2,c3,qf0 ⟨by omega,by omega⟩ _ _ (hin k hk) (hin j (by omega)),Option.bind_some,qih ⟨by omega,by omega⟩ _ _ _ hii,Option.bind_some,wsm (by omega) (by omega)]) ?_
      rw[allN]
      cases hc:colB p ((tps l).getD k (0,0,0)) ((tps l).getD j (0,0,0)) ((tps l).getD i (0,0,0)) with
      | true=>exact Ev.yes rfl (Ev.now _)
      | false=>
        refine Ev.no (by simp) ?_
        have:=ih (j+1) (by omega)
        simpa using this
  have h1:∀ (i:Nat) (R:Bool),i < l.length→(∀ j,j < i→inP p ((tps l).getD j (0,0,0)))→inP p ((tps l).getD i (0,0,0))→Ev (fun q=>qq.l0 q p l ((i+1:Nat):Int)) R→∀ (d k:Nat),k+d=i→Ev (fun q=>qq.l1 q p l (i:Int) (k:Int)) (allN (fun k=>allN (fun j=>!colB p ((tps l).getD k (0,0,0)) ((tps l).getD j (0,0,0)) ((tps l).getD i (0,0,0))) k 0) d k && R):=by
    intro i R hi hin hii hend d
    induction d with
    | zero=>
      intro k hk
      refine Ev.step (fun q=>by rw[qq.l1,if_neg (by omega),wsm (by omega) (by omega)]) ?_
      rw[allN,Bool.true_and]
      exact hend
    | succ d ih=>
      intro k hk
      refine Ev.step (fun q=>by rw[qq.l1,if_pos (by omega)]) ?_
      have:=h2 i k _ hi (by omega) hin hii (ih (k+1) (by omega)) k 0 (by omega)
      rw[allN,Bool.and_assoc]
      simpa using this
  have h0 : ∀ (d i : Nat), i + d = l.length → (∀ j, j < i → inP p ((tps l).getD j (0, 0, 0))) → Ev (fun q => qq.l0 q p l (i : Int)) (allN (apI p (tps l)) d i) := by
    intro d
    induction d with
    | zero=>
      intro i hi _
      exact Ev.step (f:=fun _=>some true) (fun q=>by rw[qq.l0,if_neg (by omega)]) (Ev.now _)
    | succ d ih=>
      intro i hi hin
      refine Ev.step (fun q=>by rw[qq.l0,if_pos (by omega),if_pos (by omega)]) (Ev.bind (hpt i (by omega)) ?_)
      rw[allN,apI]
      cases hc:ptB p ((tps l).getD i (0,0,0)).1 ((tps l).getD i (0,0,0)).2.1 ((tps l).getD i (0,0,0)).2.2 with
      | false=>exact Ev.no (by simp) (Ev.now _)
      | true=>
        refine Ev.yes rfl ?_
        have hii:=qex hc
        have:=h1 i _ (by omega) hin hii (ih (i+1) (by omega) fun j hj=>by
          by_cases e:j=i
          · subst e;exact hii
          · exact hin j (by omega)) i 0 (by omega)
        simpa using this
  unfold qq.f qbl
  rw[hlen]
  exact h0 l.length 0 (by omega) (fun j hj=>absurd hj (by omega))
theorem qgo {p:Int} (hp:zk p=false) (Q:List (Int×Int×Int)) (h:0 < Q.length):qbl p Q=false:=by
  obtain⟨n,hn⟩:∃ n,Q.length=n+1:=⟨Q.length - 1,by omega⟩
  rw[qbl,hn,allN,apI]
  simp[ptB,Qr,hp]
theorem qg7 {p:Int} (hp:zk p=false) (l:List S43) (h:0 < l.length):Ev (fun k=>qq.f k p l) false:=by
  unfold qq.f
  refine Ev.step (fun q=>by rw[qq.l0,if_pos (by omega),if_pos (by omega)]) (Ev.bind (qfp _ _ _ _) ?_)
  rw[show ptB p _ _ _=false by simp[ptB,Qr,hp]]
  exact Ev.no (by simp) (Ev.now _)
theorem qa2 {p:Int} {Q:List (Int×Int×Int)} (h:qbl p Q=true):(∀ i,i < Q.length→ptB p (Q.getD i (0,0,0)).1 (Q.getD i (0,0,0)).2.1 (Q.getD i (0,0,0)).2.2=true)∧∀ i k j,i < Q.length→k < i→j < k→colB p (Q.getD k (0,0,0)) (Q.getD j (0,0,0)) (Q.getD i (0,0,0))=false:=by
  rw[qbl,qdh]at h
  have h1:∀ i,i < Q.length→apI p Q i=true:=fun i hi=>h i (by omega) (by omega)
  refine⟨fun i hi=>?_,fun i k j hi hk hj=>?_⟩
  · have:=h1 i hi
    rw[apI,Bool.and_eq_true]at this
    exact this.1
  · have:=h1 i hi
    rw[apI,Bool.and_eq_true,qdh]at this
    have h2:=this.2 k (by omega) (by omega)
    rw[qdh]at h2
    simpa using h2 j (by omega) (by omega)
end Go.Proofs.Ytmgbpmihbljngaa.PA
namespace Go.Proofs.Ytmgbpmihbljngaa.PA
open Go.RowKit Go.Proofs.YtmgbpmihbljngaaW.PrintWords Go.Proofs.YtmgbpmihbljngaaW.PrintLast Go.Proofs.YtmgbpmihbljngaaW.PrintMore
set_option linter.unusedVariables false
set_option linter.unusedSimpArgs false
def qat (p:Int) (w:Nat) (L:List (List Int)):List (Nat×List Int):=((qaq p w 0 L []).map Int.toNat).zip (redP p w 0 L [])
theorem qi8 {α β:Type} (f:Nat×List Int→α) (g:Nat×List Int→β):∀ Q:List (Nat×List Int),(Q.map f).zip (Q.map g)=Q.map fun x=>(f x,g x)
  | []=>rfl
  | x :: Q=>by rw[List.map_cons,List.map_cons,List.zip_cons_cons,qi8 f g Q,List.map_cons]
theorem qbs {p:Int} (hp:zk p=true) {w:Nat} {L:List (List Int)} (hL:okR p w L):
    redP p w 0 L []=(qat p w L).map Prod.snd∧qaq p w 0 L []=(qat p w L).map (fun x=>(x.1:Int))∧Rref p w (qat p w L)∧(∀ r∈L,Sp p w ((qat p w L).map Prod.snd) (fn r))∧∀ x∈qat p w L,Sp p w L (fn x.2):=by
  obtain⟨Q,e1,e2,hQ,h1,h2⟩:=Zs hp hL
  have e:qat p w L=Q:=by
    rw[qat,e1,e2,List.map_map,qi8]
    simp
  rw[e]
  exact⟨e1,e2,hQ,h1,h2⟩
def Z3 (p:Int) (c:Nat):List (Nat×List Int)→List Int→List Int
  | [],v=>v
  | z :: P,v=>Z3 p c P (v.set z.1 ((-(fn z.2 c)) % p))
def Q7 (p:Int) (w:Nat) (P:List (Nat×List Int)) (c:Nat):List Int:=Z3 p c P ((List.replicate w 0).set c 1)
def Qs (P:List (Nat×List Int)) (c:Nat):Bool:=!(P.any fun z=>z.1 == c)
def Jx (p:Int) (w:Nat) (P:List (Nat×List Int)):List (List Int):=((List.range w).filter (Qs P)).map (Q7 p w P)
def Zq (p:Int) (w:Nat) (L:List (List Int)):List (List Int):=redP p w 0 (Jx p w (qat p w L)) []
theorem qc1 (p:Int) (c:Nat):∀ (P:List (Nat×List Int)) (v:List Int),(Z3 p c P v).length=v.length
  | [],_=>rfl
  | z :: P,v=>by rw[Z3,qc1 p c P,List.length_set]
theorem Js (v:List Int) (i j:Nat) (x:Int) (hi:i < v.length):fn (v.set i x) j=if j=i then x else fn v j:=by
  by_cases e:j=i
  · subst e;simp[fn,rd,List.getD_eq_getElem?_getD,hi]
  · rw[if_neg e];simp[fn,rd,List.getD_eq_getElem?_getD,List.getElem?_set_ne (Ne.symm e)]
theorem qbp (p:Int) (c:Nat):∀ (P:List (Nat×List Int)) (v:List Int) (j:Nat),(∀ z∈P,z.1 < v.length)→(∀ z∈P,z.1≠j)→fn (Z3 p c P v) j=fn v j
  | [],_,_,_,_=>rfl
  | z :: P,v,j,hl,h=>by
    rw[Z3,qbp p c P _ j (fun y hy=>by rw[List.length_set];exact hl y (by simp[hy])) (fun y hy=>h y (by simp[hy])),Js v z.1 j _ (hl z (by simp)),if_neg (Ne.symm (h z (by simp)))]
theorem qd4 (p:Int) (c:Nat):∀ (P:List (Nat×List Int)) (v:List Int) (x:Nat×List Int),(∀ z∈P,z.1 < v.length)→P.Pairwise (fun x y=>x.1 < y.1)→x∈P→fn (Z3 p c P v) x.1=(-(fn x.2 c)) % p
  | [],_,_,_,_,h=>absurd h (by simp)
  | z :: P,v,x,hl,hi,h=>by
    rw[List.pairwise_cons]at hi
    have hl2:∀ y∈P,y.1 < (v.set z.1 ((-(fn z.2 c)) % p)).length:=fun y hy=>by rw[List.length_set];exact hl y (by simp[hy])
    rw[Z3]
    rcases List.mem_cons.1 h with rfl | hx
    · rw[qbp p c P _ x.1 hl2 (fun y hy=>Nat.ne_of_gt (hi.1 y hy)),Js v x.1 x.1 _ (hl x (by simp)),if_pos rfl]
    · exact qd4 p c P _ x hl2 hi.2 hx
theorem qct {p:Int} {w:Nat} {P:List (Nat×List Int)} (h:Rref p w P) (c:Nat) {x:Nat×List Int} (hx:x∈P):fn (Q7 p w P c) x.1=(-(fn x.2 c)) % p:=
  qd4 p c P _ x (fun z hz=>by simpa using h.lt z hz) h.inc hx
theorem Jt {p:Int} {w:Nat} {P:List (Nat×List Int)} (h:Rref p w P) {c j:Nat} (hc:c < w) (hj:∀ z∈P,z.1≠j):fn (Q7 p w P c) j=if j=c then 1 else 0:=by
  rw[Q7,qbp p c P _ j (fun z hz=>by simpa using h.lt z hz) hj,Js _ c j _ (by simpa using hc)]
  by_cases e:j=c
  · rw[if_pos e,if_pos e]
  · rw[if_neg e,if_neg e]
    by_cases hw:j < w<;>simp[fn,rd,List.getD_eq_getElem?_getD,hw]
theorem qij (p:Int) (w:Nat) (P:List (Nat×List Int)) (c:Nat):(Q7 p w P c).length=w:=by simp[Q7,qc1]
theorem qby {p:Int} (hp:2≤p) {w:Nat} {P:List (Nat×List Int)} (h:Rref p w P):okR p w (Jx p w P):=fun r hr=>by
  obtain⟨c,hc,rfl⟩:=List.mem_map.1 hr
  have hcw:c < w:=by have:=(List.mem_filter.1 hc).1;simpa using this
  refine⟨qij p w P c,fun y hy=>?_⟩
  obtain⟨j,hj,rfl⟩:=List.mem_iff_getElem.1 hy
  have e:(Q7 p w P c)[j]=fn (Q7 p w P c) j:=by rw[fn,Ji _ j hj]
  rw[e]
  by_cases hex:∃ x∈P,x.1=j
  · obtain⟨x,hx,rfl⟩:=hex
    rw[qct h c hx]
    exact⟨Int.emod_nonneg _ (by omega),Int.emod_lt_of_pos _ (by omega)⟩
  · rw[Jt h hcw (fun z hz e=>hex ⟨z,hz,e⟩)]
    split<;>omega
end Go.Proofs.Ytmgbpmihbljngaa.PA
namespace Go.Proofs.Ytmgbpmihbljngaa.PA
open Go.RowKit Go.Proofs.YtmgbpmihbljngaaW.PrintWords Go.Proofs.YtmgbpmihbljngaaW.PrintLast Go.Proofs.YtmgbpmihbljngaaW.PrintMore
set_option linter.unusedVariables false
set_option linter.unusedSimpArgs false
def dt (w:Nat) (u v:Nat→Int):Int:=((List.range w).map fun j=>u j*v j).sum
theorem qhd {α:Type} (f g:α→Int) (t:Int):∀ l:List α,(l.map fun x=>f x+t*g x).sum=(l.map f).sum+t*(l.map g).sum
  | []=>by simp
  | x :: l=>by
    rw[List.map_cons,List.map_cons,List.map_cons,List.sum_cons,List.sum_cons,List.sum_cons,qhd f g t l,Int.mul_add];omega
theorem qe9 {p:Int} {α:Type} (f g:α→Int):∀ l:List α,(∀ x∈l,p ∣ f x - g x)→p ∣ (l.map f).sum - (l.map g).sum
  | [],_=>by simp
  | x :: l,h=>by
    rw[List.map_cons,List.map_cons,List.sum_cons,List.sum_cons]
    exact Je 1 1 (h x (by simp)) (qe9 f g l fun y hy=>h y (by simp[hy])) (by omega)
theorem qp4 {p:Int} {w:Nat} {u u' v v':Nat→Int} (hu:∀ j,j < w→p ∣ u j - u' j) (hv:∀ j,j < w→p ∣ v j - v' j):p ∣ dt w u v - dt w u' v':=
  qe9 _ _ _ fun j hj=>by
    have hj':j < w:=by simpa using hj
    exact Je (v j) (u' j) (hu j hj') (hv j hj') (by grind)
theorem qns {p:Int} {w:Nat} {L:List (List Int)} {v:Nat→Int} (h:∀ r∈L,p ∣ dt w (fn r) v) {u:Nat→Int} (hu:Sp p w L u):p ∣ dt w u v:=by
  induction hu with
  | zero u hz=>
    refine qhj _ fun y hy=>?_
    obtain⟨j,hj,rfl⟩:=List.mem_map.1 hy
    exact Int.dvd_mul_of_dvd_left (hz j (by simpa using hj))
  | add u u' r t hr _ h2 ih=>
    have h3:=qp4 (v:=v) (v':=v) h2 (fun j _=>by simp)
    have e:dt w (fun j=>u' j+t*fn r j) v=dt w u' v+t*dt w (fn r) v:=by
      rw[dt,dt,dt,← qhd]
      congr 1
      exact List.map_congr_left fun j _=>by grind
    rw[e]at h3
    exact Je 1 1 h3 (Je 1 t ih (h r hr) rfl) (by omega)
theorem qi1 {α:Type} (f:α→Int) (q:α→Bool):∀ l:List α,(l.map f).sum=((l.filter q).map f).sum+((l.filter fun x=>!q x).map f).sum
  | []=>rfl
  | x :: l=>by
    have ih:=qi1 f q l
    cases h:q x<;>simp[h,ih]<;>omega
theorem qbf {P:List (Nat×List Int)} {c:Nat} (h:Qs P c=true):∀ z∈P,z.1≠c:=fun z hz e=>by
  have:P.any (fun z=>z.1 == c)=true:=List.any_eq_true.2 ⟨z,hz,by simp[e]⟩
  rw[Qs,this]at h;simp at h
theorem qc6 {P:List (Nat×List Int)} {c:Nat} (h:¬ ∃ z∈P,z.1=c):Qs P c=true:=by
  rw[Qs]
  cases h2:P.any (fun z=>z.1 == c) with
  | false=>rfl
  | true=>
    obtain⟨z,hz,e⟩:=List.any_eq_true.1 h2
    exact absurd ⟨z,hz,by simpa using e⟩ h
theorem qbu {l:List Nat} (hn:l.Nodup) {x:Nat} (hx:x∈l):∃ A B,l=A++x :: B∧(∀ y∈A,y≠x)∧∀ y∈B,y≠x:=by
  obtain⟨A,B,rfl⟩:=List.append_of_mem hx
  rw[List.nodup_append,List.nodup_cons]at hn
  exact⟨A,B,rfl,fun y hy e=>hn.2.2 y hy x (by simp) e,fun y hy e=>hn.2.1.1 (e ▸ hy)⟩
theorem qkd {p:Int} {w:Nat} {P:List (Nat×List Int)} (h:Rref p w P) {x:Nat×List Int} (hx:x∈P) (v:Nat→Int):dt w (fn x.2) v=v x.1+(((List.range w).filter (Qs P)).map fun c=>fn x.2 c*v c).sum:=by
  rw[dt,qi1 _ (Qs P)]
  have hm:x.1∈(List.range w).filter fun c=>!Qs P c:=by
    rw[List.mem_filter]
    refine⟨by simpa using h.lt x hx,?_⟩
    cases hf:Qs P x.1 with
    | false=>rfl
    | true=>exact absurd rfl (qbf hf x hx)
  obtain⟨A,B,e,ha,hb⟩:=qbu (List.Nodup.sublist List.filter_sublist List.nodup_range) hm
  have hz:∀ c,c∈(List.range w).filter (fun c=>!Qs P c)→c≠x.1→fn x.2 c*v c=0:=fun c hc hne=>by
    have hnf:Qs P c=false:=by have:=(List.mem_filter.1 hc).2;simpa using this
    have hex:∃ z∈P,z.1=c:=by
      by_cases he:∃ z∈P,z.1=c
      · exact he
      · rw[qc6 he]at hnf;simp at hnf
    obtain⟨z,hz,rfl⟩:=hex
    rw[h.off x hx z hz (Ne.symm hne),Int.zero_mul]
  have h1:=qc2 (fun c=>fn x.2 c*v c) x.1 A B (fun y hy=>hz y (by rw[e];simp[hy]) (ha y hy)) (fun y hy=>hz y (by rw[e];simp[hy]) (hb y hy))
  rw[e,h1,h.one x hx];omega
theorem qkh {p:Int} {w:Nat} {P:List (Nat×List Int)} (h:Rref p w P) {x:Nat×List Int} (hx:x∈P) {r:List Int} (hr:r∈Jx p w P):p ∣ dt w (fn x.2) (fn r):=by
  obtain⟨c,hc,rfl⟩:=List.mem_map.1 hr
  have hcw:c < w:=by have:=(List.mem_filter.1 hc).1;simpa using this
  rw[qkd h hx,qct h c hx]
  obtain⟨A,B,e,ha,hb⟩:=qbu (List.Nodup.sublist List.filter_sublist List.nodup_range) hc
  have hz:∀ j,j∈(List.range w).filter (Qs P)→j≠c→fn x.2 j*fn (Q7 p w P c) j=0:=fun j hj hne=>by
    rw[Jt h hcw (qbf (List.mem_filter.1 hj).2),if_neg hne,Int.mul_zero]
  have h1:=qc2 (fun j=>fn x.2 j*fn (Q7 p w P c) j) c A B (fun y hy=>hz y (by rw[e];simp[hy]) (ha y hy)) (fun y hy=>hz y (by rw[e];simp[hy]) (hb y hy))
  rw[e,h1,Jt h hcw (qbf (List.mem_filter.1 hc).2),if_pos rfl]
  exact Jh (-1) (qau (-(fn x.2 c)) p) (by omega)
theorem qf9 {p:Int} {w:Nat} {P:List (Nat×List Int)} (h:Rref p w P) {v:Nat→Int} (hv:∀ x∈P,p ∣ dt w (fn x.2) v):Sp p w (Jx p w P) v:=by
  have hsp:∀ l:List Nat,(∀ c∈l,c∈(List.range w).filter (Qs P))→Sp p w (Jx p w P) fun j=>(l.map fun c=>v c*fn (Q7 p w P c) j).sum:=by
    intro l
    induction l with
    | nil=>intro _;exact .zero _ fun j _=>by simp
    | cons c l ih=>
      intro hl
      exact .add _ _ (Q7 p w P c) (v c) (List.mem_map.2 ⟨c,hl c (by simp),rfl⟩) (ih fun d hd=>hl d (by simp[hd])) fun j _=>by
        rw[List.map_cons,List.sum_cons];exact⟨0,by omega⟩
  refine(hsp _ fun c hc=>hc).congr fun j hj=>?_
  by_cases hex:∃ x∈P,x.1=j
  · obtain⟨x,hx,rfl⟩:=hex
    have h1:=hv x hx
    rw[qkd h hx]at h1
    have h2:p ∣ (((List.range w).filter (Qs P)).map fun c=>v c*fn (Q7 p w P c) x.1).sum - (((List.range w).filter (Qs P)).map fun c=>0+(-1)*(fn x.2 c*v c)).sum:=by
      refine qe9 _ _ _ fun c hc=>?_
      rw[qct h c hx]
      exact Jh (-(v c)) (qau (-(fn x.2 c)) p) (by grind)
    have e3:(((List.range w).filter (Qs P)).map fun c=>0+(-1)*(fn x.2 c*v c)).sum=(-1)*(((List.range w).filter (Qs P)).map fun c=>fn x.2 c*v c).sum:=by
      have:=qhd (fun _:Nat=>(0:Int)) (fun c=>fn x.2 c*v c) (-1) ((List.range w).filter (Qs P))
      rw[this]
      have hz:∀ l:List Nat,(l.map fun _=>(0:Int)).sum=0:=fun l=>by induction l with
        | nil=>rfl
        | cons a l ih=>simpa using ih
      rw[hz];omega
    rw[e3]at h2
    exact Je 1 (-1) h1 h2 (by omega)
  · have hjf:j∈(List.range w).filter (Qs P):=List.mem_filter.2 ⟨by simpa using hj,qc6 hex⟩
    obtain⟨A,B,e,ha,hb⟩:=qbu (List.Nodup.sublist List.filter_sublist List.nodup_range) hjf
    have hz:∀ c,c∈(List.range w).filter (Qs P)→c≠j→v c*fn (Q7 p w P c) j=0:=fun c hc hne=>by
      have hcw:c < w:=by have:=(List.mem_filter.1 hc).1;simpa using this
      rw[Jt h hcw (fun z hz e=>hex ⟨z,hz,e⟩),if_neg (Ne.symm hne),Int.mul_zero]
    have h1:=qc2 (fun c=>v c*fn (Q7 p w P c) j) j A B (fun y hy=>hz y (by rw[e];simp[hy]) (ha y hy)) (fun y hy=>hz y (by rw[e];simp[hy]) (hb y hy))
    show p ∣ v j - (((List.range w).filter (Qs P)).map fun c=>v c*fn (Q7 p w P c) j).sum
    rw[e,h1,Jt h hj (fun z hz e=>hex ⟨z,hz,e⟩),if_pos rfl]
    exact⟨0,by omega⟩
theorem qjn {p:Int} {w:Nat} {P:List (Nat×List Int)} (h:Rref p w P) (hl:P.length < w):∃ c,c < w∧Qs P c=true:=by
  by_cases hex:∃ c,c < w∧Qs P c=true
  · exact hex
  · exfalso
    have h1:=Ja (P:=(List.range w).map fun c=>(c,([]:List Int))) (Q:=P) (by rw[List.pairwise_map];exact List.pairwise_lt_range) h.inc (fun x hx=>by
      obtain⟨c,hc,rfl⟩:=List.mem_map.1 hx
      have hcw:c < w:=by simpa using hc
      by_cases he:∃ z∈P,z.1=c
      · exact he
      · exact absurd ⟨c,hcw,qc6 he⟩ hex)
    simp at h1
    omega
end Go.Proofs.Ytmgbpmihbljngaa.PA
namespace Go.Proofs.Ytmgbpmihbljngaa.PA
open Go.RowKit Go.Proofs.YtmgbpmihbljngaaW.PrintWords Go.Proofs.YtmgbpmihbljngaaW.PrintLast Go.Proofs.YtmgbpmihbljngaaW.PrintMore
set_option linter.unusedVariables false
set_option linter.unusedSimpArgs false
theorem ql4 (P:List (Nat×List Int)) (i:Nat) (hi:i < P.length):jk (P.map Prod.snd) (i:Int)=(P[i]).2:=by
  simp[jk,List.getD_eq_getElem?_getD,hi]
theorem qgm (P:List (Nat×List Int)) (i:Nat) (hi:i < P.length):rd (P.map fun x=>(x.1:Int)) (i:Int)=((P[i]).1:Int):=by
  simp[rd,List.getD_eq_getElem?_getD,hi]
theorem qe2 {p:Int} {w:Nat} {P:List (Nat×List Int)} (h:Rref p w P):P.length≤w:=by
  have h1:=Ja (P:=P) (Q:=(List.range w).map fun c=>(c,([]:List Int))) h.inc (by rw[List.pairwise_map];exact List.pairwise_lt_range) (fun x hx=>⟨(x.1,[]),List.mem_map.2 ⟨x.1,by simpa using h.lt x hx,rfl⟩,rfl⟩)
  simpa using h1
theorem s_neg {p:Int} (hp:zk p=true) {x:Int} (h0:0≤x) (h1:x < p):jy.f p (wrap64 (-x))=some ((-x) % p):=by
  have hb:=zn hp
  rw[qbe p _ (by omega),Z9 ⟨by omega,by omega⟩ (by omega) (by omega)]
theorem qjh {p:Int} (hp:zk p=true) {w:Nat} (hw:w≤1000) {P:List (Nat×List Int)} (h:Rref p w P) {c q:Nat} (hc:c < w) {O:List (List Int)} (hO:O.length≤1000) {R:List (List Int)}:∀ (d i:Nat) (v V:List Int),i+d=P.length→v.length=w→Z3 p c (P.drop i) v=V→
    Ev (fun k=>qm.l0 k p (w:Int) (P.map Prod.snd) (P.map fun x=>(x.1:Int)) (O++[V]) (q:Int) ((c+1:Nat):Int)) R→
    Ev (fun k=>qm.l1 k p (w:Int) (P.map Prod.snd) (P.map fun x=>(x.1:Int)) O (q:Int) (c:Int) v (i:Int)) R
  | 0,i,v,V,e,hv,hV,hend=>by
    rw[List.drop_eq_nil_of_le (by omega),Z3]at hV
    subst hV
    refine Ev.step (fun k=>by rw[qm.l1,if_neg (by rw[List.length_map];omega),if_pos (by omega),wsm (by omega) (by omega)]) ?_
    simpa using hend
  | d+1,i,v,V,e,hv,hV,hend=>by
    have hi:i < P.length:=by omega
    have hle:=qe2 h
    have hm:=List.getElem_mem hi
    have hlen:=(h.ok _ hm).1
    have hlt:=h.lt _ hm
    have hr:=Jb (h.ok _ hm) c hc
    rw[fn]at hr
    rw[List.drop_eq_getElem_cons hi,Z3]at hV
    refine Ev.step (fun k=>by rw[qm.l1,if_pos (by rw[List.length_map];omega),if_pos (by omega),if_pos (by rw[List.length_map];omega),if_pos (by omega),ql4 P i hi,if_pos (by omega),qgm P i hi,s_neg hp hr.1 hr.2]) ?_
    refine Ev.bind (a:=(-(rd (P[i]).2 (c:Int))) % p) (Ev.now _) (Ev.yes (by omega) (Ev.yes (by omega) ?_))
    have ih:=qjh hp hw h hc hO d (i+1) (v.set (P[i]).1 ((-(rd (P[i]).2 (c:Int))) % p)) V (by omega) (by rw[List.length_set];exact hv) hV hend
    rw[wsm (by omega) (by omega)]
    simpa using ih
theorem ql3 {P:List (Nat×List Int)} {c q:Nat} (h1:∀ j:Nat,∀ hj:j < P.length,j < q→(P[j]).1 < c) (h2:∀ j:Nat,∀ hj:j < P.length,q≤j→c < (P[j]).1):Qs P c=true:=qc6 (by
  rintro⟨z,hz,e⟩
  obtain⟨j,hj,rfl⟩:=List.mem_iff_getElem.1 hz
  rcases Nat.lt_or_ge j q with h | h
  · have:=h1 j hj h;omega
  · have:=h2 j hj h;omega)
theorem qds {p:Int} (hp:zk p=true) {w:Nat} (hw:w≤1000) {P:List (Nat×List Int)} (h:Rref p w P):∀ (d c q:Nat) (O:List (List Int)),c+d=w→q≤P.length→(∀ j:Nat,∀ hj:j < P.length,j < q→(P[j]).1 < c)→(∀ j:Nat,∀ hj:j < P.length,q≤j→c≤(P[j]).1)→O=(((List.range c).filter (Qs P)).map (Q7 p w P))→
    Ev (fun k=>qm.l0 k p (w:Int) (P.map Prod.snd) (P.map fun x=>(x.1:Int)) O (q:Int) (c:Int)) (redP p w 0 (Jx p w P) [])
  | 0,c,q,O,e,hq,h1,h2,hO=>by
    obtain rfl:c=w:=by omega
    have hb:=zn hp
    refine Ev.step (fun k=>by rw[qm.l0,if_neg (by omega)]) ?_
    have hlen:O.length < 1000000:=by
      rw[hO,List.length_map]
      have:=List.length_filter_le (Qs P) (List.range c)
      simp at this;omega
    have hok:=qby (p:=p) (by omega) h
    subst hO
    exact Ev.bind (qaz hp hw _ hok hlen) (Ev.now _)
  | d + 1, c, q, O, e, hq, h1, h2, hO => by
    have hle:=qe2 h
    have hOl:O.length≤1000:=by
      rw[hO,List.length_map]
      have:=List.length_filter_le (Qs P) (List.range c)
      simp at this;omega
    have hsucc:(List.range (c+1)).filter (Qs P)=(List.range c).filter (Qs P)++(if Qs P c=true then [c] else []):=by
      rw[List.range_succ,List.filter_append]
      congr 1
      cases hf:Qs P c<;>simp[hf]
    have hnot:(∀ j:Nat,∀ hj:j < P.length,q≤j→c < (P[j]).1)→Ev (fun k=>qm.j1 k p (w:Int) (P.map Prod.snd) (P.map fun x=>(x.1:Int)) O (q:Int) (c:Int) false) (redP p w 0 (Jx p w P) []):=fun h3=>by
      have hf:=ql3 h1 h3
      refine Ev.step (fun k=>by rw[qm.j1,if_neg (by simp)]) ?_
      refine(Ev.yes (by omega) (Ev.yes (by omega) (Ev.bind (a:=List.replicate w 0) (by simpa using Ev.now (List.replicate w (0:Int))) (Ev.yes (by omega) (Ev.yes (by simp;omega) ?_)))))
      have hend:=qds hp hw h d (c+1) q (O++[Q7 p w P c]) (by omega) hq (fun j hj hjq=>by have:=h1 j hj hjq;omega) (fun j hj hjq=>by have:=h3 j hj hjq;omega) (by rw[hsucc,hf,hO];simp)
      have:=qjh hp hw h (c:=c) (q:=q) (by omega) hOl (R:=redP p w 0 (Jx p w P) []) P.length 0 ((List.replicate w 0).set c 1) (Q7 p w P c) (by omega) (by simp) (by rw[List.drop_zero];rfl) hend
      simpa using this
    by_cases hql:q < P.length
    · refine Ev.step (fun k=>by rw[qm.l0,if_pos (by omega),if_pos (by rw[List.length_map];omega),if_pos (by omega),qgm P q hql]) ?_
      by_cases hh:(P[q]).1=c
      · rw[show (((P[q]).1:Int) == (c:Int))=true from by simp[hh]]
        have hf:Qs P c=false:=by
          cases hf:Qs P c with
          | false=>rfl
          | true=>exact absurd hh (qbf hf _ (List.getElem_mem hql))
        refine Ev.step (fun k=>by rw[qm.j1,if_pos rfl]) ?_
        rw[wsm (by omega) (by omega),wsm (by omega) (by omega)]
        refine qds hp hw h d (c+1) (q+1) O (by omega) (by omega) (fun j hj hjq=>?_) (fun j hj hjq=>?_) (by rw[hsucc,hf,hO];simp)
        · rcases Nat.lt_succ_iff_lt_or_eq.1 hjq with h3 | h3
          · have:=h1 j hj h3;omega
          · subst h3;omega
        · have hlt:q < j:=by omega
          have:=(List.pairwise_iff_getElem.1 h.inc) q j hql hj hlt
          omega
      · rw[show (((P[q]).1:Int) == (c:Int))=false from by simp;omega]
        refine hnot fun j hj hjq=>?_
        have hq2:=h2 q hql (Nat.le_refl _)
        rcases Nat.lt_or_ge q j with h3 | h3
        · have:=(List.pairwise_iff_getElem.1 h.inc) q j hql hj h3
          omega
        · obtain rfl:j=q:=by omega
          omega
    · refine Ev.step (fun k=>by rw[qm.l0,if_pos (by omega),if_neg (by rw[List.length_map];omega)]) ?_
      exact hnot fun j hj hjq=>by omega
theorem qdx {p:Int} (hp:zk p=true) {w:Nat} (hw:w≤1000) (L:List (List Int)) (hl:L.length < 1000000) (hL:okR p w L):Ev (fun k=>qm.f k p L (w:Int)) (Zq p w L):=by
  obtain⟨e1,e2,hP,_,_⟩:=qbs hp hL
  unfold qm.f
  refine Ev.bind (qaz hp hw L hL hl) ?_
  rw[e1,e2]
  have h:=qds (p:=p) hp hw hP w 0 0 [] (by omega) (by omega) (fun j hj hjq=>absurd hjq (by omega)) (fun j hj _=>by omega) (by simp)
  simpa [Zq] using h
end Go.Proofs.Ytmgbpmihbljngaa.PA
namespace Go.Proofs.Ytmgbpmihbljngaa.PA
open Go.RowKit Go.Proofs.YtmgbpmihbljngaaW.PrintWords Go.Proofs.YtmgbpmihbljngaaW.PrintLast Go.Proofs.YtmgbpmihbljngaaW.PrintMore
set_option linter.unusedVariables false
set_option linter.unusedSimpArgs false
def sqR (p:Int) (t:Int×Int×Int):List Int:=[t.1*t.1 % p,t.1*t.2.1 % p,t.1*t.2.2 % p,t.2.1*t.2.1 % p,t.2.1*t.2.2 % p,t.2.2*t.2.2 % p]
theorem qny {p:Int} (hp:zk p=true) (t:Int×Int×Int):(sqR p t).length=6∧∀ x∈sqR p t,0≤x∧x < p:=by
  have hb:=zn hp
  have hm:∀ y:Int,0≤y % p∧y % p < p:=fun y=>⟨Int.emod_nonneg _ (by omega),Int.emod_lt_of_pos _ (by omega)⟩
  refine⟨rfl,fun x hx=>?_⟩
  simp only[sqR,List.mem_cons,List.not_mem_nil,or_false]at hx
  rcases hx with rfl | rfl | rfl | rfl | rfl | rfl<;>exact hm _
theorem sq_ok {p:Int} (hp:zk p=true) (Q:List (Int×Int×Int)):okR p 6 (Q.map (sqR p)):=fun r hr=>by
  obtain⟨t,_,rfl⟩:=List.mem_map.1 hr
  exact qny hp t
theorem qdb {p:Int} (hp:7≤p∧p≤31) (a:Int×Int×Int) (ha:inP p a):jt.f p a.1 a.2.1 a.2.2=some (sqR p a):=by
  obtain⟨a0,a1,a2⟩:=ha
  have m:∀ {x y:Int},(0≤x∧x < p)→(0≤y∧y < p)→Int.tmod (wrap64 (x*y)) p=x*y % p:=fun hx hy=>by
    have:=Zy hp hx hy
    rw[wsm (by omega) (by omega),Int.tmod_eq_emod_of_nonneg this.1]
  unfold jt.f
  rw[if_neg (by omega),m a0 a0,m a0 a1,m a0 a2,m a1 a1,m a1 a2,m a2 a2]
  rfl
theorem qd7 {p:Int} (hp:zk p=true) (l:List S43) (hl:l.length≤1000) (hin:∀ j,j < l.length→inP p ((tps l).getD j (0,0,0))):Ev (fun k=>z9.f k p l) (Zq p 6 ((tps l).map (sqR p))):=by
  have hb:=zn hp
  have hlen:(tps l).length=l.length:=by simp[tps]
  have h0:∀ (d i:Nat) (acc:List (List Int)),i+d=l.length→acc=((tps l).take i).map (sqR p)→Ev (fun q=>z9.l0 q p l acc (i:Int)) (Zq p 6 ((tps l).map (sqR p))):=by
    intro d
    induction d with
    | zero=>
      intro i acc hi ha
      refine Ev.step (fun q=>by rw[z9.l0,if_neg (by omega)]) ?_
      rw[List.take_of_length_le (by omega)]at ha
      subst ha
      have:=qdx hp (w:=6) (by omega) _ (by rw[List.length_map];omega) (sq_ok hp (tps l))
      exact Ev.bind this (Ev.now _)
    | succ d ih=>
      intro i acc hi ha
      have hil:i < l.length:=by omega
      have e:jt.f p (q4 l (i:Int)).f0.f0 (q4 l (i:Int)).f0.f1 (q4 l (i:Int)).f0.f2=some (sqR p ((tps l).getD i (0,0,0))):=by
        have:=qdb (p:=p) ⟨by omega,by omega⟩ _ (hin i hil)
        rw[← qbi l i hil]at this ⊢
        exact this
      have hal:acc.length≤1000:=by rw[ha,List.length_map,List.length_take];omega
      refine Ev.step (fun q=>by rw[z9.l0,if_pos (by omega),if_pos (by omega),e,Option.bind_some,if_pos (by omega),wsm (by omega) (by omega)]) ?_
      refine ih (i+1) _ (by omega) ?_
      rw[ha,List.take_add_one,List.map_append,List.getD_eq_getElem?_getD,List.getElem?_eq_getElem (by omega)]
      rfl
  unfold z9.f
  exact h0 l.length 0 [] (by omega) (by simp)
def genB (p:Int) (Q:List (Int×Int×Int)):Bool:=decide (Q.length=6) && qbl p Q && (Zq p 6 (Q.map (sqR p))).isEmpty
theorem Q3 {p:Int} {Q:List (Int×Int×Int)} (h:genB p Q=true):zk p=true∧Q.length=6∧qbl p Q=true∧Zq p 6 (Q.map (sqR p))=[]:=by
  rw[genB,Bool.and_eq_true,Bool.and_eq_true,decide_eq_true_iff]at h
  obtain⟨⟨h1,h2⟩,h3⟩:=h
  refine⟨?_,h1,h2,by simpa using h3⟩
  cases hp:zk p with
  | true=>rfl
  | false=>rw[qgo hp Q (by omega)]at h2;exact absurd h2 (by simp)
theorem Jo (p:Int) (l:List S43):Ev (fun k=>zm.f k p l) (genB p (tps l)):=by
  have hlen:(tps l).length=l.length:=by simp[tps]
  unfold zm.f
  by_cases h6:l.length=6
  · refine Ev.yes (by omega) ?_
    rw[genB,hlen,decide_eq_true h6,Bool.true_and]
    cases hp:zk p with
    | false=>
      rw[qgo hp _ (by omega)]
      exact Ev.bind (qg7 hp l (by omega)) (Ev.no (by simp) (Ev.now _))
    | true=>
      refine Ev.bind (qko hp l (by omega)) ?_
      cases ha:qbl p (tps l) with
      | false=>exact Ev.no (by simp) (Ev.now _)
      | true=>
        refine Ev.yes rfl (Ev.bind (qd7 hp l (by omega) fun j hj=>qex ((qa2 ha).1 j (by omega))) ?_)
        have e:((((Zq p 6 ((tps l).map (sqR p))).length:Int)) == 0)=(true && (Zq p 6 ((tps l).map (sqR p))).isEmpty):=by
          cases Zq p 6 ((tps l).map (sqR p)) with
          | nil=>rfl
          | cons a t=>simp;omega
        rw[e]
        exact Ev.now _
  · refine Ev.no (by omega) ?_
    rw[genB,hlen,decide_eq_false h6]
    exact Ev.now _
end Go.Proofs.Ytmgbpmihbljngaa.PA
namespace Go.Proofs.Ytmgbpmihbljngaa.PA
open Go.RowKit Go.Proofs.YtmgbpmihbljngaaW.PrintWords Go.Proofs.YtmgbpmihbljngaaW.PrintLast Go.Proofs.YtmgbpmihbljngaaW.PrintMore
set_option linter.unusedVariables false
set_option linter.unusedSimpArgs false
theorem qje (b:List Int) (hb:J4 b) (p:Int) (hp:5≤p∧p≤31) (o:List S43) (ho:o.length=4):∀ (d i:Nat) (s:Int),i+d=12→0≤s→s+4*d≤800000→∃ q l s',Ev (fun k=>z7.l0 k p o (i:Int) b s) (q,l,s')∧q=p∧l.length=6∧s≤s'∧s'≤s+4*d+20
  | 0,i,s,hi,h0,h1=>by
    obtain⟨x,y,z,s1,e1,g1,g2⟩:=qd3 b hb p s (by omega) h0 (by omega)
    obtain⟨x2,y2,z2,s2,e2,g3,g4⟩:=qd3 b hb p s1 (by omega) (by omega) (by omega)
    refine⟨p,o++[⟨⟨x,y,z⟩⟩,⟨⟨x2,y2,z2⟩⟩],s2,Ev.step (fun k=>by rw[z7.l0,if_neg (by omega)]) (Ev.bind e1 (Ev.bind e2 (Ev.bind (Ev.now _) ?_))),rfl,by simp[ho],by omega,by omega⟩
    exact Ev.yes (by simp[ho]) (Ev.now _)
  | d + 1, i, s, hi, h0, h1 => by
    have hw:wrap64 (p - 2)=p - 2:=wsm (by omega) (by omega)
    obtain⟨a1,k1,_,_⟩:=Q0 b hb s (p - 2) h0 (by omega)
    obtain⟨a2,k2,_,_⟩:=Q0 b hb (s+1) (p - 2) (by omega) (by omega)
    obtain⟨a3,k3,_,_⟩:=Q0 b hb (s+1+1) (p - 2) (by omega) (by omega)
    obtain⟨a4,k4,_,_⟩:=Q0 b hb (s+1+1+1) (p - 2) (by omega) (by omega)
    obtain⟨l,hl⟩:∃ l:List S43,l=([]++o)++[⟨⟨1,wrap64 (2+a1),wrap64 (2+a2)⟩⟩,⟨⟨1,wrap64 (2+a3),wrap64 (2+a4)⟩⟩]:=⟨_,rfl⟩
    cases hg:genB p (tps l) with
    | true=>
      refine⟨p,l,s+1+1+1+1,Ev.step (fun k=>by rw[z7.l0,if_pos (by omega),hw]) (Ev.bind k1 (Ev.bind k2 (Ev.bind k3 (Ev.bind k4 (Ev.bind (Ev.now _) ?_))))),rfl,by rw[hl];simp[ho],by omega,by omega⟩
      refine Ev.yes (by simp[ho]) (Ev.bind (Ev.now _) (Ev.bind (Ev.now _) ?_))
      refine Ev.yes (by simp[ho]) (Ev.bind (Ev.now _) (Ev.bind (Jo p _) ?_))
      rw[← hl,hg]
      exact Ev.yes rfl (Ev.now _)
    | false=>
      obtain⟨q,m,s',he,hq,hm,g1,g2⟩:=qje b hb p hp o ho d (i+1) (s+1+1+1+1) (by omega) (by omega) (by omega)
      refine⟨q,m,s',Ev.step (fun k=>by rw[z7.l0,if_pos (by omega),hw]) (Ev.bind k1 (Ev.bind k2 (Ev.bind k3 (Ev.bind k4 (Ev.bind (Ev.now _) ?_))))),hq,hm,by omega,by omega⟩
      refine Ev.yes (by simp[ho]) (Ev.bind (Ev.now _) (Ev.bind (Ev.now _) ?_))
      refine Ev.yes (by simp[ho]) (Ev.bind (Ev.now _) (Ev.bind (Jo p _) ?_))
      rw[← hl,hg]
      refine Ev.no (by simp) ?_
      rw[wsm (by omega) (by omega)]
      exact he
theorem qmn (b:List Int) (hb:J4 b) (s:Int) (h0:0≤s) (h1:s≤700000):∃ p l s',Ev (fun k=>z7.f k b s) (p,l,s')∧l.length=6∧s≤s'∧s'≤s+100∧5≤p∧p≤31:=by
  obtain⟨v,hv,hc⟩:=qjp b hb s h0 (by omega)
  obtain⟨q,m,s',he,hq,hm,g1,g2⟩:=qje b hb v (by omega) [⟨⟨1,0,0⟩⟩,⟨⟨0,1,0⟩⟩,⟨⟨0,0,1⟩⟩,⟨⟨1,1,1⟩⟩] rfl 12 0 (s+1) (by omega) (by omega) (by omega)
  unfold z7.f
  exact⟨q,m,s',Ev.bind hv he,hm,by omega,by omega,by omega,by omega⟩
end Go.Proofs.Ytmgbpmihbljngaa.PA
namespace Go.Proofs.Ytmgbpmihbljngaa.PA
open Go.RowKit Go.Proofs.YtmgbpmihbljngaaW.PrintWords Go.Proofs.YtmgbpmihbljngaaW.PrintLast Go.Proofs.YtmgbpmihbljngaaW.PrintMore
set_option linter.unusedVariables false
set_option linter.unusedSimpArgs false
abbrev Fq (n:Nat):=Fin (n+1)
def sm {n:Nat}:Nat→(Nat→Fq n)→Fq n
  | 0,_=>0
  | m+1,f=>sm m f+f m
theorem Zc {n:Nat} {f g:Nat→Fq n}:∀ (m:Nat),(∀ i,i < m→f i=g i)→sm m f=sm m g
  | 0,_=>rfl
  | m+1,h=>by rw[sm,sm,Zc m (fun i hi=>h i (by omega)),h m (by omega)]
theorem qg9 {n:Nat} (f g:Nat→Fq n):∀ m,sm m (fun i=>f i+g i)=sm m f+sm m g
  | 0=>by simp[sm]
  | m+1=>by rw[sm,sm,sm,qg9 f g m];grind
theorem qfk {n:Nat} (c:Fq n) (f:Nat→Fq n):∀ m,sm m (fun i=>c*f i)=c*sm m f
  | 0=>by rw[sm,sm];grind
  | m+1=>by rw[sm,sm,qfk c f m];grind
theorem qes {n:Nat} {f:Nat→Fq n}:∀ m,(∀ i,i < m→f i=0)→sm m f=0
  | 0,_=>rfl
  | m+1,h=>by rw[sm,qes m (fun i hi=>h i (by omega)),h m (by omega)];grind
theorem qbx {n:Nat} (f:Nat→Fq n) (a:Nat):∀ b,sm (a+b) f=sm a f+sm b (fun i=>f (a+i))
  | 0=>by simp[sm]
  | b+1=>by rw[← Nat.add_assoc,sm,sm,qbx f a b];grind
theorem qok {n:Nat} (f:Nat→Fq n) (m:Nat):sm (m+1) f=f 0+sm m (fun i=>f (i+1)):=by
  rw[Nat.add_comm,qbx f 1 m]
  simp only[sm,Nat.add_comm 1]
  grind
theorem qog {n:Nat}:∀ (m:Nat) (f:Nat→Fq n),sm m f=sm m (fun i=>f (m - 1 - i))
  | 0,_=>rfl
  | m+1,f=>by
    rw[qok (fun i=>f (m+1 - 1 - i)) m,sm,qog m f]
    have:sm m (fun i=>f (m - 1 - i))=sm m (fun i=>f (m+1 - 1 - (i+1))):=Zc m fun i hi=>by congr 1;omega
    rw[this]
    simp only[Nat.add_sub_cancel,Nat.sub_zero]
    grind
theorem qnp {n:Nat} (a:Nat→Nat→Fq n):∀ m,sm m (fun i=>sm (i+1) (fun j=>a j (i - j)))=sm m (fun j=>sm (m - j) (fun k=>a j k))
  | 0=>rfl
  | m + 1 => by
    have e0:sm (m+1) (fun i=>sm (i+1) (fun j=>a j (i - j)))=sm m (fun i=>sm (i+1) (fun j=>a j (i - j)))+sm (m+1) (fun j=>a j (m - j)):=rfl
    have e1:sm (m+1) (fun j=>sm (m+1 - j) (fun k=>a j k))=sm m (fun j=>sm (m+1 - j) (fun k=>a j k))+sm (m+1 - m) (fun k=>a m k):=rfl
    have e2:sm (m+1) (fun j=>a j (m - j))=sm m (fun j=>a j (m - j))+a m (m - m):=rfl
    rw[e0,e1,e2,qnp a m]
    have e:sm m (fun j=>sm (m+1 - j) (fun k=>a j k))=sm m (fun j=>sm (m - j) (fun k=>a j k))+sm m (fun j=>a j (m - j)):=by
      rw[← qg9]
      refine Zc m fun i hi=>?_
      rw[show m+1 - i=(m - i)+1 by omega,sm]
    rw[e,show m+1 - m=0+1 by omega,sm,sm,Nat.sub_self]
    grind
def mulP {n:Nat} (f g:Nat→Fq n) (r:Nat):Fq n:=sm (r+1) fun i=>f i*g (r - i)
theorem Zu {n:Nat} (f g:Nat→Fq n):mulP f g=mulP g f:=by
  funext r
  rw[mulP,qog,mulP]
  refine Zc _ fun i hi=>?_
  rw[show r - (r+1 - 1 - i)=i by omega,show r+1 - 1 - i=r - i by omega]
  grind
theorem qbj {n:Nat} (f g h:Nat→Fq n):mulP (mulP f g) h=mulP f (mulP g h):=by
  funext r
  have e1:mulP (mulP f g) h r=sm (r+1) (fun i=>sm (i+1) (fun j=>f j*g (i - j)*h (r - j - (i - j)))):=by
    unfold mulP
    refine Zc _ fun i hi=>?_
    rw[show sm (i+1) (fun i_1=>f i_1*g (i - i_1))*h (r - i)=h (r - i)*sm (i+1) (fun i_1=>f i_1*g (i - i_1)) by grind,← qfk]
    refine Zc _ fun j hj=>?_
    rw[show r - j - (i - j)=r - i by omega]
    grind
  rw[e1,qnp (fun j k=>f j*g k*h (r - j - k)),mulP]
  refine Zc _ fun j hj=>?_
  rw[mulP,← qfk,show r+1 - j=r - j+1 by omega]
  refine Zc _ fun k hk=>?_
  grind
instance mulP_c {n:Nat}:Std.Commutative (α:=Nat→Fq n) mulP:=⟨Zu⟩
instance mulP_a {n:Nat}:Std.Associative (α:=Nat→Fq n) mulP:=⟨qbj⟩
def addP {n:Nat} (f g:Nat→Fq n) (r:Nat):Fq n:=f r+g r
def qdz {n:Nat} (c:Fq n) (f:Nat→Fq n) (r:Nat):Fq n:=c*f r
theorem qoo {n:Nat} (f g h:Nat→Fq n):mulP f (addP g h)=addP (mulP f g) (mulP f h):=by
  funext r
  show sm (r+1) _=sm (r+1) _ +sm (r+1) _
  rw[← qg9]
  exact Zc _ fun i _=>by show f i*(g (r - i)+h (r - i))=_;grind
theorem qmg {n:Nat} (c:Fq n) (f g:Nat→Fq n):mulP f (qdz c g)=qdz c (mulP f g):=by
  funext r
  show sm (r+1) _=c*sm (r+1) _
  rw[← qfk]
  exact Zc _ fun i _=>by show f i*(c*g (r - i))=_;grind
theorem qf1 {n:Nat} (f g h:Nat→Fq n):mulP (addP g h) f=addP (mulP g f) (mulP h f):=by rw[Zu,qoo,Zu f,Zu f]
theorem qce {n:Nat} (c:Fq n) (f g:Nat→Fq n):mulP (qdz c g) f=qdz c (mulP g f):=by rw[Zu,qmg,Zu f]
def tris :List (Nat×Nat×Nat):=[(0,0,0),(0,0,1),(0,0,2),(0,0,3),(0,1,1),(0,1,2),(0,1,3),(0,2,2),(0,2,3),(0,3,3),(1,1,1),(1,1,2),(1,1,3),(1,2,2),(1,2,3),(1,3,3),(2,2,2),(2,2,3),(2,3,3),(3,3,3)]
def tI (c:Nat):Nat:=(tris.getD c (0,0,0)).1
def tJ (c:Nat):Nat:=(tris.getD c (0,0,0)).2.1
def tK (c:Nat):Nat:=(tris.getD c (0,0,0)).2.2
def qax {n:Nat} (l m q:Nat→Fq n) (i j k:Nat):Fq n:=
  if i=j then if j=k then l i*m i*q i else l i*m i*q k+l i*m k*q i+l k*m i*q i
  else if j=k then l i*m j*q j+l j*m i*q j+l j*m j*q i
  else l i*m j*q k+l i*m k*q j+l j*m i*q k+l j*m k*q i+l k*m i*q j+l k*m j*q i
def cubC {n:Nat} (l m q:Nat→Fq n) (c:Nat):Fq n:=qax l m q (tI c) (tJ c) (tK c)
def lin4 {n:Nat} (l y:Nat→Fq n):Fq n:=l 0*y 0+l 1*y 1+l 2*y 2+l 3*y 3
theorem qk9 {n:Nat} (l m q:Nat→Fq n) (t:Nat→Nat→Nat→Fq n) (s1:∀ i j k,t i j k=t j i k) (s2:∀ i j k,t i j k=t i k j):
    sm 20 (fun c=>cubC l m q c*t (tI c) (tJ c) (tK c))=lin4 l fun i=>lin4 m fun j=>lin4 q fun k=>t i j k:=by
  simp only[sm,cubC,qax,tI,tJ,tK,tris,lin4,List.getD_cons_zero,List.getD_cons_succ,s1 1 0,s1 2 0,s1 3 0,s1 2 1,s1 3 1,s1 3 2,fun i=>s2 i 1 0,fun i=>s2 i 2 0,fun i=>s2 i 3 0,fun i=>s2 i 2 1,fun i=>s2 i 3 1,fun i=>s2 i 3 2]
  clear s1 s2
  simp only[if_false,if_true,Nat.reduceEqDiff,Nat.zero_ne_one,Nat.succ_ne_zero,Nat.reduceAdd]
  grind
theorem qc0 {n:Nat} (l:Nat→Fq n) (B:Nat→Nat→Fq n) (g:Nat→Fq n) (r:Nat):mulP (fun r=>lin4 l fun i=>B i r) g r=lin4 l fun i=>mulP (B i) g r:=by
  have e:(fun r=>lin4 l fun i=>B i r)=addP (addP (addP (qdz (l 0) (B 0)) (qdz (l 1) (B 1))) (qdz (l 2) (B 2))) (qdz (l 3) (B 3)):=rfl
  rw[e,qf1,qf1,qf1,qce,qce,qce,qce]
  rfl
theorem qgf {n:Nat} (l:Nat→Fq n) (B:Nat→Nat→Fq n) (g:Nat→Fq n) (r:Nat):mulP g (fun r=>lin4 l fun i=>B i r) r=lin4 l fun i=>mulP g (B i) r:=by
  rw[Zu,qc0]
  simp only[lin4,Zu g]
def proT {n:Nat} (B:Nat→Nat→Fq n) (c:Nat):Nat→Fq n:=mulP (mulP (B (tI c)) (B (tJ c))) (B (tK c))
theorem qjg {n:Nat} (l m q:Nat→Fq n) (B:Nat→Nat→Fq n) (r:Nat):sm 20 (fun c=>cubC l m q c*proT B c r)=mulP (mulP (fun r=>lin4 l fun i=>B i r) (fun r=>lin4 m fun i=>B i r)) (fun r=>lin4 q fun i=>B i r) r:=by
  have h:=qk9 l m q (fun i j k=>mulP (mulP (B i) (B j)) (B k) r) (fun i j k=>by rw[Zu (B i)]) (fun i j k=>by rw[qbj,Zu (B j),← qbj])
  unfold proT
  rw[h,qgf]
  have e:mulP (fun r=>lin4 l fun i=>B i r) (fun r=>lin4 m fun i=>B i r)=fun r=>lin4 l fun i=>lin4 m fun j=>mulP (B i) (B j) r:=by
    funext r
    rw[qc0]
    simp only[qgf]
  rw[e]
  simp only[qc0 l (fun i r=>lin4 m fun j=>mulP (B i) (B j) r),qc0 m]
  simp only[lin4]
  grind
theorem qlf {n:Nat} (l m q y:Nat→Fq n):sm 20 (fun c=>cubC l m q c*(y (tI c)*y (tJ c)*y (tK c)))=lin4 l y*lin4 m y*lin4 q y:=by
  rw[qk9 l m q (fun i j k=>y i*y j*y k) (fun i j k=>by grind) (fun i j k=>by grind)]
  simp only[lin4]
  grind
def FldH (n:Nat):Prop:=∀ a:Fq n,a≠0→∃ b:Fq n,a*b=1
theorem fz {n:Nat} (hF:FldH n) {a b:Fq n} (h:a*b=0):a=0∨b=0:=by
  by_cases ha:a=0
  · exact .inl ha
  · obtain⟨c,hc⟩:=hF a ha
    right
    grind
theorem fnz {n:Nat} (hF:FldH n) {a b:Fq n} (ha:a≠0) (hb:b≠0):a*b≠0:=fun h=>(fz hF h).elim ha hb
def ev3 {n:Nat} (a P:Nat→Fq n):Fq n:=a 0*P 0+a 1*P 1+a 2*P 2
def Ze {n:Nat} (P Q:Nat→Fq n):Nat→Fq n
  | 0=>P 1*Q 2 - P 2*Q 1
  | 1=>P 2*Q 0 - P 0*Q 2
  | 2=>P 0*Q 1 - P 1*Q 0
  | _=>0
def valC {n:Nat} (v P:Nat→Fq n):Fq n:=v 0*(P 0*P 0*P 0)+v 1*(P 0*P 0*P 1)+v 2*(P 0*P 0*P 2)+v 3*(P 0*P 1*P 1)+v 4*(P 0*P 1*P 2)+v 5*(P 0*P 2*P 2)+v 6*(P 1*P 1*P 1)+v 7*(P 1*P 1*P 2)+v 8*(P 1*P 2*P 2)+v 9*(P 2*P 2*P 2)
def cub3 {n:Nat} (a b c:Nat→Fq n):Nat→Fq n
  | 0=>qax a b c 0 0 0
  | 1=>qax a b c 0 0 1
  | 2=>qax a b c 0 0 2
  | 3=>qax a b c 0 1 1
  | 4=>qax a b c 0 1 2
  | 5=>qax a b c 0 2 2
  | 6=>qax a b c 1 1 1
  | 7=>qax a b c 1 1 2
  | 8=>qax a b c 1 2 2
  | 9=>qax a b c 2 2 2
  | _=>0
theorem qoe {n:Nat} (a b c P:Nat→Fq n):valC (cub3 a b c) P=ev3 a P*ev3 b P*ev3 c P:=by
  simp only[valC,cub3,qax,ev3,if_true,if_false,Nat.zero_ne_one,Nat.reduceEqDiff]
  grind
def sprd {n:Nat} (v:Nat→Fq n):Nat→Fq n
  | 30=>v 0
  | 21=>v 1
  | 20=>v 2
  | 12=>v 3
  | 11=>v 4
  | 10=>v 5
  | 3=>v 6
  | 2=>v 7
  | 1=>v 8
  | 0=>v 9
  | _=>0
def linP {n:Nat} (a:Nat→Fq n):Nat→Fq n
  | 10=>a 0
  | 1=>a 1
  | 0=>a 2
  | _=>0
theorem qps {n:Nat} {f:Nat→Fq n} {a:Nat} (h:∀ i,a≤i→f i=0) (b:Nat) (hb:a≤b):sm b f=sm a f:=by
  obtain⟨c,rfl⟩:=Nat.exists_eq_add_of_le hb
  rw[qbx,qes (f:=fun i=>f (a+i)) c fun i _=>h _ (by omega)]
  grind
theorem qjd {n:Nat} (a:Nat→Fq n):∀ r,11≤r→linP a r=0
  | _ +11,_=>rfl
theorem qen {n:Nat} (a g:Nat→Fq n) (r:Nat):mulP (linP a) g r=a 2*g r+(if 1≤r then a 1*g (r - 1) else 0)+(if 10≤r then a 0*g (r - 10) else 0):=by
  unfold mulP
  by_cases h:10≤r
  · rw[qps (a:=11) (fun i hi=>by rw[qjd a i hi];grind) (r+1) (by omega),if_pos h,if_pos (by omega)]
    simp only[sm,linP,Nat.sub_zero]
    grind
  · rw[if_neg h]
    by_cases h1:1≤r
    · rw[if_pos h1]
      obtain⟨q,rfl⟩:=Nat.exists_eq_add_of_le h1
      rw[show 1+q+1=2+q by omega,qbx,qes (m:=q)]
      · simp only[sm,linP,Nat.sub_zero]
        grind
      · intro i hi
        have:linP a (2+i)=0:=by
          have:2+i < 10:=by omega
          rcases (show i=0∨i=1∨i=2∨i=3∨i=4∨i=5∨i=6∨i=7 by omega) with rfl | rfl | rfl | rfl | rfl | rfl | rfl | rfl<;>rfl
        rw[this];grind
    · rw[if_neg h1]
      obtain rfl:r=0:=by omega
      simp only[sm,linP,Nat.sub_zero]
      grind
theorem ql6 {n:Nat} (a b c:Nat→Fq n):sprd (cub3 a b c)=mulP (mulP (linP a) (linP b)) (linP c):=by
  funext r
  rw[qbj,qen,qen,qen,qen]
  match r with
  | 0 | 1 | 2 | 3 | 4 | 5 | 6 | 7 | 8 | 9 | 10 | 11 | 12 | 13 | 14 | 15 | 16 | 17 | 18 | 19 | 20 | 21 | 22 | 23 | 24 | 25 | 26 | 27 | 28 | 29 | 30=>
    simp[sprd,cub3,qax,linP]
    try grind
  | r+31=>
    have h:∀ k,11≤k→linP c k=0:=qjd c
    rw[h,h,h,h,h,h,h]<;>try omega
    show (0:Fq n)=_
    grind
theorem qoz {n:Nat} (hF:FldH n) (h1:(1:Fq n)≠0) (h2:(2:Fq n)≠0) (h3:(3:Fq n)≠0) {a b c d:Fq n} (hb:b≠0) (hd:d≠0):∃ s:Fq n,s≠0∧a+s*b≠0∧c+s*d≠0:=by
  have two:∀ s t:Fq n,t - s≠0→∀ {a b:Fq n},b≠0→a+s*b=0→a+t*b=0→False:=fun s t hst a b hb e1 e2=>fnz hF hst hb (by grind)
  by_cases a1:a+1*b=0
  · have b2:a+2*b≠0:=fun e=>two 1 2 (by grind) hb a1 e
    have b3:a+3*b≠0:=fun e=>two 1 3 (by grind) hb a1 e
    by_cases c2:c+2*d=0
    · exact⟨3,h3,b3,fun e=>two 2 3 (by grind) hd c2 e⟩
    · exact⟨2,h2,b2,c2⟩
  · by_cases c1:c+1*d=0
    · have d2:c+2*d≠0:=fun e=>two 1 2 (by grind) hd c1 e
      have d3:c+3*d≠0:=fun e=>two 1 3 (by grind) hd c1 e
      by_cases a2:a+2*b=0
      · exact⟨3,h3,fun e=>two 2 3 (by grind) hb a2 e,d3⟩
      · exact⟨2,h2,a2,d2⟩
    · exact⟨1,h1,a1,c1⟩
theorem avoid1 {n:Nat} (h1:(1:Fq n)≠0) (h2:(2:Fq n)≠0) {a b:Fq n} (ha:a≠0):∃ s:Fq n,s≠0∧a+s*b≠0:=by
  by_cases e:a+1*b=0
  · refine⟨2,h2,fun e2=>?_⟩
    grind
  · exact⟨1,h1,e⟩
def onPt {n:Nat} (P Q:Nat→Fq n) (s:Fq n) (i:Nat):Fq n:=P i+s*Q i
theorem qag {n:Nat} (a P Q:Nat→Fq n) (s:Fq n):ev3 a (onPt P Q s)=ev3 a P+s*ev3 a Q:=by simp only[ev3,onPt];grind
theorem Jf {n:Nat} (P Q:Nat→Fq n):ev3 (Ze P Q) P=0:=by simp only[ev3,Ze];grind
theorem Jq {n:Nat} (P Q:Nat→Fq n):ev3 (Ze P Q) Q=0:=by simp only[ev3,Ze];grind
theorem qi9 {n:Nat} {v:Nat→Fq n} {l:Nat→Fq n} {B:Nat→Nat→Fq n} (h:∀ j,j < 10→v j=lin4 l fun i=>B i j) (P:Nat→Fq n):valC v P=lin4 l fun i=>valC (B i) P:=by
  simp only[valC,h 0 (by omega),h 1 (by omega),h 2 (by omega),h 3 (by omega),h 4 (by omega),h 5 (by omega),h 6 (by omega),h 7 (by omega),h 8 (by omega),h 9 (by omega),lin4]
  grind
theorem qan {n:Nat} {v:Nat→Fq n} {l:Nat→Fq n} {B:Nat→Nat→Fq n} (h:∀ j,j < 10→v j=lin4 l fun i=>B i j):sprd v=fun r=>lin4 l fun i=>sprd (B i) r:=by
  funext r
  unfold sprd
  split<;>first | exact h _ (by omega) | (simp only[lin4];grind)
def gen3 {n:Nat} (P:Nat→Nat→Fq n):Prop:=∀ i j k,i < 6→j < 6→k < 6→i≠j→j≠k→i≠k→ev3 (Ze (P i) (P j)) (P k)≠0
def lin6 {n:Nat} (P:Nat→Nat→Fq n) (i j k l m q:Nat):Nat→Fq n:=cub3 (Ze (P i) (P j)) (Ze (P k) (P l)) (Ze (P m) (P q))
theorem Jl {n:Nat} (P:Nat→Nat→Fq n) (i j k l m q:Nat) (Q:Nat→Fq n):valC (lin6 P i j k l m q) Q=ev3 (Ze (P i) (P j)) Q*ev3 (Ze (P k) (P l)) Q*ev3 (Ze (P m) (P q)) Q:=qoe _ _ _ _
theorem qnh {n:Nat} (P:Nat→Nat→Fq n) (i j k l m q:Nat) (h:∀ x,x < 6→x=i∨x=j∨x=k∨x=l∨x=m∨x=q):∀ x,x < 6→valC (lin6 P i j k l m q) (P x)=0:=fun x hx=>by
  rw[Jl]
  rcases h x hx with rfl | rfl | rfl | rfl | rfl | rfl
  · rw[Jf];grind
  · rw[Jq];grind
  · rw[Jf];grind
  · rw[Jq];grind
  · rw[Jf];grind
  · rw[Jq];grind
theorem qnn {n:Nat} (hF:FldH n) (h1:(1:Fq n)≠0) (h2:(2:Fq n)≠0) (h3:(3:Fq n)≠0) (P:Nat→Nat→Fq n) (hG:gen3 P) (B:Nat→Nat→Fq n)
    (hB:∀ v:Nat→Fq n,(∀ x,x < 6→valC v (P x)=0)→∃ l:Nat→Fq n,∀ j,j < 10→v j=lin4 l fun i=>B i j):
    ∃ f:Nat→Fq n,(∃ c,c < 20∧f c≠0)∧∀ r,sm 20 (fun c=>f c*proT (fun i=>sprd (B i)) c r)=0:=by
  have S:=qnh P
  obtain⟨x1,hx1⟩:=hB _ (S 0 3 1 4 2 5 (by omega))
  obtain⟨x2,hx2⟩:=hB _ (S 0 4 1 5 2 3 (by omega))
  obtain⟨x3,hx3⟩:=hB _ (S 0 5 1 3 2 4 (by omega))
  obtain⟨y1,hy1⟩:=hB _ (S 0 3 1 5 2 4 (by omega))
  obtain⟨y2,hy2⟩:=hB _ (S 0 4 1 3 2 5 (by omega))
  obtain⟨y3,hy3⟩:=hB _ (S 0 5 1 4 2 3 (by omega))
  refine⟨fun c=>cubC x1 x2 x3 c - cubC y1 y2 y3 c,?_,fun r=>?_⟩
  · apply Classical.byContradiction
    intro hn
    have hz:∀ c,c < 20→cubC x1 x2 x3 c=cubC y1 y2 y3 c:=fun c hc=>by
      have:¬ (cubC x1 x2 x3 c - cubC y1 y2 y3 c≠0):=fun h=>hn ⟨c,hc,h⟩
      have:=Classical.not_not.1 this
      grind
    have hv:∀ y:Nat→Fq n,lin4 x1 y*lin4 x2 y*lin4 x3 y=lin4 y1 y*lin4 y2 y*lin4 y3 y:=fun y=>by
      rw[← qlf,← qlf]
      exact Zc _ fun c hc=>by rw[hz c hc]
    obtain⟨s,hs,s1,s2⟩:=qoz hF h1 h2 h3 (a:=ev3 (Ze (P 1) (P 4)) (P 0)) (c:=ev3 (Ze (P 2) (P 5)) (P 0)) (hG 1 4 3 (by omega) (by omega) (by omega) (by omega) (by omega) (by omega)) (hG 2 5 3 (by omega) (by omega) (by omega) (by omega) (by omega) (by omega))
    obtain⟨t,ht,t1,_⟩:=qoz hF h1 h2 h3 (a:=ev3 (Ze (P 0) (P 3)) (P 1)) (c:=1) (hG 0 3 4 (by omega) (by omega) (by omega) (by omega) (by omega) (by omega)) h1
    have a2:valC (lin6 P 0 4 1 3 2 5) (onPt (P 0) (P 3) s)≠0:=by
      rw[Jl,qag,qag,qag,Jf,Jq]
      refine fnz hF (fnz hF ?_ ?_) s2
      · have:=fnz hF hs (hG 0 4 3 (by omega) (by omega) (by omega) (by omega) (by omega) (by omega));grind
      · have:=hG 1 3 0 (by omega) (by omega) (by omega) (by omega) (by omega) (by omega);grind
    have a1:valC (lin6 P 0 3 1 5 2 4) (onPt (P 1) (P 4) t)≠0:=by
      rw[Jl,qag,qag,qag,Jf,Jq]
      refine fnz hF (fnz hF t1 ?_) ?_
      · have:=fnz hF ht (hG 1 5 4 (by omega) (by omega) (by omega) (by omega) (by omega) (by omega));grind
      · have:=hG 2 4 1 (by omega) (by omega) (by omega) (by omega) (by omega) (by omega);grind
    have a3:valC (lin6 P 0 5 1 4 2 3) (onPt (P 0) (P 3) s)≠0:=by
      rw[Jl,qag,qag,qag,Jf,Jq]
      refine fnz hF (fnz hF ?_ s1) ?_
      · have:=fnz hF hs (hG 0 5 3 (by omega) (by omega) (by omega) (by omega) (by omega) (by omega));grind
      · have:=hG 2 3 0 (by omega) (by omega) (by omega) (by omega) (by omega) (by omega);grind
    have b1:valC (lin6 P 0 3 1 5 2 4) (onPt (P 0) (P 3) s)=0:=by rw[Jl,qag,Jf,Jq];grind
    have b3:valC (lin6 P 0 5 1 4 2 3) (onPt (P 1) (P 4) t)=0:=by rw[Jl,qag,qag,qag,Jf (P 1),Jq (P 1)];grind
    have c1:valC (lin6 P 0 3 1 4 2 5) (onPt (P 0) (P 3) s)=0:=by rw[Jl,qag,Jf,Jq];grind
    have c2:valC (lin6 P 0 3 1 4 2 5) (onPt (P 1) (P 4) t)=0:=by rw[Jl,qag,qag,qag,Jf (P 1),Jq (P 1)];grind
    obtain⟨u,hu,hu2⟩:=avoid1 h1 h2 (b:=valC (lin6 P 0 4 1 3 2 5) (onPt (P 1) (P 4) t)) a2
    have hY:=hv fun i=>valC (B i) (onPt (P 0) (P 3) s)+u*valC (B i) (onPt (P 1) (P 4) t)
    have lin:∀ (v l:Nat→Fq n),(∀ j,j < 10→v j=lin4 l fun i=>B i j)→lin4 l (fun i=>valC (B i) (onPt (P 0) (P 3) s)+u*valC (B i) (onPt (P 1) (P 4) t))=valC v (onPt (P 0) (P 3) s)+u*valC v (onPt (P 1) (P 4) t):=fun v l h=>by
      rw[qi9 h,qi9 h]
      simp only[lin4]
      grind
    rw[lin _ _ hx1,lin _ _ hy1,lin _ _ hy2,lin _ _ hy3,c1,c2,b1,b3]at hY
    have e1:=fnz hF hu a1
    have:=fnz hF (fnz hF e1 hu2) a3
    grind
  · have e:sm 20 (fun c=>(cubC x1 x2 x3 c - cubC y1 y2 y3 c)*proT (fun i=>sprd (B i)) c r)=sm 20 (fun c=>cubC x1 x2 x3 c*proT (fun i=>sprd (B i)) c r)+(-1)*sm 20 (fun c=>cubC y1 y2 y3 c*proT (fun i=>sprd (B i)) c r):=by
      rw[← qfk,← qg9]
      exact Zc _ fun c _=>by grind
    rw[e,qjg,qjg,← qan hx1,← qan hx2,← qan hx3,← qan hy1,← qan hy2,← qan hy3]
    unfold lin6
    simp only[ql6]
    have:∀ a b c d e f g h i:Nat→Fq n,mulP (mulP (mulP (mulP a b) c) (mulP (mulP d e) f)) (mulP (mulP g h) i)=mulP (mulP (mulP (mulP a e) i) (mulP (mulP d h) c)) (mulP (mulP g b) f):=fun a b c d e f g h i=>by ac_rfl
    rw[this]
    grind
def fi (n:Nat) (x:Int):Fq n:=⟨(x % ((n:Int)+1)).toNat,by have:=Int.emod_lt_of_pos x (show (0:Int) < (n:Int)+1 by omega);have:=Int.emod_nonneg x (show (n:Int)+1≠0 by omega);omega⟩
theorem qa5 (n:Nat) (x:Int):(((fi n x).val:Nat):Int)=x % ((n:Int)+1):=by
  have:=Int.emod_nonneg x (show (n:Int)+1≠0 by omega)
  show (((x % ((n:Int)+1)).toNat:Nat):Int)=_
  omega
theorem qf2 {n:Nat} {a b:Fq n} (h:((a.val:Nat):Int)=(b.val:Nat)):a=b:=Fin.ext (by omega)
theorem qb4 (n:Nat) (x y:Int):fi n (x+y)=fi n x+fi n y:=by
  apply qf2
  rw[Fin.val_add,Int.natCast_emod,Int.natCast_add,qa5,qa5,qa5,Int.natCast_add,Int.natCast_one,← Int.add_emod]
theorem qdv (n:Nat) (x y:Int):fi n (x*y)=fi n x*fi n y:=by
  apply qf2
  rw[Fin.val_mul,Int.natCast_emod,Int.natCast_mul,qa5,qa5,qa5,Int.natCast_add,Int.natCast_one,← Int.mul_emod]
theorem qbt (n:Nat) (x:Int):fi n x=0↔((n:Int)+1) ∣ x:=by
  rw[Int.dvd_iff_emod_eq_zero,← qa5]
  constructor
  · intro h;rw[h];rfl
  · intro h;exact qf2 (by rw[h];rfl)
theorem qc9 (n:Nat):fi n 0=0:=(qbt n 0).2 ⟨0,by omega⟩
theorem fi_neg (n:Nat) (x:Int):fi n (-x)=- fi n x:=by
  have:=qb4 n x (-x)
  rw[show x+-x=0 by omega,qc9]at this
  grind
theorem qo7 (n:Nat) (x y:Int):fi n (x - y)=fi n x - fi n y:=by
  rw[Int.sub_eq_add_neg,qb4,fi_neg]
  grind
theorem fi_eq (n:Nat) (x y:Int):fi n x=fi n y↔((n:Int)+1) ∣ x - y:=by
  rw[← qbt,qo7]
  constructor<;>intro h<;>grind
theorem fi_mod (n:Nat) (x:Int):fi n (x % ((n:Int)+1))=fi n x:=by
  rw[fi_eq]
  exact⟨-(x / ((n:Int)+1)),by have:=Int.mul_ediv_add_emod x ((n:Int)+1);grind⟩
theorem qar (n:Nat) (a:Fq n):fi n (a.val:Nat)=a:=qf2 (by rw[qa5,Int.emod_eq_of_lt (by omega) (by have:=a.isLt;omega)])
end Go.Proofs.Ytmgbpmihbljngaa.PA
namespace Go.Proofs.Ytmgbpmihbljngaa.PA
open Go.RowKit Go.Proofs.YtmgbpmihbljngaaW.PrintWords Go.Proofs.YtmgbpmihbljngaaW.PrintLast Go.Proofs.YtmgbpmihbljngaaW.PrintMore
set_option linter.unusedVariables false
set_option linter.unusedSimpArgs false
def nn (p:Int):Nat:=p.toNat - 1
theorem nn_p {p:Int} (hp:zk p=true):((nn p:Nat):Int)+1=p:=by have:=zn hp;unfold nn;omega
theorem qcc {p:Int} (hp:zk p=true) (x:Int):fi (nn p) x=0↔p ∣ x:=by rw[qbt,nn_p hp]
theorem fp_eq {p:Int} (hp:zk p=true) (x y:Int):fi (nn p) x=fi (nn p) y↔p ∣ x - y:=by rw[fi_eq,nn_p hp]
theorem qka {p:Int} (hp:zk p=true) (x:Int):fi (nn p) (x % p)=fi (nn p) x:=by
  have:=fi_mod (nn p) x
  rwa [nn_p hp]at this
theorem fi_one (n:Nat):fi (n+1) 1=1:=by
  apply qf2
  rw[qa5,Int.emod_eq_of_lt (by omega) (by omega)]
  rfl
theorem qfi {p:Int} (hp:zk p=true):fi (nn p) 1=1:=by
  have:=zn hp
  obtain⟨m,hm⟩:∃ m,nn p=m+1:=⟨nn p - 1,by unfold nn;omega⟩
  rw[hm];exact fi_one m
theorem qkm {p:Int} (hp:zk p=true):FldH (nn p):=fun a ha=>by
  have hb:=zn hp
  have hlt:((a.val:Nat):Int) < p:=by have:=a.isLt;have:=nn_p hp;omega
  have hne:((a.val:Nat):Int)≠0:=fun e=>ha (Fin.ext (by show a.val=0;omega))
  obtain⟨_,_,_,h,_⟩:=Zr hp (x:=((a.val:Nat):Int)) (by omega) hlt
  refine⟨fi (nn p) (invP p ((a.val:Nat):Int)),?_⟩
  have e:a=fi (nn p) ((a.val:Nat):Int):=(qar _ a).symm
  rw[e,← qdv,qar,← qka hp,h hne,qfi hp]
theorem qfd {p:Int} (hp:zk p=true) {x:Int} (h0:0 < x) (h1:x < 7):fi (nn p) x≠0:=fun h=>by
  have hb:=zn hp
  have:=Int.le_of_dvd h0 ((qcc hp x).1 h)
  omega
theorem fp_1 {p:Int} (hp:zk p=true):(1:Fq (nn p))≠0:=by rw[← qfi hp];exact qfd hp (by omega) (by omega)
theorem qn6 {p:Int} (hp:zk p=true):fi (nn p) 2=2:=by rw[show (2:Int)=1+1 from rfl,qb4,qfi hp];grind
theorem qnl {p:Int} (hp:zk p=true):fi (nn p) 3=3:=by rw[show (3:Int)=2+1 from rfl,qb4,qfi hp,qn6 hp];grind
theorem fp_2 {p:Int} (hp:zk p=true):(2:Fq (nn p))≠0:=by rw[← qn6 hp];exact qfd hp (by omega) (by omega)
theorem fp_3 {p:Int} (hp:zk p=true):(3:Fq (nn p))≠0:=by rw[← qnl hp];exact qfd hp (by omega) (by omega)
end Go.Proofs.Ytmgbpmihbljngaa.PA
namespace Go.Proofs.Ytmgbpmihbljngaa.PA
open Go.RowKit Go.Proofs.YtmgbpmihbljngaaW.PrintWords Go.Proofs.YtmgbpmihbljngaaW.PrintLast Go.Proofs.YtmgbpmihbljngaaW.PrintMore
set_option linter.unusedVariables false
set_option linter.unusedSimpArgs false
theorem Z6 {p:Int} (hp:zk p=true) {w:Nat} {L:List (List Int)} (hL:okR p w L):
    ∃ N:List (Nat×List Int),Zq p w L=N.map Prod.snd∧Rref p w N∧(∀ x∈N,∀ r∈L,p ∣ dt w (fn r) (fn x.2))∧∀ v:Nat→Int,(∀ r∈L,p ∣ dt w (fn r) v)→Sp p w (N.map Prod.snd) v:=by
  have hb:=zn hp
  obtain⟨e1,_,hP,h1,h2⟩:=qbs hp hL
  obtain⟨N,e3,_,hN,h4,h5⟩:=Zs hp (qby (by omega) hP)
  have hcomm:∀ u v:Nat→Int,dt w u v=dt w v u:=fun u v=>by
    rw[dt,dt];congr 1;exact List.map_congr_left fun j _=>Int.mul_comm _ _
  refine⟨N,e3,hN,fun x hx r hr=>?_,fun v hv=>?_⟩
  · refine qns (L:=(qat p w L).map Prod.snd) (fun s hs=>?_) (h1 r hr)
    obtain⟨z,hz,rfl⟩:=List.mem_map.1 hs
    rw[hcomm]
    refine qns (L:=Jx p w (qat p w L)) (fun q hq=>?_) (h5 x hx)
    rw[hcomm]
    exact qkh hP hz hq
  · exact Sp.sub h4 (qf9 hP fun x hx=>qns hv (h2 x hx))
theorem qjr {p:Int} (hp:zk p=true) {w:Nat} {L:List (List Int)} (hL:okR p w L) (hr:Z5 p w L < w):Zq p w L≠[]:=by
  have hb:=zn hp
  obtain⟨e1,_,hP,h1,h2⟩:=qbs hp hL
  rw[Z5,e1,List.length_map]at hr
  obtain⟨c,hc,hf⟩:=qjn hP hr
  obtain⟨N,e3,_,hN,h4,h5⟩:=Zs hp (qby (by omega) hP)
  intro e
  rw[Zq]at e
  rw[e]at e3
  have hN0:N.map Prod.snd=[]:=e3.symm
  have hs:=h4 (Q7 p w (qat p w L) c) (List.mem_map.2 ⟨c,List.mem_filter.2 ⟨by simpa using hc,hf⟩,rfl⟩)
  rw[hN0]at hs
  cases hs with
  | zero _ hz=>
    have:=hz c hc
    rw[Jt hP hc (qbf hf),if_pos rfl]at this
    exact qae (by omega) this
  | add _ u r t hr2 _ _=>exact absurd hr2 (by simp)
end Go.Proofs.Ytmgbpmihbljngaa.PA
namespace Go.Proofs.Ytmgbpmihbljngaa.PA
open Go.RowKit Go.Proofs.YtmgbpmihbljngaaW.PrintWords Go.Proofs.YtmgbpmihbljngaaW.PrintLast Go.Proofs.YtmgbpmihbljngaaW.PrintMore
set_option linter.unusedVariables false
set_option linter.unusedSimpArgs false
def tr (w:Nat) (L:List (List Int)):List (List Int):=(List.range w).map fun j=>L.map fun r=>fn r j
theorem qhe (L:List (List Int)) (f:List Int→Int) (i:Nat) (hi:i < L.length):fn (L.map f) i=f (L.getD i []):=by
  rw[fn,Ji _ i (by rw[List.length_map];exact hi),List.getElem_map,List.getD_eq_getElem?_getD,List.getElem?_eq_getElem hi];rfl
theorem tr_ok {p:Int} {w:Nat} {L:List (List Int)} (hL:okR p w L):okR p L.length (tr w L):=fun r hr=>by
  obtain⟨j,hj,rfl⟩:=List.mem_map.1 hr
  refine⟨by simp,fun x hx=>?_⟩
  obtain⟨q,hq,rfl⟩:=List.mem_map.1 hx
  exact Jb (hL q hq) j (by simpa using hj)
theorem qjv {p:Int} {w:Nat} {N:List (Nat×List Int)} (h:Rref p w N):((List.range w).filter (Qs N)).length+N.length≤w:=by
  have h1:=Ja (P:=N) (Q:=((List.range w).filter fun c=>!Qs N c).map fun c=>(c,([]:List Int))) h.inc (by
    rw[List.pairwise_map];exact List.Pairwise.sublist List.filter_sublist List.pairwise_lt_range) (fun x hx=>by
    refine⟨(x.1,[]),List.mem_map.2 ⟨x.1,List.mem_filter.2 ⟨by simpa using h.lt x hx,?_⟩,rfl⟩,rfl⟩
    cases hf:Qs N x.1 with
    | false=>rfl
    | true=>exact absurd rfl (qbf hf x hx))
  rw[List.length_map]at h1
  have h2:((List.range w).filter (Qs N)).length+((List.range w).filter fun c=>!Qs N c).length=w:=by
    have:∀ l:List Nat,(l.filter (Qs N)).length+(l.filter fun c=>!Qs N c).length=l.length:=fun l=>by
      induction l with
      | nil=>rfl
      | cons a l ih=>cases hf:Qs N a<;>simp[hf]<;>omega
    simpa using this (List.range w)
  omega
theorem qow {p:Int} (hp:zk p=true) {w:Nat} {L:List (List Int)} (hL:okR p w L):Z5 p w L+(Zq p L.length (tr w L)).length≤L.length:=by
  obtain⟨N,e,hN,h4,_⟩:=Z6 hp (tr_ok hL)
  rw[e,List.length_map]
  have hc:=qjv hN
  have hok:okR p w (((List.range L.length).filter (Qs N)).map fun i=>L.getD i []):=fun r hr=>by
    obtain⟨i,hi,rfl⟩:=List.mem_map.1 hr
    exact hL _ (Q6 (by have:=(List.mem_filter.1 hi).1;simpa using this))
  have hmono:=qdi hp hL hok (fun r hr=>by
    obtain⟨i,hi,rfl⟩:=List.mem_iff_getElem.1 hr
    have ei:L[i]=L.getD i []:=by rw[List.getD_eq_getElem?_getD,List.getElem?_eq_getElem hi];rfl
    by_cases hf:Qs N i=true
    · exact Sp.mem (List.mem_map.2 ⟨i,List.mem_filter.2 ⟨by simpa using hi,hf⟩,ei.symm⟩)
    · have hex:∃ z∈N,z.1=i:=by
        by_cases he:∃ z∈N,z.1=i
        · exact he
        · exact absurd (qc6 he) hf
      obtain⟨z,hz,rfl⟩:=hex
      have hsp:∀ l:List Nat,(∀ c∈l,c∈(List.range L.length).filter (Qs N))→Sp p w (((List.range L.length).filter (Qs N)).map fun i=>L.getD i []) fun j=>(l.map fun c=>fn z.2 c*fn (L.getD c []) j).sum:=by
        intro l
        induction l with
        | nil=>intro _;exact .zero _ fun j _=>by simp
        | cons c l ih=>
          intro hl
          exact .add _ _ (L.getD c []) (fn z.2 c) (List.mem_map.2 ⟨c,hl c (by simp),rfl⟩) (ih fun d hd=>hl d (by simp[hd])) fun j _=>by
            rw[List.map_cons,List.sum_cons];exact⟨0,by omega⟩
      refine((hsp _ fun c hc=>hc).scale (-1)).congr fun j hj=>?_
      have hd:=h4 z hz (L.map fun r=>fn r j) (List.mem_map.2 ⟨j,by simpa using hj,rfl⟩)
      have hcomm:dt L.length (fn (L.map fun r=>fn r j)) (fn z.2)=dt L.length (fn z.2) (fn (L.map fun r=>fn r j)):=by
        rw[dt,dt];congr 1;exact List.map_congr_left fun i _=>Int.mul_comm _ _
      rw[hcomm,qkd hN hz,qhe L (fun r=>fn r j) z.1 (hN.lt z hz)]at hd
      have e3:(((List.range L.length).filter (Qs N)).map fun c=>fn z.2 c*fn (L.map fun r=>fn r j) c)=(((List.range L.length).filter (Qs N)).map fun c=>fn z.2 c*fn (L.getD c []) j):=by
        refine List.map_congr_left fun c hc=>?_
        have hcl:c < L.length:=by have:=(List.mem_filter.1 hc).1;simpa using this
        rw[qhe L (fun r=>fn r j) c hcl]
      rw[e3]at hd
      rw[ei]
      exact Jh 1 hd (by omega))
  have hle:=qda (p:=p) (w:=w) (((List.range L.length).filter (Qs N)).map fun i=>L.getD i [])
  rw[List.length_map]at hle
  omega
end Go.Proofs.Ytmgbpmihbljngaa.PA
namespace Go.Proofs.Ytmgbpmihbljngaa.PA
open Go.RowKit Go.Proofs.YtmgbpmihbljngaaW.PrintWords Go.Proofs.YtmgbpmihbljngaaW.PrintLast Go.Proofs.YtmgbpmihbljngaaW.PrintMore
set_option linter.unusedVariables false
set_option linter.unusedSimpArgs false
theorem qlp (n:Nat) (u v:Nat→Int):∀ w,fi n (dt w u v)=sm w fun j=>fi n (u j)*fi n (v j)
  | 0=>by rw[sm];exact qc9 n
  | w+1=>by
    have e:dt (w+1) u v=dt w u v+u w*v w:=by simp[dt,List.range_succ]
    rw[e,qb4,qdv,qlp n u v w,sm]
theorem Sp.sumN {p:Int} {w:Nat} {L:List (List Int)} (t:Nat→Int):∀ m,m≤L.length→Sp p w L fun x=>dt m t fun j=>fn (L.getD j []) x
  | 0,_=>.zero _ fun j _=>by simp[dt]
  | m+1,h=>by
    refine((Sp.sumN t m (by omega)).sum ((Sp.mem (Q6 (L:=L) (i:=m) (by omega))).scale (t m))).congr fun j _=>?_
    have e:dt (m+1) t (fun k=>fn (L.getD k []) j)=dt m t (fun k=>fn (L.getD k []) j)+t m*fn (L.getD m []) j:=by simp[dt,List.range_succ]
    rw[e];exact⟨0,by omega⟩
theorem qed {L:List (List Int)} {r:List Int} (h:r∈L):∃ i,i < L.length∧L.getD i []=r:=by
  obtain⟨i,hi,e⟩:=List.mem_iff_getElem.1 h
  exact⟨i,hi,by rw[List.getD_eq_getElem?_getD,List.getElem?_eq_getElem hi];exact e⟩
theorem Sp.lin4 {p:Int} (hp:zk p=true) {w:Nat} {N:List (List Int)} (hN:N.length=4) {v:Nat→Int} (h:Sp p w N v):∃ l:Nat→Fq (nn p),∀ j,j < w→fi (nn p) (v j)=PA.lin4 l fun i=>fi (nn p) (fn (N.getD i []) j):=by
  induction h with
  | zero v hz=>exact⟨fun _=>0,fun j hj=>by rw[(qcc hp _).2 (hz j hj)];simp only[PA.lin4];grind⟩
  | add v u r t hr _ h2 ih=>
    obtain⟨l,hl⟩:=ih
    obtain⟨i,hi,e⟩:=qed hr
    refine⟨fun k=>l k+if k=i then fi (nn p) t else 0,fun j hj=>?_⟩
    rw[(fp_eq hp _ _).2 (h2 j hj),qb4,qdv,hl j hj]
    rcases (show i=0∨i=1∨i=2∨i=3 by omega) with rfl | rfl | rfl | rfl<;>(rw[← e];simp[PA.lin4];grind)
def qck (w i:Nat):List Int:=(List.replicate w 0).set i 1
theorem qky (w i j:Nat) (hi:i < w):fn (qck w i) j=if j=i then 1 else 0:=by
  rw[qck,Js _ _ _ _ (by simpa using hi)]
  split
  · rfl
  · simp only[fn,rd,Int.toNat_natCast,List.getD_eq_getElem?_getD,List.getElem?_replicate]
    split<;>rfl
theorem qk6 {p:Int} (hp:2≤p) (w i:Nat):(qck w i).length=w∧∀ x∈qck w i,0≤x∧x < p:=by
  refine⟨by simp[qck],fun x hx=>?_⟩
  rcases List.mem_or_eq_of_mem_set hx with h | h
  · have:=(List.mem_replicate.1 h).2;omega
  · omega
theorem qln (v:Nat→Int) (i:Nat):∀ w,dt w (fun j=>if j=i then 1 else 0) v=if i < w then v i else 0
  | 0=>by simp[dt]
  | w + 1 => by
    have e:dt (w+1) (fun j=>if j=i then 1 else 0) v=dt w (fun j=>if j=i then 1 else 0) v+(if w=i then 1 else 0)*v w:=by simp[dt,List.range_succ]
    rw[e,qln v i w]
    by_cases h:w=i
    · subst h;simp
    · by_cases h2:i < w
      · rw[if_pos h2,if_neg h,if_pos (show i < w+1 by omega)];omega
      · rw[if_neg h2,if_neg h,if_neg (show ¬ i < w+1 by omega)];omega
theorem qpo {p:Int} (hp:zk p=true) {w:Nat} {L:List (List Int)} (hL:okR p w L):w≤(Zq p w L).length+L.length:=by
  have hb:=zn hp
  obtain⟨N,e,hN,_,hc⟩:=Z6 hp hL
  rw[e,List.length_map]
  apply Classical.byContradiction
  intro hlt
  have hM:okR p w (L++N.map fun x=>qck w x.1):=qey hL fun r hr=>by
    obtain⟨x,_,rfl⟩:=List.mem_map.1 hr
    exact qk6 (by omega) w x.1
  have hne:=qjr hp hM (Nat.lt_of_le_of_lt (qda _) (by simp;omega))
  obtain⟨Q,e2,hQ,h2,_⟩:=Z6 hp hM
  rw[e2]at hne
  cases Q with
  | nil=>exact hne rfl
  | cons z Q=>
    have hv:Sp p w (N.map Prod.snd) (fn z.2):=hc _ fun r hr=>h2 z (by simp) r (List.mem_append_left _ hr)
    have hz:=hN.coord hv z.1 (hQ.lt z (by simp))
    have hcs:p ∣ cs N (fn z.2) z.1:=qew fun x hx=>by
      have:=h2 z (by simp) (qck w x.1) (List.mem_append_right _ (List.mem_map.2 ⟨x,hx,rfl⟩))
      have hf:fn (qck w x.1)=fun j=>if j=x.1 then 1 else 0:=funext fun j=>qky w x.1 j (hN.lt x hx)
      rw[hf,qln,if_pos (hN.lt x hx)]at this
      exact Int.dvd_mul_of_dvd_left this
    rw[hQ.one z (by simp)]at hz
    exact qae (p:=p) (by omega) (Je 1 1 hz hcs (by omega))
theorem tr_tr {p:Int} {w:Nat} {L:List (List Int)} (hL:okR p w L):tr L.length (tr w L)=L:=by
  apply List.ext_getElem
  · simp[tr]
  · intro i h1 h2
    simp only[tr,List.getElem_map,List.getElem_range,List.map_map]
    have hl:=(hL _ (List.getElem_mem h2)).1
    apply List.ext_getElem
    · simp[hl]
    · intro j h3 h4
      simp only[List.getElem_map,List.getElem_range,Function.comp]
      rw[qhe _ _ _ h2,List.getD_eq_getElem?_getD,List.getElem?_eq_getElem h2]
      exact Ji _ _ h4
theorem fn_tr {w:Nat} (L:List (List Int)) (i j:Nat) (hi:i < w) (hj:j < L.length):fn ((tr w L).getD i []) j=fn (L.getD j []) i:=by
  have e:(tr w L).getD i []=L.map fun r=>fn r i:=by simp[tr,List.getD_eq_getElem?_getD,hi]
  rw[e,qhe _ _ _ hj]
theorem qkw :∀ p∈([7,11,13,17,19,23,29,31]:List Int),Z5 p 6 ((List.range 6).map (qck 6))=6:=by decide+kernel
end Go.Proofs.Ytmgbpmihbljngaa.PA
namespace Go.Proofs.Ytmgbpmihbljngaa.PA
open Go.RowKit Go.Proofs.YtmgbpmihbljngaaW.PrintWords Go.Proofs.YtmgbpmihbljngaaW.PrintLast Go.Proofs.YtmgbpmihbljngaaW.PrintMore
set_option linter.unusedVariables false
set_option linter.unusedSimpArgs false
def p3 (n:Nat) (t:Int×Int×Int):Nat→Fq n
  | 0=>fi n t.1
  | 1=>fi n t.2.1
  | _=>fi n t.2.2
def cubR (p:Int) (t:Int×Int×Int):List Int:=[t.1*t.1*t.1 % p,t.1*t.1*t.2.1 % p,t.1*t.1*t.2.2 % p,t.1*t.2.1*t.2.1 % p,t.1*t.2.1*t.2.2 % p,t.1*t.2.2*t.2.2 % p,t.2.1*t.2.1*t.2.1 % p,t.2.1*t.2.1*t.2.2 % p,t.2.1*t.2.2*t.2.2 % p,t.2.2*t.2.2*t.2.2 % p]
theorem qlz {p:Int} (hp:zk p=true) (t:Int×Int×Int):(cubR p t).length=10∧∀ x∈cubR p t,0≤x∧x < p:=by
  have hb:=zn hp
  refine⟨rfl,fun x hx=>?_⟩
  have hm:∀ y:Int,0≤y % p∧y % p < p:=fun y=>⟨Int.emod_nonneg _ (by omega),Int.emod_lt_of_pos _ (by omega)⟩
  simp only[cubR,List.mem_cons,List.not_mem_nil,or_false]at hx
  rcases hx with rfl | rfl | rfl | rfl | rfl | rfl | rfl | rfl | rfl | rfl<;>exact hm _
theorem qiv {p:Int} (hp:zk p=true) (t:Int×Int×Int) (v:Nat→Fq (nn p)):(sm 10 fun j=>fi (nn p) (fn (cubR p t) j)*v j)=valC v (p3 (nn p) t):=by
  simp only[sm,fn,rd,Int.toNat_natCast,cubR,List.getD_cons_zero,List.getD_cons_succ,qka hp,qdv,valC,p3]
  grind
theorem qp9 {n:Nat} {P:Nat→Nat→Fq n} (h:∀ i j k,i < 6→j < i→k < j→ev3 (Ze (P i) (P j)) (P k)≠0):gen3 P:=by
  have c1:∀ A B C:Nat→Fq n,ev3 (Ze A B) C=ev3 (Ze B C) A:=fun A B C=>by simp only[ev3,Ze];grind
  have c2:∀ A B C:Nat→Fq n,ev3 (Ze A B) C=- ev3 (Ze B A) C:=fun A B C=>by simp only[ev3,Ze];grind
  intro i j k hi hj hk h1 h2 h3
  rcases Nat.lt_or_gt_of_ne h1 with a | a<;>rcases Nat.lt_or_gt_of_ne h2 with b | b<;>rcases Nat.lt_or_gt_of_ne h3 with c | c
  · have:=h k j i hk b a;rw[c2,← c1,];grind
  · omega
  · have:=h j k i hj b c;rw[c1];exact this
  · have:=h j i k hj a c;rw[c2];grind
  · have:=h k i j hk c a;rw[c1,c1];exact this
  · have:=h i k j hi c b;rw[c2,c1,c1,];grind
  · omega
  · exact h i j k hi a b
theorem sep6 {n:Nat} (hF:FldH n) {P:Nat→Nat→Fq n} (hG:gen3 P):∀ i,i < 6→∃ v:Nat→Fq n,(∀ x,x < 6→x≠i→valC v (P x)=0)∧valC v (P i)≠0:=by
  have key:∀ i a b c d e,i < 6→a < 6→b < 6→c < 6→d < 6→e < 6→(∀ x,x < 6→x≠i→x=a∨x=b∨x=c∨x=d∨x=e)→i≠a→i≠b→i≠c→i≠d→i≠e→a≠b→c≠d→e≠a→∃ v:Nat→Fq n,(∀ x,x < 6→x≠i→valC v (P x)=0)∧valC v (P i)≠0:=by
    intro i a b c d e hi ha hb hc hd he hx ia ib ic id ie ab cd ea
    refine⟨lin6 P a b c d e a,fun x h6 hxi=>?_,?_⟩
    · rw[Jl]
      rcases hx x h6 hxi with rfl | rfl | rfl | rfl | rfl
      · rw[Jf];grind
      · rw[Jq];grind
      · rw[Jf];grind
      · rw[Jq];grind
      · rw[Jf];grind
    · rw[Jl]
      exact fnz hF (fnz hF (hG a b i ha hb hi ab (Ne.symm ib) (Ne.symm ia)) (hG c d i hc hd hi cd (Ne.symm id) (Ne.symm ic))) (hG e a i he ha hi ea (Ne.symm ia) (Ne.symm ie))
  intro i hi
  rcases (show i=0∨i=1∨i=2∨i=3∨i=4∨i=5 by omega) with rfl | rfl | rfl | rfl | rfl | rfl
  · exact key 0 1 2 3 4 5 (by omega) (by omega) (by omega) (by omega) (by omega) (by omega) (by omega) (by omega) (by omega) (by omega) (by omega) (by omega) (by omega) (by omega) (by omega)
  · exact key 1 0 2 3 4 5 (by omega) (by omega) (by omega) (by omega) (by omega) (by omega) (by omega) (by omega) (by omega) (by omega) (by omega) (by omega) (by omega) (by omega) (by omega)
  · exact key 2 1 0 3 4 5 (by omega) (by omega) (by omega) (by omega) (by omega) (by omega) (by omega) (by omega) (by omega) (by omega) (by omega) (by omega) (by omega) (by omega) (by omega)
  · exact key 3 1 2 0 4 5 (by omega) (by omega) (by omega) (by omega) (by omega) (by omega) (by omega) (by omega) (by omega) (by omega) (by omega) (by omega) (by omega) (by omega) (by omega)
  · exact key 4 1 2 3 0 5 (by omega) (by omega) (by omega) (by omega) (by omega) (by omega) (by omega) (by omega) (by omega) (by omega) (by omega) (by omega) (by omega) (by omega) (by omega)
  · exact key 5 1 2 3 4 0 (by omega) (by omega) (by omega) (by omega) (by omega) (by omega) (by omega) (by omega) (by omega) (by omega) (by omega) (by omega) (by omega) (by omega) (by omega)
def ptL (p:Int) (Q:List (Int×Int×Int)) (i:Nat):Nat→Fq (nn p):=p3 (nn p) (Q.getD i (0,0,0))
def basP (p:Int) (Q:List (Int×Int×Int)):List (List Int):=Zq p 10 (Q.map (cubR p))
def basF (p:Int) (Q:List (Int×Int×Int)) (i j:Nat):Fq (nn p):=fi (nn p) (fn ((basP p Q).getD i []) j)
theorem qfm {p:Int} (hp:zk p=true) (Q:List (Int×Int×Int)):okR p 10 (Q.map (cubR p)):=fun r hr=>by
  obtain⟨t,_,rfl⟩:=List.mem_map.1 hr
  exact qlz hp t
theorem qlk (p:Int) (Q:List (Int×Int×Int)) (i:Nat) (hi:i < Q.length):(Q.map (cubR p)).getD i []=cubR p (Q.getD i (0,0,0)):=by
  simp[List.getD_eq_getElem?_getD,hi]
theorem qmv {n:Nat} (c:Fq n) (v P:Nat→Fq n):valC (fun j=>c*v j) P=c*valC v P:=by simp only[valC];grind
theorem bas_le {p:Int} (hp:zk p=true) {Q:List (Int×Int×Int)} (h6:Q.length=6) (hG:gen3 (ptL p Q)):(basP p Q).length≤4:=by
  have hb:=zn hp
  have hR:=qfm hp Q
  have hT:okR p 6 (tr 10 (Q.map (cubR p))):=by have:=tr_ok hR;rwa [List.length_map,h6]at this
  have h1:=qow hp hT
  have hl:(tr 10 (Q.map (cubR p))).length=10:=by simp[tr]
  have ht:tr 6 (tr 10 (Q.map (cubR p)))=Q.map (cubR p):=by have:=tr_tr hR;rwa [List.length_map,h6]at this
  rw[hl,ht]at h1
  have hI:okR p 6 ((List.range 6).map (qck 6)):=fun r hr=>by
    obtain⟨i,_,rfl⟩:=List.mem_map.1 hr
    exact qk6 (by omega) 6 i
  have h2:=qdi hp hI hT fun r hr=>by
    obtain⟨i,hi,rfl⟩:=List.mem_map.1 hr
    have hi6:i < 6:=by simpa using hi
    obtain⟨v,hv0,hv1⟩:=sep6 (qkm hp) hG i hi6
    obtain⟨c,hc⟩:=qkm hp _ hv1
    refine(Sp.sumN (L:=tr 10 (Q.map (cubR p))) (fun j=>(((c*v j:Fq (nn p)).val:Nat):Int)) 10 (by omega)).congr fun x hx=>?_
    rw[← fp_eq hp,qlp,qky 6 i x hi6]
    have e:(sm 10 fun j=>fi (nn p) (((c*v j:Fq (nn p)).val:Nat):Int)*fi (nn p) (fn ((tr 10 (Q.map (cubR p))).getD j []) x))=c*valC v (ptL p Q x):=by
      rw[← qmv,ptL,← qiv hp]
      refine Zc _ fun j hj=>?_
      rw[qar,fn_tr _ _ _ hj (by rw[List.length_map];omega),qlk _ _ _ (by omega)]
      grind
    rw[e]
    by_cases hxi:x=i
    · subst hxi;rw[if_pos rfl,qfi hp];grind
    · rw[if_neg hxi,hv0 x hx hxi,qc9];grind
  rw[qkw p (by have:=Jv hp;simpa using this)]at h2
  show (Zq p 10 (Q.map (cubR p))).length≤4
  omega
theorem qdf {p:Int} (hp:zk p=true) {Q:List (Int×Int×Int)} (h6:Q.length=6) (hG:gen3 (ptL p Q)):(basP p Q).length=4:=by
  have h1:=bas_le hp h6 hG
  have h2:=qpo hp (qfm hp Q)
  rw[List.length_map,h6]at h2
  have:10≤(basP p Q).length+6:=h2
  omega
theorem qpn {p:Int} (hp:zk p=true) {Q:List (Int×Int×Int)} (h6:Q.length=6) (hG:gen3 (ptL p Q)) (v:Nat→Fq (nn p)) (hv:∀ x,x < 6→valC v (ptL p Q x)=0):∃ l:Nat→Fq (nn p),∀ j,j < 10→v j=lin4 l fun i=>basF p Q i j:=by
  obtain⟨N,e,hN,_,hc⟩:=Z6 hp (qfm hp Q)
  have hs:=hc (fun j=>(((v j).val:Nat):Int)) fun r hr=>by
    obtain⟨x,hx,rfl⟩:=qed hr
    rw[List.length_map,h6]at hx
    rw[← qcc hp,qlp,qlk _ _ _ (by omega)]
    simp only[qar]
    rw[qiv hp]
    exact hv x hx
  rw[← e]at hs
  obtain⟨l,hl⟩:=Sp.lin4 hp (qdf hp h6 hG) hs
  exact⟨l,fun j hj=>by have:=hl j hj;rwa [qar]at this⟩
theorem rel20 {p:Int} (hp:zk p=true) {Q:List (Int×Int×Int)} (h6:Q.length=6) (hG:gen3 (ptL p Q)) {T:List (List Int)} (hT:okR p 20 T) (hr:∀ r∈T,∃ e,∀ c,c < 20→fi (nn p) (fn r c)=proT (fun i=>sprd (basF p Q i)) c e):Zq p 20 T≠[]:=by
  have hb:=zn hp
  obtain⟨f,⟨c,hc,hf⟩,h⟩:=qnn (qkm hp) (fp_1 hp) (fp_2 hp) (fp_3 hp) (ptL p Q) hG (basF p Q) (qpn hp h6 hG)
  obtain⟨N,e,hN,_,hs⟩:=Z6 hp hT
  have h2:=hs (fun c=>(((f c).val:Nat):Int)) fun r hr'=>by
    obtain⟨q,hq⟩:=hr r hr'
    rw[← qcc hp,qlp,← h q]
    refine Zc _ fun c hc=>?_
    rw[hq c hc,qar]
    grind
  intro e0
  rw[e]at e0
  rw[e0]at h2
  cases h2 with
  | zero _ hz=>
    have:=(qcc hp _).2 (hz c hc)
    rw[qar]at this
    exact hf this
  | add _ u r t hr2 _ _=>exact absurd hr2 (by simp)
end Go.Proofs.Ytmgbpmihbljngaa.PA
namespace Go.Proofs.Ytmgbpmihbljngaa.PA
open Go.RowKit Go.Proofs.YtmgbpmihbljngaaW.PrintWords Go.Proofs.YtmgbpmihbljngaaW.PrintLast Go.Proofs.YtmgbpmihbljngaaW.PrintMore
set_option linter.unusedVariables false
set_option linter.unusedSimpArgs false
theorem qpu (A B C p:Int):A % p*(B % p) % p*(C % p) % p=A*B*C % p:=by rw[Int.mul_emod (A*B) C p,Int.mul_emod A B p]
theorem J8 {p:Int} (hp:7≤p∧p≤31) {x:Int} (hx:0≤x∧x < p) (n:Nat) (hn:n≤3):Ev (fun k=>zy.f k p x (n:Int)) (x ^ n % p):=by
  have h0:∀ (d i:Nat),i+d=n→Ev (fun q=>zy.l0 q p x (n:Int) (x ^ i % p) (i:Int)) (x ^ n % p):=by
    intro d
    induction d with
    | zero=>
      intro i hi
      obtain rfl:i=n:=by omega
      exact Ev.step (f:=fun _=>some (x ^ i % p)) (fun q=>by rw[zy.l0,if_neg (by omega)]) (Ev.now _)
    | succ d ih=>
      intro i hi
      have hy:0≤x ^ i % p∧x ^ i % p < p:=⟨Int.emod_nonneg _ (by omega),Int.emod_lt_of_pos _ (by omega)⟩
      have hm:=Zy hp hy hx
      refine Ev.step (fun q=>by rw[zy.l0,if_pos (by omega),if_neg (by omega),wsm (i:=x ^ i % p*x) (by omega) (by omega),wsm (i:=(i:Int)+1) (by omega) (by omega),Int.tmod_eq_emod_of_nonneg hm.1,show x ^ i % p*x % p=x ^ (i+1) % p by rw[Int.pow_succ,Int.mul_emod,Int.emod_emod,← Int.mul_emod]]) ?_
      exact ih (i+1) (by omega)
  unfold zy.f
  have:=h0 n 0 (by omega)
  rw[Int.pow_zero,Int.emod_eq_of_lt (by omega) (by omega)]at this
  exact this
def powL :List S41:=[⟨3,0,0⟩,⟨2,1,0⟩,⟨2,0,1⟩,⟨1,2,0⟩,⟨1,1,1⟩,⟨1,0,2⟩,⟨0,3,0⟩,⟨0,2,1⟩,⟨0,1,2⟩,⟨0,0,3⟩]
theorem qbw :Qw.f=some powL:=rfl
def powN :List (Nat×Nat×Nat):=[(3,0,0),(2,1,0),(2,0,1),(1,2,0),(1,1,1),(1,0,2),(0,3,0),(0,2,1),(0,1,2),(0,0,3)]
theorem qk8 :∀ i:Nat,i < 10→(zw powL (i:Int)).f0=(((powN.getD i (0,0,0)).1:Nat):Int)∧(zw powL (i:Int)).f1=(((powN.getD i (0,0,0)).2.1:Nat):Int)∧(zw powL (i:Int)).f2=(((powN.getD i (0,0,0)).2.2:Nat):Int)∧(powN.getD i (0,0,0)).1≤3∧(powN.getD i (0,0,0)).2.1≤3∧(powN.getD i (0,0,0)).2.2≤3:=by
  intro i hi
  rcases (show i=0∨i=1∨i=2∨i=3∨i=4∨i=5∨i=6∨i=7∨i=8∨i=9 by omega) with rfl | rfl | rfl | rfl | rfl | rfl | rfl | rfl | rfl | rfl<;>exact⟨rfl,rfl,rfl,by decide,by decide,by decide⟩
def monR (p:Int) (t:Int×Int×Int) (i:Nat):Int:=t.1 ^ (powN.getD i (0,0,0)).1*t.2.1 ^ (powN.getD i (0,0,0)).2.1*t.2.2 ^ (powN.getD i (0,0,0)).2.2 % p
theorem qot (p:Int) (t:Int×Int×Int):(List.range 10).map (monR p t)=cubR p t:=by
  have e:∀ x:Int,x ^ 3=x*x*x∧x ^ 2=x*x∧x ^ 1=x∧x ^ 0=1:=fun x=>⟨by grind,by grind,by grind,by grind⟩
  show [monR p t 0,monR p t 1,monR p t 2,monR p t 3,monR p t 4,monR p t 5,monR p t 6,monR p t 7,monR p t 8,monR p t 9]=_
  simp only[monR,powN,List.getD_cons_zero,List.getD_cons_succ,(e _).1,(e _).2.1,(e _).2.2.1,(e _).2.2.2,Int.mul_one,Int.one_mul,cubR,Int.mul_assoc]
theorem qcj {p:Int} (hp:7≤p∧p≤31) (t:Int×Int×Int) (ht:inP p t):Ev (fun k=>qw.f k p t.1 t.2.1 t.2.2) (cubR p t):=by
  have h0:∀ (d i:Nat),i+d=10→Ev (fun q=>qw.l0 q p ((List.range i).map (monR p t)) powL (i:Int) t.1 t.2.1 t.2.2) (cubR p t):=by
    intro d
    induction d with
    | zero=>
      intro i hi
      obtain rfl:i=10:=by omega
      refine Ev.step (f:=fun _=>some (cubR p t)) (fun q=>by rw[qw.l0,if_neg (by omega),qot]) (Ev.now _)
    | succ d ih=>
      intro i hi
      obtain⟨e0,e1,e2,l0,l1,l2⟩:=qk8 i (by omega)
      have hm:∀ y:Int,0≤y % p∧y % p < p:=fun y=>⟨Int.emod_nonneg _ (by omega),Int.emod_lt_of_pos _ (by omega)⟩
      have b1:=Zy hp (hm (t.1 ^ (powN.getD i (0,0,0)).1)) (hm (t.2.1 ^ (powN.getD i (0,0,0)).2.1))
      have b2:=Zy hp (hm ((t.1 ^ (powN.getD i (0,0,0)).1 % p)*(t.2.1 ^ (powN.getD i (0,0,0)).2.1 % p))) (hm (t.2.2 ^ (powN.getD i (0,0,0)).2.2))
      refine Ev.step (fun q=>by rw[qw.l0,if_pos (by omega),if_pos (by omega),if_pos (by simp[powL];omega),e0,e1,e2]) ?_
      refine Ev.bind (J8 hp ht.1 _ l0) (Ev.bind (J8 hp ht.2.1 _ l1) (Ev.no (by omega) (Ev.bind (J8 hp ht.2.2 _ l2) (Ev.yes (by simp;omega) ?_))))
      rw[wsm (i:=(i:Int)+1) (by omega) (by omega),wsm (i:=t.1 ^ (powN.getD i (0,0,0)).1 % p*_) (by omega) (by omega),Int.tmod_eq_emod_of_nonneg b1.1,wsm (by omega) (by omega),Int.tmod_eq_emod_of_nonneg b2.1]
      have e:((List.range i).map (monR p t))++[t.1 ^ (powN.getD i (0,0,0)).1 % p*(t.2.1 ^ (powN.getD i (0,0,0)).2.1 % p) % p*(t.2.2 ^ (powN.getD i (0,0,0)).2.2 % p) % p]=(List.range (i+1)).map (monR p t):=by
        rw[List.range_succ,List.map_append]
        congr 1
        show [_]=[monR p t i]
        rw[monR,qpu]
      rw[e]
      exact ih (i+1) (by omega)
  unfold qw.f
  rw[qbw]
  exact Ev.bind (Ev.k rfl) (h0 10 0 rfl)
end Go.Proofs.Ytmgbpmihbljngaa.PA
namespace Go.Proofs.Ytmgbpmihbljngaa.PA
open Go.RowKit Go.Proofs.YtmgbpmihbljngaaW.PrintWords Go.Proofs.YtmgbpmihbljngaaW.PrintLast Go.Proofs.YtmgbpmihbljngaaW.PrintMore
set_option linter.unusedVariables false
set_option linter.unusedSimpArgs false
def dmo (x v:Int×Int×Int) (e:Nat×Nat×Nat):Int:=
  (e.1:Int)*v.1*(x.1 ^ (e.1 - 1)*x.2.1 ^ e.2.1*x.2.2 ^ e.2.2)+(e.2.1:Int)*v.2.1*(x.1 ^ e.1*x.2.1 ^ (e.2.1 - 1)*x.2.2 ^ e.2.2)+(e.2.2:Int)*v.2.2*(x.1 ^ e.1*x.2.1 ^ e.2.1*x.2.2 ^ (e.2.2 - 1))
def slpS (a:List Int) (x v:Int×Int×Int):Nat→Nat→Int
  | 0,_=>0
  | d+1,i=>rd a (i:Int)*dmo x v (powN.getD i (0,0,0))+slpS a x v d (i+1)
def slpP (p:Int) (a:List Int) (x v:Int×Int×Int):Int:=slpS a x v 10 0 % p
theorem qhb {p:Int} (hp:7≤p∧p≤31) (A B:Int):Int.tmod (wrap64 (A % p*(B % p))) p=A*B % p:=by
  have hm:=Zy hp (x:=A % p) (y:=B % p) ⟨Int.emod_nonneg _ (by omega),Int.emod_lt_of_pos _ (by omega)⟩ ⟨Int.emod_nonneg _ (by omega),Int.emod_lt_of_pos _ (by omega)⟩
  rw[wsm (by omega) (by omega),Int.tmod_eq_emod_of_nonneg hm.1,← Int.mul_emod]
theorem sl_add {p:Int} (hp:7≤p∧p≤31) (A B:Int):Int.tmod (wrap64 (A % p+B % p)) p=(A+B) % p:=by
  have h1:0≤A % p∧A % p < p:=⟨Int.emod_nonneg _ (by omega),Int.emod_lt_of_pos _ (by omega)⟩
  have h2:0≤B % p∧B % p < p:=⟨Int.emod_nonneg _ (by omega),Int.emod_lt_of_pos _ (by omega)⟩
  rw[wsm (by omega) (by omega),Int.tmod_eq_emod_of_nonneg (by omega),← Int.add_emod]
theorem slC_ev {p:Int} (hp:7≤p∧p≤31) {x:Int×Int×Int} (hx:inP p x) (n0:Int) (a0 a1 a2:Nat) (h0:a0≤3) (h1:a1≤3) (h2:a2≤3):Ev (fun k=>slC k p x.1 x.2.1 x.2.2 (a0:Int) (a1:Int) (a2:Int) 3 0 (n0 % p)) (n0*(x.1 ^ a0*x.2.1 ^ a1*x.2.2 ^ a2) % p):=by
  refine Ev.bind (a:=x.1 ^ a0 % p) (J8 hp hx.1 a0 h0) ?_
  rw[qhb hp]
  refine Ev.bind (a:=x.2.1 ^ a1 % p) (J8 hp hx.2.1 a1 h1) ?_
  rw[qhb hp]
  refine Ev.bind (a:=x.2.2 ^ a2 % p) (J8 hp hx.2.2 a2 h2) ?_
  rw[qhb hp,show n0*(x.1 ^ a0*x.2.1 ^ a1*x.2.2 ^ a2)=n0*x.1 ^ a0*x.2.1 ^ a1*x.2.2 ^ a2 by simp only[Int.mul_assoc]]
  exact Ev.now _
theorem slT_ev {p:Int} (hp:7≤p∧p≤31) {x:Int×Int×Int} (hx:inP p x) (ai vj:Int) (hai:0≤ai∧ai < p) (hv:0≤vj∧vj < p) (e:Nat) (he:e≤3) (a0 a1 a2:Nat) (h0:a0≤3) (h1:a1≤3) (h2:a2≤3):Ev (fun k=>slT k p ai vj (e:Int) x.1 x.2.1 x.2.2 (a0:Int) (a1:Int) (a2:Int)) (ai*((e:Int)*vj*(x.1 ^ a0*x.2.1 ^ a1*x.2.2 ^ a2)) % p):=by
  unfold slT
  have hm:=Zy hp (x:=(e:Int)) (y:=ai) (by omega) hai
  have e1:Int.tmod (wrap64 ((e:Int)*ai)) p=(e:Int)*ai % p:=by
    rw[wsm (by omega) (by omega),Int.tmod_eq_emod_of_nonneg hm.1]
  have e2:Int.tmod (wrap64 (Int.tmod (wrap64 ((e:Int)*ai)) p*vj)) p=(e:Int)*ai*vj % p:=by
    rw[e1]
    have:=qhb hp ((e:Int)*ai) vj
    rw[Int.emod_eq_of_lt hv.1 hv.2]at this
    exact this
  rw[e2,show ai*((e:Int)*vj*(x.1 ^ a0*x.2.1 ^ a1*x.2.2 ^ a2))=(e:Int)*ai*vj*(x.1 ^ a0*x.2.1 ^ a1*x.2.2 ^ a2) by simp only[Int.mul_assoc,Int.mul_left_comm,Int.mul_comm]]
  exact slC_ev hp hx _ a0 a1 a2 h0 h1 h2
theorem qha {p:Int} (hp:7≤p∧p≤31) {x:Int×Int×Int} (hx:inP p x) {ai v0 v1 v2 vj n0 e0 e1 e2 r:Int} {d j:Nat} (hai:0≤ai∧ai < p) (hv:0≤vj∧vj < p) (ev:slE v0 v1 v2 j=vj) (e a0 a1 a2:Nat) (ee:slE e0 e1 e2 j=(e:Int)) (he:e≤3) (h0:a0≤3) (h1:a1≤3) (h2:a2≤3)
    (hl:e≠0→slL e0 0 j=(a0:Int)∧slL e1 1 j=(a1:Int)∧slL e2 2 j=(a2:Int))
    (h:Ev (fun k=>slJ k p ai x.1 x.2.1 x.2.2 v0 v1 v2 e0 e1 e2 d (j+1) ((n0+ai*((e:Int)*vj*(x.1 ^ a0*x.2.1 ^ a1*x.2.2 ^ a2))) % p)) r):Ev (fun k=>slJ k p ai x.1 x.2.1 x.2.2 v0 v1 v2 e0 e1 e2 (d+1) j (n0 % p)) r:=by
  simp only[slJ,ee,ev]
  by_cases hz:e=0
  · subst hz
    simp only[Int.natCast_zero,Int.zero_mul,Int.mul_zero,Int.add_zero]at h
    simpa using h
  · obtain⟨l0,l1,l2⟩:=hl hz
    have hz':¬ ((e:Int)=0):=by omega
    simp only[if_neg hz',l0,l1,l2]
    refine Ev.bind (slT_ev hp hx ai vj hai hv e he a0 a1 a2 h0 h1 h2) ?_
    rw[sl_add hp]
    exact h
theorem slJ_ev {p:Int} (hp:7≤p∧p≤31) {x v:Int×Int×Int} (hx:inP p x) (hv:inP p v) (ai n0:Int) (hai:0≤ai∧ai < p) (e:Nat×Nat×Nat) (h0:e.1≤3) (h1:e.2.1≤3) (h2:e.2.2≤3):Ev (fun k=>slJ k p ai x.1 x.2.1 x.2.2 v.1 v.2.1 v.2.2 (e.1:Int) (e.2.1:Int) (e.2.2:Int) 3 0 (n0 % p)) ((n0+ai*dmo x v e) % p):=by
  have low:∀ n:Nat,n≤3→n≠0→wrap64 ((n:Int) - 1)=((n - 1:Nat):Int):=fun n h hn=>by rw[wsm (by omega) (by omega)];omega
  refine qha hp hx hai hv.1 rfl e.1 (e.1 - 1) e.2.1 e.2.2 rfl h0 (by omega) h1 h2 (fun h=>⟨low _ h0 h,rfl,rfl⟩) ?_
  refine qha hp hx hai hv.2.1 rfl e.2.1 e.1 (e.2.1 - 1) e.2.2 rfl h1 h0 (by omega) h2 (fun h=>⟨rfl,low _ h1 h,rfl⟩) ?_
  refine qha hp hx hai hv.2.2 rfl e.2.2 e.1 e.2.1 (e.2.2 - 1) rfl h2 h0 h1 (by omega) (fun h=>⟨rfl,rfl,low _ h2 h⟩) ?_
  simp only[slJ,dmo,Int.mul_add,Int.add_assoc]
  exact Ev.now _
theorem qng {p:Int} (hp:7≤p∧p≤31) {x v:Int×Int×Int} (hx:inP p x) (hv:inP p v) (a:List Int) (ha:a.length=10∧∀ x∈a,0≤x∧x < p):∀ (d i:Nat) (n0:Int),i+d=10→Ev (fun k=>slI k p a x.1 x.2.1 x.2.2 v.1 v.2.1 v.2.2 powL d i (n0 % p)) ((n0+slpS a x v d i) % p)
  | 0,i,n0,_=>by
    simp only[slI,slpS,Int.add_zero]
    exact Ev.now _
  | d + 1, i, n0, h => by
    have hi:i < a.length:=by omega
    have hr:0≤rd a (i:Int)∧rd a (i:Int) < p:=by
      refine ha.2 _ ?_
      rw[show rd a (i:Int)=a[i] by unfold rd;rw[Int.toNat_natCast,List.getD_eq_getElem?_getD,List.getElem?_eq_getElem hi];rfl]
      exact List.getElem_mem hi
    obtain⟨e0,e1,e2,b0,b1,b2⟩:=qk8 i (by omega)
    simp only[slI,if_pos hi,e0,e1,e2]
    refine Ev.bind (slJ_ev hp hx hv (rd a (i:Int)) n0 hr (powN.getD i (0,0,0)) b0 b1 b2) ?_
    rw[slpS,← Int.add_assoc]
    exact qng hp hx hv a ha d (i+1) _ (by omega)
theorem qju {p:Int} (hp:7≤p∧p≤31) {x v:Int×Int×Int} (hx:inP p x) (hv:inP p v) (a:List Int) (ha:a.length=10∧∀ x∈a,0≤x∧x < p):Ev (fun k=>jj.f k p a x.1 x.2.1 x.2.2 v.1 v.2.1 v.2.2) (slpP p a x v):=by
  have h:=qng hp hx hv a ha 10 0 0 rfl
  rw[Int.zero_add,Int.zero_emod]at h
  unfold jj.f
  simp only[qbw,Option.bind_some,if_pos (show powL.length=10∧p≠0 from ⟨rfl,by omega⟩)]
  exact h
end Go.Proofs.Ytmgbpmihbljngaa.PA
namespace Go.Proofs.Ytmgbpmihbljngaa.PA
open Go.RowKit Go.Proofs.YtmgbpmihbljngaaW.PrintWords Go.Proofs.YtmgbpmihbljngaaW.PrintLast Go.Proofs.YtmgbpmihbljngaaW.PrintMore
set_option linter.unusedVariables false
set_option linter.unusedSimpArgs false
def allP (p:Nat):List (Int×Int×Int):=(0,0,1) :: ((List.range p).map (fun (n:Nat)=>(0,1,(n:Int)))++(List.range p).flatMap fun (a:Nat)=>(List.range p).map fun (b:Nat)=>(1,(a:Int),(b:Int)))
def mkT (t:Int×Int×Int):S43:=⟨⟨t.1,t.2.1,t.2.2⟩⟩
theorem qhq (L:List (Int×Int×Int)):tps (L.map mkT)=L:=by
  unfold tps
  rw[List.map_map]
  exact List.map_id L
theorem qo8 {p:Int} (hp:7≤p∧p≤31):∀ t∈allP p.toNat,inP p t:=by
  intro t ht
  simp only[allP,List.mem_cons,List.mem_append,List.mem_map,List.mem_flatMap,List.mem_range]at ht
  rcases ht with rfl | ⟨n,hn,rfl⟩ | ⟨a,ha,b,hb,rfl⟩
  · exact⟨⟨by simp,by simp;omega⟩,⟨by simp,by simp;omega⟩,⟨by simp,by simp;omega⟩⟩
  · exact⟨⟨by simp,by simp;omega⟩,⟨by simp,by simp;omega⟩,⟨by simp,by simp;omega⟩⟩
  · exact⟨⟨by simp,by simp;omega⟩,⟨by simp,by simp;omega⟩,⟨by simp,by simp;omega⟩⟩
theorem qf3 (p:Nat) (f:Nat→Nat→Int×Int×Int):∀ (d i:Nat),((List.range' i d).flatMap fun a=>(List.range p).map (f a)).length=d*p
  | 0,i=>by simp
  | d+1,i=>by
    rw[List.range'_succ,List.flatMap_cons,List.length_append,qf3 p f d (i+1),List.length_map,List.length_range,Nat.succ_mul]
    omega
theorem qo3 (p:Nat):(allP p).length=1+p+p*p:=by
  have h:=qf3 p (fun a b=>(1,(a:Int),(b:Int))) p 0
  rw[← List.range_eq_range']at h
  unfold allP
  rw[List.length_cons,List.length_append,List.length_map,List.length_range,h]
  omega
theorem qbn {p:Int} (hp:7≤p∧p≤31):(allP p.toNat).length≤1000:=by
  have:=Nat.mul_le_mul (show p.toNat≤31 by omega) (show p.toNat≤31 by omega)
  rw[qo3]
  omega
theorem qlx {p:Int} (hp:7≤p∧p≤31) {r:List S43}:∀ (d i:Nat) (acc:List S43),((i+d:Nat):Int)=p→acc.length+d≤1000000→Ev (fun k=>zj.l1 k p (acc++((List.range' i d).map fun (n:Nat)=>(0,1,(n:Int))).map mkT) 0) r→Ev (fun k=>zj.l0 k p acc (i:Int)) r
  | 0,i,acc,h,_,hr=>by
    simp only[List.range'_zero,List.map_nil,List.append_nil]at hr
    exact Ev.step (fun k=>by rw[zj.l0,if_neg (by omega)]) hr
  | d+1,i,acc,h,hl,hr=>by
    refine Ev.step (fun k=>by rw[zj.l0,if_pos (by omega),if_pos (by omega),wsm (by omega) (by omega)];rfl) (qlx hp d (i+1) (acc++[mkT (0,1,(i:Int))]) (by omega) (by rw[List.length_append,List.length_singleton];omega) ?_)
    rw[List.append_assoc]
    exact hr
theorem qk4 {p:Int} (hp:7≤p∧p≤31) {r:List S43} (a:Nat) (ha:a < 40):∀ (d i:Nat) (acc:List S43),((i+d:Nat):Int)=p→acc.length+d≤1000000→Ev (fun k=>zj.l1 k p (acc++((List.range' i d).map fun (b:Nat)=>(1,(a:Int),(b:Int))).map mkT) ((a+1:Nat):Int)) r→Ev (fun k=>zj.l2 k p acc (a:Int) (i:Int)) r
  | 0,i,acc,h,_,hr=>by
    simp only[List.range'_zero,List.map_nil,List.append_nil]at hr
    exact Ev.step (fun k=>by rw[zj.l2,if_neg (by omega),wsm (by omega) (by omega)];rfl) hr
  | d+1,i,acc,h,hl,hr=>by
    refine Ev.step (fun k=>by rw[zj.l2,if_pos (by omega),if_pos (by omega),wsm (by omega) (by omega)];rfl) (qk4 hp a ha d (i+1) (acc++[mkT (1,(a:Int),(i:Int))]) (by omega) (by rw[List.length_append,List.length_singleton];omega) ?_)
    rw[List.append_assoc]
    exact hr
theorem qk2 {p:Int} (hp:7≤p∧p≤31):∀ (d a:Nat) (acc:List S43),((a+d:Nat):Int)=p→acc.length+d*31≤1000000→Ev (fun k=>zj.l1 k p acc (a:Int)) (acc++((List.range' a d).flatMap fun (a:Nat)=>(List.range p.toNat).map fun (b:Nat)=>(1,(a:Int),(b:Int))).map mkT)
  | 0,a,acc,h,_=>by
    simp only[List.range'_zero,List.flatMap_nil,List.map_nil,List.append_nil]
    exact Ev.step (f:=fun _=>some acc) (fun k=>by rw[zj.l1,if_neg (by omega)]) (Ev.now _)
  | d+1,a,acc,h,hl=>by
    have ih:=qk2 hp d (a+1) (acc++((List.range' 0 p.toNat).map fun (b:Nat)=>(1,(a:Int),(b:Int))).map mkT) (by omega) (by rw[List.length_append,List.length_map,List.length_map,List.length_range'];omega)
    have hc:=qk4 hp a (by omega) p.toNat 0 acc (by omega) (by omega) ih
    rw[List.range'_succ,List.flatMap_cons,List.map_append,← List.append_assoc]
    rw[← List.range_eq_range']at hc
    exact Ev.step (fun k=>by rw[zj.l1,if_pos (by omega)];rfl) hc
theorem qnc {p:Int} (hp:7≤p∧p≤31):Ev (fun k=>zj.f k p) ((allP p.toNat).map mkT):=by
  have hb:=qk2 hp p.toNat 0 ([mkT (0,0,1)]++((List.range' 0 p.toNat).map fun (n:Nat)=>(0,1,(n:Int))).map mkT) (by omega) (by simp only[List.length_append,List.length_map,List.length_range',List.length_singleton];omega)
  have h:=qlx hp p.toNat 0 [mkT (0,0,1)] (by omega) (by simp only[List.length_singleton];omega) hb
  rw[← List.range_eq_range']at h
  unfold zj.f
  have e:([mkT (0,0,1)]++((List.range p.toNat).map fun (n:Nat)=>(0,1,(n:Int))).map mkT++((List.range p.toNat).flatMap fun (a:Nat)=>(List.range p.toNat).map fun (b:Nat)=>(1,(a:Int),(b:Int))).map mkT)=(allP p.toNat).map mkT:=by
    unfold allP
    rw[List.map_cons,List.map_append,List.append_assoc]
    rfl
  rw[e]at h
  exact h
end Go.Proofs.Ytmgbpmihbljngaa.PA
namespace Go.Proofs.Ytmgbpmihbljngaa.PA
open Go.RowKit Go.Proofs.YtmgbpmihbljngaaW.PrintWords Go.Proofs.YtmgbpmihbljngaaW.PrintLast Go.Proofs.YtmgbpmihbljngaaW.PrintMore
set_option linter.unusedVariables false
set_option linter.unusedSimpArgs false
def dotP (p:Int) (a b:List Int):Int:=dt 10 (fn a) (fn b) % p
theorem qle (w:Nat) (u v:Nat→Int):dt (w+1) u v=dt w u v+u w*v w:=by simp[dt,List.range_succ]
theorem qnk (u v:Nat→Int):dt 0 u v=0:=rfl
theorem qnd {p:Int} (hp:zk p=true) (a b:List Int) (ha:a.length=10∧∀ x∈a,0≤x∧x < p) (hb:b.length=10∧∀ x∈b,0≤x∧x < p):Ev (fun k=>jh.f k p a b) (dotP p a b):=by
  have h0:=zn hp
  have la:=ha.1
  have lb:=hb.1
  have hl:∀ (d i:Nat),i+d=10→Ev (fun k=>jh.l0 k p a b (dt i (fn a) (fn b) % p) (i:Int)) (dotP p a b):=by
    intro d
    induction d with
    | zero=>
      intro i hi
      obtain rfl:i=10:=by omega
      exact Ev.step (f:=fun _=>some (dotP p a b)) (fun q=>by rw[jh.l0,if_neg (by omega)];rfl) (Ev.now _)
    | succ d ih=>
      intro i hi
      have b1:=Jb ha i (by omega)
      have b2:=Jb hb i (by omega)
      have b3:=Zy (p:=p) ⟨by omega,by omega⟩ b1 b2
      have b4:=Int.emod_nonneg (dt i (fn a) (fn b)) (show p≠0 by omega)
      have b5:=Int.emod_lt_of_pos (dt i (fn a) (fn b)) (show (0:Int) < p by omega)
      have r1:rd a (i:Int)=fn a i:=rfl
      have r2:rd b (i:Int)=fn b i:=rfl
      refine Ev.step (fun q=>by rw[jh.l0,if_pos (by omega),if_pos (by omega),if_pos (by omega),if_neg (by omega),r1,r2,wsm (i:=fn a i*fn b i) (by omega) (by omega),wsm (i:=_ +_) (by omega) (by omega),Int.tmod_eq_emod_of_nonneg (by omega),Int.emod_add_emod,← qle,wsm (by omega) (by omega)]) ?_
      exact ih (i+1) (by omega)
  unfold jh.f
  have:=hl 10 0 rfl
  rwa [qnk,Int.zero_emod]at this
end Go.Proofs.Ytmgbpmihbljngaa.PA
namespace Go.Proofs.Ytmgbpmihbljngaa.PA
open Go.RowKit Go.Proofs.YtmgbpmihbljngaaW.PrintWords Go.Proofs.YtmgbpmihbljngaaW.PrintLast Go.Proofs.YtmgbpmihbljngaaW.PrintMore
set_option linter.unusedVariables false
set_option linter.unusedSimpArgs false
def lstF (n w:Nat) (F:Nat→Fq n):List Int:=(List.range w).map fun r=>(((F r).val:Nat):Int)
theorem Jw (n w:Nat) (F:Nat→Fq n):(lstF n w F).length=w:=by simp[lstF]
theorem qhu {n w:Nat} (F:Nat→Fq n) (r:Nat) (h:r < w):fn (lstF n w F) r=(((F r).val:Nat):Int):=by
  rw[fn,Ji _ r (by rw[Jw];exact h)]
  simp[lstF]
theorem qo0 {p:Int} (hp:zk p=true) (w:Nat) (F:Nat→Fq (nn p)):(lstF (nn p) w F).length=w∧∀ x∈lstF (nn p) w F,0≤x∧x < p:=by
  refine⟨Jw _ _ _,fun x hx=>?_⟩
  obtain⟨r,_,rfl⟩:=List.mem_map.1 hx
  have:=(F r).isLt
  have:=nn_p hp
  omega
theorem qbb {n w:Nat} {F G:Nat→Fq n} (h:∀ r,r < w→F r=G r):lstF n w F=lstF n w G:=
  List.map_congr_left fun r hr=>by rw[h r (by simpa using hr)]
theorem qdw {n w:Nat} (F:Nat→Fq n) (r:Nat) (h:r < w):fi n (fn (lstF n w F) r)=F r:=by rw[qhu F r h,qar]
theorem qkt {p:Int} (hp:zk p=true) {w:Nat} {L:List Int} (hL:L.length=w∧∀ x∈L,0≤x∧x < p) (F:Nat→Fq (nn p)) (h:∀ r,r < w→fi (nn p) (fn L r)=F r):L=lstF (nn p) w F:=by
  refine qkg hL.1 (Jw _ _ _) fun j hj=>?_
  have hr:=Jb hL j hj
  rw[qhu F j hj,← h j hj,qa5,nn_p hp,Int.emod_eq_of_lt hr.1 hr.2]
theorem qpf {p:Int} (hp:zk p=true) {w:Nat} (F:Nat→Fq (nn p)) (j:Nat) (x:Int) (hx:0≤x∧x < p):(lstF (nn p) w F).set j x=lstF (nn p) w fun r=>if r=j then fi (nn p) x else F r:=by
  refine qkt hp ⟨by rw[List.length_set,Jw],fun y hy=>?_⟩ _ fun r hr=>?_
  · rcases List.mem_or_eq_of_mem_set hy with h | h
    · exact(qo0 hp w F).2 y h
    · subst h;exact hx
  · by_cases hj:j < w
    · rw[Js _ _ _ _ (by rw[Jw];exact hj)]
      by_cases e:r=j
      · rw[if_pos e,if_pos e]
      · rw[if_neg e,if_neg e,qdw F r hr]
    · rw[List.set_eq_of_length_le (by rw[Jw];omega),qdw F r hr,if_neg (by omega)]
end Go.Proofs.Ytmgbpmihbljngaa.PA
namespace Go.Proofs.Ytmgbpmihbljngaa.PA
open Go.RowKit Go.Proofs.YtmgbpmihbljngaaW.PrintWords Go.Proofs.YtmgbpmihbljngaaW.PrintLast Go.Proofs.YtmgbpmihbljngaaW.PrintMore
set_option linter.unusedVariables false
set_option linter.unusedSimpArgs false
def basS (p:Int) (Q:List (Int×Int×Int)) (i:Nat):Nat→Fq (nn p):=sprd (basF p Q i)
def surT (p:Int) (Q:List (Int×Int×Int)):List (List Int):=(List.range 100).map fun r=>lstF (nn p) 20 fun c=>proT (basS p Q) c r
def surP (p:Int) (Q:List (Int×Int×Int)):List Int:=(Zq p 20 (surT p Q)).getD 0 []
theorem qhc {p:Int} (hp:zk p=true) (Q:List (Int×Int×Int)):okR p 20 (surT p Q):=fun r hr=>by
  obtain⟨c,_,rfl⟩:=List.mem_map.1 hr
  exact qo0 hp 20 _
theorem qb7 {p:Int} {Q:List (Int×Int×Int)} (h:genB p Q=true):gen3 (ptL p Q):=by
  obtain⟨hp,h6,ha,_⟩:=Q3 h
  refine qp9 fun i j k hi hj hk=>?_
  have hc:=(qa2 ha).2 i j k (by omega) hj hk
  intro e
  rw[colB,beq_eq_false_iff_ne]at hc
  refine hc (Int.emod_eq_zero_of_dvd ?_)
  rw[← qcc hp]
  simp only[qb4,qdv,qo7]
  simp only[ev3,Ze,ptL,p3]at e
  grind
theorem qn9 {p:Int} {Q:List (Int×Int×Int)} (h:genB p Q=true):Zq p 20 (surT p Q)≠[]:=by
  obtain⟨hp,h6,_,_⟩:=Q3 h
  refine rel20 hp h6 (qb7 h) (qhc hp Q) fun r hr=>?_
  obtain⟨e,_,rfl⟩:=List.mem_map.1 hr
  exact⟨e,fun c hc=>qdw _ c hc⟩
theorem qpb {p:Int} {Q:List (Int×Int×Int)} (h:genB p Q=true):surP p Q∈Zq p 20 (surT p Q):=by
  have:=qn9 h
  exact Q6 (List.length_pos_iff.2 this)
theorem sur_ok {p:Int} {Q:List (Int×Int×Int)} (h:genB p Q=true):(surP p Q).length=20∧∀ x∈surP p Q,0≤x∧x < p:=by
  obtain⟨hp,h6,_,_⟩:=Q3 h
  obtain⟨N,e,hN,_,_⟩:=Z6 hp (qhc hp Q)
  have hm:=qpb h
  rw[e]at hm
  obtain⟨z,hz,ez⟩:=List.mem_map.1 hm
  rw[← ez]
  exact hN.ok z hz
theorem qf4 {p:Int} {Q:List (Int×Int×Int)} (hp:zk p=true) (i:Nat) (hi:i < (basP p Q).length):((basP p Q).getD i []).length=10∧∀ x∈(basP p Q).getD i [],0≤x∧x < p:=by
  obtain⟨N,e,hN,_,_⟩:=Z6 hp (qfm hp Q)
  have hm:=Q6 hi
  rw[basP,e]at hm
  obtain⟨z,hz,ez⟩:=List.mem_map.1 hm
  rw[basP,e,← ez]
  exact hN.ok z hz
end Go.Proofs.Ytmgbpmihbljngaa.PA
namespace Go.Proofs.Ytmgbpmihbljngaa.PA
open Go.RowKit Go.Proofs.YtmgbpmihbljngaaW.PrintWords Go.Proofs.YtmgbpmihbljngaaW.PrintLast Go.Proofs.YtmgbpmihbljngaaW.PrintMore
set_option linter.unusedVariables false
set_option linter.unusedSimpArgs false
def imgP (p:Int) (Q:List (Int×Int×Int)) (t:Int×Int×Int):List Int:=(basP p Q).map fun r=>dotP p r (cubR p t)
theorem ql1 {p:Int} (hp:zk p=true) (Q:List (Int×Int×Int)) (t:Int×Int×Int):∀ x∈imgP p Q t,0≤x∧x < p:=fun x hx=>by
  have hb:=zn hp
  obtain⟨r,_,rfl⟩:=List.mem_map.1 hx
  exact⟨Int.emod_nonneg _ (by omega),Int.emod_lt_of_pos _ (by omega)⟩
theorem qj4 {p:Int} {Q:List (Int×Int×Int)} (hg:genB p Q=true) (t:Int×Int×Int) (ht:inP p t):Ev (fun k=>jf.f k p (basP p Q) t.1 t.2.1 t.2.2) (imgP p Q t):=by
  obtain⟨hp,h6,_,_⟩:=Q3 hg
  have hb:=zn hp
  have hl:=qdf hp h6 (qb7 hg)
  have hrow:=fun i hi=>qf4 (Q:=Q) hp i hi
  have hend:imgP p Q t=((basP p Q).map fun r=>dotP p r (cubR p t)):=rfl
  generalize imgP p Q t=M at*
  generalize basP p Q=B at*
  have h0:∀ (d i:Nat) (acc:List Int),i+d=4→acc=(B.take i).map (fun r=>dotP p r (cubR p t))→Ev (fun k=>jf.l0 k p B acc (cubR p t) (i:Int)) M:=by
    intro d
    induction d with
    | zero=>
      intro i acc hi ha
      rw[List.take_of_length_le (by omega),← hend]at ha
      subst ha
      exact Ev.step (f:=fun _=>some acc) (fun q=>by rw[jf.l0,if_neg (by omega)]) (Ev.now _)
    | succ d ih=>
      intro i acc hi ha
      have hal:acc.length≤1000:=by rw[ha,List.length_map,List.length_take];omega
      have hd:=qnd hp (B.getD i []) (cubR p t) (hrow i (by omega)) (qlz hp t)
      refine Ev.step (fun q=>by rw[jf.l0,if_pos (by omega),if_pos (by omega),qa3]) ?_
      refine Ev.bind hd (Ev.yes (show acc.length < 17592186044416 by omega) ?_)
      rw[wsm (by omega) (by omega)]
      refine ih (i+1) _ (by omega) ?_
      rw[ha,List.take_add_one,List.map_append,List.getD_eq_getElem?_getD,List.getElem?_eq_getElem (by omega)]
      rfl
  unfold jf.f
  exact Ev.bind (qcj (p:=p) ⟨by omega,by omega⟩ t ht) (h0 4 0 [] rfl rfl)
end Go.Proofs.Ytmgbpmihbljngaa.PA
namespace Go.Proofs.Ytmgbpmihbljngaa.PA
open Go.RowKit Go.Proofs.YtmgbpmihbljngaaW.PrintWords Go.Proofs.YtmgbpmihbljngaaW.PrintLast Go.Proofs.YtmgbpmihbljngaaW.PrintMore
set_option linter.unusedVariables false
set_option linter.unusedSimpArgs false
def curP (p:Int) (Q L:List (Int×Int×Int)):List (List Int):=(L.map (imgP p Q)).filter fun r=>!(r.all fun x=>x == 0)
theorem qjc {p:Int} {Q:List (Int×Int×Int)} (hg:genB p Q=true) (t:Int×Int×Int):(imgP p Q t).length=4:=by
  unfold imgP
  rw[List.length_map]
  exact qdf (Q3 hg).1 (Q3 hg).2.1 (qb7 hg)
theorem qlq {p:Int} {Q:List (Int×Int×Int)} (hg:genB p Q=true) (L:List (Int×Int×Int)):okR p 4 (curP p Q L):=fun r hr=>by
  unfold curP at hr
  rw[List.mem_filter]at hr
  obtain⟨t,_,rfl⟩:=List.mem_map.1 hr.1
  exact⟨qjc hg t,ql1 (Q3 hg).1 Q t⟩
theorem qh5 (p:Int) (Q L:List (Int×Int×Int)):(curP p Q L).length≤L.length:=by
  unfold curP
  refine Nat.le_trans (List.length_filter_le _ _) ?_
  rw[List.length_map]
  exact Nat.le_refl _
theorem qdo {p:Int} {Q:List (Int×Int×Int)} (hg:genB p Q=true) (L:List S43) (hl:L.length≤1000000) (hin:∀ t∈tps L,inP p t):∀ (d i:Nat) (acc:List (List Int)),i+d=L.length→acc.length≤i→Ev (fun k=>jc.l0 k p (basP p Q) L acc (i:Int)) (acc++curP p Q ((tps L).drop i))
  | 0,i,acc,h,ha=>by
    rw[List.drop_eq_nil_of_le (by unfold tps;rw[List.length_map];omega)]
    simp only[curP,List.map_nil,List.filter_nil,List.append_nil]
    exact Ev.step (f:=fun _=>some acc) (fun k=>by rw[jc.l0,if_neg (by omega)]) (Ev.now _)
  | d + 1, i, acc, h, ha => by
    have hi:i < (tps L).length:=by unfold tps;rw[List.length_map];omega
    have e1:tpl (q4 L (i:Int))=(tps L)[i]:=by
      rw[qbi L i (by omega),List.getD_eq_getElem?_getD,List.getElem?_eq_getElem hi]
      rfl
    have hx:inP p (tpl (q4 L (i:Int))):=by rw[e1];exact hin _ (List.getElem_mem hi)
    have him:=qj4 hg _ hx
    rw[List.drop_eq_getElem_cons hi,← e1]
    have hlen:=qjc hg (tpl (q4 L (i:Int)))
    have hz:=qao (imgP p Q (tpl (q4 L (i:Int)))) (by omega)
    refine Ev.step (f:=fun k=>(jf.f k p (basP p Q) (tpl (q4 L (i:Int))).1 (tpl (q4 L (i:Int))).2.1 (tpl (q4 L (i:Int))).2.2).bind fun t379=>(zb.f k t379).bind fun t382=>if t382=true then jc.l0 k p (basP p Q) L acc ((i+1:Nat):Int) else if acc.length < 5864062014805 then jc.l0 k p (basP p Q) L (acc++[t379]) ((i+1:Nat):Int) else none) (fun k=>?_) ?_
    · rw[jc.l0,if_pos (by omega),if_pos (by omega),wsm (by omega) (by omega)]
      rfl
    · refine Ev.bind him (Ev.bind hz ?_)
      cases hb:(imgP p Q (tpl (q4 L (i:Int)))).all fun x=>x == 0 with
      | true=>
        have e:curP p Q (tpl (q4 L (i:Int)) :: (tps L).drop (i+1))=curP p Q ((tps L).drop (i+1)):=by
          unfold curP
          rw[List.map_cons,List.filter_cons_of_neg (by rw[hb];simp)]
        rw[e]
        exact Ev.yes rfl (qdo hg L hl hin d (i+1) acc (by omega) (by omega))
      | false=>
        have e:curP p Q (tpl (q4 L (i:Int)) :: (tps L).drop (i+1))=[imgP p Q (tpl (q4 L (i:Int)))]++curP p Q ((tps L).drop (i+1)):=by
          unfold curP
          rw[List.map_cons,List.filter_cons_of_pos (by rw[hb];rfl)]
          rfl
        rw[e,← List.append_assoc]
        exact Ev.no (by simp) (Ev.yes (by omega) (qdo hg L hl hin d (i+1) _ (by omega) (by rw[List.length_append,List.length_singleton];omega)))
theorem qfh {p:Int} {Q:List (Int×Int×Int)} (hg:genB p Q=true) (six L:List S43) (hl:L.length≤1000000) (hin:∀ t∈tps L,inP p t):Ev (fun k=>jc.f k p six (basP p Q) L) (curP p Q (tps L)):=by
  have h:=qdo hg L hl hin L.length 0 [] (by omega) (by simp)
  unfold jc.f
  simpa using h
end Go.Proofs.Ytmgbpmihbljngaa.PA
namespace Go.Proofs.Ytmgbpmihbljngaa.PA
open Go.RowKit Go.Proofs.YtmgbpmihbljngaaW.PrintWords Go.Proofs.YtmgbpmihbljngaaW.PrintLast Go.Proofs.YtmgbpmihbljngaaW.PrintMore
set_option linter.unusedVariables false
set_option linter.unusedSimpArgs false
theorem qma {p:Int} (hp:zk p=true) (w:Nat) (hw:w≤100) (a b:List Int) (ha:a.length=w∧∀ x∈a,0≤x∧x < p) (hb:b.length=w∧∀ x∈b,0≤x∧x < p):Ev (fun k=>jh.f k p a b) (dt w (fn a) (fn b) % p):=by
  have h0:=zn hp
  have la:=ha.1
  have lb:=hb.1
  have hl:∀ (d i:Nat),i+d=w→Ev (fun k=>jh.l0 k p a b (dt i (fn a) (fn b) % p) (i:Int)) (dt w (fn a) (fn b) % p):=by
    intro d
    induction d with
    | zero=>
      intro i hi
      obtain rfl:i=w:=by omega
      exact Ev.step (f:=fun _=>some (dt i (fn a) (fn b) % p)) (fun q=>by rw[jh.l0,if_neg (by omega)]) (Ev.now _)
    | succ d ih=>
      intro i hi
      have b1:=Jb ha i (by omega)
      have b2:=Jb hb i (by omega)
      have b3:=Zy (p:=p) ⟨by omega,by omega⟩ b1 b2
      have b4:=Int.emod_nonneg (dt i (fn a) (fn b)) (show p≠0 by omega)
      have b5:=Int.emod_lt_of_pos (dt i (fn a) (fn b)) (show (0:Int) < p by omega)
      have r1:rd a (i:Int)=fn a i:=rfl
      have r2:rd b (i:Int)=fn b i:=rfl
      refine Ev.step (fun q=>by rw[jh.l0,if_pos (by omega),if_pos (by omega),if_pos (by omega),if_neg (by omega),r1,r2,wsm (i:=fn a i*fn b i) (by omega) (by omega),wsm (i:=_ +_) (by omega) (by omega),Int.tmod_eq_emod_of_nonneg (by omega),Int.emod_add_emod,← qle,wsm (by omega) (by omega)]) ?_
      exact ih (i+1) (by omega)
  unfold jh.f
  have:=hl w 0 (by omega)
  rwa [qnk,Int.zero_emod]at this
def vX (c:Nat):Int×Int×Int:=(l7V c 0,l7V c 1,l7V c 2)
theorem qks (c q:Nat):0≤l7V c q∧l7V c q≤1:=by
  unfold l7V
  split<;>omega
theorem vX_in {p:Int} (hp:7≤p∧p≤31) (c:Nat):inP p (vX c):=by
  have h0:=qks c 0
  have h1:=qks c 1
  have h2:=qks c 2
  exact⟨⟨h0.1,show l7V c 0 < p by omega⟩,⟨h1.1,show l7V c 1 < p by omega⟩,⟨h2.1,show l7V c 2 < p by omega⟩⟩
def rowS (p:Int) (B:List (List Int)) (x:Int×Int×Int) (c:Nat):List Int:=(List.range 4).map fun i=>slpP p (B.getD i []) x (vX c)
theorem qlu {p:Int} (hp:7≤p∧p≤31) {B:List (List Int)} (h4:B.length=4) (hB:∀ i,i < 4→(B.getD i []).length=10∧∀ x∈B.getD i [],0≤x∧x < p) (X:S43) (hx:inP p (tpl X)) (c:Nat):∀ (d i:Nat) (acc:List Int),i+d=4→Ev (fun k=>l7Ra k p B X c d i acc) (acc++(List.range' i d).map fun i=>slpP p (B.getD i []) (tpl X) (vX c))
  | 0,i,acc,_=>by
    simp only[l7Ra,List.range'_zero,List.map_nil,List.append_nil]
    exact Ev.now _
  | d+1,i,acc,h=>by
    simp only[l7Ra,if_pos (show i < B.length by omega)]
    refine Ev.bind (qju hp hx (vX_in hp c) _ (hB i (by omega))) ?_
    have ih:=qlu hp h4 hB X hx c d (i+1) (acc++[slpP p (B.getD i []) (tpl X) (vX c)]) (by omega)
    rw[List.append_assoc]at ih
    rw[List.range'_succ,List.map_cons]
    exact ih
theorem qkz {p:Int} (hp:7≤p∧p≤31) {B:List (List Int)} (h4:B.length=4) (hB:∀ i,i < 4→(B.getD i []).length=10∧∀ x∈B.getD i [],0≤x∧x < p) (X:S43) (hx:inP p (tpl X)):∀ (d c:Nat) (acc:List (List Int)),Ev (fun k=>l7Rs k p B X d c acc) (acc++(List.range' c d).map (rowS p B (tpl X)))
  | 0,c,acc=>by
    simp only[l7Rs,List.range'_zero,List.map_nil,List.append_nil]
    exact Ev.now _
  | d+1,c,acc=>by
    have hr:=qlu hp h4 hB X hx c 4 0 [] rfl
    rw[List.nil_append,← List.range_eq_range']at hr
    simp only[l7Rs]
    refine Ev.bind hr ?_
    have ih:=qkz hp h4 hB X hx d (c+1) (acc++[rowS p B (tpl X) c])
    rw[List.append_assoc]at ih
    rw[List.range'_succ,List.map_cons]
    exact ih
theorem qh3 {α:Type} {t:Nat→α→Option Bool} {g:α→Bool}:∀ (l acc:List α),(∀ x∈l,Ev (fun k=>t k x) (g x))→Ev (fun k=>filO (t k) l acc) (acc++l.filter g)
  | [],acc,_=>by
    simp only[filO,List.filter_nil,List.append_nil]
    exact Ev.now _
  | x :: xs,acc,h=>by
    simp only[filO]
    refine Ev.bind (h x (List.mem_cons_self ..)) ?_
    have ih:=qh3 (t:=t) (g:=g) xs (if g x=true then acc++[x] else acc) fun y hy=>h y (List.mem_cons_of_mem _ hy)
    cases hb:g x with
    | true=>
      rw[hb,if_pos rfl]at ih
      rw[List.filter_cons_of_pos hb,if_pos rfl]
      rw[List.append_assoc]at ih
      exact ih
    | false=>
      rw[hb,if_neg (by simp)]at ih
      rw[List.filter_cons_of_neg (by simp[hb]),if_neg (by simp)]
      exact ih
theorem qhx (M:Nat→Int) (six:List S43):∀ (d i:Nat) (acc:List S43),i+d=six.length→l7En M six d i acc=some (acc++((List.range' i d).filter fun q=>M q == 1).map (l7Pt six))
  | 0,i,acc,_=>by simp[l7En]
  | d + 1, i, acc, h => by
    rw[l7En,List.range'_succ]
    by_cases hm:M i=1
    · rw[if_pos hm,if_pos (by omega),qhx M six d (i+1) _ (by omega),List.filter_cons_of_pos (by simp[hm]),List.append_assoc]
      rfl
    · rw[if_neg hm,qhx M six d (i+1) _ (by omega),List.filter_cons_of_neg (by simp[hm])]
def endA (kk:Int):Nat:=(l1T.getD (kk - 6).toNat (0,0)).1
def endB (kk:Int):Nat:=(l1T.getD (kk - 6).toNat (0,0)).2
theorem qn7 :∀ n:Nat,n < 15→((List.range' 0 6).filter fun q=>l1M ((n:Int)+6) q == 1)=[endA ((n:Int)+6),endB ((n:Int)+6)]∧endA ((n:Int)+6) < 6∧endB ((n:Int)+6) < 6:=by decide+kernel
theorem qpx {kk:Int} (h:6≤kk∧kk < 21):((List.range' 0 6).filter fun q=>l1M kk q == 1)=[endA kk,endB kk]∧endA kk < 6∧endB kk < 6:=by
  have:=qn7 (kk - 6).toNat (by omega)
  rwa [show ((kk - 6).toNat:Int)+6=kk by omega]at this
theorem qp7 {p:Int} (hp:zk p=true) {w:Nat} {L:List (List Int)} (hL:okR p w L):okR p w (Zq p w L):=by
  obtain⟨N,e,hN,_,_⟩:=Z6 hp hL
  rw[e]
  intro r hr
  obtain⟨x,hx,rfl⟩:=List.mem_map.1 hr
  exact hN.ok x hx
def conP (p:Int) (Q:List (Int×Int×Int)) (kk:Int):List Int:=(Zq p 6 ((Q.take (kk - 21).toNat++Q.drop (kk - 20).toNat).map (sqR p))).getD 0 []
def linR (p:Int) (Q:List (Int×Int×Int)) (kk:Int):List (List Int):=
  if kk < 6 then (List.range 3).map (rowS p (basP p Q) (Q.getD kk.toNat (0,0,0)))
  else if kk < 21 then curP p Q ((allP p.toNat).filter (colB p (Q.getD (endA kk) (0,0,0)) (Q.getD (endB kk) (0,0,0))))
  else curP p Q ((allP p.toNat).filter fun t=>dt 6 (fn (conP p Q kk)) (fn (sqR p t)) % p == 0)
theorem ql2 {p:Int} (hp:0 < p) (a:List Int) (x v:Int×Int×Int):0≤slpP p a x v∧slpP p a x v < p:=⟨Int.emod_nonneg _ (by omega),Int.emod_lt_of_pos _ (by omega)⟩
theorem qpk {p:Int} {Q:List (Int×Int×Int)} (hg:genB p Q=true) (kk:Int):okR p 4 (linR p Q kk):=by
  have hb:=zn (Q3 hg).1
  unfold linR
  split
  · intro r hr
    obtain⟨c,_,rfl⟩:=List.mem_map.1 hr
    refine⟨by simp[rowS],fun x hx=>?_⟩
    obtain⟨i,_,rfl⟩:=List.mem_map.1 hx
    exact ql2 (by omega) _ _ _
  · split
    · exact qlq hg _
    · exact qlq hg _
theorem qn0 {p:Int} {Q:List (Int×Int×Int)} (hg:genB p Q=true) (kk:Int):(linR p Q kk).length < 1000000:=by
  have hb:=zn (Q3 hg).1
  have hs:=qbn (p:=p) (by omega)
  unfold linR
  split
  · simp
  · split
    · have h1:=qh5 p Q ((allP p.toNat).filter (colB p (Q.getD (endA kk) (0,0,0)) (Q.getD (endB kk) (0,0,0))))
      have h2:=List.length_filter_le (colB p (Q.getD (endA kk) (0,0,0)) (Q.getD (endB kk) (0,0,0))) (allP p.toNat)
      omega
    · have h1:=qh5 p Q ((allP p.toNat).filter fun t=>dt 6 (fn (conP p Q kk)) (fn (sqR p t)) % p == 0)
      have h2:=List.length_filter_le (fun t=>dt 6 (fn (conP p Q kk)) (fn (sqR p t)) % p == 0) (allP p.toNat)
      omega
def qnu (p:Int) (Q:List (Int×Int×Int)) (kk:Int):List Int:=if Z5 p 4 (linR p Q kk)=2 then qaf p 4 (linR p Q kk) else []
theorem qe4 {p:Int} {Q:List (Int×Int×Int)} (hg:genB p Q=true) (i:Nat) (hi:i < 6):inP p (Q.getD i (0,0,0)):=by
  obtain⟨_,h6,ha,_⟩:=Q3 hg
  exact qex ((qa2 ha).1 i (by omega))
theorem qof (L:List (Int×Int×Int)) (g:S43→Bool):(L.map mkT).filter g=(L.filter fun t=>g (mkT t)).map mkT:=by
  rw[List.filter_map]
  rfl
theorem qob {p:Int} (l:List S43) (hg:genB p (tps l)=true) {kk:Int} (h0:0≤kk) (h1:kk≤26):Ev (fun k=>qfn k p l (basP p (tps l)) kk ((allP p.toNat).map mkT)) (linR p (tps l) kk):=by
  obtain⟨hp,h6,ha,_⟩:=Q3 hg
  have hb:=zn hp
  have hb':7≤p∧p≤31:=⟨by omega,by omega⟩
  have hl:l.length=6:=by unfold tps at h6;rwa [List.length_map]at h6
  have hin:=qo8 hb'
  have hin':∀ x∈(allP p.toNat).map mkT,inP p (tpl x):=fun x hx=>by
    obtain⟨t,ht,rfl⟩:=List.mem_map.1 hx
    exact hin t ht
  have hbl:=qdf hp h6 (qb7 hg)
  unfold qfn linR
  by_cases c6:kk < 6
  · have hk:0≤kk∧kk < l.length:=⟨h0,by omega⟩
    simp only[if_pos c6,if_pos hk]
    have et:tpl (q4 l kk)=(tps l).getD kk.toNat (0,0,0):=by
      have:=qbi l kk.toNat (by omega)
      rwa [show (kk.toNat:Int)=kk by omega]at this
    have h:=qkz hb' hbl (fun i hi=>qf4 hp i (by omega)) (q4 l kk) (by rw[et];exact qe4 hg _ (by omega)) 3 0 []
    rw[List.nil_append,← List.range_eq_range',et]at h
    exact h
  · by_cases c21:kk < 21
    · obtain⟨e1,e2,e3⟩:=qpx (kk:=kk) ⟨by omega,c21⟩
      simp only[if_neg c6,if_pos c21]
      have en:=qhx (l1M kk) l 6 0 [] (by omega)
      rw[e1,List.nil_append]at en
      have t1:tpl (l7Pt l (endA kk))=(tps l).getD (endA kk) (0,0,0):=qbi l (endA kk) (by omega)
      have t2:tpl (l7Pt l (endB kk))=(tps l).getD (endB kk) (0,0,0):=qbi l (endB kk) (by omega)
      have i1:=qe4 hg (endA kk) e2
      have i2:=qe4 hg (endB kk) e3
      have hc:=qf0 hb' (tpl (l7Pt l (endA kk))) (tpl (l7Pt l (endB kk))) (by rw[t1];exact i1) (by rw[t2];exact i2)
      refine Ev.bind (a:=[l7Pt l (endA kk),l7Pt l (endB kk)]) (Ev.k en) (Ev.yes (by simp) (Ev.bind (Ev.k hc) ?_))
      rw[t1,t2]
      have hf:=qh3 (t:=fun _ (x:S43)=>Zf.f p x.f0.f0 x.f0.f1 x.f0.f2 (crsP p ((tps l).getD (endA kk) (0,0,0)) ((tps l).getD (endB kk) (0,0,0)))) (g:=fun x=>colB p ((tps l).getD (endA kk) (0,0,0)) ((tps l).getD (endB kk) (0,0,0)) (tpl x)) ((allP p.toNat).map mkT) [] fun x hx=>Ev.k (qih hb' _ _ (tpl x) (hin' x hx))
      rw[List.nil_append,qof]at hf
      refine Ev.bind hf ?_
      have hs:=qbn hb'
      have hle:=List.length_filter_le (fun t=>colB p ((tps l).getD (endA kk) (0,0,0)) ((tps l).getD (endB kk) (0,0,0)) (tpl (mkT t))) (allP p.toNat)
      have hv:=qfh hg l (((allP p.toNat).filter fun t=>colB p ((tps l).getD (endA kk) (0,0,0)) ((tps l).getD (endB kk) (0,0,0)) (tpl (mkT t))).map mkT) (by rw[List.length_map];omega) (by rw[qhq];exact fun t ht=>hin t (List.mem_filter.1 ht).1)
      rw[qhq]at hv
      exact hv
    · have hk:kk - 20≤l.length:=by omega
      simp only[if_neg c6,if_neg c21,if_pos hk]
      have hlen:(l.take (kk - 21).toNat++l.drop (kk - 20).toNat).length=5:=by rw[List.length_append,List.length_take,List.length_drop];omega
      have et:tps (l.take (kk - 21).toNat++l.drop (kk - 20).toNat)=(tps l).take (kk - 21).toNat++(tps l).drop (kk - 20).toNat:=by
        unfold tps
        rw[List.map_append,List.map_take,List.map_drop]
      have hmem:∀ t∈tps l,inP p t:=fun t ht=>by
        obtain⟨i,hi,rfl⟩:=List.getElem_of_mem ht
        have:=qe4 hg i (by omega)
        rwa [List.getD_eq_getElem?_getD,List.getElem?_eq_getElem hi]at this
      have hall:∀ t∈tps (l.take (kk - 21).toNat++l.drop (kk - 20).toNat),inP p t:=by
        rw[et]
        intro t ht
        rcases List.mem_append.1 ht with h | h
        · exact hmem _ (List.mem_of_mem_take h)
        · exact hmem _ (List.mem_of_mem_drop h)
      have hc:=qd7 hp (l.take (kk - 21).toNat++l.drop (kk - 20).toNat) (by omega) (fun j hj=>by
        have hj':j < (tps (l.take (kk - 21).toNat++l.drop (kk - 20).toNat)).length:=by unfold tps;rw[List.length_map];omega
        rw[List.getD_eq_getElem?_getD,List.getElem?_eq_getElem hj']
        exact hall _ (List.getElem_mem hj'))
      rw[et]at hc
      have ok:=sq_ok hp ((tps l).take (kk - 21).toNat++(tps l).drop (kk - 20).toNat)
      have hr:=qda (p:=p) (w:=6) (((tps l).take (kk - 21).toNat++(tps l).drop (kk - 20).toNat).map (sqR p))
      rw[List.length_map,← et]at hr
      have hl5:(tps (l.take (kk - 21).toNat++l.drop (kk - 20).toNat)).length=5:=by unfold tps;rw[List.length_map];omega
      rw[et]at hr hl5
      have hne:=qjr hp ok (by omega)
      have hpos:0 < (Zq p 6 (((tps l).take (kk - 21).toNat++(tps l).drop (kk - 20).toNat).map (sqR p))).length:=List.length_pos_iff.2 hne
      have hco:(conP p (tps l) kk).length=6∧∀ x∈conP p (tps l) kk,0≤x∧x < p:=by
        unfold conP
        rw[List.getD_eq_getElem?_getD,List.getElem?_eq_getElem hpos]
        exact qp7 hp ok _ (List.getElem_mem hpos)
      refine Ev.bind hc (Ev.yes hpos ?_)
      have hf:=qh3 (t:=fun k (x:S43)=>(jt.f p x.f0.f0 x.f0.f1 x.f0.f2).bind fun s=>(jh.f k p (conP p (tps l) kk) s).bind fun t=>some (t == 0)) (g:=fun x=>dt 6 (fn (conP p (tps l) kk)) (fn (sqR p (tpl x))) % p == 0) ((allP p.toNat).map mkT) [] fun x hx=>Ev.bind (Ev.k (qdb hb' (tpl x) (hin' x hx))) (Ev.bind (qma hp 6 (by omega) _ _ hco (qny hp (tpl x))) (Ev.now _))
      rw[List.nil_append,qof]at hf
      refine Ev.bind hf ?_
      have hs:=qbn hb'
      have hle:=List.length_filter_le (fun t=>dt 6 (fn (conP p (tps l) kk)) (fn (sqR p (tpl (mkT t)))) % p == 0) (allP p.toNat)
      have hv:=qfh hg l (((allP p.toNat).filter fun t=>dt 6 (fn (conP p (tps l) kk)) (fn (sqR p (tpl (mkT t)))) % p == 0).map mkT) (by rw[List.length_map];omega) (by rw[qhq];exact fun t ht=>hin t (List.mem_filter.1 ht).1)
      rw[qhq]at hv
      exact hv
theorem qmx {p:Int} (l:List S43) (hg:genB p (tps l)=true) {kk:Int} (h0:0≤kk) (h1:kk≤26):Ev (fun k=>zu.f k p l (basP p (tps l)) kk) (qnu p (tps l) kk):=by
  obtain⟨hp,h6,_,_⟩:=Q3 hg
  have hb:=zn hp
  have hl:l.length=6:=by unfold tps at h6;rwa [List.length_map]at h6
  have hs:=qbn (p:=p) (by omega)
  have ho:=qly hp (qpk hg kk) (qn0 hg kk)
  unfold zu.f qnu
  refine Ev.yes (by omega) (Ev.bind (qnc (by omega)) (Ev.yes (by rw[List.length_map];omega) (Ev.bind (qob l hg h0 h1) (Ev.bind ho ?_))))
  split
  · exact Ev.now _
  · exact Ev.now _
end Go.Proofs.Ytmgbpmihbljngaa.PA
namespace Go.Proofs.Ytmgbpmihbljngaa.PA
open Go.RowKit Go.Proofs.YtmgbpmihbljngaaW.PrintWords Go.Proofs.YtmgbpmihbljngaaW.PrintLast Go.Proofs.YtmgbpmihbljngaaW.PrintMore
set_option linter.unusedVariables false
set_option linter.unusedSimpArgs false
theorem qg1 {p:Int} (hp:zk p=true) (l:List S43) (hl:l.length=6) (hin:∀ j,j < l.length→inP p ((tps l).getD j (0,0,0))):Ev (fun k=>zl.f k p l) (basP p (tps l)):=by
  have hb:=zn hp
  have hlen:(tps l).length=l.length:=by simp[tps]
  have h0:∀ (d i:Nat) (acc:List (List Int)),i+d=6→acc=((tps l).take i).map (cubR p)→Ev (fun q=>zl.l0 q p l acc (i:Int)) (basP p (tps l)):=by
    intro d
    induction d with
    | zero=>
      intro i acc hi ha
      refine Ev.step (fun q=>by rw[zl.l0,if_neg (by omega)]) ?_
      rw[List.take_of_length_le (by omega)]at ha
      subst ha
      have:=qdx hp (w:=10) (by omega) _ (by rw[List.length_map];omega) (qfm hp (tps l))
      exact Ev.bind this (Ev.now _)
    | succ d ih=>
      intro i acc hi ha
      have hil:i < l.length:=by omega
      have hal:acc.length≤1000:=by rw[ha,List.length_map,List.length_take];omega
      have e:Ev (fun k=>qw.f k p (q4 l (i:Int)).f0.f0 (q4 l (i:Int)).f0.f1 (q4 l (i:Int)).f0.f2) (cubR p (tpl (q4 l (i:Int)))):=qcj (p:=p) ⟨by omega,by omega⟩ (tpl (q4 l (i:Int))) (by rw[qbi l i hil];exact hin i hil)
      refine Ev.step (fun q=>by rw[zl.l0,if_pos (by omega),if_pos (by omega),if_pos (by omega)]) (Ev.bind e ?_)
      refine Ev.yes (show acc.length < 5864062014805 by omega) ?_
      rw[wsm (by omega) (by omega)]
      refine ih (i+1) _ (by omega) ?_
      rw[ha,List.take_add_one,List.map_append,List.getElem?_eq_getElem (by omega),qbi l i hil,List.getD_eq_getElem?_getD,List.getElem?_eq_getElem (by omega)]
      rfl
  unfold zl.f
  exact h0 6 0 [] (by omega) (by simp)
end Go.Proofs.Ytmgbpmihbljngaa.PA
namespace Go.Proofs.Ytmgbpmihbljngaa.PA
open Go.RowKit Go.Proofs.YtmgbpmihbljngaaW.PrintWords Go.Proofs.YtmgbpmihbljngaaW.PrintLast Go.Proofs.YtmgbpmihbljngaaW.PrintMore
set_option linter.unusedVariables false
set_option linter.unusedSimpArgs false
def qon (p:Int) (Q:List (Int×Int×Int)) (kk:Int):List Int×Bool:=if genB p Q=true∧0≤kk∧kk≤26 then (qnu p Q kk,true) else ([],false)
theorem qel (p:Int) (l:List S43) (kk:Int):Ev (fun k=>zi.f k p l kk) (qon p (tps l) kk):=by
  unfold zi.f qon
  refine Ev.bind (Jo p l) ?_
  cases hg:genB p (tps l) with
  | false=>
    rw[if_neg (fun h=>by cases h.1)]
    exact Ev.no (by simp) (Ev.step (f:=fun _=>some ([],false)) (fun k=>by rw[zi.j0,if_pos rfl]) (Ev.now _))
  | true=>
    refine Ev.yes rfl (Ev.bind (Ev.k (qez kk 0 26)) ?_)
    by_cases h:0≤kk∧kk≤26
    · rw[if_pos ⟨rfl,h⟩,decide_eq_true h.1,decide_eq_true h.2]
      obtain⟨hp,h6,_,_⟩:=Q3 hg
      have hl:l.length=6:=by unfold tps at h6;rwa [List.length_map]at h6
      refine Ev.step (f:=fun k=>(zl.f k p l).bind fun t391=>(zu.f k p l t391 kk).bind fun t394=>some (t394,true)) (fun k=>by rw[zi.j0,if_neg (by simp)]) ?_
      exact Ev.bind (qg1 hp l hl (fun j hj=>qe4 hg j (by omega))) (Ev.bind (qmx l hg h.1 h.2) (Ev.now _))
    · rw[if_neg (fun x=>h x.2)]
      have e:(decide (0≤kk) && decide (kk≤26))=false:=by
        rw[Bool.and_eq_false_iff]
        by_cases h':0≤kk
        · exact Or.inr (decide_eq_false fun x=>h ⟨h',x⟩)
        · exact Or.inl (decide_eq_false h')
      rw[e]
      exact Ev.step (f:=fun _=>some ([],false)) (fun k=>by rw[zi.j0,if_pos (by rfl)]) (Ev.now _)
end Go.Proofs.Ytmgbpmihbljngaa.PA
namespace Go.Proofs.Ytmgbpmihbljngaa.PA
open Go.RowKit Go.Proofs.YtmgbpmihbljngaaW.PrintWords Go.Proofs.YtmgbpmihbljngaaW.PrintLast Go.Proofs.YtmgbpmihbljngaaW.PrintMore
set_option linter.unusedVariables false
set_option linter.unusedSimpArgs false
def codN :List Nat:=[30,21,20,12,11,10,3,2,1,0]
def spS (a:List Int):Nat→List Int
  | 0=>List.replicate 100 0
  | i+1=>(spS a i).set (codN.getD i 0) (rd a (i:Int))
theorem qev (a:List Int):∀ i,(spS a i).length=100
  | 0=>by simp[spS]
  | i+1=>by rw[spS,List.length_set,qev a i]
theorem cod_at :∀ i:Nat,i < 10→wrap64 (wrap64 (10*(zw powL (i:Int)).f0)+(zw powL (i:Int)).f1)=((codN.getD i 0:Nat):Int)∧codN.getD i 0 < 100:=by
  intro i hi
  rcases (show i=0∨i=1∨i=2∨i=3∨i=4∨i=5∨i=6∨i=7∨i=8∨i=9 by omega) with rfl | rfl | rfl | rfl | rfl | rfl | rfl | rfl | rfl | rfl<;>exact⟨by decide+kernel,by decide⟩
theorem spS_fn {p:Int} (a:List Int) (r:Nat):fi (nn p) (fn (spS a 10) r)=sprd (fun j=>fi (nn p) (fn a j)) r:=by
  have hz:fn (List.replicate 100 0) r=0:=by
    simp only[fn,rd,Int.toNat_natCast,List.getD_eq_getElem?_getD,List.getElem?_replicate]
    split<;>rfl
  have e:fn (spS a 10) r=if r=0 then fn a 9 else if r=1 then fn a 8 else if r=2 then fn a 7 else if r=3 then fn a 6 else if r=10 then fn a 5 else if r=11 then fn a 4 else if r=12 then fn a 3 else if r=20 then fn a 2 else if r=21 then fn a 1 else if r=30 then fn a 0 else 0:=by
    have s:∀ i,(spS a i).length=100:=qev a
    rw[spS,Js _ _ _ _ (by rw[s];decide),spS,Js _ _ _ _ (by rw[s];decide),spS,Js _ _ _ _ (by rw[s];decide),spS,Js _ _ _ _ (by rw[s];decide),spS,Js _ _ _ _ (by rw[s];decide),spS,Js _ _ _ _ (by rw[s];decide),spS,Js _ _ _ _ (by rw[s];decide),spS,Js _ _ _ _ (by rw[s];decide),spS,Js _ _ _ _ (by rw[s];decide),spS,Js _ _ _ _ (by rw[s];decide),spS,hz]
    rfl
  have key:∀ v:Nat→Fq (nn p),(r≠0∧r≠1∧r≠2∧r≠3∧r≠10∧r≠11∧r≠12∧r≠20∧r≠21∧r≠30)→sprd v r=0:=fun v h=>by
    unfold sprd
    split<;>first | rfl | omega
  rw[e]
  by_cases h0:r=0
  · subst h0;rfl
  by_cases h1:r=1
  · subst h1;rfl
  by_cases h2:r=2
  · subst h2;rfl
  by_cases h3:r=3
  · subst h3;rfl
  by_cases h10:r=10
  · subst h10;rfl
  by_cases h11:r=11
  · subst h11;rfl
  by_cases h12:r=12
  · subst h12;rfl
  by_cases h20:r=20
  · subst h20;rfl
  by_cases h21:r=21
  · subst h21;rfl
  by_cases h30:r=30
  · subst h30;rfl
  rw[key _ ⟨h0,h1,h2,h3,h10,h11,h12,h20,h21,h30⟩,if_neg h0,if_neg h1,if_neg h2,if_neg h3,if_neg h10,if_neg h11,if_neg h12,if_neg h20,if_neg h21,if_neg h30,qc9]
theorem qhr {p:Int} (hp:zk p=true) (a:List Int) (ha:a.length=10∧∀ x∈a,0≤x∧x < p):Ev (fun k=>qx.f k a) (lstF (nn p) 100 (sprd fun j=>fi (nn p) (fn a j))):=by
  have hb:=zn hp
  have hok:∀ i,i≤10→(spS a i).length=100∧∀ x∈spS a i,0≤x∧x < p:=by
    intro i
    induction i with
    | zero=>exact fun _=>⟨by simp[spS],fun x hx=>by have:=(List.mem_replicate.1 hx).2;omega⟩
    | succ i ih=>
      intro hi
      refine⟨qev a _,fun x hx=>?_⟩
      rcases List.mem_or_eq_of_mem_set hx with h | h
      · exact(ih (by omega)).2 x h
      · rw[h,Ji a i (by omega)];exact ha.2 _ (List.getElem_mem _)
  have h0:∀ (d i:Nat),i+d=10→Ev (fun q=>qx.l0 q a (spS a i) powL (i:Int)) (spS a 10):=by
    intro d
    induction d with
    | zero=>
      intro i hi
      obtain rfl:i=10:=by omega
      exact Ev.step (f:=fun _=>some (spS a 10)) (fun q=>by rw[qx.l0,if_neg (by omega)]) (Ev.now _)
    | succ d ih=>
      intro i hi
      obtain⟨e1,e2⟩:=cod_at i (by omega)
      have hs:=qev a i
      refine Ev.step (fun q=>by rw[qx.l0,if_pos (by omega),if_pos (by omega),if_pos (by simp[powL];omega),if_pos (by omega),e1,if_pos (by omega),if_pos (by omega),Int.toNat_natCast,wsm (by omega) (by omega)]) ?_
      exact ih (i+1) (by omega)
  have e:spS a 10=lstF (nn p) 100 (sprd fun j=>fi (nn p) (fn a j)):=qkt hp (hok 10 (Nat.le_refl _)) _ fun r _=>spS_fn a r
  unfold qx.f
  refine Ev.yes (by omega) (Ev.bind (Ev.k qbw) ?_)
  rw[← e]
  exact h0 10 0 rfl
end Go.Proofs.Ytmgbpmihbljngaa.PA
namespace Go.Proofs.Ytmgbpmihbljngaa.PA
open Go.RowKit Go.Proofs.YtmgbpmihbljngaaW.PrintWords Go.Proofs.YtmgbpmihbljngaaW.PrintLast Go.Proofs.YtmgbpmihbljngaaW.PrintMore
set_option linter.unusedVariables false
set_option linter.unusedSimpArgs false
def pS {n:Nat} (F G:Nat→Fq n) (i k r:Nat):Fq n:=sm i (fun j=>if j≤r then F j*G (r - j) else 0)+if i≤r∧r - i < k then F i*G (r - i) else 0
theorem qo4 {n:Nat} (F G:Nat→Fq n) (r:Nat):pS F G 0 0 r=0:=by simp[pS,sm]
theorem qp8 {n:Nat} (F G:Nat→Fq n) (i:Nat) (h:F i=0) (r:Nat):pS F G (i+1) 0 r=pS F G i 0 r:=by
  have hz:(if i≤r then F i*G (r - i) else 0)=0:=by split<;>simp[h]<;>grind
  simp[pS,sm,hz]
theorem qp3 {n:Nat} (F G:Nat→Fq n) (i r w:Nat) (hr:r < w) (hi:i≤w):pS F G i (w - i) r=pS F G (i+1) 0 r:=by
  simp only[pS,sm]
  by_cases h:i≤r
  · rw[if_pos ⟨h,by omega⟩,if_pos h,if_neg (by omega)];grind
  · rw[if_neg (by omega),if_neg h,if_neg (by omega)];grind
theorem pS_end {n:Nat} (F G:Nat→Fq n) (r w:Nat) (hr:r < w):pS F G w 0 r=mulP F G r:=by
  obtain⟨d,rfl⟩:∃ d,w=(r+1)+d:=⟨w - (r+1),by omega⟩
  rw[pS,if_neg (by omega),qbx,qes (m:=d) fun i _=>if_neg (by omega),mulP]
  have:sm (r+1) (fun j=>if j≤r then F j*G (r - j) else 0)=sm (r+1) (fun j=>F j*G (r - j)):=Zc _ fun j hj=>if_pos (by omega)
  rw[this]
  grind
theorem qpy {n:Nat} (F G:Nat→Fq n) (i k r:Nat) (h:G k=0):pS F G i (k+1) r=pS F G i k r:=by
  unfold pS
  congr 1
  by_cases h1:i≤r∧r - i < k
  · rw[if_pos h1,if_pos ⟨h1.1,by omega⟩]
  · rw[if_neg h1]
    by_cases h2:i≤r∧r - i < k+1
    · rw[if_pos h2,show r - i=k by omega,h];grind
    · rw[if_neg h2]
theorem qp1 {n:Nat} (F G:Nat→Fq n) (i k r:Nat):pS F G i (k+1) r=if r=i+k then pS F G i k (i+k)+F i*G k else pS F G i k r:=by
  by_cases e:r=i+k
  · subst e
    rw[if_pos rfl,pS,pS,if_pos ⟨by omega,by omega⟩,if_neg (by omega),show i+k - i=k by omega]
    grind
  · rw[if_neg e,pS,pS]
    congr 1
    by_cases h1:i≤r∧r - i < k
    · rw[if_pos h1,if_pos ⟨h1.1,by omega⟩]
    · rw[if_neg h1,if_neg (by omega)]
theorem qi6 {p:Int} (hp:zk p=true) (F G:Nat→Fq (nn p)):Ev (fun k=>qn.f k p (lstF (nn p) 100 F) (lstF (nn p) 100 G)) (lstF (nn p) 100 (mulP F G)):=by
  have hb:=zn hp
  have hn:=nn_p hp
  have lF:=Jw (nn p) 100 F
  have lG:=Jw (nn p) 100 G
  have hv:∀ a:Fq (nn p),0≤((a.val:Nat):Int)∧((a.val:Nat):Int) < p:=fun a=>by have:=a.isLt;omega
  have rF:∀ (H:Nat→Fq (nn p)) (j:Nat),j < 100→rd (lstF (nn p) 100 H) (j:Int)=(((H j).val:Nat):Int):=fun H j hj=>qhu H j hj
  have h1 : ∀ (i : Nat) (R : List Int), i < 100 → Ev (fun q => qn.l0 q p (lstF (nn p) 100 F) (lstF (nn p) 100 G) (lstF (nn p) 100 (pS F G (i + 1) 0)) ((i + 1 : Nat) : Int)) R → ∀ (d k : Nat), i + k + d = 100 → Ev (fun q => qn.l1 q p (lstF (nn p) 100 F) (lstF (nn p) 100 G) (lstF (nn p) 100 (pS F G i k)) (i : Int) (k : Int)) R := by
    intro i R hi hend d
    induction d with
    | zero=>
      intro k hk
      have e:lstF (nn p) 100 (pS F G i k)=lstF (nn p) 100 (pS F G (i+1) 0):=qbb fun r hr=>by rw[show k=100 - i by omega];exact qp3 F G i r 100 hr (by omega)
      rw[e]
      refine Ev.step (fun q=>by rw[qn.l1,wsm (by omega) (by omega),if_neg (by omega),wsm (by omega) (by omega)]) ?_
      exact hend
    | succ d ih=>
      intro k hk
      have lS:=Jw (nn p) 100 (pS F G i k)
      by_cases hz:rd (lstF (nn p) 100 G) (k:Int)=0
      · have e:lstF (nn p) 100 (pS F G i k)=lstF (nn p) 100 (pS F G i (k+1)):=qbb fun r _=>(qpy F G i k r (by rw[rF G k (by omega)]at hz;exact Fin.ext (by show (G k).val=0;omega))).symm
        rw[e]
        refine Ev.step (fun q=>by rw[qn.l1,wsm (i:=(i:Int)+k) (by omega) (by omega),if_pos (by omega),if_pos (by omega),if_pos (by omega),if_pos hz,wsm (by omega) (by omega)]) ?_
        exact ih (k+1) (by omega)
      · have e1:((i:Int)+(k:Int))=((i+k:Nat):Int):=by omega
        have b1:=hv (F i)
        have b2:=hv (G k)
        have b3:=hv (pS F G i k (i+k))
        have b4:=Zy (p:=p) ⟨by omega,by omega⟩ b1 b2
        have b5:0≤(((pS F G i k (i+k)).val:Nat):Int)+(((F i).val:Nat):Int)*(((G k).val:Nat):Int):=by omega
        have e2:(lstF (nn p) 100 (pS F G i k)).set (i+k) (((((pS F G i k (i+k)).val:Nat):Int)+(((F i).val:Nat):Int)*(((G k).val:Nat):Int)) % p)=lstF (nn p) 100 (pS F G i (k+1)):=by
          rw[qpf hp _ _ _ ⟨Int.emod_nonneg _ (by omega),Int.emod_lt_of_pos _ (by omega)⟩]
          refine qbb fun r _=>?_
          rw[qp1,qka hp,qb4,qdv,qar,qar,qar]
        refine Ev.step (fun q=>by rw[qn.l1,wsm (i:=(i:Int)+k) (by omega) (by omega),if_pos (by omega),if_pos (by omega),if_pos (by omega),if_neg hz,if_pos (by omega),if_pos (by omega),if_pos (by omega),if_pos (by omega),if_neg (by omega),e1,rF _ (i+k) (by omega),rF F i hi,rF G k (by omega),Int.toNat_natCast,wsm (i:=(((F i).val:Nat):Int)*_) (by omega) (by omega),wsm (i:=_ +_) (by omega) (by omega),Int.tmod_eq_emod_of_nonneg b5,e2,wsm (i:=(k:Int)+1) (by omega) (by omega)]) ?_
        exact ih (k+1) (by omega)
  have h0:∀ (d i:Nat),i+d=100→Ev (fun q=>qn.l0 q p (lstF (nn p) 100 F) (lstF (nn p) 100 G) (lstF (nn p) 100 (pS F G i 0)) (i:Int)) (lstF (nn p) 100 (mulP F G)):=by
    intro d
    induction d with
    | zero=>
      intro i hi
      obtain rfl:i=100:=by omega
      have e:lstF (nn p) 100 (pS F G 100 0)=lstF (nn p) 100 (mulP F G):=qbb fun r hr=>pS_end F G r 100 hr
      rw[e]
      exact Ev.step (f:=fun _=>some (lstF (nn p) 100 (mulP F G))) (fun q=>by rw[qn.l0,if_neg (by omega)]) (Ev.now _)
    | succ d ih=>
      intro i hi
      by_cases hz:rd (lstF (nn p) 100 F) (i:Int)=0
      · have e:lstF (nn p) 100 (pS F G i 0)=lstF (nn p) 100 (pS F G (i+1) 0):=qbb fun r _=>(qp8 F G i (by rw[rF F i (by omega)]at hz;exact Fin.ext (by show (F i).val=0;omega)) r).symm
        rw[e]
        refine Ev.step (fun q=>by rw[qn.l0,if_pos (by omega),if_pos (by omega),if_pos (by omega),if_pos hz,wsm (by omega) (by omega)]) ?_
        exact ih (i+1) (by omega)
      · refine Ev.step (fun q=>by rw[qn.l0,if_pos (by omega),if_pos (by omega),if_pos (by omega),if_neg hz]) ?_
        exact h1 i _ (by omega) (ih (i+1) (by omega)) (100 - i) 0 (by omega)
  have e:List.replicate 100 (0:Int)=lstF (nn p) 100 (pS F G 0 0):=qkt hp ⟨by simp,fun x hx=>by have:=(List.mem_replicate.1 hx).2;omega⟩ _ fun r hr=>by
    rw[qo4]
    simp only[fn,rd,Int.toNat_natCast,List.getD_eq_getElem?_getD,List.getElem?_replicate,if_pos hr,Option.getD_some,qc9]
  unfold qn.f
  refine Ev.yes (by omega) ?_
  rw[e]
  exact h0 100 0 rfl
end Go.Proofs.Ytmgbpmihbljngaa.PA
namespace Go.Proofs.Ytmgbpmihbljngaa.PA
open Go.RowKit Go.Proofs.YtmgbpmihbljngaaW.PrintWords Go.Proofs.YtmgbpmihbljngaaW.PrintLast Go.Proofs.YtmgbpmihbljngaaW.PrintMore
set_option linter.unusedVariables false
set_option linter.unusedSimpArgs false
theorem qol {p:Int} (l:List S43) (hg:genB p (tps l)=true):Ev (fun k=>qk.f k p l) (surP p (tps l)):=by
  obtain⟨hp,h6,ha,_⟩:=Q3 hg
  have hb:=zn hp
  have hlen:(tps l).length=l.length:=by simp[tps]
  have hin:∀ j,j < l.length→inP p ((tps l).getD j (0,0,0)):=fun j hj=>qex ((qa2 ha).1 j (by omega))
  have hbl:=qdf hp h6 (qb7 hg)
  generalize hQ:tps l=Q at*
  generalize hB:basP p Q=B at*
  have hS:∀ i,i < 4→Ev (fun k=>qx.f k (B.getD i [])) (lstF (nn p) 100 (basS p Q i)):=fun i hi=>by
    have:=qf4 (Q:=Q) hp i (by rw[hB];omega)
    rw[hB]at this
    have h:=qhr hp _ this
    rwa [show (sprd fun j=>fi (nn p) (fn (B.getD i []) j))=basS p Q i by rw[← hB];rfl]at h
  generalize hC:((List.range 4).map fun i=>lstF (nn p) 100 (basS p Q i))=C
  have lC:C.length=4:=by rw[← hC];simp
  have aC:∀ i:Nat,i < 4→jk C (i:Int)=lstF (nn p) 100 (basS p Q i):=fun i hi=>by
    rw[qa3,← hC,List.getD_eq_getElem?_getD];simp[hi]
  have hT:∀ (F:Nat→Fq (nn p)) (i:Nat),i < 4→Ev (fun k=>qn.f k p (lstF (nn p) 100 F) (jk C (i:Int))) (lstF (nn p) 100 (mulP F (basS p Q i))):=fun F i hi=>by rw[aC i hi];exact qi6 hp F _
  have h4:∀ (D:List (List Int)),D=((List.range 20).map fun c=>lstF (nn p) 100 (proT (basS p Q) c))→∀ (d i:Nat) (acc:List (List Int)),i+d=100→acc=(surT p Q).take i→Ev (fun q=>qk.l4 q p D acc (i:Int)) (surP p Q):=by
    intro D hD
    have lD:D.length=20:=by rw[hD];simp
    have aD:∀ c:Nat,c < 20→jk D (c:Int)=lstF (nn p) 100 (proT (basS p Q) c):=fun c hc=>by
      rw[qa3,hD,List.getD_eq_getElem?_getD];simp[hc]
    have h5:∀ (r:Nat) (acc:List (List Int)) (R:List Int),r < 100→acc.length≤1000→Ev (fun q=>qk.l4 q p D (acc++[lstF (nn p) 20 fun c=>proT (basS p Q) c r]) ((r+1:Nat):Int)) R→∀ (d c:Nat) (row:List Int),c+d=20→row=lstF (nn p) c (fun c=>proT (basS p Q) c r)→Ev (fun q=>qk.l5 q p D acc (r:Int) row (c:Int)) R:=by
      intro r acc R hr hacc hend d
      induction d with
      | zero=>
        intro c row hc hrow
        obtain rfl:c=20:=by omega
        subst hrow
        refine Ev.step (fun q=>by rw[qk.l5,if_neg (by omega),if_pos (by omega),wsm (by omega) (by omega)]) ?_
        exact hend
      | succ d ih=>
        intro c row hc hrow
        have hl:row.length=c:=by rw[hrow,Jw]
        refine Ev.step (fun q=>by rw[qk.l5,if_pos (by omega),if_pos (by omega),if_pos (by omega),if_pos (by omega),aD c (by omega),if_pos (by rw[Jw];omega),if_pos (by omega),wsm (by omega) (by omega)]) ?_
        refine ih (c+1) _ (by omega) ?_
        have e:rd (lstF (nn p) 100 (proT (basS p Q) c)) (r:Int)=(((proT (basS p Q) c r).val:Nat):Int):=qhu _ r hr
        rw[hrow,e,lstF,lstF,List.range_succ,List.map_append]
        rfl
    intro d
    induction d with
    | zero=>
      intro i acc hi hacc
      rw[List.take_of_length_le (by simp[surT];omega)]at hacc
      subst hacc
      have hn:Ev (fun k=>qm.f k p (surT p Q) 20) (Zq p 20 (surT p Q)):=qdx hp (w:=20) (by omega) (surT p Q) (by simp[surT]) (qhc hp Q)
      refine Ev.step (fun q=>by rw[qk.l4,if_neg (by omega)]) (Ev.bind hn ?_)
      have hne:0 < (Zq p 20 (surT p Q)).length:=List.length_pos_iff.2 (qn9 hg)
      refine Ev.yes (by omega) ?_
      rw[show ((0:Int))=((0:Nat):Int) from rfl,qa3]
      exact Ev.now _
    | succ d ih=>
      intro i acc hi hacc
      have hal:acc.length≤1000:=by rw[hacc,List.length_take];simp[surT];omega
      refine Ev.step (fun q=>by rw[qk.l4,if_pos (by omega)]) ?_
      refine h5 i acc _ (by omega) hal (ih (i+1) _ (by omega) ?_) 20 0 [] rfl rfl
      rw[hacc,List.take_add_one,surT,List.getElem?_map,List.getElem?_range (by omega)]
      rfl
  have h3:∀ (i j:Nat) (acc:List (List Int)) (R:List Int),i < 4→j < 4→acc.length≤1000→∀ (d k:Nat),k+d=4→acc.length≤1000 - d→∀ M,M=acc++(List.range' k d).map (fun k=>lstF (nn p) 100 (mulP (mulP (basS p Q i) (basS p Q j)) (basS p Q k)))→Ev (fun q=>qk.l2 q p C M (i:Int) ((j+1:Nat):Int)) R→Ev (fun q=>qk.l3 q p C acc (i:Int) (j:Int) (lstF (nn p) 100 (mulP (basS p Q i) (basS p Q j))) (k:Int)) R:=by
    intro i j acc R hi hj ha d
    induction d generalizing acc with
    | zero=>
      intro k hk _ M hM hend
      simp at hM
      subst hM
      refine Ev.step (fun q=>by rw[qk.l3,if_neg (by omega),wsm (by omega) (by omega)]) ?_
      exact hend
    | succ d ih=>
      intro k hk ha2 M hM hend
      refine Ev.step (fun q=>by rw[qk.l3,if_pos (by omega),if_pos (by omega),if_pos (by omega)]) (Ev.bind (hT _ k (by omega)) ?_)
      refine Ev.yes (show acc.length < 5864062014805 by omega) ?_
      rw[wsm (by omega) (by omega)]
      refine ih (acc++[lstF (nn p) 100 (mulP (mulP (basS p Q i) (basS p Q j)) (basS p Q k))]) (by simp;omega) (k+1) (by omega) (by simp;omega) M ?_ hend
      rw[hM,List.range'_succ]
      simp
  have h2:∀ (i:Nat) (R:List Int),i < 4→∀ (d j:Nat) (acc:List (List Int)),j+d=4→acc.length≤900 - 20*d→∀ M,M=acc++((List.range' j d).map fun j=>(List.range' j (4 - j)).map (fun k=>lstF (nn p) 100 (mulP (mulP (basS p Q i) (basS p Q j)) (basS p Q k)))).flatten→Ev (fun q=>qk.l1 q p C M ((i+1:Nat):Int)) R→Ev (fun q=>qk.l2 q p C acc (i:Int) (j:Int)) R:=by
    intro i R hi d
    induction d with
    | zero=>
      intro j acc hj _ M hM hend
      simp at hM
      subst hM
      refine Ev.step (fun q=>by rw[qk.l2,if_neg (by omega),wsm (by omega) (by omega)]) ?_
      exact hend
    | succ d ih=>
      intro j acc hj ha M hM hend
      have ht:=hT (basS p Q i) j (by omega)
      rw[← aC i hi]at ht
      refine Ev.step (fun q=>by rw[qk.l2,if_pos (by omega),if_pos (by omega),if_pos (by omega),if_pos (by omega),if_pos (by omega)]) (Ev.bind ht ?_)
      refine h3 i j acc R hi (by omega) (by omega) (4 - j) j (by omega) (by omega) _ rfl (ih (j+1) _ (by omega) (by simp;omega) M ?_ hend)
      rw[hM,List.range'_succ]
      simp
  have h1:∀ (R:List Int) (d i:Nat) (acc:List (List Int)),i+d=4→acc.length≤800 - 100*d→∀ M,M=acc++((List.range' i d).map fun i=>((List.range' i (4 - i)).map fun j=>(List.range' j (4 - j)).map (fun k=>lstF (nn p) 100 (mulP (mulP (basS p Q i) (basS p Q j)) (basS p Q k)))).flatten).flatten→Ev (fun q=>qk.l4 q p M [] 0) R→Ev (fun q=>qk.l1 q p C acc (i:Int)) R:=by
    intro R d
    induction d with
    | zero=>
      intro i acc hi _ M hM hend
      simp at hM
      subst hM
      exact Ev.step (fun q=>by rw[qk.l1,if_neg (by omega)]) hend
    | succ d ih=>
      intro i acc hi ha M hM hend
      refine Ev.step (fun q=>by rw[qk.l1,if_pos (by omega)]) ?_
      have hlen:(((List.range' i (4 - i)).map fun j=>(List.range' j (4 - j)).map (fun k=>lstF (nn p) 100 (mulP (mulP (basS p Q i) (basS p Q j)) (basS p Q k)))).flatten).length≤16:=by
        rcases (show i=0∨i=1∨i=2∨i=3 by omega) with rfl | rfl | rfl | rfl<;>simp[List.range']<;>omega
      refine h2 i R (by omega) (4 - i) i acc (by omega) (by omega) _ rfl (ih (i+1) _ (by omega) (by rw[List.length_append];omega) M ?_ hend)
      rw[hM,List.range'_succ]
      simp
  have h0:∀ (d i:Nat) (acc:List (List Int)),i+d=4→acc=C.take i→Ev (fun q=>qk.l0 q p B acc (i:Int)) (surP p Q):=by
    intro d
    induction d with
    | zero=>
      intro i acc hi hacc
      rw[List.take_of_length_le (by omega)]at hacc
      subst hacc
      refine Ev.step (fun q=>by rw[qk.l0,if_neg (by omega)]) ?_
      refine h1 _ 4 0 [] rfl (by simp) _ rfl (h4 _ ?_ 100 0 [] rfl rfl)
      rfl
    | succ d ih=>
      intro i acc hi hacc
      have hs:=hS i (by omega)
      have hal:acc.length≤1000:=by rw[hacc,List.length_take];omega
      refine Ev.step (fun q=>by rw[qk.l0,if_pos (by omega),if_pos (by omega),if_pos (by omega),qa3]) (Ev.bind hs ?_)
      refine Ev.yes (show acc.length < 5864062014805 by omega) ?_
      rw[wsm (by omega) (by omega)]
      refine ih (i+1) _ (by omega) ?_
      rw[hacc,List.take_add_one,← hC,List.getElem?_map,List.getElem?_range (by omega)]
      rfl
  unfold qk.f
  have hbase:=qg1 hp l (by omega) (by rw[hQ];exact hin)
  rw[hQ,hB]at hbase
  exact Ev.bind hbase (h0 4 0 [] rfl rfl)
end Go.Proofs.Ytmgbpmihbljngaa.PA
namespace Go.Proofs.Ytmgbpmihbljngaa.PA
open Go.RowKit Go.Proofs.YtmgbpmihbljngaaW.PrintWords Go.Proofs.YtmgbpmihbljngaaW.PrintLast Go.Proofs.YtmgbpmihbljngaaW.PrintMore
set_option linter.unusedVariables false
set_option linter.unusedSimpArgs false
def qiy (p:Int) (Q:List (Int×Int×Int)):List Int×Bool:=if genB p Q=true then (surP p Q,true) else ([],false)
end Go.Proofs.Ytmgbpmihbljngaa.PA
namespace Go.Proofs.Ytmgbpmihbljngaa.PA
open Go.RowKit Go.Proofs.YtmgbpmihbljngaaW.PrintWords Go.Proofs.YtmgbpmihbljngaaW.PrintLast Go.Proofs.YtmgbpmihbljngaaW.PrintMore
set_option linter.unusedVariables false
set_option linter.unusedSimpArgs false
theorem qf6 (p:Int) (l:List S43):Ev (fun k=>Qi.f k p l) (qiy p (tps l)):=by
  unfold Qi.f qiy
  refine Ev.bind (Jo p l) ?_
  cases hg:genB p (tps l) with
  | true=>exact Ev.yes rfl (Ev.bind (qol l hg) (Ev.now _))
  | false=>exact Ev.no (by simp) (Ev.now _)
end Go.Proofs.Ytmgbpmihbljngaa.PA
namespace Go.Proofs.Ytmgbpmihbljngaa.PA
open Go.RowKit Go.Proofs.YtmgbpmihbljngaaW.PrintWords Go.Proofs.YtmgbpmihbljngaaW.PrintLast Go.Proofs.YtmgbpmihbljngaaW.PrintMore
set_option linter.unusedVariables false
set_option linter.unusedSimpArgs false
set_option maxHeartbeats 4000000 in
theorem qch (l:List Int) (h:∀ x∈l,(Lit.int .u8 x).wf=true):∃ p f m,Ev (fun k=>qr.f k l) (p,f,m)∧f.length≤20:=by
  obtain⟨b,hb,hok⟩:=qms l h
  obtain⟨p,six,s,he,hl,g1,g2,g3,g4⟩:=qmn b hok 0 (by omega) (by omega)
  have hs:=qf6 p six
  obtain⟨v,hv,v0,_⟩:=Q0 b hok s 27 (by omega) (by omega)
  have hsl:=qel p six v
  have hf20:(qiy p (tps six)).1.length≤20:=by
    unfold qiy
    split
    · rename_i hg
      have:=(sur_ok hg).1
      show (surP p (tps six)).length≤20
      omega
    · simp
  have hj:∀ (F L:List Int) (t:Int),0≤t→t≤1000→∃ q f m,Ev (fun k=>qr.j0 k p F L false b t) (q,f,m)∧f.length≤20:=fun F L t h0 h1=>by
    obtain⟨f,s2,hf,hfl,_,_⟩:=qkx b hok p t (by omega) (by omega) (by omega)
    obtain⟨m,s3,hm,_,_,_⟩:=qj8 b hok p s2 (by omega) (by omega) (by omega)
    exact⟨p,f,m,Ev.step (f:=fun k=>(zf.f k b t p).bind fun bt680=>(jb.f k b bt680.2 p).bind fun bt684=>some (p,bt680.1,bt684.1)) (fun k=>by rw[qr.j0,if_neg (by simp)]) (Ev.bind hf (Ev.bind hm (Ev.now _))),hfl⟩
  unfold qr.f
  generalize qiy p (tps six)=S at hs hf20
  generalize qon p (tps six) v=M at hsl
  obtain⟨F,u⟩:=S
  obtain⟨L,x⟩:=M
  cases u with
  | false=>
    obtain⟨q,f,m,hq,hf⟩:=hj F L (s+1) (by omega) (by omega)
    exact⟨q,f,m,Ev.bind (Ev.k hb) (Ev.bind he (Ev.bind hs (Ev.bind hv (Ev.bind hsl (Ev.no (by simp) hq))))),hf⟩
  | true=>
    cases x with
    | false=>
      obtain⟨q,f,m,hq,hf⟩:=hj F L (s+1) (by omega) (by omega)
      exact⟨q,f,m,Ev.bind (Ev.k hb) (Ev.bind he (Ev.bind hs (Ev.bind hv (Ev.bind hsl (Ev.yes rfl (Ev.no (by simp) hq)))))),hf⟩
    | true=>
      obtain⟨y,hy,y0,_⟩:=Q0 b hok (s+1) 3 (by omega) (by omega)
      by_cases e:y>0
      · refine⟨p,F,L,Ev.bind (Ev.k hb) (Ev.bind he (Ev.bind hs (Ev.bind hv (Ev.bind hsl (Ev.yes rfl (Ev.yes rfl (Ev.bind hy ?_))))))),hf20⟩
        rw[decide_eq_true e]
        exact Ev.step (f:=fun _=>some (p,F,L)) (fun k=>by rw[qr.j0,if_pos rfl]) (Ev.now _)
      · obtain⟨q,f,m,hq,hf⟩:=hj F L (s+1+1) (by omega) (by omega)
        refine⟨q,f,m,Ev.bind (Ev.k hb) (Ev.bind he (Ev.bind hs (Ev.bind hv (Ev.bind hsl (Ev.yes rfl (Ev.yes rfl (Ev.bind hy ?_))))))),hf⟩
        rw[decide_eq_false e]
        exact hq
end Go.Proofs.Ytmgbpmihbljngaa.PA
namespace Go.Proofs.Ytmgbpmihbljngaa.PA
open Go.RowKit Go.Proofs.YtmgbpmihbljngaaW.PrintWords Go.Proofs.YtmgbpmihbljngaaW.PrintLast Go.Proofs.YtmgbpmihbljngaaW.PrintMore
set_option linter.unusedVariables false
set_option linter.unusedSimpArgs false
def xs2 (f a:List Int) (two:Int):Nat→Int→Int→Int→Int
  | 0,s,_,_=>s
  | d+1,s,n,l=>xs2 f a two d (s+rd f n*two*rd a l) (n+1) (l+1)
def xs1 (f a:List Int) (i:Int):Nat→Int→Int→Int→Int
  | 0,s,_,_=>s
  | d+1,s,n,j=>xs1 f a i d (xs2 f a (rd a i*rd a j) (d+1) s n j) (n+(d+1:Nat)) (j+1)
def xs0 (f a:List Int):Nat→Int→Int→Int→Int
  | 0,s,_,_=>s
  | d+1,s,n,i=>xs0 f a d (xs1 f a i (d+1) s n i) (n+tri (d+1)) (i+1)
def xval (f a:List Int):Int:=xs0 f a 4 0 0 0
def J0 (l:List Int):Prop:=∀ i,0≤rd l i∧rd l i≤30
theorem qah {p:Int} {l:List Int} {n:Nat} (h:Qr p l n=true):J0 l:=by
  intro i
  obtain⟨hp,hl,hr⟩:=je h
  have hb:=zn hp
  unfold rd
  rw[List.getD_eq_getElem?_getD]
  cases hi:l[i.toNat]? with
  | none=>simp
  | some x=>have:=hr x (List.mem_of_getElem? hi);simp;omega
theorem qam {x y a b:Int} (h0:0≤x) (h1:x≤a) (h2:0≤y) (h3:y≤b):0≤x*y∧x*y≤a*b:=
  ⟨Int.mul_nonneg h0 h2,Int.le_trans (Int.mul_le_mul_of_nonneg_right h1 h2) (Int.mul_le_mul_of_nonneg_left h3 (Int.le_trans h0 h1))⟩
theorem vs2_eq (f a:List Int) (hf:J0 f) (ha:J0 a) (two:Int) (ht:0≤two∧two≤900) (d:Nat):∀ (s n l:Int),0≤s→s+d*1000000≤100000000→
    vs2 f a two d s n l=xs2 f a two d s n l∧0≤xs2 f a two d s n l∧xs2 f a two d s n l≤s+d*1000000:=by
  induction d with
  | zero=>intro s n l h0 h1;exact⟨rfl,h0,by rw[xs2];omega⟩
  | succ d ih=>
    intro s n l h0 h1
    have m1:=qam (hf n).1 (hf n).2 ht.1 ht.2
    have m2:=qam m1.1 m1.2 (ha l).1 (ha l).2
    rw[vs2,xs2,wsm (i:=rd f n*two) (by omega) (by omega),wsm (i:=rd f n*two*rd a l) (by omega) (by omega),wsm (by omega) (by omega)]
    have ih:=ih (s+rd f n*two*rd a l) (n+1) (l+1) (by omega) (by omega)
    refine⟨ih.1,ih.2.1,?_⟩
    have:=ih.2.2
    omega
theorem qhv (f a:List Int) (hf:J0 f) (ha:J0 a) (i:Int) (d:Nat):∀ (s n j:Int),0≤s→s+(tri d)*1000000≤100000000→
    (vs1 f a i d s n j).1=xs1 f a i d s n j∧0≤xs1 f a i d s n j∧xs1 f a i d s n j≤s+(tri d)*1000000:=by
  induction d with
  | zero=>intro s n j h0 h1;exact⟨rfl,h0,by rw[xs1];omega⟩
  | succ d ih=>
    intro s n j h0 h1
    have m1:=qam (ha i).1 (ha i).2 (ha j).1 (ha j).2
    rw[tri]at h1
    rw[vs1,xs1,wsm (i:=rd a i*rd a j) (by omega) (by omega)]
    have h2:=vs2_eq f a hf ha (rd a i*rd a j) (by omega) (d+1) s n j h0 (by omega)
    rw[h2.1]
    have ih:=ih (xs2 f a (rd a i*rd a j) (d+1) s n j) (n+(d+1:Nat)) (j+1) h2.2.1 (by omega)
    refine⟨ih.1,ih.2.1,?_⟩
    have h3:=ih.2.2
    have h4:=h2.2.2
    rw[tri]
    omega
theorem qou (f a:List Int) (hf:J0 f) (ha:J0 a):vs0 f a 4 0 0 0=xval f a∧0≤xval f a∧xval f a≤100000000:=by
  have h4:=qhv f a hf ha 0 4 0 0 0 (by omega) (by simp[tri])
  have h3:=qhv f a hf ha 1 3 _ (0+tri 4) 1 h4.2.1 (by have:=h4.2.2;simp[tri]at this ⊢;omega)
  have h2:=qhv f a hf ha 2 2 _ (0+tri 4+tri 3) 2 h3.2.1 (by have:=h4.2.2;have:=h3.2.2;simp[tri]at*;omega)
  have h1:=qhv f a hf ha 3 1 _ (0+tri 4+tri 3+tri 2) 3 h2.2.1 (by have:=h4.2.2;have:=h3.2.2;have:=h2.2.2;simp[tri]at*;omega)
  unfold xval
  simp only[vs0,xs0,qee]
  simp only[Int.zero_add,show (1:Int)+1=2 from rfl,show (2:Int)+1=3 from rfl]at*
  rw[h4.1,h3.1,h2.1,h1.1]
  refine⟨rfl,h1.2.1,?_⟩
  have a1:=h1.2.2
  have a2:=h2.2.2
  have a3:=h3.2.2
  have a4:=h4.2.2
  simp[tri]at*
  omega
theorem qpt {p:Int} {f a:List Int} (hf:J0 f) (ha:J0 a):valI p f a=xval f a % p:=by
  unfold valI
  rw[(qou f a hf ha).1,Int.tmod_eq_emod_of_nonneg (qou f a hf ha).2.1]
theorem qgh (p:Int) (f a:List Int) (hp:7≤p∧p≤31) (hf:f.length=20) (ha:a.length=4) (sf:J0 f) (sa:J0 a):Ev (fun k=>qp.f k p f a) (xval f a % p):=by
  have h:=qjw p f a (by omega) hf ha
  rwa [qpt sf sa]at h
end Go.Proofs.Ytmgbpmihbljngaa.PA
namespace Go.Proofs.Ytmgbpmihbljngaa.PA
open Go.RowKit Go.Proofs.YtmgbpmihbljngaaW.PrintWords Go.Proofs.YtmgbpmihbljngaaW.PrintLast Go.Proofs.YtmgbpmihbljngaaW.PrintMore
set_option linter.unusedVariables false
set_option linter.unusedSimpArgs false
def Zx (p:Int) (f:List Int):List Int:=f.map fun x=>2*x % p
theorem qop (p:Int) (f:List Int) (i:Int):rd (Zx p f) i=2*rd f i % p:=by
  unfold rd Zx
  rw[List.getD_eq_getElem?_getD,List.getD_eq_getElem?_getD,List.getElem?_map]
  cases f[i.toNat]?<;>simp
theorem qj6 {p:Int} {f:List Int} {n:Nat} (h:Qr p f n=true):Qr p (Zx p f) n=true:=by
  obtain⟨hp,hl,hr⟩:=je h
  have hb:=zn hp
  refine qad hp (by simp[Zx,hl]) (fun x hx=>?_)
  obtain⟨y,_,rfl⟩:=List.mem_map.1 hx
  exact⟨Int.emod_nonneg _ (by omega),Int.emod_lt_of_pos _ (by omega)⟩
theorem qj2 (p s s' x t y:Int) (h:s' % p=(2*s) % p):(s'+2*x % p*t*y) % p=(2*(s+x*t*y)) % p:=by
  have e1:(2*x % p*t*y) % p=(2*(x*t*y)) % p:=by
    rw[Int.mul_emod,Int.mul_emod (2*x % p) t p,Int.emod_emod,← Int.mul_emod (2*x) t p,← Int.mul_emod]
    congr 1
    simp only[Int.mul_assoc]
  rw[Int.add_emod,h,e1,← Int.add_emod,Int.mul_add]
theorem qg6 (p:Int) (f a:List Int) (t:Int):∀ (d:Nat) (s s' n l:Int),s' % p=(2*s) % p→xs2 (Zx p f) a t d s' n l % p=(2*xs2 f a t d s n l) % p
  | 0,s,s',n,l,h=>h
  | d+1,s,s',n,l,h=>by
    rw[xs2,xs2,qop]
    exact qg6 p f a t d _ _ _ _ (qj2 p s s' _ _ _ h)
theorem qgt (p:Int) (f a:List Int) (i:Int):∀ (d:Nat) (s s' n j:Int),s' % p=(2*s) % p→xs1 (Zx p f) a i d s' n j % p=(2*xs1 f a i d s n j) % p
  | 0,s,s',n,j,h=>h
  | d+1,s,s',n,j,h=>by
    rw[xs1,xs1]
    exact qgt p f a i d _ _ _ _ (qg6 p f a _ (d+1) s s' n j h)
theorem qgy (p:Int) (f a:List Int):∀ (d:Nat) (s s' n i:Int),s' % p=(2*s) % p→xs0 (Zx p f) a d s' n i % p=(2*xs0 f a d s n i) % p
  | 0,s,s',n,i,h=>h
  | d+1,s,s',n,i,h=>by
    rw[xs0,xs0]
    exact qgy p f a d _ _ _ _ (qgt p f a i (d+1) s s' n i h)
theorem qki (p:Int) (f a:List Int):xval (Zx p f) a % p=(2*xval f a) % p:=qgy p f a 4 0 0 0 0 (by simp)
end Go.Proofs.Ytmgbpmihbljngaa.PA
namespace Go.Proofs.Ytmgbpmihbljngaa.PA
open Go.RowKit Go.Proofs.YtmgbpmihbljngaaW.PrintWords Go.Proofs.YtmgbpmihbljngaaW.PrintLast Go.Proofs.YtmgbpmihbljngaaW.PrintMore
set_option linter.unusedVariables false
set_option linter.unusedSimpArgs false
theorem qj9 (p:Int) (a:List Int):Zi.f p a=some (Qu p a):=by
  unfold Zi.f Qu
  rw[show (4:Int)=((4:Nat):Int) from rfl,qac]
  cases Qr p a 4<;>rfl
end Go.Proofs.Ytmgbpmihbljngaa.PA
namespace Go.Proofs.Ytmgbpmihbljngaa.PA
open Go.RowKit Go.Proofs.YtmgbpmihbljngaaW.PrintWords Go.Proofs.YtmgbpmihbljngaaW.PrintLast Go.Proofs.YtmgbpmihbljngaaW.PrintMore
set_option linter.unusedVariables false
set_option linter.unusedSimpArgs false
def qj3 (p:Int) (f a:List Int):Int×Bool:=if Qr p f 20=true then (if Qu p a=true then (xval f a % p,true) else (0,false)) else (0,false)
theorem qil {p:Int} {a:List Int} (h:Qu p a=true):Qr p a 4=true:=by
  unfold Qu at h
  rw[Bool.and_eq_true]at h
  exact h.1
theorem qgc (p:Int) (f a:List Int):Ev (fun k=>j7.f k p f a) (qj3 p f a):=by
  unfold j7.f qj3
  refine Ev.bind (Ev.k (show ja.f p f 20=some (Qr p f 20) from qac p f 20)) ?_
  cases hf:Qr p f 20
  · exact Ev.no (by simp) (Ev.now _)
  · refine Ev.yes rfl (Ev.bind (Ev.k (qj9 p a)) ?_)
    cases ha:Qu p a
    · exact Ev.no (by simp) (Ev.now _)
    · have hn:=qil ha
      obtain⟨hp,hl,_⟩:=je hf
      exact Ev.yes rfl (Ev.bind (qgh p f a (zn hp) hl (je hn).2.1 (qah hf) (qah hn)) (Ev.now _))
end Go.Proofs.Ytmgbpmihbljngaa.PA
namespace Go.Proofs.Ytmgbpmihbljngaa.PA
open Go.RowKit Go.Proofs.YtmgbpmihbljngaaW.PrintWords Go.Proofs.YtmgbpmihbljngaaW.PrintLast Go.Proofs.YtmgbpmihbljngaaW.PrintMore
set_option linter.unusedVariables false
set_option linter.unusedSimpArgs false
theorem qp0 {p:Int} (h:zk p=true) (x:Int):(decide (0≤x) && decide (x≤wrap64 (p - 1)))=(decide (0≤x) && decide (x < p)):=by
  have:=zn h
  rw[wsm (by omega) (by omega)]
  congr 1
  rw[Bool.eq_iff_iff,decide_eq_true_iff,decide_eq_true_iff]
  omega
theorem qjo (p:Int) (l:List Int) (hl:l.length≤1000000000):∀ (d:Nat) (i:Nat),i+d=l.length→Ev (fun k=>zv.l0 k p l (i:Int)) (((l.drop i).all fun x=>decide (0≤x) && decide (x≤wrap64 (p - 1))) && zk p && decide (l.length=20))
  | 0,i,h=>by
    refine Ev.step (f:=fun _=>some (zk p && decide (l.length=20))) (fun k=>?_) ?_
    · rw[zv.l0,if_neg (by omega),Z4]
      cases zk p
      · rfl
      · simp only[Option.bind_some,if_true,Bool.true_and]
        congr 1
        rw[Bool.eq_iff_iff,beq_iff_eq,decide_eq_true_iff];omega
    · rw[List.drop_eq_nil_of_le (by omega)];exact Ev.now _
  | d + 1, i, h => by
    have ih:=qjo p l hl d (i+1) (by omega)
    rw[qa1 l i (by omega),List.all_cons]
    cases hb:(decide (0≤rd l (i:Int)) && decide (rd l (i:Int)≤wrap64 (p - 1)))
    · refine Ev.step (f:=fun _=>some false) (fun k=>?_) ?_
      · rw[zv.l0,if_pos (by omega),if_pos (by omega),qez,hb];rfl
      · exact Ev.now _
    · refine Ev.step (f:=fun k=>zv.l0 k p l ((i+1:Nat):Int)) (fun k=>?_) ?_
      · rw[zv.l0,if_pos (by omega),if_pos (by omega),qez,hb,wsm (by omega) (by omega)]
        simp
      · simpa using ih
theorem qmi (p:Int) (l:List Int) (hl:l.length≤1000000000):Ev (fun k=>zv.f k p l) (Qr p l 20):=by
  have h:=qjo p l hl l.length 0 (by omega)
  unfold zv.f
  have e:((l.all fun x=>decide (0≤x) && decide (x≤wrap64 (p - 1))) && zk p && decide (l.length=20))=Qr p l 20:=by
    unfold Qr
    cases hp:zk p
    · simp
    · have:(fun x=>decide (0≤x) && decide (x≤wrap64 (p - 1)))=(fun x=>decide (0≤x) && decide (x < p)):=funext fun x=>qp0 hp x
      rw[this]
      cases (l.all fun x=>decide (0≤x) && decide (x < p))<;>cases decide (l.length=20)<;>rfl
  rw[← e]
  simpa using h
end Go.Proofs.Ytmgbpmihbljngaa.PA
namespace Go.Proofs.Ytmgbpmihbljngaa.PA
open Go.RowKit Go.Proofs.YtmgbpmihbljngaaW.PrintWords Go.Proofs.YtmgbpmihbljngaaW.PrintLast Go.Proofs.YtmgbpmihbljngaaW.PrintMore
set_option linter.unusedVariables false
set_option linter.unusedSimpArgs false
theorem qik (a b:List Int) (hab:a.length≤b.length) (hl:a.length≤1000000000):∀ (d i:Nat),i+d=a.length→Ev (fun k=>jm.l0 k a b (i:Int)) (decide (a.drop i=(b.take a.length).drop i))
  | 0,i,h=>by
    refine Ev.step (f:=fun _=>some true) (fun k=>?_) ?_
    · rw[jm.l0,if_neg (by omega)]
    · rw[List.drop_eq_nil_of_le (by omega),List.drop_eq_nil_of_le (by simp;omega)];exact Ev.now _
  | d + 1, i, h => by
    have ih:=qik a b hab hl d (i+1) (by omega)
    have e:rd (b.take a.length) (i:Int)=rd b (i:Int):=by
      rw[Ji _ i (by simp;omega),Ji b i (by omega)];simp
    rw[qa1 a i (by omega),qa1 (b.take a.length) i (by simp;omega),e]
    by_cases hz:rd a (i:Int)=rd b (i:Int)
    · refine Ev.step (f:=fun k=>jm.l0 k a b ((i+1:Nat):Int)) (fun k=>?_) ?_
      · rw[jm.l0,if_pos (by omega),if_pos (by omega),if_pos (by omega),if_pos hz,wsm (by omega) (by omega)];rfl
      · simpa [hz] using ih
    · refine Ev.step (f:=fun _=>some false) (fun k=>?_) ?_
      · rw[jm.l0,if_pos (by omega),if_pos (by omega),if_pos (by omega),if_neg hz]
      · rw[decide_eq_false (by simp[hz])]
        exact Ev.now false
theorem qmb (a b:List Int) (hab:a.length=b.length) (hl:a.length≤1000000000):Ev (fun k=>jm.f k a b) (decide (a=b)):=by
  unfold jm.f
  have h:=qik a b (by omega) hl a.length 0 (by omega)
  rw[hab,List.take_length]at h
  simpa using h
end Go.Proofs.Ytmgbpmihbljngaa.PA
namespace Go.Proofs.Ytmgbpmihbljngaa.PA
open Go.RowKit Go.Proofs.YtmgbpmihbljngaaW.PrintWords Go.Proofs.YtmgbpmihbljngaaW.PrintLast Go.Proofs.YtmgbpmihbljngaaW.PrintMore
set_option linter.unusedVariables false
set_option linter.unusedSimpArgs false
theorem qnf {p:Int} (hp:zk p=true) (x:Int):lowB p x=(decide (0≤x) && decide (x < p)):=by
  have hb:=zn hp
  rw[lowB,wsm (by omega) (by omega),show decide (x≤p - 1)=decide (x < p) from decide_eq_decide.2 (by omega)]
theorem qhy {M:List (List Int)} (h:M.length=2):M=[M.getD 0 [],M.getD 1 []]:=by
  match M,h with
  | [x,y],_=>rfl
theorem qi4 (p:Int) (l:List Int):Ev (fun k=>j5.f k p l) (Zp p l):=by
  unfold j5.f
  refine Ev.bind (Ev.k (Z4 p)) ?_
  cases hp:zk p with
  | false=>
    refine Ev.no (by simp) ?_
    rw[show Zp p l=false from by simp[Zp,Qr,hp]]
    exact Ev.now _
  | true=>
    have hb:=zn hp
    refine Ev.yes rfl ?_
    by_cases hl:l.length=8
    · refine Ev.yes hl ?_
      by_cases ha:l.all (lowB p)=true
      · refine Ev.yes ha ?_
        have hn:Qr p l 8=true:=qad hp hl (fun x hx=>by
          have h1:=List.all_eq_true.1 ha x hx
          rw[qnf hp]at h1
          simpa using h1)
        have hok:=J7 hn
        refine Ev.bind (qaz hp (w:=4) (by omega) _ hok (by simp)) ?_
        by_cases h2:(redP p 4 0 [l.take 4,l.drop 4] []).length=2
        · refine Ev.yes h2 ?_
          have hro:=qay (p:=p) (by omega) 4 0 _ [] hok (Zn p 4)
          have e:=qhy h2
          have hx:=hro ((redP p 4 0 [l.take 4,l.drop 4] []).getD 0 []) (Q6 (by omega))
          have hy:=hro ((redP p 4 0 [l.take 4,l.drop 4] []).getD 1 []) (Q6 (by omega))
          refine Ev.yes ⟨Nat.lt_of_le_of_lt (Nat.le_of_eq hx.1) (by omega),Nat.lt_of_le_of_lt (Nat.le_of_eq hy.1) (by omega)⟩ ?_
          have e2:qaf p 4 [l.take 4,l.drop 4]=(redP p 4 0 [l.take 4,l.drop 4] []).getD 0 []++(redP p 4 0 [l.take 4,l.drop 4] []).getD 1 []:=by
            rw[qaf]
            conv=>lhs;rw[e]
            simp
          rw[Zp,hn,Bool.true_and,e2]
          exact qmb _ _ (by rw[List.length_append,hx.1,hy.1,hl]) (by rw[List.length_append,hx.1,hy.1];omega)
        · refine Ev.no h2 ?_
          rw[show Zp p l=false from by
            cases hh:Zp p l with
            | false=>rfl
            | true=>exact absurd (qg3 hh) h2]
          exact Ev.now _
      · refine Ev.no ha ?_
        rw[show Zp p l=false from by
          cases hh:Zp p l with
          | false=>rfl
          | true=>
            refine absurd (List.all_eq_true.2 fun x hx=>?_) ha
            rw[qnf hp]
            simpa using (je (Jd hh)).2.2 x hx]
        exact Ev.now _
    · refine Ev.no hl ?_
      rw[show Zp p l=false from by
        cases hh:Zp p l with
        | false=>rfl
        | true=>exact absurd (je (Jd hh)).2.1 hl]
      exact Ev.now _
end Go.Proofs.Ytmgbpmihbljngaa.PA
namespace Go.Proofs.Ytmgbpmihbljngaa.PA
open Go.RowKit Go.Proofs.YtmgbpmihbljngaaW.PrintWords Go.Proofs.YtmgbpmihbljngaaW.PrintLast Go.Proofs.YtmgbpmihbljngaaW.PrintMore
set_option linter.unusedVariables false
set_option linter.unusedSimpArgs false
def qla (p s x u v y:Int):Int:=Int.tmod (wrap64 (s+(wrap64 ((Int.tmod (wrap64 ((Int.tmod (wrap64 (x*u)) p)*v)) p)*y)))) p
theorem qnv (p s s0 x u v y:Int) (hp:7≤p∧p≤31) (hs:s=s0 % p) (hx:0≤x∧x≤30) (hu:0≤u∧u≤30) (hv:0≤v∧v≤30) (hy:0≤y∧y≤30):qla p s x u v y=(s0+x*(u*v)*y) % p:=by
  have m1:=qam hx.1 hx.2 hu.1 hu.2
  have n1:=Int.emod_nonneg (x*u) (show p≠0 by omega)
  have n2:=Int.emod_lt_of_pos (x*u) (show 0 < p by omega)
  have m2:=qam n1 (show (x*u) % p≤30 by omega) hv.1 hv.2
  have n3:=Int.emod_nonneg ((x*u) % p*v) (show p≠0 by omega)
  have n4:=Int.emod_lt_of_pos ((x*u) % p*v) (show 0 < p by omega)
  have m3:=qam n3 (show (x*u) % p*v % p≤30 by omega) hy.1 hy.2
  have n5:=Int.emod_nonneg s0 (show p≠0 by omega)
  have n6:=Int.emod_lt_of_pos s0 (show 0 < p by omega)
  unfold qla
  rw[wsm (i:=x*u) (by omega) (by omega),Int.tmod_eq_emod_of_nonneg m1.1,wsm (i:=(x*u) % p*v) (by omega) (by omega),Int.tmod_eq_emod_of_nonneg m2.1,wsm (i:=(x*u) % p*v % p*y) (by omega) (by omega),hs,wsm (by omega) (by omega),Int.tmod_eq_emod_of_nonneg (by omega)]
  rw[Int.add_emod,Int.emod_emod,Int.mul_emod ((x*u) % p*v % p) y p,Int.emod_emod,Int.mul_emod ((x*u) % p) v p,Int.emod_emod,← Int.mul_emod (x*u) v p,← Int.mul_emod (x*u*v) y p,← Int.add_emod,Int.mul_assoc x u v]
def sv2 (p:Int) (f a:List Int) (i j:Int):Nat→Int→Int→Int→Int
  | 0,s,_,_=>s
  | d+1,s,n,l=>sv2 p f a i j d (qla p s (rd f n) (rd a i) (rd a j) (rd a l)) (n+1) (l+1)
def sv1 (p:Int) (f a:List Int) (i:Int):Nat→Int→Int→Int→Int
  | 0,s,_,_=>s
  | d+1,s,n,j=>sv1 p f a i d (sv2 p f a i j (d+1) s n j) (n+(d+1:Nat)) (j+1)
def sv0 (p:Int) (f a:List Int):Nat→Int→Int→Int→Int
  | 0,s,_,_=>s
  | d+1,s,n,i=>sv0 p f a d (sv1 p f a i (d+1) s n i) (n+tri (d+1)) (i+1)
theorem qni (p:Int) (f a:List Int) (hp:7≤p∧p≤31) (hf:J0 f) (ha:J0 a) (i j:Int):∀ (d:Nat) (s s0 n l:Int),s=s0 % p→sv2 p f a i j d s n l=xs2 f a (rd a i*rd a j) d s0 n l % p
  | 0,s,s0,n,l,h=>by rw[sv2,xs2,h]
  | d+1,s,s0,n,l,h=>by
    rw[sv2,xs2]
    exact qni p f a hp hf ha i j d _ _ _ _ (qnv p s s0 _ _ _ _ hp h (hf n) (ha i) (ha j) (ha l))
theorem qoi (p:Int) (f a:List Int) (hp:7≤p∧p≤31) (hf:J0 f) (ha:J0 a) (i:Int):∀ (d:Nat) (s s0 n j:Int),s=s0 % p→sv1 p f a i d s n j=xs1 f a i d s0 n j % p
  | 0,s,s0,n,j,h=>by rw[sv1,xs1,h]
  | d+1,s,s0,n,j,h=>by
    rw[sv1,xs1]
    exact qoi p f a hp hf ha i d _ _ _ _ (qni p f a hp hf ha i j (d+1) s s0 n j h)
theorem qoh (p:Int) (f a:List Int) (hp:7≤p∧p≤31) (hf:J0 f) (ha:J0 a):∀ (d:Nat) (s s0 n i:Int),s=s0 % p→sv0 p f a d s n i=xs0 f a d s0 n i % p
  | 0,s,s0,n,i,h=>by rw[sv0,xs0,h]
  | d+1,s,s0,n,i,h=>by
    rw[sv0,xs0]
    exact qoh p f a hp hf ha d _ _ _ _ (qoi p f a hp hf ha i (d+1) s s0 n i h)
theorem qgs (p:Int) (f a:List Int) (i j:Int) (hp:p≠0) (hf:f.length=20) (ha:a.length=4) (hi:0≤i∧i < 4) (hj:0≤j∧j < 4) (r:Int):∀ (d:Nat) (s n l:Int),0≤n→n+d≤20→0≤l→l+d=4→
    Ev (fun k=>ql.l1 k p f a (sv2 p f a i j d s n l) (n+d) i (wrap64 (j+1))) r→Ev (fun k=>ql.l2 k p f a s n i j l) r
  | 0,s,n,l,h1,h2,h3,h4,h=>by
    refine Ev.step (f:=fun k=>ql.l1 k p f a s n i (wrap64 (j+1))) (fun k=>?_) (by simpa [sv2] using h)
    rw[ql.l2,if_neg (by omega)]
  | d + 1, s, n, l, h1, h2, h3, h4, h => by
    refine Ev.step (f:=fun k=>ql.l2 k p f a (qla p s (rd f n) (rd a i) (rd a j) (rd a l)) (n+1) i j (l+1)) (fun k=>?_) ?_
    · rw[ql.l2,if_pos (by omega),if_pos h1,if_pos (by omega),if_pos hi.1,if_pos (by omega),if_neg hp,if_pos hj.1,if_pos (by omega),if_pos h3,if_pos (by omega),wsm (i:=n+1) (by omega) (by omega),wsm (i:=l+1) (by omega) (by omega)]
      rfl
    · refine qgs p f a i j hp hf ha hi hj r d _ _ _ (by omega) (by omega) (by omega) (by omega) ?_
      rw[show n+1+(d:Int)=n+((d+1:Nat):Int) from by omega]
      exact h
theorem qgk (p:Int) (f a:List Int) (i:Int) (hp:p≠0) (hf:f.length=20) (ha:a.length=4) (hi:0≤i∧i < 4) (r:Int):∀ (d:Nat) (s n j:Int),0≤n→n+tri d≤20→0≤j→j+d=4→
    Ev (fun k=>ql.l0 k p f a (sv1 p f a i d s n j) (n+tri d) (wrap64 (i+1))) r→Ev (fun k=>ql.l1 k p f a s n i j) r
  | 0,s,n,j,h1,h2,h3,h4,h=>by
    refine Ev.step (f:=fun k=>ql.l0 k p f a s n (wrap64 (i+1))) (fun k=>?_) (by simpa [sv1,tri] using h)
    rw[ql.l1,if_neg (by omega)]
  | d + 1, s, n, j, h1, h2, h3, h4, h => by
    rw[tri]at h2
    refine Ev.step (f:=fun k=>ql.l2 k p f a s n i j j) (fun k=>?_) ?_
    · rw[ql.l1,if_pos (by omega)]
    · refine qgs p f a i j hp hf ha hi (by omega) r (d+1) _ _ _ (by omega) (by omega) (by omega) (by omega) ?_
      rw[wsm (i:=j+1) (by omega) (by omega)]
      refine qgk p f a i hp hf ha hi r d _ _ _ (by omega) (by omega) (by omega) (by omega) ?_
      rw[show n+((d+1:Nat):Int)+(tri d:Int)=n+(tri (d+1):Int) from by rw[tri];omega]
      exact h
theorem qb9 (p:Int) (f a:List Int) (hp:p≠0) (hf:f.length=20) (ha:a.length=4) (r:Int) (d:Nat) (s n i:Int) (h1:0≤n) (h2:n+tri (d+1)≤20) (h3:0≤i) (h4:i+(d+1:Nat)=4)
    (h:Ev (fun k=>ql.l0 k p f a (sv1 p f a i (d+1) s n i) (n+tri (d+1)) (i+1)) r):Ev (fun k=>ql.l0 k p f a s n i) r:=by
  refine Ev.step (f:=fun k=>ql.l1 k p f a s n i i) (fun k=>?_) ?_
  · rw[ql.l0,if_pos (by omega)]
  · refine qgk p f a i hp hf ha (by omega) r (d+1) _ _ _ h1 h2 h3 h4 ?_
    rw[wsm (i:=i+1) (by omega) (by omega)]
    exact h
theorem qj1 (p:Int) (f a:List Int) (hp:p≠0) (hf:f.length=20) (ha:a.length=4):Ev (fun k=>ql.f k p f a) (sv0 p f a 4 0 0 0):=by
  unfold ql.f
  refine qb9 p f a hp hf ha _ 3 _ _ _ (by omega) (by simp[tri]) (by omega) (by omega) ?_
  refine qb9 p f a hp hf ha _ 2 _ _ _ (by simp[tri]) (by simp[tri]) (by omega) (by omega) ?_
  refine qb9 p f a hp hf ha _ 1 _ _ _ (by simp[tri]) (by simp[tri]) (by omega) (by omega) ?_
  refine qb9 p f a hp hf ha _ 0 _ _ _ (by simp[tri]) (by simp[tri]) (by omega) (by omega) ?_
  refine Ev.step (f:=fun _=>some (sv0 p f a 4 0 0 0)) (fun k=>?_) (Ev.now _)
  rw[ql.l0,if_neg (by omega)]
  rfl
theorem qg0 (p:Int) (f a:List Int) (hp:7≤p∧p≤31) (hf:f.length=20) (ha:a.length=4) (sf:J0 f) (sa:J0 a):Ev (fun k=>ql.f k p f a) (xval f a % p):=by
  have h:=qj1 p f a (by omega) hf ha
  rwa [qoh p f a hp sf sa 4 0 0 0 0 (by simp)]at h
end Go.Proofs.Ytmgbpmihbljngaa.PA
namespace Go.Proofs.Ytmgbpmihbljngaa.PA
open Go.RowKit Go.Proofs.YtmgbpmihbljngaaW.PrintWords Go.Proofs.YtmgbpmihbljngaaW.PrintLast Go.Proofs.YtmgbpmihbljngaaW.PrintMore
set_option linter.unusedVariables false
set_option linter.unusedSimpArgs false
def Jk (p:Int) (l:List Int) (n:Int):List Int:=[(rd l 0+n*rd l 4) % p,(rd l 1+n*rd l 5) % p,(rd l 2+n*rd l 6) % p,(rd l 3+n*rd l 7) % p]
def qa7 (p:Int) (f l:List Int):Bool:=Qr p f 20 && Zp p l && ((List.range p.toNat).all fun n=>xval f (Jk p l (n:Int)) % p == 0) && (xval f (l.drop 4) % p == 0)
theorem qd5 {p:Int} (hp:zk p=true) (l:List Int) (n:Int):Qr p (Jk p l n) 4=true:=by
  have hb:=zn hp
  refine qad hp rfl fun x hx=>?_
  simp only[Jk,List.mem_cons,List.not_mem_nil,or_false]at hx
  rcases hx with rfl | rfl | rfl | rfl<;>exact⟨Int.emod_nonneg _ (by omega),Int.emod_lt_of_pos _ (by omega)⟩
theorem qdk {p:Int} {l:List Int} (hl:Qr p l 8=true):Qr p (l.drop 4) 4=true:=by
  obtain⟨hp,h8,hx⟩:=je hl
  exact qad hp (by simp;omega) fun x h=>hx x (List.mem_of_mem_drop h)
theorem qph {l:List Int} (h:l.length=8):l.drop 4=[rd l 4,rd l 5,rd l 6,rd l 7]:=by
  match l,h with
  | [_,_,_,_,_,_,_,_],_=>rfl
theorem mul30w {p x y:Int} (hp:p≤31) (h0:0≤x) (h1:x < p) (h2:0≤y) (h3:y < p):0≤x*y∧x*y≤900:=by
  have h:=Int.mul_le_mul (show x≤30 by omega) (show y≤30 by omega) h2 (by omega)
  exact⟨Int.mul_nonneg h0 h2,by omega⟩
theorem qa0 {p:Int} (hp:zk p=true) {l:List Int} (hl:Qr p l 8=true) {n:Int} (hn:0≤n∧n < p) (i j:Int) (hi:0≤i∧i < 8) (hj:0≤j∧j < 8):Int.tmod (wrap64 ((rd l i)+(wrap64 (n*(rd l j))))) p=(rd l i+n*rd l j) % p:=by
  have hb:=zn hp
  have h1:=qft hl i hi.1 hi.2
  have h2:=qft hl j hj.1 hj.2
  have hm:=mul30w hb.2 hn.1 hn.2 h2.1 h2.2
  rw[wsm (i:=n*rd l j) (by omega) (by omega),wsm (by omega) (by omega),Int.tmod_eq_emod_of_nonneg (by omega)]
theorem w4 :wrap64 (4+0)=4∧wrap64 (4+1)=5∧wrap64 (4+2)=6∧wrap64 (4+3)=7∧wrap64 (0+1)=1∧wrap64 (1+1)=2∧wrap64 (2+1)=3∧wrap64 (3+1)=4:=by unfold wrap64;omega
end Go.Proofs.Ytmgbpmihbljngaa.PA
namespace Go.Proofs.Ytmgbpmihbljngaa.PA
open Go.RowKit Go.Proofs.YtmgbpmihbljngaaW.PrintWords Go.Proofs.YtmgbpmihbljngaaW.PrintLast Go.Proofs.YtmgbpmihbljngaaW.PrintMore
set_option linter.unusedVariables false
set_option linter.unusedSimpArgs false
theorem sw_row {p:Int} (hp:zk p=true) {f l:List Int} (hl:Qr p l 8=true) {n:Int} (hn:0≤n∧n < p) {R:Bool}
    (h:Ev (fun k=>(ql.f k p f (Jk p l n)).bind fun t=>if t=0 then qg.l0 k p f l (wrap64 (n+1)) else some false) R):Ev (fun k=>qg.l1 k p f l n [] 0) R:=by
  have hb:=zn hp
  have h8:=(je hl).2.1
  obtain⟨a0,a1,a2,a3,b0,b1,b2,b3⟩:=w4
  refine Ev.step (fun k=>by rw[qg.l1,a0,b0,qa0 hp hl hn 0 4 (by omega) (by omega),if_pos (by omega),if_pos (by omega),if_pos (by omega),if_pos (by omega),if_pos (by omega),if_pos (by omega),if_neg (by omega),if_pos (by simp)]) ?_
  refine Ev.step (fun k=>by rw[qg.l1,a1,b1,qa0 hp hl hn 1 5 (by omega) (by omega),if_pos (by omega),if_pos (by omega),if_pos (by omega),if_pos (by omega),if_pos (by omega),if_pos (by omega),if_neg (by omega),if_pos (by simp)]) ?_
  refine Ev.step (fun k=>by rw[qg.l1,a2,b2,qa0 hp hl hn 2 6 (by omega) (by omega),if_pos (by omega),if_pos (by omega),if_pos (by omega),if_pos (by omega),if_pos (by omega),if_pos (by omega),if_neg (by omega),if_pos (by simp)]) ?_
  refine Ev.step (fun k=>by rw[qg.l1,a3,b3,qa0 hp hl hn 3 7 (by omega) (by omega),if_pos (by omega),if_pos (by omega),if_pos (by omega),if_pos (by omega),if_pos (by omega),if_pos (by omega),if_neg (by omega),if_pos (by simp)]) ?_
  exact Ev.step (fun k=>by rw[qg.l1,if_neg (by omega)];rfl) h
theorem qpg {p:Int} (hp:zk p=true) {f l:List Int} (hl:Qr p l 8=true) {R:Bool}
    (h:Ev (fun k=>(ql.f k p f (l.drop 4)).bind fun t=>if t=0 then qg.l0 k p f l (wrap64 (p+1)) else some false) R):Ev (fun k=>qg.l1 k p f l p [] 0) R:=by
  have hb:=zn hp
  have h8:=(je hl).2.1
  obtain⟨a0,a1,a2,a3,b0,b1,b2,b3⟩:=w4
  rw[qph h8]at h
  refine Ev.step (fun k=>by rw[qg.l1,a0,b0,if_pos (by omega),if_pos (by omega),if_pos (by omega),if_neg (by omega),if_pos (by simp)]) ?_
  refine Ev.step (fun k=>by rw[qg.l1,a1,b1,if_pos (by omega),if_pos (by omega),if_pos (by omega),if_neg (by omega),if_pos (by simp)]) ?_
  refine Ev.step (fun k=>by rw[qg.l1,a2,b2,if_pos (by omega),if_pos (by omega),if_pos (by omega),if_neg (by omega),if_pos (by simp)]) ?_
  refine Ev.step (fun k=>by rw[qg.l1,a3,b3,if_pos (by omega),if_pos (by omega),if_pos (by omega),if_neg (by omega),if_pos (by simp)]) ?_
  exact Ev.step (fun k=>by rw[qg.l1,if_neg (by omega)];rfl) h
theorem qoj {p:Int} (hp:zk p=true) {f l:List Int} (hf:Qr p f 20=true) (hl:Qr p l 8=true):∀ (d i:Nat),((i+d:Nat):Int)=p→Ev (fun k=>qg.l0 k p f l (i:Int)) (((List.range' i d).all fun n=>xval f (Jk p l (n:Int)) % p == 0) && (xval f (l.drop 4) % p == 0))
  | 0,i,h=>by
    have hb:=zn hp
    have hi:(i:Int)=p:=by omega
    rw[hi]
    refine Ev.step (fun k=>by rw[qg.l0,if_pos (by omega)]) (qpg hp hl (Ev.bind (qg0 p f (l.drop 4) hb (je hf).2.1 (je (qdk hl)).2.1 (qah hf) (qah (qdk hl))) ?_))
    by_cases hz:xval f (l.drop 4) % p=0
    · rw[show (xval f (l.drop 4) % p == 0)=true from beq_iff_eq.2 hz]
      refine Ev.yes hz (Ev.step (f:=fun _=>some true) (fun k=>by rw[wsm (by omega) (by omega),qg.l0,if_neg (by omega)]) (Ev.now _))
    · rw[show (xval f (l.drop 4) % p == 0)=false from beq_eq_false_iff_ne.2 hz]
      exact Ev.no hz (Ev.now _)
  | d + 1, i, h => by
    have hb:=zn hp
    have ih:=qoj hp hf hl d (i+1) (by omega)
    have hn:=qd5 hp l (i:Int)
    refine Ev.step (fun k=>by rw[qg.l0,if_pos (by omega)]) (sw_row hp hl (by omega) (Ev.bind (qg0 p f (Jk p l (i:Int)) hb (je hf).2.1 rfl (qah hf) (qah hn)) ?_))
    rw[List.range'_succ,List.all_cons]
    by_cases hz:xval f (Jk p l (i:Int)) % p=0
    · rw[show (xval f (Jk p l (i:Int)) % p == 0)=true from beq_iff_eq.2 hz,wsm (by omega) (by omega)]
      exact Ev.yes hz ih
    · rw[show (xval f (Jk p l (i:Int)) % p == 0)=false from beq_eq_false_iff_ne.2 hz]
      exact Ev.no hz (Ev.now _)
theorem qna (p:Int) (f l:List Int) (hl:f.length≤1000000000):Ev (fun k=>qg.f k p f l) (qa7 p f l):=by
  unfold qg.f qa7
  refine Ev.bind (qmi p f hl) ?_
  cases hf:Qr p f 20 with
  | false=>exact Ev.no (by simp) (Ev.step (f:=fun _=>some false) (fun k=>by rw[qg.j0,if_pos (by rfl)]) (Ev.now _))
  | true=>
    have hp:=(je hf).1
    have hb:=zn hp
    refine Ev.yes rfl (Ev.bind (qi4 p l) ?_)
    cases hn:Zp p l with
    | false=>exact Ev.step (f:=fun _=>some false) (fun k=>by rw[qg.j0,if_pos (by rfl)]) (Ev.now _)
    | true=>
      refine Ev.step (fun k=>by rw[qg.j0,if_neg (by simp)]) ?_
      have h:=qoj hp hf (Jd hn) p.toNat 0 (by omega)
      rw[← List.range_eq_range']at h
      simpa using h
end Go.Proofs.Ytmgbpmihbljngaa.PA
namespace Go.Proofs.Ytmgbpmihbljngaa.PA
open Go.RowKit Go.Proofs.YtmgbpmihbljngaaW.PrintWords Go.Proofs.YtmgbpmihbljngaaW.PrintLast Go.Proofs.YtmgbpmihbljngaaW.PrintMore
set_option linter.unusedVariables false
set_option linter.unusedSimpArgs false
theorem qld (a b:List Int) (hab:a.length=b.length) (hl:a.length≤1000000000):∀ (d i:Nat),i+d=a.length→Ev (fun k=>q9.l0 k a b (a.length:Int) (i:Int)) (decide (a.drop i=b.drop i))
  | 0,i,h=>by
    refine Ev.step (f:=fun _=>some true) (fun k=>?_) ?_
    · rw[q9.l0,if_neg (by omega)]
    · rw[List.drop_eq_nil_of_le (by omega),List.drop_eq_nil_of_le (by omega)];exact Ev.now _
  | d + 1, i, h => by
    have ih:=qld a b hab hl d (i+1) (by omega)
    rw[qa1 a i (by omega),qa1 b i (by omega)]
    by_cases hz:rd a (i:Int)=rd b (i:Int)
    · refine Ev.step (f:=fun k=>q9.l0 k a b (a.length:Int) ((i+1:Nat):Int)) (fun k=>?_) ?_
      · rw[q9.l0,if_pos (by omega),if_pos (by omega),if_pos (by omega),if_pos (by omega),if_pos hz,wsm (by omega) (by omega)];rfl
      · simpa [hz] using ih
    · refine Ev.step (f:=fun _=>some false) (fun k=>?_) ?_
      · rw[q9.l0,if_pos (by omega),if_pos (by omega),if_pos (by omega),if_pos (by omega),if_neg hz]
      · rw[decide_eq_false (by simp[hz])]
        exact Ev.now false
theorem qov (a b:List Int) (hl:a.length≤1000000000):Ev (fun k=>q9.f k a b) (decide (a=b)):=by
  unfold q9.f
  by_cases h:a.length=b.length
  · refine Ev.yes (by omega) ?_
    simpa using qld a b h hl a.length 0 (by omega)
  · refine Ev.no (by omega) ?_
    rw[decide_eq_false (fun e=>h (by rw[e]))]
    exact Ev.now _
end Go.Proofs.Ytmgbpmihbljngaa.PA
namespace Go.Proofs.Ytmgbpmihbljngaa.PA
open Go.RowKit Go.Proofs.YtmgbpmihbljngaaW.PrintWords Go.Proofs.YtmgbpmihbljngaaW.PrintLast Go.Proofs.YtmgbpmihbljngaaW.PrintMore
set_option linter.unusedVariables false
set_option linter.unusedSimpArgs false
theorem qge :∀ p∈([7,11,13,17,19,23,29,31]:List Int),∀ x∈List.range 31,(x:Int) < p→(x:Int)≠0→jp.f 40 (x:Int) p=some (invP p (x:Int)):=by decide+kernel
theorem qkv {p:Int} (hp:zk p=true) {x:Int} (h0:0≤x) (h1:x < p) (hx:x≠0):Ev (fun k=>jp.f k x p) (invP p x):=by
  have hb:=zn hp
  refine Ev.of (jp.mono x p) (k:=40) ?_
  have h2:=qge p (by have:=Jv hp;simp;omega) x.toNat (by simp;omega) (by omega) (by omega)
  rwa [show ((x.toNat:Nat):Int)=x by omega]at h2
theorem qkr {x p:Int} (hp:7≤p∧p≤31) (h0:-1000000000≤x) (h1:x≤1000000000):modV p (wrap64 x)=x % p:=Z9 hp h0 h1
theorem qd6 {p t:Int} (hp:7≤p∧p≤31) (ht:0≤t∧t < p) (h:List Int) (hh:∀ x∈h,0≤x∧x < p):∀ (r:List Int) (i:Nat),(∀ x∈r,0≤x∧x < p)→i+r.length=h.length→Jm p t h i r=j6 p t (h.drop i) r
  | [],_,_,_=>by simp[Jm,j6]
  | x :: r,i,hr,hl=>by
    have hx:=hr x (by simp)
    simp only[List.length_cons]at hl
    have hy:0≤rd h (i:Int)∧rd h (i:Int) < p:=by rw[Ji h i (by omega)];exact hh _ (List.getElem_mem _)
    have hm:=qgu hp.2 ht.1 ht.2 hy.1 hy.2
    rw[qa1 h i (by omega),Jm,qd6 hp ht h hh r (i+1) (fun z hz=>hr z (by simp[hz])) (by omega),wsm (i:=t*rd h (i:Int)) (by omega) (by omega),qkr hp (by omega) (by omega)]
    simp[j6]
theorem qkq {p:Int} {w:Nat} (hp:7≤p∧p≤31) (c:Nat) (hc:c < w) {h r:List Int} (hh:h.length=w∧∀ x∈h,0≤x∧x < p) (hr:r.length=w∧∀ x∈r,0≤x∧x < p):Q9 p c h r=j6 p (rd r (c:Int)) h r:=by
  rw[Q9,qd6 hp (qef hr c hc) h hh.2 r 0 hr.2 (by omega),List.drop_zero]
theorem qiw {p b:Int} {w:Nat} (hp:7≤p∧p≤31) (hb:0≤b∧b < p) {r:List Int} (hr:r.length=w∧∀ x∈r,0≤x∧x < p):Qb p b r=Q8 p b r:=by
  rw[Qb,Q8]
  refine List.map_congr_left fun x hx=>?_
  have h1:=hr.2 x hx
  have hm:=qgu hp.2 h1.1 h1.2 hb.1 hb.2
  rw[wsm (by omega) (by omega),Int.tmod_eq_emod_of_nonneg hm.1]
theorem qcu {p:Int} (hp:zk p=true) {w:Nat}:∀ (d c:Nat) (L O:List (List Int)),c+d=w→okR p w L→okR p w O→Ev (fun k=>Q4 k p d c L O) (redP p d c L O)
  | 0,_,_,O,_,_,_=>Ev.k rfl
  | d + 1, c, L, O, hw, hL, hO => by
    have hb:=zn hp
    unfold Q4 redP
    cases hf:L.findIdx? (fun row=>rd row (c:Int) !=0) with
    | none=>exact qcu hp d (c+1) L O (by omega) hL hO
    | some i=>
      simp only
      obtain⟨hi,hne⟩:=qb8 hf
      have hx:=hL _ (Q6 hi)
      have hxr:=qef hx c (by omega)
      have hne':rd (L.getD i []) (c:Int)≠0:=by simpa using hne
      have hinv:=Zr hp hxr.1 hxr.2
      refine Ev.bind (qkv hp hxr.1 hxr.2 hne') ?_
      have hs:=qb2 (p:=p) (b:=invP p (rd (L.getD i []) (c:Int))) (by omega) hx.1
      rw[qiw hb ⟨hinv.2.1,hinv.2.2.1⟩ hx]
      have e1:∀ M:List (List Int),okR p w M→M.map (Q9 p c (Q8 p (invP p (rd (L.getD i []) (c:Int))) (L.getD i [])))=M.map fun r=>j6 p (rd r (c:Int)) (Q8 p (invP p (rd (L.getD i []) (c:Int))) (L.getD i [])) r:=
        fun M hM=>List.map_congr_left fun r hr=>qkq hb c (by omega) hs (hM r hr)
      rw[e1 _ (qbc i hL),e1 _ hO]
      exact qcu hp d (c+1) _ _ (by omega) (qap _ (by omega) hs.1 (qbc i hL)) (qey (qap _ (by omega) hs.1 hO) (Jc hs (Zn p w)))
theorem qkk {p:Int} (hp:zk p=true) {w:Nat} (L:List (List Int)) (hw:w < 1000000) (hl:L.length < 1000000) (hL:∀ r∈L,r.length=w):Ev (fun k=>Qc.f k p L) (redP p w 0 (L.map fun r=>r.map (modV p)) []):=by
  have hb:=zn hp
  have hok:okR p w (L.map fun r=>r.map (modV p)):=fun x hx=>by
    obtain⟨r,hr,rfl⟩:=List.mem_map.1 hx
    refine⟨by rw[List.length_map,hL r hr],fun y hy=>?_⟩
    obtain⟨z,_,rfl⟩:=List.mem_map.1 hy
    have h2:=qk5 (p:=p) (by omega) z
    rw[modV,wsm (by omega) (by omega),Int.tmod_eq_emod_of_nonneg (by omega)]
    exact⟨Int.emod_nonneg _ (by omega),Int.emod_lt_of_pos _ (by omega)⟩
  cases L with
  | nil=>
    have e:∀ d c,redP p d c [] []=[]:=fun d=>by
      induction d with
      | zero=>intro c;rfl
      | succ d ih=>intro c;rw[redP];exact ih (c+1)
    rw[List.map_nil,e]
    refine Ev.k (α:=List (List Int)) (x:=some []) rfl |>.congr fun k=>?_
    rw[Qc.f,if_neg (by omega),if_pos ⟨by simp,by simp,by simp⟩]
    simp[Q4]
  | cons r L=>
    have hr:=hL r (by simp)
    refine(qcu hp w 0 _ [] (by omega) hok (Zn p w)).congr fun k=>?_
    rw[Qc.f,if_neg (by omega),if_pos ⟨hl,by simpa [hr] using hw,by simpa [hr] using hL⟩]
    simp[hr]
theorem ql5 {p x:Int} (hp:zk p=true) (h0:0≤x) (h1:x < p):modV p x=x:=by
  have hb:=zn hp
  rw[modV,Int.tmod_eq_of_lt h0 h1,wsm (by omega) (by omega),Int.tmod_eq_emod_of_nonneg (by omega),Int.add_emod_right,Int.emod_eq_of_lt h0 h1]
theorem qkp {p:Int} (hp:zk p=true) {w:Nat} (L:List (List Int)) (hw:w < 1000000) (hl:L.length < 1000000) (hL:okR p w L):Ev (fun k=>Qc.f k p L) (redP p w 0 L []):=by
  have h:=qkk hp L hw hl (fun r hr=>(hL r hr).1)
  have e:(L.map fun r=>r.map (modV p))=L:=by
    rw[List.map_congr_left (g:=id)]
    · simp
    · intro r hr
      rw[List.map_congr_left (g:=id)]
      · simp
      · intro x hx;have:=(hL r hr).2 x hx;exact ql5 hp this.1 this.2
  rwa [e]at h
end Go.Proofs.Ytmgbpmihbljngaa.PA
namespace Go.Proofs.Ytmgbpmihbljngaa.PA
open Go.RowKit Go.Proofs.YtmgbpmihbljngaaW.PrintWords Go.Proofs.YtmgbpmihbljngaaW.PrintLast Go.Proofs.YtmgbpmihbljngaaW.PrintMore
set_option linter.unusedVariables false
set_option linter.unusedSimpArgs false
theorem qim (M:List (List Int)) {w:Nat} (hw:w≤1000) (hM:∀ r∈M,r.length=w) (hl:M.length≤1000000):∀ (d i:Nat),i+d=M.length→Ev (fun k=>jn.l0 k (M.take i).flatten M (M.length:Int) (i:Int)) M.flatten
  | 0,i,h=>by
    refine Ev.step (f:=fun _=>some M.flatten) (fun k=>?_) (Ev.now _)
    rw[jn.l0,if_neg (by omega),List.take_of_length_le (by omega)]
  | d + 1, i, h => by
    have hi:i < M.length:=by omega
    refine Ev.step (f:=fun k=>jn.l0 k (M.take (i+1)).flatten M (M.length:Int) ((i+1:Nat):Int)) (fun k=>?_) (qim M hw hM hl d (i+1) (by omega))
    have e1:(M.take (i+1)).flatten=(M.take i).flatten++M.getD i []:=by
      rw[List.take_add_one,List.flatten_append,List.getD_eq_getElem?_getD,List.getElem?_eq_getElem hi];simp
    have e2:jk M (i:Int)=M.getD i []:=by simp[jk]
    have h1:(M.take i).flatten.length=i*w:=by rw[qfl _ (fun r hr=>hM r (List.mem_of_mem_take hr)),List.length_take,Nat.min_eq_left (by omega)]
    have h2:(M.getD i []).length=w:=hM _ (Q6 hi)
    have h3:i*w≤1000000*1000:=Nat.mul_le_mul (by omega) hw
    rw[jn.l0,if_pos (by omega),if_pos (by omega),if_pos (by omega),e2,if_pos (by omega),e1,wsm (by omega) (by omega)]
    rfl
theorem qm2 {p:Int} (hp:zk p=true) {w:Nat} (hw:w≤1000) (L:List (List Int)) (hL:okR p w L) (hl:L.length≤1000):Ev (fun k=>jn.f k p L) (qaf p w L):=by
  unfold jn.f
  have hb:=zn hp
  have hlen:=qbv p w 0 L []
  simp at hlen
  refine Ev.bind (qkp hp L (by omega) (by omega) hL) ?_
  have h:=qim (redP p w 0 L []) hw (fun r hr=>(qay (by omega) w 0 L [] hL (Zn p w) r hr).1) (by omega) (redP p w 0 L []).length 0 (by omega)
  simpa [qaf] using h
theorem qmy (l:List Int) (h:4≤l.length):Z1.f l=some [l.take 4,l.drop 4]:=by
  rw[Z1.f,if_pos (by omega)]
end Go.Proofs.Ytmgbpmihbljngaa.PA
namespace Go.Proofs.Ytmgbpmihbljngaa.PA
open Go.RowKit Go.Proofs.YtmgbpmihbljngaaW.PrintWords Go.Proofs.YtmgbpmihbljngaaW.PrintLast Go.Proofs.YtmgbpmihbljngaaW.PrintMore
set_option linter.unusedVariables false
set_option linter.unusedSimpArgs false
theorem qfa (p:Int) (l:List Int):Ev (fun k=>ju.f k p l) (Zp p l):=by
  unfold ju.f Zp
  refine Ev.bind (Ev.k (qac p l 8)) ?_
  cases hn:Qr p l 8 with
  | false=>exact Ev.no (by simp) (Ev.now _)
  | true=>
    obtain⟨hp,hl,_⟩:=je hn
    have hb:=zn hp
    refine Ev.yes rfl ?_
    refine Ev.bind (Ev.k (qmy l (by omega))) ?_
    refine Ev.bind (qm2 hp (by omega) _ (J7 hn) (by simp)) (Ev.bind (qov _ _ ?_) ?_)
    · rw[qdq (by omega) (J7 hn)]
      have h2:=qbv p 4 0 [l.take 4,l.drop 4] []
      have h3:Z5 p 4 [l.take 4,l.drop 4]≤2:=by simpa [Z5] using h2
      omega
    · rw[Bool.true_and];exact Ev.now _
end Go.Proofs.Ytmgbpmihbljngaa.PA
namespace Go.Proofs.Ytmgbpmihbljngaa.PA
open Go.RowKit Go.Proofs.YtmgbpmihbljngaaW.PrintWords Go.Proofs.YtmgbpmihbljngaaW.PrintLast Go.Proofs.YtmgbpmihbljngaaW.PrintMore
set_option linter.unusedVariables false
set_option linter.unusedSimpArgs false
theorem po_row {p:Int} (hp:zk p=true) {l:List Int} (hl:Qr p l 8=true) {out:List (List Int)} {m n:Int} (hn:0≤n∧n < p) (ho:out.length < 1000) {R:List (List Int)}
    (h:Ev (fun k=>qt.l0 k p l (out++[Jk p l n]) m (n+1)) R):Ev (fun k=>qt.l1 k p l out n [] m n 0) R:=by
  have hb:=zn hp
  have h8:=(je hl).2.1
  obtain⟨a0,a1,a2,a3,b0,b1,b2,b3⟩:=w4
  refine Ev.step (fun k=>by rw[qt.l1,a0,b0,qa0 hp hl hn 0 4 (by omega) (by omega),if_pos (by omega),if_pos (by omega),if_pos (by omega),if_pos (by omega),if_pos (by omega),if_neg (by omega),if_pos (by simp)]) ?_
  refine Ev.step (fun k=>by rw[qt.l1,a1,b1,qa0 hp hl hn 1 5 (by omega) (by omega),if_pos (by omega),if_pos (by omega),if_pos (by omega),if_pos (by omega),if_pos (by omega),if_neg (by omega),if_pos (by simp)]) ?_
  refine Ev.step (fun k=>by rw[qt.l1,a2,b2,qa0 hp hl hn 2 6 (by omega) (by omega),if_pos (by omega),if_pos (by omega),if_pos (by omega),if_pos (by omega),if_pos (by omega),if_neg (by omega),if_pos (by simp)]) ?_
  refine Ev.step (fun k=>by rw[qt.l1,a3,b3,qa0 hp hl hn 3 7 (by omega) (by omega),if_pos (by omega),if_pos (by omega),if_pos (by omega),if_pos (by omega),if_pos (by omega),if_neg (by omega),if_pos (by simp)]) ?_
  exact Ev.step (fun k=>by rw[qt.l1,if_neg (by omega),if_pos (by omega),wsm (by omega) (by omega)];rfl) h
theorem qn3 {p:Int} (hp:zk p=true) {l:List Int} (hl:Qr p l 8=true):∀ (d i:Nat) (out:List (List Int)),((i+d:Nat):Int)=p→out.length=i+1→Ev (fun k=>qt.l0 k p l out p (i:Int)) (out++(List.range' i d).map fun (n:Nat)=>Jk p l (n:Int))
  | 0,i,out,h,ho=>by
    refine Ev.step (f:=fun _=>some out) (fun k=>by rw[qt.l0,if_neg (by omega)]) ?_
    simpa using Ev.now out
  | d+1,i,out,h,ho=>by
    have hb:=zn hp
    have ih:=qn3 hp hl d (i+1) (out++[Jk p l (i:Int)]) (by omega) (by simp[ho])
    rw[List.append_assoc]at ih
    rw[List.range'_succ,List.map_cons]
    exact Ev.step (fun k=>by rw[qt.l0,if_pos (by omega)]) (po_row hp hl (by omega) (by omega) ih)
theorem qji {p:Int} (hp:zk p=true) {l:List Int} (hl:Qr p l 8=true):Ev (fun k=>qt.f k p l) (l.drop 4 :: (List.range p.toNat).map fun (n:Nat)=>Jk p l (n:Int)):=by
  unfold qt.f
  have hb:=zn hp
  have h8:=(je hl).2.1
  have h:=qn3 hp hl p.toNat 0 [l.drop 4] (by omega) rfl
  rw[← List.range_eq_range']at h
  refine Ev.bind (a:=[]) (Ev.now _) (Ev.yes (by omega) (Ev.yes (by simp;omega) ?_))
  simpa using h
theorem qom {p:Int} (hp:zk p=true) {f:List Int} (hf:Qr p f 20=true) (M:List (List Int)) (hM:∀ r∈M,Qr p r 4=true) (hl:M.length≤1000):∀ (d i:Nat),i+d=M.length→Ev (fun k=>qo.l0 k p f M (M.length:Int) (i:Int)) ((M.drop i).all fun a=>xval f a % p == 0)
  | 0,i,h=>by
    refine Ev.step (f:=fun _=>some true) (fun k=>by rw[qo.l0,if_neg (by omega)]) ?_
    rw[List.drop_eq_nil_of_le (by omega)];exact Ev.now _
  | d + 1, i, h => by
    have hb:=zn hp
    have hi:i < M.length:=by omega
    have ih:=qom hp hf M hM hl d (i+1) (by omega)
    have hn:=hM _ (List.getElem_mem hi)
    have e:jk M (i:Int)=M[i]:=by simp[jk,List.getD_eq_getElem?_getD,hi]
    refine Ev.step (fun k=>by rw[qo.l0,if_pos (by omega),if_pos (by omega),if_pos (by omega),e]) (Ev.bind (qgh p f M[i] hb (je hf).2.1 (je hn).2.1 (qah hf) (qah hn)) ?_)
    rw[List.drop_eq_getElem_cons hi,List.all_cons]
    by_cases hz:xval f M[i] % p=0
    · rw[show (xval f M[i] % p == 0)=true from beq_iff_eq.2 hz,wsm (by omega) (by omega)]
      exact Ev.yes hz ih
    · rw[show (xval f M[i] % p == 0)=false from beq_eq_false_iff_ne.2 hz]
      exact Ev.no hz (Ev.now _)
theorem qg4 (p:Int) (f l:List Int):Ev (fun k=>qo.f k p f l) (qa7 p f l):=by
  unfold qo.f qa7
  refine Ev.bind (Ev.k (qac p f 20)) ?_
  cases hf:Qr p f 20 with
  | false=>exact Ev.no (by simp) (Ev.step (f:=fun _=>some false) (fun k=>by rw[qo.j0,if_pos (by rfl)]) (Ev.now _))
  | true=>
    have hp:=(je hf).1
    have hb:=zn hp
    refine Ev.yes rfl (Ev.bind (qfa p l) ?_)
    cases hn:Zp p l with
    | false=>exact Ev.step (f:=fun _=>some false) (fun k=>by rw[qo.j0,if_pos (by rfl)]) (Ev.now _)
    | true=>
      refine Ev.step (fun k=>by rw[qo.j0,if_neg (by simp)]) (Ev.bind (qji hp (Jd hn)) ?_)
      have h:=qom hp hf (l.drop 4 :: (List.range p.toNat).map fun (n:Nat)=>Jk p l (n:Int)) (fun r hr=>by
        rcases List.mem_cons.1 hr with rfl | hr
        · exact qdk (Jd hn)
        · obtain⟨n,_,rfl⟩:=List.mem_map.1 hr;exact qd5 hp l _) (by simp;omega) _ 0 (Nat.zero_add _)
      have e:((l.drop 4 :: (List.range p.toNat).map fun (n:Nat)=>Jk p l (n:Int)).drop 0).all (fun a=>xval f a % p == 0)=(true && true && ((List.range p.toNat).all fun n=>xval f (Jk p l (n:Int)) % p == 0) && (xval f (l.drop 4) % p == 0)):=by
        rw[List.drop_zero,List.all_cons,List.all_map,Bool.and_comm]
        rfl
      rw[e]at h
      exact h
end Go.Proofs.Ytmgbpmihbljngaa.PA
namespace Go.Proofs.Ytmgbpmihbljngaa.PA
open Go.RowKit Go.Proofs.YtmgbpmihbljngaaW.PrintWords Go.Proofs.YtmgbpmihbljngaaW.PrintLast Go.Proofs.YtmgbpmihbljngaaW.PrintMore
set_option linter.unusedVariables false
set_option linter.unusedSimpArgs false
theorem qd8 {p:Int} {f l:List Int} (h:qa7 p f l=true):Qr p f 20=true∧Zp p l=true∧xval f (l.drop 4) % p=0∧qa7 p (Zx p f) l=true:=by
  have h0:=h
  unfold qa7 at h
  simp only[Bool.and_eq_true,List.all_eq_true,beq_iff_eq]at h
  obtain⟨⟨⟨h1,h2⟩,h3⟩,h4⟩:=h
  have ht:∀ a,xval f a % p=0→xval (Zx p f) a % p=0:=fun a ha=>by
    rw[qki,Int.mul_emod,ha,Int.mul_zero,Int.zero_emod]
  refine⟨h1,h2,h4,?_⟩
  unfold qa7
  simp only[Bool.and_eq_true,List.all_eq_true,beq_iff_eq]
  exact⟨⟨⟨qj6 h1,h2⟩,fun n hn=>ht _ (h3 n hn)⟩,ht _ h4⟩
theorem qff {p:Int} {f l:List Int} (h:qa7 p f l=true):∀ (d i:Nat),i+d=20→Ev (fun k=>laws_FnWhole.l0 k p f l ((Zx p f).take i) (i:Int)) true
  | 0,i,hi=>by
    obtain⟨hf,hl,hz,ht⟩:=qd8 h
    obtain⟨hp,h20,_⟩:=je hf
    have h8:=(je (Jd hl)).2.1
    rw[List.take_of_length_le (by simp[Zx];omega)]
    have hv:=qgc p f (l.drop 4)
    rw[qj3,if_pos hf,if_pos (qia hl).2,hz]at hv
    refine Ev.step (f:=fun k=>(some ([]:List Int)).bind fun y=>if 4≤(l.length:Int) then (some (l.drop 4)).bind fun z=>if y.length+z.length < 17592186044416 then (j7.f k p f (y++z)).bind fun b=>if b.2=true then (if b.1=0 then (qo.f k p (Zx p f) l).bind fun t=>some t else some false) else some false else none else none) (fun k=>?_) ?_
    · rw[laws_FnWhole.l0,if_neg (by omega)]
    · refine Ev.bind (a:=[]) (Ev.now _) (Ev.yes (by omega) (Ev.bind (a:=l.drop 4) (Ev.now _) (Ev.yes (by simp;omega) ?_)))
      rw[List.nil_append]
      have hw:=qg4 p (Zx p f) l
      rw[ht]at hw
      exact Ev.bind hv (Ev.yes rfl (Ev.yes rfl (Ev.bind hw (Ev.now _))))
  | d+1,i,hi=>by
    obtain⟨hf,hl,hz,ht⟩:=qd8 h
    obtain⟨hp,h20,hr⟩:=je hf
    have hb:=zn hp
    have hi':i < f.length:=by omega
    have hx:=qft hf (i:Int) (by omega) (by omega)
    refine Ev.step (f:=fun k=>laws_FnWhole.l0 k p f l ((Zx p f).take (i+1)) ((i+1:Nat):Int)) (fun k=>?_) (qff h d (i+1) (by omega))
    rw[laws_FnWhole.l0,if_pos (by omega),if_pos (by omega),if_neg (by omega),if_pos (by simp[Zx];omega),wsm (i:=2*rd f (i:Int)) (by omega) (by omega),wsm (i:=(i:Int)+1) (by omega) (by omega),Int.tmod_eq_emod_of_nonneg (by omega)]
    rw[List.take_add_one,List.getElem?_eq_getElem (by simp[Zx];omega)]
    simp[Zx,Ji f i hi']
theorem qfu (l:List Int) (h:∀ x∈l,(Lit.int .u8 x).wf=true):Ev (fun k=>laws_FnWhole.f k l) true:=by
  unfold laws_FnWhole.f
  refine Ev.ite (fun _=>Ev.now _) (fun hl=>?_)
  obtain⟨p,f,m,hd,hfl⟩:=qch l h
  refine Ev.bind hd (Ev.bind (qg4 p f m) (Ev.bind (qna p f m (by show f.length≤1000000000;omega)) ?_))
  refine Ev.no (by simp) ?_
  cases hw:qa7 p f m with
  | false=>exact Ev.step (f:=fun _=>some (false == false)) (fun k=>by rw[laws_FnWhole.j0,if_pos (by rfl)]) (Ev.now _)
  | true=>exact Ev.step (f:=fun k=>laws_FnWhole.l0 k p f m [] 0) (fun k=>by rw[laws_FnWhole.j0,if_neg (by simp)]) (qff hw 20 0 rfl)
end Go.Proofs.Ytmgbpmihbljngaa.PA
namespace Go.Proofs.Ytmgbpmihbljngaa.Pure
open Go.RowKit Go.Proofs.Ytmgbpmihbljngaa.PA Go.Proofs.YtmgbpmihbljngaaW.PrintWords Go.Proofs.YtmgbpmihbljngaaW.PrintLast
theorem FnWhole :laws_FnWhole.Pure:=by
  intro l
  intros
  first | exact(qfu l).rounds | exact(qfu l (by assumption)).rounds
end Go.Proofs.Ytmgbpmihbljngaa.Pure
