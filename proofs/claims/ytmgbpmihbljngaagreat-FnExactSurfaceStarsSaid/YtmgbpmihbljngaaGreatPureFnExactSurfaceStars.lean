/- For every whole number p and every list of points the program's SurfaceStars returns what the reference's returns, shares no memory and leaves the points as they were. No conditions. -/
import Derived.Test.YtmgbpmihbljngaaGreatLBase
import Derived.Test.YtmgbpmihbljngaaGreatPAx17
import Derived.Test.YtmgbpmihbljngaaGreatPAx30
import Derived.Test.YtmgbpmihbljngaaGreatPAx4
import Derived.Test.YtmgbpmihbljngaaGreatPAx8
import Derived.Test.YtmgbpmihbljngaaGreatPAx23
import Derived.Test.YtmgbpmihbljngaaGreatPAx20
import Derived.Test.YtmgbpmihbljngaaGreatLLin
import Derived.Test.YtmgbpmihbljngaaGreatPAx12
import Derived.Test.YtmgbpmihbljngaaGreatLPln
import Derived.Test.YtmgbpmihbljngaaGreatLSep
import Derived.Test.YtmgbpmihbljngaaGreatPAx26
import Derived.Test.YtmgbpmihbljngaaGreatWGuard
namespace Go.Proofs.YtmgbpmihbljngaaGreat.PA
open RowKit YtmgbpmihbljngaaGreatW.PrintWords YtmgbpmihbljngaaGreatW.PrintLast YtmgbpmihbljngaaGreatW.PrintMore
set_option linter.unusedVariables false
set_option linter.unusedSimpArgs false
def toP (x:S53):S51:=⟨⟨x.f0.f0,x.f0.f1,x.f0.f2⟩⟩
theorem qh3 (l:List S53) (hl:l.length<=1048576):∀ (d i:Nat) (acc:List S51),i+d=l.length->acc=(l.take i).map toP++List.replicate d z51->Ev (λk=>js.l0 k l acc (i:Int)) (l.map toP)
 | 0,i,acc,hi,ha=>by
  rw[List.take_of_length_le (by omega),List.replicate_zero,List.append_nil]at ha;subst ha;exact Ev.step (f:=λ_=>some (l.map toP)) (λq=>by rw[js.l0,if_neg (by omega)]) (Ev.now _)
 | d+1,i,acc,hi,ha=>by
  have hil:i < l.length:=by omega
  have hal:acc.length=l.length:=by rw[ha,List.length_append,List.length_map,List.length_take,List.length_replicate];omega
  have e:qbf.f (J9 l (i:Int)).f0.f0 (J9 l (i:Int)).f0.f1 (J9 l (i:Int)).f0.f2=some ((J9 l (i:Int)).f0.f0,(J9 l (i:Int)).f0.f1,(J9 l (i:Int)).f0.f2):=rfl;refine Ev.step (λq=>by rw[js.l0,if_pos (by omega),if_pos (by omega),e,Option.bind_some,if_pos (by omega),wsm (by omega) (by omega)]) ?_;refine qh3 l hl d (i+1) _ (by omega) ?_;have er:J9 l (i:Int)=l[i]:=by simp[J9,List.getD_eq_getElem?_getD,hil]
  rw[er,Int.toNat_natCast,ha,List.set_append_right _ _ (by rw[List.length_map,List.length_take];omega),List.length_map,List.length_take,Nat.min_eq_left (by omega),Nat.sub_self,List.replicate_succ,List.set_cons_zero,List.take_add_one,List.map_append,List.getElem?_eq_getElem hil]
  simp[toP]
theorem qlz (l:List S53) (hl:l.length<=1048576):Ev (λk=>js.f k l) (l.map toP):=by
 unfold js.f;refine Ev.yes (by omega) (Ev.yes (by omega) ?_);exact qh3 l hl l.length 0 _ (by omega) (by simp)
theorem qk4 (x y z:Int):qab.f x y z x y z=some true:=by simp[qab.f,zv.f]
theorem qio (l:List S51) (hl:l.length<=1048576):∀ (d i:Nat),i+d=l.length->Ev (λk=>zq.l0 k l l (i:Int)) true
 | 0,i,hi=>Ev.step (f:=λ_=>some true) (λq=>by rw[zq.l0,if_neg (by omega)]) (Ev.now _)
 | d+1,i,hi=>by
  refine Ev.step (λq=>by rw[zq.l0,if_pos (by omega),if_pos (by omega),if_pos (by omega),qk4,Option.bind_some,if_pos rfl,wsm (by omega) (by omega)]) ?_;exact qio l hl d (i+1) (by omega)
theorem ql9 (l:List S51) (hl:l.length<=1048576):Ev (λk=>zq.f k l l) true:=by
 unfold zq.f;exact Ev.yes rfl (qio l hl l.length 0 (by omega))
theorem qm2 (l:List S53) (hm:l.length<=maxLen):J5.f l 1048576=some (if l.length<=1048576 then 1048576 - (l.length:Int) else -1):=by
 have h2:maxLen<=9223372036854775807:=by decide
 unfold J5.f;have e:wrap64 (1048576 - (l.length:Int))=1048576 - (l.length:Int):=by unfold wrap64;omega
 rw[e]
 by_cases h:l.length<=1048576
 ·rw[if_neg (by omega),if_pos h]
 ·rw[if_pos (by omega),if_neg h]
theorem qi9 (l:List S51) (a:Int) (hl:l.length<=1048576) (ha:0<=a/\a<=1000000000):Jm.f l a=some (a+3*(l.length:Int),mkP a l.length):=by
 unfold Jm.f;exact if_pos ⟨hl,ha⟩
theorem qly (a b:List Int) (hab:a.length=b.length) (hl:a.length<=1000000000):∀ (d:Nat) (i:Nat),i+d=a.length->Ev (λk=>jq.l0 k a b (i:Int)) (decide (a.drop i=b.drop i))
 | 0,i,h=>by
  refine Ev.step (f:=λ_=>some true) (λk=>?_) ?_
  ·rw[jq.l0,if_neg (by omega)]
  ·rw[List.drop_eq_nil_of_le (by omega),List.drop_eq_nil_of_le (by omega)];exact Ev.now _
 | d + 1, i, h => by
  have ih:=qly a b hab hl d (i+1) (by omega);rw[qc8 a i (by omega),qc8 b i (by omega)]
  by_cases hr:rd a (i:Int)=rd b (i:Int)
  ·refine Ev.step (f:=λk=>jq.l0 k a b ((i+1:Nat):Int)) (λk=>?_) ?_
   ·rw[jq.l0,if_pos (by omega),if_pos (by omega),if_pos (by omega),if_pos hr,wsm (by omega) (by omega)]
    simp
   ·simpa [hr] using ih
  ·refine Ev.step (f:=λ_=>some false) (λk=>?_) ?_
   ·rw[jq.l0,if_pos (by omega),if_pos (by omega),if_pos (by omega),if_neg hr]
   ·simpa [hr] using Ev.now false
theorem qqp (a b:List Int) (hl:a.length<=1000000000):Ev (λk=>jq.f k a b) (decide (a=b)):=by
 unfold jq.f;refine Ev.ite (λh=>?_) (λh=>?_)
 ·simpa using qly a b (by omega) hl a.length 0 (by omega)
 ·rw[decide_eq_false (λe=>h (by rw[e]))];exact Ev.now _
def qaw (s:Int) (n:Nat):List Int:=(List.range n).map λ(i:Nat)=>s+(i:Int)
theorem qal (s:Int) (n:Nat):(qaw s n).length=n:=by simp[qaw]
theorem qjh (s:Int) (n i:Nat) (h:i < n):(qaw s n)[i]? =some (s+(i:Int)):=by simp[qaw,h]
theorem qts (l:List Int) (s:Int) (hs:0<=s/\s<=1000000000) (hl:l.length<=1000000000):∀ (d i:Nat),i+d=l.length->Ev (λk=>j0.l0 k ((qaw s l.length).take i++l.drop i) (s+(i:Int)) (i:Int)) (s+(l.length:Int),qaw s l.length)
 | 0,i,h=>by
  refine Ev.step (f:=λ_=>some (s+(l.length:Int),qaw s l.length)) (λk=>?_) (Ev.now _);rw[List.drop_eq_nil_of_le (by omega),List.append_nil,List.take_of_length_le (by rw[qal];omega),j0.l0,if_neg (by rw[qal];omega)];rw[show i=l.length by omega]
 | d + 1, i, h => by
  refine Ev.step (f:=λk=>j0.l0 k ((qaw s l.length).take (i+1)++l.drop (i+1)) (s+((i+1:Nat):Int)) ((i+1:Nat):Int)) (λk=>?_) (qts l s hs hl d (i+1) (by omega));have hlen:((qaw s l.length).take i++l.drop i).length=l.length:=by simp[qal];omega
  have hset:((qaw s l.length).take i++l.drop i).set i (s+(i:Int))=(qaw s l.length).take (i+1)++l.drop (i+1):=by
   have hi:i < l.length:=by omega
   rw[List.set_append_right _ _ (by simp[qal];omega),List.length_take,qal,Nat.min_eq_left (by omega),Nat.sub_self,List.drop_eq_getElem_cons hi,List.set_cons_zero,List.take_add_one,qjh s _ i hi]
   simp
  rw[j0.l0,if_pos (by rw[hlen];omega),if_pos (by omega),Int.toNat_natCast,hset,wsm (i:=s+(i:Int)+1) (by omega) (by omega),wsm (i:=(i:Int)+1) (by omega) (by omega)];rw[show s+(i:Int)+1=s+((i+1:Nat):Int) by omega]
  rfl
theorem qvc (l:List Int) (s:Int) (hs:0<=s/\s<=1000000000) (hl:l.length<=1000000000):Ev (λk=>j0.f k l s) (s+(l.length:Int),qaw s l.length):=by
 unfold j0.f
 simpa using qts l s hs hl l.length 0 (by omega)
theorem qsf (n:Nat) (s:Int) (hs:0<=s/\s<=1000000000) (hl:n<=1000000000):∀ (d i:Nat),i+d=n->Ev (λk=>jg.l0 k (qaw s n) (s+(i:Int)) (i:Int)) (s+(n:Int))
 | 0,i,h=>by
  refine Ev.step (f:=λ_=>some (s+(n:Int))) (λk=>?_) (Ev.now _);rw[jg.l0,if_neg (by rw[qal];omega),show i=n by omega]
 | d + 1, i, h => by
  refine Ev.step (f:=λk=>jg.l0 k (qaw s n) (s+((i+1:Nat):Int)) ((i+1:Nat):Int)) (λk=>?_) (qsf n s hs hl d (i+1) (by omega));have e:rd (qaw s n) (i:Int)=s+(i:Int):=by
   rw[Jo _ i (by rw[qal];omega)]
   have:=qjh s n i (by omega)
   rw[List.getElem?_eq_getElem (by rw[qal];omega)]at this;exact Option.some.inj this
  rw[jg.l0,if_pos (by rw[qal];omega),if_pos (by omega),if_pos e,wsm (i:=s+(i:Int)+1) (by omega) (by omega),wsm (i:=(i:Int)+1) (by omega) (by omega)];rw[show s+(i:Int)+1=s+((i+1:Nat):Int) by omega]
  rfl
theorem qu5 (n:Nat) (s:Int) (hs:0<=s/\s<=1000000000) (hl:n<=1000000000):Ev (λk=>jg.f k (qaw s n) s) (s+(n:Int)):=by
 unfold jg.f
 simpa using qsf n s hs hl n 0 (by omega)
theorem qhz (p:Int):Zy.f p=some (zi p):=by
 unfold Zy.f zi
 repeat' split
 all_goals first|(subst_vars;rfl)|(congr 1;symm;rw[decide_eq_true_iff];omega)|(congr 1;symm;rw[decide_eq_false_iff_not];omega)
theorem qb5 {p:Int} (h:zi p=true):p=7\/p=11\/p=13\/p=17\/p=19\/p=23\/p=29\/p=31:=of_decide_eq_true h
def Zz (p:Int) (l:List Int) (n:Nat):Bool:=zi p && decide (l.length=n) && l.all λx=>decide (0<=x) && decide (x < p)
theorem qi4 (p:Int) (l:List Int) (n:Nat):Zg.f p l (n:Int)=some (Zz p l n):=by
 unfold Zg.f Zz
 congr 3
 rw[Bool.eq_iff_iff,decide_eq_true_iff,decide_eq_true_iff];omega
theorem jn {p:Int} {l:List Int} {n:Nat} (h:Zz p l n=true):zi p=true/\l.length=n/\∀ x∈l,0<=x/\x < p:=by
 unfold Zz at h;rw[Bool.and_eq_true,Bool.and_eq_true]at h;refine⟨h.1.1,of_decide_eq_true h.1.2,λx hx=>?_⟩
 have:=List.all_eq_true.1 h.2 x hx
 rw[Bool.and_eq_true]at this;exact⟨of_decide_eq_true this.1,of_decide_eq_true this.2⟩
theorem qe6 {p:Int} {l:List Int} {n:Nat} (h1:zi p=true) (h2:l.length=n) (h3:∀ x∈l,0<=x/\x < p):Zz p l n=true:=by
 unfold Zz;rw[h1,decide_eq_true h2,Bool.true_and,Bool.true_and,List.all_eq_true];intro x hx;rw[decide_eq_true (h3 x hx).1,decide_eq_true (h3 x hx).2];rfl
theorem zk {p:Int} (h:zi p=true):7<=p/\p<=31:=by have:=qb5 h;omega
def qav (l:List Int):Bool:=(l.find? (λx=>x !=0)) == some 1
def qah (p:Int) (a:List Int):Bool:=Zz p a 4 && qav a
def invP (p x:Int):Int:=(jo.f 40 p x).getD 0
theorem qom :∀ p∈([7,11,13,17,19,23,29,31]:List Int),∀ x∈List.range 31,(x:Int) < p->jo.f 40 p (x:Int)=some (invP p (x:Int))/\0<=invP p (x:Int)/\invP p (x:Int) < p/\((x:Int)≠0->((x:Int)*invP p (x:Int)) % p=1)/\((x:Int)=0->invP p (x:Int)=0):=by decide+kernel
theorem J1 {p:Int} (hp:zi p=true) {x:Int} (h0:0<=x) (h1:x < p):jo.f 40 p x=some (invP p x)/\0<=invP p x/\invP p x < p/\(x≠0->(x*invP p x) % p=1)/\(x=0->invP p x=0):=by
 obtain⟨y,rfl⟩:=Int.eq_ofNat_of_zero_le h0;have hb:=zk hp;refine qom p ?_ y (List.mem_range.2 (by omega)) h1
 have:=qb5 hp
 simpa using this
theorem qr0 {p:Int} (hp:zi p=true) {x:Int} (h0:0<=x) (h1:x < p):Ev (λk=>jo.f k p x) (invP p x):=Ev.of (jo.mono p x) (J1 hp h0 h1).1
theorem qs2 {p:Int} (hp:zi p=true):invP p 1=1:=by
 have hb:=zk hp;obtain⟨_,h2,h3,h4,_⟩:=J1 hp (x:=1) (by omega) (by omega)
 have:=h4 (by omega)
 rw[Int.one_mul,Int.emod_eq_of_lt h2 h3]at this;exact this
theorem qu9 {p:Int} (hp:zi p=true) {x:Int} (h0:0<=x) (h1:x < p) (hx:x≠0):invP p x≠0:=by
 intro e
 have:=(J1 hp h0 h1).2.2.2.1 hx
 rw[e]at this
 simp at this
def Jn (l:List Int):Int:=(l.find? (λx=>x !=0)).getD 0
def rowP (p:Int) (l:List Int):List Int:=l.map λx=>x*invP p (Jn l) % p
theorem qdh (x:Int) (l:List Int):Jn (x :: l)=if x=0 then Jn l else x:=by
 unfold Jn
 by_cases h:x=0
 ·simp[h]
 ·simp[h]
theorem qmz {p:Int} {l:List Int} (hr:∀ x∈l,0<=x/\x < p) (hp:0 < p):0<=Jn l/\Jn l < p:=by
 unfold Jn
 cases h:l.find? (λx=>x !=0) with
 | none=>simp;omega
 | some y=>exact hr y (List.mem_of_find?_eq_some h)
theorem qc6 {p x y:Int} (hp:p<=31) (h0:0<=x) (h1:x < p) (h2:0<=y) (h3:y < p):0<=x*y/\x*y<=900:=by
 have h:=Int.mul_le_mul (show x<=30 by omega) (show y<=30 by omega) h2 (by omega);exact⟨Int.mul_nonneg h0 h2,by omega⟩
theorem qlf {p:Int} (hp:zi p=true) (l:List Int) (hr:∀ x∈l,0<=x/\x < p) (hl:l.length<=1000):∀ (d i:Nat) (acc:List Int) (n:Int),i+d=l.length->acc.length=i->(n=0\/0<=n/\n < p)->
  Ev (λk=>zh.l0 k p l acc n (i:Int)) (acc++(l.drop i).map λx=>x*(if n=0 then invP p (Jn (l.drop i)) else n) % p)
 | 0,i,acc,n,h,ha,hn=>by
  refine Ev.step (f:=λ_=>some acc) (λk=>?_) ?_
  ·rw[zh.l0,if_neg (by omega)]
  ·rw[List.drop_eq_nil_of_le (by omega)];simpa using Ev.now acc
 | d + 1, i, acc, n, h, ha, hn => by
  have hb:=zk hp;have hi:i < l.length:=by omega
  have hx:=hr _ (List.getElem_mem hi);rw[<-Jo l i hi]at hx;rw[qc8 l i hi]
  by_cases h0:n=0
  ·have hv:=J1 hp hx.1 hx.2
   have hm:=qc6 hb.2 hx.1 hx.2 hv.2.1 hv.2.2.1;refine Ev.step (f:=λk=>(jo.f k p (rd l (i:Int))).bind λt=>zh.l0 k p l (acc++[Int.tmod (wrap64 ((rd l (i:Int))*t)) p]) t ((i+1:Nat):Int)) (λk=>?_) (Ev.bind (qr0 hp hx.1 hx.2) ?_)
   ·rw[zh.l0,if_pos (by omega),if_pos h0,if_pos (by omega)]
    congr 1
    funext t
    rw[if_neg (by omega),if_pos (by omega),wsm (i:=(i:Int)+1) (by omega) (by omega)]
    rfl
   ·have ih:=qlf hp l hr hl d (i+1) (acc++[Int.tmod (wrap64 ((rd l (i:Int))*invP p (rd l (i:Int)))) p]) (invP p (rd l (i:Int))) (by omega) (by simp[ha]) (.inr ⟨hv.2.1,hv.2.2.1⟩)
    rw[wsm (by omega) (by omega),Int.tmod_eq_emod_of_nonneg hm.1]at ih ⊢;rw[List.append_assoc]at ih;rw[qdh,if_pos h0]
    by_cases hz:rd l (i:Int)=0
    ·rw[if_pos hz]
     rw[if_pos (hv.2.2.2.2 hz)]at ih;simp only[hz,Int.zero_mul,List.map_cons]at ih ⊢;exact ih
    ·rw[if_neg hz]
     rw[if_neg (qu9 hp hx.1 hx.2 hz)]at ih
     simpa using ih
  ·have hn':0<=n/\n < p:=by rcases hn with h|h;exact absurd h h0;exact h
   have hm:=qc6 hb.2 hx.1 hx.2 hn'.1 hn'.2;refine Ev.step (f:=λk=>zh.l0 k p l (acc++[Int.tmod (wrap64 ((rd l (i:Int))*n)) p]) n ((i+1:Nat):Int)) (λk=>?_) ?_
   ·rw[zh.l0,if_pos (by omega),if_neg h0,if_pos (by omega),if_neg (by omega),if_pos (by omega),wsm (i:=(i:Int)+1) (by omega) (by omega)]
    rfl
   ·have ih:=qlf hp l hr hl d (i+1) (acc++[Int.tmod (wrap64 ((rd l (i:Int))*n)) p]) n (by omega) (by simp[ha]) hn
    rw[wsm (by omega) (by omega),Int.tmod_eq_emod_of_nonneg hm.1]at ih ⊢;rw[if_neg h0]at ih ⊢
    simpa using ih
theorem qht {p:Int} (hp:zi p=true) (l:List Int) (hr:∀ x∈l,0<=x/\x < p) (hl:l.length<=1000):Ev (λk=>zh.f k p l) (rowP p l):=by
 have:=qlf hp l hr hl l.length 0 [] 0 (by omega) rfl (.inl rfl)
 unfold zh.f
 simpa [rowP] using this
def ptB (p x y z:Int):Bool:=Zz p [x,y,z] 3 && qav [x,y,z]
theorem qra {p:Int} (hp:zi p=true) {l:List Int} (hr:∀ x∈l,0<=x/\x < p):((rowP p l).all λx=>x == 0)=l.all λx=>x == 0:=by
 have hb:=zk hp;rw[Bool.eq_iff_iff,List.all_eq_true,List.all_eq_true];unfold rowP;constructor
 ·intro h x hx
  cases hf:l.find? (λx=>x !=0) with
  | none=>have:=List.find?_eq_none.1 hf x hx;simpa using this
  | some y=>
   have hy:=List.mem_of_find?_eq_some hf;have hy0:y≠0:=by simpa using List.find?_some hf
   have h1:=h _ (List.mem_map.2 ⟨y,hy,rfl⟩);rw[Jn,hf]at h1
   have:=(J1 hp (hr y hy).1 (hr y hy).2).2.2.2.1 hy0
   simp only[Option.getD_some]at h1;rw[this]at h1
   simp at h1
 ·intro h x hx
  obtain⟨y,hy,rfl⟩:=List.mem_map.1 hx
  have:=h y hy
  simp at this
  simp[this]
theorem qmo (l:List Int) (hl:l.length<=1000000):∀ (d i:Nat),i+d=l.length->Ev (λk=>z8.l0 k l (i:Int)) ((l.drop i).all λx=>x == 0)
 | 0,i,h=>by
  refine Ev.step (f:=λ_=>some true) (λk=>?_) ?_
  ·rw[z8.l0,if_neg (by omega)]
  ·rw[List.drop_eq_nil_of_le (by omega)];exact Ev.now _
 | d + 1, i, h => by
  have ih:=qmo l hl d (i+1) (by omega);rw[qc8 l i (by omega),List.all_cons]
  by_cases hz:rd l (i:Int)=0
  ·refine Ev.step (f:=λk=>z8.l0 k l ((i+1:Nat):Int)) (λk=>?_) ?_
   ·rw[z8.l0,if_pos (by omega),if_pos (by omega),if_pos hz,wsm (by omega) (by omega)];rfl
   ·simpa [hz] using ih
  ·refine Ev.step (f:=λ_=>some false) (λk=>?_) ?_
   ·rw[z8.l0,if_pos (by omega),if_pos (by omega),if_neg hz]
   ·rw[show (rd l (i:Int) == 0)=false from beq_eq_false_iff_ne.2 hz]
    exact Ev.now false
theorem qjx (l:List Int) (hl:l.length<=1000000):Ev (λk=>z8.f k l) (l.all λx=>x == 0):=by
 unfold z8.f
 simpa using qmo l hl l.length 0 (by omega)
theorem qrd {p:Int} (hp:zi p=true) {l:List Int} (hr:∀ x∈l,0<=x/\x < p):(!(l.all λx=>x == 0) && decide (rowP p l=l))=qav l:=by
 have hb:=zk hp;unfold qav rowP Jn
 cases h:l.find? (λx=>x !=0) with
 | none=>
  have:(l.all λx=>x == 0)=true:=by
   rw[List.all_eq_true];intro x hx
   have:=List.find?_eq_none.1 h x hx
   simpa using this
  rw[this];rfl
 | some y=>
  have hy:=List.mem_of_find?_eq_some h;have hy0:y≠0:=by simpa using List.find?_some h
  have hall:(l.all λx=>x == 0)=false:=by
   rw[Bool.eq_false_iff];intro e;exact hy0 (by simpa using List.all_eq_true.1 e y hy)
  rw[hall];simp only[Bool.not_false,Bool.true_and,Option.getD_some];rw[Bool.eq_iff_iff,decide_eq_true_iff,beq_iff_eq];constructor
  ·intro e
   have e1:y*invP p y % p=y:=by
    have h2:∀ (m:List Int),(m.map λx=>x*invP p y % p)=m->y∈m->y*invP p y % p=y:=by
     intro m
     induction m with
     | nil=>intro _ h;simp at h
     | cons z m ih=>
      intro e h;rw[List.map_cons]at e;injection e with e1 e2
      rcases List.mem_cons.1 h with rfl|h
      ·exact e1
      ·exact ih e2 h
    exact h2 l e hy
   have:=(J1 hp (hr y hy).1 (hr y hy).2).2.2.2.1 hy0
   rw[this]at e1;rw[<-e1]
  ·intro e
   injection e with e
   subst e;rw[qs2 hp];refine(List.map_congr_left (g:=id) λx hx=>?_).trans (List.map_id _);rw[Int.mul_one,Int.emod_eq_of_lt (hr x hx).1 (hr x hx).2];rfl
theorem qvt {p:Int} (hp:zi p=true) (x y z:Int):Ev (λk=>j9.f k p x y z) (ptB p x y z):=by
 have hb:=zk hp;have hlin:∀ x,linB p x=true↔0<=x/\x < p:=λx=>by
  rw[linB,wsm (by omega) (by omega),Bool.and_eq_true,decide_eq_true_iff,decide_eq_true_iff];omega
 have hno:∀ w∈[x,y,z],¬ linB p w=true->ptB p x y z=false:=λw hw hn=>by
  cases hh:ptB p x y z with
  | false=>rfl
  | true=>
   rw[ptB,Bool.and_eq_true]at hh;exact absurd ((hlin w).2 ((jn hh.1).2.2 w hw)) hn
 unfold j9.f
 by_cases h1:linB p x=true
 ·refine Ev.yes h1 ?_
  by_cases h2:linB p y=true
  ·refine Ev.yes h2 ?_
   by_cases h3:linB p z=true
   ·refine Ev.yes h3 ?_
    have hr:∀ w∈[x,y,z],0<=w/\w < p:=λw hw=>by
     simp only[List.mem_cons,List.not_mem_nil,or_false]at hw
     rcases hw with rfl|rfl|rfl
     ·exact(hlin _).1 h1
     ·exact(hlin _).1 h2
     ·exact(hlin _).1 h3
    refine Ev.bind (qht hp [x,y,z] hr (by simp)) (Ev.bind (qjx _ (by simp[rowP])) ?_);have hn:Zz p [x,y,z] 3=true:=qe6 hp rfl hr;rw[qra hp hr,ptB,hn,Bool.true_and,<-qrd hp hr]
    cases hz:[x,y,z].all (λx=>x == 0) with
    | true=>exact Ev.yes rfl (Ev.now _)
    | false=>
     refine Ev.no (by simp) (Ev.yes (by simp[rowP]) ?_);have e:((rd (rowP p [x,y,z]) 0 == x) && (rd (rowP p [x,y,z]) 1 == y) && (rd (rowP p [x,y,z]) 2 == z))=(!false && decide (rowP p [x,y,z]=[x,y,z])):=by
      rw[Bool.eq_iff_iff]
      simp[rowP,rd,and_assoc]
     rw[<-e];exact Ev.now _
   ·rw[hno z (by simp) h3];exact Ev.no h3 (Ev.now _)
  ·rw[hno y (by simp) h2];exact Ev.no h2 (Ev.now _)
 ·rw[hno x (by simp) h1];exact Ev.no h1 (Ev.now _)
theorem qiv (p x y z:Int):Ev (λk=>Qv.f k p x y z) (ptB p x y z):=by
 unfold Qv.f;refine Ev.bind (Ev.k (qhz p)) ?_
 cases hp:zi p with
 | true=>exact Ev.yes rfl (Ev.bind (qvt hp x y z) (Ev.now _))
 | false=>
  rw[show ptB p x y z=false by simp[ptB,Zz,hp]];exact Ev.no (by simp) (Ev.now _)
def Qt (p t:Int) (h r:List Int):List Int:=List.zipWith (λx y=>(x - t*y) % p) r h
def Jk (p b:Int) (r:List Int):List Int:=r.map λx=>x*b % p
def redP (p:Int):Nat->Nat->List (List Int)->List (List Int)->List (List Int)
 | 0,_,_,O=>O
 | d+1,c,L,O=>
  match L.findIdx? (λrow=>rd row (c:Int) !=0) with
  | none=>redP p d (c+1) L O
  | some i=>redP p d (c+1) ((L.eraseIdx i).map λr=>Qt p (rd r (c:Int)) (Jk p (invP p (rd (L.getD i []) (c:Int))) (L.getD i [])) r) ((O.map λr=>Qt p (rd r (c:Int)) (Jk p (invP p (rd (L.getD i []) (c:Int))) (L.getD i [])) r)++[Jk p (invP p (rd (L.getD i []) (c:Int))) (L.getD i [])])
def qcb (p:Int):Nat->Nat->List (List Int)->List Int->List Int
 | 0,_,_,H=>H
 | d+1,c,L,H=>
  match L.findIdx? (λrow=>rd row (c:Int) !=0) with
  | none=>qcb p d (c+1) L H
  | some i=>qcb p d (c+1) ((L.eraseIdx i).map λr=>Qt p (rd r (c:Int)) (Jk p (invP p (rd (L.getD i []) (c:Int))) (L.getD i [])) r) (H++[(c:Int)])
def okR (p:Int) (w:Nat) (L:List (List Int)):Prop:=∀ r∈L,r.length=w/\∀ x∈r,0<=x/\x < p
theorem J8 (p:Int) (w:Nat):okR p w []:=λ_ h=>absurd h (by simp)
theorem qad {p:Int} {w:Nat} {r:List Int} {L:List (List Int)} (h1:r.length=w/\∀ x∈r,0<=x/\x < p) (h2:okR p w L):okR p w (r :: L):=λx hx=>by
 rcases List.mem_cons.1 hx with rfl|hx
 ·exact h1
 ·exact h2 x hx
theorem qcj {p:Int} {w:Nat} {L M:List (List Int)} (h1:okR p w L) (h2:okR p w M):okR p w (L++M):=λx hx=>by
 rcases List.mem_append.1 hx with hx|hx
 ·exact h1 x hx
 ·exact h2 x hx
theorem qg3 {p t:Int} {w:Nat} {h r:List Int} (hp:0 < p) (hh:h.length=w) (hr:r.length=w):(Qt p t h r).length=w/\∀ x∈Qt p t h r,0<=x/\x < p:=by
 refine⟨by simp[Qt,hh,hr],λx hx=>?_⟩;rw[Qt,List.mem_iff_getElem]at hx;obtain⟨i,hi,rfl⟩:=hx;rw[List.getElem_zipWith];exact⟨Int.emod_nonneg _ (by omega),Int.emod_lt_of_pos _ hp⟩
theorem qcz {p b:Int} {w:Nat} {r:List Int} (hp:0 < p) (hr:r.length=w):(Jk p b r).length=w/\∀ x∈Jk p b r,0<=x/\x < p:=by
 refine⟨by simp[Jk,hr],λx hx=>?_⟩;obtain⟨y,_,rfl⟩:=List.mem_map.1 hx;exact⟨Int.emod_nonneg _ (by omega),Int.emod_lt_of_pos _ hp⟩
theorem Zw {L:List (List Int)} {i:Nat} (h:i < L.length):L.getD i []∈L:=by
 rw[List.getD_eq_getElem?_getD,List.getElem?_eq_getElem h];exact List.getElem_mem h
theorem qcf {p:Int} {w:Nat} {L:List (List Int)} {h:List Int} (t:List Int->Int) (hp:0 < p) (hh:h.length=w) (hL:okR p w L):okR p w (L.map λr=>Qt p (t r) h r):=λx hx=>by
 obtain⟨r,hr,rfl⟩:=List.mem_map.1 hx;exact qg3 hp hh (hL r hr).1
theorem qcx {p:Int} {w:Nat} {L:List (List Int)} (i:Nat) (hL:okR p w L):okR p w (L.eraseIdx i):=λr hr=>hL r (List.mem_of_mem_eraseIdx hr)
theorem qej {L:List (List Int)} {P:List Int->Bool} {i:Nat} (h:L.findIdx? P=some i):i < L.length/\P (L.getD i [])=true:=by
 rw[List.findIdx?_eq_some_iff_getElem]at h;obtain⟨hi,hp,_⟩:=h;exact⟨hi,by rw[List.getD_eq_getElem?_getD,List.getElem?_eq_getElem hi];exact hp⟩
theorem qgk {p:Int} {w:Nat} {r:List Int} (h:r.length=w/\∀ x∈r,0<=x/\x < p) (j:Nat) (hj:j < w):0<=rd r (j:Int)/\rd r (j:Int) < p:=by
 rw[Jo r j (by omega)];exact h.2 _ (List.getElem_mem _)
theorem qk2 {p t:Int} {h r:List Int} (j:Nat) (h1:j < r.length) (h2:j < h.length):rd (Qt p t h r) (j:Int)=(rd r (j:Int) - t*rd h (j:Int)) % p:=by
 rw[Jo _ j (by simp[Qt];omega),Jo _ j h1,Jo _ j h2];simp[Qt]
theorem qm5 {p b:Int} {r:List Int} (j:Nat) (h1:j < r.length):rd (Jk p b r) (j:Int)=rd r (j:Int)*b % p:=by
 rw[Jo _ j (by simp[Jk];omega),Jo _ j h1];simp[Jk]
def modW (p x:Int):Int:=Int.tmod (wrap64 (Int.tmod x p+p)) p
theorem qg7 {p:Int} (hp:0 < p) (x:Int):-p < Int.tmod x p/\Int.tmod x p < p:=by
 refine⟨?_,Int.tmod_lt_of_pos x hp⟩;have h1:=Int.tmod_lt_of_pos (-x) hp;rw[Int.neg_tmod]at h1;omega
theorem qr1 {p:Int} (x:Int):(Int.tmod x p+p) % p=x % p:=by
 have h:=Int.mul_tdiv_add_tmod x p;have e:x=Int.tmod x p+p*x.tdiv p:=by omega
 rw[Int.add_emod_right]
 conv=>rhs;rw[e,Int.add_mul_emod_self_left]
theorem qba {x p:Int} (hp:7<=p/\p<=31) (h0:-1000000000<=x) (h1:x<=1000000000):modW p (wrap64 x)=x % p:=by
 rw[wsm (by omega) (by omega),modW];have hb:=qg7 (p:=p) (by omega) x;rw[wsm (by omega) (by omega),Int.tmod_eq_emod_of_nonneg (by omega),qr1]
theorem qd0 (p x:Int) (hp:p≠0):Q9.f p x=some (modW p x):=by rw[Q9.f,if_neg hp];rfl
theorem qmg {p t:Int} {w:Nat} (hp:7<=p/\p<=31) (ht:0<=t/\t < p) {h r:List Int} (hh:h.length=w/\∀ x∈h,0<=x/\x < p) (hr:r.length=w/\∀ x∈r,0<=x/\x < p) (hw:w<=1000):∀ (d i:Nat),i+d=w->Ev (λk=>zj.l0 k p r t h ((Qt p t h r).take i) (i:Int)) (Qt p t h r)
 | 0,i,he=>by
  have hl:=(qg3 (p:=p) (t:=t) (by omega) hh.1 hr.1).1;refine Ev.step (f:=λ_=>some (Qt p t h r)) (λk=>?_) (Ev.now _);rw[zj.l0,if_neg (by omega),List.take_of_length_le (by omega)]
 | d + 1, i, he => by
  have hl:=(qg3 (p:=p) (t:=t) (by omega) hh.1 hr.1).1;have hx:=qgk hr i (by omega);have hy:=qgk hh i (by omega);have hm:=qc6 hp.2 ht.1 ht.2 hy.1 hy.2;refine Ev.step (f:=λk=>zj.l0 k p r t h ((Qt p t h r).take (i+1)) ((i+1:Nat):Int)) (λk=>?_) (qmg hp ht hh hr hw d (i+1) (by omega));rw[zj.l0,if_pos (by omega),if_pos (by omega),if_pos (by omega),qd0 _ _ (by omega),Option.bind_some,if_pos (by simp;omega),wsm (i:=(i:Int)+1) (by omega) (by omega),wsm (i:=t*rd h (i:Int)) (by omega) (by omega),qba hp (by omega) (by omega)];have e:(Qt p t h r).take (i+1)=(Qt p t h r).take i++[(rd r (i:Int) - t*rd h (i:Int)) % p]:=by
   rw[List.take_add_one,List.getElem?_eq_getElem (by omega),<-Jo (Qt p t h r) i (by omega),qk2 i (by omega) (by omega)]
   rfl
  rw[e]
  rfl
theorem qjj {p t:Int} {w:Nat} (hp:7<=p/\p<=31) (ht:0<=t/\t < p) {h r:List Int} (hh:h.length=w/\∀ x∈h,0<=x/\x < p) (hr:r.length=w/\∀ x∈r,0<=x/\x < p) (hw:w<=1000):Ev (λk=>zj.f k p r t h) (Qt p t h r):=by
 unfold zj.f
 simpa using qmg hp ht hh hr hw w 0 (by omega)
theorem qd1 (L:List (List Int)) (i:Nat):zt L (i:Int)=L.getD i []:=by simp[zt]
theorem ql0 :∀ (l:List Int) (c:Nat),c < l.length->(∀ j:Nat,j < c->rd l (j:Int)=0)->rd l (c:Int)≠0->Jn l=rd l (c:Int)
 | [],c,h,_,_=>absurd h (by simp)
 | x :: l,0,_,_,hn=>by
  have e:rd (x :: l) ((0:Nat):Int)=x:=by simp[rd]
  rw[e]at hn ⊢;rw[qdh,if_neg hn]
 | x :: l,c+1,h,hz,hn=>by
  have e:∀ j:Nat,rd (x :: l) ((j+1:Nat):Int)=rd l (j:Int):=λj=>by simp[rd]
  have h0:x=0:=by have:=hz 0 (by omega);simpa [rd] using this
  rw[qdh,if_pos h0,e];exact ql0 l c (by simpa using h) (λj hj=>by rw[<-e];exact hz (j+1) (by omega)) (by rw[<-e];exact hn)
theorem qkn {p:Int} {l:List Int} {c:Nat} (hc:c < l.length) (hz:∀ j:Nat,j < c->rd l (j:Int)=0) (hn:rd l (c:Int)≠0):rowP p l=Jk p (invP p (rd l (c:Int))) l:=by
 rw[rowP,ql0 l c hc hz hn,Jk]
def qf5 (c:Nat) (L:List (List Int)):Prop:=∀ r∈L,∀ j:Nat,j < c->rd r (j:Int)=0
theorem qgo {p:Int} (hp:zi p=true) {w c:Nat} (hc:c < w) {L:List (List Int)} (hL:okR p w L) (hz:qf5 c L) {i:Nat} (hf:L.findIdx? (λrow=>rd row (c:Int) !=0)=some i):
  qf5 (c+1) ((L.eraseIdx i).map λr=>Qt p (rd r (c:Int)) (Jk p (invP p (rd (L.getD i []) (c:Int))) (L.getD i [])) r):=by
 intro r hr j hj;obtain⟨q,hq,rfl⟩:=List.mem_map.1 hr;have hq':=List.mem_of_mem_eraseIdx hq;obtain⟨hi,hne⟩:=qej hf;have hx:=hL _ (Zw hi);have hxr:=qgk hx c hc;have hne':rd (L.getD i []) (c:Int)≠0:=by simpa using hne
 have hql:=(hL q hq').1;rw[qk2 j (by omega) (by rw[(qcz (by have:=zk hp;omega) hx.1).1];omega),qm5 j (by omega)]
 by_cases e:j=c
 ·subst e
  rw[(J1 hp hxr.1 hxr.2).2.2.2.1 hne',Int.mul_one,Int.sub_self,Int.zero_emod]
 ·rw[hz q hq' j (by omega),hz _ (Zw hi) j (by omega)]
  simp
theorem qgv {c:Nat} {L:List (List Int)} (hz:qf5 c L) (hf:L.findIdx? (λrow=>rd row (c:Int) !=0)=none):qf5 (c+1) L:=by
 intro r hr j hj
 by_cases e:j=c
 ·subst e
  have:=List.findIdx?_eq_none_iff.1 hf r hr
  simpa using this
 ·exact hz r hr j (by omega)
theorem qjf {p:Int} {w:Nat} {rows out:List (List Int)} {heads:List Int} {c:Nat} {R:List (List Int)×List Int} (hc:c < w) (hw:w<=1000) (hlen:rows.length < 1000000) (hr:∀ r∈rows,r.length=w)
  (hnone:rows.findIdx? (λrow=>rd row (c:Int) !=0)=none->Ev (λk=>qh.l0 k p rows (w:Int) out heads ((c+1:Nat):Int)) R)
  (hsome:∀ i,rows.findIdx? (λrow=>rd row (c:Int) !=0)=some i->Ev (λk=>(zh.f k p (rows.getD i [])).bind λt=>qh.l2 k p rows (w:Int) out heads (c:Int) (i:Int) t [] 0) R):
  ∀ (d i:Nat),i+d=rows.length->(rows.take i).findIdx? (λrow=>rd row (c:Int) !=0)=none->Ev (λk=>qh.l1 k p rows (w:Int) out heads (c:Int) (-1) (i:Int)) R
 | 0,i,he,hf=>by
  have hf':rows.findIdx? (λrow=>rd row (c:Int) !=0)=none:=by rwa [List.take_of_length_le (by omega)]at hf
  refine Ev.step (f:=λk=>qh.j2 k p rows (w:Int) out heads (c:Int) (-1) (i:Int) false) (λk=>?_) ?_
  ·rw[qh.l1,if_neg (by omega)]
  ·refine Ev.step (f:=λk=>qh.l0 k p rows (w:Int) out heads ((c+1:Nat):Int)) (λk=>?_) (hnone hf')
   rw[qh.j2,if_neg (by simp),if_pos (by omega),wsm (by omega) (by omega)]
   rfl
 | d + 1, i, he, hf => by
  have hi:i < rows.length:=by omega
  have hrl:(rows.getD i []).length=w:=hr _ (Zw hi);refine Ev.step (f:=λk=>qh.j2 k p rows (w:Int) out heads (c:Int) (-1) (i:Int) true) (λk=>?_) ?_
  ·rw[qh.l1,if_pos (by omega)];rfl
  ·by_cases hz:rd (rows.getD i []) (c:Int)=0
   ·refine Ev.step (f:=λk=>qh.l1 k p rows (w:Int) out heads (c:Int) (-1) ((i+1:Nat):Int)) (λk=>?_) (qjf hc hw hlen hr hnone hsome d (i+1) (by omega) ?_)
    ·rw[qh.j2,if_pos rfl,if_pos (by omega),if_pos (by omega),if_pos (by omega),qd1,if_pos (by omega),if_pos hz,wsm (by omega) (by omega)]
     rfl
    ·rw[List.take_add_one,List.findIdx?_append,hf,List.getElem?_eq_getElem hi]
     rw[List.getD_eq_getElem?_getD,List.getElem?_eq_getElem hi]at hz;simp only[Option.getD_some]at hz
     simp[List.findIdx?_cons,hz]
   ·have hfi:rows.findIdx? (λrow=>rd row (c:Int) !=0)=some i:=by
     rw[List.getD_eq_getElem?_getD,List.getElem?_eq_getElem hi]at hz;simp only[Option.getD_some]at hz;have hsplit:rows=rows.take i++rows[i] :: rows.drop (i+1):=by rw[List.getElem_cons_drop,List.take_append_drop]
     rw[hsplit,List.findIdx?_append,hf];have hz':(rd rows[i] (c:Int) !=0)=true:=bne_iff_ne.mpr hz;rw[List.findIdx?_cons,hz'];simp only[if_true,Option.map_some,Option.none_or,List.length_take,Nat.zero_add];rw[Nat.min_eq_left (by omega)]
    have hs:=hsome i hfi;have hfin:∀ q:Nat,Ev (λk=>qh.j2 k p rows (w:Int) out heads (c:Int) (i:Int) (q:Int) false) R:=λq=>by
     refine Ev.step (f:=λk=>(zh.f k p (rows.getD i [])).bind λt=>qh.l2 k p rows (w:Int) out heads (c:Int) (i:Int) t [] 0) (λk=>?_) hs;rw[qh.j2,if_neg (by simp),if_neg (by omega),if_pos (by omega),if_pos (by omega),qd1]
    refine Ev.step (f:=λk=>qh.l1 k p rows (w:Int) out heads (c:Int) (i:Int) ((i+1:Nat):Int)) (λk=>?_) ?_
    ·rw[qh.j2,if_pos rfl,if_pos (by omega),if_pos (by omega),if_pos (by omega),qd1,if_pos (by omega),if_neg hz,wsm (by omega) (by omega)]
     rfl
    ·refine Ev.step (f:=λk=>qh.j2 k p rows (w:Int) out heads (c:Int) (i:Int) ((i+1:Nat):Int) false) (λk=>?_) (hfin (i+1))
     rw[qh.l1]
     split
     ·rw[decide_eq_false (by omega)]
     ·rfl
theorem qpt {p:Int} {w:Nat} (hp:7<=p/\p<=31) {rows out:List (List Int)} {heads:List Int} {c at_:Nat} {row:List Int} {R:List (List Int)×List Int} (hc:c < w) (hw:w<=1000) (hlen:rows.length < 1000000) (hr:okR p w rows) (hrow:row.length=w/\∀ x∈row,0<=x/\x < p) (hat:at_ < rows.length)
  (hend:Ev (λk=>qh.l3 k p ((rows.eraseIdx at_).map λr=>Qt p (rd r (c:Int)) row r) (w:Int) out heads (c:Int) row 0) R):
  ∀ (d i:Nat),i+d=rows.length->Ev (λk=>qh.l2 k p rows (w:Int) out heads (c:Int) (at_:Int) row (((rows.take i).eraseIdx at_).map λr=>Qt p (rd r (c:Int)) row r) (i:Int)) R
 | 0,i,he=>by
  refine Ev.step (f:=λk=>qh.l3 k p ((rows.eraseIdx at_).map λr=>Qt p (rd r (c:Int)) row r) (w:Int) out heads (c:Int) row 0) (λk=>?_) hend;rw[qh.l2,if_neg (by omega),List.take_of_length_le (by omega)]
 | d + 1, i, he => by
  have hi:i < rows.length:=by omega
  have ih:=qpt hp hc hw hlen hr hrow hat hend d (i+1) (by omega)
  by_cases e:i=at_
  ·subst e
   refine Ev.step (f:=λk=>qh.l2 k p rows (w:Int) out heads (c:Int) (i:Int) row (((rows.take (i+1)).eraseIdx i).map λr=>Qt p (rd r (c:Int)) row r) ((i+1:Nat):Int)) (λk=>?_) ih;rw[qh.l2,if_pos (by omega),if_pos rfl,wsm (by omega) (by omega)];have e1:(rows.take i).eraseIdx i=rows.take i:=List.eraseIdx_of_length_le (by rw[List.length_take];omega);have e2:(rows.take (i+1)).eraseIdx i=rows.take i:=by
    rw[List.take_add_one,List.eraseIdx_append_of_length_le (by rw[List.length_take];omega)]
    simp[Nat.min_eq_left (Nat.le_of_lt hi),List.getElem?_eq_getElem hi]
   rw[e1,e2]
   rfl
  ·have hrow_i:=hr _ (Zw hi)
   have ht:=qgk hrow_i c hc;refine Ev.step (f:=λk=>(zj.f k p (rows.getD i []) (rd (rows.getD i []) (c:Int)) row).bind λt=>if (((rows.take i).eraseIdx at_).map λr=>Qt p (rd r (c:Int)) row r).length < 5864062014805 then qh.l2 k p rows (w:Int) out heads (c:Int) (at_:Int) row ((((rows.take i).eraseIdx at_).map λr=>Qt p (rd r (c:Int)) row r)++[t]) ((i+1:Nat):Int) else none) (λk=>?_) ?_
   ·rw[qh.l2,if_pos (by omega),if_neg (by omega),if_pos (by omega),if_pos (by omega),qd1,if_pos (by omega),wsm (by omega) (by omega)]
    rfl
   ·refine Ev.bind (qjj hp ht hrow hrow_i hw) (Ev.yes ?_ ?_)
    ·rw[List.length_map]
     have h1:=List.length_eraseIdx_le (rows.take i) at_;have h2:(rows.take i).length<=rows.length:=by rw[List.length_take];omega
     omega
    ·have e2:((rows.take (i+1)).eraseIdx at_).map (λr=>Qt p (rd r (c:Int)) row r)=((rows.take i).eraseIdx at_).map (λr=>Qt p (rd r (c:Int)) row r)++[Qt p (rd (rows.getD i []) (c:Int)) row (rows.getD i [])]:=by
      have e3:rows.take (i+1)=rows.take i++[rows.getD i []]:=by
       rw[List.take_add_one,List.getElem?_eq_getElem hi,List.getD_eq_getElem?_getD,List.getElem?_eq_getElem hi];rfl
      by_cases hlt:at_ < i
      ·rw[e3,List.eraseIdx_append_of_lt_length (by simp;omega),List.map_append];rfl
      ·rw[List.eraseIdx_of_length_le (by simp;omega),List.eraseIdx_of_length_le (by simp;omega),e3,List.map_append];rfl
     rw[e2]at ih;exact ih
theorem qrz {α:Type} (N R:List α) (j:Nat) (v:α) (hl:N.length=R.length) (hj:j < R.length) (hv:N[j]? =some v):(N.take j++R.drop j).set j v=N.take (j+1)++R.drop (j+1):=by
 rw[List.set_append_right _ _ (by simp;omega),List.length_take,Nat.min_eq_left (by omega),Nat.sub_self,List.drop_eq_getElem_cons hj,List.set_cons_zero,List.take_add_one,hv]
 simp
theorem qqg {p:Int} {w:Nat} (hp:7<=p/\p<=31) {rest out:List (List Int)} {heads:List Int} {c:Nat} {row:List Int} {R:List (List Int)×List Int} (hc:c < w) (hw:w<=1000) (hlen:out.length < 1000000) (hh:heads.length < 1000000) (hr:okR p w out) (hrow:row.length=w/\∀ x∈row,0<=x/\x < p)
  (hend:Ev (λk=>qh.l0 k p rest (w:Int) ((out.map λr=>Qt p (rd r (c:Int)) row r)++[row]) (heads++[(c:Int)]) ((c+1:Nat):Int)) R):
  ∀ (d i:Nat),i+d=out.length->Ev (λk=>qh.l3 k p rest (w:Int) ((out.map λr=>Qt p (rd r (c:Int)) row r).take i++out.drop i) heads (c:Int) row (i:Int)) R
 | 0,i,he=>by
  refine Ev.step (f:=λk=>qh.l0 k p rest (w:Int) ((out.map λr=>Qt p (rd r (c:Int)) row r)++[row]) (heads++[(c:Int)]) ((c+1:Nat):Int)) (λk=>?_) hend;rw[List.drop_eq_nil_of_le (by omega),List.append_nil,List.take_of_length_le (by simp;omega),qh.l3,if_neg (by simp;omega),if_pos (by simp;omega),if_pos (by omega),wsm (by omega) (by omega)]
  rfl
 | d + 1, i, he => by
  have hi:i < out.length:=by omega
  have ih:=qqg hp hc hw hlen hh hr hrow hend d (i+1) (by omega);have hrow_i:=hr _ (Zw hi);have ht:=qgk hrow_i c hc;have hcur:((out.map λr=>Qt p (rd r (c:Int)) row r).take i++out.drop i).getD i []=out.getD i []:=by
   simp[List.getD_eq_getElem?_getD,List.getElem?_append_right,Nat.min_eq_left (Nat.le_of_lt hi),hi]
  have hcl:((out.map λr=>Qt p (rd r (c:Int)) row r).take i++out.drop i).length=out.length:=by simp;omega
  have hset:((out.map λr=>Qt p (rd r (c:Int)) row r).take i++out.drop i).set i (Qt p (rd (out.getD i []) (c:Int)) row (out.getD i []))=(out.map λr=>Qt p (rd r (c:Int)) row r).take (i+1)++out.drop (i+1):=
   qrz _ _ _ _ (by simp) hi (by simp[List.getD_eq_getElem?_getD,List.getElem?_eq_getElem hi])
  refine Ev.step (f:=λk=>(zj.f k p (out.getD i []) (rd (out.getD i []) (c:Int)) row).bind λt=>qh.l3 k p rest (w:Int) (((out.map λr=>Qt p (rd r (c:Int)) row r).take i++out.drop i).set i t) heads (c:Int) row ((i+1:Nat):Int)) (λk=>?_) ?_
  ·rw[qh.l3,if_pos (by omega),if_pos (by omega),if_pos (by omega),qd1,hcur,if_pos (by omega),wsm (by omega) (by omega),Int.toNat_natCast]
   rfl
  ·refine Ev.bind (qjj hp ht hrow hrow_i hw) ?_
   rw[hset];exact ih
theorem qe1 {p:Int} (hp:zi p=true) {w:Nat} (hw:w<=1000):∀ (d c:Nat) (L O:List (List Int)) (H:List Int),c+d=w->okR p w L->okR p w O->qf5 c L->L.length+O.length < 1000000->H.length=O.length->
  Ev (λk=>qh.l0 k p L (w:Int) O H (c:Int)) (redP p d c L O,qcb p d c L H)
 | 0,c,L,O,H,hc,_,_,_,_,_=>by
  refine Ev.step (f:=λ_=>some (O,H)) (λk=>?_) (Ev.now _);rw[qh.l0,if_neg (by omega)]
 | d + 1, c, L, O, H, hc, hL, hO, hz, hl, hH => by
  have hb:=zk hp;refine Ev.step (f:=λk=>qh.l1 k p L (w:Int) O H (c:Int) (-1) ((0:Nat):Int)) (λk=>?_) ?_
  ·rw[qh.l0,if_pos (by omega)];rfl
  ·refine qjf (by omega) hw (by omega) (λr hr=>(hL r hr).1) (λhf=>?_) (λi hf=>?_) L.length 0 (by omega) rfl
   ·have ih:=qe1 hp hw d (c+1) L O H (by omega) hL hO (qgv hz hf) hl hH
    rw[redP,qcb,hf];exact ih
   ·obtain⟨hi,hne⟩:=qej hf
    have hx:=hL _ (Zw hi);have hne':rd (L.getD i []) (c:Int)≠0:=by simpa using hne
    have hs:=qcz (p:=p) (b:=invP p (rd (L.getD i []) (c:Int))) (by omega) hx.1;have hzn:=qgo hp (by omega) hL hz hf
    have ih:=qe1 hp hw d (c+1) ((L.eraseIdx i).map λr=>Qt p (rd r (c:Int)) (Jk p (invP p (rd (L.getD i []) (c:Int))) (L.getD i [])) r) ((O.map λr=>Qt p (rd r (c:Int)) (Jk p (invP p (rd (L.getD i []) (c:Int))) (L.getD i [])) r)++[Jk p (invP p (rd (L.getD i []) (c:Int))) (L.getD i [])]) (H++[(c:Int)]) (by omega)
     (qcf _ (by omega) hs.1 (qcx i hL)) (qcj (qcf _ (by omega) hs.1 hO) (qad hs (J8 p w))) hzn (by simp[List.length_eraseIdx,hi];omega) (by simp[hH])
    rw[redP,qcb,hf];simp only;refine Ev.bind (a:=Jk p (invP p (rd (L.getD i []) (c:Int))) (L.getD i [])) ?_ ?_
    ·have h1:=qht hp (L.getD i []) hx.2 (by omega)
     rwa [qkn (by omega) (hz _ (Zw hi)) hne']at h1
    ·have h2:=qqg hb (c:=c) (heads:=H) (out:=O) (rest:=(L.eraseIdx i).map λr=>Qt p (rd r (c:Int)) (Jk p (invP p (rd (L.getD i []) (c:Int))) (L.getD i [])) r) (by omega) hw (by omega) (by omega) hO hs ih O.length 0 (by omega)
     have h3:=qpt hb (c:=c) (by omega) hw (by omega) hL hs hi (by simpa using h2) L.length 0 (by omega)
     simpa using h3
theorem qbx {p:Int} (hp:zi p=true) {w:Nat} (hw:w<=1000) (L:List (List Int)) (hL:okR p w L) (hl:L.length < 1000000):Ev (λk=>qh.f k p L (w:Int)) (redP p w 0 L [],qcb p w 0 L []):=by
 unfold qh.f;exact qe1 hp hw w 0 L [] [] (by omega) hL (J8 p w) (λ_ _ j hj=>absurd hj (by omega)) (by simpa using hl) rfl
theorem Q1 {p x y:Int} (hp:7<=p/\p<=31) (hx:0<=x/\x < p) (hy:0<=y/\y < p):0<=x*y/\x*y<=900:=qc6 hp.2 hx.1 hx.2 hy.1 hy.2
def crsP (p:Int) (a b:Int×Int×Int):List Int:=[(a.2.1*b.2.2 - a.2.2*b.2.1) % p,(a.2.2*b.1 - a.1*b.2.2) % p,(a.1*b.2.1 - a.2.1*b.1) % p]
def inP (p:Int) (a:Int×Int×Int):Prop:=(0<=a.1/\a.1 < p)/\(0<=a.2.1/\a.2.1 < p)/\(0<=a.2.2/\a.2.2 < p)
theorem qdc {p:Int} {a:Int×Int×Int} (h:ptB p a.1 a.2.1 a.2.2=true):inP p a:=by
 rw[ptB,Bool.and_eq_true]at h
 have:=(jn h.1).2.2
 exact⟨this _ (by simp),this _ (by simp),this _ (by simp)⟩
theorem qia {p:Int} (hp:7<=p/\p<=31) (a b:Int×Int×Int) (ha:inP p a) (hb:inP p b):Qy.f p a.1 a.2.1 a.2.2 b.1 b.2.1 b.2.2=some (crsP p a b):=by
 obtain⟨a0,a1,a2⟩:=ha;obtain⟨b0,b1,b2⟩:=hb;have m1:=Q1 hp a1 b2;have m2:=Q1 hp a2 b1;have m3:=Q1 hp a2 b0;have m4:=Q1 hp a0 b2;have m5:=Q1 hp a0 b1;have m6:=Q1 hp a1 b0;unfold Qy.f
 rw[wsm (i:=a.2.1*b.2.2) (by omega) (by omega),wsm (i:=a.2.2*b.2.1) (by omega) (by omega),wsm (i:=a.2.2*b.1) (by omega) (by omega),wsm (i:=a.1*b.2.2) (by omega) (by omega),wsm (i:=a.1*b.2.1) (by omega) (by omega),wsm (i:=a.2.1*b.1) (by omega) (by omega),
  qd0 _ _ (by omega),qd0 _ _ (by omega),qd0 _ _ (by omega),qba hp (by omega) (by omega),qba hp (by omega) (by omega),qba hp (by omega) (by omega)]
 rfl
theorem qu6 {p:Int} (hp:7<=p/\p<=31) (a:Int×Int×Int) (ha:inP p a) (x y z:Int) (hx:0<=x/\x < p) (hy:0<=y/\y < p) (hz:0<=z/\z < p):Jy.f p a.1 a.2.1 a.2.2 [x,y,z]=some ((a.1*x+a.2.1*y+a.2.2*z) % p == 0):=by
 obtain⟨a0,a1,a2⟩:=ha;have m1:=Q1 hp a0 hx;have m2:=Q1 hp a1 hy;have m3:=Q1 hp a2 hz;unfold Jy.f;rw[if_pos (by simp),if_pos (by simp),if_pos (by simp),if_neg (by omega)];simp only[rd,Int.toNat_zero,Int.toNat_one,show (2:Int).toNat=2 from rfl,List.getD_cons_zero,List.getD_cons_succ];rw[wsm (i:=a.1*x) (by omega) (by omega),wsm (i:=a.2.1*y) (by omega) (by omega),wsm (i:=a.2.2*z) (by omega) (by omega),wsm (i:=a.1*x+a.2.1*y) (by omega) (by omega),wsm (by omega) (by omega),Int.tmod_eq_emod_of_nonneg (by omega)]
def colB (p:Int) (a b c:Int×Int×Int):Bool:=(c.1*(a.2.1*b.2.2 - a.2.2*b.2.1)+c.2.1*(a.2.2*b.1 - a.1*b.2.2)+c.2.2*(a.1*b.2.1 - a.2.1*b.1)) % p == 0
theorem mod3 (p x y z u v w:Int):(x*(u % p)+y*(v % p)+z*(w % p)) % p=(x*u+y*v+z*w) % p:=by
 have e:x*(u % p)+y*(v % p)+z*(w % p)=x*u+y*v+z*w+p*(-(x*(u / p)+y*(v / p)+z*(w / p))):=by
  simp only[Int.emod_def];grind
 rw[e,Int.add_mul_emod_self_left]
theorem qmm {p:Int} (hp:7<=p/\p<=31) (a b c:Int×Int×Int) (hc:inP p c):Jy.f p c.1 c.2.1 c.2.2 (crsP p a b)=some (colB p a b c):=by
 have hm:∀ y:Int,0<=y % p/\y % p < p:=λy=>⟨Int.emod_nonneg _ (by omega),Int.emod_lt_of_pos _ (by omega)⟩
 rw[crsP,qu6 hp c hc _ _ _ (hm _) (hm _) (hm _),colB]
 congr 2
 exact mod3 p _ _ _ _ _ _
def tpl (x:S51):Int×Int×Int:=(x.f0.f0,x.f0.f1,x.f0.f2)
def tps (l:List S51):List (Int×Int×Int):=l.map tpl
theorem qbg (l:List S51) (i:Nat) (hi:i < l.length):tpl (qg l (i:Int))=(tps l).getD i (0,0,0):=by
 simp[qg,tps,List.getD_eq_getElem?_getD,hi]
def allN (f:Nat->Bool):Nat->Nat->Bool
 | 0,_=>true
 | d+1,i=>f i && allN f d (i+1)
theorem qfg (f:Nat->Bool):∀ d i,allN f d i=true↔∀ j,i<=j->j < i+d->f j=true
 | 0,i=>by simp[allN];omega
 | d + 1, i => by
  rw[allN,Bool.and_eq_true,qfg f d (i+1)];constructor
  ·intro h j h1 h2
   by_cases e:j=i
   ·subst e;exact h.1
   ·exact h.2 j (by omega) (by omega)
  ·intro h
   exact⟨h i (by omega) (by omega),λj h1 h2=>h j (by omega) (by omega)⟩
def apI (p:Int) (Q:List (Int×Int×Int)) (i:Nat):Bool:=ptB p (Q.getD i (0,0,0)).1 (Q.getD i (0,0,0)).2.1 (Q.getD i (0,0,0)).2.2 && allN (λk=>allN (λj=>!colB p (Q.getD k (0,0,0)) (Q.getD j (0,0,0)) (Q.getD i (0,0,0))) k 0) i 0
def qb1 (p:Int) (Q:List (Int×Int×Int)):Bool:=allN (apI p Q) Q.length 0
theorem qo4 {p:Int} (hp:zi p=true) (l:List S51) (hl:l.length<=1000000):Ev (λk=>qv.f k p l) (qb1 p (tps l)):=by
 have hb:=zk hp;have hlen:(tps l).length=l.length:=by simp[tps]
 have hpt:∀ (i:Nat),i < l.length->Ev (λk=>Qv.f k p (qg l (i:Int)).f0.f0 (qg l (i:Int)).f0.f1 (qg l (i:Int)).f0.f2) (ptB p ((tps l).getD i (0,0,0)).1 ((tps l).getD i (0,0,0)).2.1 ((tps l).getD i (0,0,0)).2.2):=λi hi=>by
  rw[<-qbg l i hi];exact qiv _ _ _ _
 have h2:∀ (i k:Nat) (R:Bool),i < l.length->k < i->(∀ j,j < i->inP p ((tps l).getD j (0,0,0)))->inP p ((tps l).getD i (0,0,0))->Ev (λq=>qv.l1 q p l (i:Int) ((k+1:Nat):Int)) R->∀ (d j:Nat),j+d=k->Ev (λq=>qv.l2 q p l (i:Int) (k:Int) (j:Int)) (allN (λj=>!colB p ((tps l).getD k (0,0,0)) ((tps l).getD j (0,0,0)) ((tps l).getD i (0,0,0))) d j && R):=by
  intro i k R hi hk hin hii hend d
  induction d with
  | zero=>
   intro j hj;refine Ev.step (λq=>by rw[qv.l2,if_neg (by omega),wsm (by omega) (by omega)]) ?_;rw[allN,Bool.true_and];exact hend
  | succ d ih=>
   intro j hj;have e1:∀ m:Nat,m < l.length->(qg l (m:Int)).f0.f0=((tps l).getD m (0,0,0)).1/\(qg l (m:Int)).f0.f1=((tps l).getD m (0,0,0)).2.1/\(qg l (m:Int)).f0.f2=((tps l).getD m (0,0,0)).2.2:=λm hm=>by rw[<-qbg l m hm];exact⟨rfl,rfl,rfl⟩
   obtain⟨a1,a2,a3⟩:=e1 i hi;obtain⟨b1,b2,b3⟩:=e1 k (by omega);obtain⟨c1,c2,c3⟩:=e1 j (by omega);refine Ev.step (λq=>by rw[qv.l2,if_pos (by omega),if_pos (by omega),if_pos (by omega),if_pos (by omega),if_pos (by omega),if_pos (by omega),if_pos (by omega),a1,a2,a3,b1,b2,b3,c1,c2,c3,qia ⟨by omega,by omega⟩ _ _ (hin k hk) (hin j (by omega)),Option.bind_some,qmm ⟨by omega,by omega⟩ _ _ _ hii,Option.bind_some,wsm (by omega) (by omega)]) ?_;rw[allN]
   cases hc:colB p ((tps l).getD k (0,0,0)) ((tps l).getD j (0,0,0)) ((tps l).getD i (0,0,0)) with
   | true=>exact Ev.yes rfl (Ev.now _)
   | false=>
    refine Ev.no (by simp) ?_
    have:=ih (j+1) (by omega)
    simpa using this
 have h1:∀ (i:Nat) (R:Bool),i < l.length->(∀ j,j < i->inP p ((tps l).getD j (0,0,0)))->inP p ((tps l).getD i (0,0,0))->Ev (λq=>qv.l0 q p l ((i+1:Nat):Int)) R->∀ (d k:Nat),k+d=i->Ev (λq=>qv.l1 q p l (i:Int) (k:Int)) (allN (λk=>allN (λj=>!colB p ((tps l).getD k (0,0,0)) ((tps l).getD j (0,0,0)) ((tps l).getD i (0,0,0))) k 0) d k && R):=by
  intro i R hi hin hii hend d
  induction d with
  | zero=>
   intro k hk;refine Ev.step (λq=>by rw[qv.l1,if_neg (by omega),wsm (by omega) (by omega)]) ?_;rw[allN,Bool.true_and];exact hend
  | succ d ih=>
   intro k hk;refine Ev.step (λq=>by rw[qv.l1,if_pos (by omega)]) ?_
   have:=h2 i k _ hi (by omega) hin hii (ih (k+1) (by omega)) k 0 (by omega)
   rw[allN,Bool.and_assoc]
   simpa using this
 have h0 : ∀ (d i : Nat), i + d = l.length->(∀ j, j < i->inP p ((tps l).getD j (0, 0, 0)))->Ev (λq => qv.l0 q p l (i : Int)) (allN (apI p (tps l)) d i) := by
  intro d
  induction d with
  | zero=>
   intro i hi _;exact Ev.step (f:=λ_=>some true) (λq=>by rw[qv.l0,if_neg (by omega)]) (Ev.now _)
  | succ d ih=>
   intro i hi hin;refine Ev.step (λq=>by rw[qv.l0,if_pos (by omega),if_pos (by omega)]) (Ev.bind (hpt i (by omega)) ?_);rw[allN,apI]
   cases hc:ptB p ((tps l).getD i (0,0,0)).1 ((tps l).getD i (0,0,0)).2.1 ((tps l).getD i (0,0,0)).2.2 with
   | false=>exact Ev.no (by simp) (Ev.now _)
   | true=>
    refine Ev.yes rfl ?_;have hii:=qdc hc
    have:=h1 i _ (by omega) hin hii (ih (i+1) (by omega) λj hj=>by
     by_cases e:j=i
     ·subst e;exact hii
     ·exact hin j (by omega)) i 0 (by omega)
    simpa using this
 unfold qv.f qb1;rw[hlen];exact h0 l.length 0 (by omega) (λj hj=>absurd hj (by omega))
theorem qf7 {p:Int} (hp:zi p=false) (Q:List (Int×Int×Int)) (h:0 < Q.length):qb1 p Q=false:=by
 obtain⟨n,hn⟩:∃ n,Q.length=n+1:=⟨Q.length - 1,by omega⟩
 rw[qb1,hn,allN,apI]
 simp[ptB,Zz,hp]
theorem qla {p:Int} (hp:zi p=false) (l:List S51) (h:0 < l.length):Ev (λk=>qv.f k p l) false:=by
 unfold qv.f;refine Ev.step (λq=>by rw[qv.l0,if_pos (by omega),if_pos (by omega)]) (Ev.bind (qiv _ _ _ _) ?_);rw[show ptB p _ _ _=false by simp[ptB,Zz,hp]];exact Ev.no (by simp) (Ev.now _)
theorem qa7 {p:Int} {Q:List (Int×Int×Int)} (h:qb1 p Q=true):(∀ i,i < Q.length->ptB p (Q.getD i (0,0,0)).1 (Q.getD i (0,0,0)).2.1 (Q.getD i (0,0,0)).2.2=true)/\∀ i k j,i < Q.length->k < i->j < k->colB p (Q.getD k (0,0,0)) (Q.getD j (0,0,0)) (Q.getD i (0,0,0))=false:=by
 rw[qb1,qfg]at h;have h1:∀ i,i < Q.length->apI p Q i=true:=λi hi=>h i (by omega) (by omega);refine⟨λi hi=>?_,λi k j hi hk hj=>?_⟩
 ·have:=h1 i hi
  rw[apI,Bool.and_eq_true]at this;exact this.1
 ·have:=h1 i hi
  rw[apI,Bool.and_eq_true,qfg]at this;have h2:=this.2 k (by omega) (by omega);rw[qfg]at h2
  simpa using h2 j (by omega) (by omega)
theorem qnq (l:List S51) (hl:l.length<=1000) (t:Int×Int×Int):∀ (d i:Nat),i+d=l.length->(∀ j,j < i->(tps l).getD j (0,0,0)≠t)->∃ r,Ev (λk=>je.l0 k l (l.length:Int) (i:Int) t.1 t.2.1 t.2.2) r/\(0<=r->∃ j,j < l.length/\(tps l).getD j (0,0,0)=t)/\(r < 0->∀ j,j < l.length->(tps l).getD j (0,0,0)≠t)
 | 0,i,hi,hn=>⟨-1,Ev.step (f:=λ_=>some (-1)) (λq=>by rw[je.l0,if_neg (by omega)]) (Ev.now _),λh=>by omega,λ_ j hj=>hn j (by omega)⟩
 | d + 1, i, hi, hn => by
  have e:=qbg l i (by omega);have f0:(qg l (i:Int)).f0.f0=((tps l).getD i (0,0,0)).1:=by rw[<-e];rfl
  have f1:(qg l (i:Int)).f0.f1=((tps l).getD i (0,0,0)).2.1:=by rw[<-e];rfl
  have f2:(qg l (i:Int)).f0.f2=((tps l).getD i (0,0,0)).2.2:=by rw[<-e];rfl
  by_cases h:(tps l).getD i (0,0,0)=t
  ·refine⟨(i:Int),Ev.step (f:=λ_=>some (i:Int)) (λq=>by rw[je.l0,if_pos (by omega),if_pos (by omega),if_pos (by omega),f0,f1,f2,h,if_pos rfl,if_pos rfl,if_pos rfl]) (Ev.now _),λ_=>⟨i,by omega,h⟩,λh2=>by omega⟩
  ·obtain⟨r,hr,h1,h2⟩:=qnq l hl t d (i+1) (by omega) λj hj=>by
    by_cases e2:j=i
    ·subst e2;exact h
    ·exact hn j (by omega)
   refine⟨r,Ev.step (λq=>?_) hr,h1,h2⟩;have hw:wrap64 ((i:Int)+1)=((i+1:Nat):Int):=by rw[wsm (by omega) (by omega)];rfl
   rw[je.l0,if_pos (by omega),if_pos (by omega),if_pos (by omega),f0,f1,f2,hw]
   by_cases g0:t.1=((tps l).getD i (0,0,0)).1
   ·by_cases g1:t.2.1=((tps l).getD i (0,0,0)).2.1
    ·by_cases g2:t.2.2=((tps l).getD i (0,0,0)).2.2
     ·exact absurd (Prod.ext g0.symm (Prod.ext g1.symm g2.symm)) h
     ·rw[if_pos g0,if_pos g1,if_neg g2]
    ·rw[if_pos g0,if_neg g1]
   ·rw[if_neg g0]
theorem qlp (p:Int):∀ (d c:Nat) (O:List (List Int)),redP p d c [] O=O
 | 0,_,_=>rfl
 | d+1,c,O=>by rw[redP];exact qlp p d (c+1) O
def monP (p:Int) (r:List Int):List Int:=if (r.all λx=>x == 0)=true then [] else rowP p r
theorem qpl {p:Int} {w:Nat} {r:List Int} (hw:r.length=w):∀ (d c:Nat),c+d=w->(∀ j:Nat,j < c->rd r (j:Int)=0)->redP p d c [r] []=if (r.all λx=>x == 0)=true then [] else [rowP p r]
 | 0,c,e,hz=>by
  have h0:(r.all λx=>x == 0)=true:=List.all_eq_true.2 λx hx=>by
   obtain⟨j,hj,rfl⟩:=List.mem_iff_getElem.1 hx;rw[<-Jo r j hj,hz j (by omega)];rfl
  rw[if_pos h0,redP]
 | d + 1, c, e, hz => by
  by_cases hc:rd r (c:Int)=0
  ·have ih:=qpl hw (p:=p) d (c+1) (by omega) (λj hj=>by
    rcases Nat.lt_succ_iff_lt_or_eq.1 hj with h|h
    ·exact hz j h
    ·rw[h];exact hc)
   rw[redP];simp only[List.findIdx?_cons,hc];exact ih
  ·have h1:¬ (r.all λx=>x == 0)=true:=λh=>by
    have:=List.all_eq_true.1 h (r[c]'(by omega)) (List.getElem_mem _)
    rw[<-Jo r c (by omega)]at this;exact hc (by simpa using this)
   have hb:(rd r (c:Int) !=0)=true:=by simpa using hc
   rw[if_neg h1,redP];simp only[List.findIdx?_cons,hb];simp only[if_true,List.eraseIdx_cons_zero,List.map_nil,List.getD_cons_zero,List.nil_append,qlp];rw[qkn (by omega) hz hc]
theorem qiz :∀ p∈([7,11,13,17,19,23,29,31]:List Int),∀ x∈List.range 31,(x:Int) < p->(x:Int)≠0->Qc.f 40 (x:Int) p=some (invP p (x:Int)):=by decide+kernel
theorem qog {p:Int} (hp:zi p=true) {x:Int} (h0:0<=x) (h1:x < p) (hx:x≠0):Ev (λk=>Qc.f k x p) (invP p x):=by
 have hb:=zk hp;refine Ev.of (Qc.mono x p) (k:=40) ?_;have h2:=qiz p (by have:=qb5 hp;simp;omega) x.toNat (by simp;omega) (by omega) (by omega)
 rwa [show ((x.toNat:Nat):Int)=x by omega]at h2
theorem qcc {x p:Int} (hp:7<=p/\p<=31) (h0:-1000000000<=x) (h1:x<=1000000000):modV p (wrap64 x)=x % p:=qba hp h0 h1
theorem qgm {p t:Int} (hp:7<=p/\p<=31) (ht:0<=t/\t < p) (h:List Int) (hh:∀ x∈h,0<=x/\x < p):∀ (r:List Int) (i:Nat),(∀ x∈r,0<=x/\x < p)->i+r.length=h.length->qax p t h i r=Qt p t (h.drop i) r
 | [],_,_,_=>by simp[qax,Qt]
 | x :: r,i,hr,hl=>by
  have hx:=hr x (by simp);simp only[List.length_cons]at hl;have hy:0<=rd h (i:Int)/\rd h (i:Int) < p:=by rw[Jo h i (by omega)];exact hh _ (List.getElem_mem _)
  have hm:=qc6 hp.2 ht.1 ht.2 hy.1 hy.2;rw[qc8 h i (by omega),qax,qgm hp ht h hh r (i+1) (λz hz=>hr z (by simp[hz])) (by omega),wsm (i:=t*rd h (i:Int)) (by omega) (by omega),qcc hp (by omega) (by omega)]
  simp[Qt]
theorem qoa {p:Int} {w:Nat} (hp:7<=p/\p<=31) (c:Nat) (hc:c < w) {h r:List Int} (hh:h.length=w/\∀ x∈h,0<=x/\x < p) (hr:r.length=w/\∀ x∈r,0<=x/\x < p):Jp p c h r=Qt p (rd r (c:Int)) h r:=by
 rw[Jp,qgm hp (qgk hr c hc) h hh.2 r 0 hr.2 (by omega),List.drop_zero]
theorem ql7 {p b:Int} {w:Nat} (hp:7<=p/\p<=31) (hb:0<=b/\b < p) {r:List Int} (hr:r.length=w/\∀ x∈r,0<=x/\x < p):Qu p b r=Jk p b r:=by
 rw[Qu,Jk];refine List.map_congr_left λx hx=>?_;have h1:=hr.2 x hx;have hm:=qc6 hp.2 h1.1 h1.2 hb.1 hb.2;rw[wsm (by omega) (by omega),Int.tmod_eq_emod_of_nonneg hm.1]
theorem qey {p:Int} (hp:zi p=true) {w:Nat}:∀ (d c:Nat) (L O:List (List Int)),c+d=w->okR p w L->okR p w O->Ev (λk=>Jb k p d c L O) (redP p d c L O)
 | 0,_,_,O,_,_,_=>Ev.k rfl
 | d + 1, c, L, O, hw, hL, hO => by
  have hb:=zk hp;unfold Jb redP
  cases hf:L.findIdx? (λrow=>rd row (c:Int) !=0) with
  | none=>exact qey hp d (c+1) L O (by omega) hL hO
  | some i=>
   simp only;obtain⟨hi,hne⟩:=qej hf;have hx:=hL _ (Zw hi);have hxr:=qgk hx c (by omega);have hne':rd (L.getD i []) (c:Int)≠0:=by simpa using hne
   have hinv:=J1 hp hxr.1 hxr.2;refine Ev.bind (qog hp hxr.1 hxr.2 hne') ?_;have hs:=qcz (p:=p) (b:=invP p (rd (L.getD i []) (c:Int))) (by omega) hx.1;rw[ql7 hb ⟨hinv.2.1,hinv.2.2.1⟩ hx];have e1:∀ M:List (List Int),okR p w M->M.map (Jp p c (Jk p (invP p (rd (L.getD i []) (c:Int))) (L.getD i [])))=M.map λr=>Qt p (rd r (c:Int)) (Jk p (invP p (rd (L.getD i []) (c:Int))) (L.getD i [])) r:=
    λM hM=>List.map_congr_left λr hr=>qoa hb c (by omega) hs (hM r hr)
   rw[e1 _ (qcx i hL),e1 _ hO];exact qey hp d (c+1) _ _ (by omega) (qcf _ (by omega) hs.1 (qcx i hL)) (qcj (qcf _ (by omega) hs.1 hO) (qad hs (J8 p w)))
theorem qe2 {p:Int} (hp:zi p=true) {w:Nat} (L:List (List Int)) (hw:w < 1000000) (hl:L.length < 1000000) (hL:∀ r∈L,r.length=w):Ev (λk=>zl.f k p L) (redP p w 0 (L.map λr=>r.map (modV p)) []):=by
 have hb:=zk hp;have hok:okR p w (L.map λr=>r.map (modV p)):=λx hx=>by
  obtain⟨r,hr,rfl⟩:=List.mem_map.1 hx;refine⟨by rw[List.length_map,hL r hr],λy hy=>?_⟩;obtain⟨z,_,rfl⟩:=List.mem_map.1 hy;have h2:=qg7 (p:=p) (by omega) z;rw[modV,wsm (by omega) (by omega),Int.tmod_eq_emod_of_nonneg (by omega)];exact⟨Int.emod_nonneg _ (by omega),Int.emod_lt_of_pos _ (by omega)⟩
 cases L with
 | nil=>
  have e:∀ d c,redP p d c [] []=[]:=λd=>by
   induction d with
   | zero=>intro c;rfl
   | succ d ih=>intro c;rw[redP];exact ih (c+1)
  rw[List.map_nil,e];refine Ev.k (α:=List (List Int)) (x:=some []) rfl |>.congr λk=>?_
  rw[zl.f,if_neg (by omega),if_pos ⟨by simp,by simp,by simp⟩]
  simp[Jb]
 | cons r L=>
  have hr:=hL r (by simp);refine(qey hp w 0 _ [] (by omega) hok (J8 p w)).congr λk=>?_;rw[zl.f,if_neg (by omega),if_pos ⟨hl,by simpa [hr] using hw,by simpa [hr] using hL⟩]
  simp[hr]
theorem qj0 {p x:Int} (hp:zi p=true) (h0:0<=x) (h1:x < p):modV p x=x:=by
 have hb:=zk hp;rw[modV,Int.tmod_eq_of_lt h0 h1,wsm (by omega) (by omega),Int.tmod_eq_emod_of_nonneg (by omega),Int.add_emod_right,Int.emod_eq_of_lt h0 h1]
theorem qdg {p:Int} (hp:zi p=true) {w:Nat} (L:List (List Int)) (hw:w < 1000000) (hl:L.length < 1000000) (hL:okR p w L):Ev (λk=>zl.f k p L) (redP p w 0 L []):=by
 have h:=qe2 hp L hw hl (λr hr=>(hL r hr).1);have e:(L.map λr=>r.map (modV p))=L:=by
  rw[List.map_congr_left (g:=id)]
  ·simp
  ·intro r hr
   rw[List.map_congr_left (g:=id)]
   ·simp
   ·intro x hx;have:=(hL r hr).2 x hx;exact qj0 hp this.1 this.2
 rwa [e]at h
theorem qmc {p:Int} (hp:zi p=true) (l:List Int) (hl:l.length < 1000) (hb:∀ x∈l,-1000000<=x/\x<=1000000):Ev (λk=>Q8.f k p l) (monP p (l.map λx=>x % p)):=by
 have hpb:=zk hp;have e:l.map (modV p)=l.map λx=>x % p:=List.map_congr_left λx hx=>by
  have:=hb x hx
  have h2:=qcc (p:=p) (x:=x) ⟨by omega,by omega⟩ (by omega) (by omega);rwa [wsm (by omega) (by omega)]at h2
 unfold Q8.f;refine Ev.bind (qe2 hp (w:=l.length) [l] (by omega) (by simp) (by simp)) ?_;rw[List.map_cons,List.map_nil,e,qpl (p:=p) (w:=l.length) (by simp) l.length 0 (by omega) (λj hj=>absurd hj (by omega)),monP]
 by_cases hz:((l.map λx=>x % p).all λx=>x == 0)=true
 ·rw[if_pos hz,if_pos hz];exact Ev.now _
 ·rw[if_neg hz,if_neg hz];exact Ev.now _
theorem Je (a p:Int):p ∣ a - a % p:=⟨a / p,by have:=Int.mul_ediv_add_emod a p;omega⟩
theorem quw {p t:Int} {h r:List Int} {w:Nat} (hh:h.length=w) (hr:r.length=w) {j:Nat} (hj:j < w):fn (Qt p t h r) j=(fn r j - t*fn h j) % p:=qk2 j (by omega) (by omega)
theorem qfd {p b:Int} {r:List Int} {w:Nat} (hr:r.length=w) {j:Nat} (hj:j < w):fn (Jk p b r) j=fn r j*b % p:=qm5 j (by omega)
theorem qtr {α:Type} [Inhabited α] (L:List α) (i:Nat) (d:α) (hi:i < L.length):L=L.take i++L.getD i d :: L.drop (i+1)/\L.eraseIdx i=L.take i++L.drop (i+1):=by
 refine⟨?_,List.eraseIdx_eq_take_drop_succ L i⟩;rw[List.getD_eq_getElem?_getD,List.getElem?_eq_getElem hi,Option.getD_some,List.getElem_cons_drop,List.take_append_drop]
theorem qrh {L:List (List Int)} {i:Nat} (hi:i < L.length) {r:List Int}:r∈L↔r=L.getD i []\/r∈L.eraseIdx i:=by
 obtain⟨h1,h2⟩:=qtr L i [] hi;rw[h2]
 conv=>lhs;rw[h1]
 simp only[List.mem_append,List.mem_cons];constructor
 ·rintro (h|h|h)
  ·exact .inr (.inl h)
  ·exact .inl h
  ·exact .inr (.inr h)
 ·rintro (h|h|h)
  ·exact .inr (.inl h)
  ·exact .inl h
  ·exact .inr (.inr h)
theorem qhg {p:Int} (hp:zi p=true) {w:Nat}:∀ (d c:Nat) (L:List (List Int)) (P:List (Nat×List Int)),c+d=w->okR p w L->Rref p w P->(∀ x∈P,x.1 < c)->qf5 c L->
  ∃ Q:List (Nat×List Int),redP p d c L (P.map Prod.snd)=Q.map Prod.snd/\qcb p d c L (P.map λx=>(x.1:Int))=Q.map (λx=>(x.1:Int))/\Rref p w Q/\(∀ r∈L++P.map Prod.snd,Sp p w (Q.map Prod.snd) (fn r))/\∀ x∈Q,Sp p w (L++P.map Prod.snd) (fn x.2)
 | 0,c,L,P,hw,hL,hP,hlt,hz=>by
  refine⟨P,rfl,rfl,hP,λr hr=>?_,λx hx=>Sp.mem (by simp;exact .inr ⟨_,hx⟩)⟩
  rcases List.mem_append.1 hr with hr|hr
  ·exact .zero _ λj hj=>by rw[fn,hz r hr j (by omega)];exact Int.dvd_zero p
  ·exact Sp.mem hr
 | d + 1, c, L, P, hw, hL, hP, hlt, hz => by
  have hb:=zk hp;rw[redP,qcb]
  cases hf:L.findIdx? (λrow=>rd row (c:Int) !=0) with
  | none=>exact qhg hp d (c+1) L P (by omega) hL hP (λx hx=>by have:=hlt x hx;omega) (qgv hz hf)
  | some i=>
   simp only;obtain⟨hi,hne⟩:=qej hf;have hx:=hL _ (Zw hi);have hxr:=qgk hx c (by omega);have hne':rd (L.getD i []) (c:Int)≠0:=by simpa using hne
   have hinv:=(J1 hp hxr.1 hxr.2).2.2.2.1 hne';have hs:=qcz (p:=p) (b:=invP p (rd (L.getD i []) (c:Int))) (by omega) hx.1;have hzn:=qgo hp (by omega) hL hz hf;obtain⟨x,hxe⟩:∃ x,L.getD i []=x:=⟨_,rfl⟩
   rw[hxe]at hx hxr hne' hinv hs hzn ⊢;have hxm:x∈L:=hxe ▸ Zw hi;obtain⟨b,hbe⟩:∃ b,invP p (rd x (c:Int))=b:=⟨_,rfl⟩
   rw[hbe]at hinv hs hzn ⊢;obtain⟨h,hhe⟩:∃ h,Jk p b x=h:=⟨_,rfl⟩
   have hfh:∀ j,j < w->fn h j=fn x j*b % p:=λj hj=>by rw[<-hhe];exact qfd hx.1 hj
   rw[hhe]at hs hzn ⊢;have hhc:fn h c=1:=by rw[hfh c (by omega)];exact hinv
   have hhl:∀ j,j < c->fn h j=0:=λj hj=>by rw[hfh j (by omega),fn,hz x hxm j hj];simp
   have hfl:∀ r:List Int,r.length=w->∀ j,j < w->fn (Qt p (rd r (c:Int)) h r) j=(fn r j - fn r c*fn h j) % p:=λr hr j hj=>quw hs.1 hr hj;have hP':Rref p w (P.map (λy=>(y.1,Qt p (rd y.2 (c:Int)) h y.2))++[(c,h)]):=by
    have hm:∀ z,z∈P.map (λy=>(y.1,Qt p (rd y.2 (c:Int)) h y.2))++[(c,h)]->(∃ y∈P,z=(y.1,Qt p (rd y.2 (c:Int)) h y.2))\/z=(c,h):=by
     intro z hz
     rcases List.mem_append.1 hz with hz|hz
     ·obtain⟨y,hy,rfl⟩:=List.mem_map.1 hz;exact .inl ⟨y,hy,rfl⟩
     ·exact .inr (by simpa using hz)
    refine⟨λz hz=>?_,λz hz=>?_,λz hz=>?_,λz hz j hj=>?_,λz hz z' hz' hnn=>?_,?_⟩
    ·rcases hm z hz with ⟨y,hy,rfl⟩|rfl
     ·exact hP.lt y hy
     ·show c < w;omega
    ·rcases hm z hz with ⟨y,hy,rfl⟩|rfl
     ·exact qg3 (by omega) hs.1 (hP.ok y hy).1
     ·exact hs
    ·rcases hm z hz with ⟨y,hy,rfl⟩|rfl
     ·have h1:=hlt y hy
      show fn (Qt p (rd y.2 (c:Int)) h y.2) y.1=1
      rw[hfl _ (hP.ok y hy).1 y.1 (by omega),hP.one y hy,hhl y.1 h1,Int.mul_zero,Int.sub_zero,Int.emod_eq_of_lt (by omega) (by omega)]
     ·exact hhc
    ·rcases hm z hz with ⟨y,hy,rfl⟩|rfl
     ·have h1:=hlt y hy
      have hj':j < y.1:=hj
      show fn (Qt p (rd y.2 (c:Int)) h y.2) j=0
      rw[hfl _ (hP.ok y hy).1 j (by omega),hP.low y hy j hj',hhl j (by omega)];simp
     ·exact hhl j hj
    ·rcases hm z hz with ⟨y,hy,rfl⟩|rfl
     ·rcases hm z' hz' with ⟨y',hy',rfl⟩|rfl
      ·have h1:=hlt y' hy'
       show fn (Qt p (rd y.2 (c:Int)) h y.2) y'.1=0
       rw[hfl _ (hP.ok y hy).1 y'.1 (by omega),hP.off y hy y' hy' hnn,hhl y'.1 h1];simp
      ·show fn (Qt p (rd y.2 (c:Int)) h y.2) c=0
       rw[hfl _ (hP.ok y hy).1 c (by omega),hhc];simp
     ·rcases hm z' hz' with ⟨y',hy',rfl⟩|rfl
      ·exact hhl y'.1 (hlt y' hy')
      ·exact absurd rfl hnn
    ·rw[List.pairwise_append]
     refine⟨?_,by simp,λa ha b hb=>?_⟩
     ·rw[List.pairwise_map];exact hP.inc
     ·obtain⟨y,hy,rfl⟩:=List.mem_map.1 ha
      have hbe:b=(c,h):=by simpa using hb
      subst hbe;exact hlt y hy
   have e1:(P.map Prod.snd).map (λr=>Qt p (rd r (c:Int)) h r)++[h]=(P.map (λy=>(y.1,Qt p (rd y.2 (c:Int)) h y.2))++[(c,h)]).map Prod.snd:=by
    simp[List.map_map,Function.comp_def]
   have e2:(P.map λx=>(x.1:Int))++[(c:Int)]=(P.map (λy=>(y.1,Qt p (rd y.2 (c:Int)) h y.2))++[(c,h)]).map λx=>(x.1:Int):=by
    simp[List.map_map,Function.comp_def]
   have ih:=qhg hp d (c+1) ((L.eraseIdx i).map λr=>Qt p (rd r (c:Int)) h r) (P.map (λy=>(y.1,Qt p (rd y.2 (c:Int)) h y.2))++[(c,h)]) (by omega) (qcf _ (by omega) hs.1 (qcx i hL)) hP' (λz hz=>by
     rcases List.mem_append.1 hz with hz|hz
     ·obtain⟨y,hy,rfl⟩:=List.mem_map.1 hz;have:=hlt y hy;show y.1 < c+1;omega
     ·have:z=(c,h):=by simpa using hz
      subst this;show c < c+1;omega) hzn
   rw[e1,e2];obtain⟨Q,hq1,hq2,hQ,hq3,hq4⟩:=ih;have hold:∀ r,r∈L++P.map Prod.snd->r.length=w:=λr hr=>by
    rcases List.mem_append.1 hr with hr|hr
    ·exact(hL r hr).1
    ·obtain⟨y,hy,rfl⟩:=List.mem_map.1 hr;exact(hP.ok y hy).1
   have hxs:∀ j,j < w->p ∣ fn x j - fn x c*fn h j:=λj hj=>by
    have h1:=Je (fn x j*b) p;rw[<-hfh j hj]at h1;have h2:p ∣ fn x c*b - 1:=by
     have:=Je (fn x c*b) p
     rw[show fn x c*b % p=1 from hinv]at this;exact this
    exact Z7 (fn x c) (-(fn x j)) h1 h2 (by grind)
   have hnewm:∀ r,r∈L.eraseIdx i++P.map Prod.snd->Qt p (rd r (c:Int)) h r∈((L.eraseIdx i).map λr=>Qt p (rd r (c:Int)) h r)++(P.map (λy=>(y.1,Qt p (rd y.2 (c:Int)) h y.2))++[(c,h)]).map Prod.snd:=λr hr=>by
    rcases List.mem_append.1 hr with hr|hr
    ·exact List.mem_append_left _ (List.mem_map_of_mem hr)
    ·obtain⟨y,hy,rfl⟩:=List.mem_map.1 hr
     refine List.mem_append_right _ (List.mem_map.2 ⟨(y.1,Qt p (rd y.2 (c:Int)) h y.2),List.mem_append_left _ (List.mem_map.2 ⟨y,hy,rfl⟩),rfl⟩)
   have hhm:h∈((L.eraseIdx i).map λr=>Qt p (rd r (c:Int)) h r)++(P.map (λy=>(y.1,Qt p (rd y.2 (c:Int)) h y.2))++[(c,h)]).map Prod.snd:=
    List.mem_append_right _ (List.mem_map.2 ⟨(c,h),by simp,rfl⟩)
   have hto:∀ r,r∈L++P.map Prod.snd->Sp p w (((L.eraseIdx i).map λr=>Qt p (rd r (c:Int)) h r)++(P.map (λy=>(y.1,Qt p (rd y.2 (c:Int)) h y.2))++[(c,h)]).map Prod.snd) (fn r):=λr hr=>by
    have hcase:r=x\/r∈L.eraseIdx i++P.map Prod.snd:=by
     rcases List.mem_append.1 hr with hr|hr
     ·rcases (qrh hi).1 hr with h1|h1
      ·exact .inl (h1.trans hxe)
      ·exact .inr (List.mem_append_left _ h1)
     ·exact .inr (List.mem_append_right _ hr)
    rcases hcase with rfl|hr2
    ·exact((Sp.mem hhm).scale (fn r c)).congr hxs
    ·refine((Sp.mem (hnewm r hr2)).sum ((Sp.mem hhm).scale (fn r c))).congr λj hj=>?_
     rw[hfl r (hold r hr) j hj];exact Jl 1 (Je (fn r j - fn r c*fn h j) p) (by omega)
   have hfrom_h:Sp p w (L++P.map Prod.snd) (fn h):=((Sp.mem (List.mem_append_left _ hxm)).scale b).congr λj hj=>by
    rw[hfh j hj];exact Jl (-1) (Je (fn x j*b) p) (by rw[Int.mul_comm b];omega)
   have hfrom:∀ r,r∈((L.eraseIdx i).map λr=>Qt p (rd r (c:Int)) h r)++(P.map (λy=>(y.1,Qt p (rd y.2 (c:Int)) h y.2))++[(c,h)]).map Prod.snd->Sp p w (L++P.map Prod.snd) (fn r):=λr hr=>by
    have hcase:r=h\/∃ q,q∈L++P.map Prod.snd/\r=Qt p (rd q (c:Int)) h q:=by
     rcases List.mem_append.1 hr with hr|hr
     ·obtain⟨q,hq,rfl⟩:=List.mem_map.1 hr
      exact .inr ⟨q,List.mem_append_left _ (List.mem_of_mem_eraseIdx hq),rfl⟩
     ·obtain⟨z,hz,rfl⟩:=List.mem_map.1 hr
      rcases List.mem_append.1 hz with hz|hz
      ·obtain⟨y,hy,rfl⟩:=List.mem_map.1 hz
       exact .inr ⟨y.2,List.mem_append_right _ (List.mem_map_of_mem hy),rfl⟩
      ·have:z=(c,h):=by simpa using hz
       subst this;exact .inl rfl
    rcases hcase with rfl|⟨q,hq,rfl⟩
    ·exact hfrom_h
    ·refine((Sp.mem hq).sum (hfrom_h.scale (-(fn q c)))).congr λj hj=>?_
     rw[hfl q (hold q hq) j hj];exact Jl (-1) (Je (fn q j - fn q c*fn h j) p) (by grind)
   exact⟨Q,hq1,hq2,hQ,λr hr=>Sp.sub hq3 (hto r hr),λz hz=>Sp.sub hfrom (hq4 z hz)⟩
theorem Ji {p:Int} (hp:zi p=true) {w:Nat} {L:List (List Int)} (hL:okR p w L):
  ∃ Q:List (Nat×List Int),redP p w 0 L []=Q.map Prod.snd/\qcb p w 0 L []=Q.map (λx=>(x.1:Int))/\Rref p w Q/\(∀ r∈L,Sp p w (Q.map Prod.snd) (fn r))/\∀ x∈Q,Sp p w L (fn x.2):=by
 have h:=qhg hp w 0 L [] (by omega) hL ⟨by simp,by simp,by simp,by simp,by simp,by simp⟩ (by simp) (λr _ j hj=>absurd hj (by omega))
 simpa using h
def qau (p:Int) (w:Nat) (L:List (List Int)):List (Nat×List Int):=((qcb p w 0 L []).map Int.toNat).zip (redP p w 0 L [])
theorem qmt {α β:Type} (f:Nat×List Int->α) (g:Nat×List Int->β):∀ Q:List (Nat×List Int),(Q.map f).zip (Q.map g)=Q.map λx=>(f x,g x)
 | []=>rfl
 | x :: Q=>by rw[List.map_cons,List.map_cons,List.zip_cons_cons,qmt f g Q,List.map_cons]
theorem qa8 {p:Int} (hp:zi p=true) {w:Nat} {L:List (List Int)} (hL:okR p w L):
  redP p w 0 L []=(qau p w L).map Prod.snd/\qcb p w 0 L []=(qau p w L).map (λx=>(x.1:Int))/\Rref p w (qau p w L)/\(∀ r∈L,Sp p w ((qau p w L).map Prod.snd) (fn r))/\∀ x∈qau p w L,Sp p w L (fn x.2):=by
 obtain⟨Q,e1,e2,hQ,h1,h2⟩:=Ji hp hL;have e:qau p w L=Q:=by
  rw[qau,e1,e2,List.map_map,qmt]
  simp
 rw[e];exact⟨e1,e2,hQ,h1,h2⟩
def J4 (p:Int) (c:Nat):List (Nat×List Int)->List Int->List Int
 | [],v=>v
 | z :: P,v=>J4 p c P (v.set z.1 ((-(fn z.2 c)) % p))
def Z8 (p:Int) (w:Nat) (P:List (Nat×List Int)) (c:Nat):List Int:=J4 p c P ((List.replicate w 0).set c 1)
def Ze (P:List (Nat×List Int)) (c:Nat):Bool:=!(P.any λz=>z.1 == c)
def J2 (p:Int) (w:Nat) (P:List (Nat×List Int)):List (List Int):=((List.range w).filter (Ze P)).map (Z8 p w P)
def Jd (p:Int) (w:Nat) (L:List (List Int)):List (List Int):=redP p w 0 (J2 p w (qau p w L)) []
theorem qfj (p:Int) (c:Nat):∀ (P:List (Nat×List Int)) (v:List Int),(J4 p c P v).length=v.length
 | [],_=>rfl
 | z :: P,v=>by rw[J4,qfj p c P,List.length_set]
theorem qk7 (v:List Int) (i j:Nat) (x:Int) (hi:i < v.length):fn (v.set i x) j=if j=i then x else fn v j:=by
 by_cases e:j=i
 ·subst e;simp[fn,rd,List.getD_eq_getElem?_getD,hi]
 ·rw[if_neg e];simp[fn,rd,List.getD_eq_getElem?_getD,List.getElem?_set_ne (Ne.symm e)]
theorem qdd (p:Int) (c:Nat):∀ (P:List (Nat×List Int)) (v:List Int) (j:Nat),(∀ z∈P,z.1 < v.length)->(∀ z∈P,z.1≠j)->fn (J4 p c P v) j=fn v j
 | [],_,_,_,_=>rfl
 | z :: P,v,j,hl,h=>by
  rw[J4,qdd p c P _ j (λy hy=>by rw[List.length_set];exact hl y (by simp[hy])) (λy hy=>h y (by simp[hy])),qk7 v z.1 j _ (hl z (by simp)),if_neg (Ne.symm (h z (by simp)))]
theorem qg0 (p:Int) (c:Nat):∀ (P:List (Nat×List Int)) (v:List Int) (x:Nat×List Int),(∀ z∈P,z.1 < v.length)->P.Pairwise (λx y=>x.1 < y.1)->x∈P->fn (J4 p c P v) x.1=(-(fn x.2 c)) % p
 | [],_,_,_,_,h=>absurd h (by simp)
 | z :: P,v,x,hl,hi,h=>by
  rw[List.pairwise_cons]at hi;have hl2:∀ y∈P,y.1 < (v.set z.1 ((-(fn z.2 c)) % p)).length:=λy hy=>by rw[List.length_set];exact hl y (by simp[hy])
  rw[J4]
  rcases List.mem_cons.1 h with rfl|hx
  ·rw[qdd p c P _ x.1 hl2 (λy hy=>Nat.ne_of_gt (hi.1 y hy)),qk7 v x.1 x.1 _ (hl x (by simp)),if_pos rfl]
  ·exact qg0 p c P _ x hl2 hi.2 hx
theorem qew {p:Int} {w:Nat} {P:List (Nat×List Int)} (h:Rref p w P) (c:Nat) {x:Nat×List Int} (hx:x∈P):fn (Z8 p w P c) x.1=(-(fn x.2 c)) % p:=
 qg0 p c P _ x (λz hz=>by simpa using h.lt z hz) h.inc hx
theorem qa9 {p:Int} {w:Nat} {P:List (Nat×List Int)} (h:Rref p w P) {c j:Nat} (hc:c < w) (hj:∀ z∈P,z.1≠j):fn (Z8 p w P c) j=if j=c then 1 else 0:=by
 rw[Z8,qdd p c P _ j (λz hz=>by simpa using h.lt z hz) hj,qk7 _ c j _ (by simpa using hc)]
 by_cases e:j=c
 ·rw[if_pos e,if_pos e]
 ·rw[if_neg e,if_neg e]
  by_cases hw:j < w<;>simp[fn,rd,List.getD_eq_getElem?_getD,hw]
theorem qmk (p:Int) (w:Nat) (P:List (Nat×List Int)) (c:Nat):(Z8 p w P c).length=w:=by simp[Z8,qfj]
theorem qci {p:Int} (hp:2<=p) {w:Nat} {P:List (Nat×List Int)} (h:Rref p w P):okR p w (J2 p w P):=λr hr=>by
 obtain⟨c,hc,rfl⟩:=List.mem_map.1 hr;have hcw:c < w:=by have:=(List.mem_filter.1 hc).1;simpa using this
 refine⟨qmk p w P c,λy hy=>?_⟩;obtain⟨j,hj,rfl⟩:=List.mem_iff_getElem.1 hy;have e:(Z8 p w P c)[j]=fn (Z8 p w P c) j:=by rw[fn,Jo _ j hj]
 rw[e]
 by_cases hex:∃ x∈P,x.1=j
 ·obtain⟨x,hx,rfl⟩:=hex
  rw[qew h c hx];exact⟨Int.emod_nonneg _ (by omega),Int.emod_lt_of_pos _ (by omega)⟩
 ·rw[qa9 h hcw (λz hz e=>hex ⟨z,hz,e⟩)]
  split<;>omega
def dt (w:Nat) (u v:Nat->Int):Int:=((List.range w).map λj=>u j*v j).sum
theorem qkp {α:Type} (f g:α->Int) (t:Int):∀ l:List α,(l.map λx=>f x+t*g x).sum=(l.map f).sum+t*(l.map g).sum
 | []=>by simp
 | x :: l=>by
  rw[List.map_cons,List.map_cons,List.map_cons,List.sum_cons,List.sum_cons,List.sum_cons,qkp f g t l,Int.mul_add];omega
theorem qhp {p:Int} {α:Type} (f g:α->Int):∀ l:List α,(∀ x∈l,p ∣ f x - g x)->p ∣ (l.map f).sum - (l.map g).sum
 | [],_=>by simp
 | x :: l,h=>by
  rw[List.map_cons,List.map_cons,List.sum_cons,List.sum_cons];exact Z7 1 1 (h x (by simp)) (qhp f g l λy hy=>h y (by simp[hy])) (by omega)
theorem qkq {p:Int} {w:Nat} {u u' v v':Nat->Int} (hu:∀ j,j < w->p ∣ u j - u' j) (hv:∀ j,j < w->p ∣ v j - v' j):p ∣ dt w u v - dt w u' v':=
 qhp _ _ _ λj hj=>by
  have hj':j < w:=by simpa using hj
  exact Z7 (v j) (u' j) (hu j hj') (hv j hj') (by grind)
theorem qjw {p:Int} {w:Nat} {L:List (List Int)} {v:Nat->Int} (h:∀ r∈L,p ∣ dt w (fn r) v) {u:Nat->Int} (hu:Sp p w L u):p ∣ dt w u v:=by
 induction hu with
 | zero u hz=>
  refine qky _ λy hy=>?_;obtain⟨j,hj,rfl⟩:=List.mem_map.1 hy;exact Int.dvd_mul_of_dvd_left (hz j (by simpa using hj))
 | add u u' r t hr _ h2 ih=>
  have h3:=qkq (v:=v) (v':=v) h2 (λj _=>by simp);have e:dt w (λj=>u' j+t*fn r j) v=dt w u' v+t*dt w (fn r) v:=by
   rw[dt,dt,dt,<-qkp]
   congr 1
   exact List.map_congr_left λj _=>by grind
  rw[e]at h3;exact Z7 1 1 h3 (Z7 1 t ih (h r hr) rfl) (by omega)
theorem qmv {α:Type} (f:α->Int) (q:α->Bool):∀ l:List α,(l.map f).sum=((l.filter q).map f).sum+((l.filter λx=>!q x).map f).sum
 | []=>rfl
 | x :: l=>by
  have ih:=qmv f q l
  cases h:q x<;>simp[h,ih]<;>omega
theorem qc5 {P:List (Nat×List Int)} {c:Nat} (h:Ze P c=true):∀ z∈P,z.1≠c:=λz hz e=>by
 have:P.any (λz=>z.1 == c)=true:=List.any_eq_true.2 ⟨z,hz,by simp[e]⟩
 rw[Ze,this]at h;simp at h
theorem qfn {P:List (Nat×List Int)} {c:Nat} (h:¬ ∃ z∈P,z.1=c):Ze P c=true:=by
 rw[Ze]
 cases h2:P.any (λz=>z.1 == c) with
 | false=>rfl
 | true=>
  obtain⟨z,hz,e⟩:=List.any_eq_true.1 h2;exact absurd ⟨z,hz,by simpa using e⟩ h
theorem qdn {l:List Nat} (hn:l.Nodup) {x:Nat} (hx:x∈l):∃ A B,l=A++x :: B/\(∀ y∈A,y≠x)/\∀ y∈B,y≠x:=by
 obtain⟨A,B,rfl⟩:=List.append_of_mem hx;rw[List.nodup_append,List.nodup_cons]at hn;exact⟨A,B,rfl,λy hy e=>hn.2.2 y hy x (by simp) e,λy hy e=>hn.2.1.1 (e ▸ hy)⟩
theorem qot {p:Int} {w:Nat} {P:List (Nat×List Int)} (h:Rref p w P) {x:Nat×List Int} (hx:x∈P) (v:Nat->Int):dt w (fn x.2) v=v x.1+(((List.range w).filter (Ze P)).map λc=>fn x.2 c*v c).sum:=by
 rw[dt,qmv _ (Ze P)];have hm:x.1∈(List.range w).filter λc=>!Ze P c:=by
  rw[List.mem_filter];refine⟨by simpa using h.lt x hx,?_⟩
  cases hf:Ze P x.1 with
  | false=>rfl
  | true=>exact absurd rfl (qc5 hf x hx)
 obtain⟨A,B,e,ha,hb⟩:=qdn (List.Nodup.sublist List.filter_sublist List.nodup_range) hm;have hz:∀ c,c∈(List.range w).filter (λc=>!Ze P c)->c≠x.1->fn x.2 c*v c=0:=λc hc hne=>by
  have hnf:Ze P c=false:=by have:=(List.mem_filter.1 hc).2;simpa using this
  have hex:∃ z∈P,z.1=c:=by
   by_cases he:∃ z∈P,z.1=c
   ·exact he
   ·rw[qfn he]at hnf;simp at hnf
  obtain⟨z,hz,rfl⟩:=hex;rw[h.off x hx z hz (Ne.symm hne),Int.zero_mul]
 have h1:=qd6 (λc=>fn x.2 c*v c) x.1 A B (λy hy=>hz y (by rw[e];simp[hy]) (ha y hy)) (λy hy=>hz y (by rw[e];simp[hy]) (hb y hy));rw[e,h1,h.one x hx];omega
theorem qo6 {p:Int} {w:Nat} {P:List (Nat×List Int)} (h:Rref p w P) {x:Nat×List Int} (hx:x∈P) {r:List Int} (hr:r∈J2 p w P):p ∣ dt w (fn x.2) (fn r):=by
 obtain⟨c,hc,rfl⟩:=List.mem_map.1 hr;have hcw:c < w:=by have:=(List.mem_filter.1 hc).1;simpa using this
 rw[qot h hx,qew h c hx];obtain⟨A,B,e,ha,hb⟩:=qdn (List.Nodup.sublist List.filter_sublist List.nodup_range) hc;have hz:∀ j,j∈(List.range w).filter (Ze P)->j≠c->fn x.2 j*fn (Z8 p w P c) j=0:=λj hj hne=>by
  rw[qa9 h hcw (qc5 (List.mem_filter.1 hj).2),if_neg hne,Int.mul_zero]
 have h1:=qd6 (λj=>fn x.2 j*fn (Z8 p w P c) j) c A B (λy hy=>hz y (by rw[e];simp[hy]) (ha y hy)) (λy hy=>hz y (by rw[e];simp[hy]) (hb y hy));rw[e,h1,qa9 h hcw (qc5 (List.mem_filter.1 hc).2),if_pos rfl];exact Jl (-1) (Je (-(fn x.2 c)) p) (by omega)
theorem qeo {p:Int} {w:Nat} {P:List (Nat×List Int)} (h:Rref p w P) {v:Nat->Int} (hv:∀ x∈P,p ∣ dt w (fn x.2) v):Sp p w (J2 p w P) v:=by
 have hsp:∀ l:List Nat,(∀ c∈l,c∈(List.range w).filter (Ze P))->Sp p w (J2 p w P) λj=>(l.map λc=>v c*fn (Z8 p w P c) j).sum:=by
  intro l
  induction l with
  | nil=>intro _;exact .zero _ λj _=>by simp
  | cons c l ih=>
   intro hl;exact .add _ _ (Z8 p w P c) (v c) (List.mem_map.2 ⟨c,hl c (by simp),rfl⟩) (ih λd hd=>hl d (by simp[hd])) λj _=>by
    rw[List.map_cons,List.sum_cons];exact⟨0,by omega⟩
 refine(hsp _ λc hc=>hc).congr λj hj=>?_
 by_cases hex:∃ x∈P,x.1=j
 ·obtain⟨x,hx,rfl⟩:=hex
  have h1:=hv x hx;rw[qot h hx]at h1;have h2:p ∣ (((List.range w).filter (Ze P)).map λc=>v c*fn (Z8 p w P c) x.1).sum - (((List.range w).filter (Ze P)).map λc=>0+(-1)*(fn x.2 c*v c)).sum:=by
   refine qhp _ _ _ λc hc=>?_;rw[qew h c hx];exact Jl (-(v c)) (Je (-(fn x.2 c)) p) (by grind)
  have e3:(((List.range w).filter (Ze P)).map λc=>0+(-1)*(fn x.2 c*v c)).sum=(-1)*(((List.range w).filter (Ze P)).map λc=>fn x.2 c*v c).sum:=by
   have:=qkp (λ_:Nat=>(0:Int)) (λc=>fn x.2 c*v c) (-1) ((List.range w).filter (Ze P))
   rw[this]
   have hz:∀ l:List Nat,(l.map λ_=>(0:Int)).sum=0:=λl=>by induction l with
    | nil=>rfl
    | cons a l ih=>simpa using ih
   rw[hz];omega
  rw[e3]at h2;exact Z7 1 (-1) h1 h2 (by omega)
 ·have hjf:j∈(List.range w).filter (Ze P):=List.mem_filter.2 ⟨by simpa using hj,qfn hex⟩
  obtain⟨A,B,e,ha,hb⟩:=qdn (List.Nodup.sublist List.filter_sublist List.nodup_range) hjf;have hz:∀ c,c∈(List.range w).filter (Ze P)->c≠j->v c*fn (Z8 p w P c) j=0:=λc hc hne=>by
   have hcw:c < w:=by have:=(List.mem_filter.1 hc).1;simpa using this
   rw[qa9 h hcw (λz hz e=>hex ⟨z,hz,e⟩),if_neg (Ne.symm hne),Int.mul_zero]
  have h1:=qd6 (λc=>v c*fn (Z8 p w P c) j) j A B (λy hy=>hz y (by rw[e];simp[hy]) (ha y hy)) (λy hy=>hz y (by rw[e];simp[hy]) (hb y hy))
  show p ∣ v j - (((List.range w).filter (Ze P)).map λc=>v c*fn (Z8 p w P c) j).sum
  rw[e,h1,qa9 h hj (λz hz e=>hex ⟨z,hz,e⟩),if_pos rfl];exact⟨0,by omega⟩
theorem qnn {p:Int} {w:Nat} {P:List (Nat×List Int)} (h:Rref p w P) (hl:P.length < w):∃ c,c < w/\Ze P c=true:=by
 by_cases hex:∃ c,c < w/\Ze P c=true
 ·exact hex
 ·exfalso
  have h1:=Jx (P:=(List.range w).map λc=>(c,([]:List Int))) (Q:=P) (by rw[List.pairwise_map];exact List.pairwise_lt_range) h.inc (λx hx=>by
   obtain⟨c,hc,rfl⟩:=List.mem_map.1 hx;have hcw:c < w:=by simpa using hc
   by_cases he:∃ z∈P,z.1=c
   ·exact he
   ·exact absurd ⟨c,hcw,qfn he⟩ hex)
  simp at h1
  omega
def dotP (p:Int) (a b:List Int):Int:=dt 10 (fn a) (fn b) % p
theorem qaq (w:Nat) (u v:Nat->Int):dt (w+1) u v=dt w u v+u w*v w:=by simp[dt,List.range_succ]
theorem qdl (u v:Nat->Int):dt 0 u v=0:=rfl
theorem qr8 {p:Int} (hp:zi p=true) (a b:List Int) (ha:a.length=10/\∀ x∈a,0<=x/\x < p) (hb:b.length=10/\∀ x∈b,0<=x/\x < p):Ev (λk=>jy.f k p a b) (dotP p a b):=by
 have h0:=zk hp;have la:=ha.1;have lb:=hb.1;have hl:∀ (d i:Nat),i+d=10->Ev (λk=>jy.l0 k p a b (dt i (fn a) (fn b) % p) (i:Int)) (dotP p a b):=by
  intro d
  induction d with
  | zero=>
   intro i hi;obtain rfl:i=10:=by omega
   exact Ev.step (f:=λ_=>some (dotP p a b)) (λq=>by rw[jy.l0,if_neg (by omega)];rfl) (Ev.now _)
  | succ d ih=>
   intro i hi;have b1:=Zi ha i (by omega);have b2:=Zi hb i (by omega);have b3:=Q1 (p:=p) ⟨by omega,by omega⟩ b1 b2;have b4:=Int.emod_nonneg (dt i (fn a) (fn b)) (show p≠0 by omega);have b5:=Int.emod_lt_of_pos (dt i (fn a) (fn b)) (show (0:Int) < p by omega);have r1:rd a (i:Int)=fn a i:=rfl;have r2:rd b (i:Int)=fn b i:=rfl;refine Ev.step (λq=>by rw[jy.l0,if_pos (by omega),if_pos (by omega),if_pos (by omega),if_neg (by omega),r1,r2,wsm (i:=fn a i*fn b i) (by omega) (by omega),wsm (i:=_ +_) (by omega) (by omega),Int.tmod_eq_emod_of_nonneg (by omega),Int.emod_add_emod,<-qaq,wsm (by omega) (by omega)]) ?_;exact ih (i+1) (by omega)
 unfold jy.f
 have:=hl 10 0 rfl
 rwa [qdl,Int.zero_emod]at this
def nn (p:Int):Nat:=p.toNat - 1
theorem nn_p {p:Int} (hp:zi p=true):((nn p:Nat):Int)+1=p:=by have:=zk hp;unfold nn;omega
theorem qa0 {p:Int} (hp:zi p=true) (x:Int):fi (nn p) x=0↔p ∣ x:=by rw[qdt,nn_p hp]
theorem qpb {p:Int} (hp:zi p=true) (x y:Int):fi (nn p) x=fi (nn p) y↔p ∣ x - y:=by rw[Dn,nn_p hp]
theorem qir {p:Int} (hp:zi p=true) (x:Int):fi (nn p) (x % p)=fi (nn p) x:=by
 have:=D4 (nn p) x
 rwa [nn_p hp]at this
theorem D9 (n:Nat):fi (n+1) 1=1:=by
 apply qhv
 rw[qdk,Int.emod_eq_of_lt (by omega) (by omega)]
 rfl
theorem qdr {p:Int} (hp:zi p=true):fi (nn p) 1=1:=by
 have:=zk hp
 obtain⟨m,hm⟩:∃ m,nn p=m+1:=⟨nn p - 1,by unfold nn;omega⟩
 rw[hm];exact D9 m
theorem qa5 {p:Int} (hp:zi p=true):FldH (nn p):=λa ha=>by
 have hb:=zk hp;have hlt:((a.val:Nat):Int) < p:=by have:=a.isLt;have:=nn_p hp;omega
 have hne:((a.val:Nat):Int)≠0:=λe=>ha (Fin.ext (by show a.val=0;omega));obtain⟨_,_,_,h,_⟩:=J1 hp (x:=((a.val:Nat):Int)) (by omega) hlt;refine⟨fi (nn p) (invP p ((a.val:Nat):Int)),?_⟩;have e:a=fi (nn p) ((a.val:Nat):Int):=(qbz _ a).symm;rw[e,<-qcp,qbz,<-qir hp,h hne,qdr hp]
theorem qm7 {p:Int} (hp:zi p=true) {x:Int} (h0:0 < x) (h1:x < 7):fi (nn p) x≠0:=λh=>by
 have hb:=zk hp
 have:=Int.le_of_dvd h0 ((qa0 hp x).1 h)
 omega
theorem fp_1 {p:Int} (hp:zi p=true):(1:Fq (nn p))≠0:=by rw[<-qdr hp];exact qm7 hp (by omega) (by omega)
theorem qn5 {p:Int} (hp:zi p=true):fi (nn p) 2=2:=by rw[show (2:Int)=1+1 from rfl,qct,qdr hp];grind
theorem qtd {p:Int} (hp:zi p=true):fi (nn p) 3=3:=by rw[show (3:Int)=2+1 from rfl,qct,qdr hp,qn5 hp];grind
theorem fp_2 {p:Int} (hp:zi p=true):(2:Fq (nn p))≠0:=by rw[<-qn5 hp];exact qm7 hp (by omega) (by omega)
theorem qfr (p:Int):∀ (d c:Nat) (L O:List (List Int)),(redP p d c L O).length<=L.length+O.length
 | 0,_,L,O=>by rw[redP];omega
 | d + 1, c, L, O => by
  rw[redP]
  split
  ·exact qfr p d (c+1) L O
  ·next i hf=>
   have hi:=(qej hf).1;refine Nat.le_trans (qfr p d (c+1) _ _) ?_
   simp[List.length_eraseIdx,hi]
   omega
theorem qcm {p:Int} (hp:0 < p) {w:Nat}:∀ (d c:Nat) (L O:List (List Int)),okR p w L->okR p w O->okR p w (redP p d c L O)
 | 0,_,L,O,_,hO=>by rw[redP];exact hO
 | d + 1, c, L, O, hL, hO => by
  rw[redP]
  split
  ·exact qcm hp d (c+1) L O hL hO
  ·next i hf=>
   have hi:=(qej hf).1;have hs:=qcz (p:=p) (b:=invP p (rd (L.getD i []) (c:Int))) hp (hL _ (Zw hi)).1;exact qcm hp d (c+1) _ _ (qcf _ hp hs.1 (qcx i hL)) (qcj (qcf _ hp hs.1 hO) (qad hs (J8 p w)))
def Jj (p:Int) (w:Nat) (L:List (List Int)):List Int:=(redP p w 0 L []).flatten
def Qx (p:Int) (w:Nat) (L:List (List Int)):Nat:=(redP p w 0 L []).length
theorem qij {w:Nat}:∀ (M:List (List Int)),(∀ r∈M,r.length=w)->M.flatten.length=M.length*w
 | [],_=>by simp
 | r :: M,h=>by
  rw[List.flatten_cons,List.length_append,h r (by simp),qij M (λx hx=>h x (by simp[hx])),List.length_cons,Nat.add_mul,Nat.one_mul,Nat.add_comm]
theorem qrc {p:Int} (hp:0 < p) {w:Nat} {L:List (List Int)} (hL:okR p w L):(Jj p w L).length=Qx p w L*w:=qij _ (λr hr=>(qcm hp w 0 L [] hL (J8 p w) r hr).1)
def Z0 (p:Int) (l:List Int):Bool:=Zz p l 8 && decide (Jj p 4 [l.take 4,l.drop 4]=l)
theorem Zv {p:Int} {l:List Int} (h:Zz p l 8=true):okR p 4 [l.take 4,l.drop 4]:=by
 obtain⟨_,hl,hx⟩:=jn h;refine qad ⟨by simp;omega,λx hx'=>hx x (List.mem_of_mem_take hx')⟩ (qad ⟨by simp;omega,λx hx'=>hx x (List.mem_of_mem_drop hx')⟩ (J8 p 4))
theorem Q7 {p:Int} {l:List Int} (h:Z0 p l=true):Zz p l 8=true:=by
 rw[Z0,Bool.and_eq_true]at h;exact h.1
theorem qam {p:Int} {l:List Int} (h:Z0 p l=true):Qx p 4 [l.take 4,l.drop 4]=2:=by
 have hn:=Q7 h;have hb:=zk (jn hn).1;rw[Z0,Bool.and_eq_true]at h;have h2:=of_decide_eq_true h.2;have h3:=qrc (w:=4) (by omega) (Zv hn);rw[h2,(jn hn).2.1]at h3;omega
theorem qbs {p:Int} (hp:zi p=true) {w:Nat} {L M:List (List Int)} (hL:okR p w L) (hM:okR p w M) (h:∀ r∈L,Sp p w M (fn r)):Qx p w L<=Qx p w M:=by
 have hb:=zk hp;obtain⟨P,e1,_,hP,_,h2⟩:=Ji hp hL;obtain⟨Q,e3,_,hQ,h4,_⟩:=Ji hp hM;rw[Qx,Qx,e1,e3,List.length_map,List.length_map];exact hP.DH (by omega) hQ λx hx=>Sp.sub h4 (Sp.sub h (h2 x hx))
theorem qlv {p:Int} (hp:zi p=true) {w:Nat} {L M:List (List Int)} (hL:okR p w L) (hM:okR p w M) (h:∀ r∈L,Sp p w M (fn r)) (k:∀ r∈M,Sp p w L (fn r)):redP p w 0 L []=redP p w 0 M []:=by
 have hb:=zk hp;obtain⟨P,e1,_,hP,h1,h2⟩:=Ji hp hL;obtain⟨Q,e3,_,hQ,h4,h5⟩:=Ji hp hM;rw[e1,e3,hP.unique (by omega) hQ (λx hx=>Sp.sub h4 (Sp.sub h (h2 x hx))) (λx hx=>Sp.sub h1 (Sp.sub k (h5 x hx)))]
theorem qcg {p:Int} {w:Nat} (L:List (List Int)):Qx p w L<=L.length:=by
 have:=qfr p w 0 L []
 simpa [Qx] using this
theorem Zr {p:Int} (hp:zi p=true) {w:Nat} {L:List (List Int)} (hL:okR p w L):
  ∃ N:List (Nat×List Int),Jd p w L=N.map Prod.snd/\Rref p w N/\(∀ x∈N,∀ r∈L,p ∣ dt w (fn r) (fn x.2))/\∀ v:Nat->Int,(∀ r∈L,p ∣ dt w (fn r) v)->Sp p w (N.map Prod.snd) v:=by
 have hb:=zk hp;obtain⟨e1,_,hP,h1,h2⟩:=qa8 hp hL;obtain⟨N,e3,_,hN,h4,h5⟩:=Ji hp (qci (by omega) hP);have hcomm:∀ u v:Nat->Int,dt w u v=dt w v u:=λu v=>by
  rw[dt,dt];congr 1;exact List.map_congr_left λj _=>Int.mul_comm _ _
 refine⟨N,e3,hN,λx hx r hr=>?_,λv hv=>?_⟩
 ·refine qjw (L:=(qau p w L).map Prod.snd) (λs hs=>?_) (h1 r hr)
  obtain⟨z,hz,rfl⟩:=List.mem_map.1 hs;rw[hcomm];refine qjw (L:=J2 p w (qau p w L)) (λq hq=>?_) (h5 x hx);rw[hcomm];exact qo6 hP hz hq
 ·exact Sp.sub h4 (qeo hP λx hx=>qjw hv (h2 x hx))
theorem qdu {p:Int} (hp:zi p=true) {w:Nat} {L:List (List Int)} (hL:okR p w L) (hr:Qx p w L < w):Jd p w L≠[]:=by
 have hb:=zk hp;obtain⟨e1,_,hP,h1,h2⟩:=qa8 hp hL;rw[Qx,e1,List.length_map]at hr;obtain⟨c,hc,hf⟩:=qnn hP hr;obtain⟨N,e3,_,hN,h4,h5⟩:=Ji hp (qci (by omega) hP);intro e;rw[Jd]at e;rw[e]at e3;have hN0:N.map Prod.snd=[]:=e3.symm;have hs:=h4 (Z8 p w (qau p w L) c) (List.mem_map.2 ⟨c,List.mem_filter.2 ⟨by simpa using hc,hf⟩,rfl⟩);rw[hN0]at hs
 cases hs with
 | zero _ hz=>
  have:=hz c hc
  rw[qa9 hP hc (qc5 hf),if_pos rfl]at this;exact J3 (by omega) this
 | add _ u r t hr2 _ _=>exact absurd hr2 (by simp)
def tr (w:Nat) (L:List (List Int)):List (List Int):=(List.range w).map λj=>L.map λr=>fn r j
theorem qez (L:List (List Int)) (f:List Int->Int) (i:Nat) (hi:i < L.length):fn (L.map f) i=f (L.getD i []):=by
 rw[fn,Jo _ i (by rw[List.length_map];exact hi),List.getElem_map,List.getD_eq_getElem?_getD,List.getElem?_eq_getElem hi];rfl
theorem qfk {p:Int} {w:Nat} {L:List (List Int)} (hL:okR p w L):okR p L.length (tr w L):=λr hr=>by
 obtain⟨j,hj,rfl⟩:=List.mem_map.1 hr;refine⟨by simp,λx hx=>?_⟩;obtain⟨q,hq,rfl⟩:=List.mem_map.1 hx;exact Zi (hL q hq) j (by simpa using hj)
theorem qn0 {p:Int} (hp:zi p=true) {w:Nat} {L:List (List Int)} (hL:okR p w L) (hr:Qx p w L < L.length):Jd p L.length (tr w L)≠[]:=by
 have hb:=zk hp;obtain⟨e1,_,hP,h1,h2⟩:=qa8 hp hL;generalize hQ:qau p w L=P at*;have hl:P.length < L.length:=by rw[Qx,e1,List.length_map]at hr;exact hr
 have hM:okR p L.length (P.map λx=>L.map λr=>fn r x.1):=λr hr=>by
  obtain⟨x,hx,rfl⟩:=List.mem_map.1 hr;refine⟨by simp,λy hy=>?_⟩;obtain⟨q,hq,rfl⟩:=List.mem_map.1 hy;exact Zi (hL q hq) x.1 (hP.lt x hx)
 have hne:=qdu hp hM (Nat.lt_of_le_of_lt (qcg _) (by rw[List.length_map];exact hl));obtain⟨N,e3,hN,h4,_⟩:=Zr hp hM
 match N,hN,e3,h4 with
 | [],_,e3,_=>exact absurd e3 hne
 | z :: N, hN, _, h4 =>
  obtain⟨T,e5,hT,_,h6⟩:=Zr hp (qfk hL);have hs := h6 (fn z.2) (λr hr => by
   obtain⟨j,hj,rfl⟩:=List.mem_map.1 hr;have hjw:j < w:=by simpa using hj
   refine qjw (L:=P.map λx=>L.map λr=>fn r x.1) (λm hm=>h4 z (by simp) m hm) ?_;have hsp:∀ Q:List (Nat×List Int),(∀ x∈Q,x∈P)->Sp p L.length (P.map λx=>L.map λr=>fn r x.1) λi=>cs Q (fn (L.getD i [])) j:=by
    intro Q
    induction Q with
    | nil=>intro _;exact .zero _ λi _=>by simp[cs]
    | cons x Q ih=>
     intro hQ;exact .add _ _ (L.map λr=>fn r x.1) (fn x.2 j) (List.mem_map.2 ⟨x,hQ x (by simp),rfl⟩) (ih λy hy=>hQ y (by simp[hy])) λi hi=>by
      rw[qez L (λr=>fn r x.1) i hi];simp only[cs,List.map_cons,List.sum_cons];exact⟨0,by rw[Int.mul_comm (fn x.2 j)];omega⟩
   refine(hsp P λx hx=>hx).congr λi hi=>?_;rw[qez L (λr=>fn r j) i hi];exact hP.coord (h1 _ (Zw hi)) j hjw)
  intro e;rw[e]at e5;rw[<-e5]at hs
  cases hs with
  | zero _ hz=>
   have:=hz z.1 (hN.lt z (by simp))
   rw[hN.one z (by simp)]at this;exact J3 (by omega) this
  | add _ u r t hr2 _ _=>exact absurd hr2 (by simp)
theorem qh5 {p:Int} {w:Nat} {N:List (Nat×List Int)} (h:Rref p w N):((List.range w).filter (Ze N)).length+N.length<=w:=by
 have h1:=Jx (P:=N) (Q:=((List.range w).filter λc=>!Ze N c).map λc=>(c,([]:List Int))) h.inc (by
  rw[List.pairwise_map];exact List.Pairwise.sublist List.filter_sublist List.pairwise_lt_range) (λx hx=>by
  refine⟨(x.1,[]),List.mem_map.2 ⟨x.1,List.mem_filter.2 ⟨by simpa using h.lt x hx,?_⟩,rfl⟩,rfl⟩
  cases hf:Ze N x.1 with
  | false=>rfl
  | true=>exact absurd rfl (qc5 hf x hx))
 rw[List.length_map]at h1;have h2:((List.range w).filter (Ze N)).length+((List.range w).filter λc=>!Ze N c).length=w:=by
  have:∀ l:List Nat,(l.filter (Ze N)).length+(l.filter λc=>!Ze N c).length=l.length:=λl=>by
   induction l with
   | nil=>rfl
   | cons a l ih=>cases hf:Ze N a<;>simp[hf]<;>omega
  simpa using this (List.range w)
 omega
theorem qhq {p:Int} (hp:zi p=true) {w:Nat} {L:List (List Int)} (hL:okR p w L):Qx p w L+(Jd p L.length (tr w L)).length<=L.length:=by
 obtain⟨N,e,hN,h4,_⟩:=Zr hp (qfk hL);rw[e,List.length_map];have hc:=qh5 hN;have hok:okR p w (((List.range L.length).filter (Ze N)).map λi=>L.getD i []):=λr hr=>by
  obtain⟨i,hi,rfl⟩:=List.mem_map.1 hr;exact hL _ (Zw (by have:=(List.mem_filter.1 hi).1;simpa using this))
 have hmono:=qbs hp hL hok (λr hr=>by
  obtain⟨i,hi,rfl⟩:=List.mem_iff_getElem.1 hr;have ei:L[i]=L.getD i []:=by rw[List.getD_eq_getElem?_getD,List.getElem?_eq_getElem hi];rfl
  by_cases hf:Ze N i=true
  ·exact Sp.mem (List.mem_map.2 ⟨i,List.mem_filter.2 ⟨by simpa using hi,hf⟩,ei.symm⟩)
  ·have hex:∃ z∈N,z.1=i:=by
    by_cases he:∃ z∈N,z.1=i
    ·exact he
    ·exact absurd (qfn he) hf
   obtain⟨z,hz,rfl⟩:=hex;have hsp:∀ l:List Nat,(∀ c∈l,c∈(List.range L.length).filter (Ze N))->Sp p w (((List.range L.length).filter (Ze N)).map λi=>L.getD i []) λj=>(l.map λc=>fn z.2 c*fn (L.getD c []) j).sum:=by
    intro l
    induction l with
    | nil=>intro _;exact .zero _ λj _=>by simp
    | cons c l ih=>
     intro hl;exact .add _ _ (L.getD c []) (fn z.2 c) (List.mem_map.2 ⟨c,hl c (by simp),rfl⟩) (ih λd hd=>hl d (by simp[hd])) λj _=>by
      rw[List.map_cons,List.sum_cons];exact⟨0,by omega⟩
   refine((hsp _ λc hc=>hc).scale (-1)).congr λj hj=>?_;have hd:=h4 z hz (L.map λr=>fn r j) (List.mem_map.2 ⟨j,by simpa using hj,rfl⟩);have hcomm:dt L.length (fn (L.map λr=>fn r j)) (fn z.2)=dt L.length (fn z.2) (fn (L.map λr=>fn r j)):=by
    rw[dt,dt];congr 1;exact List.map_congr_left λi _=>Int.mul_comm _ _
   rw[hcomm,qot hN hz,qez L (λr=>fn r j) z.1 (hN.lt z hz)]at hd;have e3:(((List.range L.length).filter (Ze N)).map λc=>fn z.2 c*fn (L.map λr=>fn r j) c)=(((List.range L.length).filter (Ze N)).map λc=>fn z.2 c*fn (L.getD c []) j):=by
    refine List.map_congr_left λc hc=>?_;have hcl:c < L.length:=by have:=(List.mem_filter.1 hc).1;simpa using this
    rw[qez L (λr=>fn r j) c hcl]
   rw[e3]at hd;rw[ei];exact Jl 1 hd (by omega))
 have hle:=qcg (p:=p) (w:=w) (((List.range L.length).filter (Ze N)).map λi=>L.getD i []);rw[List.length_map]at hle;omega
theorem qgy (n:Nat) (u v:Nat->Int):∀ w,fi n (dt w u v)=sm w λj=>fi n (u j)*fi n (v j)
 | 0=>by rw[sm];exact qa3 n
 | w+1=>by
  have e:dt (w+1) u v=dt w u v+u w*v w:=by simp[dt,List.range_succ]
  rw[e,qct,qcp,qgy n u v w,sm]
theorem Sp.sumN {p:Int} {w:Nat} {L:List (List Int)} (t:Nat->Int):∀ m,m<=L.length->Sp p w L λx=>dt m t λj=>fn (L.getD j []) x
 | 0,_=>.zero _ λj _=>by simp[dt]
 | m+1,h=>by
  refine((Sp.sumN t m (by omega)).sum ((Sp.mem (Zw (L:=L) (i:=m) (by omega))).scale (t m))).congr λj _=>?_;have e:dt (m+1) t (λk=>fn (L.getD k []) j)=dt m t (λk=>fn (L.getD k []) j)+t m*fn (L.getD m []) j:=by simp[dt,List.range_succ]
  rw[e];exact⟨0,by omega⟩
theorem qd3 {L:List (List Int)} {r:List Int} (h:r∈L):∃ i,i < L.length/\L.getD i []=r:=by
 obtain⟨i,hi,e⟩:=List.mem_iff_getElem.1 h;exact⟨i,hi,by rw[List.getD_eq_getElem?_getD,List.getElem?_eq_getElem hi];exact e⟩
theorem Sp.lin4 {p:Int} (hp:zi p=true) {w:Nat} {N:List (List Int)} (hN:N.length=4) {v:Nat->Int} (h:Sp p w N v):∃ l:Nat->Fq (nn p),∀ j,j < w->fi (nn p) (v j)=PA.lin4 l λi=>fi (nn p) (fn (N.getD i []) j):=by
 induction h with
 | zero v hz=>exact⟨λ_=>0,λj hj=>by rw[(qa0 hp _).2 (hz j hj)];simp only[PA.lin4];grind⟩
 | add v u r t hr _ h2 ih=>
  obtain⟨l,hl⟩:=ih;obtain⟨i,hi,e⟩:=qd3 hr;refine⟨λk=>l k+if k=i then fi (nn p) t else 0,λj hj=>?_⟩;rw[(qpb hp _ _).2 (h2 j hj),qct,qcp,hl j hj]
  rcases (show i=0\/i=1\/i=2\/i=3 by omega) with rfl|rfl|rfl|rfl<;>(rw[<-e];simp[PA.lin4];grind)
def qes (w i:Nat):List Int:=(List.replicate w 0).set i 1
theorem qp5 (w i j:Nat) (hi:i < w):fn (qes w i) j=if j=i then 1 else 0:=by
 rw[qes,qk7 _ _ _ _ (by simpa using hi)]
 split
 ·rfl
 ·simp only[fn,rd,Int.toNat_natCast,List.getD_eq_getElem?_getD,List.getElem?_replicate]
  split<;>rfl
theorem qpr {p:Int} (hp:2<=p) (w i:Nat):(qes w i).length=w/\∀ x∈qes w i,0<=x/\x < p:=by
 refine⟨by simp[qes],λx hx=>?_⟩
 rcases List.mem_or_eq_of_mem_set hx with h|h
 ·have:=(List.mem_replicate.1 h).2;omega
 ·omega
theorem qqc (v:Nat->Int) (i:Nat):∀ w,dt w (λj=>if j=i then 1 else 0) v=if i < w then v i else 0
 | 0=>by simp[dt]
 | w + 1 => by
  have e:dt (w+1) (λj=>if j=i then 1 else 0) v=dt w (λj=>if j=i then 1 else 0) v+(if w=i then 1 else 0)*v w:=by simp[dt,List.range_succ]
  rw[e,qqc v i w]
  by_cases h:w=i
  ·subst h;simp
  ·by_cases h2:i < w
   ·rw[if_pos h2,if_neg h,if_pos (show i < w+1 by omega)];omega
   ·rw[if_neg h2,if_neg h,if_neg (show ¬ i < w+1 by omega)];omega
theorem qut {p:Int} (hp:zi p=true) {w:Nat} {L:List (List Int)} (hL:okR p w L):w<=(Jd p w L).length+L.length:=by
 have hb:=zk hp;obtain⟨N,e,hN,_,hc⟩:=Zr hp hL;rw[e,List.length_map]
 apply Classical.byContradiction
 intro hlt;have hM:okR p w (L++N.map λx=>qes w x.1):=qcj hL λr hr=>by
  obtain⟨x,_,rfl⟩:=List.mem_map.1 hr;exact qpr (by omega) w x.1
 have hne:=qdu hp hM (Nat.lt_of_le_of_lt (qcg _) (by simp;omega));obtain⟨Q,e2,hQ,h2,_⟩:=Zr hp hM;rw[e2]at hne
 cases Q with
 | nil=>exact hne rfl
 | cons z Q=>
  have hv:Sp p w (N.map Prod.snd) (fn z.2):=hc _ λr hr=>h2 z (by simp) r (List.mem_append_left _ hr);have hz:=hN.coord hv z.1 (hQ.lt z (by simp));have hcs:p ∣ cs N (fn z.2) z.1:=qha λx hx=>by
   have:=h2 z (by simp) (qes w x.1) (List.mem_append_right _ (List.mem_map.2 ⟨x,hx,rfl⟩))
   have hf:fn (qes w x.1)=λj=>if j=x.1 then 1 else 0:=funext λj=>qp5 w x.1 j (hN.lt x hx)
   rw[hf,qqc,if_pos (hN.lt x hx)]at this;exact Int.dvd_mul_of_dvd_left this
  rw[hQ.one z (by simp)]at hz;exact J3 (p:=p) (by omega) (Z7 1 1 hz hcs (by omega))
theorem tr_tr {p:Int} {w:Nat} {L:List (List Int)} (hL:okR p w L):tr L.length (tr w L)=L:=by
 apply List.ext_getElem
 ·simp[tr]
 ·intro i h1 h2
  simp only[tr,List.getElem_map,List.getElem_range,List.map_map];have hl:=(hL _ (List.getElem_mem h2)).1
  apply List.ext_getElem
  ·simp[hl]
  ·intro j h3 h4
   simp only[List.getElem_map,List.getElem_range,Function.comp];rw[qez _ _ _ h2,List.getD_eq_getElem?_getD,List.getElem?_eq_getElem h2];exact Jo _ _ h4
theorem fn_tr {w:Nat} (L:List (List Int)) (i j:Nat) (hi:i < w) (hj:j < L.length):fn ((tr w L).getD i []) j=fn (L.getD j []) i:=by
 have e:(tr w L).getD i []=L.map λr=>fn r i:=by simp[tr,List.getD_eq_getElem?_getD,hi]
 rw[e,qez _ _ _ hj]
theorem qn9 :∀ p∈([7,11,13,17,19,23,29,31]:List Int),Qx p 6 ((List.range 6).map (qes 6))=6:=by decide+kernel
def p3 (n:Nat) (t:Int×Int×Int):Nat->Fq n
 | 0=>fi n t.1
 | 1=>fi n t.2.1
 | _=>fi n t.2.2
def cubR (p:Int) (t:Int×Int×Int):List Int:=[t.1*t.1*t.1 % p,t.1*t.1*t.2.1 % p,t.1*t.1*t.2.2 % p,t.1*t.2.1*t.2.1 % p,t.1*t.2.1*t.2.2 % p,t.1*t.2.2*t.2.2 % p,t.2.1*t.2.1*t.2.1 % p,t.2.1*t.2.1*t.2.2 % p,t.2.1*t.2.2*t.2.2 % p,t.2.2*t.2.2*t.2.2 % p]
theorem qp2 {p:Int} (hp:zi p=true) (t:Int×Int×Int):(cubR p t).length=10/\∀ x∈cubR p t,0<=x/\x < p:=by
 have hb:=zk hp;refine⟨rfl,λx hx=>?_⟩;have hm:∀ y:Int,0<=y % p/\y % p < p:=λy=>⟨Int.emod_nonneg _ (by omega),Int.emod_lt_of_pos _ (by omega)⟩
 simp only[cubR,List.mem_cons,List.not_mem_nil,or_false]at hx
 rcases hx with rfl|rfl|rfl|rfl|rfl|rfl|rfl|rfl|rfl|rfl<;>exact hm _
theorem qe8 {p:Int} (hp:zi p=true) (t:Int×Int×Int) (v:Nat->Fq (nn p)):(sm 10 λj=>fi (nn p) (fn (cubR p t) j)*v j)=valC v (p3 (nn p) t):=by
 simp only[sm,fn,rd,Int.toNat_natCast,cubR,List.getD_cons_zero,List.getD_cons_succ,qir hp,qcp,valC,p3]
 grind
theorem qv3 {n:Nat} {P:Nat->Nat->Fq n} (h:∀ i j k,i < 6->j < i->k < j->ev3 (qu (P i) (P j)) (P k)≠0):gen3 P:=by
 have c1:∀ A B C:Nat->Fq n,ev3 (qu A B) C=ev3 (qu B C) A:=λA B C=>by simp only[ev3,qu];grind
 have c2:∀ A B C:Nat->Fq n,ev3 (qu A B) C=- ev3 (qu B A) C:=λA B C=>by simp only[ev3,qu];grind
 intro i j k hi hj hk h1 h2 h3
 rcases Nat.lt_or_gt_of_ne h1 with a|a<;>rcases Nat.lt_or_gt_of_ne h2 with b|b<;>rcases Nat.lt_or_gt_of_ne h3 with c|c
 ·have:=h k j i hk b a;rw[c2,<-c1,];grind
 ·omega
 ·have:=h j k i hj b c;rw[c1];exact this
 ·have:=h j i k hj a c;rw[c2];grind
 ·have:=h k i j hk c a;rw[c1,c1];exact this
 ·have:=h i k j hi c b;rw[c2,c1,c1,];grind
 ·omega
 ·exact h i j k hi a b
theorem sep6 {n:Nat} (hF:FldH n) {P:Nat->Nat->Fq n} (hG:gen3 P):∀ i,i < 6->∃ v:Nat->Fq n,(∀ x,x < 6->x≠i->valC v (P x)=0)/\valC v (P i)≠0:=by
 have key:∀ i a b c d e,i < 6->a < 6->b < 6->c < 6->d < 6->e < 6->(∀ x,x < 6->x≠i->x=a\/x=b\/x=c\/x=d\/x=e)->i≠a->i≠b->i≠c->i≠d->i≠e->a≠b->c≠d->e≠a->∃ v:Nat->Fq n,(∀ x,x < 6->x≠i->valC v (P x)=0)/\valC v (P i)≠0:=by
  intro i a b c d e hi ha hb hc hd he hx ia ib ic id ie ab cd ea;refine⟨lin6 P a b c d e a,λx h6 hxi=>?_,?_⟩
  ·rw[Z5]
   rcases hx x h6 hxi with rfl|rfl|rfl|rfl|rfl
   ·rw[Zt];grind
   ·rw[J7];grind
   ·rw[Zt];grind
   ·rw[J7];grind
   ·rw[Zt];grind
  ·rw[Z5]
   exact fnz hF (fnz hF (hG a b i ha hb hi ab (Ne.symm ib) (Ne.symm ia)) (hG c d i hc hd hi cd (Ne.symm id) (Ne.symm ic))) (hG e a i he ha hi ea (Ne.symm ia) (Ne.symm ie))
 intro i hi
 rcases (show i=0\/i=1\/i=2\/i=3\/i=4\/i=5 by omega) with rfl|rfl|rfl|rfl|rfl|rfl
 ·exact key 0 1 2 3 4 5 (by omega) (by omega) (by omega) (by omega) (by omega) (by omega) (by omega) (by omega) (by omega) (by omega) (by omega) (by omega) (by omega) (by omega) (by omega)
 ·exact key 1 0 2 3 4 5 (by omega) (by omega) (by omega) (by omega) (by omega) (by omega) (by omega) (by omega) (by omega) (by omega) (by omega) (by omega) (by omega) (by omega) (by omega)
 ·exact key 2 1 0 3 4 5 (by omega) (by omega) (by omega) (by omega) (by omega) (by omega) (by omega) (by omega) (by omega) (by omega) (by omega) (by omega) (by omega) (by omega) (by omega)
 ·exact key 3 1 2 0 4 5 (by omega) (by omega) (by omega) (by omega) (by omega) (by omega) (by omega) (by omega) (by omega) (by omega) (by omega) (by omega) (by omega) (by omega) (by omega)
 ·exact key 4 1 2 3 0 5 (by omega) (by omega) (by omega) (by omega) (by omega) (by omega) (by omega) (by omega) (by omega) (by omega) (by omega) (by omega) (by omega) (by omega) (by omega)
 ·exact key 5 1 2 3 4 0 (by omega) (by omega) (by omega) (by omega) (by omega) (by omega) (by omega) (by omega) (by omega) (by omega) (by omega) (by omega) (by omega) (by omega) (by omega)
def ptL (p:Int) (Q:List (Int×Int×Int)) (i:Nat):Nat->Fq (nn p):=p3 (nn p) (Q.getD i (0,0,0))
def basP (p:Int) (Q:List (Int×Int×Int)):List (List Int):=Jd p 10 (Q.map (cubR p))
def basF (p:Int) (Q:List (Int×Int×Int)) (i j:Nat):Fq (nn p):=fi (nn p) (fn ((basP p Q).getD i []) j)
theorem qf4 {p:Int} (hp:zi p=true) (Q:List (Int×Int×Int)):okR p 10 (Q.map (cubR p)):=λr hr=>by
 obtain⟨t,_,rfl⟩:=List.mem_map.1 hr;exact qp2 hp t
theorem qk6 (p:Int) (Q:List (Int×Int×Int)) (i:Nat) (hi:i < Q.length):(Q.map (cubR p)).getD i []=cubR p (Q.getD i (0,0,0)):=by
 simp[List.getD_eq_getElem?_getD,hi]
theorem qqw {n:Nat} (c:Fq n) (v P:Nat->Fq n):valC (λj=>c*v j) P=c*valC v P:=by simp only[valC];grind
theorem Dz {p:Int} (hp:zi p=true) {Q:List (Int×Int×Int)} (h6:Q.length=6) (hG:gen3 (ptL p Q)):(basP p Q).length<=4:=by
 have hb:=zk hp;have hR:=qf4 hp Q;have hT:okR p 6 (tr 10 (Q.map (cubR p))):=by have:=qfk hR;rwa [List.length_map,h6]at this
 have h1:=qhq hp hT;have hl:(tr 10 (Q.map (cubR p))).length=10:=by simp[tr]
 have ht:tr 6 (tr 10 (Q.map (cubR p)))=Q.map (cubR p):=by have:=tr_tr hR;rwa [List.length_map,h6]at this
 rw[hl,ht]at h1;have hI:okR p 6 ((List.range 6).map (qes 6)):=λr hr=>by
  obtain⟨i,_,rfl⟩:=List.mem_map.1 hr;exact qpr (by omega) 6 i
 have h2:=qbs hp hI hT λr hr=>by
  obtain⟨i,hi,rfl⟩:=List.mem_map.1 hr;have hi6:i < 6:=by simpa using hi
  obtain⟨v,hv0,hv1⟩:=sep6 (qa5 hp) hG i hi6;obtain⟨c,hc⟩:=qa5 hp _ hv1;refine(Sp.sumN (L:=tr 10 (Q.map (cubR p))) (λj=>(((c*v j:Fq (nn p)).val:Nat):Int)) 10 (by omega)).congr λx hx=>?_;rw[<-qpb hp,qgy,qp5 6 i x hi6];have e:(sm 10 λj=>fi (nn p) (((c*v j:Fq (nn p)).val:Nat):Int)*fi (nn p) (fn ((tr 10 (Q.map (cubR p))).getD j []) x))=c*valC v (ptL p Q x):=by
   rw[<-qqw,ptL,<-qe8 hp];refine qay _ λj hj=>?_;rw[qbz,fn_tr _ _ _ hj (by rw[List.length_map];omega),qk6 _ _ _ (by omega)]
   grind
  rw[e]
  by_cases hxi:x=i
  ·subst hxi;rw[if_pos rfl,qdr hp];grind
  ·rw[if_neg hxi,hv0 x hx hxi,qa3];grind
 rw[qn9 p (by have:=qb5 hp;simpa using this)]at h2
 show (Jd p 10 (Q.map (cubR p))).length<=4
 omega
theorem qcn {p:Int} (hp:zi p=true) {Q:List (Int×Int×Int)} (h6:Q.length=6) (hG:gen3 (ptL p Q)):(basP p Q).length=4:=by
 have h1:=Dz hp h6 hG;have h2:=qut hp (qf4 hp Q);rw[List.length_map,h6]at h2
 have:10<=(basP p Q).length+6:=h2
 omega
theorem qdb {p:Int} (hp:zi p=true) {Q:List (Int×Int×Int)} (h6:Q.length=6) (hG:gen3 (ptL p Q)) (v:Nat->Fq (nn p)) (hv:∀ x,x < 6->valC v (ptL p Q x)=0):∃ l:Nat->Fq (nn p),∀ j,j < 10->v j=lin4 l λi=>basF p Q i j:=by
 obtain⟨N,e,hN,_,hc⟩:=Zr hp (qf4 hp Q);have hs:=hc (λj=>(((v j).val:Nat):Int)) λr hr=>by
  obtain⟨x,hx,rfl⟩:=qd3 hr;rw[List.length_map,h6]at hx;rw[<-qa0 hp,qgy,qk6 _ _ _ (by omega)];simp only[qbz];rw[qe8 hp];exact hv x hx
 rw[<-e]at hs;obtain⟨l,hl⟩:=Sp.lin4 hp (qcn hp h6 hG) hs;exact⟨l,λj hj=>by have:=hl j hj;rwa [qbz]at this⟩
theorem qlu {p:Int} (hp:zi p=true) {Q:List (Int×Int×Int)} (i x:Nat) (hi:i < (basP p Q).length) (hx:x < Q.length):valC (basF p Q i) (ptL p Q x)=0:=by
 obtain⟨N,e,hN,h,_⟩:=Zr hp (qf4 hp Q);have hm:=Zw hi;rw[basP,e]at hm;obtain⟨z,hz,ez⟩:=List.mem_map.1 hm;have h1:=h z hz _ (Zw (L:=Q.map (cubR p)) (i:=x) (by rw[List.length_map];omega));rw[qk6 _ _ _ hx,<-qa0 hp,qgy,qe8 hp,ez,<-e]at h1;exact h1
theorem qv2 (A B C p:Int):A % p*(B % p) % p*(C % p) % p=A*B*C % p:=by rw[Int.mul_emod (A*B) C p,Int.mul_emod A B p]
theorem qbo {p:Int} (hp:7<=p/\p<=31) {x:Int} (hx:0<=x/\x < p) (n:Nat) (hn:n<=3):Ev (λk=>jf.f k p x (n:Int)) (x ^ n % p):=by
 have h0:∀ (d i:Nat),i+d=n->Ev (λq=>jf.l0 q p x (n:Int) (x ^ i % p) (i:Int)) (x ^ n % p):=by
  intro d
  induction d with
  | zero=>
   intro i hi;obtain rfl:i=n:=by omega
   exact Ev.step (f:=λ_=>some (x ^ i % p)) (λq=>by rw[jf.l0,if_neg (by omega)]) (Ev.now _)
  | succ d ih=>
   intro i hi;have hy:0<=x ^ i % p/\x ^ i % p < p:=⟨Int.emod_nonneg _ (by omega),Int.emod_lt_of_pos _ (by omega)⟩
   have hm:=Q1 hp hy hx;refine Ev.step (λq=>by rw[jf.l0,if_pos (by omega),if_neg (by omega),wsm (i:=x ^ i % p*x) (by omega) (by omega),wsm (i:=(i:Int)+1) (by omega) (by omega),Int.tmod_eq_emod_of_nonneg hm.1,show x ^ i % p*x % p=x ^ (i+1) % p by rw[Int.pow_succ,Int.mul_emod,Int.emod_emod,<-Int.mul_emod]]) ?_;exact ih (i+1) (by omega)
 unfold jf.f
 have:=h0 n 0 (by omega)
 rw[Int.pow_zero,Int.emod_eq_of_lt (by omega) (by omega)]at this;exact this
def powL :List S49:=[⟨3,0,0⟩,⟨2,1,0⟩,⟨2,0,1⟩,⟨1,2,0⟩,⟨1,1,1⟩,⟨1,0,2⟩,⟨0,3,0⟩,⟨0,2,1⟩,⟨0,1,2⟩,⟨0,0,3⟩]
theorem qgh :Jr.f=some powL:=rfl
def powN :List (Nat×Nat×Nat):=[(3,0,0),(2,1,0),(2,0,1),(1,2,0),(1,1,1),(1,0,2),(0,3,0),(0,2,1),(0,1,2),(0,0,3)]
theorem qee :∀ i:Nat,i < 10->(zp powL (i:Int)).f0=(((powN.getD i (0,0,0)).1:Nat):Int)/\(zp powL (i:Int)).f1=(((powN.getD i (0,0,0)).2.1:Nat):Int)/\(zp powL (i:Int)).f2=(((powN.getD i (0,0,0)).2.2:Nat):Int)/\(powN.getD i (0,0,0)).1<=3/\(powN.getD i (0,0,0)).2.1<=3/\(powN.getD i (0,0,0)).2.2<=3:=by
 intro i hi
 rcases (show i=0\/i=1\/i=2\/i=3\/i=4\/i=5\/i=6\/i=7\/i=8\/i=9 by omega) with rfl|rfl|rfl|rfl|rfl|rfl|rfl|rfl|rfl|rfl<;>exact⟨rfl,rfl,rfl,by decide,by decide,by decide⟩
def monR (p:Int) (t:Int×Int×Int) (i:Nat):Int:=t.1 ^ (powN.getD i (0,0,0)).1*t.2.1 ^ (powN.getD i (0,0,0)).2.1*t.2.2 ^ (powN.getD i (0,0,0)).2.2 % p
theorem qmr (p:Int) (t:Int×Int×Int):(List.range 10).map (monR p t)=cubR p t:=by
 have e:∀ x:Int,x ^ 3=x*x*x/\x ^ 2=x*x/\x ^ 1=x/\x ^ 0=1:=λx=>⟨by grind,by grind,by grind,by grind⟩
 show [monR p t 0,monR p t 1,monR p t 2,monR p t 3,monR p t 4,monR p t 5,monR p t 6,monR p t 7,monR p t 8,monR p t 9]=_
 simp only[monR,powN,List.getD_cons_zero,List.getD_cons_succ,(e _).1,(e _).2.1,(e _).2.2.1,(e _).2.2.2,Int.mul_one,Int.one_mul,cubR,Int.mul_assoc]
theorem qet {p:Int} (hp:7<=p/\p<=31) (t:Int×Int×Int) (ht:inP p t):Ev (λk=>zb.f k p t.1 t.2.1 t.2.2) (cubR p t):=by
 have h0:∀ (d i:Nat),i+d=10->Ev (λq=>zb.l0 q p ((List.range i).map (monR p t)) powL (i:Int) t.1 t.2.1 t.2.2) (cubR p t):=by
  intro d
  induction d with
  | zero=>
   intro i hi;obtain rfl:i=10:=by omega
   refine Ev.step (f:=λ_=>some (cubR p t)) (λq=>by rw[zb.l0,if_neg (by omega),qmr]) (Ev.now _)
  | succ d ih=>
   intro i hi;obtain⟨e0,e1,e2,l0,l1,l2⟩:=qee i (by omega);have hm:∀ y:Int,0<=y % p/\y % p < p:=λy=>⟨Int.emod_nonneg _ (by omega),Int.emod_lt_of_pos _ (by omega)⟩
   have b1:=Q1 hp (hm (t.1 ^ (powN.getD i (0,0,0)).1)) (hm (t.2.1 ^ (powN.getD i (0,0,0)).2.1));have b2:=Q1 hp (hm ((t.1 ^ (powN.getD i (0,0,0)).1 % p)*(t.2.1 ^ (powN.getD i (0,0,0)).2.1 % p))) (hm (t.2.2 ^ (powN.getD i (0,0,0)).2.2));refine Ev.step (λq=>by rw[zb.l0,if_pos (by omega),if_pos (by omega),if_pos (by simp[powL];omega),e0,e1,e2]) ?_;refine Ev.bind (qbo hp ht.1 _ l0) (Ev.bind (qbo hp ht.2.1 _ l1) (Ev.no (by omega) (Ev.bind (qbo hp ht.2.2 _ l2) (Ev.yes (by simp;omega) ?_))));rw[wsm (i:=(i:Int)+1) (by omega) (by omega),wsm (i:=t.1 ^ (powN.getD i (0,0,0)).1 % p*_) (by omega) (by omega),Int.tmod_eq_emod_of_nonneg b1.1,wsm (by omega) (by omega),Int.tmod_eq_emod_of_nonneg b2.1];have e:((List.range i).map (monR p t))++[t.1 ^ (powN.getD i (0,0,0)).1 % p*(t.2.1 ^ (powN.getD i (0,0,0)).2.1 % p) % p*(t.2.2 ^ (powN.getD i (0,0,0)).2.2 % p) % p]=(List.range (i+1)).map (monR p t):=by
    rw[List.range_succ,List.map_append]
    congr 1
    show [_]=[monR p t i]
    rw[monR,qv2]
   rw[e];exact ih (i+1) (by omega)
 unfold zb.f;rw[qgh];exact Ev.bind (Ev.k rfl) (h0 10 0 rfl)
theorem qqx (P:List (Nat×List Int)) (i:Nat) (hi:i < P.length):zt (P.map Prod.snd) (i:Int)=(P[i]).2:=by
 simp[zt,List.getD_eq_getElem?_getD,hi]
theorem qjt (P:List (Nat×List Int)) (i:Nat) (hi:i < P.length):rd (P.map λx=>(x.1:Int)) (i:Int)=((P[i]).1:Int):=by
 simp[rd,List.getD_eq_getElem?_getD,hi]
theorem qhf {p:Int} {w:Nat} {P:List (Nat×List Int)} (h:Rref p w P):P.length<=w:=by
 have h1:=Jx (P:=P) (Q:=(List.range w).map λc=>(c,([]:List Int))) h.inc (by rw[List.pairwise_map];exact List.pairwise_lt_range) (λx hx=>⟨(x.1,[]),List.mem_map.2 ⟨x.1,by simpa using h.lt x hx,rfl⟩,rfl⟩)
 simpa using h1
theorem qua {p:Int} (hp:zi p=true) {x:Int} (h0:0<=x) (h1:x < p):Q9.f p (wrap64 (-x))=some ((-x) % p):=by
 have hb:=zk hp;rw[qd0 p _ (by omega),qba ⟨by omega,by omega⟩ (by omega) (by omega)]
theorem qml {p:Int} (hp:zi p=true) {w:Nat} (hw:w<=1000) {P:List (Nat×List Int)} (h:Rref p w P) {c q:Nat} (hc:c < w) {O:List (List Int)} (hO:O.length<=1000) {R:List (List Int)}:∀ (d i:Nat) (v V:List Int),i+d=P.length->v.length=w->J4 p c (P.drop i) v=V->
  Ev (λk=>qr.l0 k p (w:Int) (P.map Prod.snd) (P.map λx=>(x.1:Int)) (O++[V]) (q:Int) ((c+1:Nat):Int)) R->
  Ev (λk=>qr.l1 k p (w:Int) (P.map Prod.snd) (P.map λx=>(x.1:Int)) O (q:Int) (c:Int) v (i:Int)) R
 | 0,i,v,V,e,hv,hV,hend=>by
  rw[List.drop_eq_nil_of_le (by omega),J4]at hV;subst hV;refine Ev.step (λk=>by rw[qr.l1,if_neg (by rw[List.length_map];omega),if_pos (by omega),wsm (by omega) (by omega)]) ?_
  simpa using hend
 | d+1,i,v,V,e,hv,hV,hend=>by
  have hi:i < P.length:=by omega
  have hle:=qhf h;have hm:=List.getElem_mem hi;have hlen:=(h.ok _ hm).1;have hlt:=h.lt _ hm;have hr:=Zi (h.ok _ hm) c hc;rw[fn]at hr;rw[List.drop_eq_getElem_cons hi,J4]at hV;refine Ev.step (λk=>by rw[qr.l1,if_pos (by rw[List.length_map];omega),if_pos (by omega),if_pos (by rw[List.length_map];omega),if_pos (by omega),qqx P i hi,if_pos (by omega),qjt P i hi,qua hp hr.1 hr.2]) ?_;refine Ev.bind (a:=(-(rd (P[i]).2 (c:Int))) % p) (Ev.now _) (Ev.yes (by omega) (Ev.yes (by omega) ?_));have ih:=qml hp hw h hc hO d (i+1) (v.set (P[i]).1 ((-(rd (P[i]).2 (c:Int))) % p)) V (by omega) (by rw[List.length_set];exact hv) hV hend;rw[wsm (by omega) (by omega)]
  simpa using ih
theorem qr4 {P:List (Nat×List Int)} {c q:Nat} (h1:∀ j:Nat,∀ hj:j < P.length,j < q->(P[j]).1 < c) (h2:∀ j:Nat,∀ hj:j < P.length,q<=j->c < (P[j]).1):Ze P c=true:=qfn (by
 rintro⟨z,hz,e⟩;obtain⟨j,hj,rfl⟩:=List.mem_iff_getElem.1 hz
 rcases Nat.lt_or_ge j q with h|h
 ·have:=h1 j hj h;omega
 ·have:=h2 j hj h;omega)
theorem qf1 {p:Int} (hp:zi p=true) {w:Nat} (hw:w<=1000) {P:List (Nat×List Int)} (h:Rref p w P):∀ (d c q:Nat) (O:List (List Int)),c+d=w->q<=P.length->(∀ j:Nat,∀ hj:j < P.length,j < q->(P[j]).1 < c)->(∀ j:Nat,∀ hj:j < P.length,q<=j->c<=(P[j]).1)->O=(((List.range c).filter (Ze P)).map (Z8 p w P))->
  Ev (λk=>qr.l0 k p (w:Int) (P.map Prod.snd) (P.map λx=>(x.1:Int)) O (q:Int) (c:Int)) (redP p w 0 (J2 p w P) [])
 | 0,c,q,O,e,hq,h1,h2,hO=>by
  obtain rfl:c=w:=by omega
  have hb:=zk hp;refine Ev.step (λk=>by rw[qr.l0,if_neg (by omega)]) ?_;have hlen:O.length < 1000000:=by
   rw[hO,List.length_map]
   have:=List.length_filter_le (Ze P) (List.range c)
   simp at this;omega
  have hok:=qci (p:=p) (by omega) h;subst hO;exact Ev.bind (qbx hp hw _ hok hlen) (Ev.now _)
 | d + 1, c, q, O, e, hq, h1, h2, hO => by
  have hle:=qhf h;have hOl:O.length<=1000:=by
   rw[hO,List.length_map]
   have:=List.length_filter_le (Ze P) (List.range c)
   simp at this;omega
  have hsucc:(List.range (c+1)).filter (Ze P)=(List.range c).filter (Ze P)++(if Ze P c=true then [c] else []):=by
   rw[List.range_succ,List.filter_append]
   congr 1
   cases hf:Ze P c<;>simp[hf]
  have hnot:(∀ j:Nat,∀ hj:j < P.length,q<=j->c < (P[j]).1)->Ev (λk=>qr.j1 k p (w:Int) (P.map Prod.snd) (P.map λx=>(x.1:Int)) O (q:Int) (c:Int) false) (redP p w 0 (J2 p w P) []):=λh3=>by
   have hf:=qr4 h1 h3;refine Ev.step (λk=>by rw[qr.j1,if_neg (by simp)]) ?_;refine(Ev.yes (by omega) (Ev.yes (by omega) (Ev.bind (a:=List.replicate w 0) (by simpa using Ev.now (List.replicate w (0:Int))) (Ev.yes (by omega) (Ev.yes (by simp;omega) ?_)))));have hend:=qf1 hp hw h d (c+1) q (O++[Z8 p w P c]) (by omega) hq (λj hj hjq=>by have:=h1 j hj hjq;omega) (λj hj hjq=>by have:=h3 j hj hjq;omega) (by rw[hsucc,hf,hO];simp)
   have:=qml hp hw h (c:=c) (q:=q) (by omega) hOl (R:=redP p w 0 (J2 p w P) []) P.length 0 ((List.replicate w 0).set c 1) (Z8 p w P c) (by omega) (by simp) (by rw[List.drop_zero];rfl) hend
   simpa using this
  by_cases hql:q < P.length
  ·refine Ev.step (λk=>by rw[qr.l0,if_pos (by omega),if_pos (by rw[List.length_map];omega),if_pos (by omega),qjt P q hql]) ?_
   by_cases hh:(P[q]).1=c
   ·rw[show (((P[q]).1:Int) == (c:Int))=true from by simp[hh]]
    have hf:Ze P c=false:=by
     cases hf:Ze P c with
     | false=>rfl
     | true=>exact absurd hh (qc5 hf _ (List.getElem_mem hql))
    refine Ev.step (λk=>by rw[qr.j1,if_pos rfl]) ?_;rw[wsm (by omega) (by omega),wsm (by omega) (by omega)];refine qf1 hp hw h d (c+1) (q+1) O (by omega) (by omega) (λj hj hjq=>?_) (λj hj hjq=>?_) (by rw[hsucc,hf,hO];simp)
    ·rcases Nat.lt_succ_iff_lt_or_eq.1 hjq with h3|h3
     ·have:=h1 j hj h3;omega
     ·subst h3;omega
    ·have hlt:q < j:=by omega
     have:=(List.pairwise_iff_getElem.1 h.inc) q j hql hj hlt
     omega
   ·rw[show (((P[q]).1:Int) == (c:Int))=false from by simp;omega]
    refine hnot λj hj hjq=>?_;have hq2:=h2 q hql (Nat.le_refl _)
    rcases Nat.lt_or_ge q j with h3|h3
    ·have:=(List.pairwise_iff_getElem.1 h.inc) q j hql hj h3
     omega
    ·obtain rfl:j=q:=by omega
     omega
  ·refine Ev.step (λk=>by rw[qr.l0,if_pos (by omega),if_neg (by rw[List.length_map];omega)]) ?_
   exact hnot λj hj hjq=>by omega
theorem qfv {p:Int} (hp:zi p=true) {w:Nat} (hw:w<=1000) (L:List (List Int)) (hl:L.length < 1000000) (hL:okR p w L):Ev (λk=>qr.f k p L (w:Int)) (Jd p w L):=by
 obtain⟨e1,e2,hP,_,_⟩:=qa8 hp hL;unfold qr.f;refine Ev.bind (qbx hp hw L hL hl) ?_;rw[e1,e2];have h:=qf1 (p:=p) hp hw hP w 0 0 [] (by omega) (by omega) (λj hj hjq=>absurd hjq (by omega)) (λj hj _=>by omega) (by simp)
 simpa [Jd] using h
def sqR (p:Int) (t:Int×Int×Int):List Int:=[t.1*t.1 % p,t.1*t.2.1 % p,t.1*t.2.2 % p,t.2.1*t.2.1 % p,t.2.1*t.2.2 % p,t.2.2*t.2.2 % p]
theorem qso {p:Int} (hp:zi p=true) (t:Int×Int×Int):(sqR p t).length=6/\∀ x∈sqR p t,0<=x/\x < p:=by
 have hb:=zk hp;have hm:∀ y:Int,0<=y % p/\y % p < p:=λy=>⟨Int.emod_nonneg _ (by omega),Int.emod_lt_of_pos _ (by omega)⟩
 refine⟨rfl,λx hx=>?_⟩;simp only[sqR,List.mem_cons,List.not_mem_nil,or_false]at hx
 rcases hx with rfl|rfl|rfl|rfl|rfl|rfl<;>exact hm _
theorem qgp {p:Int} (hp:zi p=true) (Q:List (Int×Int×Int)):okR p 6 (Q.map (sqR p)):=λr hr=>by
 obtain⟨t,_,rfl⟩:=List.mem_map.1 hr;exact qso hp t
theorem qfu {p:Int} (hp:7<=p/\p<=31) (a:Int×Int×Int) (ha:inP p a):Qh.f p a.1 a.2.1 a.2.2=some (sqR p a):=by
 obtain⟨a0,a1,a2⟩:=ha;have m:∀ {x y:Int},(0<=x/\x < p)->(0<=y/\y < p)->Int.tmod (wrap64 (x*y)) p=x*y % p:=λhx hy=>by
  have:=Q1 hp hx hy
  rw[wsm (by omega) (by omega),Int.tmod_eq_emod_of_nonneg this.1]
 unfold Qh.f;rw[if_neg (by omega),m a0 a0,m a0 a1,m a0 a2,m a1 a1,m a1 a2,m a2 a2]
 rfl
theorem qgl {p:Int} (hp:zi p=true) (l:List S51) (hl:l.length<=1000) (hin:∀ j,j < l.length->inP p ((tps l).getD j (0,0,0))):Ev (λk=>jl.f k p l) (Jd p 6 ((tps l).map (sqR p))):=by
 have hb:=zk hp;have hlen:(tps l).length=l.length:=by simp[tps]
 have h0:∀ (d i:Nat) (acc:List (List Int)),i+d=l.length->acc=((tps l).take i).map (sqR p)->Ev (λq=>jl.l0 q p l acc (i:Int)) (Jd p 6 ((tps l).map (sqR p))):=by
  intro d
  induction d with
  | zero=>
   intro i acc hi ha;refine Ev.step (λq=>by rw[jl.l0,if_neg (by omega)]) ?_;rw[List.take_of_length_le (by omega)]at ha;subst ha
   have:=qfv hp (w:=6) (by omega) _ (by rw[List.length_map];omega) (qgp hp (tps l))
   exact Ev.bind this (Ev.now _)
  | succ d ih=>
   intro i acc hi ha;have hil:i < l.length:=by omega
   have e:Qh.f p (qg l (i:Int)).f0.f0 (qg l (i:Int)).f0.f1 (qg l (i:Int)).f0.f2=some (sqR p ((tps l).getD i (0,0,0))):=by
    have:=qfu (p:=p) ⟨by omega,by omega⟩ _ (hin i hil)
    rw[<-qbg l i hil]at this ⊢;exact this
   have hal:acc.length<=1000:=by rw[ha,List.length_map,List.length_take];omega
   refine Ev.step (λq=>by rw[jl.l0,if_pos (by omega),if_pos (by omega),e,Option.bind_some,if_pos (by omega),wsm (by omega) (by omega)]) ?_;refine ih (i+1) _ (by omega) ?_;rw[ha,List.take_add_one,List.map_append,List.getD_eq_getElem?_getD,List.getElem?_eq_getElem (by omega)]
   rfl
 unfold jl.f;exact h0 l.length 0 [] (by omega) (by simp)
def genB (p:Int) (Q:List (Int×Int×Int)):Bool:=decide (Q.length=6) && qb1 p Q && (Jd p 6 (Q.map (sqR p))).isEmpty
theorem j7 {p:Int} {Q:List (Int×Int×Int)} (h:genB p Q=true):zi p=true/\Q.length=6/\qb1 p Q=true/\Jd p 6 (Q.map (sqR p))=[]:=by
 rw[genB,Bool.and_eq_true,Bool.and_eq_true,decide_eq_true_iff]at h;obtain⟨⟨h1,h2⟩,h3⟩:=h;refine⟨?_,h1,h2,by simpa using h3⟩
 cases hp:zi p with
 | true=>rfl
 | false=>rw[qf7 hp Q (by omega)]at h2;exact absurd h2 (by simp)
theorem qg1 (p:Int) (l:List S51):Ev (λk=>Zc.f k p l) (genB p (tps l)):=by
 have hlen:(tps l).length=l.length:=by simp[tps]
 unfold Zc.f
 by_cases h6:l.length=6
 ·refine Ev.yes (by omega) ?_
  rw[genB,hlen,decide_eq_true h6,Bool.true_and]
  cases hp:zi p with
  | false=>
   rw[qf7 hp _ (by omega)];exact Ev.bind (qla hp l (by omega)) (Ev.no (by simp) (Ev.now _))
  | true=>
   refine Ev.bind (qo4 hp l (by omega)) ?_
   cases ha:qb1 p (tps l) with
   | false=>exact Ev.no (by simp) (Ev.now _)
   | true=>
    refine Ev.yes rfl (Ev.bind (qgl hp l (by omega) λj hj=>qdc ((qa7 ha).1 j (by omega))) ?_);have e:((((Jd p 6 ((tps l).map (sqR p))).length:Int)) == 0)=(true && (Jd p 6 ((tps l).map (sqR p))).isEmpty):=by
     cases Jd p 6 ((tps l).map (sqR p)) with
     | nil=>rfl
     | cons a t=>simp;omega
    rw[e];exact Ev.now _
 ·refine Ev.no (by omega) ?_
  rw[genB,hlen,decide_eq_false h6];exact Ev.now _
theorem Jg {p:Int} {Q:List (Int×Int×Int)} (h:genB p Q=true):gen3 (ptL p Q):=by
 obtain⟨hp,h6,ha,_⟩:=j7 h;refine qv3 λi j k hi hj hk=>?_;have hc:=(qa7 ha).2 i j k (by omega) hj hk;intro e;rw[colB,beq_eq_false_iff_ne]at hc;refine hc (Int.emod_eq_zero_of_dvd ?_);rw[<-qa0 hp];simp only[qct,qcp,qo5];simp only[ev3,qu,ptL,p3]at e
 grind
theorem qe4 {p:Int} {Q:List (Int×Int×Int)} (hp:zi p=true) (i:Nat) (hi:i < (basP p Q).length):((basP p Q).getD i []).length=10/\∀ x∈(basP p Q).getD i [],0<=x/\x < p:=by
 obtain⟨N,e,hN,_,_⟩:=Zr hp (qf4 hp Q);have hm:=Zw hi;rw[basP,e]at hm;obtain⟨z,hz,ez⟩:=List.mem_map.1 hm;rw[basP,e,<-ez];exact hN.ok z hz
def imgP (p:Int) (Q:List (Int×Int×Int)) (t:Int×Int×Int):List Int:=(basP p Q).map λr=>dotP p r (cubR p t)
theorem qea {p:Int} (hp:zi p=true) (Q:List (Int×Int×Int)) (t:Int×Int×Int):∀ x∈imgP p Q t,0<=x/\x < p:=λx hx=>by
 have hb:=zk hp;obtain⟨r,_,rfl⟩:=List.mem_map.1 hx;exact⟨Int.emod_nonneg _ (by omega),Int.emod_lt_of_pos _ (by omega)⟩
theorem qoz {p:Int} {Q:List (Int×Int×Int)} (hg:genB p Q=true) (t:Int×Int×Int) (ht:inP p t):Ev (λk=>jx.f k p (basP p Q) t.1 t.2.1 t.2.2) (imgP p Q t):=by
 obtain⟨hp,h6,_,_⟩:=j7 hg;have hb:=zk hp;have hl:=qcn hp h6 (Jg hg);have hrow:=λi hi=>qe4 (Q:=Q) hp i hi;have hend:imgP p Q t=((basP p Q).map λr=>dotP p r (cubR p t)):=rfl;generalize imgP p Q t=M at*;generalize basP p Q=B at*;have h0:∀ (d i:Nat) (acc:List Int),i+d=4->acc=(B.take i).map (λr=>dotP p r (cubR p t))->Ev (λk=>jx.l0 k p B acc (cubR p t) (i:Int)) M:=by
  intro d
  induction d with
  | zero=>
   intro i acc hi ha;rw[List.take_of_length_le (by omega),<-hend]at ha;subst ha;exact Ev.step (f:=λ_=>some acc) (λq=>by rw[jx.l0,if_neg (by omega)]) (Ev.now _)
  | succ d ih=>
   intro i acc hi ha;have hal:acc.length<=1000:=by rw[ha,List.length_map,List.length_take];omega
   have hd:=qr8 hp (B.getD i []) (cubR p t) (hrow i (by omega)) (qp2 hp t);refine Ev.step (λq=>by rw[jx.l0,if_pos (by omega),if_pos (by omega),qd1]) ?_;refine Ev.bind hd (Ev.yes (show acc.length < 17592186044416 by omega) ?_);rw[wsm (by omega) (by omega)];refine ih (i+1) _ (by omega) ?_;rw[ha,List.take_add_one,List.map_append,List.getD_eq_getElem?_getD,List.getElem?_eq_getElem (by omega)]
   rfl
 unfold jx.f;exact Ev.bind (qet (p:=p) ⟨by omega,by omega⟩ t ht) (h0 4 0 [] rfl rfl)
theorem qql {p:Int} (hp:zi p=true) (a:List Int) (t:Int×Int×Int):fi (nn p) (dotP p a (cubR p t))=valC (λj=>fi (nn p) (fn a j)) (p3 (nn p) t):=by
 rw[dotP,qir hp,qgy,<-qe8 hp];exact qay _ λj _=>by grind
theorem qh7 (l:List Int) (v:Int) (hlen:l.length<=1000000) (h:Nat) (hl:h < l.length) (hv:rd l (h:Int)=v) (hn:∀ j:Nat,j < h->rd l (j:Int)≠v):∀ (d i:Nat),i+d=h->Ev (λk=>qp.l0 k l v (l.length:Int) (i:Int)) (h:Int)
 | 0,i,e=>by
  obtain rfl:i=h:=by omega
  refine Ev.step (f:=λ_=>some (i:Int)) (λk=>?_) (Ev.now _);rw[qp.l0,if_pos (by omega),if_pos (by omega),if_pos (by omega),if_pos hv.symm]
 | d+1,i,e=>by
  refine Ev.step (f:=λk=>qp.l0 k l v (l.length:Int) ((i+1:Nat):Int)) (λk=>?_) (qh7 l v hlen h hl hv hn d (i+1) (by omega));rw[qp.l0,if_pos (by omega),if_pos (by omega),if_pos (by omega),if_neg (λe2=>hn i (by omega) e2.symm),wsm (by omega) (by omega)];rfl
theorem qhd (l:List Int) (v:Int) (hlen:l.length<=1000000) (hn:∀ j:Nat,j < l.length->rd l (j:Int)≠v):∀ (d i:Nat),i+d=l.length->Ev (λk=>qp.l0 k l v (l.length:Int) (i:Int)) (-1)
 | 0,i,e=>by
  refine Ev.step (f:=λ_=>some (-1)) (λk=>?_) (Ev.now _);rw[qp.l0,if_neg (by omega)]
 | d+1,i,e=>by
  refine Ev.step (f:=λk=>qp.l0 k l v (l.length:Int) ((i+1:Nat):Int)) (λk=>?_) (qhd l v hlen hn d (i+1) (by omega));rw[qp.l0,if_pos (by omega),if_pos (by omega),if_pos (by omega),if_neg (λe2=>hn i (by omega) e2.symm),wsm (by omega) (by omega)];rfl
theorem qsy (l:List Int) (v:Int) (hlen:l.length<=1000000) {h:Nat} (hl:h < l.length) (hv:rd l (h:Int)=v) (hn:∀ j:Nat,j < h->rd l (j:Int)≠v):Ev (λk=>qp.f k l v) (h:Int):=by
 unfold qp.f;exact qh7 l v hlen h hl hv hn h 0 (by omega)
theorem qm8 (l:List Int) (v:Int):∀ n:Nat,n<=l.length->(∃ h:Nat,h < n/\rd l (h:Int)=v/\∀ j:Nat,j < h->rd l (j:Int)≠v)\/∀ j:Nat,j < n->rd l (j:Int)≠v
 | 0,_=>.inr λj hj=>absurd hj (by omega)
 | n + 1, hn => by
  rcases qm8 l v n (by omega) with ⟨h,h1,h2,h3⟩|h
  ·exact .inl ⟨h,by omega,h2,h3⟩
  ·by_cases e:rd l (n:Int)=v
   ·exact .inl ⟨n,by omega,e,h⟩
   ·refine .inr λj hj=>?_
    rcases Nat.lt_succ_iff_lt_or_eq.1 hj with h1|h1
    ·exact h j h1
    ·rw[h1];exact e
theorem qnd (l:List Int) (v:Int) (hlen:l.length<=1000000):Ev (λk=>zf.f k l v) (decide (v∈l)):=by
 unfold zf.f qp.f
 rcases qm8 l v l.length (by omega) with ⟨h,h1,h2,h3⟩|h
 ·have hm:v∈l:=by rw[<-h2,Jo l h h1];exact List.getElem_mem _
  refine Ev.bind (qh7 l v hlen h h1 h2 h3 h 0 (by omega)) ?_;rw[decide_eq_true (show (h:Int)>=0 by omega),decide_eq_true hm];exact Ev.now _
 ·have hm:¬ v∈l:=λhm=>by
   obtain⟨j,hj,e⟩:=List.mem_iff_getElem.1 hm;exact h j hj (by rw[Jo l j hj];exact e)
  refine Ev.bind (qhd l v hlen h l.length 0 (by omega)) ?_;rw[decide_eq_false (show ¬ (-1:Int)>=0 by omega),decide_eq_false hm];exact Ev.now _
theorem qvj {p:Int} (hp:zi p=true) {x:Int} (h0:0<=x) (h1:x < p):qaf.f (wrap64 (-x)) p=some ((-x) % p):=by
  have hb:=zk hp;rw[qfz p _ (by omega),qcc ⟨by omega,by omega⟩ (by omega) (by omega)]
theorem qhw (P:List (Nat×List Int)) (i:Nat) (hi:i < P.length):zt (P.map Prod.snd) (i:Int)=(P[i]).2:=by
  simp[zt,List.getD_eq_getElem?_getD,hi]
theorem qop (P:List (Nat×List Int)) (i:Nat) (hi:i < P.length):rd (P.map λx=>(x.1:Int)) (i:Int)=((P[i]).1:Int):=by
  simp[rd,List.getD_eq_getElem?_getD,hi]
theorem qiw {p:Int} {w:Nat} {P:List (Nat×List Int)} (h:Rref p w P):P.length<=w:=by
  have h1:=Jx (P:=P) (Q:=(List.range w).map λc=>(c,([]:List Int))) h.inc (by rw[List.pairwise_map];exact List.pairwise_lt_range) (λx hx=>⟨(x.1,[]),List.mem_map.2 ⟨x.1,by simpa using h.lt x hx,rfl⟩,rfl⟩)
  simpa using h1
theorem qox {P:List (Nat×List Int)} (c:Nat):decide ((c:Int)∈P.map λx=>(x.1:Int))=!Ze P c:=by
  rw[Ze,Bool.not_not,Bool.eq_iff_iff,decide_eq_true_iff,List.any_eq_true];constructor
  · intro h
    obtain⟨x,hx,e⟩:=List.mem_map.1 h
    exact ⟨x, hx, by have : x.1 = c := by omega
                     simp[this]⟩
  · rintro⟨x,hx,e⟩
    exact List.mem_map.2 ⟨x, hx, by have : x.1 = c := by simpa using e
                                    omega⟩
theorem qjk {p:Int} {w:Nat} (hw:w<=1000) {P:List (Nat×List Int)} (h:Rref p w P) {R:List (List Int)} (hend:Ev (λk=>qk.l1 k p (w:Int) (P.map Prod.snd) (P.map λx=>(x.1:Int)) [] (w:Int) 0) R):∀ (d i:Nat),i+d=P.length->
    Ev (λk=>qk.l0 k p (w:Int) (P.map Prod.snd) ((P.map λx=>(x.1:Int)).take i) (P.map Prod.snd) ((P.map Prod.snd).length:Int) (i:Int)) R
  | 0,i,e=>by
    refine Ev.step (f:=λk=>qk.l1 k p (w:Int) (P.map Prod.snd) (P.map λx=>(x.1:Int)) [] (w:Int) 0) (λk=>?_) hend;rw[qk.l0,if_neg (by rw[List.length_map];omega),List.take_of_length_le (by rw[List.length_map];omega)]
  | d + 1, i, e => by
    have hi:i < P.length:=by omega
    have hle:=qiw h;have ih:=qjk hw h hend d (i+1) (by omega);have hm:=List.getElem_mem hi;refine Ev.step (λk=>by rw[qk.l0,if_pos (by rw[List.length_map];omega),if_pos (by omega),if_pos (by rw[List.length_map];omega),qhw P i hi]) ?_;have hlen:=(h.ok _ hm).1;refine Ev.bind (qsy (P[i]).2 1 (by omega) (h:=(P[i]).1) (by rw[hlen];exact h.lt _ hm) (h.one _ hm) (λj hj=>by
      have:=h.low _ hm j hj
      rw[fn]at this;rw[this];decide)) (Ev.yes (by simp;omega) ?_)
    rw[wsm (by omega) (by omega),show ((P.map λx=>(x.1:Int)).take i)++[((P[i]).1:Int)]=(P.map λx=>(x.1:Int)).take (i+1) by
      rw[List.take_add_one,List.getElem?_map,List.getElem?_eq_getElem hi];rfl]
    exact ih
theorem qpg {p:Int} (hp:zi p=true) {w:Nat} (hw:w<=1000) {P:List (Nat×List Int)} (h:Rref p w P) {c:Nat} (hc:c < w) {O:List (List Int)} (hO:O.length<=1000) {R:List (List Int)}:∀ (d i:Nat) (v V:List Int),i+d=P.length->v.length=w->J4 p c (P.drop i) v=V->
    Ev (λk=>qk.l1 k p (w:Int) (P.map Prod.snd) (P.map λx=>(x.1:Int)) (O++[V]) (w:Int) ((c+1:Nat):Int)) R->
    Ev (λk=>qk.l2 k p (w:Int) (P.map Prod.snd) (P.map λx=>(x.1:Int)) O (c:Int) v (w:Int) (c:Int) (P.map Prod.snd) ((P.map Prod.snd).length:Int) (i:Int)) R
  | 0,i,v,V,e,hv,hV,hend=>by
    rw[List.drop_eq_nil_of_le (by omega),J4]at hV;subst hV;refine Ev.step (λk=>by rw[qk.l2,if_neg (by rw[List.length_map];omega),if_pos (by omega),wsm (by omega) (by omega)]) ?_
    simpa using hend
  | d+1,i,v,V,e,hv,hV,hend=>by
    have hi:i < P.length:=by omega
    have hle:=qiw h;have hm:=List.getElem_mem hi;have hlen:=(h.ok _ hm).1;have hlt:=h.lt _ hm;have hr:=Zi (h.ok _ hm) c hc;rw[fn]at hr;rw[List.drop_eq_getElem_cons hi,J4]at hV;refine Ev.step (λk=>by rw[qk.l2,if_pos (by rw[List.length_map];omega),if_pos (by omega),if_pos (by rw[List.length_map];omega),if_pos (by rw[List.length_map];omega),if_pos (by omega),qhw P i hi,if_pos (by omega),qop P i hi,qvj hp hr.1 hr.2]) ?_;refine Ev.bind (a:=(-(rd (P[i]).2 (c:Int))) % p) (Ev.now _) (Ev.yes (by omega) (Ev.yes (by omega) ?_));have ih:=qpg hp hw h hc hO d (i+1) (v.set (P[i]).1 ((-(rd (P[i]).2 (c:Int))) % p)) V (by omega) (by rw[List.length_set];exact hv) hV hend;rw[wsm (by omega) (by omega)]
    simpa using ih
theorem qiu {p:Int} (hp:zi p=true) {w:Nat} (hw:w<=1000) {P:List (Nat×List Int)} (h:Rref p w P):∀ (d c:Nat) (O:List (List Int)),c+d=w->O=(((List.range c).filter (Ze P)).map (Z8 p w P))->
    Ev (λk=>qk.l1 k p (w:Int) (P.map Prod.snd) (P.map λx=>(x.1:Int)) O (w:Int) (c:Int)) (redP p w 0 (J2 p w P) [])
  | 0,c,O,e,hO=>by
    obtain rfl:c=w:=by omega
    have hb:=zk hp;refine Ev.step (λk=>by rw[qk.l1,if_neg (by omega)]) ?_;have hlen:O.length < 1000000:=by
      rw[hO,List.length_map]
      have:=List.length_filter_le (Ze P) (List.range c)
      simp at this;omega
    have hok:=qci (p:=p) (by omega) h;subst hO;exact Ev.bind (qdg hp (w:=c) _ (by omega) hlen hok) (Ev.now _)
  | d + 1, c, O, e, hO => by
    have hle:=qiw h;have hOl:O.length<=1000:=by
      rw[hO,List.length_map]
      have:=List.length_filter_le (Ze P) (List.range c)
      simp at this;omega
    have hsucc:(List.range (c+1)).filter (Ze P)=(List.range c).filter (Ze P)++(if Ze P c=true then [c] else []):=by
      rw[List.range_succ,List.filter_append]
      congr 1
      cases hf:Ze P c<;>simp[hf]
    refine Ev.step (λk=>by rw[qk.l1,if_pos (by omega)]) ?_;refine Ev.bind (qnd _ (c:Int) (by rw[List.length_map];omega)) ?_;rw[qox]
    cases hf:Ze P c with
    | false=>
      refine Ev.yes rfl ?_;rw[wsm (by omega) (by omega)];exact qiu hp hw h d (c+1) O (by omega) (by rw[hsucc,hf,hO];simp)
    | true=>
      refine Ev.no (by simp) (Ev.yes (by omega) (Ev.yes (by omega) (Ev.bind (a:=List.replicate w 0) (by simpa using Ev.now (List.replicate w (0:Int))) (Ev.yes (by omega) (Ev.yes (by simp;omega) ?_)))));have hend:=qiu hp hw h d (c+1) (O++[Z8 p w P c]) (by omega) (by rw[hsucc,hf,hO];simp)
      have:=qpg hp hw h (c:=c) (by omega) hOl (R:=redP p w 0 (J2 p w P) []) P.length 0 ((List.replicate w 0).set c 1) (Z8 p w P c) (by omega) (by simp) (by rw[List.drop_zero];rfl) hend
      simpa using this
theorem qbt {p:Int} (hp:zi p=true) {w:Nat} (hw:w<=1000) (L:List (List Int)) (hl:L.length < 1000000) (hL:∀ r∈L,r.length=w):Ev (λk=>qk.f k p L (w:Int)) (Jd p w (L.map λr=>r.map (modV p))):=by
  have hb:=zk hp;have hok:okR p w (L.map λr=>r.map (modV p)):=λx hx=>by
    obtain⟨r,hr,rfl⟩:=List.mem_map.1 hx;refine⟨by rw[List.length_map,hL r hr],λy hy=>?_⟩;obtain⟨z,_,rfl⟩:=List.mem_map.1 hy;have h2:=qg7 (p:=p) (by omega) z;rw[modV,wsm (by omega) (by omega),Int.tmod_eq_emod_of_nonneg (by omega)];exact⟨Int.emod_nonneg _ (by omega),Int.emod_lt_of_pos _ (by omega)⟩
  obtain⟨e1,_,hP,_,_⟩:=qa8 hp hok;unfold qk.f;refine Ev.bind (qe2 hp L (by omega) hl hL) ?_;rw[e1];have h:=qjk (p:=p) hw hP (qiu hp hw hP w 0 [] (by omega) (by simp)) (qau p w (L.map λr=>r.map (modV p))).length 0 (by omega)
  simpa [Jd] using h
theorem qk1 {p:Int} (hp:zi p=true) {w:Nat} (hw:w<=1000) (L:List (List Int)) (hl:L.length < 1000000) (hL:okR p w L):Ev (λk=>qk.f k p L (w:Int)) (Jd p w L):=by
  have h:=qbt hp hw L hl (λr hr=>(hL r hr).1);have e:(L.map λr=>r.map (modV p))=L:=by
    rw[List.map_congr_left (g:=id)]
    · simp
    · intro r hr
      rw[List.map_congr_left (g:=id)]
      · simp
      · intro x hx;have:=(hL r hr).2 x hx;exact qj0 hp this.1 this.2
  rwa [e]at h
theorem qp6 :Ev (λk=>zg.f k) powL:=Ev.of zg.mono (k:=40) (by kernel_rfl)
theorem qbr {p x:Int} (hp:p<=31) (hx:0<=x/\x < p):∀ n:Nat,n<=3->0<=x ^ n/\x ^ n<=27000:=by
 intro n hn;have h2:0<=x*x/\x*x<=900:=qc6 hp hx.1 hx.2 hx.1 hx.2;have h3:0<=x*x*x/\x*x*x<=900*30:=⟨Int.mul_nonneg h2.1 hx.1,Int.mul_le_mul h2.2 (by omega) hx.1 (by omega)⟩
 rcases (show n=0\/n=1\/n=2\/n=3 by omega) with rfl|rfl|rfl|rfl
 ·rw[Int.pow_zero];omega
 ·rw[Int.pow_succ,Int.pow_zero,Int.one_mul];omega
 ·rw[Int.pow_succ,Int.pow_succ,Int.pow_zero,Int.one_mul];omega
 ·rw[Int.pow_succ,Int.pow_succ,Int.pow_succ,Int.pow_zero,Int.one_mul];omega
theorem qcy {p x:Int} (hp:p<=31) (hx:0<=x/\x < p) (n:Nat) (hn:n<=3):Ev (λk=>jp.f k x (n:Int)) (x ^ n):=by
 have h0:∀ (d i:Nat),i+d=n->Ev (λk=>jp.l0 k x (x ^ i) (n:Int) (i:Int)) (x ^ n):=by
  intro d
  induction d with
  | zero=>
   intro i hi;obtain rfl:i=n:=by omega
   exact Ev.step (f:=λ_=>some (x ^ i)) (λq=>by rw[jp.l0,if_neg (by omega)]) (Ev.now _)
  | succ d ih=>
   intro i hi
   have:=qbr hp hx (i+1) (by omega)
   rw[Int.pow_succ]at this;refine Ev.step (λq=>by rw[jp.l0,if_pos (by omega),wsm (i:=x ^ i*x) (by omega) (by omega),wsm (by omega) (by omega)]) ?_;have h:=ih (i+1) (by omega);rwa [Int.pow_succ]at h
 unfold jp.f
 have:=h0 n 0 (by omega)
 rwa [Int.pow_zero]at this
def monI (t:Int×Int×Int) (i:Nat):Int:=t.1 ^ (powN.getD i (0,0,0)).1*t.2.1 ^ (powN.getD i (0,0,0)).2.1*t.2.2 ^ (powN.getD i (0,0,0)).2.2
def cubI (t:Int×Int×Int):List Int:=(List.range 10).map (monI t)
theorem qpf {x y z:Int} (hx:0<=x/\x<=27000) (hy:0<=y/\y<=27000) (hz:0<=z/\z<=27000):(0<=x*y/\x*y<=729000000)/\0<=x*y*z/\x*y*z<=19683000000000:=by
 have h1:0<=x*y/\x*y<=27000*27000:=⟨Int.mul_nonneg hx.1 hy.1,Int.mul_le_mul hx.2 hy.2 hy.1 (by omega)⟩
 have h2:0<=x*y*z/\x*y*z<=729000000*27000:=⟨Int.mul_nonneg h1.1 hz.1,Int.mul_le_mul (by omega) hz.2 hz.1 (by omega)⟩
 omega
theorem qmi {p:Int} (hp:p<=31) (t:Int×Int×Int) (ht:inP p t):Ev (λk=>jk.f k t.1 t.2.1 t.2.2) (cubI t):=by
 obtain⟨a0,a1,a2⟩:=ht;have h0:∀ (d i:Nat) (acc:List Int),i+d=10->acc=(List.range i).map (monI t)->Ev (λq=>jk.l0 q acc powL (powL.length:Int) (i:Int) t.1 t.2.1 t.2.2) (cubI t):=by
  intro d
  induction d with
  | zero=>
   intro i acc hi ha;obtain rfl:i=10:=by omega
   subst ha;exact Ev.step (f:=λ_=>some (cubI t)) (λq=>by rw[jk.l0,if_neg (by simp[powL])];rfl) (Ev.now _)
  | succ d ih=>
   intro i acc hi ha;obtain⟨e0,e1,e2,l0,l1,l2⟩:=qee i (by omega);have hal:acc.length<=1000:=by rw[ha,List.length_map,List.length_range];omega
   have hpl:(powL.length:Int)=10:=rfl;have b0:=qbr hp a0 _ l0;have b1:=qbr hp a1 _ l1;have b2:=qbr hp a2 _ l2;obtain⟨c1,c2⟩:=qpf b0 b1 b2;refine Ev.step (λq=>by rw[jk.l0,if_pos (by omega),if_pos (by omega),if_pos (by omega),e0,e1,e2]) ?_;refine(Ev.bind (qcy hp a0 _ l0) (Ev.bind (qcy hp a1 _ l1) (Ev.bind (qcy hp a2 _ l2) ?_)));refine Ev.yes (show acc.length < 17592186044416 by omega) ?_;rw[wsm (i:=t.1 ^ (powN.getD i (0,0,0)).1*t.2.1 ^ (powN.getD i (0,0,0)).2.1) (by omega) (by omega),wsm (i:=t.1 ^ (powN.getD i (0,0,0)).1*t.2.1 ^ (powN.getD i (0,0,0)).2.1*t.2.2 ^ (powN.getD i (0,0,0)).2.2) (by omega) (by omega),wsm (by omega) (by omega)];refine ih (i+1) _ (by omega) ?_;rw[ha,List.range_succ,List.map_append]
   rfl
 unfold jk.f;exact Ev.bind qp6 (h0 10 0 [] rfl rfl)
theorem qln {p:Int} (hp:p<=31) {t:Int×Int×Int} (ht:inP p t) (i:Nat) (hi:i < 10):0<=monI t i/\monI t i<=19683000000000:=by
 obtain⟨a0,a1,a2⟩:=ht;obtain⟨_,_,_,l0,l1,l2⟩:=qee i hi;exact(qpf (qbr hp a0 _ l0) (qbr hp a1 _ l1) (qbr hp a2 _ l2)).2
theorem qd9 {p x:Int} (hp:7<=p/\p<=31) (h0:0<=x):modV p x=x % p:=by
 have h2:=qg7 (p:=p) (by omega) x;rw[modV,wsm (by omega) (by omega),Int.tmod_eq_emod_of_nonneg (a:=x) (by omega)]
 have:=Int.emod_nonneg x (show p≠0 by omega)
 have:=Int.emod_lt_of_pos x (show (0:Int) < p by omega)
 rw[Int.tmod_eq_emod_of_nonneg (by omega),Int.add_emod_right,Int.emod_emod]
theorem qnh {p:Int} (hp:7<=p/\p<=31) {t:Int×Int×Int} (ht:inP p t):(cubI t).map (modV p)=cubR p t:=by
 rw[cubI,List.map_map,<-qmr];refine List.map_congr_left λi hi=>?_;exact qd9 hp (qln hp.2 ht i (List.mem_range.1 hi)).1
theorem qri {p:Int} (hp:zi p=true) (l:List S51) (hl:l.length<=1000) (hin:∀ j,j < l.length->inP p ((tps l).getD j (0,0,0))):Ev (λk=>Qf.f k p l) (basP p (tps l)):=by
 have hb:=zk hp;have hlen:(tps l).length=l.length:=by simp[tps]
 have h0:∀ (d i:Nat) (acc:List (List Int)),i+d=l.length->acc=((tps l).take i).map cubI->Ev (λq=>Qf.l0 q p acc l (l.length:Int) (i:Int)) (basP p (tps l)):=by
  intro d
  induction d with
  | zero=>
   intro i acc hi ha;rw[List.take_of_length_le (by omega)]at ha;subst ha;have hs:=qbt hp (w:=10) (by omega) ((tps l).map cubI) (by rw[List.length_map];omega) (λr hr=>by obtain⟨t,_,rfl⟩:=List.mem_map.1 hr;simp[cubI]);have e:(((tps l).map cubI).map λr=>r.map (modV p))=(tps l).map (cubR p):=by
    rw[List.map_map];refine List.map_congr_left λt ht=>?_;obtain⟨j,hj,rfl⟩:=List.getElem_of_mem ht
    have:=hin j (by omega)
    rw[List.getD_eq_getElem?_getD,List.getElem?_eq_getElem hj]at this;exact qnh ⟨by omega,by omega⟩ this
   rw[e]at hs;refine Ev.step (λq=>by rw[Qf.l0,if_neg (by omega)]) ?_;exact Ev.bind hs (Ev.now _)
  | succ d ih=>
   intro i acc hi ha;have hil:i < l.length:=by omega
   have hal:acc.length<=1000:=by rw[ha,List.length_map,List.length_take];omega
   have e:=qbg l i hil;have hc:=qmi (p:=p) (by omega) _ (hin i hil);rw[<-e]at hc;refine Ev.step (λq=>by rw[Qf.l0,if_pos (by omega),if_pos (by omega),if_pos (by omega)]) ?_;refine Ev.bind hc (Ev.yes (show acc.length < 5864062014805 by omega) ?_);rw[wsm (by omega) (by omega)];refine ih (i+1) _ (by omega) ?_;rw[ha,List.take_add_one,List.map_append,e,List.getD_eq_getElem?_getD,List.getElem?_eq_getElem (by omega)]
   rfl
 unfold Qf.f;exact h0 l.length 0 [] (by omega) (by simp)
theorem qsq {p:Int} (hp:7<=p/\p<=31) {t:Int×Int×Int} (ht:inP p t) (j:Nat) (hj:j < 10):fn (cubR p t) j=fn (cubI t) j % p:=by
 rw[<-qnh hp ht];have hl:j < (cubI t).length:=by simp[cubI];omega
 have e1:fn ((cubI t).map (modV p)) j=modV p (fn (cubI t) j):=by
  simp[fn,rd,List.getD_eq_getElem?_getD,List.getElem?_eq_getElem hl]
 have e2:fn (cubI t) j=monI t j:=by simp[fn,rd,cubI,List.getD_eq_getElem?_getD,hj]
 rw[e1,e2,qd9 hp (qln hp.2 ht j hj).1]
theorem qv6 {p:Int} (hp:zi p=true) (a:List Int) (ha:a.length=10/\∀ x∈a,0<=x/\x < p) {t:Int×Int×Int} (ht:inP p t):Ev (λk=>j4.f k p a (cubI t)) (dotP p a (cubR p t)):=by
 have hb:=zk hp;have la:=ha.1;have lb:(cubI t).length=10:=by simp[cubI]
 have hend:dotP p a (cubR p t)=modV p (dt 10 (fn a) (fn (cubI t)))/\True:=by
  refine⟨?_,trivial⟩;have hn:0<=dt 10 (fn a) (fn (cubI t)):=by
   have:∀ w,w<=10->0<=dt w (fn a) (fn (cubI t)):=by
    intro w
    induction w with
    | zero=>intro _;rw[qdl];omega
    | succ w ih=>
     intro hw;have b1:=Zi ha w (by omega);have b2:fn (cubI t) w=monI t w:=by simp[fn,rd,cubI,List.getD_eq_getElem?_getD,show w < 10 by omega]
     have b3:=qln (p:=p) (by omega) ht w (by omega);have b4:=Int.mul_nonneg b1.1 (b2 ▸ b3.1)
     have:=ih (by omega)
     rw[qaq];omega
   exact this 10 (by omega)
  rw[qd9 ⟨by omega,by omega⟩ hn,dotP];refine Int.emod_emod_of_dvd _ (Int.dvd_refl p) ▸ ?_;have hc:=qkq (p:=p) (w:=10) (u:=fn a) (u':=fn a) (v:=fn (cubI t)) (v':=fn (cubR p t)) (λj _=>by simp) (λj hj=>by rw[qsq ⟨by omega,by omega⟩ ht j hj];exact Je _ _);exact(Int.emod_emod_of_dvd _ (Int.dvd_refl p)).trans (Int.emod_eq_emod_iff_emod_sub_eq_zero.2 (Int.emod_eq_zero_of_dvd hc)).symm
 have hl:∀ (d i:Nat),i+d=10->0<=dt i (fn a) (fn (cubI t))->dt i (fn a) (fn (cubI t))<=i*1000000000000000->Ev (λk=>j4.l0 k p (cubI t) (dt i (fn a) (fn (cubI t))) a (a.length:Int) (i:Int)) (dotP p a (cubR p t)):=by
  intro d
  induction d with
  | zero=>
   intro i hi _ _;obtain rfl:i=10:=by omega
   exact Ev.step (f:=λ_=>some (dotP p a (cubR p t))) (λq=>by rw[j4.l0,if_neg (by omega),qfz p _ (by omega),<-hend.1];rfl) (Ev.now _)
  | succ d ih=>
   intro i hi h0 h1;have b1:=Zi ha i (by omega);have b2:fn (cubI t) i=monI t i:=by simp[fn,rd,cubI,List.getD_eq_getElem?_getD,show i < 10 by omega]
   have b3:=qln (p:=p) (by omega) ht i (by omega);rw[<-b2]at b3;have b4:0<=fn a i*fn (cubI t) i:=Int.mul_nonneg b1.1 b3.1;have b5:fn a i*fn (cubI t) i<=31*19683000000000:=Int.mul_le_mul (by omega) b3.2 b3.1 (by omega);have r1:rd a (i:Int)=fn a i:=rfl;have r2:rd (cubI t) (i:Int)=fn (cubI t) i:=rfl;refine Ev.step (λq=>by rw[j4.l0,if_pos (by omega),if_pos (by omega),if_pos (by omega),if_pos (by omega),r1,r2,wsm (i:=fn a i*fn (cubI t) i) (by omega) (by omega),<-qaq,wsm (i:=dt (i+1) (fn a) (fn (cubI t))) (by rw[qaq];omega) (by rw[qaq];omega),wsm (by omega) (by omega)]) ?_;exact ih (i+1) (by omega) (by rw[qaq];omega) (by rw[qaq];omega)
 unfold j4.f
 have:=hl 10 0 rfl (by rw[qdl];omega) (by rw[qdl];omega)
 rwa [qdl]at this
theorem qoh {p:Int} {Q:List (Int×Int×Int)} (hg:genB p Q=true) (t:Int×Int×Int) (ht:inP p t):Ev (λk=>Qb.f k p (basP p Q) t.1 t.2.1 t.2.2) (monP p (imgP p Q t)):=by
 obtain⟨hp,h6,_,_⟩:=j7 hg;have hb:=zk hp;have hl:=qcn hp h6 (Jg hg);have hrow:=λi hi=>qe4 (Q:=Q) hp i hi;have hend:imgP p Q t=((basP p Q).map λr=>dotP p r (cubR p t)):=rfl;have hrg:=qea hp Q t;have hml:(imgP p Q t).length=4:=by rw[imgP,List.length_map,hl]
 generalize imgP p Q t=M at*;generalize basP p Q=B at*;have h0:∀ (d i:Nat) (acc:List Int),i+d=4->acc=(B.take i).map (λr=>dotP p r (cubR p t))->Ev (λk=>Qb.l0 k p acc B (B.length:Int) (i:Int) t.1 t.2.1 t.2.2) (monP p M):=by
  intro d
  induction d with
  | zero=>
   intro i acc hi ha;rw[List.take_of_length_le (by omega),<-hend]at ha;subst ha;have hm:=qmc hp acc (by omega) λx hx=>by have:=hrg x hx;omega
   have e:acc.map (λx=>x % p)=acc:=by
    rw[List.map_congr_left (g:=id)]
    ·simp
    ·intro x hx;have:=hrg x hx;exact Int.emod_eq_of_lt this.1 this.2
   rw[e]at hm;refine Ev.step (λq=>by rw[Qb.l0,if_neg (by omega)]) ?_;exact Ev.bind hm (Ev.now _)
  | succ d ih=>
   intro i acc hi ha;have hal:acc.length<=1000:=by rw[ha,List.length_map,List.length_take];omega
   have hd:=qv6 hp (B.getD i []) (hrow i (by omega)) ht;refine Ev.step (λq=>by rw[Qb.l0,if_pos (by omega),if_pos (by omega),if_pos (by omega),qd1]) ?_;refine Ev.bind (qmi (p:=p) (by omega) t ht) (Ev.bind hd (Ev.yes (show acc.length < 17592186044416 by omega) ?_));rw[wsm (by omega) (by omega)];refine ih (i+1) _ (by omega) ?_;rw[ha,List.take_add_one,List.map_append,List.getD_eq_getElem?_getD,List.getElem?_eq_getElem (by omega)]
   rfl
 unfold Qb.f;exact h0 4 0 [] rfl rfl
theorem quy {p:Int} (hp:zi p=true) {L:List (List Int)} (hL:okR p 4 L) (hl:L.length < 1000000):Ev (λk=>Js.f k p L) (if Qx p 4 L=2 then (Jj p 4 L,true) else ([],false)):=by
 unfold Js.f;have hb:=zk hp;refine Ev.bind (qbx hp (w:=4) (by omega) L hL hl) ?_;have hro:=qcm (p:=p) (by omega) 4 0 L [] hL (J8 p 4);have hrk:Qx p 4 L=(redP p 4 0 L []).length:=rfl;have hsp:Jj p 4 L=(redP p 4 0 L []).flatten:=rfl;rw[hrk,hsp];generalize redP p 4 0 L []=M at*
 by_cases h2:M.length=2
 ·match M,h2 with
  | [x,y],h2=>
   have hx:=(hro x (by simp)).1;have hy:=(hro y (by simp)).1;have hend:Ev (λ_=>some (x++y,true)) (if [x,y].length=2 then ([x,y].flatten,true) else ([],false)):=by
    rw[if_pos h2];simp only[List.flatten_cons,List.flatten_nil,List.append_nil];exact Ev.now _
   exact Ev.yes h2 (Ev.yes ⟨by show x.length < _;omega,by show y.length < _;omega⟩ hend)
 ·refine Ev.no h2 ?_
  rw[if_neg h2];exact Ev.now _
def dmo (x v:Int×Int×Int) (e:Nat×Nat×Nat):Int:=
 (e.1:Int)*v.1*(x.1 ^ (e.1 - 1)*x.2.1 ^ e.2.1*x.2.2 ^ e.2.2)+(e.2.1:Int)*v.2.1*(x.1 ^ e.1*x.2.1 ^ (e.2.1 - 1)*x.2.2 ^ e.2.2)+(e.2.2:Int)*v.2.2*(x.1 ^ e.1*x.2.1 ^ e.2.1*x.2.2 ^ (e.2.2 - 1))
def slpS (a:List Int) (x v:Int×Int×Int):Nat->Nat->Int
 | 0,_=>0
 | d+1,i=>rd a (i:Int)*dmo x v (powN.getD i (0,0,0))+slpS a x v d (i+1)
def slpP (p:Int) (a:List Int) (x v:Int×Int×Int):Int:=slpS a x v 10 0 % p
theorem qkg {p:Int} (hp:7<=p/\p<=31) (A B:Int):Int.tmod (wrap64 (A % p*(B % p))) p=A*B % p:=by
 have hm:=Q1 hp (x:=A % p) (y:=B % p) ⟨Int.emod_nonneg _ (by omega),Int.emod_lt_of_pos _ (by omega)⟩ ⟨Int.emod_nonneg _ (by omega),Int.emod_lt_of_pos _ (by omega)⟩;rw[wsm (by omega) (by omega),Int.tmod_eq_emod_of_nonneg hm.1,<-Int.mul_emod]
theorem DR {p:Int} (hp:7<=p/\p<=31) (A B:Int):Int.tmod (wrap64 (A % p+B % p)) p=(A+B) % p:=by
 have h1:0<=A % p/\A % p < p:=⟨Int.emod_nonneg _ (by omega),Int.emod_lt_of_pos _ (by omega)⟩
 have h2:0<=B % p/\B % p < p:=⟨Int.emod_nonneg _ (by omega),Int.emod_lt_of_pos _ (by omega)⟩
 rw[wsm (by omega) (by omega),Int.tmod_eq_emod_of_nonneg (by omega),<-Int.add_emod]
theorem Du {p:Int} (hp:7<=p/\p<=31) {x:Int×Int×Int} (hx:inP p x) (n0:Int) (a0 a1 a2:Nat) (h0:a0<=3) (h1:a1<=3) (h2:a2<=3):Ev (λk=>slC k p x.1 x.2.1 x.2.2 (a0:Int) (a1:Int) (a2:Int) 3 0 (n0 % p)) (n0*(x.1 ^ a0*x.2.1 ^ a1*x.2.2 ^ a2) % p):=by
 refine Ev.bind (a:=x.1 ^ a0 % p) (qbo hp hx.1 a0 h0) ?_;rw[qkg hp];refine Ev.bind (a:=x.2.1 ^ a1 % p) (qbo hp hx.2.1 a1 h1) ?_;rw[qkg hp];refine Ev.bind (a:=x.2.2 ^ a2 % p) (qbo hp hx.2.2 a2 h2) ?_;rw[qkg hp,show n0*(x.1 ^ a0*x.2.1 ^ a1*x.2.2 ^ a2)=n0*x.1 ^ a0*x.2.1 ^ a1*x.2.2 ^ a2 by simp only[Int.mul_assoc]];exact Ev.now _
theorem D7 {p:Int} (hp:7<=p/\p<=31) {x:Int×Int×Int} (hx:inP p x) (ai vj:Int) (hai:0<=ai/\ai < p) (hv:0<=vj/\vj < p) (e:Nat) (he:e<=3) (a0 a1 a2:Nat) (h0:a0<=3) (h1:a1<=3) (h2:a2<=3):Ev (λk=>slT k p ai vj (e:Int) x.1 x.2.1 x.2.2 (a0:Int) (a1:Int) (a2:Int)) (ai*((e:Int)*vj*(x.1 ^ a0*x.2.1 ^ a1*x.2.2 ^ a2)) % p):=by
 unfold slT;have hm:=Q1 hp (x:=(e:Int)) (y:=ai) (by omega) hai;have e1:Int.tmod (wrap64 ((e:Int)*ai)) p=(e:Int)*ai % p:=by
  rw[wsm (by omega) (by omega),Int.tmod_eq_emod_of_nonneg hm.1]
 have e2:Int.tmod (wrap64 (Int.tmod (wrap64 ((e:Int)*ai)) p*vj)) p=(e:Int)*ai*vj % p:=by
  rw[e1]
  have:=qkg hp ((e:Int)*ai) vj
  rw[Int.emod_eq_of_lt hv.1 hv.2]at this;exact this
 rw[e2,show ai*((e:Int)*vj*(x.1 ^ a0*x.2.1 ^ a1*x.2.2 ^ a2))=(e:Int)*ai*vj*(x.1 ^ a0*x.2.1 ^ a1*x.2.2 ^ a2) by simp only[Int.mul_assoc,Int.mul_left_comm,Int.mul_comm]];exact Du hp hx _ a0 a1 a2 h0 h1 h2
theorem qkd {p:Int} (hp:7<=p/\p<=31) {x:Int×Int×Int} (hx:inP p x) {ai v0 v1 v2 vj n0 e0 e1 e2 r:Int} {d j:Nat} (hai:0<=ai/\ai < p) (hv:0<=vj/\vj < p) (ev:slE v0 v1 v2 j=vj) (e a0 a1 a2:Nat) (ee:slE e0 e1 e2 j=(e:Int)) (he:e<=3) (h0:a0<=3) (h1:a1<=3) (h2:a2<=3)
  (hl:e≠0->slL e0 0 j=(a0:Int)/\slL e1 1 j=(a1:Int)/\slL e2 2 j=(a2:Int))
  (h:Ev (λk=>slJ k p ai x.1 x.2.1 x.2.2 v0 v1 v2 e0 e1 e2 d (j+1) ((n0+ai*((e:Int)*vj*(x.1 ^ a0*x.2.1 ^ a1*x.2.2 ^ a2))) % p)) r):Ev (λk=>slJ k p ai x.1 x.2.1 x.2.2 v0 v1 v2 e0 e1 e2 (d+1) j (n0 % p)) r:=by
 simp only[slJ,ee,ev]
 by_cases hz:e=0
 ·subst hz
  simp only[Int.natCast_zero,Int.zero_mul,Int.mul_zero,Int.add_zero]at h
  simpa using h
 ·obtain⟨l0,l1,l2⟩:=hl hz
  have hz':¬ ((e:Int)=0):=by omega
  simp only[if_neg hz',l0,l1,l2];refine Ev.bind (D7 hp hx ai vj hai hv e he a0 a1 a2 h0 h1 h2) ?_;rw[DR hp];exact h
theorem DV {p:Int} (hp:7<=p/\p<=31) {x v:Int×Int×Int} (hx:inP p x) (hv:inP p v) (ai n0:Int) (hai:0<=ai/\ai < p) (e:Nat×Nat×Nat) (h0:e.1<=3) (h1:e.2.1<=3) (h2:e.2.2<=3):Ev (λk=>slJ k p ai x.1 x.2.1 x.2.2 v.1 v.2.1 v.2.2 (e.1:Int) (e.2.1:Int) (e.2.2:Int) 3 0 (n0 % p)) ((n0+ai*dmo x v e) % p):=by
 have low:∀ n:Nat,n<=3->n≠0->wrap64 ((n:Int) - 1)=((n - 1:Nat):Int):=λn h hn=>by rw[wsm (by omega) (by omega)];omega
 refine qkd hp hx hai hv.1 rfl e.1 (e.1 - 1) e.2.1 e.2.2 rfl h0 (by omega) h1 h2 (λh=>⟨low _ h0 h,rfl,rfl⟩) ?_;refine qkd hp hx hai hv.2.1 rfl e.2.1 e.1 (e.2.1 - 1) e.2.2 rfl h1 h0 (by omega) h2 (λh=>⟨rfl,low _ h1 h,rfl⟩) ?_;refine qkd hp hx hai hv.2.2 rfl e.2.2 e.1 e.2.1 (e.2.2 - 1) rfl h2 h0 h1 (by omega) (λh=>⟨rfl,rfl,low _ h2 h⟩) ?_;simp only[slJ,dmo,Int.mul_add,Int.add_assoc];exact Ev.now _
theorem qt5 {p:Int} (hp:7<=p/\p<=31) {x v:Int×Int×Int} (hx:inP p x) (hv:inP p v) (a:List Int) (ha:a.length=10/\∀ x∈a,0<=x/\x < p):∀ (d i:Nat) (n0:Int),i+d=10->Ev (λk=>slI k p a x.1 x.2.1 x.2.2 v.1 v.2.1 v.2.2 powL d i (n0 % p)) ((n0+slpS a x v d i) % p)
 | 0,i,n0,_=>by
  simp only[slI,slpS,Int.add_zero];exact Ev.now _
 | d + 1, i, n0, h => by
  have hi:i < a.length:=by omega
  have hr:0<=rd a (i:Int)/\rd a (i:Int) < p:=by
   refine ha.2 _ ?_;rw[show rd a (i:Int)=a[i] by unfold rd;rw[Int.toNat_natCast,List.getD_eq_getElem?_getD,List.getElem?_eq_getElem hi];rfl];exact List.getElem_mem hi
  obtain⟨e0,e1,e2,b0,b1,b2⟩:=qee i (by omega);simp only[slI,if_pos hi,e0,e1,e2];refine Ev.bind (DV hp hx hv (rd a (i:Int)) n0 hr (powN.getD i (0,0,0)) b0 b1 b2) ?_;rw[slpS,<-Int.add_assoc];exact qt5 hp hx hv a ha d (i+1) _ (by omega)
theorem qod {p:Int} (hp:7<=p/\p<=31) {x v:Int×Int×Int} (hx:inP p x) (hv:inP p v) (a:List Int) (ha:a.length=10/\∀ x∈a,0<=x/\x < p):Ev (λk=>j8.f k p a x.1 x.2.1 x.2.2 v.1 v.2.1 v.2.2) (slpP p a x v):=by
 have h:=qt5 hp hx hv a ha 10 0 0 rfl;rw[Int.zero_add,Int.zero_emod]at h;unfold j8.f;simp only[qgh,Option.bind_some,if_pos (show powL.length=10/\p≠0 from ⟨rfl,by omega⟩)];exact h
def allP (p:Nat):List (Int×Int×Int):=(0,0,1) :: ((List.range p).map (λ(n:Nat)=>(0,1,(n:Int)))++(List.range p).flatMap λ(a:Nat)=>(List.range p).map λ(b:Nat)=>(1,(a:Int),(b:Int)))
def mkT (t:Int×Int×Int):S51:=⟨⟨t.1,t.2.1,t.2.2⟩⟩
theorem qkh (L:List (Int×Int×Int)):tps (L.map mkT)=L:=by
 unfold tps;rw[List.map_map];exact List.map_id L
theorem qfl {p:Int} (hp:7<=p/\p<=31):∀ t∈allP p.toNat,inP p t:=by
 intro t ht;simp only[allP,List.mem_cons,List.mem_append,List.mem_map,List.mem_flatMap,List.mem_range]at ht
 rcases ht with rfl|⟨n,hn,rfl⟩|⟨a,ha,b,hb,rfl⟩
 ·exact⟨⟨by simp,by simp;omega⟩,⟨by simp,by simp;omega⟩,⟨by simp,by simp;omega⟩⟩
 ·exact⟨⟨by simp,by simp;omega⟩,⟨by simp,by simp;omega⟩,⟨by simp,by simp;omega⟩⟩
 ·exact⟨⟨by simp,by simp;omega⟩,⟨by simp,by simp;omega⟩,⟨by simp,by simp;omega⟩⟩
theorem qik (p:Nat) (f:Nat->Nat->Int×Int×Int):∀ (d i:Nat),((List.range' i d).flatMap λa=>(List.range p).map (f a)).length=d*p
 | 0,i=>by simp
 | d+1,i=>by
  rw[List.range'_succ,List.flatMap_cons,List.length_append,qik p f d (i+1),List.length_map,List.length_range,Nat.succ_mul];omega
theorem qum (p:Nat):(allP p).length=1+p+p*p:=by
 have h:=qik p (λa b=>(1,(a:Int),(b:Int))) p 0;rw[<-List.range_eq_range']at h;unfold allP;rw[List.length_cons,List.length_append,List.length_map,List.length_range,h];omega
theorem qce {p:Int} (hp:7<=p/\p<=31):(allP p.toNat).length<=1000:=by
 have:=Nat.mul_le_mul (show p.toNat<=31 by omega) (show p.toNat<=31 by omega)
 rw[qum];omega
theorem qpo {p:Int} (hp:7<=p/\p<=31) {r:List S51}:∀ (d i:Nat) (acc:List S51),((i+d:Nat):Int)=p->acc.length+d<=1000000->Ev (λk=>zn.l1 k p (acc++((List.range' i d).map λ(n:Nat)=>(0,1,(n:Int))).map mkT) 0) r->Ev (λk=>zn.l0 k p acc (i:Int)) r
 | 0,i,acc,h,_,hr=>by
  simp only[List.range'_zero,List.map_nil,List.append_nil]at hr;exact Ev.step (λk=>by rw[zn.l0,if_neg (by omega)]) hr
 | d+1,i,acc,h,hl,hr=>by
  refine Ev.step (λk=>by rw[zn.l0,if_pos (by omega),if_pos (by omega),wsm (by omega) (by omega)];rfl) (qpo hp d (i+1) (acc++[mkT (0,1,(i:Int))]) (by omega) (by rw[List.length_append,List.length_singleton];omega) ?_);rw[List.append_assoc];exact hr
theorem qp3 {p:Int} (hp:7<=p/\p<=31) {r:List S51} (a:Nat) (ha:a < 40):∀ (d i:Nat) (acc:List S51),((i+d:Nat):Int)=p->acc.length+d<=1000000->Ev (λk=>zn.l1 k p (acc++((List.range' i d).map λ(b:Nat)=>(1,(a:Int),(b:Int))).map mkT) ((a+1:Nat):Int)) r->Ev (λk=>zn.l2 k p acc (a:Int) (i:Int)) r
 | 0,i,acc,h,_,hr=>by
  simp only[List.range'_zero,List.map_nil,List.append_nil]at hr;exact Ev.step (λk=>by rw[zn.l2,if_neg (by omega),wsm (by omega) (by omega)];rfl) hr
 | d+1,i,acc,h,hl,hr=>by
  refine Ev.step (λk=>by rw[zn.l2,if_pos (by omega),if_pos (by omega),wsm (by omega) (by omega)];rfl) (qp3 hp a ha d (i+1) (acc++[mkT (1,(a:Int),(i:Int))]) (by omega) (by rw[List.length_append,List.length_singleton];omega) ?_);rw[List.append_assoc];exact hr
theorem qqd {p:Int} (hp:7<=p/\p<=31):∀ (d a:Nat) (acc:List S51),((a+d:Nat):Int)=p->acc.length+d*31<=1000000->Ev (λk=>zn.l1 k p acc (a:Int)) (acc++((List.range' a d).flatMap λ(a:Nat)=>(List.range p.toNat).map λ(b:Nat)=>(1,(a:Int),(b:Int))).map mkT)
 | 0,a,acc,h,_=>by
  simp only[List.range'_zero,List.flatMap_nil,List.map_nil,List.append_nil];exact Ev.step (f:=λ_=>some acc) (λk=>by rw[zn.l1,if_neg (by omega)]) (Ev.now _)
 | d+1,a,acc,h,hl=>by
  have ih:=qqd hp d (a+1) (acc++((List.range' 0 p.toNat).map λ(b:Nat)=>(1,(a:Int),(b:Int))).map mkT) (by omega) (by rw[List.length_append,List.length_map,List.length_map,List.length_range'];omega);have hc:=qp3 hp a (by omega) p.toNat 0 acc (by omega) (by omega) ih;rw[List.range'_succ,List.flatMap_cons,List.map_append,<-List.append_assoc];rw[<-List.range_eq_range']at hc;exact Ev.step (λk=>by rw[zn.l1,if_pos (by omega)];rfl) hc
theorem qsk {p:Int} (hp:7<=p/\p<=31):Ev (λk=>zn.f k p) ((allP p.toNat).map mkT):=by
 have hb:=qqd hp p.toNat 0 ([mkT (0,0,1)]++((List.range' 0 p.toNat).map λ(n:Nat)=>(0,1,(n:Int))).map mkT) (by omega) (by simp only[List.length_append,List.length_map,List.length_range',List.length_singleton];omega);have h:=qpo hp p.toNat 0 [mkT (0,0,1)] (by omega) (by simp only[List.length_singleton];omega) hb;rw[<-List.range_eq_range']at h;unfold zn.f;have e:([mkT (0,0,1)]++((List.range p.toNat).map λ(n:Nat)=>(0,1,(n:Int))).map mkT++((List.range p.toNat).flatMap λ(a:Nat)=>(List.range p.toNat).map λ(b:Nat)=>(1,(a:Int),(b:Int))).map mkT)=(allP p.toNat).map mkT:=by
  unfold allP;rw[List.map_cons,List.map_append,List.append_assoc]
  rfl
 rw[e]at h;exact h
def curP (p:Int) (Q L:List (Int×Int×Int)):List (List Int):=(L.map (imgP p Q)).filter λr=>!(r.all λx=>x == 0)
theorem qii {p:Int} {Q:List (Int×Int×Int)} (hg:genB p Q=true) (t:Int×Int×Int):(imgP p Q t).length=4:=by
 unfold imgP;rw[List.length_map];exact qcn (j7 hg).1 (j7 hg).2.1 (Jg hg)
theorem qbv {p:Int} {Q:List (Int×Int×Int)} (hg:genB p Q=true) (L:List (Int×Int×Int)):okR p 4 (curP p Q L):=λr hr=>by
 unfold curP at hr;rw[List.mem_filter]at hr;obtain⟨t,_,rfl⟩:=List.mem_map.1 hr.1;exact⟨qii hg t,qea (j7 hg).1 Q t⟩
theorem qnb (p:Int) (Q L:List (Int×Int×Int)):(curP p Q L).length<=L.length:=by
 unfold curP;refine Nat.le_trans (List.length_filter_le _ _) ?_;rw[List.length_map];exact Nat.le_refl _
theorem qgb {p:Int} {Q:List (Int×Int×Int)} (hg:genB p Q=true) (L:List S51) (hl:L.length<=1000000) (hin:∀ t∈tps L,inP p t):∀ (d i:Nat) (acc:List (List Int)),i+d=L.length->acc.length<=i->Ev (λk=>ju.l0 k p (basP p Q) L acc (i:Int)) (acc++curP p Q ((tps L).drop i))
 | 0,i,acc,h,ha=>by
  rw[List.drop_eq_nil_of_le (by unfold tps;rw[List.length_map];omega)];simp only[curP,List.map_nil,List.filter_nil,List.append_nil];exact Ev.step (f:=λ_=>some acc) (λk=>by rw[ju.l0,if_neg (by omega)]) (Ev.now _)
 | d + 1, i, acc, h, ha => by
  have hi:i < (tps L).length:=by unfold tps;rw[List.length_map];omega
  have e1:tpl (qg L (i:Int))=(tps L)[i]:=by
   rw[qbg L i (by omega),List.getD_eq_getElem?_getD,List.getElem?_eq_getElem hi]
   rfl
  have hx:inP p (tpl (qg L (i:Int))):=by rw[e1];exact hin _ (List.getElem_mem hi)
  have him:=qoz hg _ hx;rw[List.drop_eq_getElem_cons hi,<-e1];have hlen:=qii hg (tpl (qg L (i:Int)));have hz:=qjx (imgP p Q (tpl (qg L (i:Int)))) (by omega);refine Ev.step (f:=λk=>(jx.f k p (basP p Q) (tpl (qg L (i:Int))).1 (tpl (qg L (i:Int))).2.1 (tpl (qg L (i:Int))).2.2).bind λt379=>(z8.f k t379).bind λt382=>if t382=true then ju.l0 k p (basP p Q) L acc ((i+1:Nat):Int) else if acc.length < 5864062014805 then ju.l0 k p (basP p Q) L (acc++[t379]) ((i+1:Nat):Int) else none) (λk=>?_) ?_
  ·rw[ju.l0,if_pos (by omega),if_pos (by omega),wsm (by omega) (by omega)]
   rfl
  ·refine Ev.bind him (Ev.bind hz ?_)
   cases hb:(imgP p Q (tpl (qg L (i:Int)))).all λx=>x == 0 with
   | true=>
    have e:curP p Q (tpl (qg L (i:Int)) :: (tps L).drop (i+1))=curP p Q ((tps L).drop (i+1)):=by
     unfold curP;rw[List.map_cons,List.filter_cons_of_neg (by rw[hb];simp)]
    rw[e];exact Ev.yes rfl (qgb hg L hl hin d (i+1) acc (by omega) (by omega))
   | false=>
    have e:curP p Q (tpl (qg L (i:Int)) :: (tps L).drop (i+1))=[imgP p Q (tpl (qg L (i:Int)))]++curP p Q ((tps L).drop (i+1)):=by
     unfold curP;rw[List.map_cons,List.filter_cons_of_pos (by rw[hb];rfl)]
     rfl
    rw[e,<-List.append_assoc];exact Ev.no (by simp) (Ev.yes (by omega) (qgb hg L hl hin d (i+1) _ (by omega) (by rw[List.length_append,List.length_singleton];omega)))
theorem qie {p:Int} {Q:List (Int×Int×Int)} (hg:genB p Q=true) (six L:List S51) (hl:L.length<=1000000) (hin:∀ t∈tps L,inP p t):Ev (λk=>ju.f k p six (basP p Q) L) (curP p Q (tps L)):=by
 have h:=qgb hg L hl hin L.length 0 [] (by omega) (by simp);unfold ju.f
 simpa using h
theorem qrf {p:Int} (hp:zi p=true) (w:Nat) (hw:w<=100) (a b:List Int) (ha:a.length=w/\∀ x∈a,0<=x/\x < p) (hb:b.length=w/\∀ x∈b,0<=x/\x < p):Ev (λk=>jy.f k p a b) (dt w (fn a) (fn b) % p):=by
 have h0:=zk hp;have la:=ha.1;have lb:=hb.1;have hl:∀ (d i:Nat),i+d=w->Ev (λk=>jy.l0 k p a b (dt i (fn a) (fn b) % p) (i:Int)) (dt w (fn a) (fn b) % p):=by
  intro d
  induction d with
  | zero=>
   intro i hi;obtain rfl:i=w:=by omega
   exact Ev.step (f:=λ_=>some (dt i (fn a) (fn b) % p)) (λq=>by rw[jy.l0,if_neg (by omega)]) (Ev.now _)
  | succ d ih=>
   intro i hi;have b1:=Zi ha i (by omega);have b2:=Zi hb i (by omega);have b3:=Q1 (p:=p) ⟨by omega,by omega⟩ b1 b2;have b4:=Int.emod_nonneg (dt i (fn a) (fn b)) (show p≠0 by omega);have b5:=Int.emod_lt_of_pos (dt i (fn a) (fn b)) (show (0:Int) < p by omega);have r1:rd a (i:Int)=fn a i:=rfl;have r2:rd b (i:Int)=fn b i:=rfl;refine Ev.step (λq=>by rw[jy.l0,if_pos (by omega),if_pos (by omega),if_pos (by omega),if_neg (by omega),r1,r2,wsm (i:=fn a i*fn b i) (by omega) (by omega),wsm (i:=_ +_) (by omega) (by omega),Int.tmod_eq_emod_of_nonneg (by omega),Int.emod_add_emod,<-qaq,wsm (by omega) (by omega)]) ?_;exact ih (i+1) (by omega)
 unfold jy.f
 have:=hl w 0 (by omega)
 rwa [qdl,Int.zero_emod]at this
def vX (c:Nat):Int×Int×Int:=(l7V c 0,l7V c 1,l7V c 2)
theorem qnv (c q:Nat):0<=l7V c q/\l7V c q<=1:=by
 unfold l7V
 split<;>omega
theorem vX_in {p:Int} (hp:7<=p/\p<=31) (c:Nat):inP p (vX c):=by
 have h0:=qnv c 0;have h1:=qnv c 1;have h2:=qnv c 2;exact⟨⟨h0.1,show l7V c 0 < p by omega⟩,⟨h1.1,show l7V c 1 < p by omega⟩,⟨h2.1,show l7V c 2 < p by omega⟩⟩
def rowS (p:Int) (B:List (List Int)) (x:Int×Int×Int) (c:Nat):List Int:=(List.range 4).map λi=>slpP p (B.getD i []) x (vX c)
theorem qpi {p:Int} (hp:7<=p/\p<=31) {B:List (List Int)} (h4:B.length=4) (hB:∀ i,i < 4->(B.getD i []).length=10/\∀ x∈B.getD i [],0<=x/\x < p) (X:S51) (hx:inP p (tpl X)) (c:Nat):∀ (d i:Nat) (acc:List Int),i+d=4->Ev (λk=>l7Ra k p B X c d i acc) (acc++(List.range' i d).map λi=>slpP p (B.getD i []) (tpl X) (vX c))
 | 0,i,acc,_=>by
  simp only[l7Ra,List.range'_zero,List.map_nil,List.append_nil];exact Ev.now _
 | d+1,i,acc,h=>by
  simp only[l7Ra,if_pos (show i < B.length by omega)];refine Ev.bind (qod hp hx (vX_in hp c) _ (hB i (by omega))) ?_;have ih:=qpi hp h4 hB X hx c d (i+1) (acc++[slpP p (B.getD i []) (tpl X) (vX c)]) (by omega);rw[List.append_assoc]at ih;rw[List.range'_succ,List.map_cons];exact ih
theorem qpw {p:Int} (hp:7<=p/\p<=31) {B:List (List Int)} (h4:B.length=4) (hB:∀ i,i < 4->(B.getD i []).length=10/\∀ x∈B.getD i [],0<=x/\x < p) (X:S51) (hx:inP p (tpl X)):∀ (d c:Nat) (acc:List (List Int)),Ev (λk=>l7Rs k p B X d c acc) (acc++(List.range' c d).map (rowS p B (tpl X)))
 | 0,c,acc=>by
  simp only[l7Rs,List.range'_zero,List.map_nil,List.append_nil];exact Ev.now _
 | d+1,c,acc=>by
  have hr:=qpi hp h4 hB X hx c 4 0 [] rfl;rw[List.nil_append,<-List.range_eq_range']at hr;simp only[l7Rs];refine Ev.bind hr ?_;have ih:=qpw hp h4 hB X hx d (c+1) (acc++[rowS p B (tpl X) c]);rw[List.append_assoc]at ih;rw[List.range'_succ,List.map_cons];exact ih
theorem qko {α:Type} {t:Nat->α->Option Bool} {g:α->Bool}:∀ (l acc:List α),(∀ x∈l,Ev (λk=>t k x) (g x))->Ev (λk=>filO (t k) l acc) (acc++l.filter g)
 | [],acc,_=>by
  simp only[filO,List.filter_nil,List.append_nil];exact Ev.now _
 | x :: xs,acc,h=>by
  simp only[filO];refine Ev.bind (h x (List.mem_cons_self ..)) ?_;have ih:=qko (t:=t) (g:=g) xs (if g x=true then acc++[x] else acc) λy hy=>h y (List.mem_cons_of_mem _ hy)
  cases hb:g x with
  | true=>
   rw[hb,if_pos rfl]at ih;rw[List.filter_cons_of_pos hb,if_pos rfl];rw[List.append_assoc]at ih;exact ih
  | false=>
   rw[hb,if_neg (by simp)]at ih;rw[List.filter_cons_of_neg (by simp[hb]),if_neg (by simp)];exact ih
theorem qku (M:Nat->Int) (six:List S51):∀ (d i:Nat) (acc:List S51),i+d=six.length->l7En M six d i acc=some (acc++((List.range' i d).filter λq=>M q == 1).map (l7Pt six))
 | 0,i,acc,_=>by simp[l7En]
 | d + 1, i, acc, h => by
  rw[l7En,List.range'_succ]
  by_cases hm:M i=1
  ·rw[if_pos hm,if_pos (by omega),qku M six d (i+1) _ (by omega),List.filter_cons_of_pos (by simp[hm]),List.append_assoc]
   rfl
  ·rw[if_neg hm,qku M six d (i+1) _ (by omega),List.filter_cons_of_neg (by simp[hm])]
def endA (kk:Int):Nat:=(l1T.getD (kk - 6).toNat (0,0)).1
def endB (kk:Int):Nat:=(l1T.getD (kk - 6).toNat (0,0)).2
theorem qs8 :∀ n:Nat,n < 15->((List.range' 0 6).filter λq=>l1M ((n:Int)+6) q == 1)=[endA ((n:Int)+6),endB ((n:Int)+6)]/\endA ((n:Int)+6) < 6/\endB ((n:Int)+6) < 6:=by decide+kernel
theorem qfc {kk:Int} (h:6<=kk/\kk < 21):((List.range' 0 6).filter λq=>l1M kk q == 1)=[endA kk,endB kk]/\endA kk < 6/\endB kk < 6:=by
 have:=qs8 (kk - 6).toNat (by omega)
 rwa [show ((kk - 6).toNat:Int)+6=kk by omega]at this
theorem qpz {p:Int} (hp:zi p=true) {w:Nat} {L:List (List Int)} (hL:okR p w L):okR p w (Jd p w L):=by
 obtain⟨N,e,hN,_,_⟩:=Zr hp hL;rw[e];intro r hr;obtain⟨x,hx,rfl⟩:=List.mem_map.1 hr;exact hN.ok x hx
def conP (p:Int) (Q:List (Int×Int×Int)) (kk:Int):List Int:=(Jd p 6 ((Q.take (kk - 21).toNat++Q.drop (kk - 20).toNat).map (sqR p))).getD 0 []
def linR (p:Int) (Q:List (Int×Int×Int)) (kk:Int):List (List Int):=
 if kk < 6 then (List.range 3).map (rowS p (basP p Q) (Q.getD kk.toNat (0,0,0)))
 else if kk < 21 then curP p Q ((allP p.toNat).filter (colB p (Q.getD (endA kk) (0,0,0)) (Q.getD (endB kk) (0,0,0))))
 else curP p Q ((allP p.toNat).filter λt=>dt 6 (fn (conP p Q kk)) (fn (sqR p t)) % p == 0)
theorem qqn {p:Int} (hp:0 < p) (a:List Int) (x v:Int×Int×Int):0<=slpP p a x v/\slpP p a x v < p:=⟨Int.emod_nonneg _ (by omega),Int.emod_lt_of_pos _ (by omega)⟩
theorem qed {p:Int} {Q:List (Int×Int×Int)} (hg:genB p Q=true) (kk:Int):okR p 4 (linR p Q kk):=by
 have hb:=zk (j7 hg).1;unfold linR
 split
 ·intro r hr
  obtain⟨c,_,rfl⟩:=List.mem_map.1 hr;refine⟨by simp[rowS],λx hx=>?_⟩;obtain⟨i,_,rfl⟩:=List.mem_map.1 hx;exact qqn (by omega) _ _ _
 ·split
  ·exact qbv hg _
  ·exact qbv hg _
theorem qsx {p:Int} {Q:List (Int×Int×Int)} (hg:genB p Q=true) (kk:Int):(linR p Q kk).length < 1000000:=by
 have hb:=zk (j7 hg).1;have hs:=qce (p:=p) (by omega);unfold linR
 split
 ·simp
 ·split
  ·have h1:=qnb p Q ((allP p.toNat).filter (colB p (Q.getD (endA kk) (0,0,0)) (Q.getD (endB kk) (0,0,0))))
   have h2:=List.length_filter_le (colB p (Q.getD (endA kk) (0,0,0)) (Q.getD (endB kk) (0,0,0))) (allP p.toNat);omega
  ·have h1:=qnb p Q ((allP p.toNat).filter λt=>dt 6 (fn (conP p Q kk)) (fn (sqR p t)) % p == 0)
   have h2:=List.length_filter_le (λt=>dt 6 (fn (conP p Q kk)) (fn (sqR p t)) % p == 0) (allP p.toNat);omega
def qae (p:Int) (Q:List (Int×Int×Int)) (kk:Int):List Int:=if Qx p 4 (linR p Q kk)=2 then Jj p 4 (linR p Q kk) else []
theorem qf8 {p:Int} {Q:List (Int×Int×Int)} (hg:genB p Q=true) (i:Nat) (hi:i < 6):inP p (Q.getD i (0,0,0)):=by
 obtain⟨_,h6,ha,_⟩:=j7 hg;exact qdc ((qa7 ha).1 i (by omega))
theorem qth (L:List (Int×Int×Int)) (g:S51->Bool):(L.map mkT).filter g=(L.filter λt=>g (mkT t)).map mkT:=by
 rw[List.filter_map]
 rfl
theorem qug {p:Int} (l:List S51) (hg:genB p (tps l)=true) {kk:Int} (h0:0<=kk) (h1:kk<=26):Ev (λk=>qhk k p l (basP p (tps l)) kk ((allP p.toNat).map mkT)) (linR p (tps l) kk):=by
 obtain⟨hp,h6,ha,_⟩:=j7 hg;have hb:=zk hp;have hb':7<=p/\p<=31:=⟨by omega,by omega⟩
 have hl:l.length=6:=by unfold tps at h6;rwa [List.length_map]at h6
 have hin:=qfl hb';have hin':∀ x∈(allP p.toNat).map mkT,inP p (tpl x):=λx hx=>by
  obtain⟨t,ht,rfl⟩:=List.mem_map.1 hx;exact hin t ht
 have hbl:=qcn hp h6 (Jg hg);unfold qhk linR
 by_cases c6:kk < 6
 ·have hk:0<=kk/\kk < l.length:=⟨h0,by omega⟩
  simp only[if_pos c6,if_pos hk];have et:tpl (qg l kk)=(tps l).getD kk.toNat (0,0,0):=by
   have:=qbg l kk.toNat (by omega)
   rwa [show (kk.toNat:Int)=kk by omega]at this
  have h:=qpw hb' hbl (λi hi=>qe4 hp i (by omega)) (qg l kk) (by rw[et];exact qf8 hg _ (by omega)) 3 0 [];rw[List.nil_append,<-List.range_eq_range',et]at h;exact h
 ·by_cases c21:kk < 21
  ·obtain⟨e1,e2,e3⟩:=qfc (kk:=kk) ⟨by omega,c21⟩
   simp only[if_neg c6,if_pos c21];have en:=qku (l1M kk) l 6 0 [] (by omega);rw[e1,List.nil_append]at en;have t1:tpl (l7Pt l (endA kk))=(tps l).getD (endA kk) (0,0,0):=qbg l (endA kk) (by omega);have t2:tpl (l7Pt l (endB kk))=(tps l).getD (endB kk) (0,0,0):=qbg l (endB kk) (by omega);have i1:=qf8 hg (endA kk) e2;have i2:=qf8 hg (endB kk) e3;have hc:=qia hb' (tpl (l7Pt l (endA kk))) (tpl (l7Pt l (endB kk))) (by rw[t1];exact i1) (by rw[t2];exact i2);refine Ev.bind (a:=[l7Pt l (endA kk),l7Pt l (endB kk)]) (Ev.k en) (Ev.yes (by simp) (Ev.bind (Ev.k hc) ?_));rw[t1,t2];have hf:=qko (t:=λ_ (x:S51)=>Jy.f p x.f0.f0 x.f0.f1 x.f0.f2 (crsP p ((tps l).getD (endA kk) (0,0,0)) ((tps l).getD (endB kk) (0,0,0)))) (g:=λx=>colB p ((tps l).getD (endA kk) (0,0,0)) ((tps l).getD (endB kk) (0,0,0)) (tpl x)) ((allP p.toNat).map mkT) [] λx hx=>Ev.k (qmm hb' _ _ (tpl x) (hin' x hx));rw[List.nil_append,qth]at hf;refine Ev.bind hf ?_;have hs:=qce hb';have hle:=List.length_filter_le (λt=>colB p ((tps l).getD (endA kk) (0,0,0)) ((tps l).getD (endB kk) (0,0,0)) (tpl (mkT t))) (allP p.toNat);have hv:=qie hg l (((allP p.toNat).filter λt=>colB p ((tps l).getD (endA kk) (0,0,0)) ((tps l).getD (endB kk) (0,0,0)) (tpl (mkT t))).map mkT) (by rw[List.length_map];omega) (by rw[qkh];exact λt ht=>hin t (List.mem_filter.1 ht).1);rw[qkh]at hv;exact hv
  ·have hk:kk - 20<=l.length:=by omega
   simp only[if_neg c6,if_neg c21,if_pos hk];have hlen:(l.take (kk - 21).toNat++l.drop (kk - 20).toNat).length=5:=by rw[List.length_append,List.length_take,List.length_drop];omega
   have et:tps (l.take (kk - 21).toNat++l.drop (kk - 20).toNat)=(tps l).take (kk - 21).toNat++(tps l).drop (kk - 20).toNat:=by
    unfold tps;rw[List.map_append,List.map_take,List.map_drop]
   have hmem:∀ t∈tps l,inP p t:=λt ht=>by
    obtain⟨i,hi,rfl⟩:=List.getElem_of_mem ht
    have:=qf8 hg i (by omega)
    rwa [List.getD_eq_getElem?_getD,List.getElem?_eq_getElem hi]at this
   have hall:∀ t∈tps (l.take (kk - 21).toNat++l.drop (kk - 20).toNat),inP p t:=by
    rw[et];intro t ht
    rcases List.mem_append.1 ht with h|h
    ·exact hmem _ (List.mem_of_mem_take h)
    ·exact hmem _ (List.mem_of_mem_drop h)
   have hc:=qgl hp (l.take (kk - 21).toNat++l.drop (kk - 20).toNat) (by omega) (λj hj=>by
    have hj':j < (tps (l.take (kk - 21).toNat++l.drop (kk - 20).toNat)).length:=by unfold tps;rw[List.length_map];omega
    rw[List.getD_eq_getElem?_getD,List.getElem?_eq_getElem hj'];exact hall _ (List.getElem_mem hj'))
   rw[et]at hc;have ok:=qgp hp ((tps l).take (kk - 21).toNat++(tps l).drop (kk - 20).toNat);have hr:=qcg (p:=p) (w:=6) (((tps l).take (kk - 21).toNat++(tps l).drop (kk - 20).toNat).map (sqR p));rw[List.length_map,<-et]at hr;have hl5:(tps (l.take (kk - 21).toNat++l.drop (kk - 20).toNat)).length=5:=by unfold tps;rw[List.length_map];omega
   rw[et]at hr hl5;have hne:=qdu hp ok (by omega);have hpos:0 < (Jd p 6 (((tps l).take (kk - 21).toNat++(tps l).drop (kk - 20).toNat).map (sqR p))).length:=List.length_pos_iff.2 hne;have hco:(conP p (tps l) kk).length=6/\∀ x∈conP p (tps l) kk,0<=x/\x < p:=by
    unfold conP;rw[List.getD_eq_getElem?_getD,List.getElem?_eq_getElem hpos];exact qpz hp ok _ (List.getElem_mem hpos)
   refine Ev.bind hc (Ev.yes hpos ?_);have hf:=qko (t:=λk (x:S51)=>(Qh.f p x.f0.f0 x.f0.f1 x.f0.f2).bind λs=>(jy.f k p (conP p (tps l) kk) s).bind λt=>some (t == 0)) (g:=λx=>dt 6 (fn (conP p (tps l) kk)) (fn (sqR p (tpl x))) % p == 0) ((allP p.toNat).map mkT) [] λx hx=>Ev.bind (Ev.k (qfu hb' (tpl x) (hin' x hx))) (Ev.bind (qrf hp 6 (by omega) _ _ hco (qso hp (tpl x))) (Ev.now _));rw[List.nil_append,qth]at hf;refine Ev.bind hf ?_;have hs:=qce hb';have hle:=List.length_filter_le (λt=>dt 6 (fn (conP p (tps l) kk)) (fn (sqR p (tpl (mkT t)))) % p == 0) (allP p.toNat);have hv:=qie hg l (((allP p.toNat).filter λt=>dt 6 (fn (conP p (tps l) kk)) (fn (sqR p (tpl (mkT t)))) % p == 0).map mkT) (by rw[List.length_map];omega) (by rw[qkh];exact λt ht=>hin t (List.mem_filter.1 ht).1);rw[qkh]at hv;exact hv
theorem qq5 {p:Int} (l:List S51) (hg:genB p (tps l)=true) {kk:Int} (h0:0<=kk) (h1:kk<=26):Ev (λk=>jr.f k p l (basP p (tps l)) kk) (qae p (tps l) kk):=by
 obtain⟨hp,h6,_,_⟩:=j7 hg;have hb:=zk hp;have hl:l.length=6:=by unfold tps at h6;rwa [List.length_map]at h6
 have hs:=qce (p:=p) (by omega);have ho:=quy hp (qed hg kk) (qsx hg kk);unfold jr.f qae;refine Ev.yes (by omega) (Ev.bind (qsk (by omega)) (Ev.yes (by rw[List.length_map];omega) (Ev.bind (qug l hg h0 h1) (Ev.bind ho ?_))))
 split
 ·exact Ev.now _
 ·exact Ev.now _
def rF (p:Int) (r:List Int) (j:Nat):Fq (nn p):=fi (nn p) (fn r j)
theorem qhm {p:Int} (hp:zi p=true) {w:Nat} {N:List (List Int)} (hN:N.length<=1) {v:Nat->Int} (h:Sp p w N v):∃ s:Fq (nn p),∀ j,j < w->fi (nn p) (v j)=s*rF p (N.getD 0 []) j:=by
 induction h with
 | zero v hz=>exact⟨0,λj hj=>by rw[(qa0 hp _).2 (hz j hj)];grind⟩
 | add v u r t hr _ h2 ih=>
  obtain⟨s,hs⟩:=ih;have e:r=N.getD 0 []:=by
   match N,hN,hr with
   | [],_,hr=>cases hr
   | [x],_,hr=>rw[List.mem_singleton.1 hr];rfl
   | _ :: _ :: _,hN,_=>simp at hN
  refine⟨s+fi (nn p) t,λj hj=>?_⟩
  have:=(qpb hp (v j) (u j+t*fn r j)).2 (h2 j hj)
  rw[this,qct,qcp,hs j hj,e]
  show _ +_*rF p (N.getD 0 []) j=_
  grind
theorem qmh {n:Nat} {u v x l m:Nat->Fq n} {s t:Fq n} (hu:∀ j,j < 4->u j=s*x j) (hv:∀ j,j < 4->v j=t*x j):lin4 l u*lin4 m v - lin4 l v*lin4 m u=0:=by
 simp only[lin4];rw[hu 0 (by omega),hu 1 (by omega),hu 2 (by omega),hu 3 (by omega),hv 0 (by omega),hv 1 (by omega),hv 2 (by omega),hv 3 (by omega)]
 grind
theorem qef {n:Nat} (u v:Nat->Fq n):lin4 u v=lin4 v u:=by simp only[lin4];grind
theorem que {p:Int} (hp:zi p=true) {L:List (List Int)} (hL:okR p 4 L) {u v:List Int} (hu:u∈L) (hv:v∈L) (l m:Nat->Fq (nn p)) (hne:lin4 l (rF p u)*lin4 m (rF p v) - lin4 l (rF p v)*lin4 m (rF p u)≠0):2<=Qx p 4 L:=by
 refine Classical.byContradiction λhr=>hne ?_;obtain⟨P,e,_,_,h1,_⟩:=Ji hp hL;have hl:(P.map Prod.snd).length<=1:=by rw[<-e];show Qx p 4 L<=1;omega
 obtain⟨s,hs⟩:=qhm hp hl (h1 u hu);obtain⟨t,ht⟩:=qhm hp hl (h1 v hv);exact qmh hs ht
theorem dt4 {p:Int} (hp:zi p=true) (r:List Int) (a:Nat->Fq (nn p)):p ∣ dt 4 (fn r) (λj=>((a j).val:Nat))↔lin4 a (rF p r)=0:=by
 rw[<-qa0 hp,qgy];simp only[qbz,sm,lin4,rF];constructor
 ·intro h;rw[<-h];grind
 ·intro h;rw[<-h];grind
theorem qm4 {p:Int} (hp:zi p=true) {L:List (List Int)} (hL:okR p 4 L) (a b y z:Nat->Fq (nn p)) (ha:∀ r∈L,lin4 a (rF p r)=0) (hb:∀ r∈L,lin4 b (rF p r)=0) (hne:lin4 a y*lin4 b z - lin4 a z*lin4 b y≠0):Qx p 4 L<=2:=by
 refine Classical.byContradiction λhr=>hne ?_;obtain⟨e1,_,hP,h1,h2⟩:=qa8 hp hL;have hc:=qh5 hP;have hl:(J2 p 4 (qau p 4 L)).length<=1:=by
  have:Qx p 4 L=(qau p 4 L).length:=by rw[Qx,e1,List.length_map]
  rw[J2,List.length_map];omega
 have k:∀ c:Nat->Fq (nn p),(∀ r∈L,lin4 c (rF p r)=0)->Sp p 4 (J2 p 4 (qau p 4 L)) λj=>(((c j).val:Nat):Int):=λc hc=>qeo hP λx hx=>qjw (λr hr=>(dt4 hp r c).2 (hc r hr)) (h2 x hx);obtain⟨s,hs⟩:=qhm hp hl (k a ha);obtain⟨t,ht⟩:=qhm hp hl (k b hb);simp only[qbz]at hs ht;rw[qef a y,qef b z,qef a z,qef b y]
 have:=qmh (l:=y) (m:=z) hs ht
 rw[<-this];grind
theorem qkf {p:Int} {Q:List (Int×Int×Int)} (hg:genB p Q=true) (t:Int×Int×Int) (i:Nat) (hi:i < 4):rF p (imgP p Q t) i=valC (basF p Q i) (p3 (nn p) t):=by
 obtain⟨hp,h6,_,_⟩:=j7 hg;have h4:=qcn hp h6 (Jg hg);rw[rF,imgP,qez _ _ _ (by omega),qql hp]
 rfl
theorem qa2 {p:Int} {Q:List (Int×Int×Int)} (hg:genB p Q=true) {l v:Nat->Fq (nn p)} (h:∀ j,j < 10->v j=lin4 l λi=>basF p Q i j) (t:Int×Int×Int):lin4 l (rF p (imgP p Q t))=valC v (p3 (nn p) t):=by
 rw[qbc h];simp only[lin4];rw[qkf hg t 0 (by omega),qkf hg t 1 (by omega),qkf hg t 2 (by omega),qkf hg t 3 (by omega)]
theorem DP (n:Nat) (x:Int) (e:Nat):fi n (x ^ (e+1))=fi n (x ^ e)*fi n x:=by rw[Int.pow_succ,qcp]
theorem qvz {p:Int} (hp:zi p=true) (a:List Int) (x:Int×Int×Int) (c:Nat) (hc:c < 3):fi (nn p) (slpP p a x (vX c))=gdC c (λj=>fi (nn p) (fn a j)) (p3 (nn p) x):=by
 have e3:=qtd hp;have e2:=qn5 hp;have e1:=qdr hp;rw[slpP,qir hp];simp only[slpS,qct,qcp,dmo,powN,List.getD_cons_zero,List.getD_cons_succ]
 rcases (show c=0\/c=1\/c=2 by omega) with rfl|rfl|rfl
 all_goals
  simp only[vX,l7V,gdC,p3,fn,if_true,if_false,Nat.one_ne_zero,Nat.zero_ne_one,Nat.reduceEqDiff,Nat.reduceAdd,Nat.reduceSub,Int.pow_zero,DP,e1,qa3]
  try simp only[show ((3:Nat):Int)=3 from rfl,show ((2:Nat):Int)=2 from rfl,show ((1:Nat):Int)=1 from rfl,show ((0:Nat):Int)=0 from rfl,e1,e2,e3,qa3]
  grind
theorem qh6 {p:Int} {Q:List (Int×Int×Int)} (hg:genB p Q=true) (x:Int×Int×Int) (c:Nat) (hc:c < 3) (i:Nat) (hi:i < 4):rF p (rowS p (basP p Q) x c) i=gdC c (basF p Q i) (p3 (nn p) x):=by
 have hp:=(j7 hg).1;have e:fn (rowS p (basP p Q) x c) i=slpP p ((basP p Q).getD i []) x (vX c):=by
  rcases (show i=0\/i=1\/i=2\/i=3 by omega) with rfl|rfl|rfl|rfl<;>rfl
 rw[rF,e,qvz hp _ _ _ hc]
 rfl
theorem qlb {p:Int} {Q:List (Int×Int×Int)} (hg:genB p Q=true) {l v:Nat->Fq (nn p)} (h:∀ j,j < 10->v j=lin4 l λi=>basF p Q i j) (x:Int×Int×Int) (c:Nat) (hc:c < 3):lin4 l (rF p (rowS p (basP p Q) x c))=gdC c v (p3 (nn p) x):=by
 rw[qsl h];simp only[lin4];rw[qh6 hg x c hc 0 (by omega),qh6 hg x c hc 1 (by omega),qh6 hg x c hc 2 (by omega),qh6 hg x c hc 3 (by omega)]
theorem qka {p:Int} (hp:zi p=true) (X:Nat->Fq (nn p)) (h:X 0≠0\/X 1≠0\/X 2≠0):∃ t∈allP p.toNat,∃ c:Fq (nn p),c≠0/\∀ i,i < 3->p3 (nn p) t i=c*X i:=by
 have hb:=zk hp;have hn:=nn_p hp;have h1:=qdr hp;have hlt:∀ a:Fq (nn p),a.val < p.toNat:=λa=>by have:=a.isLt;omega
 have hne:∀ {a b:Fq (nn p)},a*b=1->b≠0:=λ{a b} e hb=>by rw[hb]at e;exact fp_1 hp (by rw[<-e];grind)
 by_cases h0:X 0=0
 ·by_cases h1':X 1=0
  ·have h2:X 2≠0:=by rcases h with h|h|h;exact absurd h0 h;exact absurd h1' h;exact h
   obtain⟨b,hb2⟩:=qa5 hp _ h2;refine⟨(0,0,1),List.mem_cons_self,b,hne hb2,λi hi=>?_⟩
   rcases (show i=0\/i=1\/i=2 by omega) with rfl|rfl|rfl
   ·show fi _ 0=_;rw[qa3,h0];grind
   ·show fi _ 0=_;rw[qa3,h1'];grind
   ·show fi _ 1=_;rw[h1,<-hb2];grind
  ·obtain⟨b,hb2⟩:=qa5 hp _ h1'
   refine⟨(0,1,(((b*X 2).val:Nat):Int)),List.mem_cons_of_mem _ (List.mem_append.2 (.inl (List.mem_map.2 ⟨(b*X 2).val,List.mem_range.2 (hlt _),rfl⟩))),b,hne hb2,λi hi=>?_⟩
   rcases (show i=0\/i=1\/i=2 by omega) with rfl|rfl|rfl
   ·show fi _ 0=_;rw[qa3,h0];grind
   ·show fi _ 1=_;rw[h1,<-hb2];grind
   ·show fi _ (((b*X 2).val:Nat):Int)=_;rw[qbz]
 ·obtain⟨b,hb2⟩:=qa5 hp _ h0
  refine⟨(1,(((b*X 1).val:Nat):Int),(((b*X 2).val:Nat):Int)),List.mem_cons_of_mem _ (List.mem_append.2 (.inr (List.mem_flatMap.2 ⟨(b*X 1).val,List.mem_range.2 (hlt _),List.mem_map.2 ⟨(b*X 2).val,List.mem_range.2 (hlt _),rfl⟩⟩))),b,hne hb2,λi hi=>?_⟩
  rcases (show i=0\/i=1\/i=2 by omega) with rfl|rfl|rfl
  ·show fi _ 1=_;rw[h1,<-hb2];grind
  ·show fi _ (((b*X 1).val:Nat):Int)=_;rw[qbz]
  ·show fi _ (((b*X 2).val:Nat):Int)=_;rw[qbz]
theorem qdv {n:Nat} (v P R:Nat->Fq n) (c:Fq n) (h:∀ i,i < 3->R i=c*P i):valC v R=c*c*c*valC v P:=by
 simp only[valC];rw[h 0 (by omega),h 1 (by omega),h 2 (by omega)]
 grind
theorem oth5 (k:Nat) (hk:k < 6):∃ a b c d e:Nat,(a < 6/\b < 6/\c < 6/\d < 6/\e < 6)/\(k≠a/\k≠b/\k≠c/\k≠d/\k≠e/\a≠b/\a≠c/\a≠d/\a≠e/\b≠c/\b≠d/\b≠e/\c≠d/\c≠e/\d≠e)/\∀ x,x < 6->x=k\/x=a\/x=b\/x=c\/x=d\/x=e:=by
 rcases (show k=0\/k=1\/k=2\/k=3\/k=4\/k=5 by omega) with rfl|rfl|rfl|rfl|rfl|rfl
 ·exact⟨1,2,3,4,5,by decide,by decide,λx hx=>by omega⟩
 ·exact⟨0,2,3,4,5,by decide,by decide,λx hx=>by omega⟩
 ·exact⟨0,1,3,4,5,by decide,by decide,λx hx=>by omega⟩
 ·exact⟨0,1,2,4,5,by decide,by decide,λx hx=>by omega⟩
 ·exact⟨0,1,2,3,5,by decide,by decide,λx hx=>by omega⟩
 ·exact⟨0,1,2,3,4,by decide,by decide,λx hx=>by omega⟩
theorem oth4 (i j:Nat) (hi:i < 6) (hj:j < 6) (hij:i≠j):∃ a b c d:Nat,(a < 6/\b < 6/\c < 6/\d < 6)/\(i≠j/\i≠a/\i≠b/\i≠c/\i≠d/\j≠a/\j≠b/\j≠c/\j≠d/\a≠b/\a≠c/\a≠d/\b≠c/\b≠d/\c≠d)/\∀ x,x < 6->x=i\/x=j\/x=a\/x=b\/x=c\/x=d:=by
 obtain⟨a,b,c,d,e,⟨ha,hb,hc,hd,he⟩,⟨ka,kb,kc,kd,ke,ab,ac,ad,ae,bc,bd,be,cd,ce,de⟩,h3⟩:=oth5 i hi
 rcases h3 j hj with h|h|h|h|h|h
 ·exact absurd h.symm hij
 ·subst h;exact⟨b,c,d,e,⟨hb,hc,hd,he⟩,⟨ka,kb,kc,kd,ke,ab,ac,ad,ae,bc,bd,be,cd,ce,de⟩,λx hx=>by have:=h3 x hx;omega⟩
 ·subst h;exact⟨a,c,d,e,⟨ha,hc,hd,he⟩,⟨kb,ka,kc,kd,ke,Ne.symm ab,bc,bd,be,ac,ad,ae,cd,ce,de⟩,λx hx=>by have:=h3 x hx;omega⟩
 ·subst h;exact⟨a,b,d,e,⟨ha,hb,hd,he⟩,⟨kc,ka,kb,kd,ke,Ne.symm ac,Ne.symm bc,cd,ce,ab,ad,ae,bd,be,de⟩,λx hx=>by have:=h3 x hx;omega⟩
 ·subst h;exact⟨a,b,c,e,⟨ha,hb,hc,he⟩,⟨kd,ka,kb,kc,ke,Ne.symm ad,Ne.symm bd,Ne.symm cd,de,ab,ac,ae,bc,be,ce⟩,λx hx=>by have:=h3 x hx;omega⟩
 ·subst h;exact⟨a,b,c,d,⟨ha,hb,hc,hd⟩,⟨ke,ka,kb,kc,kd,Ne.symm ae,Ne.symm be,Ne.symm ce,Ne.symm de,ab,ac,ad,bc,bd,cd⟩,λx hx=>by have:=h3 x hx;omega⟩
theorem qju {n:Nat} {l u x:Nat->Fq n} {s:Fq n} (h:∀ j,j < 4->u j=s*x j):lin4 l u=s*lin4 l x:=by
 simp only[lin4];rw[h 0 (by omega),h 1 (by omega),h 2 (by omega),h 3 (by omega)]
 grind
theorem qds {p:Int} {Q:List (Int×Int×Int)} (hg:genB p Q=true) (i j k l m q:Nat) (h:∀ x,x < 6->x=i\/x=j\/x=k\/x=l\/x=m\/x=q):∃ f:Nat->Fq (nn p),∀ z,z < 10->lin6 (ptL p Q) i j k l m q z=lin4 f λi=>basF p Q i z:=by
 obtain⟨hp,h6,_,_⟩:=j7 hg;exact qdb hp h6 (Jg hg) _ (qc0 _ i j k l m q h)
theorem qqj {p:Int} {Q:List (Int×Int×Int)} (hg:genB p Q=true) (k:Nat) (hk:k < 6):2<=Qx p 4 ((List.range 3).map (rowS p (basP p Q) (Q.getD k (0,0,0)))):=by
 obtain⟨hp,h6,_,_⟩:=j7 hg;have hG:=Jg hg;have hL:okR p 4 ((List.range 3).map (rowS p (basP p Q) (Q.getD k (0,0,0)))):=by
  have:=qed hg (k:Int)
  rw[linR,if_pos (by omega)]at this;exact this
 obtain⟨a,b,c,d,e,⟨ha,hb,hc,hd,he⟩,⟨ka,kb,kc,kd,ke,ab,ac,ad,ae,bc,bd,be,cd,ce,de⟩,h3⟩:=oth5 k hk;obtain⟨l1,e1⟩:=qds hg k a b c d e h3;obtain⟨l2,e2⟩:=qds hg k b a c d e λx hx=>by have:=h3 x hx;omega
 refine Classical.byContradiction λhr=>?_;obtain⟨P,er,_,_,hs,_⟩:=Ji hp hL;have hl:(P.map Prod.snd).length<=1:=by rw[<-er];show Qx p 4 _<=1;omega
 have H:∀ c:Nat,∃ s:Fq (nn p),c < 3->∀ j,j < 4->rF p (rowS p (basP p Q) (Q.getD k (0,0,0)) c) j=s*rF p ((P.map Prod.snd).getD 0 []) j:=λc=>by
  by_cases h:c < 3
  ·obtain⟨s,hs⟩:=qhm hp hl (hs _ (List.mem_map.2 ⟨c,List.mem_range.2 h,rfl⟩))
   exact⟨s,λ_=>hs⟩
  ·exact⟨0,λh'=>absurd h' h⟩
 obtain⟨s,hs'⟩:=Classical.axiomOfChoice H;refine qtk (qa5 hp) hG (k:=k) (a:=a) (b:=b) (c:=c) (d:=d) (e:=e) ⟨hk,ha,hb,hc,hd,he⟩ ⟨ka,kb,kc,kd,ke,ab,ac,bc,de⟩ s (lin4 l1 (rF p ((P.map Prod.snd).getD 0 []))) (lin4 l2 (rF p ((P.map Prod.snd).getD 0 []))) (λi hi=>?_) λi hi=>?_
 ·show gdC i _ (p3 (nn p) (Q.getD k (0,0,0)))=_
  rw[<-qlb hg e1 _ i hi];exact qju (hs' i hi)
 ·show gdC i _ (p3 (nn p) (Q.getD k (0,0,0)))=_
  rw[<-qlb hg e2 _ i hi];exact qju (hs' i hi)
theorem qqk {p:Int} {Q:List (Int×Int×Int)} (hg:genB p Q=true) (k:Nat) (hk:k < 6):Qx p 4 ((List.range 3).map (rowS p (basP p Q) (Q.getD k (0,0,0))))<=2:=by
 obtain⟨hp,h6,_,_⟩:=j7 hg;have hG:=Jg hg;have h4:=qcn hp h6 hG;have hL:okR p 4 ((List.range 3).map (rowS p (basP p Q) (Q.getD k (0,0,0)))):=by
  have:=qed hg (k:Int)
  rw[linR,if_pos (by omega)]at this;exact this
 have hR:=qhq hp hL;rw[show ((List.range 3).map (rowS p (basP p Q) (Q.getD k (0,0,0)))).length=3 from rfl]at hR;have ht:=qfk hL;rw[show ((List.range 3).map (rowS p (basP p Q) (Q.getD k (0,0,0)))).length=3 from rfl]at ht;obtain⟨N,eN,_,_,hc⟩:=Zr hp ht
 by_cases hN:N=[]
 ·exfalso
  have hs:=hc (λj=>(((ptL p Q k j).val:Nat):Int)) λr hr=>by
   obtain⟨j,hj,rfl⟩:=List.mem_map.1 hr;have hj4:j < 4:=by simpa using hj
   rw[<-qa0 hp,qgy];simp only[qbz];have hrow:∀ c,c < 3->fi (nn p) (fn (((List.range 3).map (rowS p (basP p Q) (Q.getD k (0,0,0)))).map λr=>fn r j) c)=gdC c (basF p Q j) (ptL p Q k):=λc hc=>by
    rw[<-show _=gdC c (basF p Q j) (ptL p Q k) from qh6 hg _ c hc j hj4]
    rcases (show c=0\/c=1\/c=2 by omega) with rfl|rfl|rfl<;>rfl
   simp only[sm];rw[hrow 0 (by omega),hrow 1 (by omega),hrow 2 (by omega)];have he:=qrj (basF p Q j) (ptL p Q k);rw[qlu hp j k (by omega) (by omega)]at he
   grind
  rw[hN]at hs
  cases hs with
  | zero _ hz=>
   obtain⟨a,b,_,_,_,h1,h2,_⟩:=oth5 k hk;have z:∀ j,j < 3->ptL p Q k j=0:=λj hj=>by
    have:=(qa0 hp _).2 (hz j hj)
    rwa [qbz]at this
   refine hG a b k h1.1 h1.2.1 hk (by omega) (by omega) (by omega) ?_;simp only[ev3];rw[z 0 (by omega),z 1 (by omega),z 2 (by omega)]
   grind
  | add _ _ _ _ hr _ _=>cases hr
 ·have:0 < N.length:=List.length_pos_iff.2 hN
  have e:(Jd p 3 (tr 4 ((List.range 3).map (rowS p (basP p Q) (Q.getD k (0,0,0)))))).length=N.length:=by rw[eN,List.length_map]
  omega
theorem qms {p:Int} {Q:List (Int×Int×Int)} (hg:genB p Q=true) {L:List (List Int)} (hL:okR p 4 L) (X Y w1 w2:Nat->Fq (nn p)) (h1:∀ x,x < 6->valC w1 (ptL p Q x)=0) (h2:∀ x,x < 6->valC w2 (ptL p Q x)=0) (hd:valC w1 X*valC w2 Y - valC w1 Y*valC w2 X≠0)
  (hm:∀ t∈allP p.toNat,∀ c:Fq (nn p),((∀ i,i < 3->p3 (nn p) t i=c*X i)\/∀ i,i < 3->p3 (nn p) t i=c*Y i)->(imgP p Q t).all (λx=>x == 0)=false->imgP p Q t∈L):2<=Qx p 4 L:=by
 obtain⟨hp,h6,_,_⟩:=j7 hg;have hF:=qa5 hp;have hG:=Jg hg;obtain⟨l1,e1⟩:=qdb hp h6 hG w1 h1;obtain⟨l2,e2⟩:=qdb hp h6 hG w2 h2;have hz:∀ (w Z:Nat->Fq (nn p)),Z 0=0->Z 1=0->Z 2=0->valC w Z=0:=λw Z a b c=>by
  simp only[valC];rw[a,b,c];grind
 have hX:X 0≠0\/X 1≠0\/X 2≠0:=Classical.byContradiction λh=>hd (by
  have a0:X 0=0:=Classical.byContradiction λq=>h (.inl q);have a1:X 1=0:=Classical.byContradiction λq=>h (.inr (.inl q));have a2:X 2=0:=Classical.byContradiction λq=>h (.inr (.inr q));rw[hz w1 X a0 a1 a2,hz w2 X a0 a1 a2];grind)
 have hY:Y 0≠0\/Y 1≠0\/Y 2≠0:=Classical.byContradiction λh=>hd (by
  have a0:Y 0=0:=Classical.byContradiction λq=>h (.inl q);have a1:Y 1=0:=Classical.byContradiction λq=>h (.inr (.inl q));have a2:Y 2=0:=Classical.byContradiction λq=>h (.inr (.inr q));rw[hz w1 Y a0 a1 a2,hz w2 Y a0 a1 a2];grind)
 obtain⟨t,ht,c,hc,et⟩:=qka hp X hX;obtain⟨s,hs,d,hd',es⟩:=qka hp Y hY;have f1:lin4 l1 (rF p (imgP p Q t))=c*c*c*valC w1 X:=by rw[qa2 hg e1,qdv _ _ _ c et]
 have f2:lin4 l2 (rF p (imgP p Q t))=c*c*c*valC w2 X:=by rw[qa2 hg e2,qdv _ _ _ c et]
 have g1:lin4 l1 (rF p (imgP p Q s))=d*d*d*valC w1 Y:=by rw[qa2 hg e1,qdv _ _ _ d es]
 have g2:lin4 l2 (rF p (imgP p Q s))=d*d*d*valC w2 Y:=by rw[qa2 hg e2,qdv _ _ _ d es]
 have hc3:=fnz hF (fnz hF hc hc) hc;have hd3:=fnz hF (fnz hF hd' hd') hd';have hne:lin4 l1 (rF p (imgP p Q t))*lin4 l2 (rF p (imgP p Q s)) - lin4 l1 (rF p (imgP p Q s))*lin4 l2 (rF p (imgP p Q t))≠0:=by
  rw[f1,f2,g1,g2]
  have:=fnz hF (fnz hF hc3 hd3) hd
  intro h;apply this;rw[<-h];grind
 have hall:∀ u:List Int,u.all (λx=>x == 0)=true->∀ l:Nat->Fq (nn p),lin4 l (rF p u)=0:=λu hu l=>by
  have z:∀ j,rF p u j=0:=λj=>by
   have:fn u j=0:=by
    by_cases hj:j < u.length
    ·have:=List.all_eq_true.1 hu (u[j]) (List.getElem_mem hj)
     rw[fn,Jo u j hj];simpa using this
    ·simp[fn,rd,List.getD_eq_getElem?_getD,List.getElem?_eq_none (Nat.le_of_not_lt hj)]
   rw[rF,this,qa3]
  simp only[lin4];rw[z,z,z,z];grind
 have nt:(imgP p Q t).all (λx=>x == 0)=false:=by
  cases h:(imgP p Q t).all (λx=>x == 0)
  ·rfl
  ·exact absurd (by rw[hall _ h l1,hall _ h l2];grind) hne
 have ns:(imgP p Q s).all (λx=>x == 0)=false:=by
  cases h:(imgP p Q s).all (λx=>x == 0)
  ·rfl
  ·exact absurd (by rw[hall _ h l1,hall _ h l2];grind) hne
 exact que hp hL (hm t ht c (.inl et) nt) (hm s hs d (.inr es) ns) l1 l2 hne
theorem qk3 {p:Int} (hp:zi p=true) (a b c:Int×Int×Int):colB p a b c=true↔ev3 (qu (p3 (nn p) a) (p3 (nn p) b)) (p3 (nn p) c)=0:=by
 have e:ev3 (qu (p3 (nn p) a) (p3 (nn p) b)) (p3 (nn p) c)=fi (nn p) (c.1*(a.2.1*b.2.2 - a.2.2*b.2.1)+c.2.1*(a.2.2*b.1 - a.1*b.2.2)+c.2.2*(a.1*b.2.1 - a.2.1*b.1)):=by
  simp only[ev3,qu,p3,qct,qcp,qo5]
  grind
 rw[e,qa0 hp,colB,beq_iff_eq];exact⟨λh=>Int.dvd_of_emod_eq_zero h,λh=>Int.emod_eq_zero_of_dvd h⟩
theorem qb8 {p:Int} {Q L:List (Int×Int×Int)} {r:List Int}:r∈curP p Q L↔∃ t∈L,imgP p Q t=r/\r.all (λx=>x == 0)=false:=by
 rw[curP,List.mem_filter,List.mem_map];constructor
 ·rintro⟨⟨t,ht,e⟩,h⟩
  exact⟨t,ht,e,by simpa using h⟩
 ·rintro⟨t,ht,e,h⟩
  exact⟨⟨t,ht,e⟩,by rw[h];rfl⟩
theorem quf :∀ n:Nat,n < 15->endA ((n:Int)+6)≠endB ((n:Int)+6):=by decide+kernel
theorem qpp {kk:Int} (h:6<=kk/\kk < 21):endA kk≠endB kk:=by
 have:=quf (kk - 6).toNat (by omega)
 rwa [show (((kk - 6).toNat:Nat):Int)+6=kk by omega]at this
theorem qki {p:Int} {Q:List (Int×Int×Int)} (hg:genB p Q=true) (i j:Nat) (hi:i < 6) (hj:j < 6) (hij:i≠j):2<=Qx p 4 (curP p Q ((allP p.toNat).filter (colB p (Q.getD i (0,0,0)) (Q.getD j (0,0,0))))):=by
 obtain⟨hp,h6,_,_⟩:=j7 hg;have hF:=qa5 hp;have hG:=Jg hg;obtain⟨a,b,c,d,⟨ha,hb,hc,hd⟩,hne,h3⟩:=oth4 i j hi hj hij
 refine qms hg (qbv hg _) (mixP (ptL p Q i) (ptL p Q j) 1 1) (mixP (ptL p Q i) (ptL p Q j) 1 2) (lin6 (ptL p Q) i a j b c d) (lin6 (ptL p Q) i a j c b d) (qc0 _ i a j b c d λx hx=>by have:=h3 x hx;omega) (qc0 _ i a j c b d λx hx=>by have:=h3 x hx;omega)
  (qtw hF hG ⟨hi,hj,ha,hb,hc,hd⟩ hne (fp_1 hp) (fp_1 hp) (fp_1 hp) (fp_2 hp) (by have:=fp_1 hp;intro h;apply this;rw[<-h];grind)) λt ht s hs hz=>qb8.2 ⟨t,List.mem_filter.2 ⟨ht,?_⟩,rfl,hz⟩
 rw[qk3 hp];have z1:ev3 (qu (ptL p Q i) (ptL p Q j)) (ptL p Q i)=0:=Zt _ _;have z2:ev3 (qu (ptL p Q i) (ptL p Q j)) (ptL p Q j)=0:=J7 _ _;have hm:∀ u v:Fq (nn p),ev3 (qu (ptL p Q i) (ptL p Q j)) (mixP (ptL p Q i) (ptL p Q j) u v)=0:=λu v=>by rw[qa4,z1,z2];grind
 have hk:∀ X:Nat->Fq (nn p),(∀ i,i < 3->p3 (nn p) t i=s*X i)->ev3 (qu (ptL p Q i) (ptL p Q j)) (p3 (nn p) t)=s*ev3 (qu (ptL p Q i) (ptL p Q j)) X:=λX h=>by
  simp only[ev3];rw[h 0 (by omega),h 1 (by omega),h 2 (by omega)];grind
 show ev3 (qu (ptL p Q i) (ptL p Q j)) (p3 (nn p) t)=0
 rcases hs with h|h
 ·rw[hk _ h,hm];grind
 ·rw[hk _ h,hm];grind
theorem qll {p:Int} {Q:List (Int×Int×Int)} (hg:genB p Q=true) (i j:Nat) (hi:i < 6) (hj:j < 6) (hij:i≠j):Qx p 4 (curP p Q ((allP p.toNat).filter (colB p (Q.getD i (0,0,0)) (Q.getD j (0,0,0)))))<=2:=by
 obtain⟨hp,h6,_,_⟩:=j7 hg;have hF:=qa5 hp;have hG:=Jg hg;obtain⟨a,b,c,d,⟨ha,hb,hc,hd⟩,hne,h3⟩:=oth4 i j hi hj hij;obtain⟨l1,e1⟩:=qds hg i j a b c d h3;obtain⟨l2,e2⟩:=qds hg i j a c b d λx hx=>by have:=h3 x hx;omega
 obtain⟨x,y,q1,q2,q3,q4⟩:=qos hF (fp_1 hp) (fp_2 hp) hG ⟨hi,hj,ha,hb,hc,hd⟩ hne;have hz:∀ r∈curP p Q ((allP p.toNat).filter (colB p (Q.getD i (0,0,0)) (Q.getD j (0,0,0)))),∃ t,imgP p Q t=r/\ev3 (qu (ptL p Q i) (ptL p Q j)) (p3 (nn p) t)=0:=λr hr=>by
  obtain⟨t,ht,e,_⟩:=qb8.1 hr;exact⟨t,e,(qk3 hp _ _ _).1 (List.mem_filter.1 ht).2⟩
 refine qm4 hp (qbv hg _) l1 l2 (λz=>valC (basF p Q z) y) (λz=>valC (basF p Q z) x) (λr hr=>?_) (λr hr=>?_) ?_
 ·obtain⟨t,rfl,h⟩:=hz r hr
  rw[qa2 hg e1,Z5,h];grind
 ·obtain⟨t,rfl,h⟩:=hz r hr
  rw[qa2 hg e2,Z5,h];grind
 ·rw[<-qbc e1,<-qbc e1,<-qbc e2,<-qbc e2,q1,q4]
  have:=fnz hF q3 q2
  intro h;apply this;rw[<-h];grind
theorem qpc (w:Nat) (u v:Nat->Int):dt w u v=dt w v u:=by
 rw[dt,dt];congr 1;exact List.map_congr_left λj _=>Int.mul_comm _ _
def conF (p:Int) (Q:List (Int×Int×Int)) (m:Nat) (j:Nat):Fq (nn p):=rF p (conP p Q ((m:Int)+21)) j
theorem qk0 {p:Int} (hp:zi p=true) (r:List Int) (t:Int×Int×Int):p ∣ dt 6 (fn r) (fn (sqR p t))↔valQ (rF p r) (p3 (nn p) t)=0:=by
 have e:fi (nn p) (dt 6 (fn r) (fn (sqR p t)))=valQ (rF p r) (p3 (nn p) t):=by
  rw[qgy];simp only[sm,valQ,rF,p3];have e0:fn (sqR p t) 0=t.1*t.1 % p:=rfl;have e1:fn (sqR p t) 1=t.1*t.2.1 % p:=rfl;have e2:fn (sqR p t) 2=t.1*t.2.2 % p:=rfl;have e3:fn (sqR p t) 3=t.2.1*t.2.1 % p:=rfl;have e4:fn (sqR p t) 4=t.2.1*t.2.2 % p:=rfl;have e5:fn (sqR p t) 5=t.2.2*t.2.2 % p:=rfl;rw[e0,e1,e2,e3,e4,e5];simp only[qir hp,qcp]
  grind
 rw[<-qa0 hp,e]
theorem qqs (p:Int) (Q:List (Int×Int×Int)) (m:Nat):conP p Q ((m:Int)+21)=(Jd p 6 ((Q.take m++Q.drop (m+1)).map (sqR p))).getD 0 []:=by
 rw[conP,show ((m:Int)+21 - 21).toNat=m by omega,show ((m:Int)+21 - 20).toNat=m+1 by omega]
theorem qkz {p:Int} {Q:List (Int×Int×Int)} (hg:genB p Q=true) (m:Nat) (hm:m < 6):conP p Q ((m:Int)+21)∈Jd p 6 ((Q.take m++Q.drop (m+1)).map (sqR p)):=by
 obtain⟨hp,h6,_,_⟩:=j7 hg;have hl:((Q.take m++Q.drop (m+1)).map (sqR p)).length=5:=by simp[List.length_take,List.length_drop,h6];omega
 have hn:=qdu hp (qgp hp (Q.take m++Q.drop (m+1))) (by have:=qcg (p:=p) (w:=6) ((Q.take m++Q.drop (m+1)).map (sqR p));omega);rw[qqs];exact Zw (List.length_pos_iff.2 hn)
theorem qt4 {α:Type} (Q:List α) (d:α) (m i:Nat) (hi:i < Q.length) (hm:i≠m):Q.getD i d∈Q.take m++Q.drop (m+1):=by
 rw[List.getD_eq_getElem?_getD,List.getElem?_eq_getElem hi,Option.getD_some,List.mem_append]
 by_cases h:i < m
 ·exact .inl (List.mem_take_iff_getElem.2 ⟨i,by omega,rfl⟩)
 ·exact .inr (List.mem_drop_iff_getElem.2 ⟨i - (m+1),by omega,by congr 1;omega⟩)
theorem qdo {p:Int} {Q:List (Int×Int×Int)} (hg:genB p Q=true) (m:Nat) (hm:m < 6) (i:Nat) (hi:i < 6) (hne:i≠m):valQ (conF p Q m) (ptL p Q i)=0:=by
 obtain⟨hp,h6,_,_⟩:=j7 hg;obtain⟨N,e,_,h,_⟩:=Zr hp (qgp hp (Q.take m++Q.drop (m+1)));have hk:=qkz hg m hm;rw[e]at hk;obtain⟨z,hz,ez⟩:=List.mem_map.1 hk;have h1:=h z hz _ (List.mem_map.2 ⟨_,qt4 Q (0,0,0) m i (by omega) hne,rfl⟩);rw[ez]at h1;rw[qpc]at h1;exact(qk0 hp _ _).1 h1
theorem qek {p:Int} {Q:List (Int×Int×Int)} (hg:genB p Q=true) (m:Nat) (hm:m < 6):valQ (conF p Q m) (ptL p Q m)≠0:=λhz=>by
 obtain⟨hp,h6,_,hn⟩:=j7 hg;have hb:=zk hp;obtain⟨N,e,_,_,hc⟩:=Zr hp (qgp hp Q);have hs:=hc (fn (conP p Q ((m:Int)+21))) λr hr=>by
  obtain⟨t,ht,rfl⟩:=List.mem_map.1 hr;rw[qpc,qk0 hp];obtain⟨i,hi,rfl⟩:=List.mem_iff_getElem.1 ht;have hg':Q[i]=Q.getD i (0,0,0):=by rw[List.getD_eq_getElem?_getD,List.getElem?_eq_getElem hi];rfl
  rw[hg']
  by_cases him:i=m
  ·subst him;exact hz
  ·exact qdo hg m hm i (by omega) him
 rw[<-e,hn]at hs;obtain⟨N2,e2,hR,_,_⟩:=Zr hp (qgp hp (Q.take m++Q.drop (m+1)));have hk:=qkz hg m hm;rw[e2]at hk;obtain⟨z,hz2,ez⟩:=List.mem_map.1 hk
 cases hs with
 | zero _ h0=>
  have h1:=h0 z.1 (hR.lt z hz2);rw[<-ez,hR.one z hz2]at h1;exact J3 (by omega) h1
 | add _ _ _ _ hr _ _=>cases hr
def conS (p:Int) (Q:List (Int×Int×Int)) (m:Nat):List (List Int):=curP p Q ((allP p.toNat).filter λt=>dt 6 (fn (conP p Q ((m:Int)+21))) (fn (sqR p t)) % p == 0)
theorem qkv {p:Int} {Q:List (Int×Int×Int)} (hp:zi p=true) (m:Nat) (t:Int×Int×Int):(dt 6 (fn (conP p Q ((m:Int)+21))) (fn (sqR p t)) % p == 0)=true↔valQ (conF p Q m) (p3 (nn p) t)=0:=by
 rw[beq_iff_eq];exact⟨λh=>(qk0 hp _ _).1 (Int.dvd_of_emod_eq_zero h),λh=>Int.emod_eq_zero_of_dvd ((qk0 hp _ _).2 h)⟩
theorem qpq {p:Int} {Q:List (Int×Int×Int)} (hg:genB p Q=true) (m:Nat) (hm:m < 6):Qx p 4 (conS p Q m)<=2:=by
 obtain⟨hp,h6,_,_⟩:=j7 hg;have hF:=qa5 hp;have hG:=Jg hg;obtain⟨a,b,c,d,e,⟨ha,hb,hc,hd,he⟩,⟨ka,kb,kc,kd,ke,ab,ac,ad,ae,bc,bd,be,cd,ce,de⟩,h3⟩:=oth5 m hm;have qz:=λi (hi:i < 6) (h:i≠m)=>qdo hg m hm i hi h;have hv:∀ o,∀ x,x < 6->valC (qL (conF p Q m) (qu (ptL p Q m) (ptL p Q o))) (ptL p Q x)=0:=λo x hx=>by
  rw[qc9]
  by_cases hxm:x=m
  ·subst hxm;rw[show ev3 (qu (ptL p Q x) (ptL p Q o)) (ptL p Q x)=0 from Zt _ _];grind
  ·rw[qz x hx hxm];grind
 obtain⟨l1,e1⟩:=qdb hp h6 hG _ (hv a);obtain⟨l2,e2⟩:=qdb hp h6 hG _ (hv b);obtain⟨x,y,q1,q2,q3,q4⟩:=qnk hF (fp_1 hp) (fp_2 hp) hG ⟨hm,ha,hb⟩ ⟨ka,kb,ab⟩ (conF p Q m) (qz a ha (Ne.symm ka)) (qz b hb (Ne.symm kb)) (qek hg m hm);have hz:∀ r∈conS p Q m,∃ t,imgP p Q t=r/\valQ (conF p Q m) (p3 (nn p) t)=0:=λr hr=>by
  obtain⟨t,ht,e,_⟩:=qb8.1 hr;exact⟨t,e,(qkv hp m t).1 (List.mem_filter.1 ht).2⟩
 refine qm4 hp (qbv hg _) l1 l2 (λz=>valC (basF p Q z) y) (λz=>valC (basF p Q z) x) (λr hr=>?_) (λr hr=>?_) ?_
 ·obtain⟨t,rfl,h⟩:=hz r hr
  rw[qa2 hg e1,qc9,h];grind
 ·obtain⟨t,rfl,h⟩:=hz r hr
  rw[qa2 hg e2,qc9,h];grind
 ·rw[<-qbc e1,<-qbc e1,<-qbc e2,<-qbc e2,q1,q4]
  have:=fnz hF q3 q2
  intro h;apply this;rw[<-h];grind
theorem qeb {p:Int} {Q:List (Int×Int×Int)} (hg:genB p Q=true) {m u v a b c:Nat} (hk:m < 6/\u < 6/\v < 6/\a < 6/\b < 6/\c < 6) (hd:m≠u/\m≠v/\m≠a/\m≠b/\m≠c/\u≠v/\u≠a/\u≠b/\u≠c/\v≠a/\v≠b/\v≠c/\a≠b/\a≠c/\b≠c) (hall:∀ z,z < 6->z=m\/z=u\/z=v\/z=a\/z=b\/z=c)
  (pu:ev3 (polL (conF p Q m) (ptL p Q m)) (ptL p Q u)≠0) (pv:ev3 (polL (conF p Q m) (ptL p Q m)) (ptL p Q v)≠0):2<=Qx p 4 (conS p Q m):=by
 obtain⟨hp,h6,_,_⟩:=j7 hg;have hF:=qa5 hp;have hG:=Jg hg;have qm:=qek hg m hk.1;obtain⟨f,f0,fu,fv⟩:=qpe hF hG hk hd hall (conF p Q m) qm pv;obtain⟨g,g0,gv,gu⟩:=qpe hF hG (m:=m) (u:=v) (v:=u) (a:=a) (b:=b) (c:=c) ⟨hk.1,hk.2.2.1,hk.2.1,hk.2.2.2⟩ (by obtain⟨d1,d2,d3,d4,d5,d6,d7,d8,d9,d10,d11,d12,d13,d14,d15⟩:=hd;exact⟨d2,d1,d3,d4,d5,Ne.symm d6,d10,d11,d12,d7,d8,d9,d13,d14,d15⟩) (λz hz=>by have:=hall z hz;omega) (conF p Q m) qm pu;have cu:=qdo hg m hk.1 u hk.2.1 (Ne.symm hd.1);have cv:=qdo hg m hk.1 v hk.2.2.1 (Ne.symm hd.2.1);refine qms hg (qbv hg _) (secP (conF p Q m) (ptL p Q) m u) (secP (conF p Q m) (ptL p Q) m v) f g f0 g0 ?_ λt ht s hs hz=>qb8.2 ⟨t,List.mem_filter.2 ⟨ht,(qkv hp m t).2 ?_⟩,rfl,hz⟩
 ·rw[fu,gv]
  have:=fnz hF fv gu
  intro h;apply this;grind
 ·have hq:∀ X:Nat->Fq (nn p),(∀ i,i < 3->p3 (nn p) t i=s*X i)->valQ (conF p Q m) (p3 (nn p) t)=s*s*valQ (conF p Q m) X:=λX h=>by
   simp only[valQ];rw[h 0 (by omega),h 1 (by omega),h 2 (by omega)];grind
  rcases hs with h|h
  ·rw[hq _ h,qt9 _ _ _ _ cu];grind
  ·rw[hq _ h,qt9 _ _ _ _ cv];grind
theorem qqa {p:Int} {Q:List (Int×Int×Int)} (hg:genB p Q=true) (m:Nat) (hm:m < 6):2<=Qx p 4 (conS p Q m):=by
 obtain⟨hp,h6,_,_⟩:=j7 hg;have hF:=qa5 hp;have hG:=Jg hg;obtain⟨a,b,c,d,e,⟨ha,hb,hc,hd,he⟩,⟨ka,kb,kc,kd,ke,ab,ac,ad,ae,bc,bd,be,cd,ce,de⟩,h3⟩:=oth5 m hm;have hl:ev3 (polL (conF p Q m) (ptL p Q m)) (ptL p Q m)≠0:=by
  rw[qrw];exact fnz hF (fp_2 hp) (qek hg m hm)
 have t3:=λ(x y z:Nat) (hk:x < 6/\y < 6/\z < 6) (hd:x≠y/\y≠z/\x≠z) (h1:ev3 (polL (conF p Q m) (ptL p Q m)) (ptL p Q x)=0) (h2:ev3 (polL (conF p Q m) (ptL p Q m)) (ptL p Q y)=0) (h3:ev3 (polL (conF p Q m) (ptL p Q m)) (ptL p Q z)=0)=>qsd hF hG hk hd _ _ hl h1 h2 h3
 by_cases pa:ev3 (polL (conF p Q m) (ptL p Q m)) (ptL p Q a)=0
 ·by_cases pb:ev3 (polL (conF p Q m) (ptL p Q m)) (ptL p Q b)=0
  ·have pc:ev3 (polL (conF p Q m) (ptL p Q m)) (ptL p Q c)≠0:=λh=>t3 a b c ⟨ha,hb,hc⟩ ⟨ab,bc,ac⟩ pa pb h
   have pd:ev3 (polL (conF p Q m) (ptL p Q m)) (ptL p Q d)≠0:=λh=>t3 a b d ⟨ha,hb,hd⟩ ⟨ab,bd,ad⟩ pa pb h;exact qeb hg (u:=c) (v:=d) (a:=a) (b:=b) (c:=e) ⟨hm,hc,hd,ha,hb,he⟩ ⟨kc,kd,ka,kb,ke,cd,Ne.symm ac,Ne.symm bc,ce,Ne.symm ad,Ne.symm bd,de,ab,ae,be⟩ (λz hz=>by have:=h3 z hz;omega) pc pd
  ·by_cases pc:ev3 (polL (conF p Q m) (ptL p Q m)) (ptL p Q c)=0
   ·have pd:ev3 (polL (conF p Q m) (ptL p Q m)) (ptL p Q d)≠0:=λh=>t3 a c d ⟨ha,hc,hd⟩ ⟨ac,cd,ad⟩ pa pc h
    exact qeb hg (u:=b) (v:=d) (a:=a) (b:=c) (c:=e) ⟨hm,hb,hd,ha,hc,he⟩ ⟨kb,kd,ka,kc,ke,bd,Ne.symm ab,bc,be,Ne.symm ad,Ne.symm cd,de,ac,ae,ce⟩ (λz hz=>by have:=h3 z hz;omega) pb pd
   ·exact qeb hg (u:=b) (v:=c) (a:=a) (b:=d) (c:=e) ⟨hm,hb,hc,ha,hd,he⟩ ⟨kb,kc,ka,kd,ke,bc,Ne.symm ab,bd,be,Ne.symm ac,cd,ce,ad,ae,de⟩ (λz hz=>by have:=h3 z hz;omega) pb pc
 ·by_cases pb:ev3 (polL (conF p Q m) (ptL p Q m)) (ptL p Q b)=0
  ·by_cases pc:ev3 (polL (conF p Q m) (ptL p Q m)) (ptL p Q c)=0
   ·have pd:ev3 (polL (conF p Q m) (ptL p Q m)) (ptL p Q d)≠0:=λh=>t3 b c d ⟨hb,hc,hd⟩ ⟨bc,cd,bd⟩ pb pc h
    exact qeb hg (u:=a) (v:=d) (a:=b) (b:=c) (c:=e) ⟨hm,ha,hd,hb,hc,he⟩ ⟨ka,kd,kb,kc,ke,ad,ab,ac,ae,Ne.symm bd,Ne.symm cd,de,bc,be,ce⟩ (λz hz=>by have:=h3 z hz;omega) pa pd
   ·exact qeb hg (u:=a) (v:=c) (a:=b) (b:=d) (c:=e) ⟨hm,ha,hc,hb,hd,he⟩ ⟨ka,kc,kb,kd,ke,ac,ab,ad,ae,Ne.symm bc,cd,ce,bd,be,de⟩ (λz hz=>by have:=h3 z hz;omega) pa pc
  ·exact qeb hg (u:=a) (v:=b) (a:=c) (b:=d) (c:=e) ⟨hm,ha,hb,hc,hd,he⟩ ⟨ka,kb,kc,kd,ke,ab,ac,ad,ae,bc,bd,be,cd,ce,de⟩ (λz hz=>by have:=h3 z hz;omega) pa pb
theorem qdx {p:Int} {Q:List (Int×Int×Int)} (hg:genB p Q=true) {kk:Int} (h0:0<=kk) (h1:kk<=26):Qx p 4 (linR p Q kk)=2:=by
 unfold linR
 split
 ·have a:=qqj hg kk.toNat (by omega)
  have b:=qqk hg kk.toNat (by omega)
  omega
 ·split
  ·rename_i h6 h21
   have he:=qfc (kk:=kk) ⟨by omega,h21⟩;have a:=qki hg (endA kk) (endB kk) he.2.1 he.2.2 (qpp ⟨by omega,h21⟩);have b:=qll hg (endA kk) (endB kk) he.2.1 he.2.2 (qpp ⟨by omega,h21⟩);omega
  ·have a:=qqa hg (kk - 21).toNat (by omega)
   have b:=qpq hg (kk - 21).toNat (by omega)
   rw[conS,show (((kk - 21).toNat:Nat):Int)+21=kk by omega]at a b;omega
def lowN (e i j:Nat):Nat:=if i=j then e - 1 else e
def pckN (e:Nat×Nat×Nat) (j:Nat):Nat:=if j=0 then e.1 else if j=1 then e.2.1 else e.2.2
theorem qne (x:Int×Int×Int) (e:Nat×Nat×Nat) (j:Nat) (hj:j < 3):dmo x (vX j) e=(pckN e j:Int)*(x.1 ^ lowN e.1 0 j*x.2.1 ^ lowN e.2.1 1 j*x.2.2 ^ lowN e.2.2 2 j):=by
 rcases (show j=0\/j=1\/j=2 by omega) with rfl|rfl|rfl<;>simp[dmo,vX,l7V,pckN,lowN]
theorem qlc (e i j:Nat) (he:e<=3) (h:i=j->e≠0):isL (e:Int) i j=((lowN e i j:Nat):Int):=by
 unfold isL lowN
 split
 ·have:=h (by assumption)
  rw[wsm (by omega) (by omega)];omega
 ·rfl
theorem mulB {a b A B:Int} (ha:0<=a/\a<=A) (hb:0<=b/\b<=B):0<=a*b/\a*b<=A*B:=⟨Int.mul_nonneg ha.1 hb.1,Int.mul_le_mul ha.2 hb.2 hb.1 (Int.le_trans ha.1 ha.2)⟩
theorem D0 {p:Int} (hp:7<=p/\p<=31) {x:Int×Int×Int} (hx:inP p x) (ai:Int) (hai:0<=ai/\ai < p) (t:Nat) (ht:t<=3) (a0 a1 a2:Nat) (h0:a0<=3) (h1:a1<=3) (h2:a2<=3):Ev (λk=>isT k ai (t:Int) x.1 x.2.1 x.2.2 (a0:Int) (a1:Int) (a2:Int)) (ai*((t:Int)*(x.1 ^ a0*x.2.1 ^ a1*x.2.2 ^ a2))):=by
 obtain⟨b0,b1,b2⟩:=hx;have c0:=qbr hp.2 b0 a0 h0;have c1:=qbr hp.2 b1 a1 h1;have c2:=qbr hp.2 b2 a2 h2;have d0:=mulB (a:=ai) (b:=(t:Int)) (A:=30) (B:=3) (by omega) (by omega);have d1:=mulB d0 c0;have d2:=mulB d1 c1;have d3:=mulB d2 c2;unfold isT;refine Ev.bind (qcy hp.2 b0 a0 h0) (Ev.bind (qcy hp.2 b1 a1 h1) (Ev.bind (qcy hp.2 b2 a2 h2) ?_));rw[wsm (i:=ai*(t:Int)) (by omega) (by omega),wsm (i:=ai*(t:Int)*x.1 ^ a0) (by omega) (by omega),wsm (i:=ai*(t:Int)*x.1 ^ a0*x.2.1 ^ a1) (by omega) (by omega),wsm (by omega) (by omega)];rw[show ai*(t:Int)*x.1 ^ a0*x.2.1 ^ a1*x.2.2 ^ a2=ai*((t:Int)*(x.1 ^ a0*x.2.1 ^ a1*x.2.2 ^ a2)) by simp only[Int.mul_assoc]];exact Ev.now _
theorem Dw {p:Int} (hp:7<=p/\p<=31) {x:Int×Int×Int} (hx:inP p x) (ai:Int) (hai:0<=ai/\ai < p) (j:Nat) (hj:j < 3) (i:Nat) (hi:i < 10):0<=ai*dmo x (vX j) (powN.getD i (0,0,0))/\ai*dmo x (vX j) (powN.getD i (0,0,0))<=1800000000000000:=by
 obtain⟨_,_,_,g0,g1,g2⟩:=qee i hi;have lw:∀ e i j:Nat,e<=3->lowN e i j<=3:=λe i j h=>by unfold lowN;split<;>omega
 have pk:pckN (powN.getD i (0,0,0)) j<=3:=by unfold pckN;split;exact g0;split;exact g1;exact g2
 rw[qne x _ j hj];have c0:=qbr hp.2 hx.1 _ (lw _ 0 j g0);have c1:=qbr hp.2 hx.2.1 _ (lw _ 1 j g1);have c2:=qbr hp.2 hx.2.2 _ (lw _ 2 j g2);have d1:=mulB c0 c1;have d2:=mulB d1 c2;have d3:=mulB (a:=((pckN (powN.getD i (0,0,0)) j:Nat):Int)) (A:=3) (by omega) d2;have d4:=mulB (a:=ai) (A:=30) (by omega) d3;omega
theorem DG {p:Int} (hp:7<=p/\p<=31) {x:Int×Int×Int} (hx:inP p x) (a:List Int) (ha:a.length=10/\∀ x∈a,0<=x/\x < p) (j:Nat) (hj:j < 3):∀ (d i:Nat) (n:Int),i+d=10->0<=n->n<=i*1800000000000000->Ev (λk=>isI k a x.1 x.2.1 x.2.2 j powL d i n) (n+slpS a x (vX j) d i)/\0<=slpS a x (vX j) d i/\slpS a x (vX j) d i<=d*1800000000000000:=by
 intro d
 induction d with
 | zero=>
  intro i n _ _ _;exact⟨by rw[slpS,Int.add_zero];exact Ev.now _,by rw[slpS];omega,by rw[slpS];omega⟩
 | succ d ihd=>
  intro i n hi h0 h1;have hai:0<=rd a (i:Int)/\rd a (i:Int) < p:=Zi ha i (by omega);obtain⟨e0,e1,e2,g0,g1,g2⟩:=qee i (by omega);have hb:=Dw hp hx (rd a (i:Int)) hai j hj i (by omega);obtain⟨ih,i0,i1⟩:=ihd (i+1) (n+rd a (i:Int)*dmo x (vX j) (powN.getD i (0,0,0))) (by omega) (by omega) (by omega);refine⟨?_,by rw[slpS];omega,by rw[slpS];omega⟩;have hz:isE ((powN.getD i (0,0,0)).1:Int) ((powN.getD i (0,0,0)).2.1:Int) ((powN.getD i (0,0,0)).2.2:Int) j=((pckN (powN.getD i (0,0,0)) j:Nat):Int):=by
   unfold isE pckN;split;rfl;split<;>rfl
  refine Ev.congr (λk=>by rw[isI,e0,e1,e2,hz]) ?_;have hu:=qne x (powN.getD i (0,0,0)) j hj
  by_cases hk:((pckN (powN.getD i (0,0,0)) j:Nat):Int)=0
  ·refine Ev.yes hk ?_
   rw[hk,Int.zero_mul]at hu;rw[hu,Int.mul_zero,Int.add_zero]at ih;rw[slpS,hu,Int.mul_zero,Int.zero_add];exact ih
  ·have n0:0=j->(powN.getD i (0,0,0)).1≠0:=λh e=>hk (by rw[<-h];unfold pckN;rw[if_pos rfl,e];rfl)
   have n1:1=j->(powN.getD i (0,0,0)).2.1≠0:=λh e=>hk (by rw[<-h];unfold pckN;rw[if_neg (by omega),if_pos rfl,e];rfl);have n2:2=j->(powN.getD i (0,0,0)).2.2≠0:=λh e=>hk (by rw[<-h];unfold pckN;rw[if_neg (by omega),if_neg (by omega),e];rfl);have lw:∀ e i j:Nat,e<=3->lowN e i j<=3:=λe i j h=>by unfold lowN;split<;>omega
   have pk:pckN (powN.getD i (0,0,0)) j<=3:=by unfold pckN;split;exact g0;split;exact g1;exact g2
   refine Ev.no hk (Ev.yes (by omega) ?_);rw[qlc _ 0 j g0 n0,qlc _ 1 j g1 n1,qlc _ 2 j g2 n2];refine Ev.bind (D0 hp hx _ hai _ pk _ _ _ (lw _ _ _ g0) (lw _ _ _ g1) (lw _ _ _ g2)) ?_;rw[<-hu,wsm (by omega) (by omega),slpS,<-Int.add_assoc];exact ih
theorem qrm {p:Int} (hp:7<=p/\p<=31) {x:Int×Int×Int} (hx:inP p x) (a:List Int) (ha:a.length=10/\∀ x∈a,0<=x/\x < p):Ev (λk=>Q6.f k p a x.1 x.2.1 x.2.2) [slpP p a x (vX 0),slpP p a x (vX 1),slpP p a x (vX 2)]:=by
 have one:∀ (d j:Nat) (acc r:List Int),j < 3->Ev (λk=>isD k p a x.1 x.2.1 x.2.2 d (j+1) (acc++[slpP p a x (vX j)])) r->Ev (λk=>isD k p a x.1 x.2.1 x.2.2 (d+1) j acc) r:=λd j acc r hj hr=>by
  obtain⟨h1,h2,h3⟩:=DG hp hx a ha j hj 10 0 0 rfl (by omega) (by omega);rw[Int.zero_add]at h1;refine Ev.congr (λk=>by rw[isD]) ?_;refine Ev.bind qp6 (Ev.yes (by decide) (Ev.bind h1 ?_));refine Ev.bind (Ev.k (qfz p (slpS a x (vX j) 10 0) (by omega))) ?_;rw[qd9 hp h2];exact hr
 unfold Q6.f;exact one 2 0 [] _ (by omega) (one 1 1 _ _ (by omega) (one 0 2 _ _ (by omega) (Ev.now _)))
theorem qt2 {p:Int} (hp:7<=p/\p<=31) {B:List (List Int)} (hB:∀ i,i < B.length->(B.getD i []).length=10/\∀ x∈B.getD i [],0<=x/\x < p) (X:S51) (hx:inP p (tpl X)) (c:Nat) (hc:c < 3):∀ (d i:Nat) (acc:List Int),i+d=B.length->Ev (λk=>sfR k p B X c d i acc) (acc++(List.range' i d).map λi=>slpP p (B.getD i []) (tpl X) (vX c))
 | 0,i,acc,_=>by simp only[List.range'_zero,List.map_nil,List.append_nil];exact Ev.now _
 | d + 1, i, acc, h => by
  have hs:=qrm hp hx (B.getD i []) (hB i (by omega));refine Ev.congr (λk=>by rw[sfR]) ?_;refine Ev.bind hs (Ev.yes (by simpa using hc) ?_);have e:rd [slpP p (B.getD i []) (tpl X) (vX 0),slpP p (B.getD i []) (tpl X) (vX 1),slpP p (B.getD i []) (tpl X) (vX 2)] (c:Int)=slpP p (B.getD i []) (tpl X) (vX c):=by
   rcases (show c=0\/c=1\/c=2 by omega) with rfl|rfl|rfl<;>rfl
  rw[e];have ih:=qt2 hp hB X hx c hc d (i+1) (acc++[slpP p (B.getD i []) (tpl X) (vX c)]) (by omega);rw[List.range'_succ,List.map_cons];rw[List.append_assoc]at ih;exact ih
theorem qvl {p:Int} (hp:7<=p/\p<=31) {B:List (List Int)} (h4:B.length=4) (hB:∀ i,i < B.length->(B.getD i []).length=10/\∀ x∈B.getD i [],0<=x/\x < p) (X:S51) (hx:inP p (tpl X)):Ev (λk=>sfRs k p B X 3 0 []) ((List.range 3).map (rowS p B (tpl X))):=by
 have one:∀ (d c:Nat) (acc r:List (List Int)),c < 3->Ev (λk=>sfRs k p B X d (c+1) (acc++[rowS p B (tpl X) c])) r->Ev (λk=>sfRs k p B X (d+1) c acc) r:=λd c acc r hc hr=>by
  have h:=qt2 hp hB X hx c hc B.length 0 [] (by omega);rw[h4,<-List.range_eq_range',List.nil_append]at h;refine Ev.congr (λk=>by rw[sfRs,h4]) ?_;exact Ev.bind h hr
 exact one 2 0 [] _ (by omega) (one 1 1 _ _ (by omega) (one 0 2 _ _ (by omega) (Ev.now _)))
theorem qsc {p:Int} (hp:7<=p/\p<=31) {r:List S51}:∀ (d i:Nat) (acc:List S51),((i+d:Nat):Int)=p->acc.length+d<=1000000->Ev (λk=>q9.l1 k p (acc++((List.range' i d).map λ(n:Nat)=>(0,1,(n:Int))).map mkT) p 0) r->Ev (λk=>q9.l0 k p acc p (i:Int)) r
 | 0,i,acc,h,_,hr=>by
  simp only[List.range'_zero,List.map_nil,List.append_nil]at hr;exact Ev.step (λk=>by rw[q9.l0,if_neg (by omega)]) hr
 | d+1,i,acc,h,hl,hr=>by
  refine Ev.step (λk=>by rw[q9.l0,if_pos (by omega),if_pos (by omega),wsm (by omega) (by omega)];rfl) (qsc hp d (i+1) (acc++[mkT (0,1,(i:Int))]) (by omega) (by rw[List.length_append,List.length_singleton];omega) ?_);rw[List.append_assoc];exact hr
theorem qs1 {p:Int} (hp:7<=p/\p<=31) {r:List S51} (a:Nat) (ha:a < 40):∀ (d i:Nat) (acc:List S51),((i+d:Nat):Int)=p->acc.length+d<=1000000->Ev (λk=>q9.l1 k p (acc++((List.range' i d).map λ(b:Nat)=>(1,(a:Int),(b:Int))).map mkT) p ((a+1:Nat):Int)) r->Ev (λk=>q9.l2 k p acc (a:Int) p (a:Int) p (i:Int)) r
 | 0,i,acc,h,_,hr=>by
  simp only[List.range'_zero,List.map_nil,List.append_nil]at hr;exact Ev.step (λk=>by rw[q9.l2,if_neg (by omega),wsm (by omega) (by omega)];rfl) hr
 | d+1,i,acc,h,hl,hr=>by
  refine Ev.step (λk=>by rw[q9.l2,if_pos (by omega),if_pos (by omega),wsm (by omega) (by omega)];rfl) (qs1 hp a ha d (i+1) (acc++[mkT (1,(a:Int),(i:Int))]) (by omega) (by rw[List.length_append,List.length_singleton];omega) ?_);rw[List.append_assoc];exact hr
theorem qs6 {p:Int} (hp:7<=p/\p<=31):∀ (d a:Nat) (acc:List S51),((a+d:Nat):Int)=p->acc.length+d*31<=1000000->Ev (λk=>q9.l1 k p acc p (a:Int)) (acc++((List.range' a d).flatMap λ(a:Nat)=>(List.range p.toNat).map λ(b:Nat)=>(1,(a:Int),(b:Int))).map mkT)
 | 0,a,acc,h,_=>by
  simp only[List.range'_zero,List.flatMap_nil,List.map_nil,List.append_nil];exact Ev.step (f:=λ_=>some acc) (λk=>by rw[q9.l1,if_neg (by omega)]) (Ev.now _)
 | d+1,a,acc,h,hl=>by
  have ih:=qs6 hp d (a+1) (acc++((List.range' 0 p.toNat).map λ(b:Nat)=>(1,(a:Int),(b:Int))).map mkT) (by omega) (by rw[List.length_append,List.length_map,List.length_map,List.length_range'];omega);have hc:=qs1 hp a (by omega) p.toNat 0 acc (by omega) (by omega) ih;rw[List.range'_succ,List.flatMap_cons,List.map_append,<-List.append_assoc];rw[<-List.range_eq_range']at hc;exact Ev.step (λk=>by rw[q9.l1,if_pos (by omega)];rfl) hc
theorem quv {p:Int} (hp:7<=p/\p<=31):Ev (λk=>q9.f k p) ((allP p.toNat).map mkT):=by
 have hb:=qs6 hp p.toNat 0 ([mkT (0,0,1)]++((List.range' 0 p.toNat).map λ(n:Nat)=>(0,1,(n:Int))).map mkT) (by omega) (by simp only[List.length_append,List.length_map,List.length_range',List.length_singleton];omega);have h:=qsc hp p.toNat 0 [mkT (0,0,1)] (by omega) (by simp only[List.length_singleton];omega) hb;rw[<-List.range_eq_range']at h;unfold q9.f;have e:([mkT (0,0,1)]++((List.range p.toNat).map λ(n:Nat)=>(0,1,(n:Int))).map mkT++((List.range p.toNat).flatMap λ(a:Nat)=>(List.range p.toNat).map λ(b:Nat)=>(1,(a:Int),(b:Int))).map mkT)=(allP p.toNat).map mkT:=by
  unfold allP;rw[List.map_cons,List.map_append,List.append_assoc]
  rfl
 rw[e]at h;exact h
theorem qtz :∀ n:Nat,n < 15->jj.f 40 (n:Int)=some (((endA ((n:Int)+6):Nat):Int),((endB ((n:Int)+6):Nat):Int)):=by decide+kernel
theorem qvm {kk:Int} (h:6<=kk/\kk < 21):Ev (λk=>jj.f k (wrap64 (kk - 6))) (((endA kk:Nat):Int),((endB kk:Nat):Int)):=by
 have:=qtz (kk - 6).toNat (by omega)
 rw[show (((kk - 6).toNat:Nat):Int)+6=kk by omega,show (((kk - 6).toNat:Nat):Int)=kk - 6 by omega]at this;rw[wsm (by omega) (by omega)];exact Ev.of (jj.mono _) this
theorem qn2 {p:Int} (hp:zi p=true) {x y:Int} (hx:0<=x/\x < p) (hy:0<=y/\y < p) (h:fi (nn p) x=fi (nn p) y):x=y:=qdi hx hy ((qpb hp x y).1 h)
def qjl (t:Int×Int×Int):Prop:=t.1=1\/(t.1=0/\t.2.1=1)\/(t.1=0/\t.2.1=0/\t.2.2=1)
theorem qs5 {p:Nat}:∀ t∈allP p,qjl t:=λt ht=>by
 unfold allP at ht
 rcases List.mem_cons.1 ht with rfl|h
 ·exact .inr (.inr ⟨rfl,rfl,rfl⟩)
 ·rcases List.mem_append.1 h with h|h
  ·obtain⟨n,_,rfl⟩:=List.mem_map.1 h
   exact .inr (.inl ⟨rfl,rfl⟩)
  ·obtain⟨a,_,h⟩:=List.mem_flatMap.1 h
   obtain⟨b,_,rfl⟩:=List.mem_map.1 h;exact .inl rfl
theorem qtt {p:Int} {t:Int×Int×Int} (h:ptB p t.1 t.2.1 t.2.2=true):qjl t:=by
 unfold ptB qav at h;rw[Bool.and_eq_true]at h;have h2:=h.2;simp only[List.find?_cons,List.find?_nil]at h2;unfold qjl
 by_cases h0:t.1=0
 ·by_cases h1:t.2.1=0
  ·by_cases h2':t.2.2=0
   ·simp[h0,h1,h2']at h2
   ·rw[show (t.1 !=0)=false by simp[h0],show (t.2.1 !=0)=false by simp[h1],show (t.2.2 !=0)=true by simp[h2']]at h2
    exact .inr (.inr ⟨h0,h1,by simpa using h2⟩)
  ·rw[show (t.1 !=0)=false by simp[h0],show (t.2.1 !=0)=true by simp[h1]]at h2
   exact .inr (.inl ⟨h0,by simpa using h2⟩)
 ·rw[show (t.1 !=0)=true by simp[h0]]at h2
  exact .inl (by simpa using h2)
theorem qvh {p:Int} (hp:zi p=true) {a b:Int×Int×Int} (ha:inP p a) (hb:inP p b) (na:qjl a) (nb:qjl b) (h:¬ offP (p3 (nn p) a) (p3 (nn p) b)):a=b:=by
 have e:∀ c:Fq (nn p),¬ (c≠0)->c=0:=λc h=>Classical.byContradiction h;have z0:=e _ λq=>h (.inl q);have z1:=e _ λq=>h (.inr (.inl q));have z2:=e _ λq=>h (.inr (.inr q));have one:=qdr hp;have hne:=fp_1 hp;simp only[qu,p3]at z0 z1 z2;obtain⟨a0,a1,a2⟩:=a;obtain⟨b0,b1,b2⟩:=b;simp only[qjl,inP]at*;obtain⟨ra0,ra1,ra2⟩:=ha;obtain⟨rb0,rb1,rb2⟩:=hb;have zz:=qa3 (nn p);have fin:fi (nn p) a0=fi (nn p) b0->fi (nn p) a1=fi (nn p) b1->fi (nn p) a2=fi (nn p) b2->(a0,a1,a2)=(b0,b1,b2):=λh0 h1 h2=>by
  rw[qn2 hp ra0 rb0 h0,qn2 hp ra1 rb1 h1,qn2 hp ra2 rb2 h2]
 rcases na with rfl|⟨rfl,rfl⟩|⟨rfl,rfl,rfl⟩<;>rcases nb with rfl|⟨rfl,rfl⟩|⟨rfl,rfl,rfl⟩<;>(simp only[one,zz]at z0 z1 z2 fin)
 ·exact fin trivial (by grind) (by grind)
 ·refine absurd (show (1:Fq (nn p))=0 from ?_) hne
  clear fin h e
  first|grind|(rw[<-z0];grind)|(rw[<-z1];grind)|(rw[<-z2];grind)
 ·refine absurd (show (1:Fq (nn p))=0 from ?_) hne
  clear fin h e
  first|grind|(rw[<-z0];grind)|(rw[<-z1];grind)|(rw[<-z2];grind)
 ·refine absurd (show (1:Fq (nn p))=0 from ?_) hne
  clear fin h e
  first|grind|(rw[<-z0];grind)|(rw[<-z1];grind)|(rw[<-z2];grind)
 ·exact fin trivial trivial (by grind)
 ·refine absurd (show (1:Fq (nn p))=0 from ?_) hne
  clear fin h e
  first|grind|(rw[<-z0];grind)|(rw[<-z1];grind)|(rw[<-z2];grind)
 ·refine absurd (show (1:Fq (nn p))=0 from ?_) hne
  clear fin h e
  first|grind|(rw[<-z0];grind)|(rw[<-z1];grind)|(rw[<-z2];grind)
 ·refine absurd (show (1:Fq (nn p))=0 from ?_) hne
  clear fin h e
  first|grind|(rw[<-z0];grind)|(rw[<-z1];grind)|(rw[<-z2];grind)
 ·rfl
theorem qo2 (Q:List (Int×Int×Int)) (i:Nat) (h:i < Q.length):Q.getD i (0,0,0)∈Q:=by
 rw[List.getD_eq_getElem?_getD,List.getElem?_eq_getElem h];exact List.getElem_mem h
theorem qsu {p:Int} {Q:List (Int×Int×Int)} (hg:genB p Q=true) (t:Int×Int×Int) (ht:t∈allP p.toNat) (hn:t ∉ Q):(imgP p Q t).all (λx=>x == 0)=false:=by
 obtain⟨hp,h6,ha,_⟩:=j7 hg;have hb:=zk hp;have hG:=Jg hg;have hin:=qfl (p:=p) ⟨by omega,by omega⟩ t ht;have hoff:∀ i,i < 6->offP (ptL p Q i) (p3 (nn p) t):=λi hi=>Classical.byContradiction λh=>hn (by
  have hpt:=(qa7 ha).1 i (by omega)
  have:=qvh hp (qdc hpt) hin (qtt hpt) (qs5 t ht) h
  rw[<-this];exact qo2 Q i (by omega))
 obtain⟨v,v0,v1⟩:=qq7 (qa5 hp) hG hoff;obtain⟨l,e⟩:=qdb hp h6 hG v v0;have hl:=qa2 hg e t
 cases hz:(imgP p Q t).all (λx=>x == 0) with
 | false=>rfl
 | true=>
  exfalso
  apply v1
  rw[<-hl];have z:∀ j,rF p (imgP p Q t) j=0:=λj=>by
   have:fn (imgP p Q t) j=0:=by
    by_cases hj:j < (imgP p Q t).length
    ·have:=List.all_eq_true.1 hz ((imgP p Q t)[j]) (List.getElem_mem hj)
     rw[fn,Jo (imgP p Q t) j hj];simpa using this
    ·simp[fn,rd,List.getD_eq_getElem?_getD,List.getElem?_eq_none (Nat.le_of_not_lt hj)]
   rw[rF,this,qa3]
  simp only[lin4];rw[z,z,z,z];grind
theorem img_z {p:Int} {Q:List (Int×Int×Int)} (hg:genB p Q=true) (j:Nat) (hj:j < Q.length):(imgP p Q (Q.getD j (0,0,0))).all (λx=>x == 0)=true:=by
 obtain⟨hp,h6,_,_⟩:=j7 hg;have hb:=zk hp;rw[List.all_eq_true];intro x hx;have hr:=qea hp Q (Q.getD j (0,0,0)) x hx;obtain⟨r,hr2,rfl⟩:=List.mem_map.1 hx;obtain⟨i,hi,rfl⟩:=qd3 hr2;have h1:=qql hp ((basP p Q).getD i []) (Q.getD j (0,0,0));have h2:=qlu hp (Q:=Q) i j hi hj;rw[show p3 (nn p) (Q.getD j (0,0,0))=ptL p Q j from rfl,show (λj=>fi (nn p) (fn ((basP p Q).getD i []) j))=basF p Q i from rfl,h2,qa0 hp]at h1;obtain⟨c,hc⟩:=h1
 have:c=0:=by
  rcases (show c<=-1\/c=0\/1<=c by omega) with h|h|h
  ·have:=Int.mul_le_mul_of_nonneg_left h (show 0<=p by omega);omega
  ·exact h
  ·have:=Int.mul_le_mul_of_nonneg_left h (show 0<=p by omega);omega
 rw[this,Int.mul_zero]at hc;rw[hc];rfl
theorem qva {p:Int} (hp:zi p=true) {w:Nat} {L:List (List Int)} {r:List Int} (hr:r.length=w/\∀ x∈r,0<=x/\x < p) (h:Sp p w L (fn r)):Sp p w L (fn (rowP p r)):=by
 refine(h.scale (invP p (Jn r))).congr λj hj=>?_;have e:fn (rowP p r) j=fn r j*invP p (Jn r) % p:=by
  show fn (Jk p (invP p (Jn r)) r) j=_
  exact qfd hr.1 hj
 rw[e]
 have:=Je (fn r j*invP p (Jn r)) p
 rw[Int.mul_comm (invP p (Jn r)) (fn r j)];have h2:fn r j*invP p (Jn r) % p - fn r j*invP p (Jn r)=-(fn r j*invP p (Jn r) - fn r j*invP p (Jn r) % p):=by omega
 rw[h2];exact(Int.dvd_neg).2 this
theorem qqb :∀ {r:List Int},r.all (λx=>x == 0)=false->Jn r≠0
 | [],h=>by simp at h
 | x :: r,h=>by
  rw[qdh]
  by_cases hx:x=0
  ·rw[if_pos hx];exact qqb (by simpa [hx] using h)
  ·rw[if_neg hx];exact hx
theorem qvk {p:Int} (hp:zi p=true) {w:Nat} {L:List (List Int)} {r:List Int} (hr:r.length=w/\∀ x∈r,0<=x/\x < p) (hz:r.all (λx=>x == 0)=false) (h:Sp p w L (fn (rowP p r))):Sp p w L (fn r):=by
 have hb:=zk hp;have hh:=qmz hr.2 (by omega);have hi:=(J1 hp hh.1 hh.2).2.2.2.1 (qqb hz);refine(h.scale (Jn r)).congr λj hj=>?_;have e:fn (rowP p r) j=fn r j*invP p (Jn r) % p:=by
  show fn (Jk p (invP p (Jn r)) r) j=_
  exact qfd hr.1 hj
 rw[e];have h1:p ∣ Jn r*invP p (Jn r) - 1:=by have:=Je (Jn r*invP p (Jn r)) p;rwa [hi]at this
 have h2:=Je (fn r j*invP p (Jn r)) p;refine Z7 (-(fn r j)) (Jn r) h1 h2 ?_;generalize fn r j*invP p (Jn r) % p=m;generalize invP p (Jn r)=b;generalize Jn r=c;generalize fn r j=a
 grind
def curI (p:Int) (Q L:List (Int×Int×Int)):List (List Int):=(L.filter λt=>decide (t ∉ Q)).map λt=>rowP p (imgP p Q t)
theorem qg9 {p:Int} {Q:List (Int×Int×Int)} (hg:genB p Q=true) (t:Int×Int×Int):(imgP p Q t).length=4/\∀ x∈imgP p Q t,0<=x/\x < p:=⟨qii hg t,qea (j7 hg).1 Q t⟩
theorem qpk {p:Int} {Q:List (Int×Int×Int)} (hg:genB p Q=true) (L:List (Int×Int×Int)):okR p 4 (curI p Q L):=λr hr=>by
 have hb:=zk (j7 hg).1;obtain⟨t,_,rfl⟩:=List.mem_map.1 hr;refine⟨by rw[rowP,List.length_map];exact(qg9 hg t).1,λx hx=>?_⟩;obtain⟨y,_,rfl⟩:=List.mem_map.1 hx;exact⟨Int.emod_nonneg _ (by omega),Int.emod_lt_of_pos _ (by omega)⟩
theorem qtq {p:Int} {Q:List (Int×Int×Int)} (hg:genB p Q=true) (L:List (Int×Int×Int)) (hL:∀ t∈L,t∈allP p.toNat):Jj p 4 (curI p Q L)=Jj p 4 (curP p Q L):=by
 obtain⟨hp,h6,_,_⟩:=j7 hg;unfold Jj;rw[qlv hp (qpk hg L) (qbv hg L) (λr hr=>?_) (λr hr=>?_)]
 ·obtain⟨t,ht,rfl⟩:=List.mem_map.1 hr
  obtain⟨h1,h2⟩:=List.mem_filter.1 ht;exact qva hp (qg9 hg t) (Sp.mem (qb8.2 ⟨t,h1,rfl,qsu hg t (hL t h1) (by simpa using h2)⟩))
 ·obtain⟨t,ht,rfl,hz⟩:=qb8.1 hr
  refine qvk hp (qg9 hg t) hz (Sp.mem (List.mem_map.2 ⟨t,List.mem_filter.2 ⟨ht,?_⟩,rfl⟩));refine decide_eq_true λhq=>?_;obtain⟨i,hi,e⟩:=List.mem_iff_getElem.1 hq
  have:=img_z hg i hi
  rw[List.getD_eq_getElem?_getD,List.getElem?_eq_getElem hi,Option.getD_some,e,hz]at this
  cases this
theorem qnx (p x y z:Int):qar.f p x y z=some (ptB p x y z):=by
 unfold qar.f;have e:=qi4 p [x,y,z] 3;rw[show ((3:Nat):Int)=3 from rfl]at e;rw[e,Option.bind_some,ptB]
 cases h:Zz p [x,y,z] 3<;>rfl
def crsI (a b:Int×Int×Int):List Int:=[a.2.1*b.2.2 - a.2.2*b.2.1,a.2.2*b.1 - a.1*b.2.2,a.1*b.2.1 - a.2.1*b.1]
theorem qjp {p:Int} (hp:7<=p/\p<=31) (a b:Int×Int×Int) (ha:inP p a) (hb:inP p b):Zo.f a.1 a.2.1 a.2.2 b.1 b.2.1 b.2.2=some (crsI a b):=by
 obtain⟨a0,a1,a2⟩:=ha;obtain⟨b0,b1,b2⟩:=hb;have m1:=Q1 hp a1 b2;have m2:=Q1 hp a2 b1;have m3:=Q1 hp a2 b0;have m4:=Q1 hp a0 b2;have m5:=Q1 hp a0 b1;have m6:=Q1 hp a1 b0;unfold Zo.f
 rw[wsm (i:=a.2.1*b.2.2) (by omega) (by omega),wsm (i:=a.2.2*b.2.1) (by omega) (by omega),wsm (i:=a.2.2*b.1) (by omega) (by omega),wsm (i:=a.1*b.2.2) (by omega) (by omega),wsm (i:=a.1*b.2.1) (by omega) (by omega),wsm (i:=a.2.1*b.1) (by omega) (by omega),
  wsm (by omega) (by omega),wsm (by omega) (by omega),wsm (by omega) (by omega)]
 rfl
theorem qkw {p u y:Int} (hp:7<=p/\p<=31) (hu:-900<=u/\u<=900) (hy:0<=y/\y < p):-30000<=u*y/\u*y<=30000:=by
 obtain⟨y0,y1⟩:=hy;have h1:u*y<=900*y:=Int.mul_le_mul_of_nonneg_right hu.2 y0;have h2:-900*y<=u*y:=Int.mul_le_mul_of_nonneg_right hu.1 y0;omega
theorem qjd {p:Int} (hp:7<=p/\p<=31) (a b c:Int×Int×Int) (ha:inP p a) (hb:inP p b) (hc:inP p c):Ev (λk=>j4.f k p (crsI a b) [c.1,c.2.1,c.2.2]) (((a.2.1*b.2.2 - a.2.2*b.2.1)*c.1+(a.2.2*b.1 - a.1*b.2.2)*c.2.1+(a.1*b.2.1 - a.2.1*b.1)*c.2.2) % p):=by
 obtain⟨a0,a1,a2⟩:=ha;obtain⟨b0,b1,b2⟩:=hb;obtain⟨c0,c1,c2⟩:=hc;have m1:=Q1 hp a1 b2;have m2:=Q1 hp a2 b1;have m3:=Q1 hp a2 b0;have m4:=Q1 hp a0 b2;have m5:=Q1 hp a0 b1;have m6:=Q1 hp a1 b0;have d1:=qkw hp (u:=a.2.1*b.2.2 - a.2.2*b.2.1) (by omega) c0;have d2:=qkw hp (u:=a.2.2*b.1 - a.1*b.2.2) (by omega) c1;have d3:=qkw hp (u:=a.1*b.2.1 - a.2.1*b.1) (by omega) c2;unfold j4.f crsI;generalize a.2.1*b.2.2 - a.2.2*b.2.1=u0 at*;generalize a.2.2*b.1 - a.1*b.2.2=u1 at*;generalize a.1*b.2.1 - a.2.1*b.1=u2 at*;have e:modV p (u0*c.1+u1*c.2.1+u2*c.2.2)=(u0*c.1+u1*c.2.1+u2*c.2.2) % p:=by
  have:=qcc (p:=p) (x:=u0*c.1+u1*c.2.1+u2*c.2.2) hp (by omega) (by omega)
  rwa [wsm (by omega) (by omega)]at this
 refine Ev.step (λq=>by rw[j4.l0,if_pos (by simp),if_pos (by omega),if_pos (by simp),if_pos (by simp)]) ?_;refine Ev.step (λq=>by rw[j4.l0,if_pos (by simp[wrap64]),if_pos (by simp[wrap64]),if_pos (by simp[wrap64]),if_pos (by simp[wrap64])]) ?_;refine Ev.step (λq=>by rw[j4.l0,if_pos (by simp[wrap64]),if_pos (by simp[wrap64]),if_pos (by simp[wrap64]),if_pos (by simp[wrap64])]) ?_;refine Ev.step (f:=λ_=>some ((u0*c.1+u1*c.2.1+u2*c.2.2) % p)) (λq=>?_) (Ev.now _);rw[j4.l0,if_neg (by simp[wrap64])];have f0:wrap64 (0+1)=1:=by rw[wsm (by omega) (by omega)];rfl
 have f1:wrap64 (1+1)=2:=by rw[wsm (by omega) (by omega)];rfl
 have g0:rd [u0,u1,u2] 0=u0:=rfl;have g1:rd [u0,u1,u2] 1=u1:=rfl;have g2:rd [u0,u1,u2] 2=u2:=rfl;have k0:rd [c.1,c.2.1,c.2.2] 0=c.1:=rfl;have k1:rd [c.1,c.2.1,c.2.2] 1=c.2.1:=rfl;have k2:rd [c.1,c.2.1,c.2.2] 2=c.2.2:=rfl;rw[f0,f1,g0,g1,g2,k0,k1,k2,wsm (i:=u0*c.1) (by omega) (by omega),wsm (i:=u1*c.2.1) (by omega) (by omega),wsm (i:=u2*c.2.2) (by omega) (by omega),wsm (i:=0+u0*c.1) (by omega) (by omega),wsm (i:=0+u0*c.1+u1*c.2.1) (by omega) (by omega),wsm (by omega) (by omega),Int.zero_add,qfz p _ (by omega),e]
 rfl
theorem qvf (p:Int) (a b c:Int×Int×Int):((((a.2.1*b.2.2 - a.2.2*b.2.1)*c.1+(a.2.2*b.1 - a.1*b.2.2)*c.2.1+(a.1*b.2.1 - a.2.1*b.1)*c.2.2) % p=0)↔colB p b c a=true):=by
 rw[colB,beq_iff_eq];have e:(a.2.1*b.2.2 - a.2.2*b.2.1)*c.1+(a.2.2*b.1 - a.1*b.2.2)*c.2.1+(a.1*b.2.1 - a.2.1*b.1)*c.2.2=a.1*(b.2.1*c.2.2 - b.2.2*c.2.1)+a.2.1*(b.2.2*c.1 - b.1*c.2.2)+a.2.2*(b.1*c.2.1 - b.2.1*c.1):=by grind
 rw[e]
theorem qcs (f:Nat->Bool) (d i:Nat):allN f (d+1) i=(f i && allN f d (i+1)):=rfl
theorem qm3 {p:Int} (l:List S51) (hl:l.length<=1000000):Ev (λk=>Qd.f k p l) (qb1 p (tps l)):=by
 have hlen:(tps l).length=l.length:=by simp[tps]
 have e1:∀ m:Nat,m < l.length->(qg l (m:Int)).f0.f0=((tps l).getD m (0,0,0)).1/\(qg l (m:Int)).f0.f1=((tps l).getD m (0,0,0)).2.1/\(qg l (m:Int)).f0.f2=((tps l).getD m (0,0,0)).2.2:=λm hm=>by rw[<-qbg l m hm];exact⟨rfl,rfl,rfl⟩
 have h2:∀ (i j:Nat),i < l.length->j < i->zi p=true->(∀ m,m<=i->inP p ((tps l).getD m (0,0,0)))->∀ (d m:Nat),m+d=j->Ev (λk=>ap2 k p l i j d m) (!allN (λm=>!colB p ((tps l).getD j (0,0,0)) ((tps l).getD m (0,0,0)) ((tps l).getD i (0,0,0))) d m):=by
  intro i j hi hj hp hin d;have hb:=zk hp
  induction d with
  | zero=>intro m _;exact Ev.now _
  | succ d ih=>
   intro m hm;obtain⟨a1,a2,a3⟩:=e1 i hi;obtain⟨b1,b2,b3⟩:=e1 j (by omega);obtain⟨c1,c2,c3⟩:=e1 m (by omega);have hd:=qjd (p:=p) ⟨by omega,by omega⟩ _ _ _ (hin i (by omega)) (hin j (by omega)) (hin m (by omega));have hc:=qvf p ((tps l).getD i (0,0,0)) ((tps l).getD j (0,0,0)) ((tps l).getD m (0,0,0));refine Ev.congr (λk=>by rw[ap2,a1,a2,a3,b1,b2,b3,c1,c2,c3,qjp (p:=p) ⟨by omega,by omega⟩ _ _ (hin i (by omega)) (hin j (by omega)),Option.bind_some]) ?_;refine Ev.bind hd ?_;rw[qcs]
   cases h:colB p ((tps l).getD j (0,0,0)) ((tps l).getD m (0,0,0)) ((tps l).getD i (0,0,0)) with
   | true=>exact Ev.yes (hc.2 h) (Ev.now _)
   | false=>
    refine Ev.no (λe=>by rw[hc.1 e]at h;cases h) ?_
    have:=ih (m+1) (by omega)
    simpa using this
 have h1:∀ (i:Nat),i < l.length->zi p=true->(∀ m,m<=i->inP p ((tps l).getD m (0,0,0)))->∀ (d j:Nat),j+d=i->Ev (λk=>ap1 k p l i d j) (!allN (λk=>allN (λj=>!colB p ((tps l).getD k (0,0,0)) ((tps l).getD j (0,0,0)) ((tps l).getD i (0,0,0))) k 0) d j):=by
  intro i hi hp hin d
  induction d with
  | zero=>intro j _;exact Ev.now _
  | succ d ih=>
   intro j hj;refine Ev.congr (λk=>by rw[ap1]) ?_;refine Ev.bind (h2 i j hi (by omega) hp hin j 0 (by omega)) ?_;rw[qcs]
   cases h:allN (λm=>!colB p ((tps l).getD j (0,0,0)) ((tps l).getD m (0,0,0)) ((tps l).getD i (0,0,0))) j 0 with
   | false=>exact Ev.yes rfl (Ev.now _)
   | true=>
    refine Ev.no (by simp) ?_
    have:=ih (j+1) (by omega)
    simpa using this
 have h0 : ∀ (d i : Nat), i + d = l.length->(∀ m, m < i->inP p ((tps l).getD m (0, 0, 0)))->Ev (λk => ap0 k p l d i) (allN (apI p (tps l)) d i) := by
  intro d
  induction d with
  | zero=>intro i _ _;exact Ev.now _
  | succ d ih=>
   intro i hi hin;obtain⟨a1,a2,a3⟩:=e1 i (by omega);refine Ev.congr (λk=>by rw[ap0,a1,a2,a3,qnx,Option.bind_some]) ?_;rw[qcs,apI]
   cases hpt:ptB p ((tps l).getD i (0,0,0)).1 ((tps l).getD i (0,0,0)).2.1 ((tps l).getD i (0,0,0)).2.2 with
   | false=>exact Ev.no (by simp) (Ev.now _)
   | true=>
    have hp:zi p=true:=by
     rw[ptB,Bool.and_eq_true]at hpt;exact(jn hpt.1).1
    have hin':∀ m,m<=i->inP p ((tps l).getD m (0,0,0)):=λm hm=>by
     by_cases e:m=i
     ·subst e;exact qdc hpt
     ·exact hin m (by omega)
    refine Ev.yes rfl (Ev.bind (h1 i (by omega) hp hin' i 0 (by omega)) ?_)
    cases h:allN (λk=>allN (λj=>!colB p ((tps l).getD k (0,0,0)) ((tps l).getD j (0,0,0)) ((tps l).getD i (0,0,0))) k 0) i 0 with
    | false=>exact Ev.yes rfl (Ev.now _)
    | true=>
     refine Ev.no (by simp) ?_
     have:=ih (i+1) (by omega) λm hm=>hin' m (by omega)
     simpa using this
 unfold Qd.f;refine Ev.yes hl ?_;rw[qb1,hlen];exact h0 l.length 0 (by omega) (λm hm=>by omega)
def sqI (t:Int×Int×Int):List Int:=[t.1*t.1,t.1*t.2.1,t.1*t.2.2,t.2.1*t.2.1,t.2.1*t.2.2,t.2.2*t.2.2]
theorem qbp {p x:Int} (hp:7<=p/\p<=31) (h0:-1000000000<=x) (h1:x<=1000000000):modV p x=x % p:=by
 have:=qcc hp h0 h1
 rwa [wsm (by omega) (by omega)]at this
theorem qkb {p:Int} (hp:7<=p/\p<=31) {t:Int×Int×Int} (ht:inP p t):(sqI t).map (modV p)=sqR p t:=by
 obtain⟨a0,a1,a2⟩:=ht;have m1:=Q1 hp a0 a0;have m2:=Q1 hp a0 a1;have m3:=Q1 hp a0 a2;have m4:=Q1 hp a1 a1;have m5:=Q1 hp a1 a2;have m6:=Q1 hp a2 a2;simp only[sqI,sqR,List.map_cons,List.map_nil];rw[qbp hp (by omega) (by omega),qbp hp (by omega) (by omega),qbp hp (by omega) (by omega),qbp hp (by omega) (by omega),qbp hp (by omega) (by omega),qbp hp (by omega) (by omega)]
theorem qev {p:Int} (hp:7<=p/\p<=31) (l:List S51) (hl:l.length<=1000) (hin:∀ j,j < l.length->inP p ((tps l).getD j (0,0,0))):Ev (λk=>z9.f k l) ((tps l).map sqI):=by
 have hlen:(tps l).length=l.length:=by simp[tps]
 have h0:∀ (d i:Nat) (acc:List (List Int)),i+d=l.length->acc=((tps l).take i).map sqI->Ev (λq=>z9.l0 q acc l (l.length:Int) (i:Int)) ((tps l).map sqI):=by
  intro d
  induction d with
  | zero=>
   intro i acc hi ha;rw[List.take_of_length_le (by omega)]at ha;subst ha;exact Ev.step (f:=λ_=>some ((tps l).map sqI)) (λq=>by rw[z9.l0,if_neg (by omega)]) (Ev.now _)
  | succ d ih=>
   intro i acc hi ha;have hil:i < l.length:=by omega
   have hal:acc.length<=1000:=by rw[ha,List.length_map,List.length_take];omega
   have e:=qbg l i hil;obtain⟨a0,a1,a2⟩:=hin i hil;have f0:(qg l (i:Int)).f0.f0=((tps l).getD i (0,0,0)).1:=by rw[<-e];rfl
   have f1:(qg l (i:Int)).f0.f1=((tps l).getD i (0,0,0)).2.1:=by rw[<-e];rfl
   have f2:(qg l (i:Int)).f0.f2=((tps l).getD i (0,0,0)).2.2:=by rw[<-e];rfl
   have m1:=Q1 hp a0 a0;have m2:=Q1 hp a0 a1;have m3:=Q1 hp a0 a2;have m4:=Q1 hp a1 a1;have m5:=Q1 hp a1 a2;have m6:=Q1 hp a2 a2;refine Ev.step (λq=>by rw[z9.l0,if_pos (by omega),if_pos (by omega),if_pos (by omega),if_pos (by omega),f0,f1,f2,wsm (i:=((tps l).getD i (0,0,0)).1*((tps l).getD i (0,0,0)).1) (by omega) (by omega),wsm (i:=((tps l).getD i (0,0,0)).1*((tps l).getD i (0,0,0)).2.1) (by omega) (by omega),wsm (i:=((tps l).getD i (0,0,0)).1*((tps l).getD i (0,0,0)).2.2) (by omega) (by omega),wsm (i:=((tps l).getD i (0,0,0)).2.1*((tps l).getD i (0,0,0)).2.1) (by omega) (by omega),wsm (i:=((tps l).getD i (0,0,0)).2.1*((tps l).getD i (0,0,0)).2.2) (by omega) (by omega),wsm (i:=((tps l).getD i (0,0,0)).2.2*((tps l).getD i (0,0,0)).2.2) (by omega) (by omega),wsm (by omega) (by omega)]) ?_;refine ih (i+1) _ (by omega) ?_;rw[ha,List.take_add_one,List.map_append,List.getD_eq_getElem?_getD,List.getElem?_eq_getElem (by omega)]
   rfl
 unfold z9.f;exact h0 l.length 0 [] (by omega) (by simp)
theorem qi7 (p:Int) (l:List S51):Ev (λk=>Zl.f k p l) (genB p (tps l)):=by
 have hlen:(tps l).length=l.length:=by simp[tps]
 unfold Zl.f
 by_cases h6:l.length=6
 ·refine Ev.yes (by omega) ?_
  rw[genB,hlen,decide_eq_true h6,Bool.true_and];refine Ev.bind (qm3 l (by omega)) ?_
  cases ha:qb1 p (tps l) with
  | false=>exact Ev.no (by simp) (Ev.now _)
  | true=>
   have hp:zi p=true:=by
    cases hp:zi p with
    | true=>rfl
    | false=>rw[qf7 hp _ (by omega)]at ha;cases ha
   have hb:=zk hp;have hin:∀ j,j < l.length->inP p ((tps l).getD j (0,0,0)):=λj hj=>qdc ((qa7 ha).1 j (by omega));have hs:=qbt hp (w:=6) (by omega) ((tps l).map sqI) (by rw[List.length_map];omega) (λr hr=>by obtain⟨t,_,rfl⟩:=List.mem_map.1 hr;rfl);have e:(((tps l).map sqI).map λr=>r.map (modV p))=(tps l).map (sqR p):=by
    rw[List.map_map];refine List.map_congr_left λt ht=>?_;obtain⟨j,hj,rfl⟩:=List.getElem_of_mem ht
    have:=hin j (by omega)
    rw[List.getD_eq_getElem?_getD,List.getElem?_eq_getElem hj]at this;exact qkb ⟨by omega,by omega⟩ this
   rw[e]at hs;refine Ev.yes rfl (Ev.bind (qev (p:=p) ⟨by omega,by omega⟩ l (by omega) hin) (Ev.bind hs ?_));have e2:(((Jd p 6 ((tps l).map (sqR p))).length:Int) == 0)=(true && (Jd p 6 ((tps l).map (sqR p))).isEmpty):=by
    cases Jd p 6 ((tps l).map (sqR p)) with
    | nil=>rfl
    | cons a b=>simp;omega
   rw[e2];exact Ev.now _
 ·refine Ev.no (by omega) ?_
  rw[genB,hlen,decide_eq_false h6];exact Ev.now _
theorem qvv {p:Int} (hp:zi p=true) (a:List Int) (ha:a.length=6/\∀ x∈a,0<=x/\x < p) (b:List Int) (hb:b.length=6/\∀ x∈b,0<=x/\x<=1000000):Ev (λk=>j4.f k p a b) (dt 6 (fn a) (fn b) % p):=by
 have hpb:=zk hp;have la:=ha.1;have lb:=hb.1;have hl:∀ (d i:Nat),i+d=6->0<=dt i (fn a) (fn b)->dt i (fn a) (fn b)<=i*100000000->Ev (λk=>j4.l0 k p b (dt i (fn a) (fn b)) a (a.length:Int) (i:Int)) (dt 6 (fn a) (fn b) % p):=by
  intro d
  induction d with
  | zero=>
   intro i hi h0 _;obtain rfl:i=6:=by omega
   have e:=qd9 (p:=p) (x:=dt 6 (fn a) (fn b)) ⟨by omega,by omega⟩ h0;exact Ev.step (f:=λ_=>some (dt 6 (fn a) (fn b) % p)) (λq=>by rw[j4.l0,if_neg (by omega),qfz p _ (by omega),e];rfl) (Ev.now _)
  | succ d ih=>
   intro i hi h0 h1;have b1:=Zi ha i (by omega);have b3:0<=fn b i/\fn b i<=1000000:=by
    have hi':i < b.length:=by omega
    rw[fn,Jo b i hi'];exact hb.2 _ (List.getElem_mem hi')
   have b4:0<=fn a i*fn b i:=Int.mul_nonneg b1.1 b3.1;have b5:fn a i*fn b i<=31*1000000:=Int.mul_le_mul (by omega) b3.2 b3.1 (by omega);have r1:rd a (i:Int)=fn a i:=rfl;have r2:rd b (i:Int)=fn b i:=rfl;refine Ev.step (λq=>by rw[j4.l0,if_pos (by omega),if_pos (by omega),if_pos (by omega),if_pos (by omega),r1,r2,wsm (i:=fn a i*fn b i) (by omega) (by omega),<-qaq,wsm (i:=dt (i+1) (fn a) (fn b)) (by rw[qaq];omega) (by rw[qaq];omega),wsm (by omega) (by omega)]) ?_;exact ih (i+1) (by omega) (by rw[qaq];omega) (by rw[qaq];omega)
 unfold j4.f
 have:=hl 6 0 rfl (by rw[qdl];omega) (by rw[qdl];omega)
 rwa [qdl]at this
theorem qs0 {p:Int} (hp:7<=p/\p<=31) {t:Int×Int×Int} (ht:inP p t):(sqI t).length=6/\∀ x∈sqI t,0<=x/\x<=1000000:=by
 obtain⟨a0,a1,a2⟩:=ht;have m1:=Q1 hp a0 a0;have m2:=Q1 hp a0 a1;have m3:=Q1 hp a0 a2;have m4:=Q1 hp a1 a1;have m5:=Q1 hp a1 a2;have m6:=Q1 hp a2 a2;refine⟨rfl,λx hx=>?_⟩;simp only[sqI,List.mem_cons,List.not_mem_nil,or_false]at hx
 rcases hx with rfl|rfl|rfl|rfl|rfl|rfl<;>omega
theorem DI {p:Int} (hp:7<=p/\p<=31) (a:List Int) {t:Int×Int×Int} (ht:inP p t):dt 6 (fn a) (fn (sqI t)) % p=dt 6 (fn a) (fn (sqR p t)) % p:=by
 have hc:=qkq (p:=p) (w:=6) (u:=fn a) (u':=fn a) (v:=fn (sqI t)) (v':=fn (sqR p t)) (λj _=>by simp) (λj hj=>by
  have hb:=(qs0 hp ht)
  have hj':j < (sqI t).length:=by rw[hb.1];exact hj
  have e1:fn ((sqI t).map (modV p)) j=modV p (fn (sqI t) j):=by
   simp[fn,rd,List.getD_eq_getElem?_getD,List.getElem?_eq_getElem hj']
  rw[<-qkb hp ht,e1,qd9 hp (by rw[fn,Jo _ j hj'];exact(hb.2 _ (List.getElem_mem hj')).1)];exact Je _ _)
 exact Int.emod_eq_emod_iff_emod_sub_eq_zero.2 (Int.emod_eq_zero_of_dvd hc)
theorem qo9 {p:Int} (hp:zi p=true) (l:List S51) (hl:l.length=5) (hin:∀ j,j < l.length->inP p ((tps l).getD j (0,0,0))):Ev (λk=>Z9.f k p l) ((Jd p 6 ((tps l).map (sqR p))).getD 0 []):=by
 have hb:=zk hp;have hlen:(tps l).length=l.length:=by simp[tps]
 have hs:=qbt hp (w:=6) (by omega) ((tps l).map sqI) (by rw[List.length_map];omega) (λr hr=>by obtain⟨t,_,rfl⟩:=List.mem_map.1 hr;rfl);have e:(((tps l).map sqI).map λr=>r.map (modV p))=(tps l).map (sqR p):=by
  rw[List.map_map];refine List.map_congr_left λt ht=>?_;obtain⟨j,hj,rfl⟩:=List.getElem_of_mem ht
  have:=hin j (by omega)
  rw[List.getD_eq_getElem?_getD,List.getElem?_eq_getElem hj]at this;exact qkb ⟨by omega,by omega⟩ this
 rw[e]at hs;have hn:=qdu hp (qgp hp (tps l)) (by have:=qcg (p:=p) (w:=6) ((tps l).map (sqR p));rw[List.length_map]at this;omega);have hp0:0 < (Jd p 6 ((tps l).map (sqR p))).length:=List.length_pos_iff.2 hn;unfold Z9.f;refine Ev.bind (qev (p:=p) ⟨by omega,by omega⟩ l (by omega) hin) (Ev.bind hs (Ev.yes (by omega) ?_));rw[show (0:Int)=((0:Nat):Int) from rfl,qd1];exact Ev.now _
theorem ql4 (M:List (List Int)) {w:Nat} (hw:w<=1000) (hM:∀ r∈M,r.length=w) (hl:M.length<=1000000):∀ (d i:Nat),i+d=M.length->Ev (λk=>Qa.l0 k (M.take i).flatten M (M.length:Int) (i:Int)) M.flatten
 | 0,i,h=>by
  refine Ev.step (f:=λ_=>some M.flatten) (λk=>?_) (Ev.now _);rw[Qa.l0,if_neg (by omega),List.take_of_length_le (by omega)]
 | d + 1, i, h => by
  have hi:i < M.length:=by omega
  refine Ev.step (f:=λk=>Qa.l0 k (M.take (i+1)).flatten M (M.length:Int) ((i+1:Nat):Int)) (λk=>?_) (ql4 M hw hM hl d (i+1) (by omega));have e1:(M.take (i+1)).flatten=(M.take i).flatten++M.getD i []:=by
   rw[List.take_add_one,List.flatten_append,List.getD_eq_getElem?_getD,List.getElem?_eq_getElem hi];simp
  have e2:zt M (i:Int)=M.getD i []:=by simp[zt]
  have h1:(M.take i).flatten.length=i*w:=by rw[qij _ (λr hr=>hM r (List.mem_of_mem_take hr)),List.length_take,Nat.min_eq_left (by omega)]
  have h2:(M.getD i []).length=w:=hM _ (Zw hi);have h3:i*w<=1000000*1000:=Nat.mul_le_mul (by omega) hw;rw[Qa.l0,if_pos (by omega),if_pos (by omega),if_pos (by omega),e2,if_pos (by omega),e1,wsm (by omega) (by omega)]
  rfl
theorem qj7 {p:Int} (hp:zi p=true) {w:Nat} (hw:w<=1000) (L:List (List Int)) (hL:okR p w L) (hl:L.length<=1000):Ev (λk=>Qa.f k p L) (Jj p w L):=by
 unfold Qa.f;have hb:=zk hp;have hlen:=qfr p w 0 L []
 simp at hlen
 refine Ev.bind (qdg hp L (by omega) (by omega) hL) ?_;have h:=ql4 (redP p w 0 L []) hw (λr hr=>(qcm (by omega) w 0 L [] hL (J8 p w) r hr).1) (by omega) (redP p w 0 L []).length 0 (by omega)
 simpa [Jj] using h
theorem quu (p:Int) (a b c:Int×Int×Int):(((a.2.1*b.2.2 - a.2.2*b.2.1)*c.1+(a.2.2*b.1 - a.1*b.2.2)*c.2.1+(a.1*b.2.1 - a.2.1*b.1)*c.2.2) % p == 0)=colB p a b c:=by
 have e:(a.2.1*b.2.2 - a.2.2*b.2.1)*c.1+(a.2.2*b.1 - a.1*b.2.2)*c.2.1+(a.1*b.2.1 - a.2.1*b.1)*c.2.2=c.1*(a.2.1*b.2.2 - a.2.2*b.2.1)+c.2.1*(a.2.2*b.1 - a.1*b.2.2)+c.2.2*(a.1*b.2.1 - a.2.1*b.1):=by grind
 rw[e,colB]
theorem qkt (l:List S51) (hl:l.length<=1000) (t:Int×Int×Int):Ev (λk=>Zs.f k l t.1 t.2.1 t.2.2) (decide (t∈tps l)):=by
 obtain⟨r,hr,h1,h2⟩:=qnq l hl t l.length 0 (by omega) λj hj=>by omega
 have hlen:(tps l).length=l.length:=by simp[tps]
 have e:decide (r>=0)=decide (t∈tps l):=by
  by_cases h:r>=0
  ·obtain⟨j,hj,ej⟩:=h1 h
   rw[decide_eq_true h,decide_eq_true (by rw[<-ej];exact qo2 _ _ (by omega))]
  ·rw[decide_eq_false h,decide_eq_false λhm=>?_]
   obtain⟨i,hi,ei⟩:=List.mem_iff_getElem.1 hm;refine h2 (by omega) i (by omega) ?_;rw[List.getD_eq_getElem?_getD,List.getElem?_eq_getElem hi];exact ei
 rw[<-e];unfold Zs.f je.f;exact Ev.bind hr (Ev.now _)
theorem qt0 {p:Int} (six:List S51) (hg:genB p (tps six)=true) (on:Nat->S51->Option Bool) (g:Int×Int×Int->Bool):∀ (L:List (Int×Int×Int)) (acc:List (List Int)),(∀ t∈L,t∈allP p.toNat)->(∀ t∈L,Ev (λk=>on k (mkT t)) (g t))->Ev (λk=>sfL (on k) k p (basP p (tps six)) six (L.map mkT) acc) (acc++curI p (tps six) (L.filter g))
 | [],acc,_,_=>by
  refine Ev.congr (λk=>by rw[List.map_nil,sfL]) ?_;rw[show curI p (tps six) (([]:List (Int×Int×Int)).filter g)=[] from rfl,List.append_nil];exact Ev.now _
 | t :: L,acc,hL,ho=>by
  obtain⟨hp,h6,_,_⟩:=j7 hg;have hpb:=zk hp;have hlen:(tps six).length=six.length:=by simp[tps]
  have ht:=hL t List.mem_cons_self;have hin:=qfl (p:=p) ⟨by omega,by omega⟩ t ht;have ih:=λacc=>qt0 six hg on g L acc (λs hs=>hL s (List.mem_cons_of_mem _ hs)) λs hs=>ho s (List.mem_cons_of_mem _ hs);refine Ev.congr (λk=>by rw[List.map_cons,sfL]) ?_;refine Ev.bind (ho t List.mem_cons_self) ?_
  cases hgt:g t with
  | false=>
   refine Ev.no (by simp) ?_;rw[List.filter_cons_of_neg (by simp[hgt])];exact ih acc
  | true=>
   have hf:(t :: L).filter g=t :: L.filter g:=List.filter_cons_of_pos hgt;refine Ev.yes rfl (Ev.bind (qkt six (by omega) t) ?_);rw[hf]
   by_cases hm:t∈tps six
   ·refine Ev.yes (decide_eq_true hm) ?_
    have:curI p (tps six) (t :: L.filter g)=curI p (tps six) (L.filter g):=by
     unfold curI;rw[List.filter_cons_of_neg (by simp[hm])]
    rw[this];exact ih acc
   ·refine Ev.no (by simp[hm]) ?_
    have hz:=qsu hg t ht hm;have hi:=qoh hg t hin;rw[monP,if_neg (by rw[hz];simp)]at hi;have hl4:(rowP p (imgP p (tps six) t)).length=4:=by rw[rowP,List.length_map];exact(qg9 hg t).1
    refine Ev.bind hi (Ev.yes (by omega) ?_)
    have:curI p (tps six) (t :: L.filter g)=rowP p (imgP p (tps six) t) :: curI p (tps six) (L.filter g):=by
     unfold curI;rw[List.filter_cons_of_pos (by simp[hm]),List.map_cons]
    have hh:=ih (acc++[rowP p (imgP p (tps six) t)]);rw[List.append_assoc]at hh;rw[this];exact hh
theorem qls {p:Int} (six:List S51) (hg:genB p (tps six)=true) (on:Nat->S51->Option Bool) (g:Int×Int×Int->Bool) (ho:∀ t∈allP p.toNat,Ev (λk=>on k (mkT t)) (g t)):Ev (λk=>qgg (on k) k p (basP p (tps six)) six) (Jj p 4 (curP p (tps six) ((allP p.toNat).filter g))):=by
 obtain⟨hp,h6,_,_⟩:=j7 hg;have hpb:=zk hp;have hs:=qce (p:=p) ⟨by omega,by omega⟩;have hl:=qt0 six hg on g (allP p.toNat) [] (λt ht=>ht) ho;rw[List.nil_append]at hl;have hc:(curI p (tps six) ((allP p.toNat).filter g)).length<=1000:=by
  unfold curI;rw[List.length_map];exact Nat.le_trans (List.length_filter_le _ _) (Nat.le_trans (List.length_filter_le _ _) hs)
 unfold qgg;refine Ev.bind (quv (p:=p) ⟨by omega,by omega⟩) (Ev.yes (by rw[List.length_map];omega) (Ev.bind hl ?_));rw[<-qtq hg _ λt ht=>(List.mem_filter.1 ht).1];exact qj7 hp (by omega) _ (qpk hg _) hc
theorem qiq {p:Int} (l:List S51) (hg:genB p (tps l)=true) {kk:Int} (h0:0<=kk) (h1:kk<=26):Ev (λk=>zu.f k p l (basP p (tps l)) kk) (qae p (tps l) kk):=by
 obtain⟨hp,h6,ha,_⟩:=j7 hg;have hpb:=zk hp;have hp':7<=p/\p<=31:=⟨by omega,by omega⟩
 have hlen:(tps l).length=l.length:=by simp[tps]
 have h4:=qcn hp h6 (Jg hg);have hin:∀ j,j < l.length->inP p ((tps l).getD j (0,0,0)):=λj hj=>qdc ((qa7 ha).1 j (by omega));have hpt:∀ j:Nat,j < l.length->tpl (sfPt l (j:Int))=(tps l).getD j (0,0,0):=λj hj=>qbg l j hj;rw[qae,if_pos (qdx hg h0 h1)];unfold zu.f linR;refine Ev.yes ⟨by omega,by omega,by omega⟩ ?_
 by_cases c6:kk < 6
 ·rw[if_pos c6]
  obtain⟨n,rfl⟩:=Int.eq_ofNat_of_zero_le h0;have hn:n < l.length:=by omega
  have hx:inP p (tpl (sfPt l (n:Int))):=by rw[hpt n hn];exact hin n hn
  have hr:=qvl hp' h4 (λi hi=>qe4 hp i hi) (sfPt l (n:Int)) hx;rw[hpt n hn]at hr;have hok:=qed hg (n:Int);rw[linR,if_pos c6]at hok;rw[Int.toNat_natCast]at hok ⊢;refine Ev.yes c6 (Ev.yes ⟨h0,by omega⟩ (Ev.bind hr ?_));exact qj7 hp (by omega) _ hok (by simp)
 ·rw[if_neg c6]
  refine Ev.no c6 ?_
  by_cases c21:kk < 21
  ·rw[if_pos c21]
   have he:=qfc (kk:=kk) ⟨by omega,c21⟩;obtain⟨_,hA,hB⟩:=he;refine Ev.yes c21 (Ev.bind (qvm ⟨by omega,c21⟩) (Ev.yes ⟨⟨by omega,by simp only;omega⟩,by omega,by simp only;omega⟩ ?_));have eA:=hpt (endA kk) (by omega);have eB:=hpt (endB kk) (by omega);have iA:=hin (endA kk) (by omega);have iB:=hin (endB kk) (by omega);have hcr:=qjp hp' _ _ iA iB;rw[<-eA,<-eB]at hcr;refine Ev.bind (Ev.k hcr) ?_;rw[eA,eB];refine qls l hg (λk=>sfOn k p (crsI ((tps l).getD (endA kk) (0,0,0)) ((tps l).getD (endB kk) (0,0,0)))) (colB p ((tps l).getD (endA kk) (0,0,0)) ((tps l).getD (endB kk) (0,0,0))) λt ht=>?_;have hd:=qjd hp' _ _ t iA iB (qfl hp' t ht);unfold sfOn;refine Ev.bind hd ?_;rw[quu];exact Ev.now _
  ·rw[if_neg c21]
   refine Ev.no c21 (Ev.yes (by omega) ?_);have e20:(kk - 20).toNat=(kk - 21).toNat+1:=by omega
   have hT:tps (l.take (kk - 21).toNat++l.drop ((kk - 21).toNat+1))=(tps l).take (kk - 21).toNat++(tps l).drop ((kk - 21).toNat+1):=by
    simp[tps,List.map_append,List.map_take,List.map_drop]
   have hsub:∀ t∈(tps l).take (kk - 21).toNat++(tps l).drop ((kk - 21).toNat+1),inP p t:=λt ht=>by
    have hm:t∈tps l:=(List.mem_append.1 ht).elim List.mem_of_mem_take List.mem_of_mem_drop;obtain⟨i,hi,ei⟩:=List.mem_iff_getElem.1 hm
    have:=hin i (by omega)
    rwa [List.getD_eq_getElem?_getD,List.getElem?_eq_getElem hi,Option.getD_some,ei]at this
   have h5:(l.take (kk - 21).toNat++l.drop ((kk - 21).toNat+1)).length=5:=by
    rw[List.length_append,List.length_take,List.length_drop];omega
   have hcon:=qo9 hp _ h5 (λj hj=>by
    rw[hT];have hj':j < ((tps l).take (kk - 21).toNat++(tps l).drop ((kk - 21).toNat+1)).length:=by rw[<-hT];simp[tps];simpa using hj
    exact hsub _ (qo2 _ _ hj'))
   have ec:(Jd p 6 ((tps (l.take (kk - 21).toNat++l.drop ((kk - 21).toNat+1))).map (sqR p))).getD 0 []=conP p (tps l) kk:=by
    rw[conP,hT,e20]
   rw[ec]at hcon;refine Ev.bind hcon ?_;have hm:=qkz hg (kk - 21).toNat (by omega)
   rw[show (((kk - 21).toNat:Nat):Int)+21=kk by omega]at hm;have hok:=qpz hp (qgp hp ((tps l).take (kk - 21).toNat++(tps l).drop ((kk - 21).toNat+1))) _ hm;refine qls l hg (λk=>sfOq k p (conP p (tps l) kk)) (λt=>dt 6 (fn (conP p (tps l) kk)) (fn (sqR p t)) % p == 0) λt ht=>?_;have hit:=qfl hp' t ht;have hsq:=qev (p:=p) hp' [mkT t] (by simp) (λj hj=>by
    have:j=0:=by simpa using hj
    subst this;exact hit)
   rw[show (tps [mkT t]).map sqI=[sqI t] from rfl]at hsq;unfold sfOq;refine Ev.bind hsq (Ev.yes (by simp) (Ev.bind (qvv hp _ hok _ (qs0 hp' hit)) ?_));rw[show ([sqI t]:List (List Int)).getD 0 []=sqI t from rfl,DI hp' _ hit];exact Ev.now _
def PLN :List (List Int):=[[0,6,22],[0,7,23],[0,8,24],[0,9,25],[0,10,26],[1,6,21],[1,11,23],[1,12,24],[1,13,25],[1,14,26],[2,7,21],[2,11,22],[2,15,24],[2,16,25],[2,17,26],[3,8,21],[3,12,22],[3,15,23],[3,18,25],[3,19,26],[4,9,21],[4,13,22],[4,16,23],[4,18,24],[4,20,26],[5,10,21],[5,14,22],[5,17,23],[5,19,24],[5,20,25],[6,15,20],[6,16,19],[6,17,18],[7,12,20],[7,13,19],[7,14,18],[8,11,20],[8,13,17],[8,14,16],[9,11,19],[9,12,17],[9,14,15],[10,11,18],[10,12,16],[10,13,15]]
theorem qoj :jt.f 2000=some PLN:=by decide+kernel
theorem qrv :Ev (λk=>jt.f k) PLN:=Ev.of (λk=>jt.mono k) qoj
def Zu (p:Int) (t l:List Int):List Int:=(List.range 4).map λj=>(fn t 0*fn l j+fn t 1*fn l (4+j)) % p
def qaa (l m:List Int):List (List Int):=[l.take 4,l.drop 4,m.take 4,m.drop 4]
theorem qck (l:List Int) (n j:Nat) (hj:j < n):fn (l.take n) j=fn l j:=by
 simp[fn,rd,List.getD_eq_getElem?_getD,List.getElem?_take,hj]
theorem qcl (l:List Int) (n j:Nat):fn (l.drop n) j=fn l (n+j):=by
 have e:((n:Int)+(j:Int)).toNat=n+j:=by omega
 simp[fn,rd,List.getD_eq_getElem?_getD,e]
theorem qix (l m:List Int):tr 4 (qaa l m)=(List.range 4).map λj=>[fn l j,fn l (4+j),fn m j,fn m (4+j)]:=by
 refine List.map_congr_left λj hj=>?_;have hj4:j < 4:=by simpa using hj
 simp[qaa,qck,qcl,hj4]
theorem qh9 {p:Int} {l m:List Int} (hl:Zz p l 8=true) (hm:Zz p m 8=true):okR p 4 (qaa l m):=qcj (Zv hl) (Zv hm)
theorem rd_w {p:Int} {l:List Int} (hl:Zz p l 8=true) (j:Nat) (hj:j < 8):0<=fn l j/\fn l j < p:=Zi (jn hl).2 j hj
theorem qni {p:Int} (hp:zi p=true) {l t:List Int} (hl:Zz p l 8=true) (ht:t.length=4/\∀ x∈t,0<=x/\x < p):∀ (d i:Nat),i+d=4->
  Ev (λk=>qn.l1 k p l t ((List.range i).map λj=>fn t 0*fn l j+fn t 1*fn l (4+j)) (i:Int)) (monP p (Zu p t l))
 | 0,i,e=>by
  obtain rfl:i=4:=by omega
  have hb:=zk hp;have ht0:=Zi ht 0 (by omega);have ht1:=Zi ht 1 (by omega);refine Ev.step (λk=>by rw[qn.l1,if_neg (by omega)]) ?_;have h:=qmc hp ((List.range 4).map λj=>fn t 0*fn l j+fn t 1*fn l (4+j)) (by simp) (λx hx=>by
   obtain⟨j,hj,rfl⟩:=List.mem_map.1 hx;have hj4:j < 4:=by simpa using hj
   have h1:=rd_w hl j (by omega);have h2:=rd_w hl (4+j) (by omega);have m1:=qc6 (by omega) ht0.1 ht0.2 h1.1 h1.2;have m2:=qc6 (by omega) ht1.1 ht1.2 h2.1 h2.2
   omega)
  rw[List.map_map]at h;exact Ev.bind h (Ev.now _)
 | d+1,i,e=>by
  have hb:=zk hp;have ht0:=Zi ht 0 (by omega);have ht1:=Zi ht 1 (by omega);have h1:=rd_w hl i (by omega);have h2:=rd_w hl (4+i) (by omega);have m1:=qc6 (by omega) ht0.1 ht0.2 h1.1 h1.2;have m2:=qc6 (by omega) ht1.1 ht1.2 h2.1 h2.2;have h8:=(jn hl).2.1;have ih:=qni hp hl ht d (i+1) (by omega);refine Ev.step (λk=>?_) ih;rw[qn.l1,if_pos (by omega),if_pos (by omega),if_pos (by omega),if_pos (by omega),if_pos (by omega),wsm (i:=4+(i:Int)) (by omega) (by omega),if_pos (by omega),if_pos (by omega),if_pos (by simp;omega)];have e0:rd t 0=fn t 0:=rfl;have e1:rd t 1=fn t 1:=rfl;have e2:rd l (i:Int)=fn l i:=rfl;have e3:rd l (4+(i:Int))=fn l (4+i):=by rw[fn];congr 1
  rw[e0,e1,e2,e3,wsm (i:=fn t 0*fn l i) (by omega) (by omega),wsm (i:=fn t 1*fn l (4+i)) (by omega) (by omega),wsm (i:=fn t 0*fn l i+fn t 1*fn l (4+i)) (by omega) (by omega),wsm (i:=(i:Int)+1) (by omega) (by omega)];rw[List.range_succ,List.map_append];rfl
theorem qph {p:Int} {l m:List Int} (hl:Zz p l 8=true) (hm:Zz p m 8=true) {R:List Int} (hend:Ev (λk=>(qk.f k p (tr 4 (qaa l m)) 4).bind λt=>if 0 < (t.length:Int) then qn.l1 k p l (zt t 0) [] 0 else none) R):∀ (d i:Nat),i+d=4->
  Ev (λk=>qn.l0 k p l m ((List.range i).map λj=>[fn l j,fn l (4+j),fn m j,fn m (4+j)]) (i:Int)) R
 | 0,i,e=>by
  obtain rfl:i=4:=by omega
  refine Ev.step (λk=>by rw[qn.l0,if_neg (by omega),<-qix]) hend
 | d+1,i,e=>by
  have h8:=(jn hl).2.1;have h8m:=(jn hm).2.1;have ih:=qph hl hm hend d (i+1) (by omega);refine Ev.step (λk=>?_) ih;rw[qn.l0,if_pos (by omega),if_pos (by omega),if_pos (by omega),wsm (i:=4+(i:Int)) (by omega) (by omega),if_pos (by omega),if_pos (by omega),if_pos (by omega),if_pos (by omega),if_pos (by simp;omega)];have e2:rd l (i:Int)=fn l i:=rfl;have e4:rd m (i:Int)=fn m i:=rfl;have e3:rd l (4+(i:Int))=fn l (4+i):=by rw[fn];congr 1
  have e5:rd m (4+(i:Int))=fn m (4+i):=by rw[fn];congr 1
  rw[e2,e3,e4,e5,wsm (i:=(i:Int)+1) (by omega) (by omega),List.range_succ,List.map_append];rfl
def relP (p:Int) (l m:List Int):List Int:=(Jd p 4 (tr 4 (qaa l m))).headD []
theorem qvs {p:Int} (hp:zi p=true) {w:Nat} {L:List (List Int)} (hL:okR p w L):okR p w (Jd p w L):=by
 obtain⟨N,e,hN,_,_⟩:=Zr hp hL;rw[e];intro r hr;obtain⟨x,hx,rfl⟩:=List.mem_map.1 hr;exact hN.ok x hx
theorem qip {p:Int} {l m:List Int} (hl:Zz p l 8=true) (hm:Zz p m 8=true) (h3:Qx p 4 (qaa l m)=3):Ev (λk=>qn.f k p l m) (monP p (Zu p (relP p l m) l)):=by
 have hp:=(jn hl).1;have hok:=qh9 hl hm;have hne:=qn0 hp hok (by rw[h3];simp[qaa]);have hto:okR p 4 (tr 4 (qaa l m)):=qfk hok;have hno:=qvs hp hto;have hs:=qk1 hp (w:=4) (by omega) (tr 4 (qaa l m)) (by simp[tr]) hto;have hne':Jd p 4 (tr 4 (qaa l m))≠[]:=hne;unfold qn.f;refine qph hl hm ?_ 4 0 (by omega);refine Ev.bind hs ?_;unfold relP
 cases hN:Jd p 4 (tr 4 (qaa l m)) with
 | nil=>exact absurd hN hne'
 | cons t N=>
  rw[hN]at hno;refine Ev.yes (by simp) ?_;have h:=qni hp hl (hno t (by simp)) 4 0 (by omega)
  simpa [zt] using h
def Jv (p:Int) (l m:List Int):Bool:=Z0 p l && Z0 p m && decide (Qx p 4 [l.take 4,l.drop 4,m.take 4,m.drop 4]=3)
theorem qg6 {p:Int} {l m:List Int} (hl:Zz p l 8=true) (hm:Zz p m 8=true):okR p 4 [l.take 4,l.drop 4,m.take 4,m.drop 4]:=qcj (Zv hl) (Zv hm)
def qbe (p:Int) (l m:List Int):List Int×Bool:=if Jv p l m=true then (monP p (Zu p (relP p l m) l),true) else ([],false)
def onB (p:Int) (a l:List Int):Bool:=qah p a && Z0 p l && decide (Qx p 4 [l.take 4,l.drop 4,a]=2)
theorem Jw {p:Int} {a:List Int} (h:qah p a=true):Zz p a 4=true/\qav a=true:=by
 rw[qah,Bool.and_eq_true]at h;exact h
theorem qaj {p:Int} {a:List Int} (h:Zz p a 4=true):a.length=4/\∀ x∈a,0<=x/\x < p:=(jn h).2
theorem qe5 {p:Int} {a l:List Int} (hl:Zz p l 8=true) (ha:Zz p a 4=true):okR p 4 [l.take 4,l.drop 4,a]:=qcj (Zv hl) (qad (qaj ha) (J8 p 4))
theorem qeu :∀ (l:List Int),qav l=true->∃ h,h < l.length/\fn l h=1/\∀ j,j < h->fn l j=0
 | [],h=>by simp[qav]at h
 | x :: l,h=>by
  by_cases hx:x=0
  ·subst hx
   have h':qav l=true:=by simpa [qav] using h
   obtain⟨i,h1,h2,h3⟩:=qeu l h';have e:∀ j:Nat,fn (0 :: l) (j+1)=fn l j:=λj=>by simp[fn,rd]
   refine⟨i+1,by simpa using h1,by rw[e];exact h2,λj hj=>?_⟩
   cases j with
   | zero=>simp[fn,rd]
   | succ j=>rw[e];exact h3 j (by omega)
  ·have h1:x=1:=by simpa [qav,hx] using h
   subst h1;exact⟨0,by simp,by simp[fn,rd],λj hj=>absurd hj (by omega)⟩
theorem qj6 {p:Int} {w:Nat} (hp:2<=p) {a:List Int} (ha:a.length=w/\∀ x∈a,0<=x/\x < p) (hm:qav a=true) {x:Nat×List Int} (hx:Rref p w [x]) (hs:Sp p w [x.2] (fn a)):a=x.2:=by
 obtain⟨h,h1,h2,h3⟩:=qeu a hm;have hl:=hx.lead (v:=fn a) hs (j:=h) (by omega) (λi hi=>by rw[h3 i hi];exact Int.dvd_zero p) (by rw[h2];exact J3 hp);obtain⟨y,hy,e⟩:=hl;have hyx:y=x:=by simpa using hy
 subst hyx;refine qoq ha.1 (hx.ok y (by simp)).1 λj hj=>qdi (Zi ha j hj) (Zi (hx.ok y (by simp)) j hj) ?_
 have:=hx.coord (v:=fn a) hs j hj
 have e2:cs [y] (fn a) j=fn y.2 j:=by simp[cs,e,h2]
 rwa [e2]at this
theorem qdp {p:Int} {w:Nat} (hp:2<=p) {a:List Int} (ha:a.length=w) (hm:qav a=true):¬ Sp p w [] (fn a):=λhs=>by
 obtain⟨h,h1,h2,h3⟩:=qeu a hm
 cases hs with
 | zero _ hz=>have:=hz h (by omega);rw[h2]at this;exact J3 hp this
 | add _ u r t hr _ _=>exact absurd hr (by simp)
theorem quk {p:Int} {a b:List Int} (ha:qah p a=true) (hb:qah p b=true) (hne:a≠b):Qx p 4 [a,b]=2:=by
 obtain⟨ha1,ha2⟩:=Jw ha;obtain⟨hb1,hb2⟩:=Jw hb;have hp:=(jn ha1).1;have hbd:=zk hp;have hok:okR p 4 [a,b]:=qad (qaj ha1) (qad (qaj hb1) (J8 p 4));have hle:=qcg (p:=p) (w:=4) [a,b];obtain⟨P,e1,_,hP,h1,h2⟩:=Ji hp hok;have hl:Qx p 4 [a,b]=P.length:=by rw[Qx,e1,List.length_map]
 match P,hP,h1,hl with
 | [],_,h1,_=>exact absurd (h1 a (by simp)) (qdp (by omega) (qaj ha1).1 ha2)
 | [x],hP,h1,_=>exact absurd ((qj6 (by omega) (qaj ha1) ha2 hP (h1 a (by simp))).trans (qj6 (by omega) (qaj hb1) hb2 hP (h1 b (by simp))).symm) hne
 | _ :: _ :: _,_,_,hl=>simp at hl hle;omega
theorem qnz {p:Int} {a b:List Int} (ha:qah p a=true) (hb:qah p b=true):okR p 4 [a,b]:=qad (qaj (Jw ha).1) (qad (qaj (Jw hb).1) (J8 p 4))
theorem qrl :∀ {P Q:List (Nat×List Int)},P.Pairwise (λx y=>x.1 < y.1)->Q.Pairwise (λx y=>x.1 < y.1)->(∀ x∈P,∃ y∈Q,y.1=x.1)->P.length=Q.length->∀ y∈Q,∃ x∈P,x.1=y.1:=by
 intro P Q hp hq h hl y hy
 by_cases hex:∃ x∈P,x.1=y.1
 ·exact hex
 ·exfalso
  obtain⟨A,B,rfl⟩:=List.append_of_mem hy;rw[List.pairwise_append,List.pairwise_cons]at hq;have hq2:(A++B).Pairwise λx y=>x.1 < y.1:=by
   rw[List.pairwise_append];exact⟨hq.1,hq.2.1.2,λa ha b hb=>hq.2.2 a ha b (by simp[hb])⟩
  have:=Jx hp hq2 λz hz=>by
   obtain⟨u,hu,e2⟩:=h z hz;refine⟨u,?_,e2⟩;simp only[List.mem_append,List.mem_cons]at hu ⊢
   rcases hu with hu|rfl|hu
   ·exact .inl hu
   ·exact absurd ⟨z,hz,e2.symm⟩ hex
   ·exact .inr hu
  simp at this hl
  omega
theorem Rref.C9 {p:Int} {w:Nat} {P Q:List (Nat×List Int)} (hp:2<=p) (h:Rref p w P) (k:Rref p w Q) (hs:∀ x∈P,Sp p w (Q.map Prod.snd) (fn x.2)) (hl:P.length=Q.length):P=Q:=by
 have hk:=qrl h.inc k.inc (λx hx=>h.heads hp k hs hx) hl;have key:∀ x,x∈P->x∈Q:=by
  intro x hx;obtain⟨y,hy,e⟩:=h.heads hp k hs hx;have e2:x.2=y.2:=by
   refine qoq (h.ok x hx).1 (k.ok y hy).1 λj hj=>qdi (Zi (h.ok x hx) j hj) (Zi (k.ok y hy) j hj) ?_;have h1:=k.coord (hs x hx) j hj;have h2:cs Q (fn x.2) j=fn y.2 j:=by
    obtain⟨A,B,e3,ha,hb⟩:=qel k.inc hy;have h3:∀ z,z∈Q->z.1≠y.1->fn x.2 z.1*fn z.2 j=0:=λz hz hn=>by
     obtain⟨x',hx',e4⟩:=hk z hz;rw[<-e4,h.off x hx x' hx' (by rw[e4,<-e];exact Ne.symm hn),Int.zero_mul]
    rw[cs]
    conv=>lhs;rw[e3]
    rw[qd6 _ y A B (λz hz=>h3 z (by rw[e3];simp[hz]) (ha z hz)) (λz hz=>h3 z (by rw[e3];simp[hz]) (hb z hz)),e,h.one x hx,Int.one_mul]
   rwa [h2]at h1
  have:x=y:=Prod.ext e.symm e2
  rwa [this]
 refine qf6 (key:=Prod.fst) h.inc k.inc λx=>⟨key x,λhx=>?_⟩
 obtain⟨y,hy,e⟩:=hk x hx;have hyq:=key y hy
 by_cases e2:y=x
 ·rwa [<-e2]
 ·exfalso
  obtain⟨A,B,e3,ha,hb⟩:=qel k.inc hx;rw[e3,List.mem_append,List.mem_cons]at hyq
  rcases hyq with hyq|hyq|hyq
  ·exact ha y hyq e
  ·exact e2 hyq
  ·exact hb y hyq e
theorem qb6 {p:Int} (hp:zi p=true) {w:Nat} {L M:List (List Int)} (hL:okR p w L) (hM:okR p w M) (h:∀ r∈L,Sp p w M (fn r)) (hr:Qx p w L=Qx p w M):redP p w 0 L []=redP p w 0 M []/\∀ r∈M,Sp p w L (fn r):=by
 have hb:=zk hp;obtain⟨P,e1,_,hP,h1,h2⟩:=Ji hp hL;obtain⟨Q,e3,_,hQ,h4,h5⟩:=Ji hp hM;rw[Qx,Qx,e1,e3,List.length_map,List.length_map]at hr;have e:=hP.C9 (by omega) hQ (λx hx=>Sp.sub h4 (Sp.sub h (h2 x hx))) hr;refine⟨by rw[e1,e3,e],λr hr=>?_⟩;refine Sp.sub (λs hs=>?_) (h4 r hr);rw[<-e]at hs;obtain⟨x,hx,rfl⟩:=List.mem_map.1 hs;exact h2 x hx
theorem qsm {p:Int} (hp:zi p=true) {w:Nat} {L:List (List Int)} (hL:okR p w L):redP p w 0 (redP p w 0 L []) []=redP p w 0 L []:=by
 have hb:=zk hp;obtain⟨P,e1,_,hP,h1,h2⟩:=Ji hp hL;have hok:=qcm (p:=p) (by omega) w 0 L [] hL (J8 p w);rw[e1]at hok ⊢;rw[<-e1];refine(qlv hp (e1 ▸ hok) hL (λr hr=>?_) (λr hr=>?_))
 ·rw[e1]at hr
  obtain⟨x,hx,rfl⟩:=List.mem_map.1 hr;exact h2 x hx
 ·rw[e1];exact h1 r hr
theorem qrx {x y l:List Int} (hx:x.length=4) (h:[x,y].flatten=l):l.take 4=x/\l.drop 4=y:=by
 subst h
 simp[<-hx]
theorem qeh {p:Int} (hp:zi p=true) {L:List (List Int)} (hL:okR p 4 L) (h2:Qx p 4 L=2):
  Z0 p (Jj p 4 L)=true/\redP p 4 0 L []=[(Jj p 4 L).take 4,(Jj p 4 L).drop 4]:=by
 have hb:=zk hp;have hro:=qcm (p:=p) (by omega) 4 0 L [] hL (J8 p 4);have hself:=qsm hp hL;rw[Qx]at h2;have hsp:Jj p 4 L=(redP p 4 0 L []).flatten:=rfl;generalize hM:redP p 4 0 L []=M at*
 match M,h2 with
 | [x,y],_=>
  have hx:=hro x (by simp);have hy:=hro y (by simp);obtain⟨e1,e2⟩:=qrx hx.1 hsp.symm;have hl8:(Jj p 4 L).length=8:=by rw[hsp];simp;omega
  refine⟨?_,by rw[e1,e2]⟩;rw[Z0,e1,e2,qe6 hp hl8 (λz hz=>?_),Bool.true_and]
  ·rw[Jj,hself,<-hsp];exact decide_eq_true rfl
  ·rw[hsp]at hz
   simp only[List.flatten_cons,List.flatten_nil,List.append_nil,List.mem_append]at hz
   rcases hz with hz|hz
   ·exact hx.2 z hz
   ·exact hy.2 z hz
theorem qrs {p:Int} {l:List Int} (h:Z0 p l=true):redP p 4 0 [l.take 4,l.drop 4] []=[l.take 4,l.drop 4]:=by
 have hn:=Q7 h;have hp:=(jn hn).1;have hs:=(qeh hp (Zv hn) (qam h)).2;rw[Z0,Bool.and_eq_true]at h;rw[of_decide_eq_true h.2]at hs;exact hs
theorem qkl {p:Int} (hp:zi p=true) {L:List (List Int)} (hL:okR p 4 L) (h2:Qx p 4 L=2):
  (∀ r∈L,Sp p 4 [(Jj p 4 L).take 4,(Jj p 4 L).drop 4] (fn r))/\∀ r∈[(Jj p 4 L).take 4,(Jj p 4 L).drop 4],Sp p 4 L (fn r):=by
 have hs:=(qeh hp hL h2).2;obtain⟨P,e1,_,hP,h1,h3⟩:=Ji hp hL;rw[hs]at e1;rw[e1];refine⟨h1,λr hr=>?_⟩;obtain⟨x,hx,rfl⟩:=List.mem_map.1 hr;exact h3 x hx
theorem qv1 {p:Int} (hp:zi p=true) {L:List (List Int)} (hL:okR p 4 L) (h2:Qx p 4 L=2) {a:List Int} (ha:qah p a=true) (hs:Sp p 4 L (fn a)):onB p a (Jj p 4 L)=true:=by
 have hl:=(qeh hp hL h2).1;have hn:=Q7 hl;have ha1:=(Jw ha).1;obtain⟨h3,h4⟩:=qkl hp hL h2;have hr:=qam hl;have k1:=qbs hp (qe5 hn ha1) (Zv hn) (λr hr=>by
  simp only[List.mem_cons,List.not_mem_nil,or_false]at hr
  rcases hr with rfl|rfl|rfl
  ·exact Sp.mem (by simp)
  ·exact Sp.mem (by simp)
  ·exact Sp.sub h3 hs)
 have k2:=qbs hp (Zv hn) (qe5 hn ha1) (λr hr=>Sp.mem (by
  simp only[List.mem_cons,List.not_mem_nil,or_false]at hr ⊢
  rcases hr with rfl|rfl
  ·exact .inl rfl
  ·exact .inr (.inl rfl)))
 rw[onB,ha,hl,decide_eq_true (by omega)]
 rfl
theorem qd7 {p:Int} {l:List Int} (h:Z0 p l=true):Jj p 4 [l.take 4,l.drop 4]=l:=by
 rw[Z0,Bool.and_eq_true]at h;exact of_decide_eq_true h.2
theorem quz {p:Int} {a l:List Int} (h:Z0 p l=true) (ha:qah p a=true) (hs:Sp p 4 [l.take 4,l.drop 4] (fn a)):onB p a l=true:=by
 have hn:=Q7 h
 have:=qv1 (jn hn).1 (Zv hn) (qam h) ha hs
 rwa [qd7 h]at this
theorem De {p:Int} {a l:List Int} (h:onB p a l=true):Sp p 4 [l.take 4,l.drop 4] (fn a):=by
 rw[onB,Bool.and_eq_true,Bool.and_eq_true]at h;obtain⟨⟨ha,hl⟩,hr⟩:=h;have hn:=Q7 hl;have ha1:=(Jw ha).1;have h1:=qb6 (jn hn).1 (Zv hn) (qe5 hn ha1) (λr hr=>Sp.mem (by
  simp only[List.mem_cons,List.not_mem_nil,or_false]at hr ⊢
  rcases hr with rfl|rfl
  ·exact .inl rfl
  ·exact .inr (.inl rfl))) (by rw[qam hl,of_decide_eq_true hr])
 exact h1.2 a (by simp)
theorem qfi {p:Int} {a b l:List Int} (hl:Z0 p l=true) (ha:qah p a=true) (hb:qah p b=true) (hne:a≠b) (sa:Sp p 4 [l.take 4,l.drop 4] (fn a)) (sb:Sp p 4 [l.take 4,l.drop 4] (fn b)):Jj p 4 [a,b]=l:=by
 have hn:=Q7 hl;have h1:=qb6 (jn hn).1 (qnz ha hb) (Zv hn) (λr hr=>by
  simp only[List.mem_cons,List.not_mem_nil,or_false]at hr
  rcases hr with rfl|rfl
  ·exact sa
  ·exact sb) (by rw[quk ha hb hne,qam hl])
 rw[Jj,h1.1,<-Jj,qd7 hl]
theorem qfe {p:Int} {m:List Int} (h:Z0 p m=true) {x y:Int} (hxy:∀ j,j < 4->p ∣ x*fn (m.take 4) j+y*fn (m.drop 4) j):p ∣ x/\p ∣ y:=by
 have hn:=Q7 h;have hp:=(jn hn).1;obtain⟨Q,e1,_,hQ,_,_⟩:=Ji hp (Zv hn);rw[qrs h]at e1
 match Q,e1,hQ with
 | [],e1,_=>simp at e1
 | [_],e1,_=>simp at e1
 | _ :: _ :: _ :: _,e1,_=>simp at e1
 | [a,b],e1,hQ=>
  simp only[List.map_cons,List.map_nil,List.cons.injEq,and_true]at e1;obtain⟨ea,eb⟩:=e1;have hlt:=hQ.inc
  simp at hlt
  have h1:=hxy a.1 (hQ.lt a (by simp));have h2:=hxy b.1 (hQ.lt b (by simp));rw[ea,eb,hQ.one a (by simp),hQ.off b (by simp) a (by simp) (by omega)]at h1;rw[ea,eb,hQ.one b (by simp),hQ.off a (by simp) b (by simp) (by omega)]at h2;exact⟨by simpa using h1,by simpa using h2⟩
theorem qh4 :∀ (l:List Int) (h:Nat),h < l.length->fn l h=1->(∀ j,j < h->fn l j=0)->qav l=true
 | [],_,h,_,_=>absurd h (by simp)
 | x :: l,0,_,h1,_=>by
  have:x=1:=by simpa [fn,rd] using h1
  subst this;rfl
 | x :: l,h+1,hl,h1,hz=>by
  have e:∀ j:Nat,fn (x :: l) (j+1)=fn l j:=λj=>by simp[fn,rd]
  have hx:x=0:=by simpa [fn,rd] using hz 0 (by omega)
  have ih:=qh4 l h (by simpa using hl) (by rw[<-e];exact h1) (λj hj=>by rw[<-e];exact hz (j+1) (by omega));subst hx
  simpa [qav] using ih
theorem qnr :∀ (l:List Int),¬ (l.all λx=>x == 0)=true->∃ c,c < l.length/\fn l c≠0/\∀ j,j < c->fn l j=0
 | [],h=>absurd rfl h
 | x :: l,h=>by
  have e:∀ j:Nat,fn (x :: l) (j+1)=fn l j:=λj=>by simp[fn,rd]
  by_cases hx:x=0
  ·obtain⟨c,h1,h2,h3⟩:=qnr l (λh2=>h (by simp[hx];simpa using h2))
   refine⟨c+1,by simpa using h1,by rw[e];exact h2,λj hj=>?_⟩
   cases j with
   | zero=>simpa [fn,rd] using hx
   | succ j=>rw[e];exact h3 j (by omega)
  ·exact⟨0,by simp,by simpa [fn,rd] using hx,λj hj=>absurd hj (by omega)⟩
theorem qob {p:Int} (hp:zi p=true) {w:Nat} {a:List Int} (ha:a.length=w/\∀ x∈a,0<=x/\x < p) (hz:¬ (a.all λx=>x == 0)=true):
  Zz p (rowP p a) w=true/\qav (rowP p a)=true/\∀ L,Sp p w L (fn a)->Sp p w L (fn (rowP p a)):=by
 have hb:=zk hp;obtain⟨c,h1,h2,h3⟩:=qnr a hz;have hrow:=qkn (p:=p) h1 h3 h2;have hc:=Zi ha c (by omega);obtain⟨_,i0,i1,i2,_⟩:=J1 hp hc.1 hc.2;have hs:=qcz (p:=p) (b:=invP p (rd a (c:Int))) (by omega) ha.1;have hf:∀ j,j < w->fn (rowP p a) j=fn a j*invP p (fn a c) % p:=λj hj=>by rw[hrow];exact qfd ha.1 hj
 rw[hrow]at hf ⊢;refine⟨qe6 hp hs.1 hs.2,qh4 _ c (by rw[hs.1];omega) (by rw[hf c (by omega)];exact i2 h2) (λj hj=>by rw[hf j (by omega),h3 j hj];simp),λL hL=>?_⟩;refine(hL.scale (invP p (fn a c))).congr λj hj=>?_;rw[hf j hj];exact Jl (-1) (Je (fn a j*invP p (fn a c)) p) (by rw[Int.mul_comm (invP p (fn a c))];omega)
theorem qhb (p:Int) (t l:List Int) (j:Nat) (hj:j < 4):fn (Zu p t l) j=(fn t 0*fn l j+fn t 1*fn l (4+j)) % p:=by
 rw[fn,Jo _ j (by simpa [Zu] using hj)];simp[Zu]
theorem qk8 {p:Int} (hp:0 < p) (t l:List Int):(Zu p t l).length=4/\∀ x∈Zu p t l,0<=x/\x < p:=by
 refine⟨by simp[Zu],λx hx=>?_⟩;obtain⟨j,_,rfl⟩:=List.mem_map.1 hx;exact⟨Int.emod_nonneg _ (by omega),Int.emod_lt_of_pos _ (by omega)⟩
theorem qs4 {p:Int} (l:List Int) (x y:Int) {v:Nat->Int} (h:∀ j,j < 4->p ∣ v j - (x*fn l j+y*fn l (4+j))):Sp p 4 [l.take 4,l.drop 4] v:=by
 refine Sp.congr (u:=λj=>x*fn (l.take 4) j+y*fn (l.drop 4) j) (((Sp.mem (by simp)).scale x).sum ((Sp.mem (by simp)).scale y)) λj hj=>?_;rw[qck l 4 j hj,qcl];exact h j hj
theorem qj4 {p:Int} {l m t:List Int} (hl:Z0 p l=true) (hm:Z0 p m=true) (e:Int) (he:e=1\/e=-1) (ht:¬ ∀ i,i < 4->p ∣ fn t i)
  (hrel:∀ j,j < 4->p ∣ (fn t 0*fn l j+fn t 1*fn l (4+j))+e*(fn t 2*fn m j+fn t 3*fn m (4+j))):
  ¬ ((Zu p t l).all λx=>x == 0)=true/\qah p (rowP p (Zu p t l))=true/\Sp p 4 [l.take 4,l.drop 4] (fn (rowP p (Zu p t l)))/\Sp p 4 [m.take 4,m.drop 4] (fn (rowP p (Zu p t l))):=by
 have hn:=Q7 hl;have hp:=(jn hn).1;have hb:=zk hp;have hok:=qk8 (p:=p) (by omega) t l;have hz:¬ ((Zu p t l).all λx=>x == 0)=true:=λhz=>by
  have h0:∀ j,j < 4->p ∣ fn t 0*fn l j+fn t 1*fn l (4+j):=λj hj=>by
   have h1:=List.all_eq_true.1 hz ((Zu p t l)[j]'(by rw[hok.1];exact hj)) (List.getElem_mem _);have h2:fn (Zu p t l) j=0:=by rw[fn,Jo _ j (by rw[hok.1];exact hj)];simpa using h1
   rw[qhb p t l j hj]at h2;exact Int.dvd_of_emod_eq_zero h2
  have a:=qfe hl (x:=fn t 0) (y:=fn t 1) λj hj=>by rw[qck l 4 j hj,qcl];exact h0 j hj
  have b:=qfe hm (x:=fn t 2) (y:=fn t 3) λj hj=>by
   rw[qck m 4 j hj,qcl]
   rcases he with rfl|rfl
   ·exact Z7 1 (-1) (hrel j hj) (h0 j hj) (by omega)
   ·exact Z7 (-1) 1 (hrel j hj) (h0 j hj) (by omega)
  refine ht λi hi=>?_
  match i,hi with
  | 0,_=>exact a.1
  | 1,_=>exact a.2
  | 2,_=>exact b.1
  | 3,_=>exact b.2
 obtain⟨f1,f2,f3⟩:=qob hp hok hz;refine⟨hz,by rw[qah,f1,f2];rfl,f3 _ (qs4 l (fn t 0) (fn t 1) λj hj=>?_),f3 _ (qs4 m (-e*fn t 2) (-e*fn t 3) λj hj=>?_)⟩
 ·rw[qhb p t l j hj]
  exact Jl (-1) (Je (fn t 0*fn l j+fn t 1*fn l (4+j)) p) (by omega)
 ·rw[qhb p t l j hj]
  refine Z7 (-1) 1 (Je (fn t 0*fn l j+fn t 1*fn l (4+j)) p) (hrel j hj) ?_;generalize (fn t 0*fn l j+fn t 1*fn l (4+j))=q;generalize q % p=q2
  grind
theorem qj1 {p:Int} {l m a b:List Int} (hc:Jv p l m=true) (ha:qah p a=true) (hb:qah p b=true) (al:Sp p 4 [l.take 4,l.drop 4] (fn a)) (am:Sp p 4 [m.take 4,m.drop 4] (fn a)) (bl:Sp p 4 [l.take 4,l.drop 4] (fn b)) (bm:Sp p 4 [m.take 4,m.drop 4] (fn b)):a=b:=by
 rw[Jv,Bool.and_eq_true,Bool.and_eq_true]at hc;obtain⟨⟨hl,hm⟩,h3⟩:=hc
 by_cases hne:a=b
 ·exact hne
 ·exfalso
  have e1:=qfi hl ha hb hne al bl;have e2:=qfi hm ha hb hne am bm;have e:l=m:=e1.symm.trans e2;subst e;have h3:=of_decide_eq_true h3;have hn:=Q7 hl
  have:=qbs (jn hn).1 (qg6 hn hn) (Zv hn) (λr hr=>Sp.mem (by
   simp only[List.mem_cons,List.not_mem_nil,or_false]at hr ⊢
   rcases hr with h|h|h|h<;>simp[h]))
  have h2:=qcg (p:=p) (w:=4) [l.take 4,l.drop 4]
  simp at h2
  omega
theorem qbb {p:Int} {l m:List Int} (hc:Jv p l m=true):
  qbe p l m=(rowP p (Zu p (relP p l m) l),true)/\qah p (rowP p (Zu p (relP p l m) l))=true/\Sp p 4 [l.take 4,l.drop 4] (fn (rowP p (Zu p (relP p l m) l)))/\Sp p 4 [m.take 4,m.drop 4] (fn (rowP p (Zu p (relP p l m) l))):=by
 have hc0:=hc;rw[Jv,Bool.and_eq_true,Bool.and_eq_true]at hc;obtain⟨⟨hl,hm⟩,h3⟩:=hc;have h3:=of_decide_eq_true h3;have hnl:=Q7 hl;have hnm:=Q7 hm;have hp:=(jn hnl).1;have hbd:=zk hp;have hok:=qh9 hnl hnm;have hne:=qn0 hp hok (by show Qx p 4 (qaa l m) < _;rw[show Qx p 4 (qaa l m)=3 from h3];simp[qaa]);obtain⟨N,e,hN,h4,_⟩:=Zr hp (qfk hok);have hlen:(qaa l m).length=4:=rfl;rw[hlen]at e hN h4 hne
 match N,e,hN,h4 with
 | [],e,_,_=>exact absurd e hne
 | z :: N,e,hN,h4=>
  have et:relP p l m=z.2:=by rw[relP,e];rfl
  rw[et];have hr:=qj4 (t:=z.2) hl hm 1 (.inl rfl) (λh=>by
   have:=h z.1 (hN.lt z (by simp))
   rw[hN.one z (by simp)]at this;exact J3 (by omega) this) (λj hj=>by
   have hd:=h4 z (by simp) [fn l j,fn l (4+j),fn m j,fn m (4+j)] (by rw[qix];exact List.mem_map.2 ⟨j,by simpa using hj,rfl⟩);have e2:dt 4 (fn [fn l j,fn l (4+j),fn m j,fn m (4+j)]) (fn z.2)=fn l j*fn z.2 0+(fn l (4+j)*fn z.2 1+(fn m j*fn z.2 2+(fn m (4+j)*fn z.2 3+0))):=rfl;rw[e2]at hd;exact Jl 1 hd (by grind))
  refine⟨?_,hr.2⟩;rw[qbe,if_pos hc0,et,monP,if_neg hr.1]
theorem qga (l:List Int) (h:4<=l.length):Z1.f l=some [l.take 4,l.drop 4]:=by
 rw[Z1.f,if_pos (by omega)]
theorem qup {p:Int} {a l:List Int} (hl:Zz p l 8=true) (ha:Zz p a 4=true):Ev (λk=>J0.f k p a l) (decide (Qx p 4 [l.take 4,l.drop 4,a]=2)):=by
 unfold J0.f;refine Ev.bind (Ev.k (qga l (by have:=(jn hl).2.1;omega))) (Ev.yes (by simp) ?_);refine Ev.bind (qdg (jn hl).1 (w:=4) _ (by omega) (by simp) (qe5 hl ha)) ?_;have e:(((redP p 4 0 ([l.take 4,l.drop 4]++[a]) []).length:Int) == 2)=decide (Qx p 4 [l.take 4,l.drop 4,a]=2):=by
  rw[Qx,Bool.eq_iff_iff];simp;omega
 rw[e];exact Ev.now _
theorem qou {p:Int} {l m:List Int} (hl:Zz p l 8=true) (hm:Zz p m 8=true):Ev (λk=>Z4.f k p l m) (decide (Qx p 4 [l.take 4,l.drop 4,m.take 4,m.drop 4]=3)):=by
 unfold Z4.f;refine Ev.bind (Ev.k (qga l (by have:=(jn hl).2.1;omega))) (Ev.bind (Ev.k (qga m (by have:=(jn hm).2.1;omega))) (Ev.yes (by simp) ?_));refine Ev.bind (qdg (jn hl).1 (w:=4) _ (by omega) (by simp) (qg6 hl hm)) ?_;have e:(((redP p 4 0 ([l.take 4,l.drop 4]++[m.take 4,m.drop 4]) []).length:Int) == 3)=decide (Qx p 4 [l.take 4,l.drop 4,m.take 4,m.drop 4]=3):=by
  rw[Qx,Bool.eq_iff_iff];simp;omega
 rw[e];exact Ev.now _
def qgw (p:Int) (l m n:List Int):Bool:=Jv p l m && onB p (qbe p l m).1 n
theorem DZ {p:Int} {L:List (List Int)} {x:List Int} {l m n:List Int} (el:L.getD (x.getD 0 0).toNat []=l) (em:L.getD (x.getD 1 0).toNat []=m) (en:L.getD (x.getD 2 0).toNat []=n) (hl:Z0 p l=true) (hm:Z0 p m=true) (hn:Z0 p n=true):
  Ev (λk=>ssQ k p L x) (!(qgw p l m n)):=by
 unfold ssQ;rw[el,em,en];refine Ev.bind (qou (Q7 hl) (Q7 hm)) ?_
 by_cases h3:Qx p 4 [l.take 4,l.drop 4,m.take 4,m.drop 4]=3
 ·have hc:Jv p l m=true:=by rw[Jv,hl,hm,decide_eq_true h3];rfl
  have hpl:=qbb hc;have e1:(qbe p l m).1=monP p (Zu p (relP p l m) l):=by rw[qbe,if_pos hc]
  have hB:qah p (monP p (Zu p (relP p l m) l))=true:=by rw[<-e1,hpl.1];exact hpl.2.1
  rw[decide_eq_true h3];refine Ev.yes rfl (Ev.bind (qip (Q7 hl) (Q7 hm) h3) (Ev.bind (qup (Q7 hn) (Jw hB).1) ?_));rw[qgw,hc,e1,onB,hB,hn];exact Ev.now _
 ·have hc:Jv p l m=false:=by rw[Jv,hl,hm,decide_eq_false h3];rfl
  rw[decide_eq_false h3,qgw,hc];exact Ev.no (by simp) (Ev.now _)
theorem qps {n:Nat} (q x y:Nat->Fq n):ev3 (polL q y) x=ev3 (polL q x) y:=by simp only[ev3,polL];grind
theorem qhl {n:Nat} (q x y:Nat->Fq n) (h0:x 0=y 0) (h1:x 1=y 1) (h2:x 2=y 2):valQ q x=valQ q y:=by simp only[valQ];rw[h0,h1,h2]
theorem qoi {n:Nat} (a b c x:Nat->Fq n) (t:Nat) (ht:t < 3):ev3 (qu a b) c*x t=ev3 (qu x b) c*a t+ev3 (qu a x) c*b t+ev3 (qu a b) x*c t:=by
 simp only[ev3,qu]
 rcases (show t=0\/t=1\/t=2 by omega) with rfl|rfl|rfl<;>grind
theorem qnt {n:Nat} (q a b c:Nat->Fq n) (s t u:Fq n) (ha:valQ q a=0) (hb:valQ q b=0) (hc:valQ q c=0) (hp:∀ x,ev3 (polL q a) x=0):valQ q (λi=>s*a i+t*b i+u*c i)=t*u*ev3 (polL q c) b:=by
 have e:valQ q (λi=>s*a i+t*b i+u*c i)=valQ q (mixP (mixP a b s t) c 1 u):=qhl q _ _ (by simp only[mixP];grind) (by simp only[mixP];grind) (by simp only[mixP];grind);rw[e,qdz,qdz,ha,hb,hc,qps q a b,hp b,qa4,qps q a c,hp c]
 grind
theorem Dr {n:Nat} (hF:FldH n) {P:Nat->Nat->Fq n} (hG:gen3 P) {i b c d j:Nat} (hk:i < 6/\b < 6/\c < 6/\d < 6/\j < 6) (hd:i≠b/\i≠c/\i≠d/\b≠c/\b≠d/\c≠d) (q:Nat->Fq n) (qi:valQ q (P i)=0) (qb:valQ q (P b)=0) (qc:valQ q (P c)=0) (qd:valQ q (P d)=0) (qj:valQ q (P j)≠0):∃ t,t < 3/\polL q (P i) t≠0:=by
 obtain⟨i6,b6,c6,d6,j6⟩:=hk;obtain⟨ib,ic,id,bc,bd,cd⟩:=hd;refine Classical.byContradiction λhn=>?_;have z:∀ t,t < 3->polL q (P i) t=0:=λt ht=>Classical.byContradiction λh=>hn ⟨t,ht,h⟩;have hp:∀ x,ev3 (polL q (P i)) x=0:=λx=>by
  simp only[ev3];rw[z 0 (by omega),z 1 (by omega),z 2 (by omega)];grind
 have key:∀ x,ev3 (qu (P i) (P b)) (P c)*ev3 (qu (P i) (P b)) (P c)*valQ q x=ev3 (qu (P i) x) (P c)*ev3 (qu (P i) (P b)) x*ev3 (polL q (P c)) (P b):=λx=>by
  rw[<-qnt q (P i) (P b) (P c) (ev3 (qu x (P b)) (P c)) (ev3 (qu (P i) x) (P c)) (ev3 (qu (P i) (P b)) x) qi qb qc hp];have c0:=qoi (P i) (P b) (P c) x 0 (by omega);have c1:=qoi (P i) (P b) (P c) x 1 (by omega);have c2:=qoi (P i) (P b) (P c) x 2 (by omega);rw[<-qhl q (λt=>ev3 (qu (P i) (P b)) (P c)*x t) (λt=>ev3 (qu x (P b)) (P c)*P i t+ev3 (qu (P i) x) (P c)*P b t+ev3 (qu (P i) (P b)) x*P c t) c0 c1 c2];clear c0 c1 c2;generalize ev3 (qu (P i) (P b)) (P c)=D;simp only[valQ]
  grind
 have n1:=hG i b c i6 b6 c6 ib bc ic;have n2:=hG i d c i6 d6 c6 id (Ne.symm cd) ic;have n3:=hG i b d i6 b6 d6 ib bd id;have hd':=key (P d);rw[qd]at hd';have hB:ev3 (polL q (P c)) (P b)=0:=(fz hF (show ev3 (qu (P i) (P d)) (P c)*ev3 (qu (P i) (P b)) (P d)*ev3 (polL q (P c)) (P b)=0 by rw[<-hd'];grind)).resolve_left (fnz hF n2 n3);have hj:=key (P j);rw[hB]at hj;exact fnz hF (fnz hF n1 n1) qj (by rw[hj];grind)
theorem Dx {n:Nat} (q l x:Nat->Fq n) (c:Nat) (hc:c < 3):gdC c (qL q l) x=polL q x c*ev3 l x+valQ q x*l c:=by
 rcases (show c=0\/c=1\/c=2 by omega) with rfl|rfl|rfl<;>
  (simp only[gdC,qL,polL,valQ,ev3,if_true,if_false,Nat.one_ne_zero,Nat.zero_ne_one,Nat.reduceEqDiff];grind)
theorem qj8 {p:Int} (hp:zi p=true) {L M:List (List Int)} (hL:okR p 4 L) (hM:okR p 4 M) (rL:Qx p 4 L=2) (rM:Qx p 4 M=2) (h:Jj p 4 L=Jj p 4 M) (f:Nat->Fq (nn p)) (hf:∀ r∈L,lin4 f (rF p r)=0):∀ r∈M,lin4 f (rF p r)=0:=λr hr=>by
 have h1:=(qkl hp hM rM).1 r hr;rw[<-h]at h1;have h2:=Sp.sub (qkl hp hL rL).2 h1;exact(dt4 hp r f).1 (qjw (λs hs=>(dt4 hp s f).2 (hf s hs)) h2)
theorem qr3 {p:Int} {r:List Int} (hz:r.all (λx=>x == 0)=true) (f:Nat->Fq (nn p)):lin4 f (rF p r)=0:=by
 have z:∀ j,rF p r j=0:=λj=>by
  have:fn r j=0:=by
   by_cases hj:j < r.length
   ·have:=List.all_eq_true.1 hz (r[j]) (List.getElem_mem hj)
    rw[fn,Jo r j hj];simpa using this
   ·simp[fn,rd,List.getD_eq_getElem?_getD,List.getElem?_eq_none (Nat.le_of_not_lt hj)]
  rw[rF,this,qa3]
 simp only[lin4];rw[z,z,z,z];grind
def oK (i j m n:Nat):Nat:=((List.range 6).filter λx=>x !=i && x !=j && x !=m && x !=n).getD 0 0
def oQ (i j m n:Nat):Nat:=((List.range 6).filter λx=>x !=i && x !=j && x !=m && x !=n).getD 1 0
def othB (i j m n:Nat):Bool:=(i == j || m == n || i == m || i == n || j == m || j == n) || (decide (oK i j m n < 6) && decide (oQ i j m n < 6) && oK i j m n !=oQ i j m n && oK i j m n !=m && oK i j m n !=n && oQ i j m n !=m && oQ i j m n !=n && (List.range 6).all λx=>x == i || x == j || x == oK i j m n || x == m || x == oQ i j m n || x == n)
theorem qvn :((List.range 6).all λi=>(List.range 6).all λj=>(List.range 6).all λm=>(List.range 6).all λn=>othB i j m n)=true:=by decide+kernel
theorem oth2 (i:Nat) (hi:i < 6) (j:Nat) (hj:j < 6) (m:Nat) (hm:m < 6) (n:Nat) (hn:n < 6) (h1:i≠j) (h2:m≠n) (h3:i≠m) (h4:i≠n) (h5:j≠m) (h6:j≠n):(oK i j m n < 6/\oQ i j m n < 6/\oK i j m n≠oQ i j m n/\oK i j m n≠m/\oK i j m n≠n/\oQ i j m n≠m/\oQ i j m n≠n/\∀ x,x < 6->x=i\/x=j\/x=oK i j m n\/x=m\/x=oQ i j m n\/x=n):=by
 have h:=List.all_eq_true.1 (List.all_eq_true.1 (List.all_eq_true.1 (List.all_eq_true.1 qvn i (List.mem_range.2 hi)) j (List.mem_range.2 hj)) m (List.mem_range.2 hm)) n (List.mem_range.2 hn);unfold othB at h;simp only[Bool.or_eq_true,Bool.and_eq_true,beq_iff_eq,bne_iff_ne,decide_eq_true_eq,List.all_eq_true,List.mem_range]at h
 rcases h with h|h
 ·omega
 ·obtain⟨⟨⟨⟨⟨⟨⟨q1,q2⟩,q3⟩,q4⟩,q5⟩,q6⟩,q7⟩,q8⟩:=h
  exact⟨q1,q2,q3,q4,q5,q6,q7,λx hx=>by have:=q8 x hx;omega⟩
theorem cc_ne {p:Int} {Q:List (Int×Int×Int)} (hg:genB p Q=true) {i j m n:Nat} (hi:i < 6) (hj:j < 6) (hm:m < 6) (hn:n < 6) (hij:i≠j) (hmn:m≠n) (him:i≠m) (hin:i≠n) (hjm:j≠m) (hjn:j≠n):
  Jj p 4 (curP p Q ((allP p.toNat).filter (colB p (Q.getD i (0,0,0)) (Q.getD j (0,0,0)))))≠Jj p 4 (curP p Q ((allP p.toNat).filter (colB p (Q.getD m (0,0,0)) (Q.getD n (0,0,0))))):=λhe=>by
 obtain⟨hp,h6,_,_⟩:=j7 hg;have hF:=qa5 hp;have hG:=Jg hg;obtain⟨hk,hq,hkq,hkm,hkn,hqm,hqn,hall⟩:=oth2 i hi j hj m hm n hn hij hmn him hin hjm hjn;generalize oK i j m n=k at*;generalize oQ i j m n=q at*;obtain⟨f,ef⟩:=qds hg i j k m q n hall;have rx:Qx p 4 (curP p Q ((allP p.toNat).filter (colB p (Q.getD i (0,0,0)) (Q.getD j (0,0,0)))))=2:=Nat.le_antisymm (qll hg i j hi hj hij) (qki hg i j hi hj hij);have rz:Qx p 4 (curP p Q ((allP p.toNat).filter (colB p (Q.getD m (0,0,0)) (Q.getD n (0,0,0)))))=2:=Nat.le_antisymm (qll hg m n hm hn hmn) (qki hg m n hm hn hmn);have hkill:=qj8 hp (qbv hg _) (qbv hg _) rx rz he f λr hr=>by
  obtain⟨t,ht,rfl,_⟩:=qb8.1 hr;have h0:ev3 (qu (ptL p Q i) (ptL p Q j)) (p3 (nn p) t)=0:=(qk3 hp _ _ _).1 (List.mem_filter.1 ht).2;rw[qa2 hg ef,Z5,h0];grind
 have d1:=hG i j m hi hj hm hij hjm him;obtain⟨s,s0,s1⟩:=qho (n:=nn p) (fp_1 hp) (fp_2 hp) (a:=ev3 (qu (ptL p Q i) (ptL p Q j)) (ptL p Q m)) (b:=ev3 (qu (ptL p Q i) (ptL p Q j)) (ptL p Q n)) d1;have d2:=hG k m n hk hm hn hkm hmn hkn;have d3:=hG q n m hq hn hm hqn (Ne.symm hmn) hqm;have hv:valC (lin6 (ptL p Q) i j k m q n) (mixP (ptL p Q m) (ptL p Q n) 1 s)≠0:=by
  rw[Z5,qa4,qa4,qa4,show ev3 (qu (ptL p Q k) (ptL p Q m)) (ptL p Q m)=0 from J7 _ _,show ev3 (qu (ptL p Q q) (ptL p Q n)) (ptL p Q n)=0 from J7 _ _]
  have:=fnz hF (fnz hF s1 (fnz hF s0 d2)) d3
  intro h;apply this;rw[<-h];grind
 have hX:mixP (ptL p Q m) (ptL p Q n) 1 s 0≠0\/mixP (ptL p Q m) (ptL p Q n) 1 s 1≠0\/mixP (ptL p Q m) (ptL p Q n) 1 s 2≠0:=Classical.byContradiction λh=>hv (by
  have a0:mixP (ptL p Q m) (ptL p Q n) 1 s 0=0:=Classical.byContradiction λq=>h (.inl q);have a1:mixP (ptL p Q m) (ptL p Q n) 1 s 1=0:=Classical.byContradiction λq=>h (.inr (.inl q));have a2:mixP (ptL p Q m) (ptL p Q n) 1 s 2=0:=Classical.byContradiction λq=>h (.inr (.inr q));simp only[valC];rw[a0,a1,a2];grind)
 obtain⟨t,ht,e,he0,et⟩:=qka hp _ hX;have hl:lin4 f (rF p (imgP p Q t))≠0:=by
  rw[qa2 hg ef,qdv _ _ _ e et];exact fnz hF (fnz hF (fnz hF he0 he0) he0) hv
 have hz:(imgP p Q t).all (λx=>x == 0)=false:=by
  cases h:(imgP p Q t).all (λx=>x == 0) with
  | false=>rfl
  | true=>exact absurd (qr3 h f) hl
 refine hl (hkill _ (qb8.2 ⟨t,List.mem_filter.2 ⟨ht,(qk3 hp _ _ _).2 ?_⟩,rfl,hz⟩))
 show ev3 (qu (ptL p Q m) (ptL p Q n)) (p3 (nn p) t)=0
 have z1:ev3 (qu (ptL p Q m) (ptL p Q n)) (mixP (ptL p Q m) (ptL p Q n) 1 s)=0:=by
  rw[qa4,show ev3 (qu (ptL p Q m) (ptL p Q n)) (ptL p Q m)=0 from Zt _ _,show ev3 (qu (ptL p Q m) (ptL p Q n)) (ptL p Q n)=0 from J7 _ _];grind
 have:ev3 (qu (ptL p Q m) (ptL p Q n)) (p3 (nn p) t)=e*ev3 (qu (ptL p Q m) (ptL p Q n)) (mixP (ptL p Q m) (ptL p Q n) 1 s):=by
  simp only[ev3];rw[et 0 (by omega),et 1 (by omega),et 2 (by omega)];grind
 rw[this,z1];grind
theorem ab_ne {p:Int} {Q:List (Int×Int×Int)} (hg:genB p Q=true) {i j:Nat} (hi:i < 6) (hj:j < 6) (hij:i≠j):
  Jj p 4 ((List.range 3).map (rowS p (basP p Q) (Q.getD i (0,0,0))))≠Jj p 4 (conS p Q j):=λhe=>by
 obtain⟨hp,h6,_,_⟩:=j7 hg;have hF:=qa5 hp;have hG:=Jg hg;obtain⟨a,b,c,d,⟨ha,hb,hc,hd⟩,⟨n1,n2,n3,n4,n5,n6,n7,n8,n9,n10,n11,n12,n13,n14,n15⟩,h3⟩:=oth4 j i hj hi (Ne.symm hij);have qz:=λk (hk:k < 6) (h:k≠j)=>qdo hg j hj k hk h;have hv:∀ x,x < 6->valC (qL (conF p Q j) (qu (ptL p Q j) (ptL p Q a))) (ptL p Q x)=0:=λx hx=>by
  rw[qc9]
  by_cases hxj:x=j
  ·subst hxj;rw[show ev3 (qu (ptL p Q x) (ptL p Q a)) (ptL p Q x)=0 from Zt _ _];grind
  ·rw[qz x hx hxj];grind
 obtain⟨f,ef⟩:=qdb hp h6 hG _ hv;have hL:okR p 4 ((List.range 3).map (rowS p (basP p Q) (Q.getD i (0,0,0)))):=by
  have:=qed hg (i:Int)
  rw[linR,if_pos (by omega)]at this;exact this
 have hkill:=qj8 hp (qbv hg _) hL (Nat.le_antisymm (qpq hg j hj) (qqa hg j hj)) (Nat.le_antisymm (qqk hg i hi) (qqj hg i hi)) he.symm f λr hr=>by
  obtain⟨t,ht,rfl,_⟩:=qb8.1 hr;have h0:valQ (conF p Q j) (p3 (nn p) t)=0:=(qkv hp j t).1 (List.mem_filter.1 ht).2;rw[qa2 hg ef,qc9,h0];grind
 obtain⟨t,ht,hn⟩:=Dr hF hG (i:=i) (b:=a) (c:=b) (d:=c) (j:=j) ⟨hi,ha,hb,hc,hj⟩ ⟨n6,n7,n8,n10,n11,n13⟩ (conF p Q j) (qz i hi hij) (qz a ha (Ne.symm n2)) (qz b hb (Ne.symm n3)) (qz c hc (Ne.symm n4)) (qek hg j hj);have hk:=hkill _ (List.mem_map.2 ⟨t,List.mem_range.2 ht,rfl⟩);rw[qlb hg ef _ t ht,Dx _ _ _ t ht]at hk;have h0:valQ (conF p Q j) (p3 (nn p) (Q.getD i (0,0,0)))=0:=qz i hi hij;rw[h0]at hk;have d1:=hG j a i hj ha hi n2 (Ne.symm n6) (Ne.symm hij);exact fnz hF hn d1 (by
  have:polL (conF p Q j) (ptL p Q i) t*ev3 (qu (ptL p Q j) (ptL p Q a)) (ptL p Q i)+0*qu (ptL p Q j) (ptL p Q a) t=0:=hk
  rw[<-this];grind)
def plnB (x:List Int):Bool:=(x.length == 3 && x.all λt=>decide (0<=t/\t < 27)) && ((decide (x.getD 0 0 < 6) && decide (21<=x.getD 2 0) && (x.getD 0 0).toNat !=(x.getD 2 0 - 21).toNat) || (decide (6<=x.getD 0 0) && decide (x.getD 0 0 < 21) && decide (6<=x.getD 2 0) && decide (x.getD 2 0 < 21) && endA (x.getD 0 0) !=endB (x.getD 0 0) && endA (x.getD 2 0) !=endB (x.getD 2 0) && endA (x.getD 0 0) !=endA (x.getD 2 0) && endA (x.getD 0 0) !=endB (x.getD 2 0) && endB (x.getD 0 0) !=endA (x.getD 2 0) && endB (x.getD 0 0) !=endB (x.getD 2 0)))
theorem qqi :(PLN.all plnB)=true:=by decide+kernel
theorem qao {x:List Int} (hx:x∈PLN):∀ i,i < 3->0<=x.getD i 0/\x.getD i 0 < 27:=λi hi=>by
 have h:=List.all_eq_true.1 qqi x hx;rw[plnB,Bool.and_eq_true,Bool.and_eq_true]at h;obtain⟨⟨h1,h2⟩,_⟩:=h;have h1:x.length=3:=by simpa using h1
 have h3:x.getD i 0=x[i]'(by omega):=by rw[List.getD_eq_getElem?_getD,List.getElem?_eq_getElem (by omega)];rfl
 rw[h3];exact of_decide_eq_true (List.all_eq_true.1 h2 _ (List.getElem_mem _))
theorem qem {p:Int} {Q:List (Int×Int×Int)} (hg:genB p Q=true) {kk:Int} (h0:0<=kk) (h1:kk < 27):Z0 p (qae p Q kk)=true:=by
 rw[qae,if_pos (qdx hg h0 (by omega))];exact(qeh (j7 hg).1 (qed hg kk) (qdx hg h0 (by omega))).1
theorem DT {p:Int} {Q:List (Int×Int×Int)} (hg:genB p Q=true) {x:List Int} (hx:x∈PLN):qae p Q (x.getD 0 0)≠qae p Q (x.getD 2 0):=by
 have r0:=qao hx 0 (by omega);have r2:=qao hx 2 (by omega);have h:=List.all_eq_true.1 qqi x hx;rw[plnB,Bool.and_eq_true]at h;have h:=h.2;generalize x.getD 0 0=u at*;generalize x.getD 2 0=z at*;rw[qae,qae,if_pos (qdx hg r0.1 (by omega)),if_pos (qdx hg r2.1 (by omega))];simp only[Bool.or_eq_true,Bool.and_eq_true,decide_eq_true_eq,bne_iff_ne]at h
 rcases h with ⟨⟨a,b⟩,c⟩|⟨⟨⟨⟨⟨⟨⟨⟨⟨a,b⟩,c⟩,d⟩,e1⟩,e2⟩,e3⟩,e4⟩,e5⟩,e6⟩
 ·have:=ab_ne hg (i:=u.toNat) (j:=(z - 21).toNat) (by omega) (by omega) c
  rw[conS,show (((z - 21).toNat:Nat):Int)+21=z by omega]at this;rw[linR,if_pos a,linR,if_neg (by omega),if_neg (by omega)];exact this
 ·have k1:=qfc ⟨a,b⟩
  have k2:=qfc ⟨c,d⟩
  have:=cc_ne hg k1.2.1 k1.2.2 k2.2.1 k2.2.2 e1 e2 e3 e4 e5 e6
  rw[linR,if_neg (by omega),if_pos b,linR,if_neg (by omega),if_pos d];exact this
theorem qsp {q:Nat->List Int->Option Bool} {v:List Int->Bool}:∀ P:List (List Int),(∀ x∈P,Ev (λk=>q k x) (v x))->∃ K,∀ k,K<=k->∀ x∈P,q k x=some (v x)
 | [],_=>⟨0,λ_ _ x hx=>by cases hx⟩
 | y :: P,h=>by
  obtain⟨a,ha⟩:=h y (List.mem_cons_self ..);obtain⟨b,hb⟩:=qsp P λx hx=>h x (List.mem_cons_of_mem _ hx);refine⟨max a b,λk hk x hx=>?_⟩
  rcases List.mem_cons.1 hx with rfl|hx
  ·exact ha k (Nat.le_trans (Nat.le_max_left _ _) hk)
  ·exact hb k (Nat.le_trans (Nat.le_max_right _ _) hk) x hx
theorem qjs {q:Nat->List Int->Option Bool} {v g:List Int->Bool} {f:Option Bool->Bool} {P:List (List Int)} {c:Prop} [Decidable c] (hc:c) (h:∀ x∈P,Ev (λk=>q k x) (v x)) (hg:∀ x∈P,f (some (v x))=g x):
  Ev (λk=>if c/\(P.all λx=>(q k x).isSome)=true then some (P.filter (λx=>f (q k x)),true) else none) (P.filter g,true):=by
 obtain⟨K,hK⟩:=qsp P h;refine⟨K,λk hk=>?_⟩;have e:=hK k hk;simp only;rw[if_pos ⟨hc,List.all_eq_true.2 λx hx=>by rw[e x hx];rfl⟩,List.filter_congr (q:=g) λx hx=>by rw[e x hx];exact hg x hx]
theorem qoy {f:Nat->List Int} {i:Nat} (hi:i < 27):(((List.range' 0 27).map f).getD i [])=f i:=by
 rw[List.getD_eq_getElem?_getD,List.getElem?_map,List.getElem?_range' (by omega)]
 simp
def qcw (p:Int) (Q:List (Int×Int×Int)):List (List Int)×Bool:=if genB p Q=true then (PLN.filter (λx=>qgw p (qae p Q (x.getD 0 0)) (qae p Q (x.getD 1 0)) (qae p Q (x.getD 2 0))),true) else ([],false)
def qtm (p:Int) (Q:List (Int×Int×Int)):List (List Int):=(List.range' 0 27).map λ(i:Nat)=>qae p Q (i:Int)
theorem qc4 (p:Int) (Q:List (Int×Int×Int)) {x:List Int} (hx:x∈PLN) {i:Nat} (hi:i < 3):(qtm p Q).getD (x.getD i 0).toNat []=qae p Q (x.getD i 0):=by
 have h:=qao hx i hi;rw[qtm,qoy (by omega),Int.toNat_of_nonneg h.1]
theorem qs7 {p:Int} (l:List S51) (hg:genB p (tps l)=true):∀ (d i:Nat) (acc:List (List Int)),i+d=27->Ev (λk=>ssL k p l (basP p (tps l)) d i acc) (acc++(List.range' i d).map λ(i:Nat)=>qae p (tps l) (i:Int))
 | 0,i,acc,_=>by
  refine Ev.congr (λk=>ssL.eq_1 ..) ?_
  simpa using Ev.now _
 | d+1,i,acc,h=>by
  refine Ev.congr (λk=>ssL.eq_2 ..) ?_;refine Ev.bind (qiq l hg (by omega) (by omega)) ?_
  have:=qs7 l hg d (i+1) (acc++[qae p (tps l) (i:Int)]) (by omega)
  rw[List.range'_succ]
  simpa using this
theorem qf3 (p:Int) (l:List S51):Ev (λk=>jv.f k p l) (qcw p (tps l)):=by
 unfold jv.f;refine Ev.bind (qi7 p l) ?_
 by_cases hg:genB p (tps l)=true
 rotate_left
 ·rw[qcw,if_neg hg];exact Ev.no hg (Ev.now _)
 obtain⟨hp,h6,_,_⟩:=j7 hg;have hlen:(tps l).length=l.length:=by simp[tps]
 rw[qcw,if_pos hg];refine Ev.yes hg (Ev.bind (qri hp l (by omega) (λj hj=>qf8 hg j (by omega))) (Ev.bind (qs7 l hg 27 0 [] rfl) (Ev.bind qrv ?_)));refine qjs (f:=λo=>!(o.getD true)) (v:=λx=>!(qgw p (qae p (tps l) (x.getD 0 0)) (qae p (tps l) (x.getD 1 0)) (qae p (tps l) (x.getD 2 0)))) (by decide+kernel) (λx hx=>?_) (λx hx=>by simp);have r0:=qao hx 0 (by omega);have r1:=qao hx 1 (by omega);have r2:=qao hx 2 (by omega);exact DZ (qc4 p _ hx (by omega)) (qc4 p _ hx (by omega)) (qc4 p _ hx (by omega)) (qem hg r0.1 r0.2) (qem hg r1.1 r1.2) (qem hg r2.1 r2.2)
theorem qid :qq.f 12000 (-1)=some (PLN,true):=by decide+kernel
theorem qi1 :Ev (λk=>qq.f k (-1)) (PLN,true):=Ev.of (λk=>qq.mono (-1) k) qid
theorem qpa {p:Int} {w:Nat} {x y:List Int} {v:Nat->Int} (h:Sp p w [x,y] v):∃ s t:Int,∀ j,j < w->p ∣ v j - (s*fn x j+t*fn y j):=by
 induction h with
 | zero v hz=>exact⟨0,0,λj hj=>Jl 1 (hz j hj) (by simp)⟩
 | add v u r t hr _ h2 ih=>
  obtain⟨a,b,hab⟩:=ih;simp only[List.mem_cons,List.not_mem_nil,or_false]at hr
  rcases hr with rfl|rfl
  ·exact⟨a+t,b,λj hj=>Z7 1 1 (h2 j hj) (hab j hj) (by rw[Int.add_mul];omega)⟩
  ·exact⟨a,b+t,λj hj=>Z7 1 1 (h2 j hj) (hab j hj) (by rw[Int.add_mul];omega)⟩
theorem qoe {p:Int} {l m a:List Int} (hl:Z0 p l=true) (hm:Z0 p m=true) (hne:l≠m) (ha:qah p a=true) (al:Sp p 4 [l.take 4,l.drop 4] (fn a)) (am:Sp p 4 [m.take 4,m.drop 4] (fn a)):Jv p l m=true:=by
 have hnl:=Q7 hl;have hnm:=Q7 hm;have hp:=(jn hnl).1;have hb:=zk hp;have hok:=qh9 hnl hnm;have h1:Qx p 4 (qaa l m)<=3:=by
  have hr:=qhq hp hok;rw[show (qaa l m).length=4 from rfl]at hr;obtain⟨N,e,_,_,hc⟩:=Zr hp (qfk hok);rw[show (qaa l m).length=4 from rfl]at e hc
  by_cases hN:N=[]
  ·exfalso
   obtain⟨x,y,hxy⟩:=qpa al;obtain⟨u,v,huv⟩:=qpa am;have hs:=hc (λj=>if j=0 then x else if j=1 then y else if j=2 then -u else -v) λr hr=>by
    rw[qix]at hr;obtain⟨j,hj,rfl⟩:=List.mem_map.1 hr;have hj4:j < 4:=by simpa using hj
    have e1:=hxy j hj4;have e2:=huv j hj4;rw[qck l 4 j hj4,qcl l 4 j]at e1;rw[qck m 4 j hj4,qcl m 4 j]at e2;refine Z7 (-1) 1 e1 e2 ?_
    simp[dt,List.range_succ,fn,rd]
    grind
   rw[hN]at hs
   cases hs with
   | zero _ hz=>
    have zx:p ∣ x:=hz 0 (by omega);have zy:p ∣ y:=hz 1 (by omega);refine qdp (p:=p) (w:=4) (a:=a) (by omega) (qaj (Jw ha).1).1 (Jw ha).2 (.zero _ λj hj=>?_);refine Z7 1 1 (hxy j hj) (Int.dvd_add (Int.dvd_mul_of_dvd_left zx) (Int.dvd_mul_of_dvd_left zy):p ∣ x*fn (l.take 4) j+y*fn (l.drop 4) j) (by omega)
   | add _ _ _ _ hr _ _=>cases hr
  ·have:0 < N.length:=List.length_pos_iff.2 hN
   have e2:(Jd p 4 (tr 4 (qaa l m))).length=N.length:=by rw[e,List.length_map]
   omega
 have sl:∀ r∈[l.take 4,l.drop 4],Sp p 4 (qaa l m) (fn r):=λr hr=>Sp.mem (by
  simp only[qaa,List.mem_cons,List.not_mem_nil,or_false]at hr ⊢
  rcases hr with h|h<;>simp[h])
 have sm:∀ r∈[m.take 4,m.drop 4],Sp p 4 (qaa l m) (fn r):=λr hr=>Sp.mem (by
  simp only[qaa,List.mem_cons,List.not_mem_nil,or_false]at hr ⊢
  rcases hr with h|h<;>simp[h])
 have h2:=qbs hp (Zv hnl) hok sl;rw[qam hl]at h2;rw[Jv,hl,hm];refine decide_eq_true (show Qx p 4 (qaa l m)=3 from ?_)
 rcases (show Qx p 4 (qaa l m)=2\/Qx p 4 (qaa l m)=3 by omega) with h|h
 ·exfalso
  apply hne
  have e1:=(qb6 hp (Zv hnl) hok sl (by rw[qam hl,h])).1;have e2:=(qb6 hp (Zv hnm) hok sm (by rw[qam hm,h])).1;rw[<-qd7 hl,<-qd7 hm];unfold Jj;rw[e1,e2]
 ·exact h
theorem qvg {p:Int} {l m n:List Int} (hl:Z0 p l=true) (hm:Z0 p m=true) (hn:Z0 p n=true) (hne:l≠n):(Jv p l m && onB p (qbe p l m).1 n)=(Jv p l m && (Jv p l n && decide ((qbe p l m).1=(qbe p l n).1))):=by
 cases hc:Jv p l m with
 | false=>rfl
 | true=>
  obtain⟨e1,pa,al,am⟩:=qbb hc;rw[e1];simp only[Bool.true_and];generalize rowP p (Zu p (relP p l m) l)=a at*
  cases hc2:Jv p l n with
  | true=>
   obtain⟨e2,pb,bl,bn⟩:=qbb hc2;rw[e2];simp only[Bool.true_and];generalize rowP p (Zu p (relP p l n) l)=b at*
   by_cases hab:a=b
   ·subst hab
    rw[decide_eq_true rfl];exact quz hn pa bn
   ·rw[decide_eq_false hab]
    cases ho:onB p a n with
    | false=>rfl
    | true=>exact absurd (qj1 hc2 pa pb al (De ho) bl bn) hab
  | false=>
   simp only[Bool.false_and]
   cases ho:onB p a n with
   | false=>rfl
   | true=>
    have:=qoe hl hn hne pa al (De ho)
    rw[hc2]at this
    cases this
theorem qrk {p:Int} (hp:zi p=true) {L:List (List Int)} (hL:okR p 4 L) (hl:L.length < 1000000):Ev (λk=>Z3.f k p L) (Qx p 4 L:Int):=by
 unfold Z3.f;exact Ev.bind (qbx hp (w:=4) (by omega) L hL hl) (Ev.now _)
theorem qmd (a b:List Int) (hab:a.length<=b.length) (hl:a.length<=1000000000):∀ (d i:Nat),i+d=a.length->Ev (λk=>jw.l0 k a b (i:Int)) (decide (a.drop i=(b.take a.length).drop i))
 | 0,i,h=>by
  refine Ev.step (f:=λ_=>some true) (λk=>?_) ?_
  ·rw[jw.l0,if_neg (by omega)]
  ·rw[List.drop_eq_nil_of_le (by omega),List.drop_eq_nil_of_le (by simp;omega)];exact Ev.now _
 | d + 1, i, h => by
  have ih:=qmd a b hab hl d (i+1) (by omega);have e:rd (b.take a.length) (i:Int)=rd b (i:Int):=by
   rw[Jo _ i (by simp;omega),Jo b i (by omega)];simp
  rw[qc8 a i (by omega),qc8 (b.take a.length) i (by simp;omega),e]
  by_cases hz:rd a (i:Int)=rd b (i:Int)
  ·refine Ev.step (f:=λk=>jw.l0 k a b ((i+1:Nat):Int)) (λk=>?_) ?_
   ·rw[jw.l0,if_pos (by omega),if_pos (by omega),if_pos (by omega),if_pos hz,wsm (by omega) (by omega)];rfl
   ·simpa [hz] using ih
  ·refine Ev.step (f:=λ_=>some false) (λk=>?_) ?_
   ·rw[jw.l0,if_pos (by omega),if_pos (by omega),if_pos (by omega),if_neg hz]
   ·rw[decide_eq_false (by simp[hz])]
    exact Ev.now false
theorem qji (a b:List Int) (hab:a.length=b.length) (hl:a.length<=1000000000):Ev (λk=>jw.f k a b) (decide (a=b)):=by
 unfold jw.f;have h:=qmd a b (by omega) hl a.length 0 (by omega);rw[hab,List.take_length]at h
 simpa using h
theorem qsz {p:Int} (hp:zi p=true) (x:Int):lowB p x=(decide (0<=x) && decide (x < p)):=by
 have hb:=zk hp;rw[lowB,wsm (by omega) (by omega),show decide (x<=p - 1)=decide (x < p) from decide_eq_decide.2 (by omega)]
theorem qkk {M:List (List Int)} (h:M.length=2):M=[M.getD 0 [],M.getD 1 []]:=by
 match M,h with
 | [x,y],_=>rfl
theorem qgf (p:Int) (l:List Int):Ev (λk=>Qz.f k p l) (Z0 p l):=by
 unfold Qz.f;refine Ev.bind (Ev.k (qhz p)) ?_
 cases hp:zi p with
 | false=>
  refine Ev.no (by simp) ?_;rw[show Z0 p l=false from by simp[Z0,Zz,hp]];exact Ev.now _
 | true=>
  have hb:=zk hp;refine Ev.yes rfl ?_
  by_cases hl:l.length=8
  ·refine Ev.yes hl ?_
   by_cases ha:l.all (lowB p)=true
   ·refine Ev.yes ha ?_
    have hn:Zz p l 8=true:=qe6 hp hl (λx hx=>by
     have h1:=List.all_eq_true.1 ha x hx;rw[qsz hp]at h1
     simpa using h1)
    have hok:=Zv hn;refine Ev.bind (qbx hp (w:=4) (by omega) _ hok (by simp)) ?_
    by_cases h2:(redP p 4 0 [l.take 4,l.drop 4] []).length=2
    ·refine Ev.yes h2 ?_
     have hro:=qcm (p:=p) (by omega) 4 0 _ [] hok (J8 p 4);have e:=qkk h2;have hx:=hro ((redP p 4 0 [l.take 4,l.drop 4] []).getD 0 []) (Zw (by omega));have hy:=hro ((redP p 4 0 [l.take 4,l.drop 4] []).getD 1 []) (Zw (by omega));refine Ev.yes ⟨Nat.lt_of_le_of_lt (Nat.le_of_eq hx.1) (by omega),Nat.lt_of_le_of_lt (Nat.le_of_eq hy.1) (by omega)⟩ ?_;have e2:Jj p 4 [l.take 4,l.drop 4]=(redP p 4 0 [l.take 4,l.drop 4] []).getD 0 []++(redP p 4 0 [l.take 4,l.drop 4] []).getD 1 []:=by
      rw[Jj]
      conv=>lhs;rw[e]
      simp
     rw[Z0,hn,Bool.true_and,e2];exact qji _ _ (by rw[List.length_append,hx.1,hy.1,hl]) (by rw[List.length_append,hx.1,hy.1];omega)
    ·refine Ev.no h2 ?_
     rw[show Z0 p l=false from by
      cases hh:Z0 p l with
      | false=>rfl
      | true=>exact absurd (qam hh) h2]
     exact Ev.now _
   ·refine Ev.no ha ?_
    rw[show Z0 p l=false from by
     cases hh:Z0 p l with
     | false=>rfl
     | true=>
      refine absurd (List.all_eq_true.2 λx hx=>?_) ha;rw[qsz hp]
      simpa using (jn (Q7 hh)).2.2 x hx]
    exact Ev.now _
  ·refine Ev.no hl ?_
   rw[show Z0 p l=false from by
    cases hh:Z0 p l with
    | false=>rfl
    | true=>exact absurd (jn (Q7 hh)).2.1 hl]
   exact Ev.now _
theorem qh2 (p:Int) (l m:List Int):Ev (λk=>zo.f k p l m) (Jv p l m):=by
 unfold zo.f Jv;refine Ev.bind (qgf p l) ?_
 cases hl:Z0 p l with
 | false=>exact Ev.no (by simp) (Ev.now _)
 | true=>
  refine Ev.yes rfl (Ev.bind (qgf p m) ?_)
  cases hm:Z0 p m with
  | false=>exact Ev.no (by simp) (Ev.now _)
  | true=>
   have h1:=jn (Q7 hl);have h2:=jn (Q7 hm);refine Ev.yes rfl (Ev.yes (by omega) (Ev.yes (by omega) (Ev.bind (qrk h1.1 (qg6 (Q7 hl) (Q7 hm)) (by simp)) ?_)));have e:((Qx p 4 [l.take 4,l.drop 4,m.take 4,m.drop 4]:Int) == 3)=decide (Qx p 4 [l.take 4,l.drop 4,m.take 4,m.drop 4]=3):=by
    rw[Bool.eq_iff_iff];simp;omega
   rw[e];exact Ev.now _
def qgx (p:Int) (l m:List Int):List (List Int):=[l.take 4,l.drop 4,(m.take 4).map λx=>(-x) % p,(m.drop 4).map λx=>(-x) % p]
theorem qub {p:Int} (hp:0 < p) {r:List Int} (h:r.length=4):(r.map λx=>(-x) % p).length=4/\∀ x∈r.map (λx=>(-x) % p),0<=x/\x < p:=by
 refine⟨by simpa using h,λx hx=>?_⟩;obtain⟨y,_,rfl⟩:=List.mem_map.1 hx;exact⟨Int.emod_nonneg _ (by omega),Int.emod_lt_of_pos _ (by omega)⟩
theorem qul {p:Int} {l m:List Int} (hl:Zz p l 8=true) (hm:Zz p m 8=true):okR p 4 (qgx p l m):=by
 have hb:=zk (jn hl).1;have h8:=(jn hm).2.1;exact qcj (Zv hl) (qad (qub (by omega) (by simp;omega)) (qad (qub (by omega) (by simp;omega)) (J8 p 4)))
theorem qn7 {p:Int} (r:List Int) (j:Nat) (hj:j < r.length):fn (r.map λx=>(-x) % p) j=(-(fn r j)) % p:=by
 rw[fn,Jo _ j (by simpa using hj),List.getElem_map,fn,Jo _ j hj]
theorem ql5 {p:Int} {l m:List Int} (hm:m.length=8):tr 4 (qgx p l m)=(List.range 4).map λj=>[fn l j,fn l (4+j),(-(fn m j)) % p,(-(fn m (4+j))) % p]:=by
 refine List.map_congr_left λj hj=>?_;have hj4:j < 4:=by simpa using hj
 simp only[qgx,List.map_cons,List.map_nil];rw[qn7 _ j (by simp;omega),qn7 _ j (by simp;omega),qck l 4 j hj4,qcl,qck m 4 j hj4,qcl]
theorem sp_l {p:Int} (hp:zi p=true) {l t:List Int} (hl:Zz p l 8=true) (ht:t.length=4/\∀ x∈t,0<=x/\x < p):∀ (d i:Nat),i+d=4->
  Ev (λk=>qo.l1 k p l t ((Zu p t l).take i) (i:Int)) (rowP p (Zu p t l),true)
 | 0,i,e=>by
  obtain rfl:i=4:=by omega
  have hb:=zk hp;have hok:=qk8 (p:=p) (by omega) t l;refine Ev.step (λk=>by rw[qo.l1,if_neg (by omega),List.take_of_length_le (by rw[hok.1];omega)]) ?_;exact Ev.bind (qht hp _ hok.2 (by rw[hok.1];omega)) (Ev.now _)
 | d+1,i,e=>by
  have hb:=zk hp;have hok:=qk8 (p:=p) (by omega) t l;have ht0:=Zi ht 0 (by omega);have ht1:=Zi ht 1 (by omega);have h1:=rd_w hl i (by omega);have h2:=rd_w hl (4+i) (by omega);have m1:=qc6 (by omega) ht0.1 ht0.2 h1.1 h1.2;have m2:=qc6 (by omega) ht1.1 ht1.2 h2.1 h2.2;have h8:=(jn hl).2.1;have ih:=sp_l hp hl ht d (i+1) (by omega);refine Ev.step (λk=>?_) ih;rw[qo.l1,if_pos (by omega),if_pos (by omega),if_pos (by omega),if_pos (by omega),if_pos (by omega),wsm (i:=4+(i:Int)) (by omega) (by omega),if_pos (by omega),if_pos (by omega),if_neg (by omega),if_pos (by rw[List.length_take,hok.1];omega)];have e0:rd t 0=fn t 0:=rfl;have e1:rd t 1=fn t 1:=rfl;have e2:rd l (i:Int)=fn l i:=rfl;have e3:rd l (4+(i:Int))=fn l (4+i):=by rw[fn];congr 1
  rw[e0,e1,e2,e3,wsm (i:=fn t 0*fn l i) (by omega) (by omega),wsm (i:=fn t 1*fn l (4+i)) (by omega) (by omega),wsm (i:=fn t 0*fn l i+fn t 1*fn l (4+i)) (by omega) (by omega),wsm (i:=(i:Int)+1) (by omega) (by omega)];have e4:Int.tmod (fn t 0*fn l i+fn t 1*fn l (4+i)) p=fn (Zu p t l) i:=by rw[qhb p t l i (by omega),Int.tmod_eq_emod_of_nonneg (by omega)]
  rw[e4,List.take_add_one,List.getElem?_eq_getElem (by rw[hok.1];omega),fn,Jo _ i (by rw[hok.1];omega)];rfl
theorem sc_l {p:Int} {l m:List Int} (hl:Zz p l 8=true) (hm:Zz p m 8=true) {R:List Int×Bool} (hend:Ev (λk=>(qr.f k p (tr 4 (qgx p l m)) 4).bind λt=>if 0 < (t.length:Int) then qo.l1 k p l (zt t 0) [] 0 else none) R):∀ (d i:Nat),i+d=4->
  Ev (λk=>qo.l0 k p l m ((List.range i).map λj=>[fn l j,fn l (4+j),(-(fn m j)) % p,(-(fn m (4+j))) % p]) (i:Int)) R
 | 0,i,e=>by
  obtain rfl:i=4:=by omega
  refine Ev.step (λk=>by rw[qo.l0,if_neg (by omega),<-ql5 (jn hm).2.1]) hend
 | d+1,i,e=>by
  have hp:=(jn hl).1;have h8:=(jn hl).2.1;have h8m:=(jn hm).2.1;have h1:=rd_w hm i (by omega);have h2:=rd_w hm (4+i) (by omega);have ih:=sc_l hl hm hend d (i+1) (by omega);have e2:rd l (i:Int)=fn l i:=rfl;have e4:rd m (i:Int)=fn m i:=rfl;have e3:rd l (4+(i:Int))=fn l (4+i):=by rw[fn];congr 1
  have e5:rd m (4+(i:Int))=fn m (4+i):=by rw[fn];congr 1
  refine Ev.step (λk=>?_) ih;rw[qo.l0,if_pos (by omega),if_pos (by omega),if_pos (by omega),wsm (i:=4+(i:Int)) (by omega) (by omega),if_pos (by omega),if_pos (by omega),if_pos (by omega),e2,e3,e4,e5,qua hp h1.1 h1.2];simp only[Option.bind_some];rw[if_pos (by omega),qua hp h2.1 h2.2];simp only[Option.bind_some];rw[if_pos (by simp;omega),wsm (i:=(i:Int)+1) (by omega) (by omega),List.range_succ,List.map_append];rfl
theorem qdw (p:Int) (l m:List Int):Ev (λk=>qo.f k p l m) (qbe p l m):=by
 unfold qo.f;refine Ev.bind (qh2 p l m) ?_
 cases hc:Jv p l m with
 | false=>
  rw[qbe,if_neg (by rw[hc];simp)];exact Ev.no (by simp) (Ev.now _)
 | true=>
  obtain⟨c1,c2,c3,c4⟩:=qbb hc;have hc0:=hc;rw[Jv,Bool.and_eq_true,Bool.and_eq_true]at hc;obtain⟨⟨hl,hm⟩,h3⟩:=hc;have h3:=of_decide_eq_true h3;have hnl:=Q7 hl;have hnm:=Q7 hm;have hp:=(jn hnl).1;have hbd:=zk hp;have hok:=qul hnl hnm;have h8:=(jn hnm).2.1;have hrank:Qx p 4 (qgx p l m)<=3:=by
   have h:=qbs hp hok (qg6 hnl hnm) (λr hr=>by
    simp only[qgx,List.mem_cons,List.not_mem_nil,or_false]at hr;have key:∀ q∈[l.take 4,l.drop 4,m.take 4,m.drop 4],q.length=4->Sp p 4 [l.take 4,l.drop 4,m.take 4,m.drop 4] (fn (q.map λx=>(-x) % p)):=λq hq hql=>by
     refine((Sp.mem hq).scale (-1)).congr λj hj=>?_;rw[qn7 q j (by omega)];exact Jl (-1) (Je (-(fn q j)) p) (by omega)
    rcases hr with rfl|rfl|rfl|rfl
    ·exact Sp.mem (by simp)
    ·exact Sp.mem (by simp)
    ·exact key (m.take 4) (by simp) (by simp;omega)
    ·exact key (m.drop 4) (by simp) (by simp;omega))
   omega
  have hne:=qn0 hp hok (by show _ < 4;omega);obtain⟨N,e,hN,h4,_⟩:=Zr hp (qfk hok);have hlen:(qgx p l m).length=4:=rfl;rw[hlen]at e hN h4 hne;refine Ev.yes rfl (sc_l hnl hnm ?_ 4 0 (by omega));have hs:=qfv hp (w:=4) (by omega) (tr 4 (qgx p l m)) (by simp[tr]) (qfk hok);refine Ev.bind hs ?_
  match N,e,hN,h4 with
  | [],e,_,_=>exact absurd e hne
  | z :: N,e,hN,h4=>
   rw[e];refine Ev.yes (by simp) ?_;have h:=sp_l hp hnl (t:=z.2) (hN.ok z (by simp)) 4 0 (by omega);have hr:=qj4 (t:=z.2) hl hm (-1) (.inr rfl) (λh=>by
    have:=h z.1 (hN.lt z (by simp))
    rw[hN.one z (by simp)]at this;exact J3 (by omega) this) (λj hj=>by
    have hd:=h4 z (by simp) [fn l j,fn l (4+j),(-(fn m j)) % p,(-(fn m (4+j))) % p] (by rw[ql5 h8];exact List.mem_map.2 ⟨j,by simpa using hj,rfl⟩);have e2:dt 4 (fn [fn l j,fn l (4+j),(-(fn m j)) % p,(-(fn m (4+j))) % p]) (fn z.2)=fn l j*fn z.2 0+(fn l (4+j)*fn z.2 1+((-(fn m j)) % p*fn z.2 2+((-(fn m (4+j))) % p*fn z.2 3+0))):=rfl;rw[e2]at hd;have d1:=Jl (fn z.2 2) (Je (-(fn m j)) p) rfl;have d2:=Jl (fn z.2 3) (Je (-(fn m (4+j))) p) rfl;have d3:=Z7 1 1 d1 d2 rfl;exact Z7 1 1 hd d3 (by grind))
   have e9:=qj1 hc0 hr.2.1 c2 hr.2.2.1 hr.2.2.2 c3 c4;rw[c1,<-e9]
   simpa [zt] using h
theorem DY {p:Int} {L:List (List Int)} {x:List Int} {l m n:List Int} (el:L.getD (x.getD 0 0).toNat []=l) (em:L.getD (x.getD 1 0).toNat []=m) (en:L.getD (x.getD 2 0).toNat []=n) (hl:Z0 p l=true) (hm:Z0 p m=true) (hn:Z0 p n=true) (hne:l≠n):
  Ev (λk=>stQ k p L x) (qgw p l m n):=by
 unfold stQ;rw[el,em,en,qgw,qvg hl hm hn hne];refine Ev.bind (qdw p l m) (Ev.bind (qdw p l n) ?_)
 cases hc:Jv p l m with
 | false=>
  rw[show (qbe p l m).2=false by rw[qbe,if_neg (by rw[hc];simp)]];exact Ev.no (by simp) (Ev.now _)
 | true=>
  have h1:=qbb hc;rw[h1.1];refine Ev.yes rfl ?_
  cases hd:Jv p l n with
  | false=>
   rw[show (qbe p l n).2=false by rw[qbe,if_neg (by rw[hd];simp)]];exact Ev.no (by simp) (Ev.now _)
  | true=>
   have h2:=qbb hd;rw[h2.1];have l1:=qaj (Jw h1.2.1).1;have l2:=qaj (Jw h2.2.1).1;exact Ev.yes rfl (qji _ _ (by rw[l1.1,l2.1]) (by rw[l1.1];omega))
theorem qq2 {p:Int} (hp:zi p=true) (l:List S51) (hl:l.length=6) (hin:∀ j,j < l.length->inP p ((tps l).getD j (0,0,0))):Ev (λk=>Qg.f k p l) (basP p (tps l)):=by
 have hb:=zk hp;have hlen:(tps l).length=l.length:=by simp[tps]
 have h0:∀ (d i:Nat) (acc:List (List Int)),i+d=6->acc=((tps l).take i).map (cubR p)->Ev (λq=>Qg.l0 q p l acc (i:Int)) (basP p (tps l)):=by
  intro d
  induction d with
  | zero=>
   intro i acc hi ha;refine Ev.step (λq=>by rw[Qg.l0,if_neg (by omega)]) ?_;rw[List.take_of_length_le (by omega)]at ha;subst ha
   have:=qfv hp (w:=10) (by omega) _ (by rw[List.length_map];omega) (qf4 hp (tps l))
   exact Ev.bind this (Ev.now _)
  | succ d ih=>
   intro i acc hi ha;have hil:i < l.length:=by omega
   have hal:acc.length<=1000:=by rw[ha,List.length_map,List.length_take];omega
   have e:Ev (λk=>zb.f k p (qg l (i:Int)).f0.f0 (qg l (i:Int)).f0.f1 (qg l (i:Int)).f0.f2) (cubR p (tpl (qg l (i:Int)))):=qet (p:=p) ⟨by omega,by omega⟩ (tpl (qg l (i:Int))) (by rw[qbg l i hil];exact hin i hil);refine Ev.step (λq=>by rw[Qg.l0,if_pos (by omega),if_pos (by omega),if_pos (by omega)]) (Ev.bind e ?_);refine Ev.yes (show acc.length < 5864062014805 by omega) ?_;rw[wsm (by omega) (by omega)];refine ih (i+1) _ (by omega) ?_;rw[ha,List.take_add_one,List.map_append,List.getElem?_eq_getElem (by omega),qbg l i hil,List.getD_eq_getElem?_getD,List.getElem?_eq_getElem (by omega)]
   rfl
 unfold Qg.f;exact h0 6 0 [] (by omega) (by simp)
theorem qsh {p:Int} (l:List S51) (hg:genB p (tps l)=true):∀ (d i:Nat) (acc:List (List Int)),i+d=27->Ev (λk=>stL k p l (basP p (tps l)) d i acc) (acc++(List.range' i d).map λ(i:Nat)=>qae p (tps l) (i:Int))
 | 0,i,acc,_=>by
  refine Ev.congr (λk=>stL.eq_1 ..) ?_
  simpa using Ev.now _
 | d+1,i,acc,h=>by
  refine Ev.congr (λk=>stL.eq_2 ..) ?_;refine Ev.bind (qq5 l hg (by omega) (by omega)) ?_
  have:=qsh l hg d (i+1) (acc++[qae p (tps l) (i:Int)]) (by omega)
  rw[List.range'_succ]
  simpa using this
theorem qgc (p:Int) (l:List S51):Ev (λk=>zm.f k p l) (qcw p (tps l)):=by
 unfold zm.f;refine Ev.bind (qg1 p l) ?_
 by_cases hg:genB p (tps l)=true
 rotate_left
 ·rw[qcw,if_neg hg];exact Ev.no hg (Ev.now _)
 obtain⟨hp,h6,_,_⟩:=j7 hg;have hlen:(tps l).length=l.length:=by simp[tps]
 rw[qcw,if_pos hg];refine Ev.yes hg (Ev.bind (qq2 hp l (by omega) (λj hj=>qf8 hg j (by omega))) (Ev.bind (qsh l hg 27 0 [] rfl) (Ev.bind qi1 ?_)));refine qjs (f:=λo=>o.getD false) (v:=λx=>qgw p (qae p (tps l) (x.getD 0 0)) (qae p (tps l) (x.getD 1 0)) (qae p (tps l) (x.getD 2 0))) (by decide+kernel) (λx hx=>?_) (λx hx=>rfl);have r0:=qao hx 0 (by omega);have r1:=qao hx 1 (by omega);have r2:=qao hx 2 (by omega);exact DY (qc4 p _ hx (by omega)) (qc4 p _ hx (by omega)) (qc4 p _ hx (by omega)) (qem hg r0.1 r0.2) (qem hg r1.1 r1.2) (qem hg r2.1 r2.2) (DT hg hx)
theorem Di (l:List (List Int)) (i:Nat):zt l (i:Int)=l.getD i []:=by rw[zt,Int.toNat_natCast]
theorem DB {l:List (List Int)} {i:Nat} (h:i < l.length):l.getD i []∈l:=by
 rw[List.getD_eq_getElem?_getD,List.getElem?_eq_getElem h];exact List.getElem_mem h
theorem qsj (l:List (List Int)) (hl:l.length<=1000000) (h3:∀ x∈l,x.length=3):∀ (d i:Nat),i+d=l.length->Ev (λk=>j5.l0 k l l (i:Int)) true
 | 0,i,h=>by
  refine Ev.step (f:=λ_=>some true) (λk=>?_) (Ev.now _);rw[j5.l0,if_neg (by omega)]
 | d + 1, i, h => by
  refine Ev.step (f:=λk=>(jq.f k (l.getD i []) (l.getD i [])).bind λt=>if t=true then j5.l0 k l l ((i+1:Nat):Int) else some false) (λk=>?_) ?_
  ·rw[j5.l0,if_pos (by omega),if_pos (by omega),if_pos (by omega),Di,wsm (i:=(i:Int)+1) (by omega) (by omega)]
   rfl
  ·refine Ev.bind (qqp _ _ (by rw[h3 _ (DB (by omega))];omega)) ?_
   rw[decide_eq_true rfl];exact Ev.yes rfl (qsj l hl h3 d (i+1) (by omega))
theorem qvu (l:List (List Int)) (hl:l.length<=1000000) (h3:∀ x∈l,x.length=3):Ev (λk=>j5.f k l l) true:=by
 unfold j5.f;exact Ev.yes rfl (qsj l hl h3 l.length 0 (by omega))
def mk3 (n:Nat):List (List Int):=(List.range n).map λ(i:Nat)=>qaw (1+3*(i:Int)) 3
theorem qg5 (n:Nat):(mk3 n).length=n:=by simp[mk3]
theorem qpm (n i:Nat) (h:i < n):(mk3 n)[i]? =some (qaw (1+3*(i:Int)) 3):=by simp[mk3,h]
theorem qr6 (l:List (List Int)) (hl:l.length<=1000000) (h3:∀ x∈l,x.length=3):∀ (d i:Nat),i+d=l.length->Ev (λk=>mkSS k ((mk3 l.length).take i++l.drop i) d i (1+3*(i:Int))) (1+3*(l.length:Int),mk3 l.length)
 | 0,i,h=>by
  refine Ev.congr (f:=λ_=>some (1+3*(l.length:Int),mk3 l.length)) (λk=>?_) (Ev.now _);rw[mkSS,List.drop_eq_nil_of_le (by omega),List.append_nil,List.take_of_length_le (by rw[qg5];omega),show i=l.length by omega]
 | d + 1, i, h => by
  have hi:i < l.length:=by omega
  have ht:((mk3 l.length).take i).length=i:=by rw[List.length_take,qg5];omega
  have hg:((mk3 l.length).take i++l.drop i).getD i []=l[i]:=by
   rw[List.getD_eq_getElem?_getD,List.getElem?_append_right (by omega),ht,Nat.sub_self,List.getElem?_drop,Nat.add_zero,List.getElem?_eq_getElem hi]
   rfl
  have hs:((mk3 l.length).take i++l.drop i).set i (qaw (1+3*(i:Int)) 3)=(mk3 l.length).take (i+1)++l.drop (i+1):=by
   rw[List.set_append_right _ _ (by omega),ht,Nat.sub_self,List.drop_eq_getElem_cons hi,List.set_cons_zero,List.take_add_one,qpm _ i hi]
   simp
  have e3:=h3 l[i] (List.getElem_mem hi);have hm:=qvc l[i] (1+3*(i:Int)) (by omega) (by omega);rw[e3]at hm;refine Ev.congr (λk=>by rw[mkSS,hg]) (Ev.bind hm ?_);rw[hs,show (1:Int)+3*(i:Int)+((3:Nat):Int)=1+3*((i+1:Nat):Int) by omega];exact qr6 l hl h3 d (i+1) (by omega)
theorem qr2 (l:List (List Int)) (hl:l.length<=1000000) (h3:∀ x∈l,x.length=3):Ev (λk=>Zx.f k l 1) (1+3*(l.length:Int),mk3 l.length):=by
 unfold Zx.f
 simpa using qr6 l hl h3 l.length 0 (by omega)
theorem qmq (n:Nat) (hn:n<=1000000):∀ (d i:Nat),i+d=n->Ev (λk=>jm.l0 k (mk3 n) (1+3*(i:Int)) (i:Int)) (1+3*(n:Int))
 | 0,i,h=>by
  refine Ev.step (f:=λ_=>some (1+3*(n:Int))) (λk=>?_) (Ev.now _);rw[jm.l0,if_neg (by rw[qg5];omega),show i=n by omega]
 | d + 1, i, h => by
  have e:(mk3 n).getD i []=qaw (1+3*(i:Int)) 3:=by rw[List.getD_eq_getElem?_getD,qpm n i (by omega)];rfl
  refine Ev.step (f:=λk=>(jg.f k (qaw (1+3*(i:Int)) 3) (1+3*(i:Int))).bind λt=>if t < 0 then some (-1) else jm.l0 k (mk3 n) t ((i+1:Nat):Int)) (λk=>?_) ?_
  ·rw[jm.l0,if_pos (by rw[qg5];omega),if_pos (by omega),Di,e,wsm (i:=(i:Int)+1) (by omega) (by omega)]
   rfl
  ·refine Ev.bind (qu5 3 (1+3*(i:Int)) (by omega) (by omega)) (Ev.no (by omega) ?_)
   rw[show (1:Int)+3*(i:Int)+((3:Nat):Int)=1+3*((i+1:Nat):Int) by omega];exact qmq n hn d (i+1) (by omega)
theorem qq8 (n:Nat) (hn:n<=1000000):Ev (λk=>jm.f k (mk3 n) 1) (1+3*(n:Int)):=by
 unfold jm.f
 simpa using qmq n hn n 0 (by omega)
theorem ql2 :PLN.length=45/\∀ x∈PLN,x.length=3:=by
 refine⟨by decide,λx hx=>?_⟩;have h:(PLN.all λx=>x.length == 3)=true:=by decide+kernel
 simpa using List.all_eq_true.1 h x hx
theorem qnu (p:Int) (Q:List (Int×Int×Int)):(qcw p Q).1.length<=45/\∀ x∈(qcw p Q).1,x.length=3:=by
 unfold qcw
 split
 ·exact⟨Nat.le_trans (List.length_filter_le _ _) (by rw[ql2.1];omega),λx hx=>ql2.2 x (List.mem_filter.1 hx).1⟩
 ·exact⟨by simp,λx hx=>by cases hx⟩
theorem qdj (p:Int) (six:List S53) (hm:six.length<=maxLen):Ev (λk=>laws_FnExactSurfaceStars.f k p six) true:=by
 unfold laws_FnExactSurfaceStars.f;refine Ev.bind (Ev.k (qm2 six hm)) ?_
 by_cases hl:six.length<=1048576
 rotate_left
 ·rw[if_neg hl];exact Ev.yes (by omega) (Ev.now _)
 rw[if_pos hl];refine Ev.no (by omega) ?_;have hq:(six.map toP).length<=1048576:=by rw[List.length_map];exact hl
 have ht:=qlz six hl;have hi:=qf3 p (six.map toP);have hs:=qgc p (six.map toP);have hr:=qnu p (tps (six.map toP));generalize qcw p (tps (six.map toP))=t at*;obtain⟨t,ok⟩:=t;simp only at hr;generalize six.map toP=Q at*;have h1:=hr.1;refine Ev.bind ht (Ev.bind hs (Ev.bind hi (Ev.bind (qvu t (by omega) hr.2) (Ev.bind (ql9 Q hq) (Ev.bind (Ev.k (qi9 Q 1 hq (by omega))) (Ev.bind (qr2 t (by omega) hr.2) (Ev.bind (qq8 t.length (by omega)) (Ev.yes ?_ (Ev.now _)))))))));exact⟨⟨rfl,rfl⟩,rfl,by first|omega|(simp only;omega),by first|omega|(simp only;omega),rfl⟩
end Go.Proofs.YtmgbpmihbljngaaGreat.PA
namespace Go.Proofs.YtmgbpmihbljngaaGreat.Pure
open Go.RowKit Go.Proofs.YtmgbpmihbljngaaGreat.PA Go.Proofs.YtmgbpmihbljngaaGreatW.PrintWords Go.Proofs.YtmgbpmihbljngaaGreatW.PrintLast
theorem FnExactSurfaceStars (p:Int) (six:List S53) (hm:six.length<=maxLen):∃ k,laws_FnExactSurfaceStars.f k p six=some true:=(qdj p six hm).rounds
end Go.Proofs.YtmgbpmihbljngaaGreat.Pure
