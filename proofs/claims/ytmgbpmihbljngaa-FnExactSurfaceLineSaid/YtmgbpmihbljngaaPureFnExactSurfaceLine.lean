/- For every whole number p, every list of points and every whole number k the program's SurfaceLine returns what the reference's returns, shares no memory and leaves the points as they were. No conditions. -/
import Derived.Test.YtmgbpmihbljngaaWMore
import Derived.Test.YtmgbpmihbljngaaPAx1
import Derived.Test.YtmgbpmihbljngaaPAx2
import Derived.Test.YtmgbpmihbljngaaPAx14
import Derived.Test.YtmgbpmihbljngaaLPln
import Derived.Test.YtmgbpmihbljngaaPAx3
import Derived.Test.YtmgbpmihbljngaaPAx20
import Derived.Test.YtmgbpmihbljngaaPAx16
import Derived.Test.YtmgbpmihbljngaaPAx17
import Derived.Test.YtmgbpmihbljngaaPAx19
import Derived.Test.YtmgbpmihbljngaaLSep
import Derived.Test.YtmgbpmihbljngaaPAx22
import Derived.Test.YtmgbpmihbljngaaPAx21
import Derived.Test.YtmgbpmihbljngaaPAx18
import Derived.Test.YtmgbpmihbljngaaPAx23
namespace Go.Proofs.Ytmgbpmihbljngaa.PA
open Go.RowKit Go.Proofs.YtmgbpmihbljngaaW.PrintWords Go.Proofs.YtmgbpmihbljngaaW.PrintLast Go.Proofs.YtmgbpmihbljngaaW.PrintMore
set_option linter.unusedVariables false
set_option linter.unusedSimpArgs false
theorem wsm {i:Int} (h0:-1000000000000000000≤i) (h:i≤1000000000000000000):wrap64 i=i:=by unfold wrap64;omega
theorem Ev.none_ {α:Type} {g:Nat→Option α} {r r':α} (h:Ev g r) (h':Ev g r'):r=r':=by
  obtain⟨a,ha⟩:=h
  obtain⟨b,hb⟩:=h'
  have h1:=ha (max a b) (Nat.le_max_left _ _)
  have h2:=hb (max a b) (Nat.le_max_right _ _)
  exact Option.some.inj (h1.symm.trans h2)
theorem Ev.k {α:Type} {x:Option α} {r:α} (h:x=some r):Ev (fun _=>x) r:=⟨0,fun _ _=>h⟩
theorem Ev.ite {α:Type} {c:Prop} [Decidable c] {g f:Nat→Option α} {r:α} (h1:c→Ev g r) (h2:¬ c→Ev f r):Ev (fun k=>if c then g k else f k) r:=by
  by_cases h:c
  · exact(h1 h).congr (fun k=>if_pos h)
  · exact(h2 h).congr (fun k=>if_neg h)
theorem Ev.yes {α:Type} {c:Prop} [Decidable c] {g f:Nat→Option α} {r:α} (h:c) (h1:Ev g r):Ev (fun k=>if c then g k else f k) r:=h1.congr (fun k=>if_pos h)
theorem Ev.no {α:Type} {c:Prop} [Decidable c] {g f:Nat→Option α} {r:α} (h:¬ c) (h1:Ev f r):Ev (fun k=>if c then g k else f k) r:=h1.congr (fun k=>if_neg h)
theorem Zz (l:List Int) (j:Nat) (h:j < l.length):rd l (j:Int)=l[j]:=by simp[rd,List.getD_eq_getElem?_getD,h]
theorem qc9 (l:List Int) (j:Nat) (h:j < l.length):l.drop j=rd l (j:Int) :: l.drop (j+1):=by rw[Zz l j h,List.drop_eq_getElem_cons h]
end Go.Proofs.Ytmgbpmihbljngaa.PA
namespace Go.Proofs.Ytmgbpmihbljngaa.PA
open Go.RowKit Go.Proofs.YtmgbpmihbljngaaW.PrintWords Go.Proofs.YtmgbpmihbljngaaW.PrintLast Go.Proofs.YtmgbpmihbljngaaW.PrintMore
set_option linter.unusedVariables false
set_option linter.unusedSimpArgs false
def toP (x:S76):S43:=⟨⟨x.f0.f0,x.f0.f1,x.f0.f2⟩⟩
theorem qfq (l:List S76) (hl:l.length≤1048576):∀ (d i:Nat) (acc:List S43),i+d=l.length→acc=(l.take i).map toP++List.replicate d z43→Ev (fun k=>zc.l0 k l acc (i:Int)) (l.map toP)
  | 0,i,acc,hi,ha=>by
    rw[List.take_of_length_le (by omega),List.replicate_zero,List.append_nil]at ha
    subst ha
    exact Ev.step (f:=fun _=>some (l.map toP)) (fun q=>by rw[zc.l0,if_neg (by omega)]) (Ev.now _)
  | d+1,i,acc,hi,ha=>by
    have hil:i < l.length:=by omega
    have hal:acc.length=l.length:=by rw[ha,List.length_append,List.length_map,List.length_take,List.length_replicate];omega
    have e:Ju.f (Zv l (i:Int)).f0.f0 (Zv l (i:Int)).f0.f1 (Zv l (i:Int)).f0.f2=some ((Zv l (i:Int)).f0.f0,(Zv l (i:Int)).f0.f1,(Zv l (i:Int)).f0.f2):=rfl
    refine Ev.step (fun q=>by rw[zc.l0,if_pos (by omega),if_pos (by omega),e,Option.bind_some,if_pos (by omega),wsm (by omega) (by omega)]) ?_
    refine qfq l hl d (i+1) _ (by omega) ?_
    have er:Zv l (i:Int)=l[i]:=by simp[Zv,List.getD_eq_getElem?_getD,hil]
    rw[er,Int.toNat_natCast,ha,List.set_append_right _ _ (by rw[List.length_map,List.length_take];omega),List.length_map,List.length_take,Nat.min_eq_left (by omega),Nat.sub_self,List.replicate_succ,List.set_cons_zero,List.take_add_one,List.map_append,List.getElem?_eq_getElem hil]
    simp[toP]
theorem qj5 (l:List S76) (hl:l.length≤1048576):Ev (fun k=>zc.f k l) (l.map toP):=by
  unfold zc.f
  refine Ev.yes (by omega) (Ev.yes (by omega) ?_)
  exact qfq l hl l.length 0 _ (by omega) (by simp)
end Go.Proofs.Ytmgbpmihbljngaa.PA
namespace Go.Proofs.Ytmgbpmihbljngaa.PA
open Go.RowKit Go.Proofs.YtmgbpmihbljngaaW.PrintWords Go.Proofs.YtmgbpmihbljngaaW.PrintLast Go.Proofs.YtmgbpmihbljngaaW.PrintMore
set_option linter.unusedVariables false
set_option linter.unusedSimpArgs false
theorem qho (x y z:Int):Zx.f x y z x y z=some true:=by simp[Zx.f,zj.f]
theorem qfn (l:List S43) (hl:l.length≤1048576):∀ (d i:Nat),i+d=l.length→Ev (fun k=>q8.l0 k l l (i:Int)) true
  | 0,i,hi=>Ev.step (f:=fun _=>some true) (fun q=>by rw[q8.l0,if_neg (by omega)]) (Ev.now _)
  | d+1,i,hi=>by
    refine Ev.step (fun q=>by rw[q8.l0,if_pos (by omega),if_pos (by omega),if_pos (by omega),qho,Option.bind_some,if_pos rfl,wsm (by omega) (by omega)]) ?_
    exact qfn l hl d (i+1) (by omega)
theorem qiw (l:List S43) (hl:l.length≤1048576):Ev (fun k=>q8.f k l l) true:=by
  unfold q8.f
  exact Ev.yes rfl (qfn l hl l.length 0 (by omega))
end Go.Proofs.Ytmgbpmihbljngaa.PA
namespace Go.Proofs.Ytmgbpmihbljngaa.PA
open Go.RowKit Go.Proofs.YtmgbpmihbljngaaW.PrintWords Go.Proofs.YtmgbpmihbljngaaW.PrintLast Go.Proofs.YtmgbpmihbljngaaW.PrintMore
set_option linter.unusedVariables false
set_option linter.unusedSimpArgs false
theorem qj1 (l:List S76) (hm:l.length≤maxLen):Zg.f l 1048576=some (if l.length≤1048576 then 1048576 - (l.length:Int) else -1):=by
  have h2:maxLen≤9223372036854775807:=by decide
  unfold Zg.f
  have e:wrap64 (1048576 - (l.length:Int))=1048576 - (l.length:Int):=by unfold wrap64;omega
  rw[e]
  by_cases h:l.length≤1048576
  · rw[if_neg (by omega),if_pos h]
  · rw[if_pos (by omega),if_neg h]
end Go.Proofs.Ytmgbpmihbljngaa.PA
namespace Go.Proofs.Ytmgbpmihbljngaa.PA
open Go.RowKit Go.Proofs.YtmgbpmihbljngaaW.PrintWords Go.Proofs.YtmgbpmihbljngaaW.PrintLast Go.Proofs.YtmgbpmihbljngaaW.PrintMore
set_option linter.unusedVariables false
set_option linter.unusedSimpArgs false
theorem qgg (l:List S43) (a:Int) (hl:l.length≤1048576) (ha:0≤a∧a≤1000000000):Zb.f l a=some (a+3*(l.length:Int),mkP a l.length):=by
  unfold Zb.f
  exact if_pos ⟨hl,ha⟩
end Go.Proofs.Ytmgbpmihbljngaa.PA
namespace Go.Proofs.Ytmgbpmihbljngaa.PA
open Go.RowKit Go.Proofs.YtmgbpmihbljngaaW.PrintWords Go.Proofs.YtmgbpmihbljngaaW.PrintLast Go.Proofs.YtmgbpmihbljngaaW.PrintMore
set_option linter.unusedVariables false
set_option linter.unusedSimpArgs false
theorem qjv (a b:List Int) (hab:a.length=b.length) (hl:a.length≤1000000000):∀ (d:Nat) (i:Nat),i+d=a.length→Ev (fun k=>zk.l0 k a b (i:Int)) (decide (a.drop i=b.drop i))
  | 0,i,h=>by
    refine Ev.step (f:=fun _=>some true) (fun k=>?_) ?_
    · rw[zk.l0,if_neg (by omega)]
    · rw[List.drop_eq_nil_of_le (by omega),List.drop_eq_nil_of_le (by omega)];exact Ev.now _
  | d + 1, i, h => by
    have ih:=qjv a b hab hl d (i+1) (by omega)
    rw[qc9 a i (by omega),qc9 b i (by omega)]
    by_cases hr:rd a (i:Int)=rd b (i:Int)
    · refine Ev.step (f:=fun k=>zk.l0 k a b ((i+1:Nat):Int)) (fun k=>?_) ?_
      · rw[zk.l0,if_pos (by omega),if_pos (by omega),if_pos (by omega),if_pos hr,wsm (by omega) (by omega)]
        simp
      · simpa [hr] using ih
    · refine Ev.step (f:=fun _=>some false) (fun k=>?_) ?_
      · rw[zk.l0,if_pos (by omega),if_pos (by omega),if_pos (by omega),if_neg hr]
      · simpa [hr] using Ev.now false
theorem qdq (a b:List Int) (hl:a.length≤1000000000):Ev (fun k=>zk.f k a b) (decide (a=b)):=by
  unfold zk.f
  refine Ev.ite (fun h=>?_) (fun h=>?_)
  · simpa using qjv a b (by omega) hl a.length 0 (by omega)
  · rw[decide_eq_false (fun e=>h (by rw[e]))];exact Ev.now _
end Go.Proofs.Ytmgbpmihbljngaa.PA
namespace Go.Proofs.Ytmgbpmihbljngaa.PA
open Go.RowKit Go.Proofs.YtmgbpmihbljngaaW.PrintWords Go.Proofs.YtmgbpmihbljngaaW.PrintLast Go.Proofs.YtmgbpmihbljngaaW.PrintMore
set_option linter.unusedVariables false
set_option linter.unusedSimpArgs false
def J6 (s:Int) (n:Nat):List Int:=(List.range n).map fun (i:Nat)=>s+(i:Int)
theorem Ja (s:Int) (n:Nat):(J6 s n).length=n:=by simp[J6]
theorem qgr (s:Int) (n i:Nat) (h:i < n):(J6 s n)[i]? =some (s+(i:Int)):=by simp[J6,h]
theorem qoo (l:List Int) (s:Int) (hs:0≤s∧s≤1000000000) (hl:l.length≤1000000000):∀ (d i:Nat),i+d=l.length→Ev (fun k=>zm.l0 k ((J6 s l.length).take i++l.drop i) (s+(i:Int)) (i:Int)) (s+(l.length:Int),J6 s l.length)
  | 0,i,h=>by
    refine Ev.step (f:=fun _=>some (s+(l.length:Int),J6 s l.length)) (fun k=>?_) (Ev.now _)
    rw[List.drop_eq_nil_of_le (by omega),List.append_nil,List.take_of_length_le (by rw[Ja];omega),zm.l0,if_neg (by rw[Ja];omega)]
    rw[show i=l.length by omega]
  | d + 1, i, h => by
    refine Ev.step (f:=fun k=>zm.l0 k ((J6 s l.length).take (i+1)++l.drop (i+1)) (s+((i+1:Nat):Int)) ((i+1:Nat):Int)) (fun k=>?_) (qoo l s hs hl d (i+1) (by omega))
    have hlen:((J6 s l.length).take i++l.drop i).length=l.length:=by simp[Ja];omega
    have hset:((J6 s l.length).take i++l.drop i).set i (s+(i:Int))=(J6 s l.length).take (i+1)++l.drop (i+1):=by
      have hi:i < l.length:=by omega
      rw[List.set_append_right _ _ (by simp[Ja];omega),List.length_take,Ja,Nat.min_eq_left (by omega),Nat.sub_self,List.drop_eq_getElem_cons hi,List.set_cons_zero,List.take_add_one,qgr s _ i hi]
      simp
    rw[zm.l0,if_pos (by rw[hlen];omega),if_pos (by omega),Int.toNat_natCast,hset,wsm (i:=s+(i:Int)+1) (by omega) (by omega),wsm (i:=(i:Int)+1) (by omega) (by omega)]
    rw[show s+(i:Int)+1=s+((i+1:Nat):Int) by omega]
    rfl
theorem qps (l:List Int) (s:Int) (hs:0≤s∧s≤1000000000) (hl:l.length≤1000000000):Ev (fun k=>zm.f k l s) (s+(l.length:Int),J6 s l.length):=by
  unfold zm.f
  simpa using qoo l s hs hl l.length 0 (by omega)
theorem qpc (n:Nat) (s:Int) (hs:0≤s∧s≤1000000000) (hl:n≤1000000000):∀ (d i:Nat),i+d=n→Ev (fun k=>zh.l0 k (J6 s n) (s+(i:Int)) (i:Int)) (s+(n:Int))
  | 0,i,h=>by
    refine Ev.step (f:=fun _=>some (s+(n:Int))) (fun k=>?_) (Ev.now _)
    rw[zh.l0,if_neg (by rw[Ja];omega),show i=n by omega]
  | d + 1, i, h => by
    refine Ev.step (f:=fun k=>zh.l0 k (J6 s n) (s+((i+1:Nat):Int)) ((i+1:Nat):Int)) (fun k=>?_) (qpc n s hs hl d (i+1) (by omega))
    have e:rd (J6 s n) (i:Int)=s+(i:Int):=by
      rw[Zz _ i (by rw[Ja];omega)]
      have:=qgr s n i (by omega)
      rw[List.getElem?_eq_getElem (by rw[Ja];omega)]at this
      exact Option.some.inj this
    rw[zh.l0,if_pos (by rw[Ja];omega),if_pos (by omega),if_pos e,wsm (i:=s+(i:Int)+1) (by omega) (by omega),wsm (i:=(i:Int)+1) (by omega) (by omega)]
    rw[show s+(i:Int)+1=s+((i+1:Nat):Int) by omega]
    rfl
theorem qlt (n:Nat) (s:Int) (hs:0≤s∧s≤1000000000) (hl:n≤1000000000):Ev (fun k=>zh.f k (J6 s n) s) (s+(n:Int)):=by
  unfold zh.f
  simpa using qpc n s hs hl n 0 (by omega)
end Go.Proofs.Ytmgbpmihbljngaa.PA
namespace Go.Proofs.Ytmgbpmihbljngaa.PA
open Go.RowKit Go.Proofs.YtmgbpmihbljngaaW.PrintWords Go.Proofs.YtmgbpmihbljngaaW.PrintLast Go.Proofs.YtmgbpmihbljngaaW.PrintMore
set_option linter.unusedVariables false
set_option linter.unusedSimpArgs false
theorem qko (p:Int):Zo.f p=some (zi p):=by
  unfold Zo.f zi
  repeat' split
  all_goals first | (subst_vars;rfl) | (congr 1;symm;rw[decide_eq_true_iff];omega) | (congr 1;symm;rw[decide_eq_false_iff_not];omega)
theorem J8 {p:Int} (h:zi p=true):p=7∨p=11∨p=13∨p=17∨p=19∨p=23∨p=29∨p=31:=of_decide_eq_true h
def qbe (p:Int) (l:List Int) (n:Nat):Bool:=zi p && decide (l.length=n) && l.all fun x=>decide (0≤x) && decide (x < p)
theorem qgf (p:Int) (l:List Int) (n:Nat):Qh.f p l (n:Int)=some (qbe p l n):=by
  unfold Qh.f qbe
  congr 3
  rw[Bool.eq_iff_iff,decide_eq_true_iff,decide_eq_true_iff]
  omega
theorem qbk {p:Int} {l:List Int} {n:Nat} (h:qbe p l n=true):zi p=true∧l.length=n∧∀ x∈l,0≤x∧x < p:=by
  unfold qbe at h
  rw[Bool.and_eq_true,Bool.and_eq_true]at h
  refine⟨h.1.1,of_decide_eq_true h.1.2,fun x hx=>?_⟩
  have:=List.all_eq_true.1 h.2 x hx
  rw[Bool.and_eq_true]at this
  exact⟨of_decide_eq_true this.1,of_decide_eq_true this.2⟩
theorem qo7 {p:Int} {l:List Int} {n:Nat} (h1:zi p=true) (h2:l.length=n) (h3:∀ x∈l,0≤x∧x < p):qbe p l n=true:=by
  unfold qbe
  rw[h1,decide_eq_true h2,Bool.true_and,Bool.true_and,List.all_eq_true]
  intro x hx
  rw[decide_eq_true (h3 x hx).1,decide_eq_true (h3 x hx).2];rfl
theorem zx {p:Int} (h:zi p=true):7≤p∧p≤31:=by have:=J8 h;omega
end Go.Proofs.Ytmgbpmihbljngaa.PA
namespace Go.Proofs.Ytmgbpmihbljngaa.PA
open Go.RowKit Go.Proofs.YtmgbpmihbljngaaW.PrintWords Go.Proofs.YtmgbpmihbljngaaW.PrintLast Go.Proofs.YtmgbpmihbljngaaW.PrintMore
set_option linter.unusedVariables false
set_option linter.unusedSimpArgs false
def invP (p x:Int):Int:=(z7.f 40 p x).getD 0
theorem qkp :∀ p∈([7,11,13,17,19,23,29,31]:List Int),∀ x∈List.range 31,(x:Int) < p→z7.f 40 p (x:Int)=some (invP p (x:Int))∧0≤invP p (x:Int)∧invP p (x:Int) < p∧((x:Int)≠0→((x:Int)*invP p (x:Int)) % p=1)∧((x:Int)=0→invP p (x:Int)=0):=by decide+kernel
theorem Zt {p:Int} (hp:zi p=true) {x:Int} (h0:0≤x) (h1:x < p):z7.f 40 p x=some (invP p x)∧0≤invP p x∧invP p x < p∧(x≠0→(x*invP p x) % p=1)∧(x=0→invP p x=0):=by
  obtain⟨y,rfl⟩:=Int.eq_ofNat_of_zero_le h0
  have hb:=zx hp
  refine qkp p ?_ y (List.mem_range.2 (by omega)) h1
  have:=J8 hp
  simpa using this
theorem qmw {p:Int} (hp:zi p=true) {x:Int} (h0:0≤x) (h1:x < p):Ev (fun k=>z7.f k p x) (invP p x):=Ev.of (z7.mono p x) (Zt hp h0 h1).1
theorem qo0 {p:Int} (hp:zi p=true):invP p 1=1:=by
  have hb:=zx hp
  obtain⟨_,h2,h3,h4,_⟩:=Zt hp (x:=1) (by omega) (by omega)
  have:=h4 (by omega)
  rw[Int.one_mul,Int.emod_eq_of_lt h2 h3]at this
  exact this
theorem qqk {p:Int} (hp:zi p=true) {x:Int} (h0:0≤x) (h1:x < p) (hx:x≠0):invP p x≠0:=by
  intro e
  have:=(Zt hp h0 h1).2.2.2.1 hx
  rw[e]at this
  simp at this
end Go.Proofs.Ytmgbpmihbljngaa.PA
namespace Go.Proofs.Ytmgbpmihbljngaa.PA
open Go.RowKit Go.Proofs.YtmgbpmihbljngaaW.PrintWords Go.Proofs.YtmgbpmihbljngaaW.PrintLast Go.Proofs.YtmgbpmihbljngaaW.PrintMore
set_option linter.unusedVariables false
set_option linter.unusedSimpArgs false
def j4 (p t:Int) (h r:List Int):List Int:=List.zipWith (fun x y=>(x - t*y) % p) r h
def Q8 (p b:Int) (r:List Int):List Int:=r.map fun x=>x*b % p
def redP (p:Int):Nat→Nat→List (List Int)→List (List Int)→List (List Int)
  | 0,_,_,O=>O
  | d+1,c,L,O=>
    match L.findIdx? (fun row=>rd row (c:Int) !=0) with
    | none=>redP p d (c+1) L O
    | some i=>redP p d (c+1) ((L.eraseIdx i).map fun r=>j4 p (rd r (c:Int)) (Q8 p (invP p (rd (L.getD i []) (c:Int))) (L.getD i [])) r) ((O.map fun r=>j4 p (rd r (c:Int)) (Q8 p (invP p (rd (L.getD i []) (c:Int))) (L.getD i [])) r)++[Q8 p (invP p (rd (L.getD i []) (c:Int))) (L.getD i [])])
def qad (p:Int):Nat→Nat→List (List Int)→List Int→List Int
  | 0,_,_,H=>H
  | d+1,c,L,H=>
    match L.findIdx? (fun row=>rd row (c:Int) !=0) with
    | none=>qad p d (c+1) L H
    | some i=>qad p d (c+1) ((L.eraseIdx i).map fun r=>j4 p (rd r (c:Int)) (Q8 p (invP p (rd (L.getD i []) (c:Int))) (L.getD i [])) r) (H++[(c:Int)])
def okR (p:Int) (w:Nat) (L:List (List Int)):Prop:=∀ r∈L,r.length=w∧∀ x∈r,0≤x∧x < p
theorem qaj (p:Int) (w:Nat):okR p w []:=fun _ h=>absurd h (by simp)
theorem qey {p:Int} {w:Nat} {r:List Int} {L:List (List Int)} (h1:r.length=w∧∀ x∈r,0≤x∧x < p) (h2:okR p w L):okR p w (r :: L):=fun x hx=>by
  rcases List.mem_cons.1 hx with rfl | hx
  · exact h1
  · exact h2 x hx
theorem qes {p:Int} {w:Nat} {L M:List (List Int)} (h1:okR p w L) (h2:okR p w M):okR p w (L++M):=fun x hx=>by
  rcases List.mem_append.1 hx with hx | hx
  · exact h1 x hx
  · exact h2 x hx
theorem qer {p t:Int} {w:Nat} {h r:List Int} (hp:0 < p) (hh:h.length=w) (hr:r.length=w):(j4 p t h r).length=w∧∀ x∈j4 p t h r,0≤x∧x < p:=by
  refine⟨by simp[j4,hh,hr],fun x hx=>?_⟩
  rw[j4,List.mem_iff_getElem]at hx
  obtain⟨i,hi,rfl⟩:=hx
  rw[List.getElem_zipWith]
  exact⟨Int.emod_nonneg _ (by omega),Int.emod_lt_of_pos _ hp⟩
theorem qbo {p b:Int} {w:Nat} {r:List Int} (hp:0 < p) (hr:r.length=w):(Q8 p b r).length=w∧∀ x∈Q8 p b r,0≤x∧x < p:=by
  refine⟨by simp[Q8,hr],fun x hx=>?_⟩
  obtain⟨y,_,rfl⟩:=List.mem_map.1 hx
  exact⟨Int.emod_nonneg _ (by omega),Int.emod_lt_of_pos _ hp⟩
theorem Q5 {L:List (List Int)} {i:Nat} (h:i < L.length):L.getD i []∈L:=by
  rw[List.getD_eq_getElem?_getD,List.getElem?_eq_getElem h];exact List.getElem_mem h
theorem qae {p:Int} {w:Nat} {L:List (List Int)} {h:List Int} (t:List Int→Int) (hp:0 < p) (hh:h.length=w) (hL:okR p w L):okR p w (L.map fun r=>j4 p (t r) h r):=fun x hx=>by
  obtain⟨r,hr,rfl⟩:=List.mem_map.1 hx
  exact qer hp hh (hL r hr).1
theorem qa0 {p:Int} {w:Nat} {L:List (List Int)} (i:Nat) (hL:okR p w L):okR p w (L.eraseIdx i):=fun r hr=>hL r (List.mem_of_mem_eraseIdx hr)
theorem qb4 {L:List (List Int)} {P:List Int→Bool} {i:Nat} (h:L.findIdx? P=some i):i < L.length∧P (L.getD i [])=true:=by
  rw[List.findIdx?_eq_some_iff_getElem]at h
  obtain⟨hi,hp,_⟩:=h
  exact⟨hi,by rw[List.getD_eq_getElem?_getD,List.getElem?_eq_getElem hi];exact hp⟩
theorem qeh {p:Int} {w:Nat} {r:List Int} (h:r.length=w∧∀ x∈r,0≤x∧x < p) (j:Nat) (hj:j < w):0≤rd r (j:Int)∧rd r (j:Int) < p:=by
  rw[Zz r j (by omega)];exact h.2 _ (List.getElem_mem _)
theorem qib {p t:Int} {h r:List Int} (j:Nat) (h1:j < r.length) (h2:j < h.length):rd (j4 p t h r) (j:Int)=(rd r (j:Int) - t*rd h (j:Int)) % p:=by
  rw[Zz _ j (by simp[j4];omega),Zz _ j h1,Zz _ j h2];simp[j4]
theorem qjq {p b:Int} {r:List Int} (j:Nat) (h1:j < r.length):rd (Q8 p b r) (j:Int)=rd r (j:Int)*b % p:=by
  rw[Zz _ j (by simp[Q8];omega),Zz _ j h1];simp[Q8]
def modW (p x:Int):Int:=Int.tmod (wrap64 (Int.tmod x p+p)) p
theorem qet {p:Int} (hp:0 < p) (x:Int):-p < Int.tmod x p∧Int.tmod x p < p:=by
  refine⟨?_,Int.tmod_lt_of_pos x hp⟩
  have h1:=Int.tmod_lt_of_pos (-x) hp
  rw[Int.neg_tmod]at h1
  omega
theorem qmx {p:Int} (x:Int):(Int.tmod x p+p) % p=x % p:=by
  have h:=Int.mul_tdiv_add_tmod x p
  have e:x=Int.tmod x p+p*x.tdiv p:=by omega
  rw[Int.add_emod_right]
  conv=>rhs;rw[e,Int.add_mul_emod_self_left]
theorem Jl {x p:Int} (hp:7≤p∧p≤31) (h0:-1000000000≤x) (h1:x≤1000000000):modW p (wrap64 x)=x % p:=by
  rw[wsm (by omega) (by omega),modW]
  have hb:=qet (p:=p) (by omega) x
  rw[wsm (by omega) (by omega),Int.tmod_eq_emod_of_nonneg (by omega),qmx]
end Go.Proofs.Ytmgbpmihbljngaa.PA
namespace Go.Proofs.Ytmgbpmihbljngaa.PA
open Go.RowKit Go.Proofs.YtmgbpmihbljngaaW.PrintWords Go.Proofs.YtmgbpmihbljngaaW.PrintLast Go.Proofs.YtmgbpmihbljngaaW.PrintMore
set_option linter.unusedVariables false
set_option linter.unusedSimpArgs false
def Zc (l:List Int):Int:=(l.find? (fun x=>x !=0)).getD 0
def rowP (p:Int) (l:List Int):List Int:=l.map fun x=>x*invP p (Zc l) % p
theorem qa9 (x:Int) (l:List Int):Zc (x :: l)=if x=0 then Zc l else x:=by
  unfold Zc
  by_cases h:x=0
  · simp[h]
  · simp[h]
theorem qjx {p:Int} {l:List Int} (hr:∀ x∈l,0≤x∧x < p) (hp:0 < p):0≤Zc l∧Zc l < p:=by
  unfold Zc
  cases h:l.find? (fun x=>x !=0) with
  | none=>simp;omega
  | some y=>exact hr y (List.mem_of_find?_eq_some h)
theorem qf0 {p x y:Int} (hp:p≤31) (h0:0≤x) (h1:x < p) (h2:0≤y) (h3:y < p):0≤x*y∧x*y≤900:=by
  have h:=Int.mul_le_mul (show x≤30 by omega) (show y≤30 by omega) h2 (by omega)
  exact⟨Int.mul_nonneg h0 h2,by omega⟩
theorem qic {p:Int} (hp:zi p=true) (l:List Int) (hr:∀ x∈l,0≤x∧x < p) (hl:l.length≤1000):∀ (d i:Nat) (acc:List Int) (n:Int),i+d=l.length→acc.length=i→(n=0∨0≤n∧n < p)→
    Ev (fun k=>zf.l0 k p l acc n (i:Int)) (acc++(l.drop i).map fun x=>x*(if n=0 then invP p (Zc (l.drop i)) else n) % p)
  | 0,i,acc,n,h,ha,hn=>by
    refine Ev.step (f:=fun _=>some acc) (fun k=>?_) ?_
    · rw[zf.l0,if_neg (by omega)]
    · rw[List.drop_eq_nil_of_le (by omega)];simpa using Ev.now acc
  | d + 1, i, acc, n, h, ha, hn => by
    have hb:=zx hp
    have hi:i < l.length:=by omega
    have hx:=hr _ (List.getElem_mem hi)
    rw[← Zz l i hi]at hx
    rw[qc9 l i hi]
    by_cases h0:n=0
    · have hv:=Zt hp hx.1 hx.2
      have hm:=qf0 hb.2 hx.1 hx.2 hv.2.1 hv.2.2.1
      refine Ev.step (f:=fun k=>(z7.f k p (rd l (i:Int))).bind fun t=>zf.l0 k p l (acc++[Int.tmod (wrap64 ((rd l (i:Int))*t)) p]) t ((i+1:Nat):Int)) (fun k=>?_) (Ev.bind (qmw hp hx.1 hx.2) ?_)
      · rw[zf.l0,if_pos (by omega),if_pos h0,if_pos (by omega)]
        congr 1
        funext t
        rw[if_neg (by omega),if_pos (by omega),wsm (i:=(i:Int)+1) (by omega) (by omega)]
        rfl
      · have ih:=qic hp l hr hl d (i+1) (acc++[Int.tmod (wrap64 ((rd l (i:Int))*invP p (rd l (i:Int)))) p]) (invP p (rd l (i:Int))) (by omega) (by simp[ha]) (.inr ⟨hv.2.1,hv.2.2.1⟩)
        rw[wsm (by omega) (by omega),Int.tmod_eq_emod_of_nonneg hm.1]at ih ⊢
        rw[List.append_assoc]at ih
        rw[qa9,if_pos h0]
        by_cases hz:rd l (i:Int)=0
        · rw[if_pos hz]
          rw[if_pos (hv.2.2.2.2 hz)]at ih
          simp only[hz,Int.zero_mul,List.map_cons]at ih ⊢
          exact ih
        · rw[if_neg hz]
          rw[if_neg (qqk hp hx.1 hx.2 hz)]at ih
          simpa using ih
    · have hn':0≤n∧n < p:=by rcases hn with h | h;exact absurd h h0;exact h
      have hm:=qf0 hb.2 hx.1 hx.2 hn'.1 hn'.2
      refine Ev.step (f:=fun k=>zf.l0 k p l (acc++[Int.tmod (wrap64 ((rd l (i:Int))*n)) p]) n ((i+1:Nat):Int)) (fun k=>?_) ?_
      · rw[zf.l0,if_pos (by omega),if_neg h0,if_pos (by omega),if_neg (by omega),if_pos (by omega),wsm (i:=(i:Int)+1) (by omega) (by omega)]
        rfl
      · have ih:=qic hp l hr hl d (i+1) (acc++[Int.tmod (wrap64 ((rd l (i:Int))*n)) p]) n (by omega) (by simp[ha]) hn
        rw[wsm (by omega) (by omega),Int.tmod_eq_emod_of_nonneg hm.1]at ih ⊢
        rw[if_neg h0]at ih ⊢
        simpa using ih
theorem qir {p:Int} (hp:zi p=true) (l:List Int) (hr:∀ x∈l,0≤x∧x < p) (hl:l.length≤1000):Ev (fun k=>zf.f k p l) (rowP p l):=by
  have:=qic hp l hr hl l.length 0 [] 0 (by omega) rfl (.inl rfl)
  unfold zf.f
  simpa [rowP] using this
end Go.Proofs.Ytmgbpmihbljngaa.PA
namespace Go.Proofs.Ytmgbpmihbljngaa.PA
open Go.RowKit Go.Proofs.YtmgbpmihbljngaaW.PrintWords Go.Proofs.YtmgbpmihbljngaaW.PrintLast Go.Proofs.YtmgbpmihbljngaaW.PrintMore
set_option linter.unusedVariables false
set_option linter.unusedSimpArgs false
theorem qbh (p x:Int) (hp:p≠0):Qn.f p x=some (modW p x):=by rw[Qn.f,if_neg hp];rfl
theorem qiv {p t:Int} {w:Nat} (hp:7≤p∧p≤31) (ht:0≤t∧t < p) {h r:List Int} (hh:h.length=w∧∀ x∈h,0≤x∧x < p) (hr:r.length=w∧∀ x∈r,0≤x∧x < p) (hw:w≤1000):∀ (d i:Nat),i+d=w→Ev (fun k=>za.l0 k p r t h ((j4 p t h r).take i) (i:Int)) (j4 p t h r)
  | 0,i,he=>by
    have hl:=(qer (p:=p) (t:=t) (by omega) hh.1 hr.1).1
    refine Ev.step (f:=fun _=>some (j4 p t h r)) (fun k=>?_) (Ev.now _)
    rw[za.l0,if_neg (by omega),List.take_of_length_le (by omega)]
  | d + 1, i, he => by
    have hl:=(qer (p:=p) (t:=t) (by omega) hh.1 hr.1).1
    have hx:=qeh hr i (by omega)
    have hy:=qeh hh i (by omega)
    have hm:=qf0 hp.2 ht.1 ht.2 hy.1 hy.2
    refine Ev.step (f:=fun k=>za.l0 k p r t h ((j4 p t h r).take (i+1)) ((i+1:Nat):Int)) (fun k=>?_) (qiv hp ht hh hr hw d (i+1) (by omega))
    rw[za.l0,if_pos (by omega),if_pos (by omega),if_pos (by omega),qbh _ _ (by omega),Option.bind_some,if_pos (by simp;omega),wsm (i:=(i:Int)+1) (by omega) (by omega),wsm (i:=t*rd h (i:Int)) (by omega) (by omega),Jl hp (by omega) (by omega)]
    have e:(j4 p t h r).take (i+1)=(j4 p t h r).take i++[(rd r (i:Int) - t*rd h (i:Int)) % p]:=by
      rw[List.take_add_one,List.getElem?_eq_getElem (by omega),← Zz (j4 p t h r) i (by omega),qib i (by omega) (by omega)]
      rfl
    rw[e]
    rfl
theorem qg9 {p t:Int} {w:Nat} (hp:7≤p∧p≤31) (ht:0≤t∧t < p) {h r:List Int} (hh:h.length=w∧∀ x∈h,0≤x∧x < p) (hr:r.length=w∧∀ x∈r,0≤x∧x < p) (hw:w≤1000):Ev (fun k=>za.f k p r t h) (j4 p t h r):=by
  unfold za.f
  simpa using qiv hp ht hh hr hw w 0 (by omega)
theorem qbi (L:List (List Int)) (i:Nat):ju L (i:Int)=L.getD i []:=by simp[ju]
theorem qjw :∀ (l:List Int) (c:Nat),c < l.length→(∀ j:Nat,j < c→rd l (j:Int)=0)→rd l (c:Int)≠0→Zc l=rd l (c:Int)
  | [],c,h,_,_=>absurd h (by simp)
  | x :: l,0,_,_,hn=>by
    have e:rd (x :: l) ((0:Nat):Int)=x:=by simp[rd]
    rw[e]at hn ⊢
    rw[qa9,if_neg hn]
  | x :: l,c+1,h,hz,hn=>by
    have e:∀ j:Nat,rd (x :: l) ((j+1:Nat):Int)=rd l (j:Int):=fun j=>by simp[rd]
    have h0:x=0:=by have:=hz 0 (by omega);simpa [rd] using this
    rw[qa9,if_pos h0,e]
    exact qjw l c (by simpa using h) (fun j hj=>by rw[← e];exact hz (j+1) (by omega)) (by rw[← e];exact hn)
theorem qlb {p:Int} {l:List Int} {c:Nat} (hc:c < l.length) (hz:∀ j:Nat,j < c→rd l (j:Int)=0) (hn:rd l (c:Int)≠0):rowP p l=Q8 p (invP p (rd l (c:Int))) l:=by
  rw[rowP,qjw l c hc hz hn,Q8]
def qdw (c:Nat) (L:List (List Int)):Prop:=∀ r∈L,∀ j:Nat,j < c→rd r (j:Int)=0
theorem qd8 {p:Int} (hp:zi p=true) {w c:Nat} (hc:c < w) {L:List (List Int)} (hL:okR p w L) (hz:qdw c L) {i:Nat} (hf:L.findIdx? (fun row=>rd row (c:Int) !=0)=some i):
    qdw (c+1) ((L.eraseIdx i).map fun r=>j4 p (rd r (c:Int)) (Q8 p (invP p (rd (L.getD i []) (c:Int))) (L.getD i [])) r):=by
  intro r hr j hj
  obtain⟨q,hq,rfl⟩:=List.mem_map.1 hr
  have hq':=List.mem_of_mem_eraseIdx hq
  obtain⟨hi,hne⟩:=qb4 hf
  have hx:=hL _ (Q5 hi)
  have hxr:=qeh hx c hc
  have hne':rd (L.getD i []) (c:Int)≠0:=by simpa using hne
  have hql:=(hL q hq').1
  rw[qib j (by omega) (by rw[(qbo (by have:=zx hp;omega) hx.1).1];omega),qjq j (by omega)]
  by_cases e:j=c
  · subst e
    rw[(Zt hp hxr.1 hxr.2).2.2.2.1 hne',Int.mul_one,Int.sub_self,Int.zero_emod]
  · rw[hz q hq' j (by omega),hz _ (Q5 hi) j (by omega)]
    simp
theorem qeb {c:Nat} {L:List (List Int)} (hz:qdw c L) (hf:L.findIdx? (fun row=>rd row (c:Int) !=0)=none):qdw (c+1) L:=by
  intro r hr j hj
  by_cases e:j=c
  · subst e
    have:=List.findIdx?_eq_none_iff.1 hf r hr
    simpa using this
  · exact hz r hr j (by omega)
theorem qg0 {p:Int} {w:Nat} {rows out:List (List Int)} {heads:List Int} {c:Nat} {R:List (List Int)×List Int} (hc:c < w) (hw:w≤1000) (hlen:rows.length < 1000000) (hr:∀ r∈rows,r.length=w)
    (hnone:rows.findIdx? (fun row=>rd row (c:Int) !=0)=none→Ev (fun k=>qg.l0 k p rows (w:Int) out heads ((c+1:Nat):Int)) R)
    (hsome:∀ i,rows.findIdx? (fun row=>rd row (c:Int) !=0)=some i→Ev (fun k=>(zf.f k p (rows.getD i [])).bind fun t=>qg.l2 k p rows (w:Int) out heads (c:Int) (i:Int) t [] 0) R):
    ∀ (d i:Nat),i+d=rows.length→(rows.take i).findIdx? (fun row=>rd row (c:Int) !=0)=none→Ev (fun k=>qg.l1 k p rows (w:Int) out heads (c:Int) (-1) (i:Int)) R
  | 0,i,he,hf=>by
    have hf':rows.findIdx? (fun row=>rd row (c:Int) !=0)=none:=by rwa [List.take_of_length_le (by omega)]at hf
    refine Ev.step (f:=fun k=>qg.j2 k p rows (w:Int) out heads (c:Int) (-1) (i:Int) false) (fun k=>?_) ?_
    · rw[qg.l1,if_neg (by omega)]
    · refine Ev.step (f:=fun k=>qg.l0 k p rows (w:Int) out heads ((c+1:Nat):Int)) (fun k=>?_) (hnone hf')
      rw[qg.j2,if_neg (by simp),if_pos (by omega),wsm (by omega) (by omega)]
      rfl
  | d + 1, i, he, hf => by
    have hi:i < rows.length:=by omega
    have hrl:(rows.getD i []).length=w:=hr _ (Q5 hi)
    refine Ev.step (f:=fun k=>qg.j2 k p rows (w:Int) out heads (c:Int) (-1) (i:Int) true) (fun k=>?_) ?_
    · rw[qg.l1,if_pos (by omega)];rfl
    · by_cases hz:rd (rows.getD i []) (c:Int)=0
      · refine Ev.step (f:=fun k=>qg.l1 k p rows (w:Int) out heads (c:Int) (-1) ((i+1:Nat):Int)) (fun k=>?_) (qg0 hc hw hlen hr hnone hsome d (i+1) (by omega) ?_)
        · rw[qg.j2,if_pos rfl,if_pos (by omega),if_pos (by omega),if_pos (by omega),qbi,if_pos (by omega),if_pos hz,wsm (by omega) (by omega)]
          rfl
        · rw[List.take_add_one,List.findIdx?_append,hf,List.getElem?_eq_getElem hi]
          rw[List.getD_eq_getElem?_getD,List.getElem?_eq_getElem hi]at hz
          simp only[Option.getD_some]at hz
          simp[List.findIdx?_cons,hz]
      · have hfi:rows.findIdx? (fun row=>rd row (c:Int) !=0)=some i:=by
          rw[List.getD_eq_getElem?_getD,List.getElem?_eq_getElem hi]at hz
          simp only[Option.getD_some]at hz
          have hsplit:rows=rows.take i++rows[i] :: rows.drop (i+1):=by rw[List.getElem_cons_drop,List.take_append_drop]
          rw[hsplit,List.findIdx?_append,hf]
          have hz':(rd rows[i] (c:Int) !=0)=true:=bne_iff_ne.mpr hz
          rw[List.findIdx?_cons,hz']
          simp only[if_true,Option.map_some,Option.none_or,List.length_take,Nat.zero_add]
          rw[Nat.min_eq_left (by omega)]
        have hs:=hsome i hfi
        have hfin:∀ q:Nat,Ev (fun k=>qg.j2 k p rows (w:Int) out heads (c:Int) (i:Int) (q:Int) false) R:=fun q=>by
          refine Ev.step (f:=fun k=>(zf.f k p (rows.getD i [])).bind fun t=>qg.l2 k p rows (w:Int) out heads (c:Int) (i:Int) t [] 0) (fun k=>?_) hs
          rw[qg.j2,if_neg (by simp),if_neg (by omega),if_pos (by omega),if_pos (by omega),qbi]
        refine Ev.step (f:=fun k=>qg.l1 k p rows (w:Int) out heads (c:Int) (i:Int) ((i+1:Nat):Int)) (fun k=>?_) ?_
        · rw[qg.j2,if_pos rfl,if_pos (by omega),if_pos (by omega),if_pos (by omega),qbi,if_pos (by omega),if_neg hz,wsm (by omega) (by omega)]
          rfl
        · refine Ev.step (f:=fun k=>qg.j2 k p rows (w:Int) out heads (c:Int) (i:Int) ((i+1:Nat):Int) false) (fun k=>?_) (hfin (i+1))
          rw[qg.l1]
          split
          · rw[decide_eq_false (by omega)]
          · rfl
theorem qlh {p:Int} {w:Nat} (hp:7≤p∧p≤31) {rows out:List (List Int)} {heads:List Int} {c at_:Nat} {row:List Int} {R:List (List Int)×List Int} (hc:c < w) (hw:w≤1000) (hlen:rows.length < 1000000) (hr:okR p w rows) (hrow:row.length=w∧∀ x∈row,0≤x∧x < p) (hat:at_ < rows.length)
    (hend:Ev (fun k=>qg.l3 k p ((rows.eraseIdx at_).map fun r=>j4 p (rd r (c:Int)) row r) (w:Int) out heads (c:Int) row 0) R):
    ∀ (d i:Nat),i+d=rows.length→Ev (fun k=>qg.l2 k p rows (w:Int) out heads (c:Int) (at_:Int) row (((rows.take i).eraseIdx at_).map fun r=>j4 p (rd r (c:Int)) row r) (i:Int)) R
  | 0,i,he=>by
    refine Ev.step (f:=fun k=>qg.l3 k p ((rows.eraseIdx at_).map fun r=>j4 p (rd r (c:Int)) row r) (w:Int) out heads (c:Int) row 0) (fun k=>?_) hend
    rw[qg.l2,if_neg (by omega),List.take_of_length_le (by omega)]
  | d + 1, i, he => by
    have hi:i < rows.length:=by omega
    have ih:=qlh hp hc hw hlen hr hrow hat hend d (i+1) (by omega)
    by_cases e:i=at_
    · subst e
      refine Ev.step (f:=fun k=>qg.l2 k p rows (w:Int) out heads (c:Int) (i:Int) row (((rows.take (i+1)).eraseIdx i).map fun r=>j4 p (rd r (c:Int)) row r) ((i+1:Nat):Int)) (fun k=>?_) ih
      rw[qg.l2,if_pos (by omega),if_pos rfl,wsm (by omega) (by omega)]
      have e1:(rows.take i).eraseIdx i=rows.take i:=List.eraseIdx_of_length_le (by rw[List.length_take];omega)
      have e2:(rows.take (i+1)).eraseIdx i=rows.take i:=by
        rw[List.take_add_one,List.eraseIdx_append_of_length_le (by rw[List.length_take];omega)]
        simp[Nat.min_eq_left (Nat.le_of_lt hi),List.getElem?_eq_getElem hi]
      rw[e1,e2]
      rfl
    · have hrow_i:=hr _ (Q5 hi)
      have ht:=qeh hrow_i c hc
      refine Ev.step (f:=fun k=>(za.f k p (rows.getD i []) (rd (rows.getD i []) (c:Int)) row).bind fun t=>if (((rows.take i).eraseIdx at_).map fun r=>j4 p (rd r (c:Int)) row r).length < 5864062014805 then qg.l2 k p rows (w:Int) out heads (c:Int) (at_:Int) row ((((rows.take i).eraseIdx at_).map fun r=>j4 p (rd r (c:Int)) row r)++[t]) ((i+1:Nat):Int) else none) (fun k=>?_) ?_
      · rw[qg.l2,if_pos (by omega),if_neg (by omega),if_pos (by omega),if_pos (by omega),qbi,if_pos (by omega),wsm (by omega) (by omega)]
        rfl
      · refine Ev.bind (qg9 hp ht hrow hrow_i hw) (Ev.yes ?_ ?_)
        · rw[List.length_map]
          have h1:=List.length_eraseIdx_le (rows.take i) at_
          have h2:(rows.take i).length≤rows.length:=by rw[List.length_take];omega
          omega
        · have e2:((rows.take (i+1)).eraseIdx at_).map (fun r=>j4 p (rd r (c:Int)) row r)=((rows.take i).eraseIdx at_).map (fun r=>j4 p (rd r (c:Int)) row r)++[j4 p (rd (rows.getD i []) (c:Int)) row (rows.getD i [])]:=by
            have e3:rows.take (i+1)=rows.take i++[rows.getD i []]:=by
              rw[List.take_add_one,List.getElem?_eq_getElem hi,List.getD_eq_getElem?_getD,List.getElem?_eq_getElem hi];rfl
            by_cases hlt:at_ < i
            · rw[e3,List.eraseIdx_append_of_lt_length (by simp;omega),List.map_append];rfl
            · rw[List.eraseIdx_of_length_le (by simp;omega),List.eraseIdx_of_length_le (by simp;omega),e3,List.map_append];rfl
          rw[e2]at ih
          exact ih
theorem qm7 {α:Type} (N R:List α) (j:Nat) (v:α) (hl:N.length=R.length) (hj:j < R.length) (hv:N[j]? =some v):(N.take j++R.drop j).set j v=N.take (j+1)++R.drop (j+1):=by
  rw[List.set_append_right _ _ (by simp;omega),List.length_take,Nat.min_eq_left (by omega),Nat.sub_self,List.drop_eq_getElem_cons hj,List.set_cons_zero,List.take_add_one,hv]
  simp
theorem qme {p:Int} {w:Nat} (hp:7≤p∧p≤31) {rest out:List (List Int)} {heads:List Int} {c:Nat} {row:List Int} {R:List (List Int)×List Int} (hc:c < w) (hw:w≤1000) (hlen:out.length < 1000000) (hh:heads.length < 1000000) (hr:okR p w out) (hrow:row.length=w∧∀ x∈row,0≤x∧x < p)
    (hend:Ev (fun k=>qg.l0 k p rest (w:Int) ((out.map fun r=>j4 p (rd r (c:Int)) row r)++[row]) (heads++[(c:Int)]) ((c+1:Nat):Int)) R):
    ∀ (d i:Nat),i+d=out.length→Ev (fun k=>qg.l3 k p rest (w:Int) ((out.map fun r=>j4 p (rd r (c:Int)) row r).take i++out.drop i) heads (c:Int) row (i:Int)) R
  | 0,i,he=>by
    refine Ev.step (f:=fun k=>qg.l0 k p rest (w:Int) ((out.map fun r=>j4 p (rd r (c:Int)) row r)++[row]) (heads++[(c:Int)]) ((c+1:Nat):Int)) (fun k=>?_) hend
    rw[List.drop_eq_nil_of_le (by omega),List.append_nil,List.take_of_length_le (by simp;omega),qg.l3,if_neg (by simp;omega),if_pos (by simp;omega),if_pos (by omega),wsm (by omega) (by omega)]
    rfl
  | d + 1, i, he => by
    have hi:i < out.length:=by omega
    have ih:=qme hp hc hw hlen hh hr hrow hend d (i+1) (by omega)
    have hrow_i:=hr _ (Q5 hi)
    have ht:=qeh hrow_i c hc
    have hcur:((out.map fun r=>j4 p (rd r (c:Int)) row r).take i++out.drop i).getD i []=out.getD i []:=by
      simp[List.getD_eq_getElem?_getD,List.getElem?_append_right,Nat.min_eq_left (Nat.le_of_lt hi),hi]
    have hcl:((out.map fun r=>j4 p (rd r (c:Int)) row r).take i++out.drop i).length=out.length:=by simp;omega
    have hset:((out.map fun r=>j4 p (rd r (c:Int)) row r).take i++out.drop i).set i (j4 p (rd (out.getD i []) (c:Int)) row (out.getD i []))=(out.map fun r=>j4 p (rd r (c:Int)) row r).take (i+1)++out.drop (i+1):=
      qm7 _ _ _ _ (by simp) hi (by simp[List.getD_eq_getElem?_getD,List.getElem?_eq_getElem hi])
    refine Ev.step (f:=fun k=>(za.f k p (out.getD i []) (rd (out.getD i []) (c:Int)) row).bind fun t=>qg.l3 k p rest (w:Int) (((out.map fun r=>j4 p (rd r (c:Int)) row r).take i++out.drop i).set i t) heads (c:Int) row ((i+1:Nat):Int)) (fun k=>?_) ?_
    · rw[qg.l3,if_pos (by omega),if_pos (by omega),if_pos (by omega),qbi,hcur,if_pos (by omega),wsm (by omega) (by omega),Int.toNat_natCast]
      rfl
    · refine Ev.bind (qg9 hp ht hrow hrow_i hw) ?_
      rw[hset]
      exact ih
theorem qcm {p:Int} (hp:zi p=true) {w:Nat} (hw:w≤1000):∀ (d c:Nat) (L O:List (List Int)) (H:List Int),c+d=w→okR p w L→okR p w O→qdw c L→L.length+O.length < 1000000→H.length=O.length→
    Ev (fun k=>qg.l0 k p L (w:Int) O H (c:Int)) (redP p d c L O,qad p d c L H)
  | 0,c,L,O,H,hc,_,_,_,_,_=>by
    refine Ev.step (f:=fun _=>some (O,H)) (fun k=>?_) (Ev.now _)
    rw[qg.l0,if_neg (by omega)]
  | d + 1, c, L, O, H, hc, hL, hO, hz, hl, hH => by
    have hb:=zx hp
    refine Ev.step (f:=fun k=>qg.l1 k p L (w:Int) O H (c:Int) (-1) ((0:Nat):Int)) (fun k=>?_) ?_
    · rw[qg.l0,if_pos (by omega)];rfl
    · refine qg0 (by omega) hw (by omega) (fun r hr=>(hL r hr).1) (fun hf=>?_) (fun i hf=>?_) L.length 0 (by omega) rfl
      · have ih:=qcm hp hw d (c+1) L O H (by omega) hL hO (qeb hz hf) hl hH
        rw[redP,qad,hf]
        exact ih
      · obtain⟨hi,hne⟩:=qb4 hf
        have hx:=hL _ (Q5 hi)
        have hne':rd (L.getD i []) (c:Int)≠0:=by simpa using hne
        have hs:=qbo (p:=p) (b:=invP p (rd (L.getD i []) (c:Int))) (by omega) hx.1
        have hzn:=qd8 hp (by omega) hL hz hf
        have ih:=qcm hp hw d (c+1) ((L.eraseIdx i).map fun r=>j4 p (rd r (c:Int)) (Q8 p (invP p (rd (L.getD i []) (c:Int))) (L.getD i [])) r) ((O.map fun r=>j4 p (rd r (c:Int)) (Q8 p (invP p (rd (L.getD i []) (c:Int))) (L.getD i [])) r)++[Q8 p (invP p (rd (L.getD i []) (c:Int))) (L.getD i [])]) (H++[(c:Int)]) (by omega)
          (qae _ (by omega) hs.1 (qa0 i hL)) (qes (qae _ (by omega) hs.1 hO) (qey hs (qaj p w))) hzn (by simp[List.length_eraseIdx,hi];omega) (by simp[hH])
        rw[redP,qad,hf]
        simp only
        refine Ev.bind (a:=Q8 p (invP p (rd (L.getD i []) (c:Int))) (L.getD i [])) ?_ ?_
        · have h1:=qir hp (L.getD i []) hx.2 (by omega)
          rwa [qlb (by omega) (hz _ (Q5 hi)) hne']at h1
        · have h2:=qme hb (c:=c) (heads:=H) (out:=O) (rest:=(L.eraseIdx i).map fun r=>j4 p (rd r (c:Int)) (Q8 p (invP p (rd (L.getD i []) (c:Int))) (L.getD i [])) r) (by omega) hw (by omega) (by omega) hO hs ih O.length 0 (by omega)
          have h3:=qlh hb (c:=c) (by omega) hw (by omega) hL hs hi (by simpa using h2) L.length 0 (by omega)
          simpa using h3
theorem qbr {p:Int} (hp:zi p=true) {w:Nat} (hw:w≤1000) (L:List (List Int)) (hL:okR p w L) (hl:L.length < 1000000):Ev (fun k=>qg.f k p L (w:Int)) (redP p w 0 L [],qad p w 0 L []):=by
  unfold qg.f
  exact qcm hp hw w 0 L [] [] (by omega) hL (qaj p w) (fun _ _ j hj=>absurd hj (by omega)) (by simpa using hl) rfl
end Go.Proofs.Ytmgbpmihbljngaa.PA
namespace Go.Proofs.Ytmgbpmihbljngaa.PA
open Go.RowKit Go.Proofs.YtmgbpmihbljngaaW.PrintWords Go.Proofs.YtmgbpmihbljngaaW.PrintLast Go.Proofs.YtmgbpmihbljngaaW.PrintMore
set_option linter.unusedVariables false
set_option linter.unusedSimpArgs false
theorem qc3 (p:Int):∀ (d c:Nat) (L O:List (List Int)),(redP p d c L O).length≤L.length+O.length
  | 0,_,L,O=>by rw[redP];omega
  | d + 1, c, L, O => by
    rw[redP]
    split
    · exact qc3 p d (c+1) L O
    · next i hf=>
      have hi:=(qb4 hf).1
      refine Nat.le_trans (qc3 p d (c+1) _ _) ?_
      simp[List.length_eraseIdx,hi]
      omega
theorem qcx {p:Int} (hp:0 < p) {w:Nat}:∀ (d c:Nat) (L O:List (List Int)),okR p w L→okR p w O→okR p w (redP p d c L O)
  | 0,_,L,O,_,hO=>by rw[redP];exact hO
  | d + 1, c, L, O, hL, hO => by
    rw[redP]
    split
    · exact qcx hp d (c+1) L O hL hO
    · next i hf=>
      have hi:=(qb4 hf).1
      have hs:=qbo (p:=p) (b:=invP p (rd (L.getD i []) (c:Int))) hp (hL _ (Q5 hi)).1
      exact qcx hp d (c+1) _ _ (qae _ hp hs.1 (qa0 i hL)) (qes (qae _ hp hs.1 hO) (qey hs (qaj p w)))
def qby (p:Int) (w:Nat) (L:List (List Int)):List Int:=(redP p w 0 L []).flatten
def Zm (p:Int) (w:Nat) (L:List (List Int)):Nat:=(redP p w 0 L []).length
theorem qfr {w:Nat}:∀ (M:List (List Int)),(∀ r∈M,r.length=w)→M.flatten.length=M.length*w
  | [],_=>by simp
  | r :: M,h=>by
    rw[List.flatten_cons,List.length_append,h r (by simp),qfr M (fun x hx=>h x (by simp[hx])),List.length_cons,Nat.add_mul,Nat.one_mul,Nat.add_comm]
theorem qna {p:Int} (hp:0 < p) {w:Nat} {L:List (List Int)} (hL:okR p w L):(qby p w L).length=Zm p w L*w:=qfr _ (fun r hr=>(qcx hp w 0 L [] hL (qaj p w) r hr).1)
end Go.Proofs.Ytmgbpmihbljngaa.PA
namespace Go.Proofs.Ytmgbpmihbljngaa.PA
open Go.RowKit Go.Proofs.YtmgbpmihbljngaaW.PrintWords Go.Proofs.YtmgbpmihbljngaaW.PrintLast Go.Proofs.YtmgbpmihbljngaaW.PrintMore
set_option linter.unusedVariables false
set_option linter.unusedSimpArgs false
theorem qq1 {p:Int} (hp:zi p=true) {L:List (List Int)} (hL:okR p 4 L) (hl:L.length < 1000000):Ev (fun k=>Zh.f k p L) (if Zm p 4 L=2 then (qby p 4 L,true) else ([],false)):=by
  unfold Zh.f
  have hb:=zx hp
  refine Ev.bind (qbr hp (w:=4) (by omega) L hL hl) ?_
  have hro:=qcx (p:=p) (by omega) 4 0 L [] hL (qaj p 4)
  have hrk:Zm p 4 L=(redP p 4 0 L []).length:=rfl
  have hsp:qby p 4 L=(redP p 4 0 L []).flatten:=rfl
  rw[hrk,hsp]
  generalize redP p 4 0 L []=M at*
  by_cases h2:M.length=2
  · match M,h2 with
    | [x,y],h2=>
      have hx:=(hro x (by simp)).1
      have hy:=(hro y (by simp)).1
      have hend:Ev (fun _=>some (x++y,true)) (if [x,y].length=2 then ([x,y].flatten,true) else ([],false)):=by
        rw[if_pos h2]
        simp only[List.flatten_cons,List.flatten_nil,List.append_nil]
        exact Ev.now _
      exact Ev.yes h2 (Ev.yes ⟨by show x.length < _;omega,by show y.length < _;omega⟩ hend)
  · refine Ev.no h2 ?_
    rw[if_neg h2]
    exact Ev.now _
end Go.Proofs.Ytmgbpmihbljngaa.PA
namespace Go.Proofs.Ytmgbpmihbljngaa.PA
open Go.RowKit Go.Proofs.YtmgbpmihbljngaaW.PrintWords Go.Proofs.YtmgbpmihbljngaaW.PrintLast Go.Proofs.YtmgbpmihbljngaaW.PrintMore
set_option linter.unusedVariables false
set_option linter.unusedSimpArgs false
def nn (p:Int):Nat:=p.toNat - 1
theorem nn_p {p:Int} (hp:zi p=true):((nn p:Nat):Int)+1=p:=by have:=zx hp;unfold nn;omega
theorem Jg {p:Int} (hp:zi p=true) (x:Int):fi (nn p) x=0↔p ∣ x:=by rw[qbu,nn_p hp]
theorem qly {p:Int} (hp:zi p=true) (x y:Int):fi (nn p) x=fi (nn p) y↔p ∣ x - y:=by rw[fi_eq,nn_p hp]
theorem qe2 {p:Int} (hp:zi p=true) (x:Int):fi (nn p) (x % p)=fi (nn p) x:=by
  have:=fi_mod (nn p) x
  rwa [nn_p hp]at this
theorem fi_one (n:Nat):fi (n+1) 1=1:=by
  apply qfm
  rw[qa7,Int.emod_eq_of_lt (by omega) (by omega)]
  rfl
theorem qbl {p:Int} (hp:zi p=true):fi (nn p) 1=1:=by
  have:=zx hp
  obtain⟨m,hm⟩:∃ m,nn p=m+1:=⟨nn p - 1,by unfold nn;omega⟩
  rw[hm];exact fi_one m
theorem Jv {p:Int} (hp:zi p=true):FldH (nn p):=fun a ha=>by
  have hb:=zx hp
  have hlt:((a.val:Nat):Int) < p:=by have:=a.isLt;have:=nn_p hp;omega
  have hne:((a.val:Nat):Int)≠0:=fun e=>ha (Fin.ext (by show a.val=0;omega))
  obtain⟨_,_,_,h,_⟩:=Zt hp (x:=((a.val:Nat):Int)) (by omega) hlt
  refine⟨fi (nn p) (invP p ((a.val:Nat):Int)),?_⟩
  have e:a=fi (nn p) ((a.val:Nat):Int):=(J5 _ a).symm
  rw[e,← qau,J5,← qe2 hp,h hne,qbl hp]
theorem qjl {p:Int} (hp:zi p=true) {x:Int} (h0:0 < x) (h1:x < 7):fi (nn p) x≠0:=fun h=>by
  have hb:=zx hp
  have:=Int.le_of_dvd h0 ((Jg hp x).1 h)
  omega
theorem fp_1 {p:Int} (hp:zi p=true):(1:Fq (nn p))≠0:=by rw[← qbl hp];exact qjl hp (by omega) (by omega)
theorem qk2 {p:Int} (hp:zi p=true):fi (nn p) 2=2:=by rw[show (2:Int)=1+1 from rfl,qaw,qbl hp];grind
theorem qox {p:Int} (hp:zi p=true):fi (nn p) 3=3:=by rw[show (3:Int)=2+1 from rfl,qaw,qbl hp,qk2 hp];grind
theorem fp_2 {p:Int} (hp:zi p=true):(2:Fq (nn p))≠0:=by rw[← qk2 hp];exact qjl hp (by omega) (by omega)
end Go.Proofs.Ytmgbpmihbljngaa.PA
namespace Go.Proofs.Ytmgbpmihbljngaa.PA
open Go.RowKit Go.Proofs.YtmgbpmihbljngaaW.PrintWords Go.Proofs.YtmgbpmihbljngaaW.PrintLast Go.Proofs.YtmgbpmihbljngaaW.PrintMore
set_option linter.unusedVariables false
set_option linter.unusedSimpArgs false
def fn (r:List Int) (j:Nat):Int:=rd r (j:Int)
theorem Z2 {p x y c:Int} (a b:Int) (hx:p ∣ x) (hy:p ∣ y) (h:c=a*x+b*y):p ∣ c:=by
  rw[h];exact Int.dvd_add (Int.dvd_mul_of_dvd_right hx) (Int.dvd_mul_of_dvd_right hy)
theorem Z7 {p x c:Int} (a:Int) (hx:p ∣ x) (h:c=a*x):p ∣ c:=by
  rw[h];exact Int.dvd_mul_of_dvd_right hx
inductive Sp (p:Int) (w:Nat) (L:List (List Int)):(Nat→Int)→Prop where
  | zero (v:Nat→Int):(∀ j,j < w→p ∣ v j)→Sp p w L v
  | add (v u:Nat→Int) (r:List Int) (t:Int):r∈L→Sp p w L u→(∀ j,j < w→p ∣ v j - (u j+t*fn r j))→Sp p w L v
theorem Sp.congr {p:Int} {w:Nat} {L:List (List Int)} {u v:Nat→Int} (h:Sp p w L u) (he:∀ j,j < w→p ∣ v j - u j):Sp p w L v:=by
  cases h with
  | zero _ hz=>exact .zero v fun j hj=>Z2 1 1 (he j hj) (hz j hj) (by omega)
  | add _ u' r t hr hu h2=>exact .add v u' r t hr hu fun j hj=>Z2 1 1 (he j hj) (h2 j hj) (by omega)
theorem Sp.sum {p:Int} {w:Nat} {L:List (List Int)} {u v:Nat→Int} (hu:Sp p w L u) (hv:Sp p w L v):Sp p w L fun j=>u j+v j:=by
  induction hv with
  | zero v hz=>exact hu.congr fun j hj=>Z7 1 (hz j hj) (by omega)
  | add v u' r t hr _ h2 ih=>exact .add _ _ r t hr ih fun j hj=>Z7 1 (h2 j hj) (by omega)
theorem Sp.scale {p:Int} {w:Nat} {L:List (List Int)} {v:Nat→Int} (s:Int) (hv:Sp p w L v):Sp p w L fun j=>s*v j:=by
  induction hv with
  | zero v hz=>exact .zero _ fun j hj=>Z7 s (hz j hj) rfl
  | add v u r t hr _ h2 ih=>exact .add _ _ r (s*t) hr ih fun j hj=>Z7 s (h2 j hj) (by rw[Int.mul_sub,Int.mul_add,Int.mul_assoc])
theorem Sp.mem {p:Int} {w:Nat} {L:List (List Int)} {r:List Int} (hr:r∈L):Sp p w L (fn r):=
  .add _ (fun _=>0) r 1 hr (.zero _ fun _ _=>Int.dvd_zero p) fun j _=>by simp
theorem Sp.sub {p:Int} {w:Nat} {L M:List (List Int)} (h:∀ r∈L,Sp p w M (fn r)) {v:Nat→Int} (hv:Sp p w L v):Sp p w M v:=by
  induction hv with
  | zero v hz=>exact .zero v hz
  | add v u r t hr _ h2 ih=>exact(ih.sum ((h r hr).scale t)).congr h2
structure Rref (p:Int) (w:Nat) (P:List (Nat×List Int)):Prop where
  lt:∀ x∈P,x.1 < w
  ok:∀ x∈P,x.2.length=w∧∀ y∈x.2,0≤y∧y < p
  one:∀ x∈P,fn x.2 x.1=1
  low:∀ x∈P,∀ j,j < x.1→fn x.2 j=0
  off:∀ x∈P,∀ y∈P,x.1≠y.1→fn x.2 y.1=0
  inc:P.Pairwise fun x y=>x.1 < y.1
def cs (P:List (Nat×List Int)) (v:Nat→Int) (j:Nat):Int:=(P.map fun x=>v x.1*fn x.2 j).sum
theorem qhl {p:Int}:∀ (l:List Int),(∀ x∈l,p ∣ x)→p ∣ l.sum
  | [],_=>by simp
  | x :: l,h=>by
    rw[List.sum_cons]
    exact Int.dvd_add (h x (by simp)) (qhl l fun y hy=>h y (by simp[hy]))
theorem qeq {p:Int} {P:List (Nat×List Int)} {v:Nat→Int} {j:Nat} (h:∀ x∈P,p ∣ v x.1*fn x.2 j):p ∣ cs P v j:=by
  refine qhl _ fun y hy=>?_
  obtain⟨x,hx,rfl⟩:=List.mem_map.1 hy
  exact h x hx
theorem qj8 :∀ (P:List (Nat×List Int)) (u v:Nat→Int) (t:Int) (j:Nat),cs P (fun i=>u i+t*v i) j=cs P u j+t*cs P v j
  | [],_,_,_,_=>by simp[cs]
  | x :: P,u,v,t,j=>by
    have ih:=qj8 P u v t j
    simp only[cs,List.map_cons,List.sum_cons]at ih ⊢
    rw[ih]
    grind
theorem qqg {p:Int} {w:Nat} {P:List (Nat×List Int)} (hlt:∀ x∈P,x.1 < w) {u v:Nat→Int} (h:∀ j,j < w→p ∣ v j - u j) (j:Nat):p ∣ cs P v j - cs P u j:=by
  have e:cs P v j - cs P u j=cs P (fun i=>v i+(-1)*u i) j:=by rw[qj8];omega
  rw[e]
  exact qeq fun x hx=>Z7 (fn x.2 j) (h x.1 (hlt x hx)) (by rw[Int.mul_comm];congr 1;omega)
theorem qcw {α:Type} (f:α→Int) (x:α) (A B:List α) (ha:∀ y∈A,f y=0) (hb:∀ y∈B,f y=0):((A++x :: B).map f).sum=f x:=by
  have hz:∀ C:List α,(∀ y∈C,f y=0)→(C.map f).sum=0:=by
    intro C
    induction C with
    | nil=>intro _;rfl
    | cons y C ih=>intro h;rw[List.map_cons,List.sum_cons,h y (by simp),ih fun z hz=>h z (by simp[hz])];rfl
  rw[List.map_append,List.sum_append,List.map_cons,List.sum_cons,hz A ha,hz B hb];omega
theorem qgs {P:List (Nat×List Int)} (hi:P.Pairwise fun x y=>x.1 < y.1) {x:Nat×List Int} (hx:x∈P):∃ A B,P=A++x :: B∧(∀ y∈A,y.1≠x.1)∧∀ y∈B,y.1≠x.1:=by
  obtain⟨A,B,rfl⟩:=List.append_of_mem hx
  rw[List.pairwise_append,List.pairwise_cons]at hi
  exact⟨A,B,rfl,fun y hy=>Nat.ne_of_lt (hi.2.2 y hy x (by simp)),fun y hy=>Nat.ne_of_gt (hi.2.1.1 y hy)⟩
theorem Rref.cs_row {p:Int} {w:Nat} {P:List (Nat×List Int)} (h:Rref p w P) {x:Nat×List Int} (hx:x∈P) (j:Nat):cs P (fn x.2) j=fn x.2 j:=by
  obtain⟨A,B,e,ha,hb⟩:=qgs h.inc hx
  have h1:∀ y,y∈P→y.1≠x.1→fn x.2 y.1*fn y.2 j=0:=fun y hy hn=>by rw[h.off x hx y hy (Ne.symm hn),Int.zero_mul]
  rw[cs]
  conv=>lhs;rw[e]
  rw[qcw _ x A B (fun y hy=>h1 y (by rw[e];simp[hy]) (ha y hy)) (fun y hy=>h1 y (by rw[e];simp[hy]) (hb y hy)),h.one x hx,Int.one_mul]
theorem Rref.coord {p:Int} {w:Nat} {P:List (Nat×List Int)} (h:Rref p w P) {v:Nat→Int} (hv:Sp p w (P.map Prod.snd) v):∀ j,j < w→p ∣ v j - cs P v j:=by
  induction hv with
  | zero v hz=>exact fun j hj=>Z2 1 (-1) (hz j hj) (qeq (P:=P) (j:=j) fun x hx=>Z7 (fn x.2 j) (hz x.1 (h.lt x hx)) (Int.mul_comm _ _)) (by omega)
  | add v u r t hr _ h2 ih=>
    intro j hj
    obtain⟨x,hx,rfl⟩:=List.mem_map.1 hr
    have h3:=qqg h.lt h2 j
    rw[qj8,h.cs_row hx]at h3
    have h4:=h2 j hj
    have h5:=ih j hj
    exact Z2 1 1 (Z2 1 (-1) h4 h3 rfl) h5 (by omega)
theorem Rref.lead {p:Int} {w:Nat} {P:List (Nat×List Int)} (h:Rref p w P) {v:Nat→Int} (hv:Sp p w (P.map Prod.snd) v) {j:Nat} (hj:j < w) (hz:∀ i,i < j→p ∣ v i) (hn:¬ p ∣ v j):∃ x∈P,x.1=j:=by
  by_cases hex:∃ x∈P,x.1=j
  · exact hex
  · exfalso
    have h1:=h.coord hv j hj
    refine hn (Z2 1 1 h1 (qeq (P:=P) (v:=v) (j:=j) fun x hx=>?_) (by omega))
    have hne:x.1≠j:=fun e=>hex ⟨x,hx,e⟩
    by_cases hlt:x.1 < j
    · exact Z7 (fn x.2 j) (hz x.1 hlt) (Int.mul_comm _ _)
    · rw[h.low x hx j (by omega),Int.mul_zero];exact Int.dvd_zero p
theorem qgj {α:Type} {key:α→Nat}:∀ {P Q:List α},P.Pairwise (fun x y=>key x < key y)→Q.Pairwise (fun x y=>key x < key y)→(∀ x,x∈P↔x∈Q)→P=Q
  | [],[],_,_,_=>rfl
  | [],y :: Q,_,_,h=>absurd ((h y).2 (by simp)) (by simp)
  | x :: P,[],_,_,h=>absurd ((h x).1 (by simp)) (by simp)
  | x :: P,y :: Q,hp,hq,h=>by
    rw[List.pairwise_cons]at hp hq
    have e:x=y:=by
      rcases List.mem_cons.1 ((h x).1 (by simp)) with e | hx
      · exact e
      · rcases List.mem_cons.1 ((h y).2 (by simp)) with e | hy
        · exact e.symm
        · have:=hq.1 x hx;have:=hp.1 y hy;omega
    subst e
    rw[qgj hp.2 hq.2 fun z=>?_]
    constructor
    · intro hz
      rcases List.mem_cons.1 ((h z).1 (by simp[hz])) with e | hz'
      · subst e;have:=hp.1 z hz;omega
      · exact hz'
    · intro hz
      rcases List.mem_cons.1 ((h z).2 (by simp[hz])) with e | hz'
      · subst e;have:=hq.1 z hz;omega
      · exact hz'
theorem qam {p:Int} (hp:2≤p):¬ p ∣ 1:=fun h=>by
  have:=Int.le_of_dvd (by omega) h;omega
theorem qf8 {p a b:Int} (ha:0≤a∧a < p) (hb:0≤b∧b < p) (h:p ∣ a - b):a=b:=by
  obtain⟨k,hk⟩:=h
  have:k=0:=by
    by_cases h1:1≤k
    · have:=Int.mul_le_mul_of_nonneg_left h1 (show 0≤p by omega);omega
    · by_cases h2:k≤-1
      · have:=Int.mul_le_mul_of_nonneg_left h2 (show 0≤p by omega);omega
      · omega
  subst this;omega
theorem Zs {p:Int} {w:Nat} {r:List Int} (h:r.length=w∧∀ x∈r,0≤x∧x < p) (j:Nat) (hj:j < w):0≤fn r j∧fn r j < p:=by
  rw[fn,Zz r j (by omega)];exact h.2 _ (List.getElem_mem _)
theorem fn_ext {a b:List Int} {w:Nat} (ha:a.length=w) (hb:b.length=w) (h:∀ j,j < w→fn a j=fn b j):a=b:=by
  refine List.ext_getElem (by omega) fun j h1 h2=>?_
  have:=h j (by omega)
  rwa [fn,fn,Zz a j h1,Zz b j h2]at this
theorem Rref.heads {p:Int} {w:Nat} {P Q:List (Nat×List Int)} (hp:2≤p) (h:Rref p w P) (k:Rref p w Q) (hs:∀ x∈P,Sp p w (Q.map Prod.snd) (fn x.2)) {x:Nat×List Int} (hx:x∈P):∃ y∈Q,y.1=x.1:=
  k.lead (hs x hx) (h.lt x hx) (fun i hi=>by rw[h.low x hx i hi];exact Int.dvd_zero p) (by rw[h.one x hx];exact qam hp)
theorem Rref.unique {p:Int} {w:Nat} {P Q:List (Nat×List Int)} (hp:2≤p) (h:Rref p w P) (k:Rref p w Q) (hs:∀ x∈P,Sp p w (Q.map Prod.snd) (fn x.2)) (ks:∀ x∈Q,Sp p w (P.map Prod.snd) (fn x.2)):P=Q:=by
  have key:∀ {P Q:List (Nat×List Int)},Rref p w P→Rref p w Q→(∀ x∈P,Sp p w (Q.map Prod.snd) (fn x.2))→(∀ x∈Q,Sp p w (P.map Prod.snd) (fn x.2))→∀ x,x∈P→x∈Q:=by
    intro P Q h k hs ks x hx
    obtain⟨y,hy,e⟩:=h.heads hp k hs hx
    have e2:x.2=y.2:=by
      refine fn_ext (h.ok x hx).1 (k.ok y hy).1 fun j hj=>qf8 (Zs (h.ok x hx) j hj) (Zs (k.ok y hy) j hj) ?_
      have h1:=k.coord (hs x hx) j hj
      have h2:cs Q (fn x.2) j=fn y.2 j:=by
        obtain⟨A,B,e3,ha,hb⟩:=qgs k.inc hy
        have h3:∀ z,z∈Q→z.1≠y.1→fn x.2 z.1*fn z.2 j=0:=fun z hz hn=>by
          obtain⟨x',hx',e4⟩:=k.heads hp h ks hz
          rw[← e4,h.off x hx x' hx' (by rw[e4,← e];exact Ne.symm hn),Int.zero_mul]
        rw[cs]
        conv=>lhs;rw[e3]
        rw[qcw _ y A B (fun z hz=>h3 z (by rw[e3];simp[hz]) (ha z hz)) (fun z hz=>h3 z (by rw[e3];simp[hz]) (hb z hz)),e,h.one x hx,Int.one_mul]
      rwa [h2]at h1
    have:x=y:=Prod.ext e.symm e2
    rwa [this]
  exact qgj (key:=Prod.fst) h.inc k.inc fun x=>⟨key h k hs ks x,key k h ks hs x⟩
theorem Zr :∀ {P Q:List (Nat×List Int)},P.Pairwise (fun x y=>x.1 < y.1)→Q.Pairwise (fun x y=>x.1 < y.1)→(∀ x∈P,∃ y∈Q,y.1=x.1)→P.length≤Q.length
  | [],_,_,_,_=>by simp
  | x :: P,Q,hp,hq,h=>by
    obtain⟨y,hy,e⟩:=h x (by simp)
    obtain⟨A,B,rfl⟩:=List.append_of_mem hy
    rw[List.pairwise_cons]at hp
    have hq':=hq
    rw[List.pairwise_append,List.pairwise_cons]at hq
    have hq2:(A++B).Pairwise fun x y=>x.1 < y.1:=by
      rw[List.pairwise_append]
      exact⟨hq.1,hq.2.1.2,fun a ha b hb=>hq.2.2 a ha b (by simp[hb])⟩
    have:=Zr hp.2 hq2 fun z hz=>by
      obtain⟨u,hu,e2⟩:=h z (by simp[hz])
      have hne:u.1≠y.1:=by have:=hp.1 z hz;omega
      refine⟨u,?_,e2⟩
      simp only[List.mem_append,List.mem_cons]at hu ⊢
      rcases hu with hu | rfl | hu
      · exact .inl hu
      · exact absurd rfl hne
      · exact .inr hu
    simp at this ⊢
    omega
theorem Rref.len_le {p:Int} {w:Nat} {P Q:List (Nat×List Int)} (hp:2≤p) (h:Rref p w P) (k:Rref p w Q) (hs:∀ x∈P,Sp p w (Q.map Prod.snd) (fn x.2)):P.length≤Q.length:=
  Zr h.inc k.inc fun _ hx=>h.heads hp k hs hx
end Go.Proofs.Ytmgbpmihbljngaa.PA
namespace Go.Proofs.Ytmgbpmihbljngaa.PA
open Go.RowKit Go.Proofs.YtmgbpmihbljngaaW.PrintWords Go.Proofs.YtmgbpmihbljngaaW.PrintLast Go.Proofs.YtmgbpmihbljngaaW.PrintMore
set_option linter.unusedVariables false
set_option linter.unusedSimpArgs false
theorem Zy (a p:Int):p ∣ a - a % p:=⟨a / p,by have:=Int.mul_ediv_add_emod a p;omega⟩
theorem qpv {p t:Int} {h r:List Int} {w:Nat} (hh:h.length=w) (hr:r.length=w) {j:Nat} (hj:j < w):fn (j4 p t h r) j=(fn r j - t*fn h j) % p:=qib j (by omega) (by omega)
theorem qe7 {p b:Int} {r:List Int} {w:Nat} (hr:r.length=w) {j:Nat} (hj:j < w):fn (Q8 p b r) j=fn r j*b % p:=qjq j (by omega)
theorem qnu {α:Type} [Inhabited α] (L:List α) (i:Nat) (d:α) (hi:i < L.length):L=L.take i++L.getD i d :: L.drop (i+1)∧L.eraseIdx i=L.take i++L.drop (i+1):=by
  refine⟨?_,List.eraseIdx_eq_take_drop_succ L i⟩
  rw[List.getD_eq_getElem?_getD,List.getElem?_eq_getElem hi,Option.getD_some,List.getElem_cons_drop,List.take_append_drop]
theorem qm4 {L:List (List Int)} {i:Nat} (hi:i < L.length) {r:List Int}:r∈L↔r=L.getD i []∨r∈L.eraseIdx i:=by
  obtain⟨h1,h2⟩:=qnu L i [] hi
  rw[h2]
  conv=>lhs;rw[h1]
  simp only[List.mem_append,List.mem_cons]
  constructor
  · rintro (h | h | h)
    · exact .inr (.inl h)
    · exact .inl h
    · exact .inr (.inr h)
  · rintro (h | h | h)
    · exact .inr (.inl h)
    · exact .inl h
    · exact .inr (.inr h)
theorem qf4 {p:Int} (hp:zi p=true) {w:Nat}:∀ (d c:Nat) (L:List (List Int)) (P:List (Nat×List Int)),c+d=w→okR p w L→Rref p w P→(∀ x∈P,x.1 < c)→qdw c L→
    ∃ Q:List (Nat×List Int),redP p d c L (P.map Prod.snd)=Q.map Prod.snd∧qad p d c L (P.map fun x=>(x.1:Int))=Q.map (fun x=>(x.1:Int))∧Rref p w Q∧(∀ r∈L++P.map Prod.snd,Sp p w (Q.map Prod.snd) (fn r))∧∀ x∈Q,Sp p w (L++P.map Prod.snd) (fn x.2)
  | 0,c,L,P,hw,hL,hP,hlt,hz=>by
    refine⟨P,rfl,rfl,hP,fun r hr=>?_,fun x hx=>Sp.mem (by simp;exact .inr ⟨_,hx⟩)⟩
    rcases List.mem_append.1 hr with hr | hr
    · exact .zero _ fun j hj=>by rw[fn,hz r hr j (by omega)];exact Int.dvd_zero p
    · exact Sp.mem hr
  | d + 1, c, L, P, hw, hL, hP, hlt, hz => by
    have hb:=zx hp
    rw[redP,qad]
    cases hf:L.findIdx? (fun row=>rd row (c:Int) !=0) with
    | none=>exact qf4 hp d (c+1) L P (by omega) hL hP (fun x hx=>by have:=hlt x hx;omega) (qeb hz hf)
    | some i=>
      simp only
      obtain⟨hi,hne⟩:=qb4 hf
      have hx:=hL _ (Q5 hi)
      have hxr:=qeh hx c (by omega)
      have hne':rd (L.getD i []) (c:Int)≠0:=by simpa using hne
      have hinv:=(Zt hp hxr.1 hxr.2).2.2.2.1 hne'
      have hs:=qbo (p:=p) (b:=invP p (rd (L.getD i []) (c:Int))) (by omega) hx.1
      have hzn:=qd8 hp (by omega) hL hz hf
      obtain⟨x,hxe⟩:∃ x,L.getD i []=x:=⟨_,rfl⟩
      rw[hxe]at hx hxr hne' hinv hs hzn ⊢
      have hxm:x∈L:=hxe ▸ Q5 hi
      obtain⟨b,hbe⟩:∃ b,invP p (rd x (c:Int))=b:=⟨_,rfl⟩
      rw[hbe]at hinv hs hzn ⊢
      obtain⟨h,hhe⟩:∃ h,Q8 p b x=h:=⟨_,rfl⟩
      have hfh:∀ j,j < w→fn h j=fn x j*b % p:=fun j hj=>by rw[← hhe];exact qe7 hx.1 hj
      rw[hhe]at hs hzn ⊢
      have hhc:fn h c=1:=by rw[hfh c (by omega)];exact hinv
      have hhl:∀ j,j < c→fn h j=0:=fun j hj=>by rw[hfh j (by omega),fn,hz x hxm j hj];simp
      have hfl:∀ r:List Int,r.length=w→∀ j,j < w→fn (j4 p (rd r (c:Int)) h r) j=(fn r j - fn r c*fn h j) % p:=fun r hr j hj=>qpv hs.1 hr hj
      have hP':Rref p w (P.map (fun y=>(y.1,j4 p (rd y.2 (c:Int)) h y.2))++[(c,h)]):=by
        have hm:∀ z,z∈P.map (fun y=>(y.1,j4 p (rd y.2 (c:Int)) h y.2))++[(c,h)]→(∃ y∈P,z=(y.1,j4 p (rd y.2 (c:Int)) h y.2))∨z=(c,h):=by
          intro z hz
          rcases List.mem_append.1 hz with hz | hz
          · obtain⟨y,hy,rfl⟩:=List.mem_map.1 hz;exact .inl ⟨y,hy,rfl⟩
          · exact .inr (by simpa using hz)
        refine⟨fun z hz=>?_,fun z hz=>?_,fun z hz=>?_,fun z hz j hj=>?_,fun z hz z' hz' hnn=>?_,?_⟩
        · rcases hm z hz with ⟨y,hy,rfl⟩ | rfl
          · exact hP.lt y hy
          · show c < w;omega
        · rcases hm z hz with ⟨y,hy,rfl⟩ | rfl
          · exact qer (by omega) hs.1 (hP.ok y hy).1
          · exact hs
        · rcases hm z hz with ⟨y,hy,rfl⟩ | rfl
          · have h1:=hlt y hy
            show fn (j4 p (rd y.2 (c:Int)) h y.2) y.1=1
            rw[hfl _ (hP.ok y hy).1 y.1 (by omega),hP.one y hy,hhl y.1 h1,Int.mul_zero,Int.sub_zero,Int.emod_eq_of_lt (by omega) (by omega)]
          · exact hhc
        · rcases hm z hz with ⟨y,hy,rfl⟩ | rfl
          · have h1:=hlt y hy
            have hj':j < y.1:=hj
            show fn (j4 p (rd y.2 (c:Int)) h y.2) j=0
            rw[hfl _ (hP.ok y hy).1 j (by omega),hP.low y hy j hj',hhl j (by omega)];simp
          · exact hhl j hj
        · rcases hm z hz with ⟨y,hy,rfl⟩ | rfl
          · rcases hm z' hz' with ⟨y',hy',rfl⟩ | rfl
            · have h1:=hlt y' hy'
              show fn (j4 p (rd y.2 (c:Int)) h y.2) y'.1=0
              rw[hfl _ (hP.ok y hy).1 y'.1 (by omega),hP.off y hy y' hy' hnn,hhl y'.1 h1];simp
            · show fn (j4 p (rd y.2 (c:Int)) h y.2) c=0
              rw[hfl _ (hP.ok y hy).1 c (by omega),hhc];simp
          · rcases hm z' hz' with ⟨y',hy',rfl⟩ | rfl
            · exact hhl y'.1 (hlt y' hy')
            · exact absurd rfl hnn
        · rw[List.pairwise_append]
          refine⟨?_,by simp,fun a ha b hb=>?_⟩
          · rw[List.pairwise_map];exact hP.inc
          · obtain⟨y,hy,rfl⟩:=List.mem_map.1 ha
            have hbe:b=(c,h):=by simpa using hb
            subst hbe
            exact hlt y hy
      have e1:(P.map Prod.snd).map (fun r=>j4 p (rd r (c:Int)) h r)++[h]=(P.map (fun y=>(y.1,j4 p (rd y.2 (c:Int)) h y.2))++[(c,h)]).map Prod.snd:=by
        simp[List.map_map,Function.comp_def]
      have e2:(P.map fun x=>(x.1:Int))++[(c:Int)]=(P.map (fun y=>(y.1,j4 p (rd y.2 (c:Int)) h y.2))++[(c,h)]).map fun x=>(x.1:Int):=by
        simp[List.map_map,Function.comp_def]
      have ih:=qf4 hp d (c+1) ((L.eraseIdx i).map fun r=>j4 p (rd r (c:Int)) h r) (P.map (fun y=>(y.1,j4 p (rd y.2 (c:Int)) h y.2))++[(c,h)]) (by omega) (qae _ (by omega) hs.1 (qa0 i hL)) hP' (fun z hz=>by
          rcases List.mem_append.1 hz with hz | hz
          · obtain⟨y,hy,rfl⟩:=List.mem_map.1 hz;have:=hlt y hy;show y.1 < c+1;omega
          · have:z=(c,h):=by simpa using hz
            subst this;show c < c+1;omega) hzn
      rw[e1,e2]
      obtain⟨Q,hq1,hq2,hQ,hq3,hq4⟩:=ih
      have hold:∀ r,r∈L++P.map Prod.snd→r.length=w:=fun r hr=>by
        rcases List.mem_append.1 hr with hr | hr
        · exact(hL r hr).1
        · obtain⟨y,hy,rfl⟩:=List.mem_map.1 hr;exact(hP.ok y hy).1
      have hxs:∀ j,j < w→p ∣ fn x j - fn x c*fn h j:=fun j hj=>by
        have h1:=Zy (fn x j*b) p
        rw[← hfh j hj]at h1
        have h2:p ∣ fn x c*b - 1:=by
          have:=Zy (fn x c*b) p
          rw[show fn x c*b % p=1 from hinv]at this;exact this
        exact Z2 (fn x c) (-(fn x j)) h1 h2 (by grind)
      have hnewm:∀ r,r∈L.eraseIdx i++P.map Prod.snd→j4 p (rd r (c:Int)) h r∈((L.eraseIdx i).map fun r=>j4 p (rd r (c:Int)) h r)++(P.map (fun y=>(y.1,j4 p (rd y.2 (c:Int)) h y.2))++[(c,h)]).map Prod.snd:=fun r hr=>by
        rcases List.mem_append.1 hr with hr | hr
        · exact List.mem_append_left _ (List.mem_map_of_mem hr)
        · obtain⟨y,hy,rfl⟩:=List.mem_map.1 hr
          refine List.mem_append_right _ (List.mem_map.2 ⟨(y.1,j4 p (rd y.2 (c:Int)) h y.2),List.mem_append_left _ (List.mem_map.2 ⟨y,hy,rfl⟩),rfl⟩)
      have hhm:h∈((L.eraseIdx i).map fun r=>j4 p (rd r (c:Int)) h r)++(P.map (fun y=>(y.1,j4 p (rd y.2 (c:Int)) h y.2))++[(c,h)]).map Prod.snd:=
        List.mem_append_right _ (List.mem_map.2 ⟨(c,h),by simp,rfl⟩)
      have hto:∀ r,r∈L++P.map Prod.snd→Sp p w (((L.eraseIdx i).map fun r=>j4 p (rd r (c:Int)) h r)++(P.map (fun y=>(y.1,j4 p (rd y.2 (c:Int)) h y.2))++[(c,h)]).map Prod.snd) (fn r):=fun r hr=>by
        have hcase:r=x∨r∈L.eraseIdx i++P.map Prod.snd:=by
          rcases List.mem_append.1 hr with hr | hr
          · rcases (qm4 hi).1 hr with h1 | h1
            · exact .inl (h1.trans hxe)
            · exact .inr (List.mem_append_left _ h1)
          · exact .inr (List.mem_append_right _ hr)
        rcases hcase with rfl | hr2
        · exact((Sp.mem hhm).scale (fn r c)).congr hxs
        · refine((Sp.mem (hnewm r hr2)).sum ((Sp.mem hhm).scale (fn r c))).congr fun j hj=>?_
          rw[hfl r (hold r hr) j hj]
          exact Z7 1 (Zy (fn r j - fn r c*fn h j) p) (by omega)
      have hfrom_h:Sp p w (L++P.map Prod.snd) (fn h):=((Sp.mem (List.mem_append_left _ hxm)).scale b).congr fun j hj=>by
        rw[hfh j hj]
        exact Z7 (-1) (Zy (fn x j*b) p) (by rw[Int.mul_comm b];omega)
      have hfrom:∀ r,r∈((L.eraseIdx i).map fun r=>j4 p (rd r (c:Int)) h r)++(P.map (fun y=>(y.1,j4 p (rd y.2 (c:Int)) h y.2))++[(c,h)]).map Prod.snd→Sp p w (L++P.map Prod.snd) (fn r):=fun r hr=>by
        have hcase:r=h∨∃ q,q∈L++P.map Prod.snd∧r=j4 p (rd q (c:Int)) h q:=by
          rcases List.mem_append.1 hr with hr | hr
          · obtain⟨q,hq,rfl⟩:=List.mem_map.1 hr
            exact .inr ⟨q,List.mem_append_left _ (List.mem_of_mem_eraseIdx hq),rfl⟩
          · obtain⟨z,hz,rfl⟩:=List.mem_map.1 hr
            rcases List.mem_append.1 hz with hz | hz
            · obtain⟨y,hy,rfl⟩:=List.mem_map.1 hz
              exact .inr ⟨y.2,List.mem_append_right _ (List.mem_map_of_mem hy),rfl⟩
            · have:z=(c,h):=by simpa using hz
              subst this;exact .inl rfl
        rcases hcase with rfl | ⟨q,hq,rfl⟩
        · exact hfrom_h
        · refine((Sp.mem hq).sum (hfrom_h.scale (-(fn q c)))).congr fun j hj=>?_
          rw[hfl q (hold q hq) j hj]
          exact Z7 (-1) (Zy (fn q j - fn q c*fn h j) p) (by grind)
      exact⟨Q,hq1,hq2,hQ,fun r hr=>Sp.sub hq3 (hto r hr),fun z hz=>Sp.sub hfrom (hq4 z hz)⟩
theorem Jd {p:Int} (hp:zi p=true) {w:Nat} {L:List (List Int)} (hL:okR p w L):
    ∃ Q:List (Nat×List Int),redP p w 0 L []=Q.map Prod.snd∧qad p w 0 L []=Q.map (fun x=>(x.1:Int))∧Rref p w Q∧(∀ r∈L,Sp p w (Q.map Prod.snd) (fn r))∧∀ x∈Q,Sp p w L (fn x.2):=by
  have h:=qf4 hp w 0 L [] (by omega) hL ⟨by simp,by simp,by simp,by simp,by simp,by simp⟩ (by simp) (fun r _ j hj=>absurd hj (by omega))
  simpa using h
end Go.Proofs.Ytmgbpmihbljngaa.PA
namespace Go.Proofs.Ytmgbpmihbljngaa.PA
open Go.RowKit Go.Proofs.YtmgbpmihbljngaaW.PrintWords Go.Proofs.YtmgbpmihbljngaaW.PrintLast Go.Proofs.YtmgbpmihbljngaaW.PrintMore
set_option linter.unusedVariables false
set_option linter.unusedSimpArgs false
theorem qha {p:Int} (hp:zi p=true) {w:Nat} {L M:List (List Int)} (hL:okR p w L) (hM:okR p w M) (h:∀ r∈L,Sp p w M (fn r)):Zm p w L≤Zm p w M:=by
  have hb:=zx hp
  obtain⟨P,e1,_,hP,_,h2⟩:=Jd hp hL
  obtain⟨Q,e3,_,hQ,h4,_⟩:=Jd hp hM
  rw[Zm,Zm,e1,e3,List.length_map,List.length_map]
  exact hP.len_le (by omega) hQ fun x hx=>Sp.sub h4 (Sp.sub h (h2 x hx))
theorem qnx {p:Int} (hp:zi p=true) {w:Nat} {L M:List (List Int)} (hL:okR p w L) (hM:okR p w M) (h:∀ r∈L,Sp p w M (fn r)) (k:∀ r∈M,Sp p w L (fn r)):redP p w 0 L []=redP p w 0 M []:=by
  have hb:=zx hp
  obtain⟨P,e1,_,hP,h1,h2⟩:=Jd hp hL
  obtain⟨Q,e3,_,hQ,h4,h5⟩:=Jd hp hM
  rw[e1,e3,hP.unique (by omega) hQ (fun x hx=>Sp.sub h4 (Sp.sub h (h2 x hx))) (fun x hx=>Sp.sub h1 (Sp.sub k (h5 x hx)))]
theorem qc4 {p:Int} {w:Nat} (L:List (List Int)):Zm p w L≤L.length:=by
  have:=qc3 p w 0 L []
  simpa [Zm] using this
end Go.Proofs.Ytmgbpmihbljngaa.PA
namespace Go.Proofs.Ytmgbpmihbljngaa.PA
open Go.RowKit Go.Proofs.YtmgbpmihbljngaaW.PrintWords Go.Proofs.YtmgbpmihbljngaaW.PrintLast Go.Proofs.YtmgbpmihbljngaaW.PrintMore
set_option linter.unusedVariables false
set_option linter.unusedSimpArgs false
def Jj (p:Int) (w:Nat) (L:List (List Int)):List (Nat×List Int):=((qad p w 0 L []).map Int.toNat).zip (redP p w 0 L [])
theorem qj3 {α β:Type} (f:Nat×List Int→α) (g:Nat×List Int→β):∀ Q:List (Nat×List Int),(Q.map f).zip (Q.map g)=Q.map fun x=>(f x,g x)
  | []=>rfl
  | x :: Q=>by rw[List.map_cons,List.map_cons,List.zip_cons_cons,qj3 f g Q,List.map_cons]
theorem J2 {p:Int} (hp:zi p=true) {w:Nat} {L:List (List Int)} (hL:okR p w L):
    redP p w 0 L []=(Jj p w L).map Prod.snd∧qad p w 0 L []=(Jj p w L).map (fun x=>(x.1:Int))∧Rref p w (Jj p w L)∧(∀ r∈L,Sp p w ((Jj p w L).map Prod.snd) (fn r))∧∀ x∈Jj p w L,Sp p w L (fn x.2):=by
  obtain⟨Q,e1,e2,hQ,h1,h2⟩:=Jd hp hL
  have e:Jj p w L=Q:=by
    rw[Jj,e1,e2,List.map_map,qj3]
    simp
  rw[e]
  exact⟨e1,e2,hQ,h1,h2⟩
def Zp (p:Int) (c:Nat):List (Nat×List Int)→List Int→List Int
  | [],v=>v
  | z :: P,v=>Zp p c P (v.set z.1 ((-(fn z.2 c)) % p))
def Q1 (p:Int) (w:Nat) (P:List (Nat×List Int)) (c:Nat):List Int:=Zp p c P ((List.replicate w 0).set c 1)
def Qd (P:List (Nat×List Int)) (c:Nat):Bool:=!(P.any fun z=>z.1 == c)
def Zn (p:Int) (w:Nat) (P:List (Nat×List Int)):List (List Int):=((List.range w).filter (Qd P)).map (Q1 p w P)
def Zk (p:Int) (w:Nat) (L:List (List Int)):List (List Int):=redP p w 0 (Zn p w (Jj p w L)) []
theorem qc1 (p:Int) (c:Nat):∀ (P:List (Nat×List Int)) (v:List Int),(Zp p c P v).length=v.length
  | [],_=>rfl
  | z :: P,v=>by rw[Zp,qc1 p c P,List.length_set]
theorem qhh (v:List Int) (i j:Nat) (x:Int) (hi:i < v.length):fn (v.set i x) j=if j=i then x else fn v j:=by
  by_cases e:j=i
  · subst e;simp[fn,rd,List.getD_eq_getElem?_getD,hi]
  · rw[if_neg e];simp[fn,rd,List.getD_eq_getElem?_getD,List.getElem?_set_ne (Ne.symm e)]
theorem qa6 (p:Int) (c:Nat):∀ (P:List (Nat×List Int)) (v:List Int) (j:Nat),(∀ z∈P,z.1 < v.length)→(∀ z∈P,z.1≠j)→fn (Zp p c P v) j=fn v j
  | [],_,_,_,_=>rfl
  | z :: P,v,j,hl,h=>by
    rw[Zp,qa6 p c P _ j (fun y hy=>by rw[List.length_set];exact hl y (by simp[hy])) (fun y hy=>h y (by simp[hy])),qhh v z.1 j _ (hl z (by simp)),if_neg (Ne.symm (h z (by simp)))]
theorem qd3 (p:Int) (c:Nat):∀ (P:List (Nat×List Int)) (v:List Int) (x:Nat×List Int),(∀ z∈P,z.1 < v.length)→P.Pairwise (fun x y=>x.1 < y.1)→x∈P→fn (Zp p c P v) x.1=(-(fn x.2 c)) % p
  | [],_,_,_,_,h=>absurd h (by simp)
  | z :: P,v,x,hl,hi,h=>by
    rw[List.pairwise_cons]at hi
    have hl2:∀ y∈P,y.1 < (v.set z.1 ((-(fn z.2 c)) % p)).length:=fun y hy=>by rw[List.length_set];exact hl y (by simp[hy])
    rw[Zp]
    rcases List.mem_cons.1 h with rfl | hx
    · rw[qa6 p c P _ x.1 hl2 (fun y hy=>Nat.ne_of_gt (hi.1 y hy)),qhh v x.1 x.1 _ (hl x (by simp)),if_pos rfl]
    · exact qd3 p c P _ x hl2 hi.2 hx
theorem qck {p:Int} {w:Nat} {P:List (Nat×List Int)} (h:Rref p w P) (c:Nat) {x:Nat×List Int} (hx:x∈P):fn (Q1 p w P c) x.1=(-(fn x.2 c)) % p:=
  qd3 p c P _ x (fun z hz=>by simpa using h.lt z hz) h.inc hx
theorem Jk {p:Int} {w:Nat} {P:List (Nat×List Int)} (h:Rref p w P) {c j:Nat} (hc:c < w) (hj:∀ z∈P,z.1≠j):fn (Q1 p w P c) j=if j=c then 1 else 0:=by
  rw[Q1,qa6 p c P _ j (fun z hz=>by simpa using h.lt z hz) hj,qhh _ c j _ (by simpa using hc)]
  by_cases e:j=c
  · rw[if_pos e,if_pos e]
  · rw[if_neg e,if_neg e]
    by_cases hw:j < w<;>simp[fn,rd,List.getD_eq_getElem?_getD,hw]
theorem qjc (p:Int) (w:Nat) (P:List (Nat×List Int)) (c:Nat):(Q1 p w P c).length=w:=by simp[Q1,qc1]
theorem qah {p:Int} (hp:2≤p) {w:Nat} {P:List (Nat×List Int)} (h:Rref p w P):okR p w (Zn p w P):=fun r hr=>by
  obtain⟨c,hc,rfl⟩:=List.mem_map.1 hr
  have hcw:c < w:=by have:=(List.mem_filter.1 hc).1;simpa using this
  refine⟨qjc p w P c,fun y hy=>?_⟩
  obtain⟨j,hj,rfl⟩:=List.mem_iff_getElem.1 hy
  have e:(Q1 p w P c)[j]=fn (Q1 p w P c) j:=by rw[fn,Zz _ j hj]
  rw[e]
  by_cases hex:∃ x∈P,x.1=j
  · obtain⟨x,hx,rfl⟩:=hex
    rw[qck h c hx]
    exact⟨Int.emod_nonneg _ (by omega),Int.emod_lt_of_pos _ (by omega)⟩
  · rw[Jk h hcw (fun z hz e=>hex ⟨z,hz,e⟩)]
    split<;>omega
end Go.Proofs.Ytmgbpmihbljngaa.PA
namespace Go.Proofs.Ytmgbpmihbljngaa.PA
open Go.RowKit Go.Proofs.YtmgbpmihbljngaaW.PrintWords Go.Proofs.YtmgbpmihbljngaaW.PrintLast Go.Proofs.YtmgbpmihbljngaaW.PrintMore
set_option linter.unusedVariables false
set_option linter.unusedSimpArgs false
def dt (w:Nat) (u v:Nat→Int):Int:=((List.range w).map fun j=>u j*v j).sum
theorem qh4 {α:Type} (f g:α→Int) (t:Int):∀ l:List α,(l.map fun x=>f x+t*g x).sum=(l.map f).sum+t*(l.map g).sum
  | []=>by simp
  | x :: l=>by
    rw[List.map_cons,List.map_cons,List.map_cons,List.sum_cons,List.sum_cons,List.sum_cons,qh4 f g t l,Int.mul_add];omega
theorem qfk {p:Int} {α:Type} (f g:α→Int):∀ l:List α,(∀ x∈l,p ∣ f x - g x)→p ∣ (l.map f).sum - (l.map g).sum
  | [],_=>by simp
  | x :: l,h=>by
    rw[List.map_cons,List.map_cons,List.sum_cons,List.sum_cons]
    exact Z2 1 1 (h x (by simp)) (qfk f g l fun y hy=>h y (by simp[hy])) (by omega)
theorem qh8 {p:Int} {w:Nat} {u u' v v':Nat→Int} (hu:∀ j,j < w→p ∣ u j - u' j) (hv:∀ j,j < w→p ∣ v j - v' j):p ∣ dt w u v - dt w u' v':=
  qfk _ _ _ fun j hj=>by
    have hj':j < w:=by simpa using hj
    exact Z2 (v j) (u' j) (hu j hj') (hv j hj') (by grind)
theorem qlp {p:Int} {w:Nat} {L:List (List Int)} {v:Nat→Int} (h:∀ r∈L,p ∣ dt w (fn r) v) {u:Nat→Int} (hu:Sp p w L u):p ∣ dt w u v:=by
  induction hu with
  | zero u hz=>
    refine qhl _ fun y hy=>?_
    obtain⟨j,hj,rfl⟩:=List.mem_map.1 hy
    exact Int.dvd_mul_of_dvd_left (hz j (by simpa using hj))
  | add u u' r t hr _ h2 ih=>
    have h3:=qh8 (v:=v) (v':=v) h2 (fun j _=>by simp)
    have e:dt w (fun j=>u' j+t*fn r j) v=dt w u' v+t*dt w (fn r) v:=by
      rw[dt,dt,dt,← qh4]
      congr 1
      exact List.map_congr_left fun j _=>by grind
    rw[e]at h3
    exact Z2 1 1 h3 (Z2 1 t ih (h r hr) rfl) (by omega)
theorem qim {α:Type} (f:α→Int) (q:α→Bool):∀ l:List α,(l.map f).sum=((l.filter q).map f).sum+((l.filter fun x=>!q x).map f).sum
  | []=>rfl
  | x :: l=>by
    have ih:=qim f q l
    cases h:q x<;>simp[h,ih]<;>omega
theorem qa2 {P:List (Nat×List Int)} {c:Nat} (h:Qd P c=true):∀ z∈P,z.1≠c:=fun z hz e=>by
  have:P.any (fun z=>z.1 == c)=true:=List.any_eq_true.2 ⟨z,hz,by simp[e]⟩
  rw[Qd,this]at h;simp at h
theorem qc6 {P:List (Nat×List Int)} {c:Nat} (h:¬ ∃ z∈P,z.1=c):Qd P c=true:=by
  rw[Qd]
  cases h2:P.any (fun z=>z.1 == c) with
  | false=>rfl
  | true=>
    obtain⟨z,hz,e⟩:=List.any_eq_true.1 h2
    exact absurd ⟨z,hz,by simpa using e⟩ h
theorem qbg {l:List Nat} (hn:l.Nodup) {x:Nat} (hx:x∈l):∃ A B,l=A++x :: B∧(∀ y∈A,y≠x)∧∀ y∈B,y≠x:=by
  obtain⟨A,B,rfl⟩:=List.append_of_mem hx
  rw[List.nodup_append,List.nodup_cons]at hn
  exact⟨A,B,rfl,fun y hy e=>hn.2.2 y hy x (by simp) e,fun y hy e=>hn.2.1.1 (e ▸ hy)⟩
theorem qkh {p:Int} {w:Nat} {P:List (Nat×List Int)} (h:Rref p w P) {x:Nat×List Int} (hx:x∈P) (v:Nat→Int):dt w (fn x.2) v=v x.1+(((List.range w).filter (Qd P)).map fun c=>fn x.2 c*v c).sum:=by
  rw[dt,qim _ (Qd P)]
  have hm:x.1∈(List.range w).filter fun c=>!Qd P c:=by
    rw[List.mem_filter]
    refine⟨by simpa using h.lt x hx,?_⟩
    cases hf:Qd P x.1 with
    | false=>rfl
    | true=>exact absurd rfl (qa2 hf x hx)
  obtain⟨A,B,e,ha,hb⟩:=qbg (List.Nodup.sublist List.filter_sublist List.nodup_range) hm
  have hz:∀ c,c∈(List.range w).filter (fun c=>!Qd P c)→c≠x.1→fn x.2 c*v c=0:=fun c hc hne=>by
    have hnf:Qd P c=false:=by have:=(List.mem_filter.1 hc).2;simpa using this
    have hex:∃ z∈P,z.1=c:=by
      by_cases he:∃ z∈P,z.1=c
      · exact he
      · rw[qc6 he]at hnf;simp at hnf
    obtain⟨z,hz,rfl⟩:=hex
    rw[h.off x hx z hz (Ne.symm hne),Int.zero_mul]
  have h1:=qcw (fun c=>fn x.2 c*v c) x.1 A B (fun y hy=>hz y (by rw[e];simp[hy]) (ha y hy)) (fun y hy=>hz y (by rw[e];simp[hy]) (hb y hy))
  rw[e,h1,h.one x hx];omega
theorem qkf {p:Int} {w:Nat} {P:List (Nat×List Int)} (h:Rref p w P) {x:Nat×List Int} (hx:x∈P) {r:List Int} (hr:r∈Zn p w P):p ∣ dt w (fn x.2) (fn r):=by
  obtain⟨c,hc,rfl⟩:=List.mem_map.1 hr
  have hcw:c < w:=by have:=(List.mem_filter.1 hc).1;simpa using this
  rw[qkh h hx,qck h c hx]
  obtain⟨A,B,e,ha,hb⟩:=qbg (List.Nodup.sublist List.filter_sublist List.nodup_range) hc
  have hz:∀ j,j∈(List.range w).filter (Qd P)→j≠c→fn x.2 j*fn (Q1 p w P c) j=0:=fun j hj hne=>by
    rw[Jk h hcw (qa2 (List.mem_filter.1 hj).2),if_neg hne,Int.mul_zero]
  have h1:=qcw (fun j=>fn x.2 j*fn (Q1 p w P c) j) c A B (fun y hy=>hz y (by rw[e];simp[hy]) (ha y hy)) (fun y hy=>hz y (by rw[e];simp[hy]) (hb y hy))
  rw[e,h1,Jk h hcw (qa2 (List.mem_filter.1 hc).2),if_pos rfl]
  exact Z7 (-1) (Zy (-(fn x.2 c)) p) (by omega)
theorem qch {p:Int} {w:Nat} {P:List (Nat×List Int)} (h:Rref p w P) {v:Nat→Int} (hv:∀ x∈P,p ∣ dt w (fn x.2) v):Sp p w (Zn p w P) v:=by
  have hsp:∀ l:List Nat,(∀ c∈l,c∈(List.range w).filter (Qd P))→Sp p w (Zn p w P) fun j=>(l.map fun c=>v c*fn (Q1 p w P c) j).sum:=by
    intro l
    induction l with
    | nil=>intro _;exact .zero _ fun j _=>by simp
    | cons c l ih=>
      intro hl
      exact .add _ _ (Q1 p w P c) (v c) (List.mem_map.2 ⟨c,hl c (by simp),rfl⟩) (ih fun d hd=>hl d (by simp[hd])) fun j _=>by
        rw[List.map_cons,List.sum_cons];exact⟨0,by omega⟩
  refine(hsp _ fun c hc=>hc).congr fun j hj=>?_
  by_cases hex:∃ x∈P,x.1=j
  · obtain⟨x,hx,rfl⟩:=hex
    have h1:=hv x hx
    rw[qkh h hx]at h1
    have h2:p ∣ (((List.range w).filter (Qd P)).map fun c=>v c*fn (Q1 p w P c) x.1).sum - (((List.range w).filter (Qd P)).map fun c=>0+(-1)*(fn x.2 c*v c)).sum:=by
      refine qfk _ _ _ fun c hc=>?_
      rw[qck h c hx]
      exact Z7 (-(v c)) (Zy (-(fn x.2 c)) p) (by grind)
    have e3:(((List.range w).filter (Qd P)).map fun c=>0+(-1)*(fn x.2 c*v c)).sum=(-1)*(((List.range w).filter (Qd P)).map fun c=>fn x.2 c*v c).sum:=by
      have:=qh4 (fun _:Nat=>(0:Int)) (fun c=>fn x.2 c*v c) (-1) ((List.range w).filter (Qd P))
      rw[this]
      have hz:∀ l:List Nat,(l.map fun _=>(0:Int)).sum=0:=fun l=>by induction l with
        | nil=>rfl
        | cons a l ih=>simpa using ih
      rw[hz];omega
    rw[e3]at h2
    exact Z2 1 (-1) h1 h2 (by omega)
  · have hjf:j∈(List.range w).filter (Qd P):=List.mem_filter.2 ⟨by simpa using hj,qc6 hex⟩
    obtain⟨A,B,e,ha,hb⟩:=qbg (List.Nodup.sublist List.filter_sublist List.nodup_range) hjf
    have hz:∀ c,c∈(List.range w).filter (Qd P)→c≠j→v c*fn (Q1 p w P c) j=0:=fun c hc hne=>by
      have hcw:c < w:=by have:=(List.mem_filter.1 hc).1;simpa using this
      rw[Jk h hcw (fun z hz e=>hex ⟨z,hz,e⟩),if_neg (Ne.symm hne),Int.mul_zero]
    have h1:=qcw (fun c=>v c*fn (Q1 p w P c) j) j A B (fun y hy=>hz y (by rw[e];simp[hy]) (ha y hy)) (fun y hy=>hz y (by rw[e];simp[hy]) (hb y hy))
    show p ∣ v j - (((List.range w).filter (Qd P)).map fun c=>v c*fn (Q1 p w P c) j).sum
    rw[e,h1,Jk h hj (fun z hz e=>hex ⟨z,hz,e⟩),if_pos rfl]
    exact⟨0,by omega⟩
theorem qik {p:Int} {w:Nat} {P:List (Nat×List Int)} (h:Rref p w P) (hl:P.length < w):∃ c,c < w∧Qd P c=true:=by
  by_cases hex:∃ c,c < w∧Qd P c=true
  · exact hex
  · exfalso
    have h1:=Zr (P:=(List.range w).map fun c=>(c,([]:List Int))) (Q:=P) (by rw[List.pairwise_map];exact List.pairwise_lt_range) h.inc (fun x hx=>by
      obtain⟨c,hc,rfl⟩:=List.mem_map.1 hx
      have hcw:c < w:=by simpa using hc
      by_cases he:∃ z∈P,z.1=c
      · exact he
      · exact absurd ⟨c,hcw,qc6 he⟩ hex)
    simp at h1
    omega
end Go.Proofs.Ytmgbpmihbljngaa.PA
namespace Go.Proofs.Ytmgbpmihbljngaa.PA
open Go.RowKit Go.Proofs.YtmgbpmihbljngaaW.PrintWords Go.Proofs.YtmgbpmihbljngaaW.PrintLast Go.Proofs.YtmgbpmihbljngaaW.PrintMore
set_option linter.unusedVariables false
set_option linter.unusedSimpArgs false
theorem Zi {p:Int} (hp:zi p=true) {w:Nat} {L:List (List Int)} (hL:okR p w L):
    ∃ N:List (Nat×List Int),Zk p w L=N.map Prod.snd∧Rref p w N∧(∀ x∈N,∀ r∈L,p ∣ dt w (fn r) (fn x.2))∧∀ v:Nat→Int,(∀ r∈L,p ∣ dt w (fn r) v)→Sp p w (N.map Prod.snd) v:=by
  have hb:=zx hp
  obtain⟨e1,_,hP,h1,h2⟩:=J2 hp hL
  obtain⟨N,e3,_,hN,h4,h5⟩:=Jd hp (qah (by omega) hP)
  have hcomm:∀ u v:Nat→Int,dt w u v=dt w v u:=fun u v=>by
    rw[dt,dt];congr 1;exact List.map_congr_left fun j _=>Int.mul_comm _ _
  refine⟨N,e3,hN,fun x hx r hr=>?_,fun v hv=>?_⟩
  · refine qlp (L:=(Jj p w L).map Prod.snd) (fun s hs=>?_) (h1 r hr)
    obtain⟨z,hz,rfl⟩:=List.mem_map.1 hs
    rw[hcomm]
    refine qlp (L:=Zn p w (Jj p w L)) (fun q hq=>?_) (h5 x hx)
    rw[hcomm]
    exact qkf hP hz hq
  · exact Sp.sub h4 (qch hP fun x hx=>qlp hv (h2 x hx))
theorem qdf {p:Int} (hp:zi p=true) {w:Nat} {L:List (List Int)} (hL:okR p w L) (hr:Zm p w L < w):Zk p w L≠[]:=by
  have hb:=zx hp
  obtain⟨e1,_,hP,h1,h2⟩:=J2 hp hL
  rw[Zm,e1,List.length_map]at hr
  obtain⟨c,hc,hf⟩:=qik hP hr
  obtain⟨N,e3,_,hN,h4,h5⟩:=Jd hp (qah (by omega) hP)
  intro e
  rw[Zk]at e
  rw[e]at e3
  have hN0:N.map Prod.snd=[]:=e3.symm
  have hs:=h4 (Q1 p w (Jj p w L) c) (List.mem_map.2 ⟨c,List.mem_filter.2 ⟨by simpa using hc,hf⟩,rfl⟩)
  rw[hN0]at hs
  cases hs with
  | zero _ hz=>
    have:=hz c hc
    rw[Jk hP hc (qa2 hf),if_pos rfl]at this
    exact qam (by omega) this
  | add _ u r t hr2 _ _=>exact absurd hr2 (by simp)
end Go.Proofs.Ytmgbpmihbljngaa.PA
namespace Go.Proofs.Ytmgbpmihbljngaa.PA
open Go.RowKit Go.Proofs.YtmgbpmihbljngaaW.PrintWords Go.Proofs.YtmgbpmihbljngaaW.PrintLast Go.Proofs.YtmgbpmihbljngaaW.PrintMore
set_option linter.unusedVariables false
set_option linter.unusedSimpArgs false
def tr (w:Nat) (L:List (List Int)):List (List Int):=(List.range w).map fun j=>L.map fun r=>fn r j
theorem qe1 (L:List (List Int)) (f:List Int→Int) (i:Nat) (hi:i < L.length):fn (L.map f) i=f (L.getD i []):=by
  rw[fn,Zz _ i (by rw[List.length_map];exact hi),List.getElem_map,List.getD_eq_getElem?_getD,List.getElem?_eq_getElem hi];rfl
theorem qop {p:Int} {w:Nat} {L:List (List Int)} (hL:okR p w L):okR p L.length (tr w L):=fun r hr=>by
  obtain⟨j,hj,rfl⟩:=List.mem_map.1 hr
  refine⟨by simp,fun x hx=>?_⟩
  obtain⟨q,hq,rfl⟩:=List.mem_map.1 hx
  exact Zs (hL q hq) j (by simpa using hj)
theorem qf5 {p:Int} {w:Nat} {N:List (Nat×List Int)} (h:Rref p w N):((List.range w).filter (Qd N)).length+N.length≤w:=by
  have h1:=Zr (P:=N) (Q:=((List.range w).filter fun c=>!Qd N c).map fun c=>(c,([]:List Int))) h.inc (by
    rw[List.pairwise_map];exact List.Pairwise.sublist List.filter_sublist List.pairwise_lt_range) (fun x hx=>by
    refine⟨(x.1,[]),List.mem_map.2 ⟨x.1,List.mem_filter.2 ⟨by simpa using h.lt x hx,?_⟩,rfl⟩,rfl⟩
    cases hf:Qd N x.1 with
    | false=>rfl
    | true=>exact absurd rfl (qa2 hf x hx))
  rw[List.length_map]at h1
  have h2:((List.range w).filter (Qd N)).length+((List.range w).filter fun c=>!Qd N c).length=w:=by
    have:∀ l:List Nat,(l.filter (Qd N)).length+(l.filter fun c=>!Qd N c).length=l.length:=fun l=>by
      induction l with
      | nil=>rfl
      | cons a l ih=>cases hf:Qd N a<;>simp[hf]<;>omega
    simpa using this (List.range w)
  omega
theorem qij {p:Int} (hp:zi p=true) {w:Nat} {L:List (List Int)} (hL:okR p w L):Zm p w L+(Zk p L.length (tr w L)).length≤L.length:=by
  obtain⟨N,e,hN,h4,_⟩:=Zi hp (qop hL)
  rw[e,List.length_map]
  have hc:=qf5 hN
  have hok:okR p w (((List.range L.length).filter (Qd N)).map fun i=>L.getD i []):=fun r hr=>by
    obtain⟨i,hi,rfl⟩:=List.mem_map.1 hr
    exact hL _ (Q5 (by have:=(List.mem_filter.1 hi).1;simpa using this))
  have hmono:=qha hp hL hok (fun r hr=>by
    obtain⟨i,hi,rfl⟩:=List.mem_iff_getElem.1 hr
    have ei:L[i]=L.getD i []:=by rw[List.getD_eq_getElem?_getD,List.getElem?_eq_getElem hi];rfl
    by_cases hf:Qd N i=true
    · exact Sp.mem (List.mem_map.2 ⟨i,List.mem_filter.2 ⟨by simpa using hi,hf⟩,ei.symm⟩)
    · have hex:∃ z∈N,z.1=i:=by
        by_cases he:∃ z∈N,z.1=i
        · exact he
        · exact absurd (qc6 he) hf
      obtain⟨z,hz,rfl⟩:=hex
      have hsp:∀ l:List Nat,(∀ c∈l,c∈(List.range L.length).filter (Qd N))→Sp p w (((List.range L.length).filter (Qd N)).map fun i=>L.getD i []) fun j=>(l.map fun c=>fn z.2 c*fn (L.getD c []) j).sum:=by
        intro l
        induction l with
        | nil=>intro _;exact .zero _ fun j _=>by simp
        | cons c l ih=>
          intro hl
          exact .add _ _ (L.getD c []) (fn z.2 c) (List.mem_map.2 ⟨c,hl c (by simp),rfl⟩) (ih fun d hd=>hl d (by simp[hd])) fun j _=>by
            rw[List.map_cons,List.sum_cons];exact⟨0,by omega⟩
      refine((hsp _ fun c hc=>hc).scale (-1)).congr fun j hj=>?_
      have hd:=h4 z hz (L.map fun r=>fn r j) (List.mem_map.2 ⟨j,by simpa using hj,rfl⟩)
      have hcomm:dt L.length (fn (L.map fun r=>fn r j)) (fn z.2)=dt L.length (fn z.2) (fn (L.map fun r=>fn r j)):=by
        rw[dt,dt];congr 1;exact List.map_congr_left fun i _=>Int.mul_comm _ _
      rw[hcomm,qkh hN hz,qe1 L (fun r=>fn r j) z.1 (hN.lt z hz)]at hd
      have e3:(((List.range L.length).filter (Qd N)).map fun c=>fn z.2 c*fn (L.map fun r=>fn r j) c)=(((List.range L.length).filter (Qd N)).map fun c=>fn z.2 c*fn (L.getD c []) j):=by
        refine List.map_congr_left fun c hc=>?_
        have hcl:c < L.length:=by have:=(List.mem_filter.1 hc).1;simpa using this
        rw[qe1 L (fun r=>fn r j) c hcl]
      rw[e3]at hd
      rw[ei]
      exact Z7 1 hd (by omega))
  have hle:=qc4 (p:=p) (w:=w) (((List.range L.length).filter (Qd N)).map fun i=>L.getD i [])
  rw[List.length_map]at hle
  omega
end Go.Proofs.Ytmgbpmihbljngaa.PA
namespace Go.Proofs.Ytmgbpmihbljngaa.PA
open Go.RowKit Go.Proofs.YtmgbpmihbljngaaW.PrintWords Go.Proofs.YtmgbpmihbljngaaW.PrintLast Go.Proofs.YtmgbpmihbljngaaW.PrintMore
set_option linter.unusedVariables false
set_option linter.unusedSimpArgs false
theorem qei (n:Nat) (u v:Nat→Int):∀ w,fi n (dt w u v)=sm w fun j=>fi n (u j)*fi n (v j)
  | 0=>by rw[sm];exact Js n
  | w+1=>by
    have e:dt (w+1) u v=dt w u v+u w*v w:=by simp[dt,List.range_succ]
    rw[e,qaw,qau,qei n u v w,sm]
theorem Sp.sumN {p:Int} {w:Nat} {L:List (List Int)} (t:Nat→Int):∀ m,m≤L.length→Sp p w L fun x=>dt m t fun j=>fn (L.getD j []) x
  | 0,_=>.zero _ fun j _=>by simp[dt]
  | m+1,h=>by
    refine((Sp.sumN t m (by omega)).sum ((Sp.mem (Q5 (L:=L) (i:=m) (by omega))).scale (t m))).congr fun j _=>?_
    have e:dt (m+1) t (fun k=>fn (L.getD k []) j)=dt m t (fun k=>fn (L.getD k []) j)+t m*fn (L.getD m []) j:=by simp[dt,List.range_succ]
    rw[e];exact⟨0,by omega⟩
theorem qbp {L:List (List Int)} {r:List Int} (h:r∈L):∃ i,i < L.length∧L.getD i []=r:=by
  obtain⟨i,hi,e⟩:=List.mem_iff_getElem.1 h
  exact⟨i,hi,by rw[List.getD_eq_getElem?_getD,List.getElem?_eq_getElem hi];exact e⟩
theorem Sp.lin4 {p:Int} (hp:zi p=true) {w:Nat} {N:List (List Int)} (hN:N.length=4) {v:Nat→Int} (h:Sp p w N v):∃ l:Nat→Fq (nn p),∀ j,j < w→fi (nn p) (v j)=PA.lin4 l fun i=>fi (nn p) (fn (N.getD i []) j):=by
  induction h with
  | zero v hz=>exact⟨fun _=>0,fun j hj=>by rw[(Jg hp _).2 (hz j hj)];simp only[PA.lin4];grind⟩
  | add v u r t hr _ h2 ih=>
    obtain⟨l,hl⟩:=ih
    obtain⟨i,hi,e⟩:=qbp hr
    refine⟨fun k=>l k+if k=i then fi (nn p) t else 0,fun j hj=>?_⟩
    rw[(qly hp _ _).2 (h2 j hj),qaw,qau,hl j hj]
    rcases (show i=0∨i=1∨i=2∨i=3 by omega) with rfl | rfl | rfl | rfl<;>(rw[← e];simp[PA.lin4];grind)
def qcg (w i:Nat):List Int:=(List.replicate w 0).set i 1
theorem qlx (w i j:Nat) (hi:i < w):fn (qcg w i) j=if j=i then 1 else 0:=by
  rw[qcg,qhh _ _ _ _ (by simpa using hi)]
  split
  · rfl
  · simp only[fn,rd,Int.toNat_natCast,List.getD_eq_getElem?_getD,List.getElem?_replicate]
    split<;>rfl
theorem qk8 {p:Int} (hp:2≤p) (w i:Nat):(qcg w i).length=w∧∀ x∈qcg w i,0≤x∧x < p:=by
  refine⟨by simp[qcg],fun x hx=>?_⟩
  rcases List.mem_or_eq_of_mem_set hx with h | h
  · have:=(List.mem_replicate.1 h).2;omega
  · omega
theorem qle (v:Nat→Int) (i:Nat):∀ w,dt w (fun j=>if j=i then 1 else 0) v=if i < w then v i else 0
  | 0=>by simp[dt]
  | w + 1 => by
    have e:dt (w+1) (fun j=>if j=i then 1 else 0) v=dt w (fun j=>if j=i then 1 else 0) v+(if w=i then 1 else 0)*v w:=by simp[dt,List.range_succ]
    rw[e,qle v i w]
    by_cases h:w=i
    · subst h;simp
    · by_cases h2:i < w
      · rw[if_pos h2,if_neg h,if_pos (show i < w+1 by omega)];omega
      · rw[if_neg h2,if_neg h,if_neg (show ¬ i < w+1 by omega)];omega
theorem qpy {p:Int} (hp:zi p=true) {w:Nat} {L:List (List Int)} (hL:okR p w L):w≤(Zk p w L).length+L.length:=by
  have hb:=zx hp
  obtain⟨N,e,hN,_,hc⟩:=Zi hp hL
  rw[e,List.length_map]
  apply Classical.byContradiction
  intro hlt
  have hM:okR p w (L++N.map fun x=>qcg w x.1):=qes hL fun r hr=>by
    obtain⟨x,_,rfl⟩:=List.mem_map.1 hr
    exact qk8 (by omega) w x.1
  have hne:=qdf hp hM (Nat.lt_of_le_of_lt (qc4 _) (by simp;omega))
  obtain⟨Q,e2,hQ,h2,_⟩:=Zi hp hM
  rw[e2]at hne
  cases Q with
  | nil=>exact hne rfl
  | cons z Q=>
    have hv:Sp p w (N.map Prod.snd) (fn z.2):=hc _ fun r hr=>h2 z (by simp) r (List.mem_append_left _ hr)
    have hz:=hN.coord hv z.1 (hQ.lt z (by simp))
    have hcs:p ∣ cs N (fn z.2) z.1:=qeq fun x hx=>by
      have:=h2 z (by simp) (qcg w x.1) (List.mem_append_right _ (List.mem_map.2 ⟨x,hx,rfl⟩))
      have hf:fn (qcg w x.1)=fun j=>if j=x.1 then 1 else 0:=funext fun j=>qlx w x.1 j (hN.lt x hx)
      rw[hf,qle,if_pos (hN.lt x hx)]at this
      exact Int.dvd_mul_of_dvd_left this
    rw[hQ.one z (by simp)]at hz
    exact qam (p:=p) (by omega) (Z2 1 1 hz hcs (by omega))
theorem tr_tr {p:Int} {w:Nat} {L:List (List Int)} (hL:okR p w L):tr L.length (tr w L)=L:=by
  apply List.ext_getElem
  · simp[tr]
  · intro i h1 h2
    simp only[tr,List.getElem_map,List.getElem_range,List.map_map]
    have hl:=(hL _ (List.getElem_mem h2)).1
    apply List.ext_getElem
    · simp[hl]
    · intro j h3 h4
      simp only[List.getElem_map,List.getElem_range,Function.comp]
      rw[qe1 _ _ _ h2,List.getD_eq_getElem?_getD,List.getElem?_eq_getElem h2]
      exact Zz _ _ h4
theorem fn_tr {w:Nat} (L:List (List Int)) (i j:Nat) (hi:i < w) (hj:j < L.length):fn ((tr w L).getD i []) j=fn (L.getD j []) i:=by
  have e:(tr w L).getD i []=L.map fun r=>fn r i:=by simp[tr,List.getD_eq_getElem?_getD,hi]
  rw[e,qe1 _ _ _ hj]
theorem qkg :∀ p∈([7,11,13,17,19,23,29,31]:List Int),Zm p 6 ((List.range 6).map (qcg 6))=6:=by decide+kernel
end Go.Proofs.Ytmgbpmihbljngaa.PA
namespace Go.Proofs.Ytmgbpmihbljngaa.PA
open Go.RowKit Go.Proofs.YtmgbpmihbljngaaW.PrintWords Go.Proofs.YtmgbpmihbljngaaW.PrintLast Go.Proofs.YtmgbpmihbljngaaW.PrintMore
set_option linter.unusedVariables false
set_option linter.unusedSimpArgs false
def p3 (n:Nat) (t:Int×Int×Int):Nat→Fq n
  | 0=>fi n t.1
  | 1=>fi n t.2.1
  | _=>fi n t.2.2
def cubR (p:Int) (t:Int×Int×Int):List Int:=[t.1*t.1*t.1 % p,t.1*t.1*t.2.1 % p,t.1*t.1*t.2.2 % p,t.1*t.2.1*t.2.1 % p,t.1*t.2.1*t.2.2 % p,t.1*t.2.2*t.2.2 % p,t.2.1*t.2.1*t.2.1 % p,t.2.1*t.2.1*t.2.2 % p,t.2.1*t.2.2*t.2.2 % p,t.2.2*t.2.2*t.2.2 % p]
theorem qlq {p:Int} (hp:zi p=true) (t:Int×Int×Int):(cubR p t).length=10∧∀ x∈cubR p t,0≤x∧x < p:=by
  have hb:=zx hp
  refine⟨rfl,fun x hx=>?_⟩
  have hm:∀ y:Int,0≤y % p∧y % p < p:=fun y=>⟨Int.emod_nonneg _ (by omega),Int.emod_lt_of_pos _ (by omega)⟩
  simp only[cubR,List.mem_cons,List.not_mem_nil,or_false]at hx
  rcases hx with rfl | rfl | rfl | rfl | rfl | rfl | rfl | rfl | rfl | rfl<;>exact hm _
theorem qde {p:Int} (hp:zi p=true) (t:Int×Int×Int) (v:Nat→Fq (nn p)):(sm 10 fun j=>fi (nn p) (fn (cubR p t) j)*v j)=valC v (p3 (nn p) t):=by
  simp only[sm,fn,rd,Int.toNat_natCast,cubR,List.getD_cons_zero,List.getD_cons_succ,qe2 hp,qau,valC,p3]
  grind
theorem qpu {n:Nat} {P:Nat→Nat→Fq n} (h:∀ i j k,i < 6→j < i→k < j→ev3 (qu (P i) (P j)) (P k)≠0):gen3 P:=by
  have c1:∀ A B C:Nat→Fq n,ev3 (qu A B) C=ev3 (qu B C) A:=fun A B C=>by simp only[ev3,qu];grind
  have c2:∀ A B C:Nat→Fq n,ev3 (qu A B) C=- ev3 (qu B A) C:=fun A B C=>by simp only[ev3,qu];grind
  intro i j k hi hj hk h1 h2 h3
  rcases Nat.lt_or_gt_of_ne h1 with a | a<;>rcases Nat.lt_or_gt_of_ne h2 with b | b<;>rcases Nat.lt_or_gt_of_ne h3 with c | c
  · have:=h k j i hk b a;rw[c2,← c1,];grind
  · omega
  · have:=h j k i hj b c;rw[c1];exact this
  · have:=h j i k hj a c;rw[c2];grind
  · have:=h k i j hk c a;rw[c1,c1];exact this
  · have:=h i k j hi c b;rw[c2,c1,c1,];grind
  · omega
  · exact h i j k hi a b
theorem sep6 {n:Nat} (hF:FldH n) {P:Nat→Nat→Fq n} (hG:gen3 P):∀ i,i < 6→∃ v:Nat→Fq n,(∀ x,x < 6→x≠i→valC v (P x)=0)∧valC v (P i)≠0:=by
  have key:∀ i a b c d e,i < 6→a < 6→b < 6→c < 6→d < 6→e < 6→(∀ x,x < 6→x≠i→x=a∨x=b∨x=c∨x=d∨x=e)→i≠a→i≠b→i≠c→i≠d→i≠e→a≠b→c≠d→e≠a→∃ v:Nat→Fq n,(∀ x,x < 6→x≠i→valC v (P x)=0)∧valC v (P i)≠0:=by
    intro i a b c d e hi ha hb hc hd he hx ia ib ic id ie ab cd ea
    refine⟨lin6 P a b c d e a,fun x h6 hxi=>?_,?_⟩
    · rw[Q9]
      rcases hx x h6 hxi with rfl | rfl | rfl | rfl | rfl
      · rw[Qv];grind
      · rw[Z8];grind
      · rw[Qv];grind
      · rw[Z8];grind
      · rw[Qv];grind
    · rw[Q9]
      exact fnz hF (fnz hF (hG a b i ha hb hi ab (Ne.symm ib) (Ne.symm ia)) (hG c d i hc hd hi cd (Ne.symm id) (Ne.symm ic))) (hG e a i he ha hi ea (Ne.symm ia) (Ne.symm ie))
  intro i hi
  rcases (show i=0∨i=1∨i=2∨i=3∨i=4∨i=5 by omega) with rfl | rfl | rfl | rfl | rfl | rfl
  · exact key 0 1 2 3 4 5 (by omega) (by omega) (by omega) (by omega) (by omega) (by omega) (by omega) (by omega) (by omega) (by omega) (by omega) (by omega) (by omega) (by omega) (by omega)
  · exact key 1 0 2 3 4 5 (by omega) (by omega) (by omega) (by omega) (by omega) (by omega) (by omega) (by omega) (by omega) (by omega) (by omega) (by omega) (by omega) (by omega) (by omega)
  · exact key 2 1 0 3 4 5 (by omega) (by omega) (by omega) (by omega) (by omega) (by omega) (by omega) (by omega) (by omega) (by omega) (by omega) (by omega) (by omega) (by omega) (by omega)
  · exact key 3 1 2 0 4 5 (by omega) (by omega) (by omega) (by omega) (by omega) (by omega) (by omega) (by omega) (by omega) (by omega) (by omega) (by omega) (by omega) (by omega) (by omega)
  · exact key 4 1 2 3 0 5 (by omega) (by omega) (by omega) (by omega) (by omega) (by omega) (by omega) (by omega) (by omega) (by omega) (by omega) (by omega) (by omega) (by omega) (by omega)
  · exact key 5 1 2 3 4 0 (by omega) (by omega) (by omega) (by omega) (by omega) (by omega) (by omega) (by omega) (by omega) (by omega) (by omega) (by omega) (by omega) (by omega) (by omega)
def ptL (p:Int) (Q:List (Int×Int×Int)) (i:Nat):Nat→Fq (nn p):=p3 (nn p) (Q.getD i (0,0,0))
def basP (p:Int) (Q:List (Int×Int×Int)):List (List Int):=Zk p 10 (Q.map (cubR p))
def basF (p:Int) (Q:List (Int×Int×Int)) (i j:Nat):Fq (nn p):=fi (nn p) (fn ((basP p Q).getD i []) j)
theorem qdu {p:Int} (hp:zi p=true) (Q:List (Int×Int×Int)):okR p 10 (Q.map (cubR p)):=fun r hr=>by
  obtain⟨t,_,rfl⟩:=List.mem_map.1 hr
  exact qlq hp t
theorem qhb (p:Int) (Q:List (Int×Int×Int)) (i:Nat) (hi:i < Q.length):(Q.map (cubR p)).getD i []=cubR p (Q.getD i (0,0,0)):=by
  simp[List.getD_eq_getElem?_getD,hi]
theorem qmm {n:Nat} (c:Fq n) (v P:Nat→Fq n):valC (fun j=>c*v j) P=c*valC v P:=by simp only[valC];grind
theorem bas_le {p:Int} (hp:zi p=true) {Q:List (Int×Int×Int)} (h6:Q.length=6) (hG:gen3 (ptL p Q)):(basP p Q).length≤4:=by
  have hb:=zx hp
  have hR:=qdu hp Q
  have hT:okR p 6 (tr 10 (Q.map (cubR p))):=by have:=qop hR;rwa [List.length_map,h6]at this
  have h1:=qij hp hT
  have hl:(tr 10 (Q.map (cubR p))).length=10:=by simp[tr]
  have ht:tr 6 (tr 10 (Q.map (cubR p)))=Q.map (cubR p):=by have:=tr_tr hR;rwa [List.length_map,h6]at this
  rw[hl,ht]at h1
  have hI:okR p 6 ((List.range 6).map (qcg 6)):=fun r hr=>by
    obtain⟨i,_,rfl⟩:=List.mem_map.1 hr
    exact qk8 (by omega) 6 i
  have h2:=qha hp hI hT fun r hr=>by
    obtain⟨i,hi,rfl⟩:=List.mem_map.1 hr
    have hi6:i < 6:=by simpa using hi
    obtain⟨v,hv0,hv1⟩:=sep6 (Jv hp) hG i hi6
    obtain⟨c,hc⟩:=Jv hp _ hv1
    refine(Sp.sumN (L:=tr 10 (Q.map (cubR p))) (fun j=>(((c*v j:Fq (nn p)).val:Nat):Int)) 10 (by omega)).congr fun x hx=>?_
    rw[← qly hp,qei,qlx 6 i x hi6]
    have e:(sm 10 fun j=>fi (nn p) (((c*v j:Fq (nn p)).val:Nat):Int)*fi (nn p) (fn ((tr 10 (Q.map (cubR p))).getD j []) x))=c*valC v (ptL p Q x):=by
      rw[← qmm,ptL,← qde hp]
      refine Jf _ fun j hj=>?_
      rw[J5,fn_tr _ _ _ hj (by rw[List.length_map];omega),qhb _ _ _ (by omega)]
      grind
    rw[e]
    by_cases hxi:x=i
    · subst hxi;rw[if_pos rfl,qbl hp];grind
    · rw[if_neg hxi,hv0 x hx hxi,Js];grind
  rw[qkg p (by have:=J8 hp;simpa using this)]at h2
  show (Zk p 10 (Q.map (cubR p))).length≤4
  omega
theorem qao {p:Int} (hp:zi p=true) {Q:List (Int×Int×Int)} (h6:Q.length=6) (hG:gen3 (ptL p Q)):(basP p Q).length=4:=by
  have h1:=bas_le hp h6 hG
  have h2:=qpy hp (qdu hp Q)
  rw[List.length_map,h6]at h2
  have:10≤(basP p Q).length+6:=h2
  omega
theorem qbz {p:Int} (hp:zi p=true) {Q:List (Int×Int×Int)} (h6:Q.length=6) (hG:gen3 (ptL p Q)) (v:Nat→Fq (nn p)) (hv:∀ x,x < 6→valC v (ptL p Q x)=0):∃ l:Nat→Fq (nn p),∀ j,j < 10→v j=lin4 l fun i=>basF p Q i j:=by
  obtain⟨N,e,hN,_,hc⟩:=Zi hp (qdu hp Q)
  have hs:=hc (fun j=>(((v j).val:Nat):Int)) fun r hr=>by
    obtain⟨x,hx,rfl⟩:=qbp hr
    rw[List.length_map,h6]at hx
    rw[← Jg hp,qei,qhb _ _ _ (by omega)]
    simp only[J5]
    rw[qde hp]
    exact hv x hx
  rw[← e]at hs
  obtain⟨l,hl⟩:=Sp.lin4 hp (qao hp h6 hG) hs
  exact⟨l,fun j hj=>by have:=hl j hj;rwa [J5]at this⟩
theorem qiu {p:Int} (hp:zi p=true) {Q:List (Int×Int×Int)} (i x:Nat) (hi:i < (basP p Q).length) (hx:x < Q.length):valC (basF p Q i) (ptL p Q x)=0:=by
  obtain⟨N,e,hN,h,_⟩:=Zi hp (qdu hp Q)
  have hm:=Q5 hi
  rw[basP,e]at hm
  obtain⟨z,hz,ez⟩:=List.mem_map.1 hm
  have h1:=h z hz _ (Q5 (L:=Q.map (cubR p)) (i:=x) (by rw[List.length_map];omega))
  rw[qhb _ _ _ hx,← Jg hp,qei,qde hp,ez,← e]at h1
  exact h1
end Go.Proofs.Ytmgbpmihbljngaa.PA
namespace Go.Proofs.Ytmgbpmihbljngaa.PA
open Go.RowKit Go.Proofs.YtmgbpmihbljngaaW.PrintWords Go.Proofs.YtmgbpmihbljngaaW.PrintLast Go.Proofs.YtmgbpmihbljngaaW.PrintMore
set_option linter.unusedVariables false
set_option linter.unusedSimpArgs false
def qht (l:List Int):Bool:=(l.find? (fun x=>x !=0)) == some 1
end Go.Proofs.Ytmgbpmihbljngaa.PA
namespace Go.Proofs.Ytmgbpmihbljngaa.PA
open Go.RowKit Go.Proofs.YtmgbpmihbljngaaW.PrintWords Go.Proofs.YtmgbpmihbljngaaW.PrintLast Go.Proofs.YtmgbpmihbljngaaW.PrintMore
set_option linter.unusedVariables false
set_option linter.unusedSimpArgs false
def ptB (p x y z:Int):Bool:=qbe p [x,y,z] 3 && qht [x,y,z]
theorem qnb {p:Int} (hp:zi p=true) {l:List Int} (hr:∀ x∈l,0≤x∧x < p):((rowP p l).all fun x=>x == 0)=l.all fun x=>x == 0:=by
  have hb:=zx hp
  rw[Bool.eq_iff_iff,List.all_eq_true,List.all_eq_true]
  unfold rowP
  constructor
  · intro h x hx
    cases hf:l.find? (fun x=>x !=0) with
    | none=>have:=List.find?_eq_none.1 hf x hx;simpa using this
    | some y=>
      have hy:=List.mem_of_find?_eq_some hf
      have hy0:y≠0:=by simpa using List.find?_some hf
      have h1:=h _ (List.mem_map.2 ⟨y,hy,rfl⟩)
      rw[Zc,hf]at h1
      have:=(Zt hp (hr y hy).1 (hr y hy).2).2.2.2.1 hy0
      simp only[Option.getD_some]at h1
      rw[this]at h1
      simp at h1
  · intro h x hx
    obtain⟨y,hy,rfl⟩:=List.mem_map.1 hx
    have:=h y hy
    simp at this
    simp[this]
end Go.Proofs.Ytmgbpmihbljngaa.PA
namespace Go.Proofs.Ytmgbpmihbljngaa.PA
open Go.RowKit Go.Proofs.YtmgbpmihbljngaaW.PrintWords Go.Proofs.YtmgbpmihbljngaaW.PrintLast Go.Proofs.YtmgbpmihbljngaaW.PrintMore
set_option linter.unusedVariables false
set_option linter.unusedSimpArgs false
theorem Qb {p x y:Int} (hp:7≤p∧p≤31) (hx:0≤x∧x < p) (hy:0≤y∧y < p):0≤x*y∧x*y≤900:=qf0 hp.2 hx.1 hx.2 hy.1 hy.2
def crsP (p:Int) (a b:Int×Int×Int):List Int:=[(a.2.1*b.2.2 - a.2.2*b.2.1) % p,(a.2.2*b.1 - a.1*b.2.2) % p,(a.1*b.2.1 - a.2.1*b.1) % p]
def inP (p:Int) (a:Int×Int×Int):Prop:=(0≤a.1∧a.1 < p)∧(0≤a.2.1∧a.2.1 < p)∧(0≤a.2.2∧a.2.2 < p)
theorem qai {p:Int} {a:Int×Int×Int} (h:ptB p a.1 a.2.1 a.2.2=true):inP p a:=by
  rw[ptB,Bool.and_eq_true]at h
  have:=(qbk h.1).2.2
  exact⟨this _ (by simp),this _ (by simp),this _ (by simp)⟩
theorem qf7 {p:Int} (hp:7≤p∧p≤31) (a b:Int×Int×Int) (ha:inP p a) (hb:inP p b):j8.f p a.1 a.2.1 a.2.2 b.1 b.2.1 b.2.2=some (crsP p a b):=by
  obtain⟨a0,a1,a2⟩:=ha
  obtain⟨b0,b1,b2⟩:=hb
  have m1:=Qb hp a1 b2
  have m2:=Qb hp a2 b1
  have m3:=Qb hp a2 b0
  have m4:=Qb hp a0 b2
  have m5:=Qb hp a0 b1
  have m6:=Qb hp a1 b0
  unfold j8.f
  rw[wsm (i:=a.2.1*b.2.2) (by omega) (by omega),wsm (i:=a.2.2*b.2.1) (by omega) (by omega),wsm (i:=a.2.2*b.1) (by omega) (by omega),wsm (i:=a.1*b.2.2) (by omega) (by omega),wsm (i:=a.1*b.2.1) (by omega) (by omega),wsm (i:=a.2.1*b.1) (by omega) (by omega),
    qbh _ _ (by omega),qbh _ _ (by omega),qbh _ _ (by omega),Jl hp (by omega) (by omega),Jl hp (by omega) (by omega),Jl hp (by omega) (by omega)]
  rfl
theorem qpw {p:Int} (hp:7≤p∧p≤31) (a:Int×Int×Int) (ha:inP p a) (x y z:Int) (hx:0≤x∧x < p) (hy:0≤y∧y < p) (hz:0≤z∧z < p):Zl.f p a.1 a.2.1 a.2.2 [x,y,z]=some ((a.1*x+a.2.1*y+a.2.2*z) % p == 0):=by
  obtain⟨a0,a1,a2⟩:=ha
  have m1:=Qb hp a0 hx
  have m2:=Qb hp a1 hy
  have m3:=Qb hp a2 hz
  unfold Zl.f
  rw[if_pos (by simp),if_pos (by simp),if_pos (by simp),if_neg (by omega)]
  simp only[rd,Int.toNat_zero,Int.toNat_one,show (2:Int).toNat=2 from rfl,List.getD_cons_zero,List.getD_cons_succ]
  rw[wsm (i:=a.1*x) (by omega) (by omega),wsm (i:=a.2.1*y) (by omega) (by omega),wsm (i:=a.2.2*z) (by omega) (by omega),wsm (i:=a.1*x+a.2.1*y) (by omega) (by omega),wsm (by omega) (by omega),Int.tmod_eq_emod_of_nonneg (by omega)]
def colB (p:Int) (a b c:Int×Int×Int):Bool:=(c.1*(a.2.1*b.2.2 - a.2.2*b.2.1)+c.2.1*(a.2.2*b.1 - a.1*b.2.2)+c.2.2*(a.1*b.2.1 - a.2.1*b.1)) % p == 0
theorem mod3 (p x y z u v w:Int):(x*(u % p)+y*(v % p)+z*(w % p)) % p=(x*u+y*v+z*w) % p:=by
  have e:x*(u % p)+y*(v % p)+z*(w % p)=x*u+y*v+z*w+p*(-(x*(u / p)+y*(v / p)+z*(w / p))):=by
    simp only[Int.emod_def];grind
  rw[e,Int.add_mul_emod_self_left]
theorem qj2 {p:Int} (hp:7≤p∧p≤31) (a b c:Int×Int×Int) (hc:inP p c):Zl.f p c.1 c.2.1 c.2.2 (crsP p a b)=some (colB p a b c):=by
  have hm:∀ y:Int,0≤y % p∧y % p < p:=fun y=>⟨Int.emod_nonneg _ (by omega),Int.emod_lt_of_pos _ (by omega)⟩
  rw[crsP,qpw hp c hc _ _ _ (hm _) (hm _) (hm _),colB]
  congr 2
  exact mod3 p _ _ _ _ _ _
end Go.Proofs.Ytmgbpmihbljngaa.PA
namespace Go.Proofs.Ytmgbpmihbljngaa.PA
open Go.RowKit Go.Proofs.YtmgbpmihbljngaaW.PrintWords Go.Proofs.YtmgbpmihbljngaaW.PrintLast Go.Proofs.YtmgbpmihbljngaaW.PrintMore
set_option linter.unusedVariables false
set_option linter.unusedSimpArgs false
theorem qqm (A B C p:Int):A % p*(B % p) % p*(C % p) % p=A*B*C % p:=by rw[Int.mul_emod (A*B) C p,Int.mul_emod A B p]
theorem Jx {p:Int} (hp:7≤p∧p≤31) {x:Int} (hx:0≤x∧x < p) (n:Nat) (hn:n≤3):Ev (fun k=>zt.f k p x (n:Int)) (x ^ n % p):=by
  have h0:∀ (d i:Nat),i+d=n→Ev (fun q=>zt.l0 q p x (n:Int) (x ^ i % p) (i:Int)) (x ^ n % p):=by
    intro d
    induction d with
    | zero=>
      intro i hi
      obtain rfl:i=n:=by omega
      exact Ev.step (f:=fun _=>some (x ^ i % p)) (fun q=>by rw[zt.l0,if_neg (by omega)]) (Ev.now _)
    | succ d ih=>
      intro i hi
      have hy:0≤x ^ i % p∧x ^ i % p < p:=⟨Int.emod_nonneg _ (by omega),Int.emod_lt_of_pos _ (by omega)⟩
      have hm:=Qb hp hy hx
      refine Ev.step (fun q=>by rw[zt.l0,if_pos (by omega),if_neg (by omega),wsm (i:=x ^ i % p*x) (by omega) (by omega),wsm (i:=(i:Int)+1) (by omega) (by omega),Int.tmod_eq_emod_of_nonneg hm.1,show x ^ i % p*x % p=x ^ (i+1) % p by rw[Int.pow_succ,Int.mul_emod,Int.emod_emod,← Int.mul_emod]]) ?_
      exact ih (i+1) (by omega)
  unfold zt.f
  have:=h0 n 0 (by omega)
  rw[Int.pow_zero,Int.emod_eq_of_lt (by omega) (by omega)]at this
  exact this
def powL :List S41:=[⟨3,0,0⟩,⟨2,1,0⟩,⟨2,0,1⟩,⟨1,2,0⟩,⟨1,1,1⟩,⟨1,0,2⟩,⟨0,3,0⟩,⟨0,2,1⟩,⟨0,1,2⟩,⟨0,0,3⟩]
theorem qd7 :Zf.f=some powL:=rfl
def powN :List (Nat×Nat×Nat):=[(3,0,0),(2,1,0),(2,0,1),(1,2,0),(1,1,1),(1,0,2),(0,3,0),(0,2,1),(0,1,2),(0,0,3)]
theorem qb7 :∀ i:Nat,i < 10→(zg powL (i:Int)).f0=(((powN.getD i (0,0,0)).1:Nat):Int)∧(zg powL (i:Int)).f1=(((powN.getD i (0,0,0)).2.1:Nat):Int)∧(zg powL (i:Int)).f2=(((powN.getD i (0,0,0)).2.2:Nat):Int)∧(powN.getD i (0,0,0)).1≤3∧(powN.getD i (0,0,0)).2.1≤3∧(powN.getD i (0,0,0)).2.2≤3:=by
  intro i hi
  rcases (show i=0∨i=1∨i=2∨i=3∨i=4∨i=5∨i=6∨i=7∨i=8∨i=9 by omega) with rfl | rfl | rfl | rfl | rfl | rfl | rfl | rfl | rfl | rfl<;>exact⟨rfl,rfl,rfl,by decide,by decide,by decide⟩
def monR (p:Int) (t:Int×Int×Int) (i:Nat):Int:=t.1 ^ (powN.getD i (0,0,0)).1*t.2.1 ^ (powN.getD i (0,0,0)).2.1*t.2.2 ^ (powN.getD i (0,0,0)).2.2 % p
theorem qiy (p:Int) (t:Int×Int×Int):(List.range 10).map (monR p t)=cubR p t:=by
  have e:∀ x:Int,x ^ 3=x*x*x∧x ^ 2=x*x∧x ^ 1=x∧x ^ 0=1:=fun x=>⟨by grind,by grind,by grind,by grind⟩
  show [monR p t 0,monR p t 1,monR p t 2,monR p t 3,monR p t 4,monR p t 5,monR p t 6,monR p t 7,monR p t 8,monR p t 9]=_
  simp only[monR,powN,List.getD_cons_zero,List.getD_cons_succ,(e _).1,(e _).2.1,(e _).2.2.1,(e _).2.2.2,Int.mul_one,Int.one_mul,cubR,Int.mul_assoc]
theorem qce {p:Int} (hp:7≤p∧p≤31) (t:Int×Int×Int) (ht:inP p t):Ev (fun k=>qr.f k p t.1 t.2.1 t.2.2) (cubR p t):=by
  have h0:∀ (d i:Nat),i+d=10→Ev (fun q=>qr.l0 q p ((List.range i).map (monR p t)) powL (i:Int) t.1 t.2.1 t.2.2) (cubR p t):=by
    intro d
    induction d with
    | zero=>
      intro i hi
      obtain rfl:i=10:=by omega
      refine Ev.step (f:=fun _=>some (cubR p t)) (fun q=>by rw[qr.l0,if_neg (by omega),qiy]) (Ev.now _)
    | succ d ih=>
      intro i hi
      obtain⟨e0,e1,e2,l0,l1,l2⟩:=qb7 i (by omega)
      have hm:∀ y:Int,0≤y % p∧y % p < p:=fun y=>⟨Int.emod_nonneg _ (by omega),Int.emod_lt_of_pos _ (by omega)⟩
      have b1:=Qb hp (hm (t.1 ^ (powN.getD i (0,0,0)).1)) (hm (t.2.1 ^ (powN.getD i (0,0,0)).2.1))
      have b2:=Qb hp (hm ((t.1 ^ (powN.getD i (0,0,0)).1 % p)*(t.2.1 ^ (powN.getD i (0,0,0)).2.1 % p))) (hm (t.2.2 ^ (powN.getD i (0,0,0)).2.2))
      refine Ev.step (fun q=>by rw[qr.l0,if_pos (by omega),if_pos (by omega),if_pos (by simp[powL];omega),e0,e1,e2]) ?_
      refine Ev.bind (Jx hp ht.1 _ l0) (Ev.bind (Jx hp ht.2.1 _ l1) (Ev.no (by omega) (Ev.bind (Jx hp ht.2.2 _ l2) (Ev.yes (by simp;omega) ?_))))
      rw[wsm (i:=(i:Int)+1) (by omega) (by omega),wsm (i:=t.1 ^ (powN.getD i (0,0,0)).1 % p*_) (by omega) (by omega),Int.tmod_eq_emod_of_nonneg b1.1,wsm (by omega) (by omega),Int.tmod_eq_emod_of_nonneg b2.1]
      have e:((List.range i).map (monR p t))++[t.1 ^ (powN.getD i (0,0,0)).1 % p*(t.2.1 ^ (powN.getD i (0,0,0)).2.1 % p) % p*(t.2.2 ^ (powN.getD i (0,0,0)).2.2 % p) % p]=(List.range (i+1)).map (monR p t):=by
        rw[List.range_succ,List.map_append]
        congr 1
        show [_]=[monR p t i]
        rw[monR,qqm]
      rw[e]
      exact ih (i+1) (by omega)
  unfold qr.f
  rw[qd7]
  exact Ev.bind (Ev.k rfl) (h0 10 0 rfl)
end Go.Proofs.Ytmgbpmihbljngaa.PA
namespace Go.Proofs.Ytmgbpmihbljngaa.PA
open Go.RowKit Go.Proofs.YtmgbpmihbljngaaW.PrintWords Go.Proofs.YtmgbpmihbljngaaW.PrintLast Go.Proofs.YtmgbpmihbljngaaW.PrintMore
set_option linter.unusedVariables false
set_option linter.unusedSimpArgs false
def dmo (x v:Int×Int×Int) (e:Nat×Nat×Nat):Int:=
  (e.1:Int)*v.1*(x.1 ^ (e.1 - 1)*x.2.1 ^ e.2.1*x.2.2 ^ e.2.2)+(e.2.1:Int)*v.2.1*(x.1 ^ e.1*x.2.1 ^ (e.2.1 - 1)*x.2.2 ^ e.2.2)+(e.2.2:Int)*v.2.2*(x.1 ^ e.1*x.2.1 ^ e.2.1*x.2.2 ^ (e.2.2 - 1))
def slpS (a:List Int) (x v:Int×Int×Int):Nat→Nat→Int
  | 0,_=>0
  | d+1,i=>rd a (i:Int)*dmo x v (powN.getD i (0,0,0))+slpS a x v d (i+1)
def slpP (p:Int) (a:List Int) (x v:Int×Int×Int):Int:=slpS a x v 10 0 % p
theorem qid {p:Int} (hp:7≤p∧p≤31) (A B:Int):Int.tmod (wrap64 (A % p*(B % p))) p=A*B % p:=by
  have hm:=Qb hp (x:=A % p) (y:=B % p) ⟨Int.emod_nonneg _ (by omega),Int.emod_lt_of_pos _ (by omega)⟩ ⟨Int.emod_nonneg _ (by omega),Int.emod_lt_of_pos _ (by omega)⟩
  rw[wsm (by omega) (by omega),Int.tmod_eq_emod_of_nonneg hm.1,← Int.mul_emod]
theorem sl_add {p:Int} (hp:7≤p∧p≤31) (A B:Int):Int.tmod (wrap64 (A % p+B % p)) p=(A+B) % p:=by
  have h1:0≤A % p∧A % p < p:=⟨Int.emod_nonneg _ (by omega),Int.emod_lt_of_pos _ (by omega)⟩
  have h2:0≤B % p∧B % p < p:=⟨Int.emod_nonneg _ (by omega),Int.emod_lt_of_pos _ (by omega)⟩
  rw[wsm (by omega) (by omega),Int.tmod_eq_emod_of_nonneg (by omega),← Int.add_emod]
theorem slC_ev {p:Int} (hp:7≤p∧p≤31) {x:Int×Int×Int} (hx:inP p x) (n0:Int) (a0 a1 a2:Nat) (h0:a0≤3) (h1:a1≤3) (h2:a2≤3):Ev (fun k=>slC k p x.1 x.2.1 x.2.2 (a0:Int) (a1:Int) (a2:Int) 3 0 (n0 % p)) (n0*(x.1 ^ a0*x.2.1 ^ a1*x.2.2 ^ a2) % p):=by
  refine Ev.bind (a:=x.1 ^ a0 % p) (Jx hp hx.1 a0 h0) ?_
  rw[qid hp]
  refine Ev.bind (a:=x.2.1 ^ a1 % p) (Jx hp hx.2.1 a1 h1) ?_
  rw[qid hp]
  refine Ev.bind (a:=x.2.2 ^ a2 % p) (Jx hp hx.2.2 a2 h2) ?_
  rw[qid hp,show n0*(x.1 ^ a0*x.2.1 ^ a1*x.2.2 ^ a2)=n0*x.1 ^ a0*x.2.1 ^ a1*x.2.2 ^ a2 by simp only[Int.mul_assoc]]
  exact Ev.now _
theorem slT_ev {p:Int} (hp:7≤p∧p≤31) {x:Int×Int×Int} (hx:inP p x) (ai vj:Int) (hai:0≤ai∧ai < p) (hv:0≤vj∧vj < p) (e:Nat) (he:e≤3) (a0 a1 a2:Nat) (h0:a0≤3) (h1:a1≤3) (h2:a2≤3):Ev (fun k=>slT k p ai vj (e:Int) x.1 x.2.1 x.2.2 (a0:Int) (a1:Int) (a2:Int)) (ai*((e:Int)*vj*(x.1 ^ a0*x.2.1 ^ a1*x.2.2 ^ a2)) % p):=by
  unfold slT
  have hm:=Qb hp (x:=(e:Int)) (y:=ai) (by omega) hai
  have e1:Int.tmod (wrap64 ((e:Int)*ai)) p=(e:Int)*ai % p:=by
    rw[wsm (by omega) (by omega),Int.tmod_eq_emod_of_nonneg hm.1]
  have e2:Int.tmod (wrap64 (Int.tmod (wrap64 ((e:Int)*ai)) p*vj)) p=(e:Int)*ai*vj % p:=by
    rw[e1]
    have:=qid hp ((e:Int)*ai) vj
    rw[Int.emod_eq_of_lt hv.1 hv.2]at this
    exact this
  rw[e2,show ai*((e:Int)*vj*(x.1 ^ a0*x.2.1 ^ a1*x.2.2 ^ a2))=(e:Int)*ai*vj*(x.1 ^ a0*x.2.1 ^ a1*x.2.2 ^ a2) by simp only[Int.mul_assoc,Int.mul_left_comm,Int.mul_comm]]
  exact slC_ev hp hx _ a0 a1 a2 h0 h1 h2
theorem qhp {p:Int} (hp:7≤p∧p≤31) {x:Int×Int×Int} (hx:inP p x) {ai v0 v1 v2 vj n0 e0 e1 e2 r:Int} {d j:Nat} (hai:0≤ai∧ai < p) (hv:0≤vj∧vj < p) (ev:slE v0 v1 v2 j=vj) (e a0 a1 a2:Nat) (ee:slE e0 e1 e2 j=(e:Int)) (he:e≤3) (h0:a0≤3) (h1:a1≤3) (h2:a2≤3)
    (hl:e≠0→slL e0 0 j=(a0:Int)∧slL e1 1 j=(a1:Int)∧slL e2 2 j=(a2:Int))
    (h:Ev (fun k=>slJ k p ai x.1 x.2.1 x.2.2 v0 v1 v2 e0 e1 e2 d (j+1) ((n0+ai*((e:Int)*vj*(x.1 ^ a0*x.2.1 ^ a1*x.2.2 ^ a2))) % p)) r):Ev (fun k=>slJ k p ai x.1 x.2.1 x.2.2 v0 v1 v2 e0 e1 e2 (d+1) j (n0 % p)) r:=by
  simp only[slJ,ee,ev]
  by_cases hz:e=0
  · subst hz
    simp only[Int.natCast_zero,Int.zero_mul,Int.mul_zero,Int.add_zero]at h
    simpa using h
  · obtain⟨l0,l1,l2⟩:=hl hz
    have hz':¬ ((e:Int)=0):=by omega
    simp only[if_neg hz',l0,l1,l2]
    refine Ev.bind (slT_ev hp hx ai vj hai hv e he a0 a1 a2 h0 h1 h2) ?_
    rw[sl_add hp]
    exact h
theorem slJ_ev {p:Int} (hp:7≤p∧p≤31) {x v:Int×Int×Int} (hx:inP p x) (hv:inP p v) (ai n0:Int) (hai:0≤ai∧ai < p) (e:Nat×Nat×Nat) (h0:e.1≤3) (h1:e.2.1≤3) (h2:e.2.2≤3):Ev (fun k=>slJ k p ai x.1 x.2.1 x.2.2 v.1 v.2.1 v.2.2 (e.1:Int) (e.2.1:Int) (e.2.2:Int) 3 0 (n0 % p)) ((n0+ai*dmo x v e) % p):=by
  have low:∀ n:Nat,n≤3→n≠0→wrap64 ((n:Int) - 1)=((n - 1:Nat):Int):=fun n h hn=>by rw[wsm (by omega) (by omega)];omega
  refine qhp hp hx hai hv.1 rfl e.1 (e.1 - 1) e.2.1 e.2.2 rfl h0 (by omega) h1 h2 (fun h=>⟨low _ h0 h,rfl,rfl⟩) ?_
  refine qhp hp hx hai hv.2.1 rfl e.2.1 e.1 (e.2.1 - 1) e.2.2 rfl h1 h0 (by omega) h2 (fun h=>⟨rfl,low _ h1 h,rfl⟩) ?_
  refine qhp hp hx hai hv.2.2 rfl e.2.2 e.1 e.2.1 (e.2.2 - 1) rfl h2 h0 h1 (by omega) (fun h=>⟨rfl,rfl,low _ h2 h⟩) ?_
  simp only[slJ,dmo,Int.mul_add,Int.add_assoc]
  exact Ev.now _
theorem qo5 {p:Int} (hp:7≤p∧p≤31) {x v:Int×Int×Int} (hx:inP p x) (hv:inP p v) (a:List Int) (ha:a.length=10∧∀ x∈a,0≤x∧x < p):∀ (d i:Nat) (n0:Int),i+d=10→Ev (fun k=>slI k p a x.1 x.2.1 x.2.2 v.1 v.2.1 v.2.2 powL d i (n0 % p)) ((n0+slpS a x v d i) % p)
  | 0,i,n0,_=>by
    simp only[slI,slpS,Int.add_zero]
    exact Ev.now _
  | d + 1, i, n0, h => by
    have hi:i < a.length:=by omega
    have hr:0≤rd a (i:Int)∧rd a (i:Int) < p:=by
      refine ha.2 _ ?_
      rw[show rd a (i:Int)=a[i] by unfold rd;rw[Int.toNat_natCast,List.getD_eq_getElem?_getD,List.getElem?_eq_getElem hi];rfl]
      exact List.getElem_mem hi
    obtain⟨e0,e1,e2,b0,b1,b2⟩:=qb7 i (by omega)
    simp only[slI,if_pos hi,e0,e1,e2]
    refine Ev.bind (slJ_ev hp hx hv (rd a (i:Int)) n0 hr (powN.getD i (0,0,0)) b0 b1 b2) ?_
    rw[slpS,← Int.add_assoc]
    exact qo5 hp hx hv a ha d (i+1) _ (by omega)
theorem qkn {p:Int} (hp:7≤p∧p≤31) {x v:Int×Int×Int} (hx:inP p x) (hv:inP p v) (a:List Int) (ha:a.length=10∧∀ x∈a,0≤x∧x < p):Ev (fun k=>ji.f k p a x.1 x.2.1 x.2.2 v.1 v.2.1 v.2.2) (slpP p a x v):=by
  have h:=qo5 hp hx hv a ha 10 0 0 rfl
  rw[Int.zero_add,Int.zero_emod]at h
  unfold ji.f
  simp only[qd7,Option.bind_some,if_pos (show powL.length=10∧p≠0 from ⟨rfl,by omega⟩)]
  exact h
end Go.Proofs.Ytmgbpmihbljngaa.PA
namespace Go.Proofs.Ytmgbpmihbljngaa.PA
open Go.RowKit Go.Proofs.YtmgbpmihbljngaaW.PrintWords Go.Proofs.YtmgbpmihbljngaaW.PrintLast Go.Proofs.YtmgbpmihbljngaaW.PrintMore
set_option linter.unusedVariables false
set_option linter.unusedSimpArgs false
theorem qi4 (l:List Int) (hl:l.length≤1000000):∀ (d i:Nat),i+d=l.length→Ev (fun k=>zl.l0 k l (i:Int)) ((l.drop i).all fun x=>x == 0)
  | 0,i,h=>by
    refine Ev.step (f:=fun _=>some true) (fun k=>?_) ?_
    · rw[zl.l0,if_neg (by omega)]
    · rw[List.drop_eq_nil_of_le (by omega)];exact Ev.now _
  | d + 1, i, h => by
    have ih:=qi4 l hl d (i+1) (by omega)
    rw[qc9 l i (by omega),List.all_cons]
    by_cases hz:rd l (i:Int)=0
    · refine Ev.step (f:=fun k=>zl.l0 k l ((i+1:Nat):Int)) (fun k=>?_) ?_
      · rw[zl.l0,if_pos (by omega),if_pos (by omega),if_pos hz,wsm (by omega) (by omega)];rfl
      · simpa [hz] using ih
    · refine Ev.step (f:=fun _=>some false) (fun k=>?_) ?_
      · rw[zl.l0,if_pos (by omega),if_pos (by omega),if_neg hz]
      · rw[show (rd l (i:Int) == 0)=false from beq_eq_false_iff_ne.2 hz]
        exact Ev.now false
theorem qgl (l:List Int) (hl:l.length≤1000000):Ev (fun k=>zl.f k l) (l.all fun x=>x == 0):=by
  unfold zl.f
  simpa using qi4 l hl l.length 0 (by omega)
end Go.Proofs.Ytmgbpmihbljngaa.PA
namespace Go.Proofs.Ytmgbpmihbljngaa.PA
open Go.RowKit Go.Proofs.YtmgbpmihbljngaaW.PrintWords Go.Proofs.YtmgbpmihbljngaaW.PrintLast Go.Proofs.YtmgbpmihbljngaaW.PrintMore
set_option linter.unusedVariables false
set_option linter.unusedSimpArgs false
theorem qne {p:Int} (hp:zi p=true) {l:List Int} (hr:∀ x∈l,0≤x∧x < p):(!(l.all fun x=>x == 0) && decide (rowP p l=l))=qht l:=by
  have hb:=zx hp
  unfold qht rowP Zc
  cases h:l.find? (fun x=>x !=0) with
  | none=>
    have:(l.all fun x=>x == 0)=true:=by
      rw[List.all_eq_true]
      intro x hx
      have:=List.find?_eq_none.1 h x hx
      simpa using this
    rw[this];rfl
  | some y=>
    have hy:=List.mem_of_find?_eq_some h
    have hy0:y≠0:=by simpa using List.find?_some h
    have hall:(l.all fun x=>x == 0)=false:=by
      rw[Bool.eq_false_iff]
      intro e
      exact hy0 (by simpa using List.all_eq_true.1 e y hy)
    rw[hall]
    simp only[Bool.not_false,Bool.true_and,Option.getD_some]
    rw[Bool.eq_iff_iff,decide_eq_true_iff,beq_iff_eq]
    constructor
    · intro e
      have e1:y*invP p y % p=y:=by
        have h2:∀ (m:List Int),(m.map fun x=>x*invP p y % p)=m→y∈m→y*invP p y % p=y:=by
          intro m
          induction m with
          | nil=>intro _ h;simp at h
          | cons z m ih=>
            intro e h
            rw[List.map_cons]at e
            injection e with e1 e2
            rcases List.mem_cons.1 h with rfl | h
            · exact e1
            · exact ih e2 h
        exact h2 l e hy
      have:=(Zt hp (hr y hy).1 (hr y hy).2).2.2.2.1 hy0
      rw[this]at e1
      rw[← e1]
    · intro e
      injection e with e
      subst e
      rw[qo0 hp]
      refine(List.map_congr_left (g:=id) fun x hx=>?_).trans (List.map_id _)
      rw[Int.mul_one,Int.emod_eq_of_lt (hr x hx).1 (hr x hx).2];rfl
end Go.Proofs.Ytmgbpmihbljngaa.PA
namespace Go.Proofs.Ytmgbpmihbljngaa.PA
open Go.RowKit Go.Proofs.YtmgbpmihbljngaaW.PrintWords Go.Proofs.YtmgbpmihbljngaaW.PrintLast Go.Proofs.YtmgbpmihbljngaaW.PrintMore
set_option linter.unusedVariables false
set_option linter.unusedSimpArgs false
theorem qp0 {p:Int} (hp:zi p=true) (x y z:Int):Ev (fun k=>jj.f k p x y z) (ptB p x y z):=by
  have hb:=zx hp
  have hlin:∀ x,linB p x=true↔0≤x∧x < p:=fun x=>by
    rw[linB,wsm (by omega) (by omega),Bool.and_eq_true,decide_eq_true_iff,decide_eq_true_iff];omega
  have hno:∀ w∈[x,y,z],¬ linB p w=true→ptB p x y z=false:=fun w hw hn=>by
    cases hh:ptB p x y z with
    | false=>rfl
    | true=>
      rw[ptB,Bool.and_eq_true]at hh
      exact absurd ((hlin w).2 ((qbk hh.1).2.2 w hw)) hn
  unfold jj.f
  by_cases h1:linB p x=true
  · refine Ev.yes h1 ?_
    by_cases h2:linB p y=true
    · refine Ev.yes h2 ?_
      by_cases h3:linB p z=true
      · refine Ev.yes h3 ?_
        have hr:∀ w∈[x,y,z],0≤w∧w < p:=fun w hw=>by
          simp only[List.mem_cons,List.not_mem_nil,or_false]at hw
          rcases hw with rfl | rfl | rfl
          · exact(hlin _).1 h1
          · exact(hlin _).1 h2
          · exact(hlin _).1 h3
        refine Ev.bind (qir hp [x,y,z] hr (by simp)) (Ev.bind (qgl _ (by simp[rowP])) ?_)
        have hn:qbe p [x,y,z] 3=true:=qo7 hp rfl hr
        rw[qnb hp hr,ptB,hn,Bool.true_and,← qne hp hr]
        cases hz:[x,y,z].all (fun x=>x == 0) with
        | true=>exact Ev.yes rfl (Ev.now _)
        | false=>
          refine Ev.no (by simp) (Ev.yes (by simp[rowP]) ?_)
          have e:((rd (rowP p [x,y,z]) 0 == x) && (rd (rowP p [x,y,z]) 1 == y) && (rd (rowP p [x,y,z]) 2 == z))=(!false && decide (rowP p [x,y,z]=[x,y,z])):=by
            rw[Bool.eq_iff_iff]
            simp[rowP,rd,and_assoc]
          rw[← e]
          exact Ev.now _
      · rw[hno z (by simp) h3];exact Ev.no h3 (Ev.now _)
    · rw[hno y (by simp) h2];exact Ev.no h2 (Ev.now _)
  · rw[hno x (by simp) h1];exact Ev.no h1 (Ev.now _)
end Go.Proofs.Ytmgbpmihbljngaa.PA
namespace Go.Proofs.Ytmgbpmihbljngaa.PA
open Go.RowKit Go.Proofs.YtmgbpmihbljngaaW.PrintWords Go.Proofs.YtmgbpmihbljngaaW.PrintLast Go.Proofs.YtmgbpmihbljngaaW.PrintMore
set_option linter.unusedVariables false
set_option linter.unusedSimpArgs false
theorem qfc (p x y z:Int):Ev (fun k=>j7.f k p x y z) (ptB p x y z):=by
  unfold j7.f
  refine Ev.bind (Ev.k (qko p)) ?_
  cases hp:zi p with
  | true=>exact Ev.yes rfl (Ev.bind (qp0 hp x y z) (Ev.now _))
  | false=>
    rw[show ptB p x y z=false by simp[ptB,qbe,hp]]
    exact Ev.no (by simp) (Ev.now _)
end Go.Proofs.Ytmgbpmihbljngaa.PA
namespace Go.Proofs.Ytmgbpmihbljngaa.PA
open Go.RowKit Go.Proofs.YtmgbpmihbljngaaW.PrintWords Go.Proofs.YtmgbpmihbljngaaW.PrintLast Go.Proofs.YtmgbpmihbljngaaW.PrintMore
set_option linter.unusedVariables false
set_option linter.unusedSimpArgs false
def tpl (x:S43):Int×Int×Int:=(x.f0.f0,x.f0.f1,x.f0.f2)
def tps (l:List S43):List (Int×Int×Int):=l.map tpl
theorem Jn (l:List S43) (i:Nat) (hi:i < l.length):tpl (qd l (i:Int))=(tps l).getD i (0,0,0):=by
  simp[qd,tps,List.getD_eq_getElem?_getD,hi]
def allN (f:Nat→Bool):Nat→Nat→Bool
  | 0,_=>true
  | d+1,i=>f i && allN f d (i+1)
theorem qcp (f:Nat→Bool):∀ d i,allN f d i=true↔∀ j,i≤j→j < i+d→f j=true
  | 0,i=>by simp[allN];omega
  | d + 1, i => by
    rw[allN,Bool.and_eq_true,qcp f d (i+1)]
    constructor
    · intro h j h1 h2
      by_cases e:j=i
      · subst e;exact h.1
      · exact h.2 j (by omega) (by omega)
    · intro h
      exact⟨h i (by omega) (by omega),fun j h1 h2=>h j (by omega) (by omega)⟩
def apI (p:Int) (Q:List (Int×Int×Int)) (i:Nat):Bool:=ptB p (Q.getD i (0,0,0)).1 (Q.getD i (0,0,0)).2.1 (Q.getD i (0,0,0)).2.2 && allN (fun k=>allN (fun j=>!colB p (Q.getD k (0,0,0)) (Q.getD j (0,0,0)) (Q.getD i (0,0,0))) k 0) i 0
def J3 (p:Int) (Q:List (Int×Int×Int)):Bool:=allN (apI p Q) Q.length 0
theorem qk1 {p:Int} (hp:zi p=true) (l:List S43) (hl:l.length≤1000000):Ev (fun k=>qn.f k p l) (J3 p (tps l)):=by
  have hb:=zx hp
  have hlen:(tps l).length=l.length:=by simp[tps]
  have hpt:∀ (i:Nat),i < l.length→Ev (fun k=>j7.f k p (qd l (i:Int)).f0.f0 (qd l (i:Int)).f0.f1 (qd l (i:Int)).f0.f2) (ptB p ((tps l).getD i (0,0,0)).1 ((tps l).getD i (0,0,0)).2.1 ((tps l).getD i (0,0,0)).2.2):=fun i hi=>by
    rw[← Jn l i hi];exact qfc _ _ _ _
  have h2:∀ (i k:Nat) (R:Bool),i < l.length→k < i→(∀ j,j < i→inP p ((tps l).getD j (0,0,0)))→inP p ((tps l).getD i (0,0,0))→Ev (fun q=>qn.l1 q p l (i:Int) ((k+1:Nat):Int)) R→∀ (d j:Nat),j+d=k→Ev (fun q=>qn.l2 q p l (i:Int) (k:Int) (j:Int)) (allN (fun j=>!colB p ((tps l).getD k (0,0,0)) ((tps l).getD j (0,0,0)) ((tps l).getD i (0,0,0))) d j && R):=by
    intro i k R hi hk hin hii hend d
    induction d with
    | zero=>
      intro j hj
      refine Ev.step (fun q=>by rw[qn.l2,if_neg (by omega),wsm (by omega) (by omega)]) ?_
      rw[allN,Bool.true_and]
      exact hend
    | succ d ih=>
      intro j hj
      have e1:∀ m:Nat,m < l.length→(qd l (m:Int)).f0.f0=((tps l).getD m (0,0,0)).1∧(qd l (m:Int)).f0.f1=((tps l).getD m (0,0,0)).2.1∧(qd l (m:Int)).f0.f2=((tps l).getD m (0,0,0)).2.2:=fun m hm=>by rw[← Jn l m hm];exact⟨rfl,rfl,rfl⟩
      obtain⟨a1,a2,a3⟩:=e1 i hi
      obtain⟨b1,b2,b3⟩:=e1 k (by omega)
      obtain⟨c1,c2,c3⟩:=e1 j (by omega)
      refine Ev.step (fun q=>by rw[qn.l2,if_pos (by omega),if_pos (by omega),if_pos (by omega),if_pos (by omega),if_pos (by omega),if_pos (by omega),if_pos (by omega),a1,a2,a3,b1,b2,b3,c1,c2,c3,qf7 ⟨by omega,by omega⟩ _ _ (hin k hk) (hin j (by omega)),Option.bind_some,qj2 ⟨by omega,by omega⟩ _ _ _ hii,Option.bind_some,wsm (by omega) (by omega)]) ?_
      rw[allN]
      cases hc:colB p ((tps l).getD k (0,0,0)) ((tps l).getD j (0,0,0)) ((tps l).getD i (0,0,0)) with
      | true=>exact Ev.yes rfl (Ev.now _)
      | false=>
        refine Ev.no (by simp) ?_
        have:=ih (j+1) (by omega)
        simpa using this
  have h1:∀ (i:Nat) (R:Bool),i < l.length→(∀ j,j < i→inP p ((tps l).getD j (0,0,0)))→inP p ((tps l).getD i (0,0,0))→Ev (fun q=>qn.l0 q p l ((i+1:Nat):Int)) R→∀ (d k:Nat),k+d=i→Ev (fun q=>qn.l1 q p l (i:Int) (k:Int)) (allN (fun k=>allN (fun j=>!colB p ((tps l).getD k (0,0,0)) ((tps l).getD j (0,0,0)) ((tps l).getD i (0,0,0))) k 0) d k && R):=by
    intro i R hi hin hii hend d
    induction d with
    | zero=>
      intro k hk
      refine Ev.step (fun q=>by rw[qn.l1,if_neg (by omega),wsm (by omega) (by omega)]) ?_
      rw[allN,Bool.true_and]
      exact hend
    | succ d ih=>
      intro k hk
      refine Ev.step (fun q=>by rw[qn.l1,if_pos (by omega)]) ?_
      have:=h2 i k _ hi (by omega) hin hii (ih (k+1) (by omega)) k 0 (by omega)
      rw[allN,Bool.and_assoc]
      simpa using this
  have h0 : ∀ (d i : Nat), i + d = l.length → (∀ j, j < i → inP p ((tps l).getD j (0, 0, 0))) → Ev (fun q => qn.l0 q p l (i : Int)) (allN (apI p (tps l)) d i) := by
    intro d
    induction d with
    | zero=>
      intro i hi _
      exact Ev.step (f:=fun _=>some true) (fun q=>by rw[qn.l0,if_neg (by omega)]) (Ev.now _)
    | succ d ih=>
      intro i hi hin
      refine Ev.step (fun q=>by rw[qn.l0,if_pos (by omega),if_pos (by omega)]) (Ev.bind (hpt i (by omega)) ?_)
      rw[allN,apI]
      cases hc:ptB p ((tps l).getD i (0,0,0)).1 ((tps l).getD i (0,0,0)).2.1 ((tps l).getD i (0,0,0)).2.2 with
      | false=>exact Ev.no (by simp) (Ev.now _)
      | true=>
        refine Ev.yes rfl ?_
        have hii:=qai hc
        have:=h1 i _ (by omega) hin hii (ih (i+1) (by omega) fun j hj=>by
          by_cases e:j=i
          · subst e;exact hii
          · exact hin j (by omega)) i 0 (by omega)
        simpa using this
  unfold qn.f J3
  rw[hlen]
  exact h0 l.length 0 (by omega) (fun j hj=>absurd hj (by omega))
theorem qdm {p:Int} (hp:zi p=false) (Q:List (Int×Int×Int)) (h:0 < Q.length):J3 p Q=false:=by
  obtain⟨n,hn⟩:∃ n,Q.length=n+1:=⟨Q.length - 1,by omega⟩
  rw[J3,hn,allN,apI]
  simp[ptB,qbe,hp]
theorem qhu {p:Int} (hp:zi p=false) (l:List S43) (h:0 < l.length):Ev (fun k=>qn.f k p l) false:=by
  unfold qn.f
  refine Ev.step (fun q=>by rw[qn.l0,if_pos (by omega),if_pos (by omega)]) (Ev.bind (qfc _ _ _ _) ?_)
  rw[show ptB p _ _ _=false by simp[ptB,qbe,hp]]
  exact Ev.no (by simp) (Ev.now _)
theorem Z4 {p:Int} {Q:List (Int×Int×Int)} (h:J3 p Q=true):(∀ i,i < Q.length→ptB p (Q.getD i (0,0,0)).1 (Q.getD i (0,0,0)).2.1 (Q.getD i (0,0,0)).2.2=true)∧∀ i k j,i < Q.length→k < i→j < k→colB p (Q.getD k (0,0,0)) (Q.getD j (0,0,0)) (Q.getD i (0,0,0))=false:=by
  rw[J3,qcp]at h
  have h1:∀ i,i < Q.length→apI p Q i=true:=fun i hi=>h i (by omega) (by omega)
  refine⟨fun i hi=>?_,fun i k j hi hk hj=>?_⟩
  · have:=h1 i hi
    rw[apI,Bool.and_eq_true]at this
    exact this.1
  · have:=h1 i hi
    rw[apI,Bool.and_eq_true,qcp]at this
    have h2:=this.2 k (by omega) (by omega)
    rw[qcp]at h2
    simpa using h2 j (by omega) (by omega)
end Go.Proofs.Ytmgbpmihbljngaa.PA
namespace Go.Proofs.Ytmgbpmihbljngaa.PA
open Go.RowKit Go.Proofs.YtmgbpmihbljngaaW.PrintWords Go.Proofs.YtmgbpmihbljngaaW.PrintLast Go.Proofs.YtmgbpmihbljngaaW.PrintMore
set_option linter.unusedVariables false
set_option linter.unusedSimpArgs false
def allP (p:Nat):List (Int×Int×Int):=(0,0,1) :: ((List.range p).map (fun (n:Nat)=>(0,1,(n:Int)))++(List.range p).flatMap fun (a:Nat)=>(List.range p).map fun (b:Nat)=>(1,(a:Int),(b:Int)))
def mkT (t:Int×Int×Int):S43:=⟨⟨t.1,t.2.1,t.2.2⟩⟩
theorem qhx (L:List (Int×Int×Int)):tps (L.map mkT)=L:=by
  unfold tps
  rw[List.map_map]
  exact List.map_id L
theorem qdi {p:Int} (hp:7≤p∧p≤31):∀ t∈allP p.toNat,inP p t:=by
  intro t ht
  simp only[allP,List.mem_cons,List.mem_append,List.mem_map,List.mem_flatMap,List.mem_range]at ht
  rcases ht with rfl | ⟨n,hn,rfl⟩ | ⟨a,ha,b,hb,rfl⟩
  · exact⟨⟨by simp,by simp;omega⟩,⟨by simp,by simp;omega⟩,⟨by simp,by simp;omega⟩⟩
  · exact⟨⟨by simp,by simp;omega⟩,⟨by simp,by simp;omega⟩,⟨by simp,by simp;omega⟩⟩
  · exact⟨⟨by simp,by simp;omega⟩,⟨by simp,by simp;omega⟩,⟨by simp,by simp;omega⟩⟩
theorem qfa (p:Nat) (f:Nat→Nat→Int×Int×Int):∀ (d i:Nat),((List.range' i d).flatMap fun a=>(List.range p).map (f a)).length=d*p
  | 0,i=>by simp
  | d+1,i=>by
    rw[List.range'_succ,List.flatMap_cons,List.length_append,qfa p f d (i+1),List.length_map,List.length_range,Nat.succ_mul]
    omega
theorem qoc (p:Nat):(allP p).length=1+p+p*p:=by
  have h:=qfa p (fun a b=>(1,(a:Int),(b:Int))) p 0
  rw[← List.range_eq_range']at h
  unfold allP
  rw[List.length_cons,List.length_append,List.length_map,List.length_range,h]
  omega
theorem qag {p:Int} (hp:7≤p∧p≤31):(allP p.toNat).length≤1000:=by
  have:=Nat.mul_le_mul (show p.toNat≤31 by omega) (show p.toNat≤31 by omega)
  rw[qoc]
  omega
theorem qlv {p:Int} (hp:7≤p∧p≤31) {r:List S43}:∀ (d i:Nat) (acc:List S43),((i+d:Nat):Int)=p→acc.length+d≤1000000→Ev (fun k=>ze.l1 k p (acc++((List.range' i d).map fun (n:Nat)=>(0,1,(n:Int))).map mkT) 0) r→Ev (fun k=>ze.l0 k p acc (i:Int)) r
  | 0,i,acc,h,_,hr=>by
    simp only[List.range'_zero,List.map_nil,List.append_nil]at hr
    exact Ev.step (fun k=>by rw[ze.l0,if_neg (by omega)]) hr
  | d+1,i,acc,h,hl,hr=>by
    refine Ev.step (fun k=>by rw[ze.l0,if_pos (by omega),if_pos (by omega),wsm (by omega) (by omega)];rfl) (qlv hp d (i+1) (acc++[mkT (0,1,(i:Int))]) (by omega) (by rw[List.length_append,List.length_singleton];omega) ?_)
    rw[List.append_assoc]
    exact hr
theorem ql8 {p:Int} (hp:7≤p∧p≤31) {r:List S43} (a:Nat) (ha:a < 40):∀ (d i:Nat) (acc:List S43),((i+d:Nat):Int)=p→acc.length+d≤1000000→Ev (fun k=>ze.l1 k p (acc++((List.range' i d).map fun (b:Nat)=>(1,(a:Int),(b:Int))).map mkT) ((a+1:Nat):Int)) r→Ev (fun k=>ze.l2 k p acc (a:Int) (i:Int)) r
  | 0,i,acc,h,_,hr=>by
    simp only[List.range'_zero,List.map_nil,List.append_nil]at hr
    exact Ev.step (fun k=>by rw[ze.l2,if_neg (by omega),wsm (by omega) (by omega)];rfl) hr
  | d+1,i,acc,h,hl,hr=>by
    refine Ev.step (fun k=>by rw[ze.l2,if_pos (by omega),if_pos (by omega),wsm (by omega) (by omega)];rfl) (ql8 hp a ha d (i+1) (acc++[mkT (1,(a:Int),(i:Int))]) (by omega) (by rw[List.length_append,List.length_singleton];omega) ?_)
    rw[List.append_assoc]
    exact hr
theorem qmd {p:Int} (hp:7≤p∧p≤31):∀ (d a:Nat) (acc:List S43),((a+d:Nat):Int)=p→acc.length+d*31≤1000000→Ev (fun k=>ze.l1 k p acc (a:Int)) (acc++((List.range' a d).flatMap fun (a:Nat)=>(List.range p.toNat).map fun (b:Nat)=>(1,(a:Int),(b:Int))).map mkT)
  | 0,a,acc,h,_=>by
    simp only[List.range'_zero,List.flatMap_nil,List.map_nil,List.append_nil]
    exact Ev.step (f:=fun _=>some acc) (fun k=>by rw[ze.l1,if_neg (by omega)]) (Ev.now _)
  | d+1,a,acc,h,hl=>by
    have ih:=qmd hp d (a+1) (acc++((List.range' 0 p.toNat).map fun (b:Nat)=>(1,(a:Int),(b:Int))).map mkT) (by omega) (by rw[List.length_append,List.length_map,List.length_map,List.length_range'];omega)
    have hc:=ql8 hp a (by omega) p.toNat 0 acc (by omega) (by omega) ih
    rw[List.range'_succ,List.flatMap_cons,List.map_append,← List.append_assoc]
    rw[← List.range_eq_range']at hc
    exact Ev.step (fun k=>by rw[ze.l1,if_pos (by omega)];rfl) hc
theorem qpm {p:Int} (hp:7≤p∧p≤31):Ev (fun k=>ze.f k p) ((allP p.toNat).map mkT):=by
  have hb:=qmd hp p.toNat 0 ([mkT (0,0,1)]++((List.range' 0 p.toNat).map fun (n:Nat)=>(0,1,(n:Int))).map mkT) (by omega) (by simp only[List.length_append,List.length_map,List.length_range',List.length_singleton];omega)
  have h:=qlv hp p.toNat 0 [mkT (0,0,1)] (by omega) (by simp only[List.length_singleton];omega) hb
  rw[← List.range_eq_range']at h
  unfold ze.f
  have e:([mkT (0,0,1)]++((List.range p.toNat).map fun (n:Nat)=>(0,1,(n:Int))).map mkT++((List.range p.toNat).flatMap fun (a:Nat)=>(List.range p.toNat).map fun (b:Nat)=>(1,(a:Int),(b:Int))).map mkT)=(allP p.toNat).map mkT:=by
    unfold allP
    rw[List.map_cons,List.map_append,List.append_assoc]
    rfl
  rw[e]at h
  exact h
end Go.Proofs.Ytmgbpmihbljngaa.PA
namespace Go.Proofs.Ytmgbpmihbljngaa.PA
open Go.RowKit Go.Proofs.YtmgbpmihbljngaaW.PrintWords Go.Proofs.YtmgbpmihbljngaaW.PrintLast Go.Proofs.YtmgbpmihbljngaaW.PrintMore
set_option linter.unusedVariables false
set_option linter.unusedSimpArgs false
def dotP (p:Int) (a b:List Int):Int:=dt 10 (fn a) (fn b) % p
theorem Z6 (w:Nat) (u v:Nat→Int):dt (w+1) u v=dt w u v+u w*v w:=by simp[dt,List.range_succ]
theorem qba (u v:Nat→Int):dt 0 u v=0:=rfl
theorem qo4 {p:Int} (hp:zi p=true) (a b:List Int) (ha:a.length=10∧∀ x∈a,0≤x∧x < p) (hb:b.length=10∧∀ x∈b,0≤x∧x < p):Ev (fun k=>jf.f k p a b) (dotP p a b):=by
  have h0:=zx hp
  have la:=ha.1
  have lb:=hb.1
  have hl:∀ (d i:Nat),i+d=10→Ev (fun k=>jf.l0 k p a b (dt i (fn a) (fn b) % p) (i:Int)) (dotP p a b):=by
    intro d
    induction d with
    | zero=>
      intro i hi
      obtain rfl:i=10:=by omega
      exact Ev.step (f:=fun _=>some (dotP p a b)) (fun q=>by rw[jf.l0,if_neg (by omega)];rfl) (Ev.now _)
    | succ d ih=>
      intro i hi
      have b1:=Zs ha i (by omega)
      have b2:=Zs hb i (by omega)
      have b3:=Qb (p:=p) ⟨by omega,by omega⟩ b1 b2
      have b4:=Int.emod_nonneg (dt i (fn a) (fn b)) (show p≠0 by omega)
      have b5:=Int.emod_lt_of_pos (dt i (fn a) (fn b)) (show (0:Int) < p by omega)
      have r1:rd a (i:Int)=fn a i:=rfl
      have r2:rd b (i:Int)=fn b i:=rfl
      refine Ev.step (fun q=>by rw[jf.l0,if_pos (by omega),if_pos (by omega),if_pos (by omega),if_neg (by omega),r1,r2,wsm (i:=fn a i*fn b i) (by omega) (by omega),wsm (i:=_ +_) (by omega) (by omega),Int.tmod_eq_emod_of_nonneg (by omega),Int.emod_add_emod,← Z6,wsm (by omega) (by omega)]) ?_
      exact ih (i+1) (by omega)
  unfold jf.f
  have:=hl 10 0 rfl
  rwa [qba,Int.zero_emod]at this
end Go.Proofs.Ytmgbpmihbljngaa.PA
namespace Go.Proofs.Ytmgbpmihbljngaa.PA
open Go.RowKit Go.Proofs.YtmgbpmihbljngaaW.PrintWords Go.Proofs.YtmgbpmihbljngaaW.PrintLast Go.Proofs.YtmgbpmihbljngaaW.PrintMore
set_option linter.unusedVariables false
set_option linter.unusedSimpArgs false
theorem qnn (P:List (Nat×List Int)) (i:Nat) (hi:i < P.length):ju (P.map Prod.snd) (i:Int)=(P[i]).2:=by
  simp[ju,List.getD_eq_getElem?_getD,hi]
theorem qg7 (P:List (Nat×List Int)) (i:Nat) (hi:i < P.length):rd (P.map fun x=>(x.1:Int)) (i:Int)=((P[i]).1:Int):=by
  simp[rd,List.getD_eq_getElem?_getD,hi]
theorem qfb {p:Int} {w:Nat} {P:List (Nat×List Int)} (h:Rref p w P):P.length≤w:=by
  have h1:=Zr (P:=P) (Q:=(List.range w).map fun c=>(c,([]:List Int))) h.inc (by rw[List.pairwise_map];exact List.pairwise_lt_range) (fun x hx=>⟨(x.1,[]),List.mem_map.2 ⟨x.1,by simpa using h.lt x hx,rfl⟩,rfl⟩)
  simpa using h1
theorem s_neg {p:Int} (hp:zi p=true) {x:Int} (h0:0≤x) (h1:x < p):Qn.f p (wrap64 (-x))=some ((-x) % p):=by
  have hb:=zx hp
  rw[qbh p _ (by omega),Jl ⟨by omega,by omega⟩ (by omega) (by omega)]
theorem qix {p:Int} (hp:zi p=true) {w:Nat} (hw:w≤1000) {P:List (Nat×List Int)} (h:Rref p w P) {c q:Nat} (hc:c < w) {O:List (List Int)} (hO:O.length≤1000) {R:List (List Int)}:∀ (d i:Nat) (v V:List Int),i+d=P.length→v.length=w→Zp p c (P.drop i) v=V→
    Ev (fun k=>qp.l0 k p (w:Int) (P.map Prod.snd) (P.map fun x=>(x.1:Int)) (O++[V]) (q:Int) ((c+1:Nat):Int)) R→
    Ev (fun k=>qp.l1 k p (w:Int) (P.map Prod.snd) (P.map fun x=>(x.1:Int)) O (q:Int) (c:Int) v (i:Int)) R
  | 0,i,v,V,e,hv,hV,hend=>by
    rw[List.drop_eq_nil_of_le (by omega),Zp]at hV
    subst hV
    refine Ev.step (fun k=>by rw[qp.l1,if_neg (by rw[List.length_map];omega),if_pos (by omega),wsm (by omega) (by omega)]) ?_
    simpa using hend
  | d+1,i,v,V,e,hv,hV,hend=>by
    have hi:i < P.length:=by omega
    have hle:=qfb h
    have hm:=List.getElem_mem hi
    have hlen:=(h.ok _ hm).1
    have hlt:=h.lt _ hm
    have hr:=Zs (h.ok _ hm) c hc
    rw[fn]at hr
    rw[List.drop_eq_getElem_cons hi,Zp]at hV
    refine Ev.step (fun k=>by rw[qp.l1,if_pos (by rw[List.length_map];omega),if_pos (by omega),if_pos (by rw[List.length_map];omega),if_pos (by omega),qnn P i hi,if_pos (by omega),qg7 P i hi,s_neg hp hr.1 hr.2]) ?_
    refine Ev.bind (a:=(-(rd (P[i]).2 (c:Int))) % p) (Ev.now _) (Ev.yes (by omega) (Ev.yes (by omega) ?_))
    have ih:=qix hp hw h hc hO d (i+1) (v.set (P[i]).1 ((-(rd (P[i]).2 (c:Int))) % p)) V (by omega) (by rw[List.length_set];exact hv) hV hend
    rw[wsm (by omega) (by omega)]
    simpa using ih
theorem qmz {P:List (Nat×List Int)} {c q:Nat} (h1:∀ j:Nat,∀ hj:j < P.length,j < q→(P[j]).1 < c) (h2:∀ j:Nat,∀ hj:j < P.length,q≤j→c < (P[j]).1):Qd P c=true:=qc6 (by
  rintro⟨z,hz,e⟩
  obtain⟨j,hj,rfl⟩:=List.mem_iff_getElem.1 hz
  rcases Nat.lt_or_ge j q with h | h
  · have:=h1 j hj h;omega
  · have:=h2 j hj h;omega)
theorem qdt {p:Int} (hp:zi p=true) {w:Nat} (hw:w≤1000) {P:List (Nat×List Int)} (h:Rref p w P):∀ (d c q:Nat) (O:List (List Int)),c+d=w→q≤P.length→(∀ j:Nat,∀ hj:j < P.length,j < q→(P[j]).1 < c)→(∀ j:Nat,∀ hj:j < P.length,q≤j→c≤(P[j]).1)→O=(((List.range c).filter (Qd P)).map (Q1 p w P))→
    Ev (fun k=>qp.l0 k p (w:Int) (P.map Prod.snd) (P.map fun x=>(x.1:Int)) O (q:Int) (c:Int)) (redP p w 0 (Zn p w P) [])
  | 0,c,q,O,e,hq,h1,h2,hO=>by
    obtain rfl:c=w:=by omega
    have hb:=zx hp
    refine Ev.step (fun k=>by rw[qp.l0,if_neg (by omega)]) ?_
    have hlen:O.length < 1000000:=by
      rw[hO,List.length_map]
      have:=List.length_filter_le (Qd P) (List.range c)
      simp at this;omega
    have hok:=qah (p:=p) (by omega) h
    subst hO
    exact Ev.bind (qbr hp hw _ hok hlen) (Ev.now _)
  | d + 1, c, q, O, e, hq, h1, h2, hO => by
    have hle:=qfb h
    have hOl:O.length≤1000:=by
      rw[hO,List.length_map]
      have:=List.length_filter_le (Qd P) (List.range c)
      simp at this;omega
    have hsucc:(List.range (c+1)).filter (Qd P)=(List.range c).filter (Qd P)++(if Qd P c=true then [c] else []):=by
      rw[List.range_succ,List.filter_append]
      congr 1
      cases hf:Qd P c<;>simp[hf]
    have hnot:(∀ j:Nat,∀ hj:j < P.length,q≤j→c < (P[j]).1)→Ev (fun k=>qp.j1 k p (w:Int) (P.map Prod.snd) (P.map fun x=>(x.1:Int)) O (q:Int) (c:Int) false) (redP p w 0 (Zn p w P) []):=fun h3=>by
      have hf:=qmz h1 h3
      refine Ev.step (fun k=>by rw[qp.j1,if_neg (by simp)]) ?_
      refine(Ev.yes (by omega) (Ev.yes (by omega) (Ev.bind (a:=List.replicate w 0) (by simpa using Ev.now (List.replicate w (0:Int))) (Ev.yes (by omega) (Ev.yes (by simp;omega) ?_)))))
      have hend:=qdt hp hw h d (c+1) q (O++[Q1 p w P c]) (by omega) hq (fun j hj hjq=>by have:=h1 j hj hjq;omega) (fun j hj hjq=>by have:=h3 j hj hjq;omega) (by rw[hsucc,hf,hO];simp)
      have:=qix hp hw h (c:=c) (q:=q) (by omega) hOl (R:=redP p w 0 (Zn p w P) []) P.length 0 ((List.replicate w 0).set c 1) (Q1 p w P c) (by omega) (by simp) (by rw[List.drop_zero];rfl) hend
      simpa using this
    by_cases hql:q < P.length
    · refine Ev.step (fun k=>by rw[qp.l0,if_pos (by omega),if_pos (by rw[List.length_map];omega),if_pos (by omega),qg7 P q hql]) ?_
      by_cases hh:(P[q]).1=c
      · rw[show (((P[q]).1:Int) == (c:Int))=true from by simp[hh]]
        have hf:Qd P c=false:=by
          cases hf:Qd P c with
          | false=>rfl
          | true=>exact absurd hh (qa2 hf _ (List.getElem_mem hql))
        refine Ev.step (fun k=>by rw[qp.j1,if_pos rfl]) ?_
        rw[wsm (by omega) (by omega),wsm (by omega) (by omega)]
        refine qdt hp hw h d (c+1) (q+1) O (by omega) (by omega) (fun j hj hjq=>?_) (fun j hj hjq=>?_) (by rw[hsucc,hf,hO];simp)
        · rcases Nat.lt_succ_iff_lt_or_eq.1 hjq with h3 | h3
          · have:=h1 j hj h3;omega
          · subst h3;omega
        · have hlt:q < j:=by omega
          have:=(List.pairwise_iff_getElem.1 h.inc) q j hql hj hlt
          omega
      · rw[show (((P[q]).1:Int) == (c:Int))=false from by simp;omega]
        refine hnot fun j hj hjq=>?_
        have hq2:=h2 q hql (Nat.le_refl _)
        rcases Nat.lt_or_ge q j with h3 | h3
        · have:=(List.pairwise_iff_getElem.1 h.inc) q j hql hj h3
          omega
        · obtain rfl:j=q:=by omega
          omega
    · refine Ev.step (fun k=>by rw[qp.l0,if_pos (by omega),if_neg (by rw[List.length_map];omega)]) ?_
      exact hnot fun j hj hjq=>by omega
theorem qg1 {p:Int} (hp:zi p=true) {w:Nat} (hw:w≤1000) (L:List (List Int)) (hl:L.length < 1000000) (hL:okR p w L):Ev (fun k=>qp.f k p L (w:Int)) (Zk p w L):=by
  obtain⟨e1,e2,hP,_,_⟩:=J2 hp hL
  unfold qp.f
  refine Ev.bind (qbr hp hw L hL hl) ?_
  rw[e1,e2]
  have h:=qdt (p:=p) hp hw hP w 0 0 [] (by omega) (by omega) (fun j hj hjq=>absurd hjq (by omega)) (fun j hj _=>by omega) (by simp)
  simpa [Zk] using h
end Go.Proofs.Ytmgbpmihbljngaa.PA
namespace Go.Proofs.Ytmgbpmihbljngaa.PA
open Go.RowKit Go.Proofs.YtmgbpmihbljngaaW.PrintWords Go.Proofs.YtmgbpmihbljngaaW.PrintLast Go.Proofs.YtmgbpmihbljngaaW.PrintMore
set_option linter.unusedVariables false
set_option linter.unusedSimpArgs false
def sqR (p:Int) (t:Int×Int×Int):List Int:=[t.1*t.1 % p,t.1*t.2.1 % p,t.1*t.2.2 % p,t.2.1*t.2.1 % p,t.2.1*t.2.2 % p,t.2.2*t.2.2 % p]
theorem qpk {p:Int} (hp:zi p=true) (t:Int×Int×Int):(sqR p t).length=6∧∀ x∈sqR p t,0≤x∧x < p:=by
  have hb:=zx hp
  have hm:∀ y:Int,0≤y % p∧y % p < p:=fun y=>⟨Int.emod_nonneg _ (by omega),Int.emod_lt_of_pos _ (by omega)⟩
  refine⟨rfl,fun x hx=>?_⟩
  simp only[sqR,List.mem_cons,List.not_mem_nil,or_false]at hx
  rcases hx with rfl | rfl | rfl | rfl | rfl | rfl<;>exact hm _
theorem qd5 {p:Int} (hp:zi p=true) (Q:List (Int×Int×Int)):okR p 6 (Q.map (sqR p)):=fun r hr=>by
  obtain⟨t,_,rfl⟩:=List.mem_map.1 hr
  exact qpk hp t
theorem qct {p:Int} (hp:7≤p∧p≤31) (a:Int×Int×Int) (ha:inP p a):jt.f p a.1 a.2.1 a.2.2=some (sqR p a):=by
  obtain⟨a0,a1,a2⟩:=ha
  have m:∀ {x y:Int},(0≤x∧x < p)→(0≤y∧y < p)→Int.tmod (wrap64 (x*y)) p=x*y % p:=fun hx hy=>by
    have:=Qb hp hx hy
    rw[wsm (by omega) (by omega),Int.tmod_eq_emod_of_nonneg this.1]
  unfold jt.f
  rw[if_neg (by omega),m a0 a0,m a0 a1,m a0 a2,m a1 a1,m a1 a2,m a2 a2]
  rfl
theorem qec {p:Int} (hp:zi p=true) (l:List S43) (hl:l.length≤1000) (hin:∀ j,j < l.length→inP p ((tps l).getD j (0,0,0))):Ev (fun k=>zw.f k p l) (Zk p 6 ((tps l).map (sqR p))):=by
  have hb:=zx hp
  have hlen:(tps l).length=l.length:=by simp[tps]
  have h0:∀ (d i:Nat) (acc:List (List Int)),i+d=l.length→acc=((tps l).take i).map (sqR p)→Ev (fun q=>zw.l0 q p l acc (i:Int)) (Zk p 6 ((tps l).map (sqR p))):=by
    intro d
    induction d with
    | zero=>
      intro i acc hi ha
      refine Ev.step (fun q=>by rw[zw.l0,if_neg (by omega)]) ?_
      rw[List.take_of_length_le (by omega)]at ha
      subst ha
      have:=qg1 hp (w:=6) (by omega) _ (by rw[List.length_map];omega) (qd5 hp (tps l))
      exact Ev.bind this (Ev.now _)
    | succ d ih=>
      intro i acc hi ha
      have hil:i < l.length:=by omega
      have e:jt.f p (qd l (i:Int)).f0.f0 (qd l (i:Int)).f0.f1 (qd l (i:Int)).f0.f2=some (sqR p ((tps l).getD i (0,0,0))):=by
        have:=qct (p:=p) ⟨by omega,by omega⟩ _ (hin i hil)
        rw[← Jn l i hil]at this ⊢
        exact this
      have hal:acc.length≤1000:=by rw[ha,List.length_map,List.length_take];omega
      refine Ev.step (fun q=>by rw[zw.l0,if_pos (by omega),if_pos (by omega),e,Option.bind_some,if_pos (by omega),wsm (by omega) (by omega)]) ?_
      refine ih (i+1) _ (by omega) ?_
      rw[ha,List.take_add_one,List.map_append,List.getD_eq_getElem?_getD,List.getElem?_eq_getElem (by omega)]
      rfl
  unfold zw.f
  exact h0 l.length 0 [] (by omega) (by simp)
def genB (p:Int) (Q:List (Int×Int×Int)):Bool:=decide (Q.length=6) && J3 p Q && (Zk p 6 (Q.map (sqR p))).isEmpty
theorem jn {p:Int} {Q:List (Int×Int×Int)} (h:genB p Q=true):zi p=true∧Q.length=6∧J3 p Q=true∧Zk p 6 (Q.map (sqR p))=[]:=by
  rw[genB,Bool.and_eq_true,Bool.and_eq_true,decide_eq_true_iff]at h
  obtain⟨⟨h1,h2⟩,h3⟩:=h
  refine⟨?_,h1,h2,by simpa using h3⟩
  cases hp:zi p with
  | true=>rfl
  | false=>rw[qdm hp Q (by omega)]at h2;exact absurd h2 (by simp)
theorem qej (p:Int) (l:List S43):Ev (fun k=>js.f k p l) (genB p (tps l)):=by
  have hlen:(tps l).length=l.length:=by simp[tps]
  unfold js.f
  by_cases h6:l.length=6
  · refine Ev.yes (by omega) ?_
    rw[genB,hlen,decide_eq_true h6,Bool.true_and]
    cases hp:zi p with
    | false=>
      rw[qdm hp _ (by omega)]
      exact Ev.bind (qhu hp l (by omega)) (Ev.no (by simp) (Ev.now _))
    | true=>
      refine Ev.bind (qk1 hp l (by omega)) ?_
      cases ha:J3 p (tps l) with
      | false=>exact Ev.no (by simp) (Ev.now _)
      | true=>
        refine Ev.yes rfl (Ev.bind (qec hp l (by omega) fun j hj=>qai ((Z4 ha).1 j (by omega))) ?_)
        have e:((((Zk p 6 ((tps l).map (sqR p))).length:Int)) == 0)=(true && (Zk p 6 ((tps l).map (sqR p))).isEmpty):=by
          cases Zk p 6 ((tps l).map (sqR p)) with
          | nil=>rfl
          | cons a t=>simp;omega
        rw[e]
        exact Ev.now _
  · refine Ev.no (by omega) ?_
    rw[genB,hlen,decide_eq_false h6]
    exact Ev.now _
end Go.Proofs.Ytmgbpmihbljngaa.PA
namespace Go.Proofs.Ytmgbpmihbljngaa.PA
open Go.RowKit Go.Proofs.YtmgbpmihbljngaaW.PrintWords Go.Proofs.YtmgbpmihbljngaaW.PrintLast Go.Proofs.YtmgbpmihbljngaaW.PrintMore
set_option linter.unusedVariables false
set_option linter.unusedSimpArgs false
end Go.Proofs.Ytmgbpmihbljngaa.PA
namespace Go.Proofs.Ytmgbpmihbljngaa.PA
open Go.RowKit Go.Proofs.YtmgbpmihbljngaaW.PrintWords Go.Proofs.YtmgbpmihbljngaaW.PrintLast Go.Proofs.YtmgbpmihbljngaaW.PrintMore
set_option linter.unusedVariables false
set_option linter.unusedSimpArgs false
theorem Zd {p:Int} {Q:List (Int×Int×Int)} (h:genB p Q=true):gen3 (ptL p Q):=by
  obtain⟨hp,h6,ha,_⟩:=jn h
  refine qpu fun i j k hi hj hk=>?_
  have hc:=(Z4 ha).2 i j k (by omega) hj hk
  intro e
  rw[colB,beq_eq_false_iff_ne]at hc
  refine hc (Int.emod_eq_zero_of_dvd ?_)
  rw[← Jg hp]
  simp only[qaw,qau,qkq]
  simp only[ev3,qu,ptL,p3]at e
  grind
theorem qdd {p:Int} {Q:List (Int×Int×Int)} (hp:zi p=true) (i:Nat) (hi:i < (basP p Q).length):((basP p Q).getD i []).length=10∧∀ x∈(basP p Q).getD i [],0≤x∧x < p:=by
  obtain⟨N,e,hN,_,_⟩:=Zi hp (qdu hp Q)
  have hm:=Q5 hi
  rw[basP,e]at hm
  obtain⟨z,hz,ez⟩:=List.mem_map.1 hm
  rw[basP,e,← ez]
  exact hN.ok z hz
end Go.Proofs.Ytmgbpmihbljngaa.PA
namespace Go.Proofs.Ytmgbpmihbljngaa.PA
open Go.RowKit Go.Proofs.YtmgbpmihbljngaaW.PrintWords Go.Proofs.YtmgbpmihbljngaaW.PrintLast Go.Proofs.YtmgbpmihbljngaaW.PrintMore
set_option linter.unusedVariables false
set_option linter.unusedSimpArgs false
def imgP (p:Int) (Q:List (Int×Int×Int)) (t:Int×Int×Int):List Int:=(basP p Q).map fun r=>dotP p r (cubR p t)
theorem qb6 {p:Int} (hp:zi p=true) (Q:List (Int×Int×Int)) (t:Int×Int×Int):∀ x∈imgP p Q t,0≤x∧x < p:=fun x hx=>by
  have hb:=zx hp
  obtain⟨r,_,rfl⟩:=List.mem_map.1 hx
  exact⟨Int.emod_nonneg _ (by omega),Int.emod_lt_of_pos _ (by omega)⟩
theorem qj9 {p:Int} {Q:List (Int×Int×Int)} (hg:genB p Q=true) (t:Int×Int×Int) (ht:inP p t):Ev (fun k=>je.f k p (basP p Q) t.1 t.2.1 t.2.2) (imgP p Q t):=by
  obtain⟨hp,h6,_,_⟩:=jn hg
  have hb:=zx hp
  have hl:=qao hp h6 (Zd hg)
  have hrow:=fun i hi=>qdd (Q:=Q) hp i hi
  have hend:imgP p Q t=((basP p Q).map fun r=>dotP p r (cubR p t)):=rfl
  generalize imgP p Q t=M at*
  generalize basP p Q=B at*
  have h0:∀ (d i:Nat) (acc:List Int),i+d=4→acc=(B.take i).map (fun r=>dotP p r (cubR p t))→Ev (fun k=>je.l0 k p B acc (cubR p t) (i:Int)) M:=by
    intro d
    induction d with
    | zero=>
      intro i acc hi ha
      rw[List.take_of_length_le (by omega),← hend]at ha
      subst ha
      exact Ev.step (f:=fun _=>some acc) (fun q=>by rw[je.l0,if_neg (by omega)]) (Ev.now _)
    | succ d ih=>
      intro i acc hi ha
      have hal:acc.length≤1000:=by rw[ha,List.length_map,List.length_take];omega
      have hd:=qo4 hp (B.getD i []) (cubR p t) (hrow i (by omega)) (qlq hp t)
      refine Ev.step (fun q=>by rw[je.l0,if_pos (by omega),if_pos (by omega),qbi]) ?_
      refine Ev.bind hd (Ev.yes (show acc.length < 17592186044416 by omega) ?_)
      rw[wsm (by omega) (by omega)]
      refine ih (i+1) _ (by omega) ?_
      rw[ha,List.take_add_one,List.map_append,List.getD_eq_getElem?_getD,List.getElem?_eq_getElem (by omega)]
      rfl
  unfold je.f
  exact Ev.bind (qce (p:=p) ⟨by omega,by omega⟩ t ht) (h0 4 0 [] rfl rfl)
end Go.Proofs.Ytmgbpmihbljngaa.PA
namespace Go.Proofs.Ytmgbpmihbljngaa.PA
open Go.RowKit Go.Proofs.YtmgbpmihbljngaaW.PrintWords Go.Proofs.YtmgbpmihbljngaaW.PrintLast Go.Proofs.YtmgbpmihbljngaaW.PrintMore
set_option linter.unusedVariables false
set_option linter.unusedSimpArgs false
def curP (p:Int) (Q L:List (Int×Int×Int)):List (List Int):=(L.map (imgP p Q)).filter fun r=>!(r.all fun x=>x == 0)
theorem qfj {p:Int} {Q:List (Int×Int×Int)} (hg:genB p Q=true) (t:Int×Int×Int):(imgP p Q t).length=4:=by
  unfold imgP
  rw[List.length_map]
  exact qao (jn hg).1 (jn hg).2.1 (Zd hg)
theorem qbb {p:Int} {Q:List (Int×Int×Int)} (hg:genB p Q=true) (L:List (Int×Int×Int)):okR p 4 (curP p Q L):=fun r hr=>by
  unfold curP at hr
  rw[List.mem_filter]at hr
  obtain⟨t,_,rfl⟩:=List.mem_map.1 hr.1
  exact⟨qfj hg t,qb6 (jn hg).1 Q t⟩
theorem qi7 (p:Int) (Q L:List (Int×Int×Int)):(curP p Q L).length≤L.length:=by
  unfold curP
  refine Nat.le_trans (List.length_filter_le _ _) ?_
  rw[List.length_map]
  exact Nat.le_refl _
theorem qds {p:Int} {Q:List (Int×Int×Int)} (hg:genB p Q=true) (L:List S43) (hl:L.length≤1000000) (hin:∀ t∈tps L,inP p t):∀ (d i:Nat) (acc:List (List Int)),i+d=L.length→acc.length≤i→Ev (fun k=>z9.l0 k p (basP p Q) L acc (i:Int)) (acc++curP p Q ((tps L).drop i))
  | 0,i,acc,h,ha=>by
    rw[List.drop_eq_nil_of_le (by unfold tps;rw[List.length_map];omega)]
    simp only[curP,List.map_nil,List.filter_nil,List.append_nil]
    exact Ev.step (f:=fun _=>some acc) (fun k=>by rw[z9.l0,if_neg (by omega)]) (Ev.now _)
  | d + 1, i, acc, h, ha => by
    have hi:i < (tps L).length:=by unfold tps;rw[List.length_map];omega
    have e1:tpl (qd L (i:Int))=(tps L)[i]:=by
      rw[Jn L i (by omega),List.getD_eq_getElem?_getD,List.getElem?_eq_getElem hi]
      rfl
    have hx:inP p (tpl (qd L (i:Int))):=by rw[e1];exact hin _ (List.getElem_mem hi)
    have him:=qj9 hg _ hx
    rw[List.drop_eq_getElem_cons hi,← e1]
    have hlen:=qfj hg (tpl (qd L (i:Int)))
    have hz:=qgl (imgP p Q (tpl (qd L (i:Int)))) (by omega)
    refine Ev.step (f:=fun k=>(je.f k p (basP p Q) (tpl (qd L (i:Int))).1 (tpl (qd L (i:Int))).2.1 (tpl (qd L (i:Int))).2.2).bind fun t379=>(zl.f k t379).bind fun t382=>if t382=true then z9.l0 k p (basP p Q) L acc ((i+1:Nat):Int) else if acc.length < 5864062014805 then z9.l0 k p (basP p Q) L (acc++[t379]) ((i+1:Nat):Int) else none) (fun k=>?_) ?_
    · rw[z9.l0,if_pos (by omega),if_pos (by omega),wsm (by omega) (by omega)]
      rfl
    · refine Ev.bind him (Ev.bind hz ?_)
      cases hb:(imgP p Q (tpl (qd L (i:Int)))).all fun x=>x == 0 with
      | true=>
        have e:curP p Q (tpl (qd L (i:Int)) :: (tps L).drop (i+1))=curP p Q ((tps L).drop (i+1)):=by
          unfold curP
          rw[List.map_cons,List.filter_cons_of_neg (by rw[hb];simp)]
        rw[e]
        exact Ev.yes rfl (qds hg L hl hin d (i+1) acc (by omega) (by omega))
      | false=>
        have e:curP p Q (tpl (qd L (i:Int)) :: (tps L).drop (i+1))=[imgP p Q (tpl (qd L (i:Int)))]++curP p Q ((tps L).drop (i+1)):=by
          unfold curP
          rw[List.map_cons,List.filter_cons_of_pos (by rw[hb];rfl)]
          rfl
        rw[e,← List.append_assoc]
        exact Ev.no (by simp) (Ev.yes (by omega) (qds hg L hl hin d (i+1) _ (by omega) (by rw[List.length_append,List.length_singleton];omega)))
theorem qfe {p:Int} {Q:List (Int×Int×Int)} (hg:genB p Q=true) (six L:List S43) (hl:L.length≤1000000) (hin:∀ t∈tps L,inP p t):Ev (fun k=>z9.f k p six (basP p Q) L) (curP p Q (tps L)):=by
  have h:=qds hg L hl hin L.length 0 [] (by omega) (by simp)
  unfold z9.f
  simpa using h
end Go.Proofs.Ytmgbpmihbljngaa.PA
namespace Go.Proofs.Ytmgbpmihbljngaa.PA
open Go.RowKit Go.Proofs.YtmgbpmihbljngaaW.PrintWords Go.Proofs.YtmgbpmihbljngaaW.PrintLast Go.Proofs.YtmgbpmihbljngaaW.PrintMore
set_option linter.unusedVariables false
set_option linter.unusedSimpArgs false
theorem qnk {p:Int} (hp:zi p=true) (w:Nat) (hw:w≤100) (a b:List Int) (ha:a.length=w∧∀ x∈a,0≤x∧x < p) (hb:b.length=w∧∀ x∈b,0≤x∧x < p):Ev (fun k=>jf.f k p a b) (dt w (fn a) (fn b) % p):=by
  have h0:=zx hp
  have la:=ha.1
  have lb:=hb.1
  have hl:∀ (d i:Nat),i+d=w→Ev (fun k=>jf.l0 k p a b (dt i (fn a) (fn b) % p) (i:Int)) (dt w (fn a) (fn b) % p):=by
    intro d
    induction d with
    | zero=>
      intro i hi
      obtain rfl:i=w:=by omega
      exact Ev.step (f:=fun _=>some (dt i (fn a) (fn b) % p)) (fun q=>by rw[jf.l0,if_neg (by omega)]) (Ev.now _)
    | succ d ih=>
      intro i hi
      have b1:=Zs ha i (by omega)
      have b2:=Zs hb i (by omega)
      have b3:=Qb (p:=p) ⟨by omega,by omega⟩ b1 b2
      have b4:=Int.emod_nonneg (dt i (fn a) (fn b)) (show p≠0 by omega)
      have b5:=Int.emod_lt_of_pos (dt i (fn a) (fn b)) (show (0:Int) < p by omega)
      have r1:rd a (i:Int)=fn a i:=rfl
      have r2:rd b (i:Int)=fn b i:=rfl
      refine Ev.step (fun q=>by rw[jf.l0,if_pos (by omega),if_pos (by omega),if_pos (by omega),if_neg (by omega),r1,r2,wsm (i:=fn a i*fn b i) (by omega) (by omega),wsm (i:=_ +_) (by omega) (by omega),Int.tmod_eq_emod_of_nonneg (by omega),Int.emod_add_emod,← Z6,wsm (by omega) (by omega)]) ?_
      exact ih (i+1) (by omega)
  unfold jf.f
  have:=hl w 0 (by omega)
  rwa [qba,Int.zero_emod]at this
def vX (c:Nat):Int×Int×Int:=(l7V c 0,l7V c 1,l7V c 2)
theorem qka (c q:Nat):0≤l7V c q∧l7V c q≤1:=by
  unfold l7V
  split<;>omega
theorem vX_in {p:Int} (hp:7≤p∧p≤31) (c:Nat):inP p (vX c):=by
  have h0:=qka c 0
  have h1:=qka c 1
  have h2:=qka c 2
  exact⟨⟨h0.1,show l7V c 0 < p by omega⟩,⟨h1.1,show l7V c 1 < p by omega⟩,⟨h2.1,show l7V c 2 < p by omega⟩⟩
def rowS (p:Int) (B:List (List Int)) (x:Int×Int×Int) (c:Nat):List Int:=(List.range 4).map fun i=>slpP p (B.getD i []) x (vX c)
theorem qll {p:Int} (hp:7≤p∧p≤31) {B:List (List Int)} (h4:B.length=4) (hB:∀ i,i < 4→(B.getD i []).length=10∧∀ x∈B.getD i [],0≤x∧x < p) (X:S43) (hx:inP p (tpl X)) (c:Nat):∀ (d i:Nat) (acc:List Int),i+d=4→Ev (fun k=>l7Ra k p B X c d i acc) (acc++(List.range' i d).map fun i=>slpP p (B.getD i []) (tpl X) (vX c))
  | 0,i,acc,_=>by
    simp only[l7Ra,List.range'_zero,List.map_nil,List.append_nil]
    exact Ev.now _
  | d+1,i,acc,h=>by
    simp only[l7Ra,if_pos (show i < B.length by omega)]
    refine Ev.bind (qkn hp hx (vX_in hp c) _ (hB i (by omega))) ?_
    have ih:=qll hp h4 hB X hx c d (i+1) (acc++[slpP p (B.getD i []) (tpl X) (vX c)]) (by omega)
    rw[List.append_assoc]at ih
    rw[List.range'_succ,List.map_cons]
    exact ih
theorem ql4 {p:Int} (hp:7≤p∧p≤31) {B:List (List Int)} (h4:B.length=4) (hB:∀ i,i < 4→(B.getD i []).length=10∧∀ x∈B.getD i [],0≤x∧x < p) (X:S43) (hx:inP p (tpl X)):∀ (d c:Nat) (acc:List (List Int)),Ev (fun k=>l7Rs k p B X d c acc) (acc++(List.range' c d).map (rowS p B (tpl X)))
  | 0,c,acc=>by
    simp only[l7Rs,List.range'_zero,List.map_nil,List.append_nil]
    exact Ev.now _
  | d+1,c,acc=>by
    have hr:=qll hp h4 hB X hx c 4 0 [] rfl
    rw[List.nil_append,← List.range_eq_range']at hr
    simp only[l7Rs]
    refine Ev.bind hr ?_
    have ih:=ql4 hp h4 hB X hx d (c+1) (acc++[rowS p B (tpl X) c])
    rw[List.append_assoc]at ih
    rw[List.range'_succ,List.map_cons]
    exact ih
theorem qhf {α:Type} {t:Nat→α→Option Bool} {g:α→Bool}:∀ (l acc:List α),(∀ x∈l,Ev (fun k=>t k x) (g x))→Ev (fun k=>filO (t k) l acc) (acc++l.filter g)
  | [],acc,_=>by
    simp only[filO,List.filter_nil,List.append_nil]
    exact Ev.now _
  | x :: xs,acc,h=>by
    simp only[filO]
    refine Ev.bind (h x (List.mem_cons_self ..)) ?_
    have ih:=qhf (t:=t) (g:=g) xs (if g x=true then acc++[x] else acc) fun y hy=>h y (List.mem_cons_of_mem _ hy)
    cases hb:g x with
    | true=>
      rw[hb,if_pos rfl]at ih
      rw[List.filter_cons_of_pos hb,if_pos rfl]
      rw[List.append_assoc]at ih
      exact ih
    | false=>
      rw[hb,if_neg (by simp)]at ih
      rw[List.filter_cons_of_neg (by simp[hb]),if_neg (by simp)]
      exact ih
theorem qhy (M:Nat→Int) (six:List S43):∀ (d i:Nat) (acc:List S43),i+d=six.length→l7En M six d i acc=some (acc++((List.range' i d).filter fun q=>M q == 1).map (l7Pt six))
  | 0,i,acc,_=>by simp[l7En]
  | d + 1, i, acc, h => by
    rw[l7En,List.range'_succ]
    by_cases hm:M i=1
    · rw[if_pos hm,if_pos (by omega),qhy M six d (i+1) _ (by omega),List.filter_cons_of_pos (by simp[hm]),List.append_assoc]
      rfl
    · rw[if_neg hm,qhy M six d (i+1) _ (by omega),List.filter_cons_of_neg (by simp[hm])]
def endA (kk:Int):Nat:=(l1T.getD (kk - 6).toNat (0,0)).1
def endB (kk:Int):Nat:=(l1T.getD (kk - 6).toNat (0,0)).2
theorem qpe :∀ n:Nat,n < 15→((List.range' 0 6).filter fun q=>l1M ((n:Int)+6) q == 1)=[endA ((n:Int)+6),endB ((n:Int)+6)]∧endA ((n:Int)+6) < 6∧endB ((n:Int)+6) < 6:=by decide+kernel
theorem qhj {kk:Int} (h:6≤kk∧kk < 21):((List.range' 0 6).filter fun q=>l1M kk q == 1)=[endA kk,endB kk]∧endA kk < 6∧endB kk < 6:=by
  have:=qpe (kk - 6).toNat (by omega)
  rwa [show ((kk - 6).toNat:Int)+6=kk by omega]at this
theorem ql6 {p:Int} (hp:zi p=true) {w:Nat} {L:List (List Int)} (hL:okR p w L):okR p w (Zk p w L):=by
  obtain⟨N,e,hN,_,_⟩:=Zi hp hL
  rw[e]
  intro r hr
  obtain⟨x,hx,rfl⟩:=List.mem_map.1 hr
  exact hN.ok x hx
def conP (p:Int) (Q:List (Int×Int×Int)) (kk:Int):List Int:=(Zk p 6 ((Q.take (kk - 21).toNat++Q.drop (kk - 20).toNat).map (sqR p))).getD 0 []
def linR (p:Int) (Q:List (Int×Int×Int)) (kk:Int):List (List Int):=
  if kk < 6 then (List.range 3).map (rowS p (basP p Q) (Q.getD kk.toNat (0,0,0)))
  else if kk < 21 then curP p Q ((allP p.toNat).filter (colB p (Q.getD (endA kk) (0,0,0)) (Q.getD (endB kk) (0,0,0))))
  else curP p Q ((allP p.toNat).filter fun t=>dt 6 (fn (conP p Q kk)) (fn (sqR p t)) % p == 0)
theorem qmr {p:Int} (hp:0 < p) (a:List Int) (x v:Int×Int×Int):0≤slpP p a x v∧slpP p a x v < p:=⟨Int.emod_nonneg _ (by omega),Int.emod_lt_of_pos _ (by omega)⟩
theorem qdc {p:Int} {Q:List (Int×Int×Int)} (hg:genB p Q=true) (kk:Int):okR p 4 (linR p Q kk):=by
  have hb:=zx (jn hg).1
  unfold linR
  split
  · intro r hr
    obtain⟨c,_,rfl⟩:=List.mem_map.1 hr
    refine⟨by simp[rowS],fun x hx=>?_⟩
    obtain⟨i,_,rfl⟩:=List.mem_map.1 hx
    exact qmr (by omega) _ _ _
  · split
    · exact qbb hg _
    · exact qbb hg _
theorem qpp {p:Int} {Q:List (Int×Int×Int)} (hg:genB p Q=true) (kk:Int):(linR p Q kk).length < 1000000:=by
  have hb:=zx (jn hg).1
  have hs:=qag (p:=p) (by omega)
  unfold linR
  split
  · simp
  · split
    · have h1:=qi7 p Q ((allP p.toNat).filter (colB p (Q.getD (endA kk) (0,0,0)) (Q.getD (endB kk) (0,0,0))))
      have h2:=List.length_filter_le (colB p (Q.getD (endA kk) (0,0,0)) (Q.getD (endB kk) (0,0,0))) (allP p.toNat)
      omega
    · have h1:=qi7 p Q ((allP p.toNat).filter fun t=>dt 6 (fn (conP p Q kk)) (fn (sqR p t)) % p == 0)
      have h2:=List.length_filter_le (fun t=>dt 6 (fn (conP p Q kk)) (fn (sqR p t)) % p == 0) (allP p.toNat)
      omega
def qgq (p:Int) (Q:List (Int×Int×Int)) (kk:Int):List Int:=if Zm p 4 (linR p Q kk)=2 then qby p 4 (linR p Q kk) else []
theorem qf2 {p:Int} {Q:List (Int×Int×Int)} (hg:genB p Q=true) (i:Nat) (hi:i < 6):inP p (Q.getD i (0,0,0)):=by
  obtain⟨_,h6,ha,_⟩:=jn hg
  exact qai ((Z4 ha).1 i (by omega))
theorem qow (L:List (Int×Int×Int)) (g:S43→Bool):(L.map mkT).filter g=(L.filter fun t=>g (mkT t)).map mkT:=by
  rw[List.filter_map]
  rfl
theorem qnr {p:Int} (l:List S43) (hg:genB p (tps l)=true) {kk:Int} (h0:0≤kk) (h1:kk≤26):Ev (fun k=>qf6 k p l (basP p (tps l)) kk ((allP p.toNat).map mkT)) (linR p (tps l) kk):=by
  obtain⟨hp,h6,ha,_⟩:=jn hg
  have hb:=zx hp
  have hb':7≤p∧p≤31:=⟨by omega,by omega⟩
  have hl:l.length=6:=by unfold tps at h6;rwa [List.length_map]at h6
  have hin:=qdi hb'
  have hin':∀ x∈(allP p.toNat).map mkT,inP p (tpl x):=fun x hx=>by
    obtain⟨t,ht,rfl⟩:=List.mem_map.1 hx
    exact hin t ht
  have hbl:=qao hp h6 (Zd hg)
  unfold qf6 linR
  by_cases c6:kk < 6
  · have hk:0≤kk∧kk < l.length:=⟨h0,by omega⟩
    simp only[if_pos c6,if_pos hk]
    have et:tpl (qd l kk)=(tps l).getD kk.toNat (0,0,0):=by
      have:=Jn l kk.toNat (by omega)
      rwa [show (kk.toNat:Int)=kk by omega]at this
    have h:=ql4 hb' hbl (fun i hi=>qdd hp i (by omega)) (qd l kk) (by rw[et];exact qf2 hg _ (by omega)) 3 0 []
    rw[List.nil_append,← List.range_eq_range',et]at h
    exact h
  · by_cases c21:kk < 21
    · obtain⟨e1,e2,e3⟩:=qhj (kk:=kk) ⟨by omega,c21⟩
      simp only[if_neg c6,if_pos c21]
      have en:=qhy (l1M kk) l 6 0 [] (by omega)
      rw[e1,List.nil_append]at en
      have t1:tpl (l7Pt l (endA kk))=(tps l).getD (endA kk) (0,0,0):=Jn l (endA kk) (by omega)
      have t2:tpl (l7Pt l (endB kk))=(tps l).getD (endB kk) (0,0,0):=Jn l (endB kk) (by omega)
      have i1:=qf2 hg (endA kk) e2
      have i2:=qf2 hg (endB kk) e3
      have hc:=qf7 hb' (tpl (l7Pt l (endA kk))) (tpl (l7Pt l (endB kk))) (by rw[t1];exact i1) (by rw[t2];exact i2)
      refine Ev.bind (a:=[l7Pt l (endA kk),l7Pt l (endB kk)]) (Ev.k en) (Ev.yes (by simp) (Ev.bind (Ev.k hc) ?_))
      rw[t1,t2]
      have hf:=qhf (t:=fun _ (x:S43)=>Zl.f p x.f0.f0 x.f0.f1 x.f0.f2 (crsP p ((tps l).getD (endA kk) (0,0,0)) ((tps l).getD (endB kk) (0,0,0)))) (g:=fun x=>colB p ((tps l).getD (endA kk) (0,0,0)) ((tps l).getD (endB kk) (0,0,0)) (tpl x)) ((allP p.toNat).map mkT) [] fun x hx=>Ev.k (qj2 hb' _ _ (tpl x) (hin' x hx))
      rw[List.nil_append,qow]at hf
      refine Ev.bind hf ?_
      have hs:=qag hb'
      have hle:=List.length_filter_le (fun t=>colB p ((tps l).getD (endA kk) (0,0,0)) ((tps l).getD (endB kk) (0,0,0)) (tpl (mkT t))) (allP p.toNat)
      have hv:=qfe hg l (((allP p.toNat).filter fun t=>colB p ((tps l).getD (endA kk) (0,0,0)) ((tps l).getD (endB kk) (0,0,0)) (tpl (mkT t))).map mkT) (by rw[List.length_map];omega) (by rw[qhx];exact fun t ht=>hin t (List.mem_filter.1 ht).1)
      rw[qhx]at hv
      exact hv
    · have hk:kk - 20≤l.length:=by omega
      simp only[if_neg c6,if_neg c21,if_pos hk]
      have hlen:(l.take (kk - 21).toNat++l.drop (kk - 20).toNat).length=5:=by rw[List.length_append,List.length_take,List.length_drop];omega
      have et:tps (l.take (kk - 21).toNat++l.drop (kk - 20).toNat)=(tps l).take (kk - 21).toNat++(tps l).drop (kk - 20).toNat:=by
        unfold tps
        rw[List.map_append,List.map_take,List.map_drop]
      have hmem:∀ t∈tps l,inP p t:=fun t ht=>by
        obtain⟨i,hi,rfl⟩:=List.getElem_of_mem ht
        have:=qf2 hg i (by omega)
        rwa [List.getD_eq_getElem?_getD,List.getElem?_eq_getElem hi]at this
      have hall:∀ t∈tps (l.take (kk - 21).toNat++l.drop (kk - 20).toNat),inP p t:=by
        rw[et]
        intro t ht
        rcases List.mem_append.1 ht with h | h
        · exact hmem _ (List.mem_of_mem_take h)
        · exact hmem _ (List.mem_of_mem_drop h)
      have hc:=qec hp (l.take (kk - 21).toNat++l.drop (kk - 20).toNat) (by omega) (fun j hj=>by
        have hj':j < (tps (l.take (kk - 21).toNat++l.drop (kk - 20).toNat)).length:=by unfold tps;rw[List.length_map];omega
        rw[List.getD_eq_getElem?_getD,List.getElem?_eq_getElem hj']
        exact hall _ (List.getElem_mem hj'))
      rw[et]at hc
      have ok:=qd5 hp ((tps l).take (kk - 21).toNat++(tps l).drop (kk - 20).toNat)
      have hr:=qc4 (p:=p) (w:=6) (((tps l).take (kk - 21).toNat++(tps l).drop (kk - 20).toNat).map (sqR p))
      rw[List.length_map,← et]at hr
      have hl5:(tps (l.take (kk - 21).toNat++l.drop (kk - 20).toNat)).length=5:=by unfold tps;rw[List.length_map];omega
      rw[et]at hr hl5
      have hne:=qdf hp ok (by omega)
      have hpos:0 < (Zk p 6 (((tps l).take (kk - 21).toNat++(tps l).drop (kk - 20).toNat).map (sqR p))).length:=List.length_pos_iff.2 hne
      have hco:(conP p (tps l) kk).length=6∧∀ x∈conP p (tps l) kk,0≤x∧x < p:=by
        unfold conP
        rw[List.getD_eq_getElem?_getD,List.getElem?_eq_getElem hpos]
        exact ql6 hp ok _ (List.getElem_mem hpos)
      refine Ev.bind hc (Ev.yes hpos ?_)
      have hf:=qhf (t:=fun k (x:S43)=>(jt.f p x.f0.f0 x.f0.f1 x.f0.f2).bind fun s=>(jf.f k p (conP p (tps l) kk) s).bind fun t=>some (t == 0)) (g:=fun x=>dt 6 (fn (conP p (tps l) kk)) (fn (sqR p (tpl x))) % p == 0) ((allP p.toNat).map mkT) [] fun x hx=>Ev.bind (Ev.k (qct hb' (tpl x) (hin' x hx))) (Ev.bind (qnk hp 6 (by omega) _ _ hco (qpk hp (tpl x))) (Ev.now _))
      rw[List.nil_append,qow]at hf
      refine Ev.bind hf ?_
      have hs:=qag hb'
      have hle:=List.length_filter_le (fun t=>dt 6 (fn (conP p (tps l) kk)) (fn (sqR p (tpl (mkT t)))) % p == 0) (allP p.toNat)
      have hv:=qfe hg l (((allP p.toNat).filter fun t=>dt 6 (fn (conP p (tps l) kk)) (fn (sqR p (tpl (mkT t)))) % p == 0).map mkT) (by rw[List.length_map];omega) (by rw[qhx];exact fun t ht=>hin t (List.mem_filter.1 ht).1)
      rw[qhx]at hv
      exact hv
theorem qnp {p:Int} (l:List S43) (hg:genB p (tps l)=true) {kk:Int} (h0:0≤kk) (h1:kk≤26):Ev (fun k=>zq.f k p l (basP p (tps l)) kk) (qgq p (tps l) kk):=by
  obtain⟨hp,h6,_,_⟩:=jn hg
  have hb:=zx hp
  have hl:l.length=6:=by unfold tps at h6;rwa [List.length_map]at h6
  have hs:=qag (p:=p) (by omega)
  have ho:=qq1 hp (qdc hg kk) (qpp hg kk)
  unfold zq.f qgq
  refine Ev.yes (by omega) (Ev.bind (qpm (by omega)) (Ev.yes (by rw[List.length_map];omega) (Ev.bind (qnr l hg h0 h1) (Ev.bind ho ?_))))
  split
  · exact Ev.now _
  · exact Ev.now _
end Go.Proofs.Ytmgbpmihbljngaa.PA
namespace Go.Proofs.Ytmgbpmihbljngaa.PA
open Go.RowKit Go.Proofs.YtmgbpmihbljngaaW.PrintWords Go.Proofs.YtmgbpmihbljngaaW.PrintLast Go.Proofs.YtmgbpmihbljngaaW.PrintMore
set_option linter.unusedVariables false
set_option linter.unusedSimpArgs false
theorem qpx (a b c:Int):j9.f a b c=some (decide (b≤a) && decide (a≤c)):=by
  unfold j9.f
  by_cases h:a≥b
  · rw[if_pos h,decide_eq_true (show b≤a from h),Bool.true_and]
  · rw[if_neg h,decide_eq_false (show ¬ b≤a from h),Bool.false_and]
end Go.Proofs.Ytmgbpmihbljngaa.PA
namespace Go.Proofs.Ytmgbpmihbljngaa.PA
open Go.RowKit Go.Proofs.YtmgbpmihbljngaaW.PrintWords Go.Proofs.YtmgbpmihbljngaaW.PrintLast Go.Proofs.YtmgbpmihbljngaaW.PrintMore
set_option linter.unusedVariables false
set_option linter.unusedSimpArgs false
theorem qm9 {p:Int} (hp:zi p=true) (l:List S43) (hl:l.length=6) (hin:∀ j,j < l.length→inP p ((tps l).getD j (0,0,0))):Ev (fun k=>jm.f k p l) (basP p (tps l)):=by
  have hb:=zx hp
  have hlen:(tps l).length=l.length:=by simp[tps]
  have h0:∀ (d i:Nat) (acc:List (List Int)),i+d=6→acc=((tps l).take i).map (cubR p)→Ev (fun q=>jm.l0 q p l acc (i:Int)) (basP p (tps l)):=by
    intro d
    induction d with
    | zero=>
      intro i acc hi ha
      refine Ev.step (fun q=>by rw[jm.l0,if_neg (by omega)]) ?_
      rw[List.take_of_length_le (by omega)]at ha
      subst ha
      have:=qg1 hp (w:=10) (by omega) _ (by rw[List.length_map];omega) (qdu hp (tps l))
      exact Ev.bind this (Ev.now _)
    | succ d ih=>
      intro i acc hi ha
      have hil:i < l.length:=by omega
      have hal:acc.length≤1000:=by rw[ha,List.length_map,List.length_take];omega
      have e:Ev (fun k=>qr.f k p (qd l (i:Int)).f0.f0 (qd l (i:Int)).f0.f1 (qd l (i:Int)).f0.f2) (cubR p (tpl (qd l (i:Int)))):=qce (p:=p) ⟨by omega,by omega⟩ (tpl (qd l (i:Int))) (by rw[Jn l i hil];exact hin i hil)
      refine Ev.step (fun q=>by rw[jm.l0,if_pos (by omega),if_pos (by omega),if_pos (by omega)]) (Ev.bind e ?_)
      refine Ev.yes (show acc.length < 5864062014805 by omega) ?_
      rw[wsm (by omega) (by omega)]
      refine ih (i+1) _ (by omega) ?_
      rw[ha,List.take_add_one,List.map_append,List.getElem?_eq_getElem (by omega),Jn l i hil,List.getD_eq_getElem?_getD,List.getElem?_eq_getElem (by omega)]
      rfl
  unfold jm.f
  exact h0 6 0 [] (by omega) (by simp)
end Go.Proofs.Ytmgbpmihbljngaa.PA
namespace Go.Proofs.Ytmgbpmihbljngaa.PA
open Go.RowKit Go.Proofs.YtmgbpmihbljngaaW.PrintWords Go.Proofs.YtmgbpmihbljngaaW.PrintLast Go.Proofs.YtmgbpmihbljngaaW.PrintMore
set_option linter.unusedVariables false
set_option linter.unusedSimpArgs false
def qbx (p:Int) (Q:List (Int×Int×Int)) (kk:Int):List Int×Bool:=if genB p Q=true∧0≤kk∧kk≤26 then (qgq p Q kk,true) else ([],false)
theorem qem (p:Int) (l:List S43) (kk:Int):Ev (fun k=>q7.f k p l kk) (qbx p (tps l) kk):=by
  unfold q7.f qbx
  refine Ev.bind (qej p l) ?_
  cases hg:genB p (tps l) with
  | false=>
    rw[if_neg (fun h=>by cases h.1)]
    exact Ev.no (by simp) (Ev.step (f:=fun _=>some ([],false)) (fun k=>by rw[q7.j0,if_pos rfl]) (Ev.now _))
  | true=>
    refine Ev.yes rfl (Ev.bind (Ev.k (qpx kk 0 26)) ?_)
    by_cases h:0≤kk∧kk≤26
    · rw[if_pos ⟨rfl,h⟩,decide_eq_true h.1,decide_eq_true h.2]
      obtain⟨hp,h6,_,_⟩:=jn hg
      have hl:l.length=6:=by unfold tps at h6;rwa [List.length_map]at h6
      refine Ev.step (f:=fun k=>(jm.f k p l).bind fun t391=>(zq.f k p l t391 kk).bind fun t394=>some (t394,true)) (fun k=>by rw[q7.j0,if_neg (by simp)]) ?_
      exact Ev.bind (qm9 hp l hl (fun j hj=>qf2 hg j (by omega))) (Ev.bind (qnp l hg h.1 h.2) (Ev.now _))
    · rw[if_neg (fun x=>h x.2)]
      have e:(decide (0≤kk) && decide (kk≤26))=false:=by
        rw[Bool.and_eq_false_iff]
        by_cases h':0≤kk
        · exact Or.inr (decide_eq_false fun x=>h ⟨h',x⟩)
        · exact Or.inl (decide_eq_false h')
      rw[e]
      exact Ev.step (f:=fun _=>some ([],false)) (fun k=>by rw[q7.j0,if_pos (by rfl)]) (Ev.now _)
end Go.Proofs.Ytmgbpmihbljngaa.PA
namespace Go.Proofs.Ytmgbpmihbljngaa.PA
open Go.RowKit Go.Proofs.YtmgbpmihbljngaaW.PrintWords Go.Proofs.YtmgbpmihbljngaaW.PrintLast Go.Proofs.YtmgbpmihbljngaaW.PrintMore
set_option linter.unusedVariables false
set_option linter.unusedSimpArgs false
theorem qi1 (l:List S43) (hl:l.length≤1000) (t:Int×Int×Int):∀ (d i:Nat),i+d=l.length→(∀ j,j < i→(tps l).getD j (0,0,0)≠t)→∃ r,Ev (fun k=>zp.l0 k l (l.length:Int) (i:Int) t.1 t.2.1 t.2.2) r∧(0≤r→∃ j,j < l.length∧(tps l).getD j (0,0,0)=t)∧(r < 0→∀ j,j < l.length→(tps l).getD j (0,0,0)≠t)
  | 0,i,hi,hn=>⟨-1,Ev.step (f:=fun _=>some (-1)) (fun q=>by rw[zp.l0,if_neg (by omega)]) (Ev.now _),fun h=>by omega,fun _ j hj=>hn j (by omega)⟩
  | d + 1, i, hi, hn => by
    have e:=Jn l i (by omega)
    have f0:(qd l (i:Int)).f0.f0=((tps l).getD i (0,0,0)).1:=by rw[← e];rfl
    have f1:(qd l (i:Int)).f0.f1=((tps l).getD i (0,0,0)).2.1:=by rw[← e];rfl
    have f2:(qd l (i:Int)).f0.f2=((tps l).getD i (0,0,0)).2.2:=by rw[← e];rfl
    by_cases h:(tps l).getD i (0,0,0)=t
    · refine⟨(i:Int),Ev.step (f:=fun _=>some (i:Int)) (fun q=>by rw[zp.l0,if_pos (by omega),if_pos (by omega),if_pos (by omega),f0,f1,f2,h,if_pos rfl,if_pos rfl,if_pos rfl]) (Ev.now _),fun _=>⟨i,by omega,h⟩,fun h2=>by omega⟩
    · obtain⟨r,hr,h1,h2⟩:=qi1 l hl t d (i+1) (by omega) fun j hj=>by
        by_cases e2:j=i
        · subst e2;exact h
        · exact hn j (by omega)
      refine⟨r,Ev.step (fun q=>?_) hr,h1,h2⟩
      have hw:wrap64 ((i:Int)+1)=((i+1:Nat):Int):=by rw[wsm (by omega) (by omega)];rfl
      rw[zp.l0,if_pos (by omega),if_pos (by omega),if_pos (by omega),f0,f1,f2,hw]
      by_cases g0:t.1=((tps l).getD i (0,0,0)).1
      · by_cases g1:t.2.1=((tps l).getD i (0,0,0)).2.1
        · by_cases g2:t.2.2=((tps l).getD i (0,0,0)).2.2
          · exact absurd (Prod.ext g0.symm (Prod.ext g1.symm g2.symm)) h
          · rw[if_pos g0,if_pos g1,if_neg g2]
        · rw[if_pos g0,if_neg g1]
      · rw[if_neg g0]
end Go.Proofs.Ytmgbpmihbljngaa.PA
namespace Go.Proofs.Ytmgbpmihbljngaa.PA
open Go.RowKit Go.Proofs.YtmgbpmihbljngaaW.PrintWords Go.Proofs.YtmgbpmihbljngaaW.PrintLast Go.Proofs.YtmgbpmihbljngaaW.PrintMore
set_option linter.unusedVariables false
set_option linter.unusedSimpArgs false
theorem qiq (p:Int):∀ (d c:Nat) (O:List (List Int)),redP p d c [] O=O
  | 0,_,_=>rfl
  | d+1,c,O=>by rw[redP];exact qiq p d (c+1) O
def monP (p:Int) (r:List Int):List Int:=if (r.all fun x=>x == 0)=true then [] else rowP p r
theorem ql1 {p:Int} {w:Nat} {r:List Int} (hw:r.length=w):∀ (d c:Nat),c+d=w→(∀ j:Nat,j < c→rd r (j:Int)=0)→redP p d c [r] []=if (r.all fun x=>x == 0)=true then [] else [rowP p r]
  | 0,c,e,hz=>by
    have h0:(r.all fun x=>x == 0)=true:=List.all_eq_true.2 fun x hx=>by
      obtain⟨j,hj,rfl⟩:=List.mem_iff_getElem.1 hx
      rw[← Zz r j hj,hz j (by omega)];rfl
    rw[if_pos h0,redP]
  | d + 1, c, e, hz => by
    by_cases hc:rd r (c:Int)=0
    · have ih:=ql1 hw (p:=p) d (c+1) (by omega) (fun j hj=>by
        rcases Nat.lt_succ_iff_lt_or_eq.1 hj with h | h
        · exact hz j h
        · rw[h];exact hc)
      rw[redP]
      simp only[List.findIdx?_cons,hc]
      exact ih
    · have h1:¬ (r.all fun x=>x == 0)=true:=fun h=>by
        have:=List.all_eq_true.1 h (r[c]'(by omega)) (List.getElem_mem _)
        rw[← Zz r c (by omega)]at this
        exact hc (by simpa using this)
      have hb:(rd r (c:Int) !=0)=true:=by simpa using hc
      rw[if_neg h1,redP]
      simp only[List.findIdx?_cons,hb]
      simp only[if_true,List.eraseIdx_cons_zero,List.map_nil,List.getD_cons_zero,List.nil_append,qiq]
      rw[qlb (by omega) hz hc]
end Go.Proofs.Ytmgbpmihbljngaa.PA
namespace Go.Proofs.Ytmgbpmihbljngaa.PA
open Go.RowKit Go.Proofs.YtmgbpmihbljngaaW.PrintWords Go.Proofs.YtmgbpmihbljngaaW.PrintLast Go.Proofs.YtmgbpmihbljngaaW.PrintMore
set_option linter.unusedVariables false
set_option linter.unusedSimpArgs false
theorem qgc :∀ p∈([7,11,13,17,19,23,29,31]:List Int),∀ x∈List.range 31,(x:Int) < p→(x:Int)≠0→jp.f 40 (x:Int) p=some (invP p (x:Int)):=by decide+kernel
theorem qk5 {p:Int} (hp:zi p=true) {x:Int} (h0:0≤x) (h1:x < p) (hx:x≠0):Ev (fun k=>jp.f k x p) (invP p x):=by
  have hb:=zx hp
  refine Ev.of (jp.mono x p) (k:=40) ?_
  have h2:=qgc p (by have:=J8 hp;simp;omega) x.toNat (by simp;omega) (by omega) (by omega)
  rwa [show ((x.toNat:Nat):Int)=x by omega]at h2
theorem qaf {x p:Int} (hp:7≤p∧p≤31) (h0:-1000000000≤x) (h1:x≤1000000000):modV p (wrap64 x)=x % p:=Jl hp h0 h1
theorem qd4 {p t:Int} (hp:7≤p∧p≤31) (ht:0≤t∧t < p) (h:List Int) (hh:∀ x∈h,0≤x∧x < p):∀ (r:List Int) (i:Nat),(∀ x∈r,0≤x∧x < p)→i+r.length=h.length→Je p t h i r=j4 p t (h.drop i) r
  | [],_,_,_=>by simp[Je,j4]
  | x :: r,i,hr,hl=>by
    have hx:=hr x (by simp)
    simp only[List.length_cons]at hl
    have hy:0≤rd h (i:Int)∧rd h (i:Int) < p:=by rw[Zz h i (by omega)];exact hh _ (List.getElem_mem _)
    have hm:=qf0 hp.2 ht.1 ht.2 hy.1 hy.2
    rw[qc9 h i (by omega),Je,qd4 hp ht h hh r (i+1) (fun z hz=>hr z (by simp[hz])) (by omega),wsm (i:=t*rd h (i:Int)) (by omega) (by omega),qaf hp (by omega) (by omega)]
    simp[j4]
theorem qkl {p:Int} {w:Nat} (hp:7≤p∧p≤31) (c:Nat) (hc:c < w) {h r:List Int} (hh:h.length=w∧∀ x∈h,0≤x∧x < p) (hr:r.length=w∧∀ x∈r,0≤x∧x < p):Ze p c h r=j4 p (rd r (c:Int)) h r:=by
  rw[Ze,qd4 hp (qeh hr c hc) h hh.2 r 0 hr.2 (by omega),List.drop_zero]
theorem qju {p b:Int} {w:Nat} (hp:7≤p∧p≤31) (hb:0≤b∧b < p) {r:List Int} (hr:r.length=w∧∀ x∈r,0≤x∧x < p):j5 p b r=Q8 p b r:=by
  rw[j5,Q8]
  refine List.map_congr_left fun x hx=>?_
  have h1:=hr.2 x hx
  have hm:=qf0 hp.2 h1.1 h1.2 hb.1 hb.2
  rw[wsm (by omega) (by omega),Int.tmod_eq_emod_of_nonneg hm.1]
theorem qci {p:Int} (hp:zi p=true) {w:Nat}:∀ (d c:Nat) (L O:List (List Int)),c+d=w→okR p w L→okR p w O→Ev (fun k=>Q4 k p d c L O) (redP p d c L O)
  | 0,_,_,O,_,_,_=>Ev.k rfl
  | d + 1, c, L, O, hw, hL, hO => by
    have hb:=zx hp
    unfold Q4 redP
    cases hf:L.findIdx? (fun row=>rd row (c:Int) !=0) with
    | none=>exact qci hp d (c+1) L O (by omega) hL hO
    | some i=>
      simp only
      obtain⟨hi,hne⟩:=qb4 hf
      have hx:=hL _ (Q5 hi)
      have hxr:=qeh hx c (by omega)
      have hne':rd (L.getD i []) (c:Int)≠0:=by simpa using hne
      have hinv:=Zt hp hxr.1 hxr.2
      refine Ev.bind (qk5 hp hxr.1 hxr.2 hne') ?_
      have hs:=qbo (p:=p) (b:=invP p (rd (L.getD i []) (c:Int))) (by omega) hx.1
      rw[qju hb ⟨hinv.2.1,hinv.2.2.1⟩ hx]
      have e1:∀ M:List (List Int),okR p w M→M.map (Ze p c (Q8 p (invP p (rd (L.getD i []) (c:Int))) (L.getD i [])))=M.map fun r=>j4 p (rd r (c:Int)) (Q8 p (invP p (rd (L.getD i []) (c:Int))) (L.getD i [])) r:=
        fun M hM=>List.map_congr_left fun r hr=>qkl hb c (by omega) hs (hM r hr)
      rw[e1 _ (qa0 i hL),e1 _ hO]
      exact qci hp d (c+1) _ _ (by omega) (qae _ (by omega) hs.1 (qa0 i hL)) (qes (qae _ (by omega) hs.1 hO) (qey hs (qaj p w)))
theorem qcn {p:Int} (hp:zi p=true) {w:Nat} (L:List (List Int)) (hw:w < 1000000) (hl:L.length < 1000000) (hL:∀ r∈L,r.length=w):Ev (fun k=>zy.f k p L) (redP p w 0 (L.map fun r=>r.map (modV p)) []):=by
  have hb:=zx hp
  have hok:okR p w (L.map fun r=>r.map (modV p)):=fun x hx=>by
    obtain⟨r,hr,rfl⟩:=List.mem_map.1 hx
    refine⟨by rw[List.length_map,hL r hr],fun y hy=>?_⟩
    obtain⟨z,_,rfl⟩:=List.mem_map.1 hy
    have h2:=qet (p:=p) (by omega) z
    rw[modV,wsm (by omega) (by omega),Int.tmod_eq_emod_of_nonneg (by omega)]
    exact⟨Int.emod_nonneg _ (by omega),Int.emod_lt_of_pos _ (by omega)⟩
  cases L with
  | nil=>
    have e:∀ d c,redP p d c [] []=[]:=fun d=>by
      induction d with
      | zero=>intro c;rfl
      | succ d ih=>intro c;rw[redP];exact ih (c+1)
    rw[List.map_nil,e]
    refine Ev.k (α:=List (List Int)) (x:=some []) rfl |>.congr fun k=>?_
    rw[zy.f,if_neg (by omega),if_pos ⟨by simp,by simp,by simp⟩]
    simp[Q4]
  | cons r L=>
    have hr:=hL r (by simp)
    refine(qci hp w 0 _ [] (by omega) hok (qaj p w)).congr fun k=>?_
    rw[zy.f,if_neg (by omega),if_pos ⟨hl,by simpa [hr] using hw,by simpa [hr] using hL⟩]
    simp[hr]
theorem qmu {p x:Int} (hp:zi p=true) (h0:0≤x) (h1:x < p):modV p x=x:=by
  have hb:=zx hp
  rw[modV,Int.tmod_eq_of_lt h0 h1,wsm (by omega) (by omega),Int.tmod_eq_emod_of_nonneg (by omega),Int.add_emod_right,Int.emod_eq_of_lt h0 h1]
theorem qfs {p:Int} (hp:zi p=true) {w:Nat} (L:List (List Int)) (hw:w < 1000000) (hl:L.length < 1000000) (hL:okR p w L):Ev (fun k=>zy.f k p L) (redP p w 0 L []):=by
  have h:=qcn hp L hw hl (fun r hr=>(hL r hr).1)
  have e:(L.map fun r=>r.map (modV p))=L:=by
    rw[List.map_congr_left (g:=id)]
    · simp
    · intro r hr
      rw[List.map_congr_left (g:=id)]
      · simp
      · intro x hx;have:=(hL r hr).2 x hx;exact qmu hp this.1 this.2
  rwa [e]at h
end Go.Proofs.Ytmgbpmihbljngaa.PA
namespace Go.Proofs.Ytmgbpmihbljngaa.PA
open Go.RowKit Go.Proofs.YtmgbpmihbljngaaW.PrintWords Go.Proofs.YtmgbpmihbljngaaW.PrintLast Go.Proofs.YtmgbpmihbljngaaW.PrintMore
set_option linter.unusedVariables false
set_option linter.unusedSimpArgs false
theorem qn9 {p:Int} (hp:zi p=true) (l:List Int) (hl:l.length < 1000) (hb:∀ x∈l,-1000000≤x∧x≤1000000):Ev (fun k=>Q0.f k p l) (monP p (l.map fun x=>x % p)):=by
  have hpb:=zx hp
  have e:l.map (modV p)=l.map fun x=>x % p:=List.map_congr_left fun x hx=>by
    have:=hb x hx
    have h2:=qaf (p:=p) (x:=x) ⟨by omega,by omega⟩ (by omega) (by omega)
    rwa [wsm (by omega) (by omega)]at h2
  unfold Q0.f
  refine Ev.bind (qcn hp (w:=l.length) [l] (by omega) (by simp) (by simp)) ?_
  rw[List.map_cons,List.map_nil,e,ql1 (p:=p) (w:=l.length) (by simp) l.length 0 (by omega) (fun j hj=>absurd hj (by omega)),monP]
  by_cases hz:((l.map fun x=>x % p).all fun x=>x == 0)=true
  · rw[if_pos hz,if_pos hz];exact Ev.now _
  · rw[if_neg hz,if_neg hz];exact Ev.now _
end Go.Proofs.Ytmgbpmihbljngaa.PA
namespace Go.Proofs.Ytmgbpmihbljngaa.PA
open Go.RowKit Go.Proofs.YtmgbpmihbljngaaW.PrintWords Go.Proofs.YtmgbpmihbljngaaW.PrintLast Go.Proofs.YtmgbpmihbljngaaW.PrintMore
set_option linter.unusedVariables false
set_option linter.unusedSimpArgs false
theorem ql9 {p:Int} (hp:zi p=true) (a:List Int) (t:Int×Int×Int):fi (nn p) (dotP p a (cubR p t))=valC (fun j=>fi (nn p) (fn a j)) (p3 (nn p) t):=by
  rw[dotP,qe2 hp,qei,← qde hp]
  exact Jf _ fun j _=>by grind
end Go.Proofs.Ytmgbpmihbljngaa.PA
namespace Go.Proofs.Ytmgbpmihbljngaa.PA
open Go.RowKit Go.Proofs.YtmgbpmihbljngaaW.PrintWords Go.Proofs.YtmgbpmihbljngaaW.PrintLast Go.Proofs.YtmgbpmihbljngaaW.PrintMore
set_option linter.unusedVariables false
set_option linter.unusedSimpArgs false
theorem qfy (l:List Int) (v:Int) (hlen:l.length≤1000000) (h:Nat) (hl:h < l.length) (hv:rd l (h:Int)=v) (hn:∀ j:Nat,j < h→rd l (j:Int)≠v):∀ (d i:Nat),i+d=h→Ev (fun k=>qk.l0 k l v (l.length:Int) (i:Int)) (h:Int)
  | 0,i,e=>by
    obtain rfl:i=h:=by omega
    refine Ev.step (f:=fun _=>some (i:Int)) (fun k=>?_) (Ev.now _)
    rw[qk.l0,if_pos (by omega),if_pos (by omega),if_pos (by omega),if_pos hv.symm]
  | d+1,i,e=>by
    refine Ev.step (f:=fun k=>qk.l0 k l v (l.length:Int) ((i+1:Nat):Int)) (fun k=>?_) (qfy l v hlen h hl hv hn d (i+1) (by omega))
    rw[qk.l0,if_pos (by omega),if_pos (by omega),if_pos (by omega),if_neg (fun e2=>hn i (by omega) e2.symm),wsm (by omega) (by omega)];rfl
theorem qex (l:List Int) (v:Int) (hlen:l.length≤1000000) (hn:∀ j:Nat,j < l.length→rd l (j:Int)≠v):∀ (d i:Nat),i+d=l.length→Ev (fun k=>qk.l0 k l v (l.length:Int) (i:Int)) (-1)
  | 0,i,e=>by
    refine Ev.step (f:=fun _=>some (-1)) (fun k=>?_) (Ev.now _)
    rw[qk.l0,if_neg (by omega)]
  | d+1,i,e=>by
    refine Ev.step (f:=fun k=>qk.l0 k l v (l.length:Int) ((i+1:Nat):Int)) (fun k=>?_) (qex l v hlen hn d (i+1) (by omega))
    rw[qk.l0,if_pos (by omega),if_pos (by omega),if_pos (by omega),if_neg (fun e2=>hn i (by omega) e2.symm),wsm (by omega) (by omega)];rfl
theorem qof (l:List Int) (v:Int) (hlen:l.length≤1000000) {h:Nat} (hl:h < l.length) (hv:rd l (h:Int)=v) (hn:∀ j:Nat,j < h→rd l (j:Int)≠v):Ev (fun k=>qk.f k l v) (h:Int):=by
  unfold qk.f
  exact qfy l v hlen h hl hv hn h 0 (by omega)
theorem qjj (l:List Int) (v:Int):∀ n:Nat,n≤l.length→(∃ h:Nat,h < n∧rd l (h:Int)=v∧∀ j:Nat,j < h→rd l (j:Int)≠v)∨∀ j:Nat,j < n→rd l (j:Int)≠v
  | 0,_=>.inr fun j hj=>absurd hj (by omega)
  | n + 1, hn => by
    rcases qjj l v n (by omega) with ⟨h,h1,h2,h3⟩ | h
    · exact .inl ⟨h,by omega,h2,h3⟩
    · by_cases e:rd l (n:Int)=v
      · exact .inl ⟨n,by omega,e,h⟩
      · refine .inr fun j hj=>?_
        rcases Nat.lt_succ_iff_lt_or_eq.1 hj with h1 | h1
        · exact h j h1
        · rw[h1];exact e
theorem qi6 (l:List Int) (v:Int) (hlen:l.length≤1000000):Ev (fun k=>q6.f k l v) (decide (v∈l)):=by
  unfold q6.f qk.f
  rcases qjj l v l.length (by omega) with ⟨h,h1,h2,h3⟩ | h
  · have hm:v∈l:=by rw[← h2,Zz l h h1];exact List.getElem_mem _
    refine Ev.bind (qfy l v hlen h h1 h2 h3 h 0 (by omega)) ?_
    rw[decide_eq_true (show (h:Int)≥0 by omega),decide_eq_true hm];exact Ev.now _
  · have hm:¬ v∈l:=fun hm=>by
      obtain⟨j,hj,e⟩:=List.mem_iff_getElem.1 hm
      exact h j hj (by rw[Zz l j hj];exact e)
    refine Ev.bind (qex l v hlen h l.length 0 (by omega)) ?_
    rw[decide_eq_false (show ¬ (-1:Int)≥0 by omega),decide_eq_false hm];exact Ev.now _
end Go.Proofs.Ytmgbpmihbljngaa.PA
namespace Go.Proofs.Ytmgbpmihbljngaa.PA
open Go.RowKit Go.Proofs.YtmgbpmihbljngaaW.PrintWords Go.Proofs.YtmgbpmihbljngaaW.PrintLast Go.Proofs.YtmgbpmihbljngaaW.PrintMore
set_option linter.unusedVariables false
set_option linter.unusedSimpArgs false
theorem qq0 {p:Int} (hp:zi p=true) {x:Int} (h0:0≤x) (h1:x < p):Z1.f (wrap64 (-x)) p=some ((-x) % p):=by
  have hb:=zx hp
  rw[qdr p _ (by omega),qaf ⟨by omega,by omega⟩ (by omega) (by omega)]
theorem qfx (P:List (Nat×List Int)) (i:Nat) (hi:i < P.length):ju (P.map Prod.snd) (i:Int)=(P[i]).2:=by
  simp[ju,List.getD_eq_getElem?_getD,hi]
theorem qkx (P:List (Nat×List Int)) (i:Nat) (hi:i < P.length):rd (P.map fun x=>(x.1:Int)) (i:Int)=((P[i]).1:Int):=by
  simp[rd,List.getD_eq_getElem?_getD,hi]
theorem qfv {p:Int} {w:Nat} {P:List (Nat×List Int)} (h:Rref p w P):P.length≤w:=by
  have h1:=Zr (P:=P) (Q:=(List.range w).map fun c=>(c,([]:List Int))) h.inc (by rw[List.pairwise_map];exact List.pairwise_lt_range) (fun x hx=>⟨(x.1,[]),List.mem_map.2 ⟨x.1,by simpa using h.lt x hx,rfl⟩,rfl⟩)
  simpa using h1
theorem qkr {P:List (Nat×List Int)} (c:Nat):decide ((c:Int)∈P.map fun x=>(x.1:Int))=!Qd P c:=by
  rw[Qd,Bool.not_not,Bool.eq_iff_iff,decide_eq_true_iff,List.any_eq_true]
  constructor
  · intro h
    obtain⟨x,hx,e⟩:=List.mem_map.1 h
    exact ⟨x, hx, by have : x.1 = c := by omega
                     simp[this]⟩
  · rintro⟨x,hx,e⟩
    exact List.mem_map.2 ⟨x, hx, by have : x.1 = c := by simpa using e
                                    omega⟩
theorem qgx {p:Int} {w:Nat} (hw:w≤1000) {P:List (Nat×List Int)} (h:Rref p w P) {R:List (List Int)} (hend:Ev (fun k=>qh.l1 k p (w:Int) (P.map Prod.snd) (P.map fun x=>(x.1:Int)) [] (w:Int) 0) R):∀ (d i:Nat),i+d=P.length→
    Ev (fun k=>qh.l0 k p (w:Int) (P.map Prod.snd) ((P.map fun x=>(x.1:Int)).take i) (P.map Prod.snd) ((P.map Prod.snd).length:Int) (i:Int)) R
  | 0,i,e=>by
    refine Ev.step (f:=fun k=>qh.l1 k p (w:Int) (P.map Prod.snd) (P.map fun x=>(x.1:Int)) [] (w:Int) 0) (fun k=>?_) hend
    rw[qh.l0,if_neg (by rw[List.length_map];omega),List.take_of_length_le (by rw[List.length_map];omega)]
  | d + 1, i, e => by
    have hi:i < P.length:=by omega
    have hle:=qfv h
    have ih:=qgx hw h hend d (i+1) (by omega)
    have hm:=List.getElem_mem hi
    refine Ev.step (fun k=>by rw[qh.l0,if_pos (by rw[List.length_map];omega),if_pos (by omega),if_pos (by rw[List.length_map];omega),qfx P i hi]) ?_
    have hlen:=(h.ok _ hm).1
    refine Ev.bind (qof (P[i]).2 1 (by omega) (h:=(P[i]).1) (by rw[hlen];exact h.lt _ hm) (h.one _ hm) (fun j hj=>by
      have:=h.low _ hm j hj
      rw[fn]at this;rw[this];decide)) (Ev.yes (by simp;omega) ?_)
    rw[wsm (by omega) (by omega),show ((P.map fun x=>(x.1:Int)).take i)++[((P[i]).1:Int)]=(P.map fun x=>(x.1:Int)).take (i+1) by
      rw[List.take_add_one,List.getElem?_map,List.getElem?_eq_getElem hi];rfl]
    exact ih
theorem qlg {p:Int} (hp:zi p=true) {w:Nat} (hw:w≤1000) {P:List (Nat×List Int)} (h:Rref p w P) {c:Nat} (hc:c < w) {O:List (List Int)} (hO:O.length≤1000) {R:List (List Int)}:∀ (d i:Nat) (v V:List Int),i+d=P.length→v.length=w→Zp p c (P.drop i) v=V→
    Ev (fun k=>qh.l1 k p (w:Int) (P.map Prod.snd) (P.map fun x=>(x.1:Int)) (O++[V]) (w:Int) ((c+1:Nat):Int)) R→
    Ev (fun k=>qh.l2 k p (w:Int) (P.map Prod.snd) (P.map fun x=>(x.1:Int)) O (c:Int) v (w:Int) (c:Int) (P.map Prod.snd) ((P.map Prod.snd).length:Int) (i:Int)) R
  | 0,i,v,V,e,hv,hV,hend=>by
    rw[List.drop_eq_nil_of_le (by omega),Zp]at hV
    subst hV
    refine Ev.step (fun k=>by rw[qh.l2,if_neg (by rw[List.length_map];omega),if_pos (by omega),wsm (by omega) (by omega)]) ?_
    simpa using hend
  | d+1,i,v,V,e,hv,hV,hend=>by
    have hi:i < P.length:=by omega
    have hle:=qfv h
    have hm:=List.getElem_mem hi
    have hlen:=(h.ok _ hm).1
    have hlt:=h.lt _ hm
    have hr:=Zs (h.ok _ hm) c hc
    rw[fn]at hr
    rw[List.drop_eq_getElem_cons hi,Zp]at hV
    refine Ev.step (fun k=>by rw[qh.l2,if_pos (by rw[List.length_map];omega),if_pos (by omega),if_pos (by rw[List.length_map];omega),if_pos (by rw[List.length_map];omega),if_pos (by omega),qfx P i hi,if_pos (by omega),qkx P i hi,qq0 hp hr.1 hr.2]) ?_
    refine Ev.bind (a:=(-(rd (P[i]).2 (c:Int))) % p) (Ev.now _) (Ev.yes (by omega) (Ev.yes (by omega) ?_))
    have ih:=qlg hp hw h hc hO d (i+1) (v.set (P[i]).1 ((-(rd (P[i]).2 (c:Int))) % p)) V (by omega) (by rw[List.length_set];exact hv) hV hend
    rw[wsm (by omega) (by omega)]
    simpa using ih
theorem qfu {p:Int} (hp:zi p=true) {w:Nat} (hw:w≤1000) {P:List (Nat×List Int)} (h:Rref p w P):∀ (d c:Nat) (O:List (List Int)),c+d=w→O=(((List.range c).filter (Qd P)).map (Q1 p w P))→
    Ev (fun k=>qh.l1 k p (w:Int) (P.map Prod.snd) (P.map fun x=>(x.1:Int)) O (w:Int) (c:Int)) (redP p w 0 (Zn p w P) [])
  | 0,c,O,e,hO=>by
    obtain rfl:c=w:=by omega
    have hb:=zx hp
    refine Ev.step (fun k=>by rw[qh.l1,if_neg (by omega)]) ?_
    have hlen:O.length < 1000000:=by
      rw[hO,List.length_map]
      have:=List.length_filter_le (Qd P) (List.range c)
      simp at this;omega
    have hok:=qah (p:=p) (by omega) h
    subst hO
    exact Ev.bind (qfs hp (w:=c) _ (by omega) hlen hok) (Ev.now _)
  | d + 1, c, O, e, hO => by
    have hle:=qfv h
    have hOl:O.length≤1000:=by
      rw[hO,List.length_map]
      have:=List.length_filter_le (Qd P) (List.range c)
      simp at this;omega
    have hsucc:(List.range (c+1)).filter (Qd P)=(List.range c).filter (Qd P)++(if Qd P c=true then [c] else []):=by
      rw[List.range_succ,List.filter_append]
      congr 1
      cases hf:Qd P c<;>simp[hf]
    refine Ev.step (fun k=>by rw[qh.l1,if_pos (by omega)]) ?_
    refine Ev.bind (qi6 _ (c:Int) (by rw[List.length_map];omega)) ?_
    rw[qkr]
    cases hf:Qd P c with
    | false=>
      refine Ev.yes rfl ?_
      rw[wsm (by omega) (by omega)]
      exact qfu hp hw h d (c+1) O (by omega) (by rw[hsucc,hf,hO];simp)
    | true=>
      refine Ev.no (by simp) (Ev.yes (by omega) (Ev.yes (by omega) (Ev.bind (a:=List.replicate w 0) (by simpa using Ev.now (List.replicate w (0:Int))) (Ev.yes (by omega) (Ev.yes (by simp;omega) ?_)))))
      have hend:=qfu hp hw h d (c+1) (O++[Q1 p w P c]) (by omega) (by rw[hsucc,hf,hO];simp)
      have:=qlg hp hw h (c:=c) (by omega) hOl (R:=redP p w 0 (Zn p w P) []) P.length 0 ((List.replicate w 0).set c 1) (Q1 p w P c) (by omega) (by simp) (by rw[List.drop_zero];rfl) hend
      simpa using this
theorem qat {p:Int} (hp:zi p=true) {w:Nat} (hw:w≤1000) (L:List (List Int)) (hl:L.length < 1000000) (hL:∀ r∈L,r.length=w):Ev (fun k=>qh.f k p L (w:Int)) (Zk p w (L.map fun r=>r.map (modV p))):=by
  have hb:=zx hp
  have hok:okR p w (L.map fun r=>r.map (modV p)):=fun x hx=>by
    obtain⟨r,hr,rfl⟩:=List.mem_map.1 hx
    refine⟨by rw[List.length_map,hL r hr],fun y hy=>?_⟩
    obtain⟨z,_,rfl⟩:=List.mem_map.1 hy
    have h2:=qet (p:=p) (by omega) z
    rw[modV,wsm (by omega) (by omega),Int.tmod_eq_emod_of_nonneg (by omega)]
    exact⟨Int.emod_nonneg _ (by omega),Int.emod_lt_of_pos _ (by omega)⟩
  obtain⟨e1,_,hP,_,_⟩:=J2 hp hok
  unfold qh.f
  refine Ev.bind (qcn hp L (by omega) hl hL) ?_
  rw[e1]
  have h:=qgx (p:=p) hw hP (qfu hp hw hP w 0 [] (by omega) (by simp)) (Jj p w (L.map fun r=>r.map (modV p))).length 0 (by omega)
  simpa [Zk] using h
end Go.Proofs.Ytmgbpmihbljngaa.PA
namespace Go.Proofs.Ytmgbpmihbljngaa.PA
open Go.RowKit Go.Proofs.YtmgbpmihbljngaaW.PrintWords Go.Proofs.YtmgbpmihbljngaaW.PrintLast Go.Proofs.YtmgbpmihbljngaaW.PrintMore
set_option linter.unusedVariables false
set_option linter.unusedSimpArgs false
theorem qlz :Ev (fun k=>q9.f k) powL:=Ev.of q9.mono (k:=40) (by kernel_rfl)
theorem Jz {p x:Int} (hp:p≤31) (hx:0≤x∧x < p):∀ n:Nat,n≤3→0≤x ^ n∧x ^ n≤27000:=by
  intro n hn
  have h2:0≤x*x∧x*x≤900:=qf0 hp hx.1 hx.2 hx.1 hx.2
  have h3:0≤x*x*x∧x*x*x≤900*30:=⟨Int.mul_nonneg h2.1 hx.1,Int.mul_le_mul h2.2 (by omega) hx.1 (by omega)⟩
  rcases (show n=0∨n=1∨n=2∨n=3 by omega) with rfl | rfl | rfl | rfl
  · rw[Int.pow_zero];omega
  · rw[Int.pow_succ,Int.pow_zero,Int.one_mul];omega
  · rw[Int.pow_succ,Int.pow_succ,Int.pow_zero,Int.one_mul];omega
  · rw[Int.pow_succ,Int.pow_succ,Int.pow_succ,Int.pow_zero,Int.one_mul];omega
theorem qa1 {p x:Int} (hp:p≤31) (hx:0≤x∧x < p) (n:Nat) (hn:n≤3):Ev (fun k=>z8.f k x (n:Int)) (x ^ n):=by
  have h0:∀ (d i:Nat),i+d=n→Ev (fun k=>z8.l0 k x (x ^ i) (n:Int) (i:Int)) (x ^ n):=by
    intro d
    induction d with
    | zero=>
      intro i hi
      obtain rfl:i=n:=by omega
      exact Ev.step (f:=fun _=>some (x ^ i)) (fun q=>by rw[z8.l0,if_neg (by omega)]) (Ev.now _)
    | succ d ih=>
      intro i hi
      have:=Jz hp hx (i+1) (by omega)
      rw[Int.pow_succ]at this
      refine Ev.step (fun q=>by rw[z8.l0,if_pos (by omega),wsm (i:=x ^ i*x) (by omega) (by omega),wsm (by omega) (by omega)]) ?_
      have h:=ih (i+1) (by omega)
      rwa [Int.pow_succ]at h
  unfold z8.f
  have:=h0 n 0 (by omega)
  rwa [Int.pow_zero]at this
def monI (t:Int×Int×Int) (i:Nat):Int:=t.1 ^ (powN.getD i (0,0,0)).1*t.2.1 ^ (powN.getD i (0,0,0)).2.1*t.2.2 ^ (powN.getD i (0,0,0)).2.2
def cubI (t:Int×Int×Int):List Int:=(List.range 10).map (monI t)
theorem qmb {x y z:Int} (hx:0≤x∧x≤27000) (hy:0≤y∧y≤27000) (hz:0≤z∧z≤27000):(0≤x*y∧x*y≤729000000)∧0≤x*y*z∧x*y*z≤19683000000000:=by
  have h1:0≤x*y∧x*y≤27000*27000:=⟨Int.mul_nonneg hx.1 hy.1,Int.mul_le_mul hx.2 hy.2 hy.1 (by omega)⟩
  have h2:0≤x*y*z∧x*y*z≤729000000*27000:=⟨Int.mul_nonneg h1.1 hz.1,Int.mul_le_mul (by omega) hz.2 hz.1 (by omega)⟩
  omega
theorem qjp {p:Int} (hp:p≤31) (t:Int×Int×Int) (ht:inP p t):Ev (fun k=>zv.f k t.1 t.2.1 t.2.2) (cubI t):=by
  obtain⟨a0,a1,a2⟩:=ht
  have h0:∀ (d i:Nat) (acc:List Int),i+d=10→acc=(List.range i).map (monI t)→Ev (fun q=>zv.l0 q acc powL (powL.length:Int) (i:Int) t.1 t.2.1 t.2.2) (cubI t):=by
    intro d
    induction d with
    | zero=>
      intro i acc hi ha
      obtain rfl:i=10:=by omega
      subst ha
      exact Ev.step (f:=fun _=>some (cubI t)) (fun q=>by rw[zv.l0,if_neg (by simp[powL])];rfl) (Ev.now _)
    | succ d ih=>
      intro i acc hi ha
      obtain⟨e0,e1,e2,l0,l1,l2⟩:=qb7 i (by omega)
      have hal:acc.length≤1000:=by rw[ha,List.length_map,List.length_range];omega
      have hpl:(powL.length:Int)=10:=rfl
      have b0:=Jz hp a0 _ l0
      have b1:=Jz hp a1 _ l1
      have b2:=Jz hp a2 _ l2
      obtain⟨c1,c2⟩:=qmb b0 b1 b2
      refine Ev.step (fun q=>by rw[zv.l0,if_pos (by omega),if_pos (by omega),if_pos (by omega),e0,e1,e2]) ?_
      refine(Ev.bind (qa1 hp a0 _ l0) (Ev.bind (qa1 hp a1 _ l1) (Ev.bind (qa1 hp a2 _ l2) ?_)))
      refine Ev.yes (show acc.length < 17592186044416 by omega) ?_
      rw[wsm (i:=t.1 ^ (powN.getD i (0,0,0)).1*t.2.1 ^ (powN.getD i (0,0,0)).2.1) (by omega) (by omega),wsm (i:=t.1 ^ (powN.getD i (0,0,0)).1*t.2.1 ^ (powN.getD i (0,0,0)).2.1*t.2.2 ^ (powN.getD i (0,0,0)).2.2) (by omega) (by omega),wsm (by omega) (by omega)]
      refine ih (i+1) _ (by omega) ?_
      rw[ha,List.range_succ,List.map_append]
      rfl
  unfold zv.f
  exact Ev.bind qlz (h0 10 0 [] rfl rfl)
theorem qhz {p:Int} (hp:p≤31) {t:Int×Int×Int} (ht:inP p t) (i:Nat) (hi:i < 10):0≤monI t i∧monI t i≤19683000000000:=by
  obtain⟨a0,a1,a2⟩:=ht
  obtain⟨_,_,_,l0,l1,l2⟩:=qb7 i hi
  exact(qmb (Jz hp a0 _ l0) (Jz hp a1 _ l1) (Jz hp a2 _ l2)).2
theorem qb1 {p x:Int} (hp:7≤p∧p≤31) (h0:0≤x):modV p x=x % p:=by
  have h2:=qet (p:=p) (by omega) x
  rw[modV,wsm (by omega) (by omega),Int.tmod_eq_emod_of_nonneg (a:=x) (by omega)]
  have:=Int.emod_nonneg x (show p≠0 by omega)
  have:=Int.emod_lt_of_pos x (show (0:Int) < p by omega)
  rw[Int.tmod_eq_emod_of_nonneg (by omega),Int.add_emod_right,Int.emod_emod]
theorem qjb {p:Int} (hp:7≤p∧p≤31) {t:Int×Int×Int} (ht:inP p t):(cubI t).map (modV p)=cubR p t:=by
  rw[cubI,List.map_map,← qiy]
  refine List.map_congr_left fun i hi=>?_
  exact qb1 hp (qhz hp.2 ht i (List.mem_range.1 hi)).1
theorem qms {p:Int} (hp:zi p=true) (l:List S43) (hl:l.length≤1000) (hin:∀ j,j < l.length→inP p ((tps l).getD j (0,0,0))):Ev (fun k=>jo.f k p l) (basP p (tps l)):=by
  have hb:=zx hp
  have hlen:(tps l).length=l.length:=by simp[tps]
  have h0:∀ (d i:Nat) (acc:List (List Int)),i+d=l.length→acc=((tps l).take i).map cubI→Ev (fun q=>jo.l0 q p acc l (l.length:Int) (i:Int)) (basP p (tps l)):=by
    intro d
    induction d with
    | zero=>
      intro i acc hi ha
      rw[List.take_of_length_le (by omega)]at ha
      subst ha
      have hs:=qat hp (w:=10) (by omega) ((tps l).map cubI) (by rw[List.length_map];omega) (fun r hr=>by obtain⟨t,_,rfl⟩:=List.mem_map.1 hr;simp[cubI])
      have e:(((tps l).map cubI).map fun r=>r.map (modV p))=(tps l).map (cubR p):=by
        rw[List.map_map]
        refine List.map_congr_left fun t ht=>?_
        obtain⟨j,hj,rfl⟩:=List.getElem_of_mem ht
        have:=hin j (by omega)
        rw[List.getD_eq_getElem?_getD,List.getElem?_eq_getElem hj]at this
        exact qjb ⟨by omega,by omega⟩ this
      rw[e]at hs
      refine Ev.step (fun q=>by rw[jo.l0,if_neg (by omega)]) ?_
      exact Ev.bind hs (Ev.now _)
    | succ d ih=>
      intro i acc hi ha
      have hil:i < l.length:=by omega
      have hal:acc.length≤1000:=by rw[ha,List.length_map,List.length_take];omega
      have e:=Jn l i hil
      have hc:=qjp (p:=p) (by omega) _ (hin i hil)
      rw[← e]at hc
      refine Ev.step (fun q=>by rw[jo.l0,if_pos (by omega),if_pos (by omega),if_pos (by omega)]) ?_
      refine Ev.bind hc (Ev.yes (show acc.length < 5864062014805 by omega) ?_)
      rw[wsm (by omega) (by omega)]
      refine ih (i+1) _ (by omega) ?_
      rw[ha,List.take_add_one,List.map_append,e,List.getD_eq_getElem?_getD,List.getElem?_eq_getElem (by omega)]
      rfl
  unfold jo.f
  exact h0 l.length 0 [] (by omega) (by simp)
end Go.Proofs.Ytmgbpmihbljngaa.PA
namespace Go.Proofs.Ytmgbpmihbljngaa.PA
open Go.RowKit Go.Proofs.YtmgbpmihbljngaaW.PrintWords Go.Proofs.YtmgbpmihbljngaaW.PrintLast Go.Proofs.YtmgbpmihbljngaaW.PrintMore
set_option linter.unusedVariables false
set_option linter.unusedSimpArgs false
theorem qn4 {p:Int} (hp:7≤p∧p≤31) {t:Int×Int×Int} (ht:inP p t) (j:Nat) (hj:j < 10):fn (cubR p t) j=fn (cubI t) j % p:=by
  rw[← qjb hp ht]
  have hl:j < (cubI t).length:=by simp[cubI];omega
  have e1:fn ((cubI t).map (modV p)) j=modV p (fn (cubI t) j):=by
    simp[fn,rd,List.getD_eq_getElem?_getD,List.getElem?_eq_getElem hl]
  have e2:fn (cubI t) j=monI t j:=by simp[fn,rd,cubI,List.getD_eq_getElem?_getD,hj]
  rw[e1,e2,qb1 hp (qhz hp.2 ht j hj).1]
theorem qp7 {p:Int} (hp:zi p=true) (a:List Int) (ha:a.length=10∧∀ x∈a,0≤x∧x < p) {t:Int×Int×Int} (ht:inP p t):Ev (fun k=>jh.f k p a (cubI t)) (dotP p a (cubR p t)):=by
  have hb:=zx hp
  have la:=ha.1
  have lb:(cubI t).length=10:=by simp[cubI]
  have hend:dotP p a (cubR p t)=modV p (dt 10 (fn a) (fn (cubI t)))∧True:=by
    refine⟨?_,trivial⟩
    have hn:0≤dt 10 (fn a) (fn (cubI t)):=by
      have:∀ w,w≤10→0≤dt w (fn a) (fn (cubI t)):=by
        intro w
        induction w with
        | zero=>intro _;rw[qba];omega
        | succ w ih=>
          intro hw
          have b1:=Zs ha w (by omega)
          have b2:fn (cubI t) w=monI t w:=by simp[fn,rd,cubI,List.getD_eq_getElem?_getD,show w < 10 by omega]
          have b3:=qhz (p:=p) (by omega) ht w (by omega)
          have b4:=Int.mul_nonneg b1.1 (b2 ▸ b3.1)
          have:=ih (by omega)
          rw[Z6];omega
      exact this 10 (by omega)
    rw[qb1 ⟨by omega,by omega⟩ hn,dotP]
    refine Int.emod_emod_of_dvd _ (Int.dvd_refl p) ▸ ?_
    have hc:=qh8 (p:=p) (w:=10) (u:=fn a) (u':=fn a) (v:=fn (cubI t)) (v':=fn (cubR p t)) (fun j _=>by simp) (fun j hj=>by rw[qn4 ⟨by omega,by omega⟩ ht j hj];exact Zy _ _)
    exact(Int.emod_emod_of_dvd _ (Int.dvd_refl p)).trans (Int.emod_eq_emod_iff_emod_sub_eq_zero.2 (Int.emod_eq_zero_of_dvd hc)).symm
  have hl:∀ (d i:Nat),i+d=10→0≤dt i (fn a) (fn (cubI t))→dt i (fn a) (fn (cubI t))≤i*1000000000000000→Ev (fun k=>jh.l0 k p (cubI t) (dt i (fn a) (fn (cubI t))) a (a.length:Int) (i:Int)) (dotP p a (cubR p t)):=by
    intro d
    induction d with
    | zero=>
      intro i hi _ _
      obtain rfl:i=10:=by omega
      exact Ev.step (f:=fun _=>some (dotP p a (cubR p t))) (fun q=>by rw[jh.l0,if_neg (by omega),qdr p _ (by omega),← hend.1];rfl) (Ev.now _)
    | succ d ih=>
      intro i hi h0 h1
      have b1:=Zs ha i (by omega)
      have b2:fn (cubI t) i=monI t i:=by simp[fn,rd,cubI,List.getD_eq_getElem?_getD,show i < 10 by omega]
      have b3:=qhz (p:=p) (by omega) ht i (by omega)
      rw[← b2]at b3
      have b4:0≤fn a i*fn (cubI t) i:=Int.mul_nonneg b1.1 b3.1
      have b5:fn a i*fn (cubI t) i≤31*19683000000000:=Int.mul_le_mul (by omega) b3.2 b3.1 (by omega)
      have r1:rd a (i:Int)=fn a i:=rfl
      have r2:rd (cubI t) (i:Int)=fn (cubI t) i:=rfl
      refine Ev.step (fun q=>by rw[jh.l0,if_pos (by omega),if_pos (by omega),if_pos (by omega),if_pos (by omega),r1,r2,wsm (i:=fn a i*fn (cubI t) i) (by omega) (by omega),← Z6,wsm (i:=dt (i+1) (fn a) (fn (cubI t))) (by rw[Z6];omega) (by rw[Z6];omega),wsm (by omega) (by omega)]) ?_
      exact ih (i+1) (by omega) (by rw[Z6];omega) (by rw[Z6];omega)
  unfold jh.f
  have:=hl 10 0 rfl (by rw[qba];omega) (by rw[qba];omega)
  rwa [qba]at this
end Go.Proofs.Ytmgbpmihbljngaa.PA
namespace Go.Proofs.Ytmgbpmihbljngaa.PA
open Go.RowKit Go.Proofs.YtmgbpmihbljngaaW.PrintWords Go.Proofs.YtmgbpmihbljngaaW.PrintLast Go.Proofs.YtmgbpmihbljngaaW.PrintMore
set_option linter.unusedVariables false
set_option linter.unusedSimpArgs false
theorem qkd {p:Int} {Q:List (Int×Int×Int)} (hg:genB p Q=true) (t:Int×Int×Int) (ht:inP p t):Ev (fun k=>jl.f k p (basP p Q) t.1 t.2.1 t.2.2) (monP p (imgP p Q t)):=by
  obtain⟨hp,h6,_,_⟩:=jn hg
  have hb:=zx hp
  have hl:=qao hp h6 (Zd hg)
  have hrow:=fun i hi=>qdd (Q:=Q) hp i hi
  have hend:imgP p Q t=((basP p Q).map fun r=>dotP p r (cubR p t)):=rfl
  have hrg:=qb6 hp Q t
  have hml:(imgP p Q t).length=4:=by rw[imgP,List.length_map,hl]
  generalize imgP p Q t=M at*
  generalize basP p Q=B at*
  have h0:∀ (d i:Nat) (acc:List Int),i+d=4→acc=(B.take i).map (fun r=>dotP p r (cubR p t))→Ev (fun k=>jl.l0 k p acc B (B.length:Int) (i:Int) t.1 t.2.1 t.2.2) (monP p M):=by
    intro d
    induction d with
    | zero=>
      intro i acc hi ha
      rw[List.take_of_length_le (by omega),← hend]at ha
      subst ha
      have hm:=qn9 hp acc (by omega) fun x hx=>by have:=hrg x hx;omega
      have e:acc.map (fun x=>x % p)=acc:=by
        rw[List.map_congr_left (g:=id)]
        · simp
        · intro x hx;have:=hrg x hx;exact Int.emod_eq_of_lt this.1 this.2
      rw[e]at hm
      refine Ev.step (fun q=>by rw[jl.l0,if_neg (by omega)]) ?_
      exact Ev.bind hm (Ev.now _)
    | succ d ih=>
      intro i acc hi ha
      have hal:acc.length≤1000:=by rw[ha,List.length_map,List.length_take];omega
      have hd:=qp7 hp (B.getD i []) (hrow i (by omega)) ht
      refine Ev.step (fun q=>by rw[jl.l0,if_pos (by omega),if_pos (by omega),if_pos (by omega),qbi]) ?_
      refine Ev.bind (qjp (p:=p) (by omega) t ht) (Ev.bind hd (Ev.yes (show acc.length < 17592186044416 by omega) ?_))
      rw[wsm (by omega) (by omega)]
      refine ih (i+1) _ (by omega) ?_
      rw[ha,List.take_add_one,List.map_append,List.getD_eq_getElem?_getD,List.getElem?_eq_getElem (by omega)]
      rfl
  unfold jl.f
  exact h0 4 0 [] rfl rfl
end Go.Proofs.Ytmgbpmihbljngaa.PA
namespace Go.Proofs.Ytmgbpmihbljngaa.PA
open Go.RowKit Go.Proofs.YtmgbpmihbljngaaW.PrintWords Go.Proofs.YtmgbpmihbljngaaW.PrintLast Go.Proofs.YtmgbpmihbljngaaW.PrintMore
set_option linter.unusedVariables false
set_option linter.unusedSimpArgs false
def rF (p:Int) (r:List Int) (j:Nat):Fq (nn p):=fi (nn p) (fn r j)
theorem qf9 {p:Int} (hp:zi p=true) {w:Nat} {N:List (List Int)} (hN:N.length≤1) {v:Nat→Int} (h:Sp p w N v):∃ s:Fq (nn p),∀ j,j < w→fi (nn p) (v j)=s*rF p (N.getD 0 []) j:=by
  induction h with
  | zero v hz=>exact⟨0,fun j hj=>by rw[(Jg hp _).2 (hz j hj)];grind⟩
  | add v u r t hr _ h2 ih=>
    obtain⟨s,hs⟩:=ih
    have e:r=N.getD 0 []:=by
      match N,hN,hr with
      | [],_,hr=>cases hr
      | [x],_,hr=>rw[List.mem_singleton.1 hr];rfl
      | _ :: _ :: _,hN,_=>simp at hN
    refine⟨s+fi (nn p) t,fun j hj=>?_⟩
    have:=(qly hp (v j) (u j+t*fn r j)).2 (h2 j hj)
    rw[this,qaw,qau,hs j hj,e]
    show _ +_*rF p (N.getD 0 []) j=_
    grind
theorem qj0 {n:Nat} {u v x l m:Nat→Fq n} {s t:Fq n} (hu:∀ j,j < 4→u j=s*x j) (hv:∀ j,j < 4→v j=t*x j):lin4 l u*lin4 m v - lin4 l v*lin4 m u=0:=by
  simp only[lin4]
  rw[hu 0 (by omega),hu 1 (by omega),hu 2 (by omega),hu 3 (by omega),hv 0 (by omega),hv 1 (by omega),hv 2 (by omega),hv 3 (by omega)]
  grind
theorem qb5 {n:Nat} (u v:Nat→Fq n):lin4 u v=lin4 v u:=by simp only[lin4];grind
theorem qpa {p:Int} (hp:zi p=true) {L:List (List Int)} (hL:okR p 4 L) {u v:List Int} (hu:u∈L) (hv:v∈L) (l m:Nat→Fq (nn p)) (hne:lin4 l (rF p u)*lin4 m (rF p v) - lin4 l (rF p v)*lin4 m (rF p u)≠0):2≤Zm p 4 L:=by
  refine Classical.byContradiction fun hr=>hne ?_
  obtain⟨P,e,_,_,h1,_⟩:=Jd hp hL
  have hl:(P.map Prod.snd).length≤1:=by rw[← e];show Zm p 4 L≤1;omega
  obtain⟨s,hs⟩:=qf9 hp hl (h1 u hu)
  obtain⟨t,ht⟩:=qf9 hp hl (h1 v hv)
  exact qj0 hs ht
theorem dt4 {p:Int} (hp:zi p=true) (r:List Int) (a:Nat→Fq (nn p)):p ∣ dt 4 (fn r) (fun j=>((a j).val:Nat))↔lin4 a (rF p r)=0:=by
  rw[← Jg hp,qei]
  simp only[J5,sm,lin4,rF]
  constructor
  · intro h;rw[← h];grind
  · intro h;rw[← h];grind
theorem qja {p:Int} (hp:zi p=true) {L:List (List Int)} (hL:okR p 4 L) (a b y z:Nat→Fq (nn p)) (ha:∀ r∈L,lin4 a (rF p r)=0) (hb:∀ r∈L,lin4 b (rF p r)=0) (hne:lin4 a y*lin4 b z - lin4 a z*lin4 b y≠0):Zm p 4 L≤2:=by
  refine Classical.byContradiction fun hr=>hne ?_
  obtain⟨e1,_,hP,h1,h2⟩:=J2 hp hL
  have hc:=qf5 hP
  have hl:(Zn p 4 (Jj p 4 L)).length≤1:=by
    have:Zm p 4 L=(Jj p 4 L).length:=by rw[Zm,e1,List.length_map]
    rw[Zn,List.length_map];omega
  have k:∀ c:Nat→Fq (nn p),(∀ r∈L,lin4 c (rF p r)=0)→Sp p 4 (Zn p 4 (Jj p 4 L)) fun j=>(((c j).val:Nat):Int):=fun c hc=>qch hP fun x hx=>qlp (fun r hr=>(dt4 hp r c).2 (hc r hr)) (h2 x hx)
  obtain⟨s,hs⟩:=qf9 hp hl (k a ha)
  obtain⟨t,ht⟩:=qf9 hp hl (k b hb)
  simp only[J5]at hs ht
  rw[qb5 a y,qb5 b z,qb5 a z,qb5 b y]
  have:=qj0 (l:=y) (m:=z) hs ht
  rw[← this];grind
end Go.Proofs.Ytmgbpmihbljngaa.PA
namespace Go.Proofs.Ytmgbpmihbljngaa.PA
open Go.RowKit Go.Proofs.YtmgbpmihbljngaaW.PrintWords Go.Proofs.YtmgbpmihbljngaaW.PrintLast Go.Proofs.YtmgbpmihbljngaaW.PrintMore
set_option linter.unusedVariables false
set_option linter.unusedSimpArgs false
theorem qhw {p:Int} {Q:List (Int×Int×Int)} (hg:genB p Q=true) (t:Int×Int×Int) (i:Nat) (hi:i < 4):rF p (imgP p Q t) i=valC (basF p Q i) (p3 (nn p) t):=by
  obtain⟨hp,h6,_,_⟩:=jn hg
  have h4:=qao hp h6 (Zd hg)
  rw[rF,imgP,qe1 _ _ _ (by omega),ql9 hp]
  rfl
theorem J9 {p:Int} {Q:List (Int×Int×Int)} (hg:genB p Q=true) {l v:Nat→Fq (nn p)} (h:∀ j,j < 10→v j=lin4 l fun i=>basF p Q i j) (t:Int×Int×Int):lin4 l (rF p (imgP p Q t))=valC v (p3 (nn p) t):=by
  rw[Jt h]
  simp only[lin4]
  rw[qhw hg t 0 (by omega),qhw hg t 1 (by omega),qhw hg t 2 (by omega),qhw hg t 3 (by omega)]
theorem fi_pow (n:Nat) (x:Int) (e:Nat):fi n (x ^ (e+1))=fi n (x ^ e)*fi n x:=by rw[Int.pow_succ,qau]
theorem qqz {p:Int} (hp:zi p=true) (a:List Int) (x:Int×Int×Int) (c:Nat) (hc:c < 3):fi (nn p) (slpP p a x (vX c))=gdC c (fun j=>fi (nn p) (fn a j)) (p3 (nn p) x):=by
  have e3:=qox hp
  have e2:=qk2 hp
  have e1:=qbl hp
  rw[slpP,qe2 hp]
  simp only[slpS,qaw,qau,dmo,powN,List.getD_cons_zero,List.getD_cons_succ]
  rcases (show c=0∨c=1∨c=2 by omega) with rfl | rfl | rfl
  all_goals
    simp only[vX,l7V,gdC,p3,fn,if_true,if_false,Nat.one_ne_zero,Nat.zero_ne_one,Nat.reduceEqDiff,Nat.reduceAdd,Nat.reduceSub,Int.pow_zero,fi_pow,e1,Js]
    try simp only[show ((3:Nat):Int)=3 from rfl,show ((2:Nat):Int)=2 from rfl,show ((1:Nat):Int)=1 from rfl,show ((0:Nat):Int)=0 from rfl,e1,e2,e3,Js]
    grind
theorem qe9 {p:Int} {Q:List (Int×Int×Int)} (hg:genB p Q=true) (x:Int×Int×Int) (c:Nat) (hc:c < 3) (i:Nat) (hi:i < 4):rF p (rowS p (basP p Q) x c) i=gdC c (basF p Q i) (p3 (nn p) x):=by
  have hp:=(jn hg).1
  have e:fn (rowS p (basP p Q) x c) i=slpP p ((basP p Q).getD i []) x (vX c):=by
    rcases (show i=0∨i=1∨i=2∨i=3 by omega) with rfl | rfl | rfl | rfl<;>rfl
  rw[rF,e,qqz hp _ _ _ hc]
  rfl
theorem ql3 {p:Int} {Q:List (Int×Int×Int)} (hg:genB p Q=true) {l v:Nat→Fq (nn p)} (h:∀ j,j < 10→v j=lin4 l fun i=>basF p Q i j) (x:Int×Int×Int) (c:Nat) (hc:c < 3):lin4 l (rF p (rowS p (basP p Q) x c))=gdC c v (p3 (nn p) x):=by
  rw[qoh h]
  simp only[lin4]
  rw[qe9 hg x c hc 0 (by omega),qe9 hg x c hc 1 (by omega),qe9 hg x c hc 2 (by omega),qe9 hg x c hc 3 (by omega)]
theorem qlk {p:Int} (hp:zi p=true) (X:Nat→Fq (nn p)) (h:X 0≠0∨X 1≠0∨X 2≠0):∃ t∈allP p.toNat,∃ c:Fq (nn p),c≠0∧∀ i,i < 3→p3 (nn p) t i=c*X i:=by
  have hb:=zx hp
  have hn:=nn_p hp
  have h1:=qbl hp
  have hlt:∀ a:Fq (nn p),a.val < p.toNat:=fun a=>by have:=a.isLt;omega
  have hne:∀ {a b:Fq (nn p)},a*b=1→b≠0:=fun {a b} e hb=>by rw[hb]at e;exact fp_1 hp (by rw[← e];grind)
  by_cases h0:X 0=0
  · by_cases h1':X 1=0
    · have h2:X 2≠0:=by rcases h with h | h | h;exact absurd h0 h;exact absurd h1' h;exact h
      obtain⟨b,hb2⟩:=Jv hp _ h2
      refine⟨(0,0,1),List.mem_cons_self,b,hne hb2,fun i hi=>?_⟩
      rcases (show i=0∨i=1∨i=2 by omega) with rfl | rfl | rfl
      · show fi _ 0=_;rw[Js,h0];grind
      · show fi _ 0=_;rw[Js,h1'];grind
      · show fi _ 1=_;rw[h1,← hb2];grind
    · obtain⟨b,hb2⟩:=Jv hp _ h1'
      refine⟨(0,1,(((b*X 2).val:Nat):Int)),List.mem_cons_of_mem _ (List.mem_append.2 (.inl (List.mem_map.2 ⟨(b*X 2).val,List.mem_range.2 (hlt _),rfl⟩))),b,hne hb2,fun i hi=>?_⟩
      rcases (show i=0∨i=1∨i=2 by omega) with rfl | rfl | rfl
      · show fi _ 0=_;rw[Js,h0];grind
      · show fi _ 1=_;rw[h1,← hb2];grind
      · show fi _ (((b*X 2).val:Nat):Int)=_;rw[J5]
  · obtain⟨b,hb2⟩:=Jv hp _ h0
    refine⟨(1,(((b*X 1).val:Nat):Int),(((b*X 2).val:Nat):Int)),List.mem_cons_of_mem _ (List.mem_append.2 (.inr (List.mem_flatMap.2 ⟨(b*X 1).val,List.mem_range.2 (hlt _),List.mem_map.2 ⟨(b*X 2).val,List.mem_range.2 (hlt _),rfl⟩⟩))),b,hne hb2,fun i hi=>?_⟩
    rcases (show i=0∨i=1∨i=2 by omega) with rfl | rfl | rfl
    · show fi _ 1=_;rw[h1,← hb2];grind
    · show fi _ (((b*X 1).val:Nat):Int)=_;rw[J5]
    · show fi _ (((b*X 2).val:Nat):Int)=_;rw[J5]
theorem qc0 {n:Nat} (v P R:Nat→Fq n) (c:Fq n) (h:∀ i,i < 3→R i=c*P i):valC v R=c*c*c*valC v P:=by
  simp only[valC]
  rw[h 0 (by omega),h 1 (by omega),h 2 (by omega)]
  grind
end Go.Proofs.Ytmgbpmihbljngaa.PA
namespace Go.Proofs.Ytmgbpmihbljngaa.PA
open Go.RowKit Go.Proofs.YtmgbpmihbljngaaW.PrintWords Go.Proofs.YtmgbpmihbljngaaW.PrintLast Go.Proofs.YtmgbpmihbljngaaW.PrintMore
set_option linter.unusedVariables false
set_option linter.unusedSimpArgs false
theorem oth5 (k:Nat) (hk:k < 6):∃ a b c d e:Nat,(a < 6∧b < 6∧c < 6∧d < 6∧e < 6)∧(k≠a∧k≠b∧k≠c∧k≠d∧k≠e∧a≠b∧a≠c∧a≠d∧a≠e∧b≠c∧b≠d∧b≠e∧c≠d∧c≠e∧d≠e)∧∀ x,x < 6→x=k∨x=a∨x=b∨x=c∨x=d∨x=e:=by
  rcases (show k=0∨k=1∨k=2∨k=3∨k=4∨k=5 by omega) with rfl | rfl | rfl | rfl | rfl | rfl
  · exact⟨1,2,3,4,5,by decide,by decide,fun x hx=>by omega⟩
  · exact⟨0,2,3,4,5,by decide,by decide,fun x hx=>by omega⟩
  · exact⟨0,1,3,4,5,by decide,by decide,fun x hx=>by omega⟩
  · exact⟨0,1,2,4,5,by decide,by decide,fun x hx=>by omega⟩
  · exact⟨0,1,2,3,5,by decide,by decide,fun x hx=>by omega⟩
  · exact⟨0,1,2,3,4,by decide,by decide,fun x hx=>by omega⟩
theorem oth4 (i j:Nat) (hi:i < 6) (hj:j < 6) (hij:i≠j):∃ a b c d:Nat,(a < 6∧b < 6∧c < 6∧d < 6)∧(i≠j∧i≠a∧i≠b∧i≠c∧i≠d∧j≠a∧j≠b∧j≠c∧j≠d∧a≠b∧a≠c∧a≠d∧b≠c∧b≠d∧c≠d)∧∀ x,x < 6→x=i∨x=j∨x=a∨x=b∨x=c∨x=d:=by
  obtain⟨a,b,c,d,e,⟨ha,hb,hc,hd,he⟩,⟨ka,kb,kc,kd,ke,ab,ac,ad,ae,bc,bd,be,cd,ce,de⟩,h3⟩:=oth5 i hi
  rcases h3 j hj with h | h | h | h | h | h
  · exact absurd h.symm hij
  · subst h;exact⟨b,c,d,e,⟨hb,hc,hd,he⟩,⟨ka,kb,kc,kd,ke,ab,ac,ad,ae,bc,bd,be,cd,ce,de⟩,fun x hx=>by have:=h3 x hx;omega⟩
  · subst h;exact⟨a,c,d,e,⟨ha,hc,hd,he⟩,⟨kb,ka,kc,kd,ke,Ne.symm ab,bc,bd,be,ac,ad,ae,cd,ce,de⟩,fun x hx=>by have:=h3 x hx;omega⟩
  · subst h;exact⟨a,b,d,e,⟨ha,hb,hd,he⟩,⟨kc,ka,kb,kd,ke,Ne.symm ac,Ne.symm bc,cd,ce,ab,ad,ae,bd,be,de⟩,fun x hx=>by have:=h3 x hx;omega⟩
  · subst h;exact⟨a,b,c,e,⟨ha,hb,hc,he⟩,⟨kd,ka,kb,kc,ke,Ne.symm ad,Ne.symm bd,Ne.symm cd,de,ab,ac,ae,bc,be,ce⟩,fun x hx=>by have:=h3 x hx;omega⟩
  · subst h;exact⟨a,b,c,d,⟨ha,hb,hc,hd⟩,⟨ke,ka,kb,kc,kd,Ne.symm ae,Ne.symm be,Ne.symm ce,Ne.symm de,ab,ac,ad,bc,bd,cd⟩,fun x hx=>by have:=h3 x hx;omega⟩
theorem qg6 {n:Nat} {l u x:Nat→Fq n} {s:Fq n} (h:∀ j,j < 4→u j=s*x j):lin4 l u=s*lin4 l x:=by
  simp only[lin4]
  rw[h 0 (by omega),h 1 (by omega),h 2 (by omega),h 3 (by omega)]
  grind
theorem qcs {p:Int} {Q:List (Int×Int×Int)} (hg:genB p Q=true) (i j k l m q:Nat) (h:∀ x,x < 6→x=i∨x=j∨x=k∨x=l∨x=m∨x=q):∃ f:Nat→Fq (nn p),∀ z,z < 10→lin6 (ptL p Q) i j k l m q z=lin4 f fun i=>basF p Q i z:=by
  obtain⟨hp,h6,_,_⟩:=jn hg
  exact qbz hp h6 (Zd hg) _ (qa3 _ i j k l m q h)
theorem qqc {p:Int} {Q:List (Int×Int×Int)} (hg:genB p Q=true) (k:Nat) (hk:k < 6):2≤Zm p 4 ((List.range 3).map (rowS p (basP p Q) (Q.getD k (0,0,0)))):=by
  obtain⟨hp,h6,_,_⟩:=jn hg
  have hG:=Zd hg
  have hL:okR p 4 ((List.range 3).map (rowS p (basP p Q) (Q.getD k (0,0,0)))):=by
    have:=qdc hg (k:Int)
    rw[linR,if_pos (by omega)]at this
    exact this
  obtain⟨a,b,c,d,e,⟨ha,hb,hc,hd,he⟩,⟨ka,kb,kc,kd,ke,ab,ac,ad,ae,bc,bd,be,cd,ce,de⟩,h3⟩:=oth5 k hk
  obtain⟨l1,e1⟩:=qcs hg k a b c d e h3
  obtain⟨l2,e2⟩:=qcs hg k b a c d e fun x hx=>by have:=h3 x hx;omega
  refine Classical.byContradiction fun hr=>?_
  obtain⟨P,er,_,_,hs,_⟩:=Jd hp hL
  have hl:(P.map Prod.snd).length≤1:=by rw[← er];show Zm p 4 _≤1;omega
  have H:∀ c:Nat,∃ s:Fq (nn p),c < 3→∀ j,j < 4→rF p (rowS p (basP p Q) (Q.getD k (0,0,0)) c) j=s*rF p ((P.map Prod.snd).getD 0 []) j:=fun c=>by
    by_cases h:c < 3
    · obtain⟨s,hs⟩:=qf9 hp hl (hs _ (List.mem_map.2 ⟨c,List.mem_range.2 h,rfl⟩))
      exact⟨s,fun _=>hs⟩
    · exact⟨0,fun h'=>absurd h' h⟩
  obtain⟨s,hs'⟩:=Classical.axiomOfChoice H
  refine qoe (Jv hp) hG (k:=k) (a:=a) (b:=b) (c:=c) (d:=d) (e:=e) ⟨hk,ha,hb,hc,hd,he⟩ ⟨ka,kb,kc,kd,ke,ab,ac,bc,de⟩ s (lin4 l1 (rF p ((P.map Prod.snd).getD 0 []))) (lin4 l2 (rF p ((P.map Prod.snd).getD 0 []))) (fun i hi=>?_) fun i hi=>?_
  · show gdC i _ (p3 (nn p) (Q.getD k (0,0,0)))=_
    rw[← ql3 hg e1 _ i hi];exact qg6 (hs' i hi)
  · show gdC i _ (p3 (nn p) (Q.getD k (0,0,0)))=_
    rw[← ql3 hg e2 _ i hi];exact qg6 (hs' i hi)
theorem qqu {p:Int} {Q:List (Int×Int×Int)} (hg:genB p Q=true) (k:Nat) (hk:k < 6):Zm p 4 ((List.range 3).map (rowS p (basP p Q) (Q.getD k (0,0,0))))≤2:=by
  obtain⟨hp,h6,_,_⟩:=jn hg
  have hG:=Zd hg
  have h4:=qao hp h6 hG
  have hL:okR p 4 ((List.range 3).map (rowS p (basP p Q) (Q.getD k (0,0,0)))):=by
    have:=qdc hg (k:Int)
    rw[linR,if_pos (by omega)]at this
    exact this
  have hR:=qij hp hL
  rw[show ((List.range 3).map (rowS p (basP p Q) (Q.getD k (0,0,0)))).length=3 from rfl]at hR
  have ht:=qop hL
  rw[show ((List.range 3).map (rowS p (basP p Q) (Q.getD k (0,0,0)))).length=3 from rfl]at ht
  obtain⟨N,eN,_,_,hc⟩:=Zi hp ht
  by_cases hN:N=[]
  · exfalso
    have hs:=hc (fun j=>(((ptL p Q k j).val:Nat):Int)) fun r hr=>by
      obtain⟨j,hj,rfl⟩:=List.mem_map.1 hr
      have hj4:j < 4:=by simpa using hj
      rw[← Jg hp,qei]
      simp only[J5]
      have hrow:∀ c,c < 3→fi (nn p) (fn (((List.range 3).map (rowS p (basP p Q) (Q.getD k (0,0,0)))).map fun r=>fn r j) c)=gdC c (basF p Q j) (ptL p Q k):=fun c hc=>by
        rw[← show _=gdC c (basF p Q j) (ptL p Q k) from qe9 hg _ c hc j hj4]
        rcases (show c=0∨c=1∨c=2 by omega) with rfl | rfl | rfl<;>rfl
      simp only[sm]
      rw[hrow 0 (by omega),hrow 1 (by omega),hrow 2 (by omega)]
      have he:=qng (basF p Q j) (ptL p Q k)
      rw[qiu hp j k (by omega) (by omega)]at he
      grind
    rw[hN]at hs
    cases hs with
    | zero _ hz=>
      obtain⟨a,b,_,_,_,h1,h2,_⟩:=oth5 k hk
      have z:∀ j,j < 3→ptL p Q k j=0:=fun j hj=>by
        have:=(Jg hp _).2 (hz j hj)
        rwa [J5]at this
      refine hG a b k h1.1 h1.2.1 hk (by omega) (by omega) (by omega) ?_
      simp only[ev3]
      rw[z 0 (by omega),z 1 (by omega),z 2 (by omega)]
      grind
    | add _ _ _ _ hr _ _=>cases hr
  · have:0 < N.length:=List.length_pos_iff.2 hN
    have e:(Zk p 3 (tr 4 ((List.range 3).map (rowS p (basP p Q) (Q.getD k (0,0,0)))))).length=N.length:=by rw[eN,List.length_map]
    omega
theorem qjy {p:Int} {Q:List (Int×Int×Int)} (hg:genB p Q=true) {L:List (List Int)} (hL:okR p 4 L) (X Y w1 w2:Nat→Fq (nn p)) (h1:∀ x,x < 6→valC w1 (ptL p Q x)=0) (h2:∀ x,x < 6→valC w2 (ptL p Q x)=0) (hd:valC w1 X*valC w2 Y - valC w1 Y*valC w2 X≠0)
    (hm:∀ t∈allP p.toNat,∀ c:Fq (nn p),((∀ i,i < 3→p3 (nn p) t i=c*X i)∨∀ i,i < 3→p3 (nn p) t i=c*Y i)→(imgP p Q t).all (fun x=>x == 0)=false→imgP p Q t∈L):2≤Zm p 4 L:=by
  obtain⟨hp,h6,_,_⟩:=jn hg
  have hF:=Jv hp
  have hG:=Zd hg
  obtain⟨l1,e1⟩:=qbz hp h6 hG w1 h1
  obtain⟨l2,e2⟩:=qbz hp h6 hG w2 h2
  have hz:∀ (w Z:Nat→Fq (nn p)),Z 0=0→Z 1=0→Z 2=0→valC w Z=0:=fun w Z a b c=>by
    simp only[valC];rw[a,b,c];grind
  have hX:X 0≠0∨X 1≠0∨X 2≠0:=Classical.byContradiction fun h=>hd (by
    have a0:X 0=0:=Classical.byContradiction fun q=>h (.inl q)
    have a1:X 1=0:=Classical.byContradiction fun q=>h (.inr (.inl q))
    have a2:X 2=0:=Classical.byContradiction fun q=>h (.inr (.inr q))
    rw[hz w1 X a0 a1 a2,hz w2 X a0 a1 a2];grind)
  have hY:Y 0≠0∨Y 1≠0∨Y 2≠0:=Classical.byContradiction fun h=>hd (by
    have a0:Y 0=0:=Classical.byContradiction fun q=>h (.inl q)
    have a1:Y 1=0:=Classical.byContradiction fun q=>h (.inr (.inl q))
    have a2:Y 2=0:=Classical.byContradiction fun q=>h (.inr (.inr q))
    rw[hz w1 Y a0 a1 a2,hz w2 Y a0 a1 a2];grind)
  obtain⟨t,ht,c,hc,et⟩:=qlk hp X hX
  obtain⟨s,hs,d,hd',es⟩:=qlk hp Y hY
  have f1:lin4 l1 (rF p (imgP p Q t))=c*c*c*valC w1 X:=by rw[J9 hg e1,qc0 _ _ _ c et]
  have f2:lin4 l2 (rF p (imgP p Q t))=c*c*c*valC w2 X:=by rw[J9 hg e2,qc0 _ _ _ c et]
  have g1:lin4 l1 (rF p (imgP p Q s))=d*d*d*valC w1 Y:=by rw[J9 hg e1,qc0 _ _ _ d es]
  have g2:lin4 l2 (rF p (imgP p Q s))=d*d*d*valC w2 Y:=by rw[J9 hg e2,qc0 _ _ _ d es]
  have hc3:=fnz hF (fnz hF hc hc) hc
  have hd3:=fnz hF (fnz hF hd' hd') hd'
  have hne:lin4 l1 (rF p (imgP p Q t))*lin4 l2 (rF p (imgP p Q s)) - lin4 l1 (rF p (imgP p Q s))*lin4 l2 (rF p (imgP p Q t))≠0:=by
    rw[f1,f2,g1,g2]
    have:=fnz hF (fnz hF hc3 hd3) hd
    intro h;apply this;rw[← h];grind
  have hall:∀ u:List Int,u.all (fun x=>x == 0)=true→∀ l:Nat→Fq (nn p),lin4 l (rF p u)=0:=fun u hu l=>by
    have z:∀ j,rF p u j=0:=fun j=>by
      have:fn u j=0:=by
        by_cases hj:j < u.length
        · have:=List.all_eq_true.1 hu (u[j]) (List.getElem_mem hj)
          rw[fn,Zz u j hj];simpa using this
        · simp[fn,rd,List.getD_eq_getElem?_getD,List.getElem?_eq_none (Nat.le_of_not_lt hj)]
      rw[rF,this,Js]
    simp only[lin4];rw[z,z,z,z];grind
  have nt:(imgP p Q t).all (fun x=>x == 0)=false:=by
    cases h:(imgP p Q t).all (fun x=>x == 0)
    · rfl
    · exact absurd (by rw[hall _ h l1,hall _ h l2];grind) hne
  have ns:(imgP p Q s).all (fun x=>x == 0)=false:=by
    cases h:(imgP p Q s).all (fun x=>x == 0)
    · rfl
    · exact absurd (by rw[hall _ h l1,hall _ h l2];grind) hne
  exact qpa hp hL (hm t ht c (.inl et) nt) (hm s hs d (.inr es) ns) l1 l2 hne
end Go.Proofs.Ytmgbpmihbljngaa.PA
namespace Go.Proofs.Ytmgbpmihbljngaa.PA
open Go.RowKit Go.Proofs.YtmgbpmihbljngaaW.PrintWords Go.Proofs.YtmgbpmihbljngaaW.PrintLast Go.Proofs.YtmgbpmihbljngaaW.PrintMore
set_option linter.unusedVariables false
set_option linter.unusedSimpArgs false
theorem qpi {p:Int} (hp:zi p=true) (a b c:Int×Int×Int):colB p a b c=true↔ev3 (qu (p3 (nn p) a) (p3 (nn p) b)) (p3 (nn p) c)=0:=by
  have e:ev3 (qu (p3 (nn p) a) (p3 (nn p) b)) (p3 (nn p) c)=fi (nn p) (c.1*(a.2.1*b.2.2 - a.2.2*b.2.1)+c.2.1*(a.2.2*b.1 - a.1*b.2.2)+c.2.2*(a.1*b.2.1 - a.2.1*b.1)):=by
    simp only[ev3,qu,p3,qaw,qau,qkq]
    grind
  rw[e,Jg hp,colB,beq_iff_eq]
  exact⟨fun h=>Int.dvd_of_emod_eq_zero h,fun h=>Int.emod_eq_zero_of_dvd h⟩
theorem qca {p:Int} {Q L:List (Int×Int×Int)} {r:List Int}:r∈curP p Q L↔∃ t∈L,imgP p Q t=r∧r.all (fun x=>x == 0)=false:=by
  rw[curP,List.mem_filter,List.mem_map]
  constructor
  · rintro⟨⟨t,ht,e⟩,h⟩
    exact⟨t,ht,e,by simpa using h⟩
  · rintro⟨t,ht,e,h⟩
    exact⟨⟨t,ht,e⟩,by rw[h];rfl⟩
theorem qos :∀ n:Nat,n < 15→endA ((n:Int)+6)≠endB ((n:Int)+6):=by decide+kernel
theorem qlu {kk:Int} (h:6≤kk∧kk < 21):endA kk≠endB kk:=by
  have:=qos (kk - 6).toNat (by omega)
  rwa [show (((kk - 6).toNat:Nat):Int)+6=kk by omega]at this
theorem qqo {p:Int} {Q:List (Int×Int×Int)} (hg:genB p Q=true) (i j:Nat) (hi:i < 6) (hj:j < 6) (hij:i≠j):2≤Zm p 4 (curP p Q ((allP p.toNat).filter (colB p (Q.getD i (0,0,0)) (Q.getD j (0,0,0))))):=by
  obtain⟨hp,h6,_,_⟩:=jn hg
  have hF:=Jv hp
  have hG:=Zd hg
  obtain⟨a,b,c,d,⟨ha,hb,hc,hd⟩,hne,h3⟩:=oth4 i j hi hj hij
  refine qjy hg (qbb hg _) (mixP (ptL p Q i) (ptL p Q j) 1 1) (mixP (ptL p Q i) (ptL p Q j) 1 2) (lin6 (ptL p Q) i a j b c d) (lin6 (ptL p Q) i a j c b d) (qa3 _ i a j b c d fun x hx=>by have:=h3 x hx;omega) (qa3 _ i a j c b d fun x hx=>by have:=h3 x hx;omega)
    (qph hF hG ⟨hi,hj,ha,hb,hc,hd⟩ hne (fp_1 hp) (fp_1 hp) (fp_1 hp) (fp_2 hp) (by have:=fp_1 hp;intro h;apply this;rw[← h];grind)) fun t ht s hs hz=>qca.2 ⟨t,List.mem_filter.2 ⟨ht,?_⟩,rfl,hz⟩
  rw[qpi hp]
  have z1:ev3 (qu (ptL p Q i) (ptL p Q j)) (ptL p Q i)=0:=Qv _ _
  have z2:ev3 (qu (ptL p Q i) (ptL p Q j)) (ptL p Q j)=0:=Z8 _ _
  have hm:∀ u v:Fq (nn p),ev3 (qu (ptL p Q i) (ptL p Q j)) (mixP (ptL p Q i) (ptL p Q j) u v)=0:=fun u v=>by rw[qar,z1,z2];grind
  have hk:∀ X:Nat→Fq (nn p),(∀ i,i < 3→p3 (nn p) t i=s*X i)→ev3 (qu (ptL p Q i) (ptL p Q j)) (p3 (nn p) t)=s*ev3 (qu (ptL p Q i) (ptL p Q j)) X:=fun X h=>by
    simp only[ev3];rw[h 0 (by omega),h 1 (by omega),h 2 (by omega)];grind
  show ev3 (qu (ptL p Q i) (ptL p Q j)) (p3 (nn p) t)=0
  rcases hs with h | h
  · rw[hk _ h,hm];grind
  · rw[hk _ h,hm];grind
theorem qp9 {p:Int} {Q:List (Int×Int×Int)} (hg:genB p Q=true) (i j:Nat) (hi:i < 6) (hj:j < 6) (hij:i≠j):Zm p 4 (curP p Q ((allP p.toNat).filter (colB p (Q.getD i (0,0,0)) (Q.getD j (0,0,0)))))≤2:=by
  obtain⟨hp,h6,_,_⟩:=jn hg
  have hF:=Jv hp
  have hG:=Zd hg
  obtain⟨a,b,c,d,⟨ha,hb,hc,hd⟩,hne,h3⟩:=oth4 i j hi hj hij
  obtain⟨l1,e1⟩:=qcs hg i j a b c d h3
  obtain⟨l2,e2⟩:=qcs hg i j a c b d fun x hx=>by have:=h3 x hx;omega
  obtain⟨x,y,q1,q2,q3,q4⟩:=qkt hF (fp_1 hp) (fp_2 hp) hG ⟨hi,hj,ha,hb,hc,hd⟩ hne
  have hz:∀ r∈curP p Q ((allP p.toNat).filter (colB p (Q.getD i (0,0,0)) (Q.getD j (0,0,0)))),∃ t,imgP p Q t=r∧ev3 (qu (ptL p Q i) (ptL p Q j)) (p3 (nn p) t)=0:=fun r hr=>by
    obtain⟨t,ht,e,_⟩:=qca.1 hr
    exact⟨t,e,(qpi hp _ _ _).1 (List.mem_filter.1 ht).2⟩
  refine qja hp (qbb hg _) l1 l2 (fun z=>valC (basF p Q z) y) (fun z=>valC (basF p Q z) x) (fun r hr=>?_) (fun r hr=>?_) ?_
  · obtain⟨t,rfl,h⟩:=hz r hr
    rw[J9 hg e1,Q9,h];grind
  · obtain⟨t,rfl,h⟩:=hz r hr
    rw[J9 hg e2,Q9,h];grind
  · rw[← Jt e1,← Jt e1,← Jt e2,← Jt e2,q1,q4]
    have:=fnz hF q3 q2
    intro h;apply this;rw[← h];grind
end Go.Proofs.Ytmgbpmihbljngaa.PA
namespace Go.Proofs.Ytmgbpmihbljngaa.PA
open Go.RowKit Go.Proofs.YtmgbpmihbljngaaW.PrintWords Go.Proofs.YtmgbpmihbljngaaW.PrintLast Go.Proofs.YtmgbpmihbljngaaW.PrintMore
set_option linter.unusedVariables false
set_option linter.unusedSimpArgs false
theorem ql2 (w:Nat) (u v:Nat→Int):dt w u v=dt w v u:=by
  rw[dt,dt];congr 1;exact List.map_congr_left fun j _=>Int.mul_comm _ _
def conF (p:Int) (Q:List (Int×Int×Int)) (m:Nat) (j:Nat):Fq (nn p):=rF p (conP p Q ((m:Int)+21)) j
theorem qh0 {p:Int} (hp:zi p=true) (r:List Int) (t:Int×Int×Int):p ∣ dt 6 (fn r) (fn (sqR p t))↔valQ (rF p r) (p3 (nn p) t)=0:=by
  have e:fi (nn p) (dt 6 (fn r) (fn (sqR p t)))=valQ (rF p r) (p3 (nn p) t):=by
    rw[qei]
    simp only[sm,valQ,rF,p3]
    have e0:fn (sqR p t) 0=t.1*t.1 % p:=rfl
    have e1:fn (sqR p t) 1=t.1*t.2.1 % p:=rfl
    have e2:fn (sqR p t) 2=t.1*t.2.2 % p:=rfl
    have e3:fn (sqR p t) 3=t.2.1*t.2.1 % p:=rfl
    have e4:fn (sqR p t) 4=t.2.1*t.2.2 % p:=rfl
    have e5:fn (sqR p t) 5=t.2.2*t.2.2 % p:=rfl
    rw[e0,e1,e2,e3,e4,e5]
    simp only[qe2 hp,qau]
    grind
  rw[← Jg hp,e]
theorem qnl (p:Int) (Q:List (Int×Int×Int)) (m:Nat):conP p Q ((m:Int)+21)=(Zk p 6 ((Q.take m++Q.drop (m+1)).map (sqR p))).getD 0 []:=by
  rw[conP,show ((m:Int)+21 - 21).toNat=m by omega,show ((m:Int)+21 - 20).toNat=m+1 by omega]
theorem qif {p:Int} {Q:List (Int×Int×Int)} (hg:genB p Q=true) (m:Nat) (hm:m < 6):conP p Q ((m:Int)+21)∈Zk p 6 ((Q.take m++Q.drop (m+1)).map (sqR p)):=by
  obtain⟨hp,h6,_,_⟩:=jn hg
  have hl:((Q.take m++Q.drop (m+1)).map (sqR p)).length=5:=by simp[List.length_take,List.length_drop,h6];omega
  have hn:=qdf hp (qd5 hp (Q.take m++Q.drop (m+1))) (by have:=qc4 (p:=p) (w:=6) ((Q.take m++Q.drop (m+1)).map (sqR p));omega)
  rw[qnl]
  exact Q5 (List.length_pos_iff.2 hn)
theorem qo3 {α:Type} (Q:List α) (d:α) (m i:Nat) (hi:i < Q.length) (hm:i≠m):Q.getD i d∈Q.take m++Q.drop (m+1):=by
  rw[List.getD_eq_getElem?_getD,List.getElem?_eq_getElem hi,Option.getD_some,List.mem_append]
  by_cases h:i < m
  · exact .inl (List.mem_take_iff_getElem.2 ⟨i,by omega,rfl⟩)
  · exact .inr (List.mem_drop_iff_getElem.2 ⟨i - (m+1),by omega,by congr 1;omega⟩)
theorem qdb {p:Int} {Q:List (Int×Int×Int)} (hg:genB p Q=true) (m:Nat) (hm:m < 6) (i:Nat) (hi:i < 6) (hne:i≠m):valQ (conF p Q m) (ptL p Q i)=0:=by
  obtain⟨hp,h6,_,_⟩:=jn hg
  obtain⟨N,e,_,h,_⟩:=Zi hp (qd5 hp (Q.take m++Q.drop (m+1)))
  have hk:=qif hg m hm
  rw[e]at hk
  obtain⟨z,hz,ez⟩:=List.mem_map.1 hk
  have h1:=h z hz _ (List.mem_map.2 ⟨_,qo3 Q (0,0,0) m i (by omega) hne,rfl⟩)
  rw[ez]at h1
  rw[ql2]at h1
  exact(qh0 hp _ _).1 h1
theorem qdx {p:Int} {Q:List (Int×Int×Int)} (hg:genB p Q=true) (m:Nat) (hm:m < 6):valQ (conF p Q m) (ptL p Q m)≠0:=fun hz=>by
  obtain⟨hp,h6,_,hn⟩:=jn hg
  have hb:=zx hp
  obtain⟨N,e,_,_,hc⟩:=Zi hp (qd5 hp Q)
  have hs:=hc (fn (conP p Q ((m:Int)+21))) fun r hr=>by
    obtain⟨t,ht,rfl⟩:=List.mem_map.1 hr
    rw[ql2,qh0 hp]
    obtain⟨i,hi,rfl⟩:=List.mem_iff_getElem.1 ht
    have hg':Q[i]=Q.getD i (0,0,0):=by rw[List.getD_eq_getElem?_getD,List.getElem?_eq_getElem hi];rfl
    rw[hg']
    by_cases him:i=m
    · subst him;exact hz
    · exact qdb hg m hm i (by omega) him
  rw[← e,hn]at hs
  obtain⟨N2,e2,hR,_,_⟩:=Zi hp (qd5 hp (Q.take m++Q.drop (m+1)))
  have hk:=qif hg m hm
  rw[e2]at hk
  obtain⟨z,hz2,ez⟩:=List.mem_map.1 hk
  cases hs with
  | zero _ h0=>
    have h1:=h0 z.1 (hR.lt z hz2)
    rw[← ez,hR.one z hz2]at h1
    exact qam (by omega) h1
  | add _ _ _ _ hr _ _=>cases hr
def conS (p:Int) (Q:List (Int×Int×Int)) (m:Nat):List (List Int):=curP p Q ((allP p.toNat).filter fun t=>dt 6 (fn (conP p Q ((m:Int)+21))) (fn (sqR p t)) % p == 0)
theorem qlc {p:Int} {Q:List (Int×Int×Int)} (hp:zi p=true) (m:Nat) (t:Int×Int×Int):(dt 6 (fn (conP p Q ((m:Int)+21))) (fn (sqR p t)) % p == 0)=true↔valQ (conF p Q m) (p3 (nn p) t)=0:=by
  rw[beq_iff_eq]
  exact⟨fun h=>(qh0 hp _ _).1 (Int.dvd_of_emod_eq_zero h),fun h=>Int.emod_eq_zero_of_dvd ((qh0 hp _ _).2 h)⟩
theorem qqp {p:Int} {Q:List (Int×Int×Int)} (hg:genB p Q=true) (m:Nat) (hm:m < 6):Zm p 4 (conS p Q m)≤2:=by
  obtain⟨hp,h6,_,_⟩:=jn hg
  have hF:=Jv hp
  have hG:=Zd hg
  obtain⟨a,b,c,d,e,⟨ha,hb,hc,hd,he⟩,⟨ka,kb,kc,kd,ke,ab,ac,ad,ae,bc,bd,be,cd,ce,de⟩,h3⟩:=oth5 m hm
  have qz:=fun i (hi:i < 6) (h:i≠m)=>qdb hg m hm i hi h
  have hv:∀ o,∀ x,x < 6→valC (qL (conF p Q m) (qu (ptL p Q m) (ptL p Q o))) (ptL p Q x)=0:=fun o x hx=>by
    rw[qcj]
    by_cases hxm:x=m
    · subst hxm;rw[show ev3 (qu (ptL p Q x) (ptL p Q o)) (ptL p Q x)=0 from Qv _ _];grind
    · rw[qz x hx hxm];grind
  obtain⟨l1,e1⟩:=qbz hp h6 hG _ (hv a)
  obtain⟨l2,e2⟩:=qbz hp h6 hG _ (hv b)
  obtain⟨x,y,q1,q2,q3,q4⟩:=qi8 hF (fp_1 hp) (fp_2 hp) hG ⟨hm,ha,hb⟩ ⟨ka,kb,ab⟩ (conF p Q m) (qz a ha (Ne.symm ka)) (qz b hb (Ne.symm kb)) (qdx hg m hm)
  have hz:∀ r∈conS p Q m,∃ t,imgP p Q t=r∧valQ (conF p Q m) (p3 (nn p) t)=0:=fun r hr=>by
    obtain⟨t,ht,e,_⟩:=qca.1 hr
    exact⟨t,e,(qlc hp m t).1 (List.mem_filter.1 ht).2⟩
  refine qja hp (qbb hg _) l1 l2 (fun z=>valC (basF p Q z) y) (fun z=>valC (basF p Q z) x) (fun r hr=>?_) (fun r hr=>?_) ?_
  · obtain⟨t,rfl,h⟩:=hz r hr
    rw[J9 hg e1,qcj,h];grind
  · obtain⟨t,rfl,h⟩:=hz r hr
    rw[J9 hg e2,qcj,h];grind
  · rw[← Jt e1,← Jt e1,← Jt e2,← Jt e2,q1,q4]
    have:=fnz hF q3 q2
    intro h;apply this;rw[← h];grind
theorem qb2 {p:Int} {Q:List (Int×Int×Int)} (hg:genB p Q=true) {m u v a b c:Nat} (hk:m < 6∧u < 6∧v < 6∧a < 6∧b < 6∧c < 6) (hd:m≠u∧m≠v∧m≠a∧m≠b∧m≠c∧u≠v∧u≠a∧u≠b∧u≠c∧v≠a∧v≠b∧v≠c∧a≠b∧a≠c∧b≠c) (hall:∀ z,z < 6→z=m∨z=u∨z=v∨z=a∨z=b∨z=c)
    (pu:ev3 (polL (conF p Q m) (ptL p Q m)) (ptL p Q u)≠0) (pv:ev3 (polL (conF p Q m) (ptL p Q m)) (ptL p Q v)≠0):2≤Zm p 4 (conS p Q m):=by
  obtain⟨hp,h6,_,_⟩:=jn hg
  have hF:=Jv hp
  have hG:=Zd hg
  have qm:=qdx hg m hk.1
  obtain⟨f,f0,fu,fv⟩:=ql0 hF hG hk hd hall (conF p Q m) qm pv
  obtain⟨g,g0,gv,gu⟩:=ql0 hF hG (m:=m) (u:=v) (v:=u) (a:=a) (b:=b) (c:=c) ⟨hk.1,hk.2.2.1,hk.2.1,hk.2.2.2⟩ (by obtain⟨d1,d2,d3,d4,d5,d6,d7,d8,d9,d10,d11,d12,d13,d14,d15⟩:=hd;exact⟨d2,d1,d3,d4,d5,Ne.symm d6,d10,d11,d12,d7,d8,d9,d13,d14,d15⟩) (fun z hz=>by have:=hall z hz;omega) (conF p Q m) qm pu
  have cu:=qdb hg m hk.1 u hk.2.1 (Ne.symm hd.1)
  have cv:=qdb hg m hk.1 v hk.2.2.1 (Ne.symm hd.2.1)
  refine qjy hg (qbb hg _) (secP (conF p Q m) (ptL p Q) m u) (secP (conF p Q m) (ptL p Q) m v) f g f0 g0 ?_ fun t ht s hs hz=>qca.2 ⟨t,List.mem_filter.2 ⟨ht,(qlc hp m t).2 ?_⟩,rfl,hz⟩
  · rw[fu,gv]
    have:=fnz hF fv gu
    intro h;apply this;grind
  · have hq:∀ X:Nat→Fq (nn p),(∀ i,i < 3→p3 (nn p) t i=s*X i)→valQ (conF p Q m) (p3 (nn p) t)=s*s*valQ (conF p Q m) X:=fun X h=>by
      simp only[valQ];rw[h 0 (by omega),h 1 (by omega),h 2 (by omega)];grind
    rcases hs with h | h
    · rw[hq _ h,qn0 _ _ _ _ cu];grind
    · rw[hq _ h,qn0 _ _ _ _ cv];grind
theorem qqt {p:Int} {Q:List (Int×Int×Int)} (hg:genB p Q=true) (m:Nat) (hm:m < 6):2≤Zm p 4 (conS p Q m):=by
  obtain⟨hp,h6,_,_⟩:=jn hg
  have hF:=Jv hp
  have hG:=Zd hg
  obtain⟨a,b,c,d,e,⟨ha,hb,hc,hd,he⟩,⟨ka,kb,kc,kd,ke,ab,ac,ad,ae,bc,bd,be,cd,ce,de⟩,h3⟩:=oth5 m hm
  have hl:ev3 (polL (conF p Q m) (ptL p Q m)) (ptL p Q m)≠0:=by
    rw[qmo];exact fnz hF (fp_2 hp) (qdx hg m hm)
  have t3:=fun (x y z:Nat) (hk:x < 6∧y < 6∧z < 6) (hd:x≠y∧y≠z∧x≠z) (h1:ev3 (polL (conF p Q m) (ptL p Q m)) (ptL p Q x)=0) (h2:ev3 (polL (conF p Q m) (ptL p Q m)) (ptL p Q y)=0) (h3:ev3 (polL (conF p Q m) (ptL p Q m)) (ptL p Q z)=0)=>qnt hF hG hk hd _ _ hl h1 h2 h3
  by_cases pa:ev3 (polL (conF p Q m) (ptL p Q m)) (ptL p Q a)=0
  · by_cases pb:ev3 (polL (conF p Q m) (ptL p Q m)) (ptL p Q b)=0
    · have pc:ev3 (polL (conF p Q m) (ptL p Q m)) (ptL p Q c)≠0:=fun h=>t3 a b c ⟨ha,hb,hc⟩ ⟨ab,bc,ac⟩ pa pb h
      have pd:ev3 (polL (conF p Q m) (ptL p Q m)) (ptL p Q d)≠0:=fun h=>t3 a b d ⟨ha,hb,hd⟩ ⟨ab,bd,ad⟩ pa pb h
      exact qb2 hg (u:=c) (v:=d) (a:=a) (b:=b) (c:=e) ⟨hm,hc,hd,ha,hb,he⟩ ⟨kc,kd,ka,kb,ke,cd,Ne.symm ac,Ne.symm bc,ce,Ne.symm ad,Ne.symm bd,de,ab,ae,be⟩ (fun z hz=>by have:=h3 z hz;omega) pc pd
    · by_cases pc:ev3 (polL (conF p Q m) (ptL p Q m)) (ptL p Q c)=0
      · have pd:ev3 (polL (conF p Q m) (ptL p Q m)) (ptL p Q d)≠0:=fun h=>t3 a c d ⟨ha,hc,hd⟩ ⟨ac,cd,ad⟩ pa pc h
        exact qb2 hg (u:=b) (v:=d) (a:=a) (b:=c) (c:=e) ⟨hm,hb,hd,ha,hc,he⟩ ⟨kb,kd,ka,kc,ke,bd,Ne.symm ab,bc,be,Ne.symm ad,Ne.symm cd,de,ac,ae,ce⟩ (fun z hz=>by have:=h3 z hz;omega) pb pd
      · exact qb2 hg (u:=b) (v:=c) (a:=a) (b:=d) (c:=e) ⟨hm,hb,hc,ha,hd,he⟩ ⟨kb,kc,ka,kd,ke,bc,Ne.symm ab,bd,be,Ne.symm ac,cd,ce,ad,ae,de⟩ (fun z hz=>by have:=h3 z hz;omega) pb pc
  · by_cases pb:ev3 (polL (conF p Q m) (ptL p Q m)) (ptL p Q b)=0
    · by_cases pc:ev3 (polL (conF p Q m) (ptL p Q m)) (ptL p Q c)=0
      · have pd:ev3 (polL (conF p Q m) (ptL p Q m)) (ptL p Q d)≠0:=fun h=>t3 b c d ⟨hb,hc,hd⟩ ⟨bc,cd,bd⟩ pb pc h
        exact qb2 hg (u:=a) (v:=d) (a:=b) (b:=c) (c:=e) ⟨hm,ha,hd,hb,hc,he⟩ ⟨ka,kd,kb,kc,ke,ad,ab,ac,ae,Ne.symm bd,Ne.symm cd,de,bc,be,ce⟩ (fun z hz=>by have:=h3 z hz;omega) pa pd
      · exact qb2 hg (u:=a) (v:=c) (a:=b) (b:=d) (c:=e) ⟨hm,ha,hc,hb,hd,he⟩ ⟨ka,kc,kb,kd,ke,ac,ab,ad,ae,Ne.symm bc,cd,ce,bd,be,de⟩ (fun z hz=>by have:=h3 z hz;omega) pa pc
    · exact qb2 hg (u:=a) (v:=b) (a:=c) (b:=d) (c:=e) ⟨hm,ha,hb,hc,hd,he⟩ ⟨ka,kb,kc,kd,ke,ab,ac,ad,ae,bc,bd,be,cd,ce,de⟩ (fun z hz=>by have:=h3 z hz;omega) pa pb
theorem qfh {p:Int} {Q:List (Int×Int×Int)} (hg:genB p Q=true) {kk:Int} (h0:0≤kk) (h1:kk≤26):Zm p 4 (linR p Q kk)=2:=by
  unfold linR
  split
  · have a:=qqc hg kk.toNat (by omega)
    have b:=qqu hg kk.toNat (by omega)
    omega
  · split
    · rename_i h6 h21
      have he:=qhj (kk:=kk) ⟨by omega,h21⟩
      have a:=qqo hg (endA kk) (endB kk) he.2.1 he.2.2 (qlu ⟨by omega,h21⟩)
      have b:=qp9 hg (endA kk) (endB kk) he.2.1 he.2.2 (qlu ⟨by omega,h21⟩)
      omega
    · have a:=qqt hg (kk - 21).toNat (by omega)
      have b:=qqp hg (kk - 21).toNat (by omega)
      rw[conS,show (((kk - 21).toNat:Nat):Int)+21=kk by omega]at a b
      omega
end Go.Proofs.Ytmgbpmihbljngaa.PA
namespace Go.Proofs.Ytmgbpmihbljngaa.PA
open Go.RowKit Go.Proofs.YtmgbpmihbljngaaW.PrintWords Go.Proofs.YtmgbpmihbljngaaW.PrintLast Go.Proofs.YtmgbpmihbljngaaW.PrintMore
set_option linter.unusedVariables false
set_option linter.unusedSimpArgs false
def lowN (e i j:Nat):Nat:=if i=j then e - 1 else e
def pckN (e:Nat×Nat×Nat) (j:Nat):Nat:=if j=0 then e.1 else if j=1 then e.2.1 else e.2.2
theorem qii (x:Int×Int×Int) (e:Nat×Nat×Nat) (j:Nat) (hj:j < 3):dmo x (vX j) e=(pckN e j:Int)*(x.1 ^ lowN e.1 0 j*x.2.1 ^ lowN e.2.1 1 j*x.2.2 ^ lowN e.2.2 2 j):=by
  rcases (show j=0∨j=1∨j=2 by omega) with rfl | rfl | rfl<;>simp[dmo,vX,l7V,pckN,lowN]
theorem qhr (e i j:Nat) (he:e≤3) (h:i=j→e≠0):isL (e:Int) i j=((lowN e i j:Nat):Int):=by
  unfold isL lowN
  split
  · have:=h (by assumption)
    rw[wsm (by omega) (by omega)];omega
  · rfl
theorem mulB {a b A B:Int} (ha:0≤a∧a≤A) (hb:0≤b∧b≤B):0≤a*b∧a*b≤A*B:=⟨Int.mul_nonneg ha.1 hb.1,Int.mul_le_mul ha.2 hb.2 hb.1 (Int.le_trans ha.1 ha.2)⟩
theorem isT_ev {p:Int} (hp:7≤p∧p≤31) {x:Int×Int×Int} (hx:inP p x) (ai:Int) (hai:0≤ai∧ai < p) (t:Nat) (ht:t≤3) (a0 a1 a2:Nat) (h0:a0≤3) (h1:a1≤3) (h2:a2≤3):Ev (fun k=>isT k ai (t:Int) x.1 x.2.1 x.2.2 (a0:Int) (a1:Int) (a2:Int)) (ai*((t:Int)*(x.1 ^ a0*x.2.1 ^ a1*x.2.2 ^ a2))):=by
  obtain⟨b0,b1,b2⟩:=hx
  have c0:=Jz hp.2 b0 a0 h0
  have c1:=Jz hp.2 b1 a1 h1
  have c2:=Jz hp.2 b2 a2 h2
  have d0:=mulB (a:=ai) (b:=(t:Int)) (A:=30) (B:=3) (by omega) (by omega)
  have d1:=mulB d0 c0
  have d2:=mulB d1 c1
  have d3:=mulB d2 c2
  unfold isT
  refine Ev.bind (qa1 hp.2 b0 a0 h0) (Ev.bind (qa1 hp.2 b1 a1 h1) (Ev.bind (qa1 hp.2 b2 a2 h2) ?_))
  rw[wsm (i:=ai*(t:Int)) (by omega) (by omega),wsm (i:=ai*(t:Int)*x.1 ^ a0) (by omega) (by omega),wsm (i:=ai*(t:Int)*x.1 ^ a0*x.2.1 ^ a1) (by omega) (by omega),wsm (by omega) (by omega)]
  rw[show ai*(t:Int)*x.1 ^ a0*x.2.1 ^ a1*x.2.2 ^ a2=ai*((t:Int)*(x.1 ^ a0*x.2.1 ^ a1*x.2.2 ^ a2)) by simp only[Int.mul_assoc]]
  exact Ev.now _
theorem slt_bd {p:Int} (hp:7≤p∧p≤31) {x:Int×Int×Int} (hx:inP p x) (ai:Int) (hai:0≤ai∧ai < p) (j:Nat) (hj:j < 3) (i:Nat) (hi:i < 10):0≤ai*dmo x (vX j) (powN.getD i (0,0,0))∧ai*dmo x (vX j) (powN.getD i (0,0,0))≤1800000000000000:=by
  obtain⟨_,_,_,g0,g1,g2⟩:=qb7 i hi
  have lw:∀ e i j:Nat,e≤3→lowN e i j≤3:=fun e i j h=>by unfold lowN;split<;>omega
  have pk:pckN (powN.getD i (0,0,0)) j≤3:=by unfold pckN;split;exact g0;split;exact g1;exact g2
  rw[qii x _ j hj]
  have c0:=Jz hp.2 hx.1 _ (lw _ 0 j g0)
  have c1:=Jz hp.2 hx.2.1 _ (lw _ 1 j g1)
  have c2:=Jz hp.2 hx.2.2 _ (lw _ 2 j g2)
  have d1:=mulB c0 c1
  have d2:=mulB d1 c2
  have d3:=mulB (a:=((pckN (powN.getD i (0,0,0)) j:Nat):Int)) (A:=3) (by omega) d2
  have d4:=mulB (a:=ai) (A:=30) (by omega) d3
  omega
theorem isI_ev {p:Int} (hp:7≤p∧p≤31) {x:Int×Int×Int} (hx:inP p x) (a:List Int) (ha:a.length=10∧∀ x∈a,0≤x∧x < p) (j:Nat) (hj:j < 3):∀ (d i:Nat) (n:Int),i+d=10→0≤n→n≤i*1800000000000000→Ev (fun k=>isI k a x.1 x.2.1 x.2.2 j powL d i n) (n+slpS a x (vX j) d i)∧0≤slpS a x (vX j) d i∧slpS a x (vX j) d i≤d*1800000000000000:=by
  intro d
  induction d with
  | zero=>
    intro i n _ _ _
    exact⟨by rw[slpS,Int.add_zero];exact Ev.now _,by rw[slpS];omega,by rw[slpS];omega⟩
  | succ d ihd=>
    intro i n hi h0 h1
    have hai:0≤rd a (i:Int)∧rd a (i:Int) < p:=Zs ha i (by omega)
    obtain⟨e0,e1,e2,g0,g1,g2⟩:=qb7 i (by omega)
    have hb:=slt_bd hp hx (rd a (i:Int)) hai j hj i (by omega)
    obtain⟨ih,i0,i1⟩:=ihd (i+1) (n+rd a (i:Int)*dmo x (vX j) (powN.getD i (0,0,0))) (by omega) (by omega) (by omega)
    refine⟨?_,by rw[slpS];omega,by rw[slpS];omega⟩
    have hz:isE ((powN.getD i (0,0,0)).1:Int) ((powN.getD i (0,0,0)).2.1:Int) ((powN.getD i (0,0,0)).2.2:Int) j=((pckN (powN.getD i (0,0,0)) j:Nat):Int):=by
      unfold isE pckN;split;rfl;split<;>rfl
    refine Ev.congr (fun k=>by rw[isI,e0,e1,e2,hz]) ?_
    have hu:=qii x (powN.getD i (0,0,0)) j hj
    by_cases hk:((pckN (powN.getD i (0,0,0)) j:Nat):Int)=0
    · refine Ev.yes hk ?_
      rw[hk,Int.zero_mul]at hu
      rw[hu,Int.mul_zero,Int.add_zero]at ih
      rw[slpS,hu,Int.mul_zero,Int.zero_add]
      exact ih
    · have n0:0=j→(powN.getD i (0,0,0)).1≠0:=fun h e=>hk (by rw[← h];unfold pckN;rw[if_pos rfl,e];rfl)
      have n1:1=j→(powN.getD i (0,0,0)).2.1≠0:=fun h e=>hk (by rw[← h];unfold pckN;rw[if_neg (by omega),if_pos rfl,e];rfl)
      have n2:2=j→(powN.getD i (0,0,0)).2.2≠0:=fun h e=>hk (by rw[← h];unfold pckN;rw[if_neg (by omega),if_neg (by omega),e];rfl)
      have lw:∀ e i j:Nat,e≤3→lowN e i j≤3:=fun e i j h=>by unfold lowN;split<;>omega
      have pk:pckN (powN.getD i (0,0,0)) j≤3:=by unfold pckN;split;exact g0;split;exact g1;exact g2
      refine Ev.no hk (Ev.yes (by omega) ?_)
      rw[qhr _ 0 j g0 n0,qhr _ 1 j g1 n1,qhr _ 2 j g2 n2]
      refine Ev.bind (isT_ev hp hx _ hai _ pk _ _ _ (lw _ _ _ g0) (lw _ _ _ g1) (lw _ _ _ g2)) ?_
      rw[← hu,wsm (by omega) (by omega),slpS,← Int.add_assoc]
      exact ih
theorem qm1 {p:Int} (hp:7≤p∧p≤31) {x:Int×Int×Int} (hx:inP p x) (a:List Int) (ha:a.length=10∧∀ x∈a,0≤x∧x < p):Ev (fun k=>Qc.f k p a x.1 x.2.1 x.2.2) [slpP p a x (vX 0),slpP p a x (vX 1),slpP p a x (vX 2)]:=by
  have one:∀ (d j:Nat) (acc r:List Int),j < 3→Ev (fun k=>isD k p a x.1 x.2.1 x.2.2 d (j+1) (acc++[slpP p a x (vX j)])) r→Ev (fun k=>isD k p a x.1 x.2.1 x.2.2 (d+1) j acc) r:=fun d j acc r hj hr=>by
    obtain⟨h1,h2,h3⟩:=isI_ev hp hx a ha j hj 10 0 0 rfl (by omega) (by omega)
    rw[Int.zero_add]at h1
    refine Ev.congr (fun k=>by rw[isD]) ?_
    refine Ev.bind qlz (Ev.yes (by decide) (Ev.bind h1 ?_))
    refine Ev.bind (Ev.k (qdr p (slpS a x (vX j) 10 0) (by omega))) ?_
    rw[qb1 hp h2]
    exact hr
  unfold Qc.f
  exact one 2 0 [] _ (by omega) (one 1 1 _ _ (by omega) (one 0 2 _ _ (by omega) (Ev.now _)))
end Go.Proofs.Ytmgbpmihbljngaa.PA
namespace Go.Proofs.Ytmgbpmihbljngaa.PA
open Go.RowKit Go.Proofs.YtmgbpmihbljngaaW.PrintWords Go.Proofs.YtmgbpmihbljngaaW.PrintLast Go.Proofs.YtmgbpmihbljngaaW.PrintMore
set_option linter.unusedVariables false
set_option linter.unusedSimpArgs false
theorem qon {p:Int} (hp:7≤p∧p≤31) {B:List (List Int)} (hB:∀ i,i < B.length→(B.getD i []).length=10∧∀ x∈B.getD i [],0≤x∧x < p) (X:S43) (hx:inP p (tpl X)) (c:Nat) (hc:c < 3):∀ (d i:Nat) (acc:List Int),i+d=B.length→Ev (fun k=>sfR k p B X c d i acc) (acc++(List.range' i d).map fun i=>slpP p (B.getD i []) (tpl X) (vX c))
  | 0,i,acc,_=>by simp only[List.range'_zero,List.map_nil,List.append_nil];exact Ev.now _
  | d + 1, i, acc, h => by
    have hs:=qm1 hp hx (B.getD i []) (hB i (by omega))
    refine Ev.congr (fun k=>by rw[sfR]) ?_
    refine Ev.bind hs (Ev.yes (by simpa using hc) ?_)
    have e:rd [slpP p (B.getD i []) (tpl X) (vX 0),slpP p (B.getD i []) (tpl X) (vX 1),slpP p (B.getD i []) (tpl X) (vX 2)] (c:Int)=slpP p (B.getD i []) (tpl X) (vX c):=by
      rcases (show c=0∨c=1∨c=2 by omega) with rfl | rfl | rfl<;>rfl
    rw[e]
    have ih:=qon hp hB X hx c hc d (i+1) (acc++[slpP p (B.getD i []) (tpl X) (vX c)]) (by omega)
    rw[List.range'_succ,List.map_cons]
    rw[List.append_assoc]at ih
    exact ih
theorem qqj {p:Int} (hp:7≤p∧p≤31) {B:List (List Int)} (h4:B.length=4) (hB:∀ i,i < B.length→(B.getD i []).length=10∧∀ x∈B.getD i [],0≤x∧x < p) (X:S43) (hx:inP p (tpl X)):Ev (fun k=>sfRs k p B X 3 0 []) ((List.range 3).map (rowS p B (tpl X))):=by
  have one:∀ (d c:Nat) (acc r:List (List Int)),c < 3→Ev (fun k=>sfRs k p B X d (c+1) (acc++[rowS p B (tpl X) c])) r→Ev (fun k=>sfRs k p B X (d+1) c acc) r:=fun d c acc r hc hr=>by
    have h:=qon hp hB X hx c hc B.length 0 [] (by omega)
    rw[h4,← List.range_eq_range',List.nil_append]at h
    refine Ev.congr (fun k=>by rw[sfRs,h4]) ?_
    exact Ev.bind h hr
  exact one 2 0 [] _ (by omega) (one 1 1 _ _ (by omega) (one 0 2 _ _ (by omega) (Ev.now _)))
end Go.Proofs.Ytmgbpmihbljngaa.PA
namespace Go.Proofs.Ytmgbpmihbljngaa.PA
open Go.RowKit Go.Proofs.YtmgbpmihbljngaaW.PrintWords Go.Proofs.YtmgbpmihbljngaaW.PrintLast Go.Proofs.YtmgbpmihbljngaaW.PrintMore
set_option linter.unusedVariables false
set_option linter.unusedSimpArgs false
theorem qpl {p:Int} (hp:7≤p∧p≤31) {r:List S43}:∀ (d i:Nat) (acc:List S43),((i+d:Nat):Int)=p→acc.length+d≤1000000→Ev (fun k=>qo.l1 k p (acc++((List.range' i d).map fun (n:Nat)=>(0,1,(n:Int))).map mkT) p 0) r→Ev (fun k=>qo.l0 k p acc p (i:Int)) r
  | 0,i,acc,h,_,hr=>by
    simp only[List.range'_zero,List.map_nil,List.append_nil]at hr
    exact Ev.step (fun k=>by rw[qo.l0,if_neg (by omega)]) hr
  | d+1,i,acc,h,hl,hr=>by
    refine Ev.step (fun k=>by rw[qo.l0,if_pos (by omega),if_pos (by omega),wsm (by omega) (by omega)];rfl) (qpl hp d (i+1) (acc++[mkT (0,1,(i:Int))]) (by omega) (by rw[List.length_append,List.length_singleton];omega) ?_)
    rw[List.append_assoc]
    exact hr
theorem qnz {p:Int} (hp:7≤p∧p≤31) {r:List S43} (a:Nat) (ha:a < 40):∀ (d i:Nat) (acc:List S43),((i+d:Nat):Int)=p→acc.length+d≤1000000→Ev (fun k=>qo.l1 k p (acc++((List.range' i d).map fun (b:Nat)=>(1,(a:Int),(b:Int))).map mkT) p ((a+1:Nat):Int)) r→Ev (fun k=>qo.l2 k p acc (a:Int) p (a:Int) p (i:Int)) r
  | 0,i,acc,h,_,hr=>by
    simp only[List.range'_zero,List.map_nil,List.append_nil]at hr
    exact Ev.step (fun k=>by rw[qo.l2,if_neg (by omega),wsm (by omega) (by omega)];rfl) hr
  | d+1,i,acc,h,hl,hr=>by
    refine Ev.step (fun k=>by rw[qo.l2,if_pos (by omega),if_pos (by omega),wsm (by omega) (by omega)];rfl) (qnz hp a ha d (i+1) (acc++[mkT (1,(a:Int),(i:Int))]) (by omega) (by rw[List.length_append,List.length_singleton];omega) ?_)
    rw[List.append_assoc]
    exact hr
theorem qny {p:Int} (hp:7≤p∧p≤31):∀ (d a:Nat) (acc:List S43),((a+d:Nat):Int)=p→acc.length+d*31≤1000000→Ev (fun k=>qo.l1 k p acc p (a:Int)) (acc++((List.range' a d).flatMap fun (a:Nat)=>(List.range p.toNat).map fun (b:Nat)=>(1,(a:Int),(b:Int))).map mkT)
  | 0,a,acc,h,_=>by
    simp only[List.range'_zero,List.flatMap_nil,List.map_nil,List.append_nil]
    exact Ev.step (f:=fun _=>some acc) (fun k=>by rw[qo.l1,if_neg (by omega)]) (Ev.now _)
  | d+1,a,acc,h,hl=>by
    have ih:=qny hp d (a+1) (acc++((List.range' 0 p.toNat).map fun (b:Nat)=>(1,(a:Int),(b:Int))).map mkT) (by omega) (by rw[List.length_append,List.length_map,List.length_map,List.length_range'];omega)
    have hc:=qnz hp a (by omega) p.toNat 0 acc (by omega) (by omega) ih
    rw[List.range'_succ,List.flatMap_cons,List.map_append,← List.append_assoc]
    rw[← List.range_eq_range']at hc
    exact Ev.step (fun k=>by rw[qo.l1,if_pos (by omega)];rfl) hc
theorem qp3 {p:Int} (hp:7≤p∧p≤31):Ev (fun k=>qo.f k p) ((allP p.toNat).map mkT):=by
  have hb:=qny hp p.toNat 0 ([mkT (0,0,1)]++((List.range' 0 p.toNat).map fun (n:Nat)=>(0,1,(n:Int))).map mkT) (by omega) (by simp only[List.length_append,List.length_map,List.length_range',List.length_singleton];omega)
  have h:=qpl hp p.toNat 0 [mkT (0,0,1)] (by omega) (by simp only[List.length_singleton];omega) hb
  rw[← List.range_eq_range']at h
  unfold qo.f
  have e:([mkT (0,0,1)]++((List.range p.toNat).map fun (n:Nat)=>(0,1,(n:Int))).map mkT++((List.range p.toNat).flatMap fun (a:Nat)=>(List.range p.toNat).map fun (b:Nat)=>(1,(a:Int),(b:Int))).map mkT)=(allP p.toNat).map mkT:=by
    unfold allP
    rw[List.map_cons,List.map_append,List.append_assoc]
    rfl
  rw[e]at h
  exact h
end Go.Proofs.Ytmgbpmihbljngaa.PA
namespace Go.Proofs.Ytmgbpmihbljngaa.PA
open Go.RowKit Go.Proofs.YtmgbpmihbljngaaW.PrintWords Go.Proofs.YtmgbpmihbljngaaW.PrintLast Go.Proofs.YtmgbpmihbljngaaW.PrintMore
set_option linter.unusedVariables false
set_option linter.unusedSimpArgs false
theorem qpn :∀ n:Nat,n < 15→jw.f 40 (n:Int)=some (((endA ((n:Int)+6):Nat):Int),((endB ((n:Int)+6):Nat):Int)):=by decide+kernel
theorem qqn {kk:Int} (h:6≤kk∧kk < 21):Ev (fun k=>jw.f k (wrap64 (kk - 6))) (((endA kk:Nat):Int),((endB kk:Nat):Int)):=by
  have:=qpn (kk - 6).toNat (by omega)
  rw[show (((kk - 6).toNat:Nat):Int)+6=kk by omega,show (((kk - 6).toNat:Nat):Int)=kk - 6 by omega]at this
  rw[wsm (by omega) (by omega)]
  exact Ev.of (jw.mono _) this
end Go.Proofs.Ytmgbpmihbljngaa.PA
namespace Go.Proofs.Ytmgbpmihbljngaa.PA
open Go.RowKit Go.Proofs.YtmgbpmihbljngaaW.PrintWords Go.Proofs.YtmgbpmihbljngaaW.PrintLast Go.Proofs.YtmgbpmihbljngaaW.PrintMore
set_option linter.unusedVariables false
set_option linter.unusedSimpArgs false
theorem qkj {p:Int} (hp:zi p=true) {x y:Int} (hx:0≤x∧x < p) (hy:0≤y∧y < p) (h:fi (nn p) x=fi (nn p) y):x=y:=qf8 hx hy ((qly hp x y).1 h)
def qg8 (t:Int×Int×Int):Prop:=t.1=1∨(t.1=0∧t.2.1=1)∨(t.1=0∧t.2.1=0∧t.2.2=1)
theorem qn5 {p:Nat}:∀ t∈allP p,qg8 t:=fun t ht=>by
  unfold allP at ht
  rcases List.mem_cons.1 ht with rfl | h
  · exact .inr (.inr ⟨rfl,rfl,rfl⟩)
  · rcases List.mem_append.1 h with h | h
    · obtain⟨n,_,rfl⟩:=List.mem_map.1 h
      exact .inr (.inl ⟨rfl,rfl⟩)
    · obtain⟨a,_,h⟩:=List.mem_flatMap.1 h
      obtain⟨b,_,rfl⟩:=List.mem_map.1 h
      exact .inl rfl
theorem qog {p:Int} {t:Int×Int×Int} (h:ptB p t.1 t.2.1 t.2.2=true):qg8 t:=by
  unfold ptB qht at h
  rw[Bool.and_eq_true]at h
  have h2:=h.2
  simp only[List.find?_cons,List.find?_nil]at h2
  unfold qg8
  by_cases h0:t.1=0
  · by_cases h1:t.2.1=0
    · by_cases h2':t.2.2=0
      · simp[h0,h1,h2']at h2
      · rw[show (t.1 !=0)=false by simp[h0],show (t.2.1 !=0)=false by simp[h1],show (t.2.2 !=0)=true by simp[h2']]at h2
        exact .inr (.inr ⟨h0,h1,by simpa using h2⟩)
    · rw[show (t.1 !=0)=false by simp[h0],show (t.2.1 !=0)=true by simp[h1]]at h2
      exact .inr (.inl ⟨h0,by simpa using h2⟩)
  · rw[show (t.1 !=0)=true by simp[h0]]at h2
    exact .inl (by simpa using h2)
theorem qpt {p:Int} (hp:zi p=true) {a b:Int×Int×Int} (ha:inP p a) (hb:inP p b) (na:qg8 a) (nb:qg8 b) (h:¬ offP (p3 (nn p) a) (p3 (nn p) b)):a=b:=by
  have e:∀ c:Fq (nn p),¬ (c≠0)→c=0:=fun c h=>Classical.byContradiction h
  have z0:=e _ fun q=>h (.inl q)
  have z1:=e _ fun q=>h (.inr (.inl q))
  have z2:=e _ fun q=>h (.inr (.inr q))
  have one:=qbl hp
  have hne:=fp_1 hp
  simp only[qu,p3]at z0 z1 z2
  obtain⟨a0,a1,a2⟩:=a
  obtain⟨b0,b1,b2⟩:=b
  simp only[qg8,inP]at*
  obtain⟨ra0,ra1,ra2⟩:=ha
  obtain⟨rb0,rb1,rb2⟩:=hb
  have zz:=Js (nn p)
  have fin:fi (nn p) a0=fi (nn p) b0→fi (nn p) a1=fi (nn p) b1→fi (nn p) a2=fi (nn p) b2→(a0,a1,a2)=(b0,b1,b2):=fun h0 h1 h2=>by
    rw[qkj hp ra0 rb0 h0,qkj hp ra1 rb1 h1,qkj hp ra2 rb2 h2]
  rcases na with rfl | ⟨rfl,rfl⟩ | ⟨rfl,rfl,rfl⟩<;>rcases nb with rfl | ⟨rfl,rfl⟩ | ⟨rfl,rfl,rfl⟩<;>(simp only[one,zz]at z0 z1 z2 fin)
  · exact fin trivial (by grind) (by grind)
  · refine absurd (show (1:Fq (nn p))=0 from ?_) hne
    clear fin h e
    first | grind | (rw[← z0];grind) | (rw[← z1];grind) | (rw[← z2];grind)
  · refine absurd (show (1:Fq (nn p))=0 from ?_) hne
    clear fin h e
    first | grind | (rw[← z0];grind) | (rw[← z1];grind) | (rw[← z2];grind)
  · refine absurd (show (1:Fq (nn p))=0 from ?_) hne
    clear fin h e
    first | grind | (rw[← z0];grind) | (rw[← z1];grind) | (rw[← z2];grind)
  · exact fin trivial trivial (by grind)
  · refine absurd (show (1:Fq (nn p))=0 from ?_) hne
    clear fin h e
    first | grind | (rw[← z0];grind) | (rw[← z1];grind) | (rw[← z2];grind)
  · refine absurd (show (1:Fq (nn p))=0 from ?_) hne
    clear fin h e
    first | grind | (rw[← z0];grind) | (rw[← z1];grind) | (rw[← z2];grind)
  · refine absurd (show (1:Fq (nn p))=0 from ?_) hne
    clear fin h e
    first | grind | (rw[← z0];grind) | (rw[← z1];grind) | (rw[← z2];grind)
  · rfl
theorem qkk (Q:List (Int×Int×Int)) (i:Nat) (h:i < Q.length):Q.getD i (0,0,0)∈Q:=by
  rw[List.getD_eq_getElem?_getD,List.getElem?_eq_getElem h];exact List.getElem_mem h
theorem qot {p:Int} {Q:List (Int×Int×Int)} (hg:genB p Q=true) (t:Int×Int×Int) (ht:t∈allP p.toNat) (hn:t ∉ Q):(imgP p Q t).all (fun x=>x == 0)=false:=by
  obtain⟨hp,h6,ha,_⟩:=jn hg
  have hb:=zx hp
  have hG:=Zd hg
  have hin:=qdi (p:=p) ⟨by omega,by omega⟩ t ht
  have hoff:∀ i,i < 6→offP (ptL p Q i) (p3 (nn p) t):=fun i hi=>Classical.byContradiction fun h=>hn (by
    have hpt:=(Z4 ha).1 i (by omega)
    have:=qpt hp (qai hpt) hin (qog hpt) (qn5 t ht) h
    rw[← this]
    exact qkk Q i (by omega))
  obtain⟨v,v0,v1⟩:=qm6 (Jv hp) hG hoff
  obtain⟨l,e⟩:=qbz hp h6 hG v v0
  have hl:=J9 hg e t
  cases hz:(imgP p Q t).all (fun x=>x == 0) with
  | false=>rfl
  | true=>
    exfalso
    apply v1
    rw[← hl]
    have z:∀ j,rF p (imgP p Q t) j=0:=fun j=>by
      have:fn (imgP p Q t) j=0:=by
        by_cases hj:j < (imgP p Q t).length
        · have:=List.all_eq_true.1 hz ((imgP p Q t)[j]) (List.getElem_mem hj)
          rw[fn,Zz (imgP p Q t) j hj];simpa using this
        · simp[fn,rd,List.getD_eq_getElem?_getD,List.getElem?_eq_none (Nat.le_of_not_lt hj)]
      rw[rF,this,Js]
    simp only[lin4];rw[z,z,z,z];grind
theorem img_z {p:Int} {Q:List (Int×Int×Int)} (hg:genB p Q=true) (j:Nat) (hj:j < Q.length):(imgP p Q (Q.getD j (0,0,0))).all (fun x=>x == 0)=true:=by
  obtain⟨hp,h6,_,_⟩:=jn hg
  have hb:=zx hp
  rw[List.all_eq_true]
  intro x hx
  have hr:=qb6 hp Q (Q.getD j (0,0,0)) x hx
  obtain⟨r,hr2,rfl⟩:=List.mem_map.1 hx
  obtain⟨i,hi,rfl⟩:=qbp hr2
  have h1:=ql9 hp ((basP p Q).getD i []) (Q.getD j (0,0,0))
  have h2:=qiu hp (Q:=Q) i j hi hj
  rw[show p3 (nn p) (Q.getD j (0,0,0))=ptL p Q j from rfl,show (fun j=>fi (nn p) (fn ((basP p Q).getD i []) j))=basF p Q i from rfl,h2,Jg hp]at h1
  obtain⟨c,hc⟩:=h1
  have:c=0:=by
    rcases (show c≤-1∨c=0∨1≤c by omega) with h | h | h
    · have:=Int.mul_le_mul_of_nonneg_left h (show 0≤p by omega);omega
    · exact h
    · have:=Int.mul_le_mul_of_nonneg_left h (show 0≤p by omega);omega
  rw[this,Int.mul_zero]at hc
  rw[hc];rfl
theorem qqw {p:Int} (hp:zi p=true) {w:Nat} {L:List (List Int)} {r:List Int} (hr:r.length=w∧∀ x∈r,0≤x∧x < p) (h:Sp p w L (fn r)):Sp p w L (fn (rowP p r)):=by
  refine(h.scale (invP p (Zc r))).congr fun j hj=>?_
  have e:fn (rowP p r) j=fn r j*invP p (Zc r) % p:=by
    show fn (Q8 p (invP p (Zc r)) r) j=_
    exact qe7 hr.1 hj
  rw[e]
  have:=Zy (fn r j*invP p (Zc r)) p
  rw[Int.mul_comm (invP p (Zc r)) (fn r j)]
  have h2:fn r j*invP p (Zc r) % p - fn r j*invP p (Zc r)=-(fn r j*invP p (Zc r) - fn r j*invP p (Zc r) % p):=by omega
  rw[h2]
  exact(Int.dvd_neg).2 this
theorem qmf :∀ {r:List Int},r.all (fun x=>x == 0)=false→Zc r≠0
  | [],h=>by simp at h
  | x :: r,h=>by
    rw[qa9]
    by_cases hx:x=0
    · rw[if_pos hx];exact qmf (by simpa [hx] using h)
    · rw[if_neg hx];exact hx
theorem qpz {p:Int} (hp:zi p=true) {w:Nat} {L:List (List Int)} {r:List Int} (hr:r.length=w∧∀ x∈r,0≤x∧x < p) (hz:r.all (fun x=>x == 0)=false) (h:Sp p w L (fn (rowP p r))):Sp p w L (fn r):=by
  have hb:=zx hp
  have hh:=qjx hr.2 (by omega)
  have hi:=(Zt hp hh.1 hh.2).2.2.2.1 (qmf hz)
  refine(h.scale (Zc r)).congr fun j hj=>?_
  have e:fn (rowP p r) j=fn r j*invP p (Zc r) % p:=by
    show fn (Q8 p (invP p (Zc r)) r) j=_
    exact qe7 hr.1 hj
  rw[e]
  have h1:p ∣ Zc r*invP p (Zc r) - 1:=by have:=Zy (Zc r*invP p (Zc r)) p;rwa [hi]at this
  have h2:=Zy (fn r j*invP p (Zc r)) p
  refine Z2 (-(fn r j)) (Zc r) h1 h2 ?_
  generalize fn r j*invP p (Zc r) % p=m
  generalize invP p (Zc r)=b
  generalize Zc r=c
  generalize fn r j=a
  grind
def curI (p:Int) (Q L:List (Int×Int×Int)):List (List Int):=(L.filter fun t=>decide (t ∉ Q)).map fun t=>rowP p (imgP p Q t)
theorem qev {p:Int} {Q:List (Int×Int×Int)} (hg:genB p Q=true) (t:Int×Int×Int):(imgP p Q t).length=4∧∀ x∈imgP p Q t,0≤x∧x < p:=⟨qfj hg t,qb6 (jn hg).1 Q t⟩
theorem ql7 {p:Int} {Q:List (Int×Int×Int)} (hg:genB p Q=true) (L:List (Int×Int×Int)):okR p 4 (curI p Q L):=fun r hr=>by
  have hb:=zx (jn hg).1
  obtain⟨t,_,rfl⟩:=List.mem_map.1 hr
  refine⟨by rw[rowP,List.length_map];exact(qev hg t).1,fun x hx=>?_⟩
  obtain⟨y,_,rfl⟩:=List.mem_map.1 hx
  exact⟨Int.emod_nonneg _ (by omega),Int.emod_lt_of_pos _ (by omega)⟩
theorem qoy {p:Int} {Q:List (Int×Int×Int)} (hg:genB p Q=true) (L:List (Int×Int×Int)) (hL:∀ t∈L,t∈allP p.toNat):qby p 4 (curI p Q L)=qby p 4 (curP p Q L):=by
  obtain⟨hp,h6,_,_⟩:=jn hg
  unfold qby
  rw[qnx hp (ql7 hg L) (qbb hg L) (fun r hr=>?_) (fun r hr=>?_)]
  · obtain⟨t,ht,rfl⟩:=List.mem_map.1 hr
    obtain⟨h1,h2⟩:=List.mem_filter.1 ht
    exact qqw hp (qev hg t) (Sp.mem (qca.2 ⟨t,h1,rfl,qot hg t (hL t h1) (by simpa using h2)⟩))
  · obtain⟨t,ht,rfl,hz⟩:=qca.1 hr
    refine qpz hp (qev hg t) hz (Sp.mem (List.mem_map.2 ⟨t,List.mem_filter.2 ⟨ht,?_⟩,rfl⟩))
    refine decide_eq_true fun hq=>?_
    obtain⟨i,hi,e⟩:=List.mem_iff_getElem.1 hq
    have:=img_z hg i hi
    rw[List.getD_eq_getElem?_getD,List.getElem?_eq_getElem hi,Option.getD_some,e,hz]at this
    cases this
end Go.Proofs.Ytmgbpmihbljngaa.PA
namespace Go.Proofs.Ytmgbpmihbljngaa.PA
open Go.RowKit Go.Proofs.YtmgbpmihbljngaaW.PrintWords Go.Proofs.YtmgbpmihbljngaaW.PrintLast Go.Proofs.YtmgbpmihbljngaaW.PrintMore
set_option linter.unusedVariables false
set_option linter.unusedSimpArgs false
theorem qk4 (p x y z:Int):Z9.f p x y z=some (ptB p x y z):=by
  unfold Z9.f
  have e:=qgf p [x,y,z] 3
  rw[show ((3:Nat):Int)=3 from rfl]at e
  rw[e,Option.bind_some,ptB]
  cases h:qbe p [x,y,z] 3<;>rfl
end Go.Proofs.Ytmgbpmihbljngaa.PA
namespace Go.Proofs.Ytmgbpmihbljngaa.PA
open Go.RowKit Go.Proofs.YtmgbpmihbljngaaW.PrintWords Go.Proofs.YtmgbpmihbljngaaW.PrintLast Go.Proofs.YtmgbpmihbljngaaW.PrintMore
set_option linter.unusedVariables false
set_option linter.unusedSimpArgs false
def crsI (a b:Int×Int×Int):List Int:=[a.2.1*b.2.2 - a.2.2*b.2.1,a.2.2*b.1 - a.1*b.2.2,a.1*b.2.1 - a.2.1*b.1]
theorem qgk {p:Int} (hp:7≤p∧p≤31) (a b:Int×Int×Int) (ha:inP p a) (hb:inP p b):Qm.f a.1 a.2.1 a.2.2 b.1 b.2.1 b.2.2=some (crsI a b):=by
  obtain⟨a0,a1,a2⟩:=ha
  obtain⟨b0,b1,b2⟩:=hb
  have m1:=Qb hp a1 b2
  have m2:=Qb hp a2 b1
  have m3:=Qb hp a2 b0
  have m4:=Qb hp a0 b2
  have m5:=Qb hp a0 b1
  have m6:=Qb hp a1 b0
  unfold Qm.f
  rw[wsm (i:=a.2.1*b.2.2) (by omega) (by omega),wsm (i:=a.2.2*b.2.1) (by omega) (by omega),wsm (i:=a.2.2*b.1) (by omega) (by omega),wsm (i:=a.1*b.2.2) (by omega) (by omega),wsm (i:=a.1*b.2.1) (by omega) (by omega),wsm (i:=a.2.1*b.1) (by omega) (by omega),
    wsm (by omega) (by omega),wsm (by omega) (by omega),wsm (by omega) (by omega)]
  rfl
theorem qia {p u y:Int} (hp:7≤p∧p≤31) (hu:-900≤u∧u≤900) (hy:0≤y∧y < p):-30000≤u*y∧u*y≤30000:=by
  obtain⟨y0,y1⟩:=hy
  have h1:u*y≤900*y:=Int.mul_le_mul_of_nonneg_right hu.2 y0
  have h2:-900*y≤u*y:=Int.mul_le_mul_of_nonneg_right hu.1 y0
  omega
theorem qgy {p:Int} (hp:7≤p∧p≤31) (a b c:Int×Int×Int) (ha:inP p a) (hb:inP p b) (hc:inP p c):Ev (fun k=>jh.f k p (crsI a b) [c.1,c.2.1,c.2.2]) (((a.2.1*b.2.2 - a.2.2*b.2.1)*c.1+(a.2.2*b.1 - a.1*b.2.2)*c.2.1+(a.1*b.2.1 - a.2.1*b.1)*c.2.2) % p):=by
  obtain⟨a0,a1,a2⟩:=ha
  obtain⟨b0,b1,b2⟩:=hb
  obtain⟨c0,c1,c2⟩:=hc
  have m1:=Qb hp a1 b2
  have m2:=Qb hp a2 b1
  have m3:=Qb hp a2 b0
  have m4:=Qb hp a0 b2
  have m5:=Qb hp a0 b1
  have m6:=Qb hp a1 b0
  have d1:=qia hp (u:=a.2.1*b.2.2 - a.2.2*b.2.1) (by omega) c0
  have d2:=qia hp (u:=a.2.2*b.1 - a.1*b.2.2) (by omega) c1
  have d3:=qia hp (u:=a.1*b.2.1 - a.2.1*b.1) (by omega) c2
  unfold jh.f crsI
  generalize a.2.1*b.2.2 - a.2.2*b.2.1=u0 at*
  generalize a.2.2*b.1 - a.1*b.2.2=u1 at*
  generalize a.1*b.2.1 - a.2.1*b.1=u2 at*
  have e:modV p (u0*c.1+u1*c.2.1+u2*c.2.2)=(u0*c.1+u1*c.2.1+u2*c.2.2) % p:=by
    have:=qaf (p:=p) (x:=u0*c.1+u1*c.2.1+u2*c.2.2) hp (by omega) (by omega)
    rwa [wsm (by omega) (by omega)]at this
  refine Ev.step (fun q=>by rw[jh.l0,if_pos (by simp),if_pos (by omega),if_pos (by simp),if_pos (by simp)]) ?_
  refine Ev.step (fun q=>by rw[jh.l0,if_pos (by simp[wrap64]),if_pos (by simp[wrap64]),if_pos (by simp[wrap64]),if_pos (by simp[wrap64])]) ?_
  refine Ev.step (fun q=>by rw[jh.l0,if_pos (by simp[wrap64]),if_pos (by simp[wrap64]),if_pos (by simp[wrap64]),if_pos (by simp[wrap64])]) ?_
  refine Ev.step (f:=fun _=>some ((u0*c.1+u1*c.2.1+u2*c.2.2) % p)) (fun q=>?_) (Ev.now _)
  rw[jh.l0,if_neg (by simp[wrap64])]
  have f0:wrap64 (0+1)=1:=by rw[wsm (by omega) (by omega)];rfl
  have f1:wrap64 (1+1)=2:=by rw[wsm (by omega) (by omega)];rfl
  have g0:rd [u0,u1,u2] 0=u0:=rfl
  have g1:rd [u0,u1,u2] 1=u1:=rfl
  have g2:rd [u0,u1,u2] 2=u2:=rfl
  have k0:rd [c.1,c.2.1,c.2.2] 0=c.1:=rfl
  have k1:rd [c.1,c.2.1,c.2.2] 1=c.2.1:=rfl
  have k2:rd [c.1,c.2.1,c.2.2] 2=c.2.2:=rfl
  rw[f0,f1,g0,g1,g2,k0,k1,k2,wsm (i:=u0*c.1) (by omega) (by omega),wsm (i:=u1*c.2.1) (by omega) (by omega),wsm (i:=u2*c.2.2) (by omega) (by omega),wsm (i:=0+u0*c.1) (by omega) (by omega),wsm (i:=0+u0*c.1+u1*c.2.1) (by omega) (by omega),wsm (by omega) (by omega),Int.zero_add,qdr p _ (by omega),e]
  rfl
theorem qp6 (p:Int) (a b c:Int×Int×Int):((((a.2.1*b.2.2 - a.2.2*b.2.1)*c.1+(a.2.2*b.1 - a.1*b.2.2)*c.2.1+(a.1*b.2.1 - a.2.1*b.1)*c.2.2) % p=0)↔colB p b c a=true):=by
  rw[colB,beq_iff_eq]
  have e:(a.2.1*b.2.2 - a.2.2*b.2.1)*c.1+(a.2.2*b.1 - a.1*b.2.2)*c.2.1+(a.1*b.2.1 - a.2.1*b.1)*c.2.2=a.1*(b.2.1*c.2.2 - b.2.2*c.2.1)+a.2.1*(b.2.2*c.1 - b.1*c.2.2)+a.2.2*(b.1*c.2.1 - b.2.1*c.1):=by grind
  rw[e]
end Go.Proofs.Ytmgbpmihbljngaa.PA
namespace Go.Proofs.Ytmgbpmihbljngaa.PA
open Go.RowKit Go.Proofs.YtmgbpmihbljngaaW.PrintWords Go.Proofs.YtmgbpmihbljngaaW.PrintLast Go.Proofs.YtmgbpmihbljngaaW.PrintMore
set_option linter.unusedVariables false
set_option linter.unusedSimpArgs false
theorem qax (f:Nat→Bool) (d i:Nat):allN f (d+1) i=(f i && allN f d (i+1)):=rfl
theorem qjn {p:Int} (l:List S43) (hl:l.length≤1000000):Ev (fun k=>jq.f k p l) (J3 p (tps l)):=by
  have hlen:(tps l).length=l.length:=by simp[tps]
  have e1:∀ m:Nat,m < l.length→(qd l (m:Int)).f0.f0=((tps l).getD m (0,0,0)).1∧(qd l (m:Int)).f0.f1=((tps l).getD m (0,0,0)).2.1∧(qd l (m:Int)).f0.f2=((tps l).getD m (0,0,0)).2.2:=fun m hm=>by rw[← Jn l m hm];exact⟨rfl,rfl,rfl⟩
  have h2:∀ (i j:Nat),i < l.length→j < i→zi p=true→(∀ m,m≤i→inP p ((tps l).getD m (0,0,0)))→∀ (d m:Nat),m+d=j→Ev (fun k=>ap2 k p l i j d m) (!allN (fun m=>!colB p ((tps l).getD j (0,0,0)) ((tps l).getD m (0,0,0)) ((tps l).getD i (0,0,0))) d m):=by
    intro i j hi hj hp hin d
    have hb:=zx hp
    induction d with
    | zero=>intro m _;exact Ev.now _
    | succ d ih=>
      intro m hm
      obtain⟨a1,a2,a3⟩:=e1 i hi
      obtain⟨b1,b2,b3⟩:=e1 j (by omega)
      obtain⟨c1,c2,c3⟩:=e1 m (by omega)
      have hd:=qgy (p:=p) ⟨by omega,by omega⟩ _ _ _ (hin i (by omega)) (hin j (by omega)) (hin m (by omega))
      have hc:=qp6 p ((tps l).getD i (0,0,0)) ((tps l).getD j (0,0,0)) ((tps l).getD m (0,0,0))
      refine Ev.congr (fun k=>by rw[ap2,a1,a2,a3,b1,b2,b3,c1,c2,c3,qgk (p:=p) ⟨by omega,by omega⟩ _ _ (hin i (by omega)) (hin j (by omega)),Option.bind_some]) ?_
      refine Ev.bind hd ?_
      rw[qax]
      cases h:colB p ((tps l).getD j (0,0,0)) ((tps l).getD m (0,0,0)) ((tps l).getD i (0,0,0)) with
      | true=>exact Ev.yes (hc.2 h) (Ev.now _)
      | false=>
        refine Ev.no (fun e=>by rw[hc.1 e]at h;cases h) ?_
        have:=ih (m+1) (by omega)
        simpa using this
  have h1:∀ (i:Nat),i < l.length→zi p=true→(∀ m,m≤i→inP p ((tps l).getD m (0,0,0)))→∀ (d j:Nat),j+d=i→Ev (fun k=>ap1 k p l i d j) (!allN (fun k=>allN (fun j=>!colB p ((tps l).getD k (0,0,0)) ((tps l).getD j (0,0,0)) ((tps l).getD i (0,0,0))) k 0) d j):=by
    intro i hi hp hin d
    induction d with
    | zero=>intro j _;exact Ev.now _
    | succ d ih=>
      intro j hj
      refine Ev.congr (fun k=>by rw[ap1]) ?_
      refine Ev.bind (h2 i j hi (by omega) hp hin j 0 (by omega)) ?_
      rw[qax]
      cases h:allN (fun m=>!colB p ((tps l).getD j (0,0,0)) ((tps l).getD m (0,0,0)) ((tps l).getD i (0,0,0))) j 0 with
      | false=>exact Ev.yes rfl (Ev.now _)
      | true=>
        refine Ev.no (by simp) ?_
        have:=ih (j+1) (by omega)
        simpa using this
  have h0 : ∀ (d i : Nat), i + d = l.length → (∀ m, m < i → inP p ((tps l).getD m (0, 0, 0))) → Ev (fun k => ap0 k p l d i) (allN (apI p (tps l)) d i) := by
    intro d
    induction d with
    | zero=>intro i _ _;exact Ev.now _
    | succ d ih=>
      intro i hi hin
      obtain⟨a1,a2,a3⟩:=e1 i (by omega)
      refine Ev.congr (fun k=>by rw[ap0,a1,a2,a3,qk4,Option.bind_some]) ?_
      rw[qax,apI]
      cases hpt:ptB p ((tps l).getD i (0,0,0)).1 ((tps l).getD i (0,0,0)).2.1 ((tps l).getD i (0,0,0)).2.2 with
      | false=>exact Ev.no (by simp) (Ev.now _)
      | true=>
        have hp:zi p=true:=by
          rw[ptB,Bool.and_eq_true]at hpt
          exact(qbk hpt.1).1
        have hin':∀ m,m≤i→inP p ((tps l).getD m (0,0,0)):=fun m hm=>by
          by_cases e:m=i
          · subst e;exact qai hpt
          · exact hin m (by omega)
        refine Ev.yes rfl (Ev.bind (h1 i (by omega) hp hin' i 0 (by omega)) ?_)
        cases h:allN (fun k=>allN (fun j=>!colB p ((tps l).getD k (0,0,0)) ((tps l).getD j (0,0,0)) ((tps l).getD i (0,0,0))) k 0) i 0 with
        | false=>exact Ev.yes rfl (Ev.now _)
        | true=>
          refine Ev.no (by simp) ?_
          have:=ih (i+1) (by omega) fun m hm=>hin' m (by omega)
          simpa using this
  unfold jq.f
  refine Ev.yes hl ?_
  rw[J3,hlen]
  exact h0 l.length 0 (by omega) (fun m hm=>by omega)
end Go.Proofs.Ytmgbpmihbljngaa.PA
namespace Go.Proofs.Ytmgbpmihbljngaa.PA
open Go.RowKit Go.Proofs.YtmgbpmihbljngaaW.PrintWords Go.Proofs.YtmgbpmihbljngaaW.PrintLast Go.Proofs.YtmgbpmihbljngaaW.PrintMore
set_option linter.unusedVariables false
set_option linter.unusedSimpArgs false
def sqI (t:Int×Int×Int):List Int:=[t.1*t.1,t.1*t.2.1,t.1*t.2.2,t.2.1*t.2.1,t.2.1*t.2.2,t.2.2*t.2.2]
theorem Jy {p x:Int} (hp:7≤p∧p≤31) (h0:-1000000000≤x) (h1:x≤1000000000):modV p x=x % p:=by
  have:=qaf hp h0 h1
  rwa [wsm (by omega) (by omega)]at this
theorem qhq {p:Int} (hp:7≤p∧p≤31) {t:Int×Int×Int} (ht:inP p t):(sqI t).map (modV p)=sqR p t:=by
  obtain⟨a0,a1,a2⟩:=ht
  have m1:=Qb hp a0 a0
  have m2:=Qb hp a0 a1
  have m3:=Qb hp a0 a2
  have m4:=Qb hp a1 a1
  have m5:=Qb hp a1 a2
  have m6:=Qb hp a2 a2
  simp only[sqI,sqR,List.map_cons,List.map_nil]
  rw[Jy hp (by omega) (by omega),Jy hp (by omega) (by omega),Jy hp (by omega) (by omega),Jy hp (by omega) (by omega),Jy hp (by omega) (by omega),Jy hp (by omega) (by omega)]
theorem qco {p:Int} (hp:7≤p∧p≤31) (l:List S43) (hl:l.length≤1000) (hin:∀ j,j < l.length→inP p ((tps l).getD j (0,0,0))):Ev (fun k=>zn.f k l) ((tps l).map sqI):=by
  have hlen:(tps l).length=l.length:=by simp[tps]
  have h0:∀ (d i:Nat) (acc:List (List Int)),i+d=l.length→acc=((tps l).take i).map sqI→Ev (fun q=>zn.l0 q acc l (l.length:Int) (i:Int)) ((tps l).map sqI):=by
    intro d
    induction d with
    | zero=>
      intro i acc hi ha
      rw[List.take_of_length_le (by omega)]at ha
      subst ha
      exact Ev.step (f:=fun _=>some ((tps l).map sqI)) (fun q=>by rw[zn.l0,if_neg (by omega)]) (Ev.now _)
    | succ d ih=>
      intro i acc hi ha
      have hil:i < l.length:=by omega
      have hal:acc.length≤1000:=by rw[ha,List.length_map,List.length_take];omega
      have e:=Jn l i hil
      obtain⟨a0,a1,a2⟩:=hin i hil
      have f0:(qd l (i:Int)).f0.f0=((tps l).getD i (0,0,0)).1:=by rw[← e];rfl
      have f1:(qd l (i:Int)).f0.f1=((tps l).getD i (0,0,0)).2.1:=by rw[← e];rfl
      have f2:(qd l (i:Int)).f0.f2=((tps l).getD i (0,0,0)).2.2:=by rw[← e];rfl
      have m1:=Qb hp a0 a0
      have m2:=Qb hp a0 a1
      have m3:=Qb hp a0 a2
      have m4:=Qb hp a1 a1
      have m5:=Qb hp a1 a2
      have m6:=Qb hp a2 a2
      refine Ev.step (fun q=>by rw[zn.l0,if_pos (by omega),if_pos (by omega),if_pos (by omega),if_pos (by omega),f0,f1,f2,wsm (i:=((tps l).getD i (0,0,0)).1*((tps l).getD i (0,0,0)).1) (by omega) (by omega),wsm (i:=((tps l).getD i (0,0,0)).1*((tps l).getD i (0,0,0)).2.1) (by omega) (by omega),wsm (i:=((tps l).getD i (0,0,0)).1*((tps l).getD i (0,0,0)).2.2) (by omega) (by omega),wsm (i:=((tps l).getD i (0,0,0)).2.1*((tps l).getD i (0,0,0)).2.1) (by omega) (by omega),wsm (i:=((tps l).getD i (0,0,0)).2.1*((tps l).getD i (0,0,0)).2.2) (by omega) (by omega),wsm (i:=((tps l).getD i (0,0,0)).2.2*((tps l).getD i (0,0,0)).2.2) (by omega) (by omega),wsm (by omega) (by omega)]) ?_
      refine ih (i+1) _ (by omega) ?_
      rw[ha,List.take_add_one,List.map_append,List.getD_eq_getElem?_getD,List.getElem?_eq_getElem (by omega)]
      rfl
  unfold zn.f
  exact h0 l.length 0 [] (by omega) (by simp)
theorem qga (p:Int) (l:List S43):Ev (fun k=>j3.f k p l) (genB p (tps l)):=by
  have hlen:(tps l).length=l.length:=by simp[tps]
  unfold j3.f
  by_cases h6:l.length=6
  · refine Ev.yes (by omega) ?_
    rw[genB,hlen,decide_eq_true h6,Bool.true_and]
    refine Ev.bind (qjn l (by omega)) ?_
    cases ha:J3 p (tps l) with
    | false=>exact Ev.no (by simp) (Ev.now _)
    | true=>
      have hp:zi p=true:=by
        cases hp:zi p with
        | true=>rfl
        | false=>rw[qdm hp _ (by omega)]at ha;cases ha
      have hb:=zx hp
      have hin:∀ j,j < l.length→inP p ((tps l).getD j (0,0,0)):=fun j hj=>qai ((Z4 ha).1 j (by omega))
      have hs:=qat hp (w:=6) (by omega) ((tps l).map sqI) (by rw[List.length_map];omega) (fun r hr=>by obtain⟨t,_,rfl⟩:=List.mem_map.1 hr;rfl)
      have e:(((tps l).map sqI).map fun r=>r.map (modV p))=(tps l).map (sqR p):=by
        rw[List.map_map]
        refine List.map_congr_left fun t ht=>?_
        obtain⟨j,hj,rfl⟩:=List.getElem_of_mem ht
        have:=hin j (by omega)
        rw[List.getD_eq_getElem?_getD,List.getElem?_eq_getElem hj]at this
        exact qhq ⟨by omega,by omega⟩ this
      rw[e]at hs
      refine Ev.yes rfl (Ev.bind (qco (p:=p) ⟨by omega,by omega⟩ l (by omega) hin) (Ev.bind hs ?_))
      have e2:(((Zk p 6 ((tps l).map (sqR p))).length:Int) == 0)=(true && (Zk p 6 ((tps l).map (sqR p))).isEmpty):=by
        cases Zk p 6 ((tps l).map (sqR p)) with
        | nil=>rfl
        | cons a b=>simp;omega
      rw[e2]
      exact Ev.now _
  · refine Ev.no (by omega) ?_
    rw[genB,hlen,decide_eq_false h6]
    exact Ev.now _
end Go.Proofs.Ytmgbpmihbljngaa.PA
namespace Go.Proofs.Ytmgbpmihbljngaa.PA
open Go.RowKit Go.Proofs.YtmgbpmihbljngaaW.PrintWords Go.Proofs.YtmgbpmihbljngaaW.PrintLast Go.Proofs.YtmgbpmihbljngaaW.PrintMore
set_option linter.unusedVariables false
set_option linter.unusedSimpArgs false
theorem qqx {p:Int} (hp:zi p=true) (a:List Int) (ha:a.length=6∧∀ x∈a,0≤x∧x < p) (b:List Int) (hb:b.length=6∧∀ x∈b,0≤x∧x≤1000000):Ev (fun k=>jh.f k p a b) (dt 6 (fn a) (fn b) % p):=by
  have hpb:=zx hp
  have la:=ha.1
  have lb:=hb.1
  have hl:∀ (d i:Nat),i+d=6→0≤dt i (fn a) (fn b)→dt i (fn a) (fn b)≤i*100000000→Ev (fun k=>jh.l0 k p b (dt i (fn a) (fn b)) a (a.length:Int) (i:Int)) (dt 6 (fn a) (fn b) % p):=by
    intro d
    induction d with
    | zero=>
      intro i hi h0 _
      obtain rfl:i=6:=by omega
      have e:=qb1 (p:=p) (x:=dt 6 (fn a) (fn b)) ⟨by omega,by omega⟩ h0
      exact Ev.step (f:=fun _=>some (dt 6 (fn a) (fn b) % p)) (fun q=>by rw[jh.l0,if_neg (by omega),qdr p _ (by omega),e];rfl) (Ev.now _)
    | succ d ih=>
      intro i hi h0 h1
      have b1:=Zs ha i (by omega)
      have b3:0≤fn b i∧fn b i≤1000000:=by
        have hi':i < b.length:=by omega
        rw[fn,Zz b i hi']
        exact hb.2 _ (List.getElem_mem hi')
      have b4:0≤fn a i*fn b i:=Int.mul_nonneg b1.1 b3.1
      have b5:fn a i*fn b i≤31*1000000:=Int.mul_le_mul (by omega) b3.2 b3.1 (by omega)
      have r1:rd a (i:Int)=fn a i:=rfl
      have r2:rd b (i:Int)=fn b i:=rfl
      refine Ev.step (fun q=>by rw[jh.l0,if_pos (by omega),if_pos (by omega),if_pos (by omega),if_pos (by omega),r1,r2,wsm (i:=fn a i*fn b i) (by omega) (by omega),← Z6,wsm (i:=dt (i+1) (fn a) (fn b)) (by rw[Z6];omega) (by rw[Z6];omega),wsm (by omega) (by omega)]) ?_
      exact ih (i+1) (by omega) (by rw[Z6];omega) (by rw[Z6];omega)
  unfold jh.f
  have:=hl 6 0 rfl (by rw[qba];omega) (by rw[qba];omega)
  rwa [qba]at this
theorem qoi {p:Int} (hp:7≤p∧p≤31) {t:Int×Int×Int} (ht:inP p t):(sqI t).length=6∧∀ x∈sqI t,0≤x∧x≤1000000:=by
  obtain⟨a0,a1,a2⟩:=ht
  have m1:=Qb hp a0 a0
  have m2:=Qb hp a0 a1
  have m3:=Qb hp a0 a2
  have m4:=Qb hp a1 a1
  have m5:=Qb hp a1 a2
  have m6:=Qb hp a2 a2
  refine⟨rfl,fun x hx=>?_⟩
  simp only[sqI,List.mem_cons,List.not_mem_nil,or_false]at hx
  rcases hx with rfl | rfl | rfl | rfl | rfl | rfl<;>omega
theorem dot_sq {p:Int} (hp:7≤p∧p≤31) (a:List Int) {t:Int×Int×Int} (ht:inP p t):dt 6 (fn a) (fn (sqI t)) % p=dt 6 (fn a) (fn (sqR p t)) % p:=by
  have hc:=qh8 (p:=p) (w:=6) (u:=fn a) (u':=fn a) (v:=fn (sqI t)) (v':=fn (sqR p t)) (fun j _=>by simp) (fun j hj=>by
    have hb:=(qoi hp ht)
    have hj':j < (sqI t).length:=by rw[hb.1];exact hj
    have e1:fn ((sqI t).map (modV p)) j=modV p (fn (sqI t) j):=by
      simp[fn,rd,List.getD_eq_getElem?_getD,List.getElem?_eq_getElem hj']
    rw[← qhq hp ht,e1,qb1 hp (by rw[fn,Zz _ j hj'];exact(hb.2 _ (List.getElem_mem hj')).1)]
    exact Zy _ _)
  exact Int.emod_eq_emod_iff_emod_sub_eq_zero.2 (Int.emod_eq_zero_of_dvd hc)
end Go.Proofs.Ytmgbpmihbljngaa.PA
namespace Go.Proofs.Ytmgbpmihbljngaa.PA
open Go.RowKit Go.Proofs.YtmgbpmihbljngaaW.PrintWords Go.Proofs.YtmgbpmihbljngaaW.PrintLast Go.Proofs.YtmgbpmihbljngaaW.PrintMore
set_option linter.unusedVariables false
set_option linter.unusedSimpArgs false
theorem qkw {p:Int} (hp:zi p=true) (l:List S43) (hl:l.length=5) (hin:∀ j,j < l.length→inP p ((tps l).getD j (0,0,0))):Ev (fun k=>Qz.f k p l) ((Zk p 6 ((tps l).map (sqR p))).getD 0 []):=by
  have hb:=zx hp
  have hlen:(tps l).length=l.length:=by simp[tps]
  have hs:=qat hp (w:=6) (by omega) ((tps l).map sqI) (by rw[List.length_map];omega) (fun r hr=>by obtain⟨t,_,rfl⟩:=List.mem_map.1 hr;rfl)
  have e:(((tps l).map sqI).map fun r=>r.map (modV p))=(tps l).map (sqR p):=by
    rw[List.map_map]
    refine List.map_congr_left fun t ht=>?_
    obtain⟨j,hj,rfl⟩:=List.getElem_of_mem ht
    have:=hin j (by omega)
    rw[List.getD_eq_getElem?_getD,List.getElem?_eq_getElem hj]at this
    exact qhq ⟨by omega,by omega⟩ this
  rw[e]at hs
  have hn:=qdf hp (qd5 hp (tps l)) (by have:=qc4 (p:=p) (w:=6) ((tps l).map (sqR p));rw[List.length_map]at this;omega)
  have hp0:0 < (Zk p 6 ((tps l).map (sqR p))).length:=List.length_pos_iff.2 hn
  unfold Qz.f
  refine Ev.bind (qco (p:=p) ⟨by omega,by omega⟩ l (by omega) hin) (Ev.bind hs (Ev.yes (by omega) ?_))
  rw[show (0:Int)=((0:Nat):Int) from rfl,qbi]
  exact Ev.now _
end Go.Proofs.Ytmgbpmihbljngaa.PA
namespace Go.Proofs.Ytmgbpmihbljngaa.PA
open Go.RowKit Go.Proofs.YtmgbpmihbljngaaW.PrintWords Go.Proofs.YtmgbpmihbljngaaW.PrintLast Go.Proofs.YtmgbpmihbljngaaW.PrintMore
set_option linter.unusedVariables false
set_option linter.unusedSimpArgs false
theorem qjt (M:List (List Int)) {w:Nat} (hw:w≤1000) (hM:∀ r∈M,r.length=w) (hl:M.length≤1000000):∀ (d i:Nat),i+d=M.length→Ev (fun k=>jk.l0 k (M.take i).flatten M (M.length:Int) (i:Int)) M.flatten
  | 0,i,h=>by
    refine Ev.step (f:=fun _=>some M.flatten) (fun k=>?_) (Ev.now _)
    rw[jk.l0,if_neg (by omega),List.take_of_length_le (by omega)]
  | d + 1, i, h => by
    have hi:i < M.length:=by omega
    refine Ev.step (f:=fun k=>jk.l0 k (M.take (i+1)).flatten M (M.length:Int) ((i+1:Nat):Int)) (fun k=>?_) (qjt M hw hM hl d (i+1) (by omega))
    have e1:(M.take (i+1)).flatten=(M.take i).flatten++M.getD i []:=by
      rw[List.take_add_one,List.flatten_append,List.getD_eq_getElem?_getD,List.getElem?_eq_getElem hi];simp
    have e2:ju M (i:Int)=M.getD i []:=by simp[ju]
    have h1:(M.take i).flatten.length=i*w:=by rw[qfr _ (fun r hr=>hM r (List.mem_of_mem_take hr)),List.length_take,Nat.min_eq_left (by omega)]
    have h2:(M.getD i []).length=w:=hM _ (Q5 hi)
    have h3:i*w≤1000000*1000:=Nat.mul_le_mul (by omega) hw
    rw[jk.l0,if_pos (by omega),if_pos (by omega),if_pos (by omega),e2,if_pos (by omega),e1,wsm (by omega) (by omega)]
    rfl
theorem qg3 {p:Int} (hp:zi p=true) {w:Nat} (hw:w≤1000) (L:List (List Int)) (hL:okR p w L) (hl:L.length≤1000):Ev (fun k=>jk.f k p L) (qby p w L):=by
  unfold jk.f
  have hb:=zx hp
  have hlen:=qc3 p w 0 L []
  simp at hlen
  refine Ev.bind (qfs hp L (by omega) (by omega) hL) ?_
  have h:=qjt (redP p w 0 L []) hw (fun r hr=>(qcx (by omega) w 0 L [] hL (qaj p w) r hr).1) (by omega) (redP p w 0 L []).length 0 (by omega)
  simpa [qby] using h
end Go.Proofs.Ytmgbpmihbljngaa.PA
namespace Go.Proofs.Ytmgbpmihbljngaa.PA
open Go.RowKit Go.Proofs.YtmgbpmihbljngaaW.PrintWords Go.Proofs.YtmgbpmihbljngaaW.PrintLast Go.Proofs.YtmgbpmihbljngaaW.PrintMore
set_option linter.unusedVariables false
set_option linter.unusedSimpArgs false
theorem qqr (p:Int) (a b c:Int×Int×Int):(((a.2.1*b.2.2 - a.2.2*b.2.1)*c.1+(a.2.2*b.1 - a.1*b.2.2)*c.2.1+(a.1*b.2.1 - a.2.1*b.1)*c.2.2) % p == 0)=colB p a b c:=by
  have e:(a.2.1*b.2.2 - a.2.2*b.2.1)*c.1+(a.2.2*b.1 - a.1*b.2.2)*c.2.1+(a.1*b.2.1 - a.2.1*b.1)*c.2.2=c.1*(a.2.1*b.2.2 - a.2.2*b.2.1)+c.2.1*(a.2.2*b.1 - a.1*b.2.2)+c.2.2*(a.1*b.2.1 - a.2.1*b.1):=by grind
  rw[e,colB]
theorem qh7 (l:List S43) (hl:l.length≤1000) (t:Int×Int×Int):Ev (fun k=>Qt.f k l t.1 t.2.1 t.2.2) (decide (t∈tps l)):=by
  obtain⟨r,hr,h1,h2⟩:=qi1 l hl t l.length 0 (by omega) fun j hj=>by omega
  have hlen:(tps l).length=l.length:=by simp[tps]
  have e:decide (r≥0)=decide (t∈tps l):=by
    by_cases h:r≥0
    · obtain⟨j,hj,ej⟩:=h1 h
      rw[decide_eq_true h,decide_eq_true (by rw[← ej];exact qkk _ _ (by omega))]
    · rw[decide_eq_false h,decide_eq_false fun hm=>?_]
      obtain⟨i,hi,ei⟩:=List.mem_iff_getElem.1 hm
      refine h2 (by omega) i (by omega) ?_
      rw[List.getD_eq_getElem?_getD,List.getElem?_eq_getElem hi]
      exact ei
  rw[← e]
  unfold Qt.f zp.f
  exact Ev.bind hr (Ev.now _)
theorem qn7 {p:Int} (six:List S43) (hg:genB p (tps six)=true) (on:Nat→S43→Option Bool) (g:Int×Int×Int→Bool):∀ (L:List (Int×Int×Int)) (acc:List (List Int)),(∀ t∈L,t∈allP p.toNat)→(∀ t∈L,Ev (fun k=>on k (mkT t)) (g t))→Ev (fun k=>sfL (on k) k p (basP p (tps six)) six (L.map mkT) acc) (acc++curI p (tps six) (L.filter g))
  | [],acc,_,_=>by
    refine Ev.congr (fun k=>by rw[List.map_nil,sfL]) ?_
    rw[show curI p (tps six) (([]:List (Int×Int×Int)).filter g)=[] from rfl,List.append_nil]
    exact Ev.now _
  | t :: L,acc,hL,ho=>by
    obtain⟨hp,h6,_,_⟩:=jn hg
    have hpb:=zx hp
    have hlen:(tps six).length=six.length:=by simp[tps]
    have ht:=hL t List.mem_cons_self
    have hin:=qdi (p:=p) ⟨by omega,by omega⟩ t ht
    have ih:=fun acc=>qn7 six hg on g L acc (fun s hs=>hL s (List.mem_cons_of_mem _ hs)) fun s hs=>ho s (List.mem_cons_of_mem _ hs)
    refine Ev.congr (fun k=>by rw[List.map_cons,sfL]) ?_
    refine Ev.bind (ho t List.mem_cons_self) ?_
    cases hgt:g t with
    | false=>
      refine Ev.no (by simp) ?_
      rw[List.filter_cons_of_neg (by simp[hgt])]
      exact ih acc
    | true=>
      have hf:(t :: L).filter g=t :: L.filter g:=List.filter_cons_of_pos hgt
      refine Ev.yes rfl (Ev.bind (qh7 six (by omega) t) ?_)
      rw[hf]
      by_cases hm:t∈tps six
      · refine Ev.yes (decide_eq_true hm) ?_
        have:curI p (tps six) (t :: L.filter g)=curI p (tps six) (L.filter g):=by
          unfold curI
          rw[List.filter_cons_of_neg (by simp[hm])]
        rw[this]
        exact ih acc
      · refine Ev.no (by simp[hm]) ?_
        have hz:=qot hg t ht hm
        have hi:=qkd hg t hin
        rw[monP,if_neg (by rw[hz];simp)]at hi
        have hl4:(rowP p (imgP p (tps six) t)).length=4:=by rw[rowP,List.length_map];exact(qev hg t).1
        refine Ev.bind hi (Ev.yes (by omega) ?_)
        have:curI p (tps six) (t :: L.filter g)=rowP p (imgP p (tps six) t) :: curI p (tps six) (L.filter g):=by
          unfold curI
          rw[List.filter_cons_of_pos (by simp[hm]),List.map_cons]
        have hh:=ih (acc++[rowP p (imgP p (tps six) t)])
        rw[List.append_assoc]at hh
        rw[this]
        exact hh
theorem qjr {p:Int} (six:List S43) (hg:genB p (tps six)=true) (on:Nat→S43→Option Bool) (g:Int×Int×Int→Bool) (ho:∀ t∈allP p.toNat,Ev (fun k=>on k (mkT t)) (g t)):Ev (fun k=>qeg (on k) k p (basP p (tps six)) six) (qby p 4 (curP p (tps six) ((allP p.toNat).filter g))):=by
  obtain⟨hp,h6,_,_⟩:=jn hg
  have hpb:=zx hp
  have hs:=qag (p:=p) ⟨by omega,by omega⟩
  have hl:=qn7 six hg on g (allP p.toNat) [] (fun t ht=>ht) ho
  rw[List.nil_append]at hl
  have hc:(curI p (tps six) ((allP p.toNat).filter g)).length≤1000:=by
    unfold curI
    rw[List.length_map]
    exact Nat.le_trans (List.length_filter_le _ _) (Nat.le_trans (List.length_filter_le _ _) hs)
  unfold qeg
  refine Ev.bind (qp3 (p:=p) ⟨by omega,by omega⟩) (Ev.yes (by rw[List.length_map];omega) (Ev.bind hl ?_))
  rw[← qoy hg _ fun t ht=>(List.mem_filter.1 ht).1]
  exact qg3 hp (by omega) _ (ql7 hg _) hc
theorem qfi {p:Int} (l:List S43) (hg:genB p (tps l)=true) {kk:Int} (h0:0≤kk) (h1:kk≤26):Ev (fun k=>zd.f k p l (basP p (tps l)) kk) (qgq p (tps l) kk):=by
  obtain⟨hp,h6,ha,_⟩:=jn hg
  have hpb:=zx hp
  have hp':7≤p∧p≤31:=⟨by omega,by omega⟩
  have hlen:(tps l).length=l.length:=by simp[tps]
  have h4:=qao hp h6 (Zd hg)
  have hin:∀ j,j < l.length→inP p ((tps l).getD j (0,0,0)):=fun j hj=>qai ((Z4 ha).1 j (by omega))
  have hpt:∀ j:Nat,j < l.length→tpl (sfPt l (j:Int))=(tps l).getD j (0,0,0):=fun j hj=>Jn l j hj
  rw[qgq,if_pos (qfh hg h0 h1)]
  unfold zd.f linR
  refine Ev.yes ⟨by omega,by omega,by omega⟩ ?_
  by_cases c6:kk < 6
  · rw[if_pos c6]
    obtain⟨n,rfl⟩:=Int.eq_ofNat_of_zero_le h0
    have hn:n < l.length:=by omega
    have hx:inP p (tpl (sfPt l (n:Int))):=by rw[hpt n hn];exact hin n hn
    have hr:=qqj hp' h4 (fun i hi=>qdd hp i hi) (sfPt l (n:Int)) hx
    rw[hpt n hn]at hr
    have hok:=qdc hg (n:Int)
    rw[linR,if_pos c6]at hok
    rw[Int.toNat_natCast]at hok ⊢
    refine Ev.yes c6 (Ev.yes ⟨h0,by omega⟩ (Ev.bind hr ?_))
    exact qg3 hp (by omega) _ hok (by simp)
  · rw[if_neg c6]
    refine Ev.no c6 ?_
    by_cases c21:kk < 21
    · rw[if_pos c21]
      have he:=qhj (kk:=kk) ⟨by omega,c21⟩
      obtain⟨_,hA,hB⟩:=he
      refine Ev.yes c21 (Ev.bind (qqn ⟨by omega,c21⟩) (Ev.yes ⟨⟨by omega,by simp only;omega⟩,by omega,by simp only;omega⟩ ?_))
      have eA:=hpt (endA kk) (by omega)
      have eB:=hpt (endB kk) (by omega)
      have iA:=hin (endA kk) (by omega)
      have iB:=hin (endB kk) (by omega)
      have hcr:=qgk hp' _ _ iA iB
      rw[← eA,← eB]at hcr
      refine Ev.bind (Ev.k hcr) ?_
      rw[eA,eB]
      refine qjr l hg (fun k=>sfOn k p (crsI ((tps l).getD (endA kk) (0,0,0)) ((tps l).getD (endB kk) (0,0,0)))) (colB p ((tps l).getD (endA kk) (0,0,0)) ((tps l).getD (endB kk) (0,0,0))) fun t ht=>?_
      have hd:=qgy hp' _ _ t iA iB (qdi hp' t ht)
      unfold sfOn
      refine Ev.bind hd ?_
      rw[qqr]
      exact Ev.now _
    · rw[if_neg c21]
      refine Ev.no c21 (Ev.yes (by omega) ?_)
      have e20:(kk - 20).toNat=(kk - 21).toNat+1:=by omega
      have hT:tps (l.take (kk - 21).toNat++l.drop ((kk - 21).toNat+1))=(tps l).take (kk - 21).toNat++(tps l).drop ((kk - 21).toNat+1):=by
        simp[tps,List.map_append,List.map_take,List.map_drop]
      have hsub:∀ t∈(tps l).take (kk - 21).toNat++(tps l).drop ((kk - 21).toNat+1),inP p t:=fun t ht=>by
        have hm:t∈tps l:=(List.mem_append.1 ht).elim List.mem_of_mem_take List.mem_of_mem_drop
        obtain⟨i,hi,ei⟩:=List.mem_iff_getElem.1 hm
        have:=hin i (by omega)
        rwa [List.getD_eq_getElem?_getD,List.getElem?_eq_getElem hi,Option.getD_some,ei]at this
      have h5:(l.take (kk - 21).toNat++l.drop ((kk - 21).toNat+1)).length=5:=by
        rw[List.length_append,List.length_take,List.length_drop];omega
      have hcon:=qkw hp _ h5 (fun j hj=>by
        rw[hT]
        have hj':j < ((tps l).take (kk - 21).toNat++(tps l).drop ((kk - 21).toNat+1)).length:=by rw[← hT];simp[tps];simpa using hj
        exact hsub _ (qkk _ _ hj'))
      have ec:(Zk p 6 ((tps (l.take (kk - 21).toNat++l.drop ((kk - 21).toNat+1))).map (sqR p))).getD 0 []=conP p (tps l) kk:=by
        rw[conP,hT,e20]
      rw[ec]at hcon
      refine Ev.bind hcon ?_
      have hm:=qif hg (kk - 21).toNat (by omega)
      rw[show (((kk - 21).toNat:Nat):Int)+21=kk by omega]at hm
      have hok:=ql6 hp (qd5 hp ((tps l).take (kk - 21).toNat++(tps l).drop ((kk - 21).toNat+1))) _ hm
      refine qjr l hg (fun k=>sfOq k p (conP p (tps l) kk)) (fun t=>dt 6 (fn (conP p (tps l) kk)) (fn (sqR p t)) % p == 0) fun t ht=>?_
      have hit:=qdi hp' t ht
      have hsq:=qco (p:=p) hp' [mkT t] (by simp) (fun j hj=>by
        have:j=0:=by simpa using hj
        subst this;exact hit)
      rw[show (tps [mkT t]).map sqI=[sqI t] from rfl]at hsq
      unfold sfOq
      refine Ev.bind hsq (Ev.yes (by simp) (Ev.bind (qqx hp _ hok _ (qoi hp' hit)) ?_))
      rw[show ([sqI t]:List (List Int)).getD 0 []=sqI t from rfl,dot_sq hp' _ hit]
      exact Ev.now _
end Go.Proofs.Ytmgbpmihbljngaa.PA
namespace Go.Proofs.Ytmgbpmihbljngaa.PA
open Go.RowKit Go.Proofs.YtmgbpmihbljngaaW.PrintWords Go.Proofs.YtmgbpmihbljngaaW.PrintLast Go.Proofs.YtmgbpmihbljngaaW.PrintMore
set_option linter.unusedVariables false
set_option linter.unusedSimpArgs false
theorem qek (p:Int) (l:List S43) (kk:Int):Ev (fun k=>qy.f k p l kk) (qbx p (tps l) kk):=by
  have hlen:(tps l).length=l.length:=by simp[tps]
  have hno:∀ r,r=([],false)→Ev (fun k=>qy.j0 k p l kk true) r:=fun r h=>by
    subst h
    exact Ev.step (f:=fun _=>some ([],false)) (fun q=>by rw[qy.j0,if_pos rfl]) (Ev.now _)
  unfold qy.f
  refine Ev.bind (qga p l) ?_
  cases hg:genB p (tps l) with
  | false=>
    refine Ev.no (by simp) (hno _ ?_)
    rw[qbx,if_neg (by simp[hg])]
  | true=>
    obtain⟨hp,h6,ha,_⟩:=jn hg
    refine Ev.yes rfl ?_
    by_cases h0:0≤kk
    · by_cases h1:kk≤26
      · have e:Q7.f kk=some true:=by rw[Q7.f,if_pos h0,decide_eq_true (by omega)]
        rw[qbx,if_pos ⟨hg,h0,h1⟩]
        refine Ev.bind (Ev.k e) ?_
        refine Ev.step (fun q=>by rw[qy.j0,if_neg (by simp)]) ?_
        exact Ev.bind (qms hp l (by omega) fun j hj=>qai ((Z4 ha).1 j (by omega))) (Ev.bind (qfi l hg h0 h1) (Ev.now _))
      · have e:Q7.f kk=some false:=by rw[Q7.f,if_pos h0,decide_eq_false (by omega)]
        refine Ev.bind (Ev.k e) (hno _ ?_)
        rw[qbx,if_neg (by omega)]
    · have e:Q7.f kk=some false:=by rw[Q7.f,if_neg (by omega)]
      refine Ev.bind (Ev.k e) (hno _ ?_)
      rw[qbx,if_neg (by omega)]
end Go.Proofs.Ytmgbpmihbljngaa.PA
namespace Go.Proofs.Ytmgbpmihbljngaa.PA
open Go.RowKit Go.Proofs.YtmgbpmihbljngaaW.PrintWords Go.Proofs.YtmgbpmihbljngaaW.PrintLast Go.Proofs.YtmgbpmihbljngaaW.PrintMore
set_option linter.unusedVariables false
set_option linter.unusedSimpArgs false
theorem qmt (p:Int) (Q:List (Int×Int×Int)) (kk:Int):(qbx p Q kk).1.length≤8:=by
  by_cases h:genB p Q=true∧0≤kk∧kk≤26
  · have hp:=zx (jn h.1).1
    have h2:=qna (p:=p) (by omega) (qdc h.1 kk)
    rw[qfh h.1 h.2.1 h.2.2]at h2
    rw[qbx,if_pos h,qgq,if_pos (qfh h.1 h.2.1 h.2.2)]
    generalize qby p 4 (linR p Q kk)=u at*
    simp only
    omega
  · rw[qbx,if_neg h];simp
theorem qbf (p:Int) (six:List S76) (kk:Int) (hm:six.length≤maxLen):Ev (fun k=>laws_FnExactSurfaceLine.f k p six kk) true:=by
  unfold laws_FnExactSurfaceLine.f
  refine Ev.bind (Ev.k (qj1 six hm)) ?_
  by_cases hl:six.length≤1048576
  rotate_left
  · rw[if_neg hl];exact Ev.yes (by omega) (Ev.now _)
  rw[if_pos hl]
  refine Ev.no (by omega) ?_
  have hq:(six.map toP).length≤1048576:=by rw[List.length_map];exact hl
  have ht:=qj5 six hl
  have hr:=qmt p (tps (six.map toP)) kk
  have hi:=qek p (six.map toP) kk
  have hs:=qem p (six.map toP) kk
  generalize qbx p (tps (six.map toP)) kk=t at*
  obtain⟨t,ok⟩:=t
  simp only at hr
  generalize six.map toP=Q at*
  refine Ev.bind ht (Ev.bind hs (Ev.bind ht (Ev.bind hi (Ev.bind (qdq t t (by omega)) ?_))))
  rw[decide_eq_true rfl]
  refine Ev.yes rfl ?_
  simp only[bne_self_eq_false]
  refine Ev.step (fun k=>by rw[laws_FnExactSurfaceLine.j0,if_neg (by simp)]) ?_
  refine Ev.bind ht (Ev.bind (qiw Q hq) ?_)
  refine Ev.yes rfl (Ev.bind (Ev.k (qgg Q 1 hq (by omega))) (Ev.no (by simp only;omega) (Ev.bind (qdq t t (by omega)) ?_)))
  rw[decide_eq_true rfl]
  refine Ev.yes rfl (Ev.step (fun k=>by rw[laws_FnExactSurfaceLine.j1,if_neg (by simp)]) ?_)
  refine Ev.bind (qps t 1 (by omega) (by omega)) (Ev.bind (qlt t.length 1 (by omega) (by omega)) (Ev.no (by omega) (Ev.yes rfl ?_)))
  refine Ev.bind ht (Ev.bind hi (Ev.bind (qdq t t (by omega)) ?_))
  rw[decide_eq_true rfl]
  refine Ev.yes rfl (Ev.step (fun k=>by rw[laws_FnExactSurfaceLine.j2,if_neg (by simp)]) ?_)
  exact Ev.bind (qlt t.length 1 (by omega) (by omega)) (Ev.no (by omega) (Ev.yes rfl (Ev.now _)))
end Go.Proofs.Ytmgbpmihbljngaa.PA
namespace Go.Proofs.Ytmgbpmihbljngaa.Pure
open Go.RowKit Go.Proofs.Ytmgbpmihbljngaa.PA Go.Proofs.YtmgbpmihbljngaaW.PrintWords Go.Proofs.YtmgbpmihbljngaaW.PrintLast
theorem FnExactSurfaceLine (p:Int) (six:List S76) (kk:Int) (hm:six.length≤maxLen):∃ k,laws_FnExactSurfaceLine.f k p six kk=some true:=(qbf p six kk hm).rounds
end Go.Proofs.Ytmgbpmihbljngaa.Pure
