/- Plain laws of what the printed functions compute. No conditions beside those that each states. -/
import Derived.Test.YtmgbpmihbljngaaGreatWGuard
namespace Go.Proofs.YtmgbpmihbljngaaGreat.PA
open RowKit YtmgbpmihbljngaaGreatW.PrintWords YtmgbpmihbljngaaGreatW.PrintLast YtmgbpmihbljngaaGreatW.PrintMore
set_option linter.unusedVariables false
set_option linter.unusedSimpArgs false
theorem wsm {i:Int} (h0:-1000000000000000000<=i) (h:i<=1000000000000000000):wrap64 i=i:=by unfold wrap64;omega
theorem Ev.none_ {α:Type} {g:Nat->Option α} {r r':α} (h:Ev g r) (h':Ev g r'):r=r':=by
 obtain⟨a,ha⟩:=h;obtain⟨b,hb⟩:=h';have h1:=ha (max a b) (Nat.le_max_left _ _);have h2:=hb (max a b) (Nat.le_max_right _ _);exact Option.some.inj (h1.symm.trans h2)
theorem Ev.k {α:Type} {x:Option α} {r:α} (h:x=some r):Ev (λ_=>x) r:=⟨0,λ_ _=>h⟩
theorem Ev.ite {α:Type} {c:Prop} [Decidable c] {g f:Nat->Option α} {r:α} (h1:c->Ev g r) (h2:¬ c->Ev f r):Ev (λk=>if c then g k else f k) r:=by
 by_cases h:c
 ·exact(h1 h).congr (λk=>if_pos h)
 ·exact(h2 h).congr (λk=>if_neg h)
theorem Ev.yes {α:Type} {c:Prop} [Decidable c] {g f:Nat->Option α} {r:α} (h:c) (h1:Ev g r):Ev (λk=>if c then g k else f k) r:=h1.congr (λk=>if_pos h)
theorem Ev.no {α:Type} {c:Prop} [Decidable c] {g f:Nat->Option α} {r:α} (h:¬ c) (h1:Ev f r):Ev (λk=>if c then g k else f k) r:=h1.congr (λk=>if_neg h)
theorem Jo (l:List Int) (j:Nat) (h:j < l.length):rd l (j:Int)=l[j]:=by simp[rd,List.getD_eq_getElem?_getD,h]
theorem qc8 (l:List Int) (j:Nat) (h:j < l.length):l.drop j=rd l (j:Int) :: l.drop (j+1):=by rw[Jo l j h,List.drop_eq_getElem_cons h]
end Go.Proofs.YtmgbpmihbljngaaGreat.PA
