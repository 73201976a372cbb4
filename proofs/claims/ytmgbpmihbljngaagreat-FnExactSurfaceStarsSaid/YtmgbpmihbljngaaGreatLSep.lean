/- Plain laws of what the printed functions compute. No conditions beside those that each states. -/
import Derived.Test.YtmgbpmihbljngaaGreatLPln
namespace Go.Proofs.YtmgbpmihbljngaaGreat.PA
open RowKit YtmgbpmihbljngaaGreatW.PrintWords YtmgbpmihbljngaaGreatW.PrintLast YtmgbpmihbljngaaGreatW.PrintMore
set_option linter.unusedVariables false
set_option linter.unusedSimpArgs false
def dL {n:Nat} (P:Nat->Nat->Fq n) (i j:Nat) (x:Nat->Fq n):Fq n:=ev3 (qu (P i) (P j)) x
theorem qus {n:Nat} (P:Nat->Nat->Fq n) (i j:Nat) (x:Nat->Fq n):dL P i j x=- dL P j i x:=by simp only[dL,ev3,qu];grind
def offP {n:Nat} (a x:Nat->Fq n):Prop:=qu a x 0≠0\/qu a x 1≠0\/qu a x 2≠0
theorem qjc {n:Nat} (p q r x:Nat->Fq n) (h1:ev3 (qu p q) x=0) (h2:ev3 (qu p r) x=0):ev3 (qu p q) r*qu p x 0=0/\ev3 (qu p q) r*qu p x 1=0/\ev3 (qu p q) r*qu p x 2=0:=by
  simp only[ev3,qu]at*;refine⟨?_,?_,?_⟩<;>grind
theorem qur {n:Nat} (hF:FldH n) {P:Nat->Nat->Fq n} (hG:gen3 P) {x:Nat->Fq n} {i j k:Nat} (hi:i < 6) (hj:j < 6) (hk:k < 6) (h1:i≠j) (h2:j≠k) (h3:i≠k) (hx:offP (P i) x) (a:dL P i j x=0) (b:dL P i k x=0):False:=by
  have hd:=hG i j k hi hj hk h1 h2 h3;obtain⟨t0,t1,t2⟩:=qjc (P i) (P j) (P k) x a b
  rcases hx with h|h|h
  · exact(fz hF t0).elim hd h
  · exact(fz hF t1).elim hd h
  · exact(fz hF t2).elim hd h
theorem Qi {a b:Nat} (ha:a<=1) (hb:b<=1) (h:a=1->b=1->False):a+b<=1:=by
  rcases (show a+b<=1\/(a=1/\b=1) by omega) with h0|⟨h1,h2⟩
  · exact h0
  · exact(h h1 h2).elim
theorem qc7 {a b c d e:Nat} (ha:a<=1) (hb:b<=1) (hc:c<=1) (hd:d<=1) (he:e<=1) (h:a+b<=1/\a+c<=1/\a+d<=1/\a+e<=1/\b+c<=1/\b+d<=1/\b+e<=1/\c+d<=1/\c+e<=1/\d+e<=1):a+b+c+d+e<=1:=by
  rcases (show a=0\/a=1 by omega) with rfl|rfl<;>rcases (show b=0\/b=1 by omega) with rfl|rfl<;>omega
theorem qq7 {n:Nat} (hF:FldH n) {P:Nat->Nat->Fq n} (hG:gen3 P) {x:Nat->Fq n} (hx:∀ i,i < 6->offP (P i) x):∃ v:Nat->Fq n,(∀ z,z < 6->valC v (P z)=0)/\valC v x≠0:=by
  refine Classical.byContradiction λhno=>?_;have hm:∀ i j k l m q:Nat,(∀ z,z < 6->z=i\/z=j\/z=k\/z=l\/z=m\/z=q)->dL P i j x=0\/dL P k l x=0\/dL P m q x=0:=λi j k l m q h=>by
    refine Classical.byContradiction λhn=>hno ⟨lin6 P i j k l m q,qc0 P i j k l m q h,?_⟩;rw[Z5];have h1:dL P i j x≠0:=λe=>hn (.inl e);have h2:dL P k l x≠0:=λe=>hn (.inr (.inl e));have h3:dL P m q x≠0:=λe=>hn (.inr (.inr e));exact fnz hF (fnz hF h1 h2) h3
  have he:∀ i j:Nat,∃ e:Nat,e<=1/\(dL P i j x=0->e=1)/\(e=1->dL P i j x=0):=λi j=>by
    by_cases h:dL P i j x=0
    · exact⟨1,by omega,λ_=>rfl,λ_=>h⟩
    · exact⟨0,by omega,λe=>absurd e h,λe=>by omega⟩
  have hc:∀ i j k:Nat,i < 6->j < 6->k < 6->i≠j->j≠k->i≠k->dL P i j x=0->dL P i k x=0->False:=λi j k hi hj hk a b c=>qur hF hG hi hj hk a b c (hx i hi);have hs:∀ i j:Nat,dL P i j x=0->dL P j i x=0:=λi j h=>by rw[qus,h];grind
  obtain⟨e01,a01,b01,c01⟩:=he 0 1;obtain⟨e02,a02,b02,c02⟩:=he 0 2;obtain⟨e03,a03,b03,c03⟩:=he 0 3;obtain⟨e04,a04,b04,c04⟩:=he 0 4;obtain⟨e05,a05,b05,c05⟩:=he 0 5;obtain⟨e12,a12,b12,c12⟩:=he 1 2;obtain⟨e13,a13,b13,c13⟩:=he 1 3;obtain⟨e14,a14,b14,c14⟩:=he 1 4;obtain⟨e15,a15,b15,c15⟩:=he 1 5;obtain⟨e23,a23,b23,c23⟩:=he 2 3;obtain⟨e24,a24,b24,c24⟩:=he 2 4;obtain⟨e25,a25,b25,c25⟩:=he 2 5;obtain⟨e34,a34,b34,c34⟩:=he 3 4;obtain⟨e35,a35,b35,c35⟩:=he 3 5;obtain⟨e45,a45,b45,c45⟩:=he 4 5
  have v0:=qc7 a01 a02 a03 a04 a05
    ⟨Qi a01 a02 λh1 h2=>hc 0 1 2 (by omega) (by omega) (by omega) (by omega) (by omega) (by omega) (c01 h1) (c02 h2),
     Qi a01 a03 λh1 h2=>hc 0 1 3 (by omega) (by omega) (by omega) (by omega) (by omega) (by omega) (c01 h1) (c03 h2),
     Qi a01 a04 λh1 h2=>hc 0 1 4 (by omega) (by omega) (by omega) (by omega) (by omega) (by omega) (c01 h1) (c04 h2),
     Qi a01 a05 λh1 h2=>hc 0 1 5 (by omega) (by omega) (by omega) (by omega) (by omega) (by omega) (c01 h1) (c05 h2),
     Qi a02 a03 λh1 h2=>hc 0 2 3 (by omega) (by omega) (by omega) (by omega) (by omega) (by omega) (c02 h1) (c03 h2),
     Qi a02 a04 λh1 h2=>hc 0 2 4 (by omega) (by omega) (by omega) (by omega) (by omega) (by omega) (c02 h1) (c04 h2),
     Qi a02 a05 λh1 h2=>hc 0 2 5 (by omega) (by omega) (by omega) (by omega) (by omega) (by omega) (c02 h1) (c05 h2),
     Qi a03 a04 λh1 h2=>hc 0 3 4 (by omega) (by omega) (by omega) (by omega) (by omega) (by omega) (c03 h1) (c04 h2),
     Qi a03 a05 λh1 h2=>hc 0 3 5 (by omega) (by omega) (by omega) (by omega) (by omega) (by omega) (c03 h1) (c05 h2),
     Qi a04 a05 λh1 h2=>hc 0 4 5 (by omega) (by omega) (by omega) (by omega) (by omega) (by omega) (c04 h1) (c05 h2)⟩
  have v1:=qc7 a01 a12 a13 a14 a15
    ⟨Qi a01 a12 λh1 h2=>hc 1 0 2 (by omega) (by omega) (by omega) (by omega) (by omega) (by omega) (hs _ _ (c01 h1)) (c12 h2),
     Qi a01 a13 λh1 h2=>hc 1 0 3 (by omega) (by omega) (by omega) (by omega) (by omega) (by omega) (hs _ _ (c01 h1)) (c13 h2),
     Qi a01 a14 λh1 h2=>hc 1 0 4 (by omega) (by omega) (by omega) (by omega) (by omega) (by omega) (hs _ _ (c01 h1)) (c14 h2),
     Qi a01 a15 λh1 h2=>hc 1 0 5 (by omega) (by omega) (by omega) (by omega) (by omega) (by omega) (hs _ _ (c01 h1)) (c15 h2),
     Qi a12 a13 λh1 h2=>hc 1 2 3 (by omega) (by omega) (by omega) (by omega) (by omega) (by omega) (c12 h1) (c13 h2),
     Qi a12 a14 λh1 h2=>hc 1 2 4 (by omega) (by omega) (by omega) (by omega) (by omega) (by omega) (c12 h1) (c14 h2),
     Qi a12 a15 λh1 h2=>hc 1 2 5 (by omega) (by omega) (by omega) (by omega) (by omega) (by omega) (c12 h1) (c15 h2),
     Qi a13 a14 λh1 h2=>hc 1 3 4 (by omega) (by omega) (by omega) (by omega) (by omega) (by omega) (c13 h1) (c14 h2),
     Qi a13 a15 λh1 h2=>hc 1 3 5 (by omega) (by omega) (by omega) (by omega) (by omega) (by omega) (c13 h1) (c15 h2),
     Qi a14 a15 λh1 h2=>hc 1 4 5 (by omega) (by omega) (by omega) (by omega) (by omega) (by omega) (c14 h1) (c15 h2)⟩
  have v2:=qc7 a02 a12 a23 a24 a25
    ⟨Qi a02 a12 λh1 h2=>hc 2 0 1 (by omega) (by omega) (by omega) (by omega) (by omega) (by omega) (hs _ _ (c02 h1)) (hs _ _ (c12 h2)),
     Qi a02 a23 λh1 h2=>hc 2 0 3 (by omega) (by omega) (by omega) (by omega) (by omega) (by omega) (hs _ _ (c02 h1)) (c23 h2),
     Qi a02 a24 λh1 h2=>hc 2 0 4 (by omega) (by omega) (by omega) (by omega) (by omega) (by omega) (hs _ _ (c02 h1)) (c24 h2),
     Qi a02 a25 λh1 h2=>hc 2 0 5 (by omega) (by omega) (by omega) (by omega) (by omega) (by omega) (hs _ _ (c02 h1)) (c25 h2),
     Qi a12 a23 λh1 h2=>hc 2 1 3 (by omega) (by omega) (by omega) (by omega) (by omega) (by omega) (hs _ _ (c12 h1)) (c23 h2),
     Qi a12 a24 λh1 h2=>hc 2 1 4 (by omega) (by omega) (by omega) (by omega) (by omega) (by omega) (hs _ _ (c12 h1)) (c24 h2),
     Qi a12 a25 λh1 h2=>hc 2 1 5 (by omega) (by omega) (by omega) (by omega) (by omega) (by omega) (hs _ _ (c12 h1)) (c25 h2),
     Qi a23 a24 λh1 h2=>hc 2 3 4 (by omega) (by omega) (by omega) (by omega) (by omega) (by omega) (c23 h1) (c24 h2),
     Qi a23 a25 λh1 h2=>hc 2 3 5 (by omega) (by omega) (by omega) (by omega) (by omega) (by omega) (c23 h1) (c25 h2),
     Qi a24 a25 λh1 h2=>hc 2 4 5 (by omega) (by omega) (by omega) (by omega) (by omega) (by omega) (c24 h1) (c25 h2)⟩
  have v3:=qc7 a03 a13 a23 a34 a35
    ⟨Qi a03 a13 λh1 h2=>hc 3 0 1 (by omega) (by omega) (by omega) (by omega) (by omega) (by omega) (hs _ _ (c03 h1)) (hs _ _ (c13 h2)),
     Qi a03 a23 λh1 h2=>hc 3 0 2 (by omega) (by omega) (by omega) (by omega) (by omega) (by omega) (hs _ _ (c03 h1)) (hs _ _ (c23 h2)),
     Qi a03 a34 λh1 h2=>hc 3 0 4 (by omega) (by omega) (by omega) (by omega) (by omega) (by omega) (hs _ _ (c03 h1)) (c34 h2),
     Qi a03 a35 λh1 h2=>hc 3 0 5 (by omega) (by omega) (by omega) (by omega) (by omega) (by omega) (hs _ _ (c03 h1)) (c35 h2),
     Qi a13 a23 λh1 h2=>hc 3 1 2 (by omega) (by omega) (by omega) (by omega) (by omega) (by omega) (hs _ _ (c13 h1)) (hs _ _ (c23 h2)),
     Qi a13 a34 λh1 h2=>hc 3 1 4 (by omega) (by omega) (by omega) (by omega) (by omega) (by omega) (hs _ _ (c13 h1)) (c34 h2),
     Qi a13 a35 λh1 h2=>hc 3 1 5 (by omega) (by omega) (by omega) (by omega) (by omega) (by omega) (hs _ _ (c13 h1)) (c35 h2),
     Qi a23 a34 λh1 h2=>hc 3 2 4 (by omega) (by omega) (by omega) (by omega) (by omega) (by omega) (hs _ _ (c23 h1)) (c34 h2),
     Qi a23 a35 λh1 h2=>hc 3 2 5 (by omega) (by omega) (by omega) (by omega) (by omega) (by omega) (hs _ _ (c23 h1)) (c35 h2),
     Qi a34 a35 λh1 h2=>hc 3 4 5 (by omega) (by omega) (by omega) (by omega) (by omega) (by omega) (c34 h1) (c35 h2)⟩
  have v4:=qc7 a04 a14 a24 a34 a45
    ⟨Qi a04 a14 λh1 h2=>hc 4 0 1 (by omega) (by omega) (by omega) (by omega) (by omega) (by omega) (hs _ _ (c04 h1)) (hs _ _ (c14 h2)),
     Qi a04 a24 λh1 h2=>hc 4 0 2 (by omega) (by omega) (by omega) (by omega) (by omega) (by omega) (hs _ _ (c04 h1)) (hs _ _ (c24 h2)),
     Qi a04 a34 λh1 h2=>hc 4 0 3 (by omega) (by omega) (by omega) (by omega) (by omega) (by omega) (hs _ _ (c04 h1)) (hs _ _ (c34 h2)),
     Qi a04 a45 λh1 h2=>hc 4 0 5 (by omega) (by omega) (by omega) (by omega) (by omega) (by omega) (hs _ _ (c04 h1)) (c45 h2),
     Qi a14 a24 λh1 h2=>hc 4 1 2 (by omega) (by omega) (by omega) (by omega) (by omega) (by omega) (hs _ _ (c14 h1)) (hs _ _ (c24 h2)),
     Qi a14 a34 λh1 h2=>hc 4 1 3 (by omega) (by omega) (by omega) (by omega) (by omega) (by omega) (hs _ _ (c14 h1)) (hs _ _ (c34 h2)),
     Qi a14 a45 λh1 h2=>hc 4 1 5 (by omega) (by omega) (by omega) (by omega) (by omega) (by omega) (hs _ _ (c14 h1)) (c45 h2),
     Qi a24 a34 λh1 h2=>hc 4 2 3 (by omega) (by omega) (by omega) (by omega) (by omega) (by omega) (hs _ _ (c24 h1)) (hs _ _ (c34 h2)),
     Qi a24 a45 λh1 h2=>hc 4 2 5 (by omega) (by omega) (by omega) (by omega) (by omega) (by omega) (hs _ _ (c24 h1)) (c45 h2),
     Qi a34 a45 λh1 h2=>hc 4 3 5 (by omega) (by omega) (by omega) (by omega) (by omega) (by omega) (hs _ _ (c34 h1)) (c45 h2)⟩
  have v5:=qc7 a05 a15 a25 a35 a45
    ⟨Qi a05 a15 λh1 h2=>hc 5 0 1 (by omega) (by omega) (by omega) (by omega) (by omega) (by omega) (hs _ _ (c05 h1)) (hs _ _ (c15 h2)),
     Qi a05 a25 λh1 h2=>hc 5 0 2 (by omega) (by omega) (by omega) (by omega) (by omega) (by omega) (hs _ _ (c05 h1)) (hs _ _ (c25 h2)),
     Qi a05 a35 λh1 h2=>hc 5 0 3 (by omega) (by omega) (by omega) (by omega) (by omega) (by omega) (hs _ _ (c05 h1)) (hs _ _ (c35 h2)),
     Qi a05 a45 λh1 h2=>hc 5 0 4 (by omega) (by omega) (by omega) (by omega) (by omega) (by omega) (hs _ _ (c05 h1)) (hs _ _ (c45 h2)),
     Qi a15 a25 λh1 h2=>hc 5 1 2 (by omega) (by omega) (by omega) (by omega) (by omega) (by omega) (hs _ _ (c15 h1)) (hs _ _ (c25 h2)),
     Qi a15 a35 λh1 h2=>hc 5 1 3 (by omega) (by omega) (by omega) (by omega) (by omega) (by omega) (hs _ _ (c15 h1)) (hs _ _ (c35 h2)),
     Qi a15 a45 λh1 h2=>hc 5 1 4 (by omega) (by omega) (by omega) (by omega) (by omega) (by omega) (hs _ _ (c15 h1)) (hs _ _ (c45 h2)),
     Qi a25 a35 λh1 h2=>hc 5 2 3 (by omega) (by omega) (by omega) (by omega) (by omega) (by omega) (hs _ _ (c25 h1)) (hs _ _ (c35 h2)),
     Qi a25 a45 λh1 h2=>hc 5 2 4 (by omega) (by omega) (by omega) (by omega) (by omega) (by omega) (hs _ _ (c25 h1)) (hs _ _ (c45 h2)),
     Qi a35 a45 λh1 h2=>hc 5 3 4 (by omega) (by omega) (by omega) (by omega) (by omega) (by omega) (hs _ _ (c35 h1)) (hs _ _ (c45 h2))⟩
  have m0:1<=e01+e23+e45:=by
    rcases hm 0 1 2 3 4 5 (by omega) with h|h|h
    · have:=b01 h;omega
    · have:=b23 h;omega
    · have:=b45 h;omega
  have m1:1<=e01+e24+e35:=by
    rcases hm 0 1 2 4 3 5 (by omega) with h|h|h
    · have:=b01 h;omega
    · have:=b24 h;omega
    · have:=b35 h;omega
  have m2:1<=e01+e25+e34:=by
    rcases hm 0 1 2 5 3 4 (by omega) with h|h|h
    · have:=b01 h;omega
    · have:=b25 h;omega
    · have:=b34 h;omega
  have m3:1<=e02+e13+e45:=by
    rcases hm 0 2 1 3 4 5 (by omega) with h|h|h
    · have:=b02 h;omega
    · have:=b13 h;omega
    · have:=b45 h;omega
  have m4:1<=e02+e14+e35:=by
    rcases hm 0 2 1 4 3 5 (by omega) with h|h|h
    · have:=b02 h;omega
    · have:=b14 h;omega
    · have:=b35 h;omega
  have m5:1<=e02+e15+e34:=by
    rcases hm 0 2 1 5 3 4 (by omega) with h|h|h
    · have:=b02 h;omega
    · have:=b15 h;omega
    · have:=b34 h;omega
  have m6:1<=e03+e12+e45:=by
    rcases hm 0 3 1 2 4 5 (by omega) with h|h|h
    · have:=b03 h;omega
    · have:=b12 h;omega
    · have:=b45 h;omega
  have m7:1<=e03+e14+e25:=by
    rcases hm 0 3 1 4 2 5 (by omega) with h|h|h
    · have:=b03 h;omega
    · have:=b14 h;omega
    · have:=b25 h;omega
  have m8:1<=e03+e15+e24:=by
    rcases hm 0 3 1 5 2 4 (by omega) with h|h|h
    · have:=b03 h;omega
    · have:=b15 h;omega
    · have:=b24 h;omega
  have m9:1<=e04+e12+e35:=by
    rcases hm 0 4 1 2 3 5 (by omega) with h|h|h
    · have:=b04 h;omega
    · have:=b12 h;omega
    · have:=b35 h;omega
  have m10:1<=e04+e13+e25:=by
    rcases hm 0 4 1 3 2 5 (by omega) with h|h|h
    · have:=b04 h;omega
    · have:=b13 h;omega
    · have:=b25 h;omega
  have m11:1<=e04+e15+e23:=by
    rcases hm 0 4 1 5 2 3 (by omega) with h|h|h
    · have:=b04 h;omega
    · have:=b15 h;omega
    · have:=b23 h;omega
  have m12:1<=e05+e12+e34:=by
    rcases hm 0 5 1 2 3 4 (by omega) with h|h|h
    · have:=b05 h;omega
    · have:=b12 h;omega
    · have:=b34 h;omega
  have m13:1<=e05+e13+e24:=by
    rcases hm 0 5 1 3 2 4 (by omega) with h|h|h
    · have:=b05 h;omega
    · have:=b13 h;omega
    · have:=b24 h;omega
  have m14:1<=e05+e14+e23:=by
    rcases hm 0 5 1 4 2 3 (by omega) with h|h|h
    · have:=b05 h;omega
    · have:=b14 h;omega
    · have:=b23 h;omega
  clear hno hm he hc hs b01 c01 b02 c02 b03 c03 b04 c04 b05 c05 b12 c12 b13 c13 b14 c14 b15 c15 b23 c23 b24 c24 b25 c25 b34 c34 b35 c35 b45 c45;omega
def gdC {n:Nat} (c:Nat) (v P:Nat->Fq n):Fq n:=
  if c=0 then 3*(v 0*(P 0*P 0))+2*(v 1*(P 0*P 1))+2*(v 2*(P 0*P 2))+v 3*(P 1*P 1)+v 4*(P 1*P 2)+v 5*(P 2*P 2)
  else if c=1 then v 1*(P 0*P 0)+2*(v 3*(P 0*P 1))+v 4*(P 0*P 2)+3*(v 6*(P 1*P 1))+2*(v 7*(P 1*P 2))+v 8*(P 2*P 2)
  else v 2*(P 0*P 0)+v 4*(P 0*P 1)+2*(v 5*(P 0*P 2))+v 7*(P 1*P 1)+2*(v 8*(P 1*P 2))+3*(v 9*(P 2*P 2))
theorem qrj {n:Nat} (v P:Nat->Fq n):P 0*gdC 0 v P+P 1*gdC 1 v P+P 2*gdC 2 v P=3*valC v P:=by
  simp only[gdC,valC,if_true,if_false,Nat.one_ne_zero,Nat.reduceEqDiff]
  grind
theorem qmx {n:Nat} (a b d P:Nat->Fq n) (c:Nat) (hc:c < 3):gdC c (cub3 a b d) P=a c*(ev3 b P*ev3 d P)+b c*(ev3 a P*ev3 d P)+d c*(ev3 a P*ev3 b P):=by
  rcases (show c=0\/c=1\/c=2 by omega) with rfl|rfl|rfl<;>
    (simp only[gdC,cub3,qdm,ev3,if_true,if_false,Nat.one_ne_zero,Nat.zero_ne_one,Nat.reduceEqDiff];grind)
theorem qsl {n:Nat} {v:Nat->Fq n} {l:Nat->Fq n} {B:Nat->Nat->Fq n} (h:∀ j,j < 10->v j=lin4 l λi=>B i j) (P:Nat->Fq n) (c:Nat):gdC c v P=lin4 l λi=>gdC c (B i) P:=by
  have h0:=h 0 (by omega);have h1:=h 1 (by omega);have h2:=h 2 (by omega);have h3:=h 3 (by omega);have h4:=h 4 (by omega);have h5:=h 5 (by omega);have h6:=h 6 (by omega);have h7:=h 7 (by omega);have h8:=h 8 (by omega);have h9:=h 9 (by omega);simp only[gdC,lin4]at*;rw[h0,h1,h2,h3,h4,h5,h6,h7,h8,h9]
  split
  · grind
  · split<;>grind
theorem qtk {n:Nat} (hF:FldH n) {P:Nat->Nat->Fq n} (hG:gen3 P) {k a b c d e:Nat} (hk:k < 6/\a < 6/\b < 6/\c < 6/\d < 6/\e < 6) (hd:k≠a/\k≠b/\k≠c/\k≠d/\k≠e/\a≠b/\a≠c/\b≠c/\d≠e) (s:Nat->Fq n) (u1 u2:Fq n)
    (h1:∀ i,i < 3->gdC i (lin6 P k a b c d e) (P k)=s i*u1) (h2:∀ i,i < 3->gdC i (lin6 P k b a c d e) (P k)=s i*u2):False:=by
  obtain⟨k6,a6,b6,c6,d6,e6⟩:=hk;obtain⟨ka,kb,kc,kd,ke,ab,ac,bc,de⟩:=hd;have z:∀ j,ev3 (qu (P k) (P j)) (P k)=0:=λj=>Zt _ _;have g1:∀ i,i < 3->s i*u1=qu (P k) (P a) i*(ev3 (qu (P b) (P c)) (P k)*ev3 (qu (P d) (P e)) (P k)):=λi hi=>by
    rw[<-h1 i hi,lin6,qmx _ _ _ _ i hi,z a];grind
  have g2:∀ i,i < 3->s i*u2=qu (P k) (P b) i*(ev3 (qu (P a) (P c)) (P k)*ev3 (qu (P d) (P e)) (P k)):=λi hi=>by
    rw[<-h2 i hi,lin6,qmx _ _ _ _ i hi,z b];grind
  have n1:=hG b c k b6 c6 k6 bc (Ne.symm kc) (Ne.symm kb);have n2:=hG a c k a6 c6 k6 ac (Ne.symm kc) (Ne.symm ka);have n3:=hG d e k d6 e6 k6 de (Ne.symm ke) (Ne.symm kd);have n4:=hG k a b k6 a6 b6 ka ab kb;generalize ev3 (qu (P b) (P c)) (P k)=q1 at*;generalize ev3 (qu (P a) (P c)) (P k)=q2 at*;generalize ev3 (qu (P d) (P e)) (P k)=q3 at*;have hK:=fnz hF (fnz hF (fnz hF n1 n3) (fnz hF n2 n3)) n4;have e0:=g1 0 (by omega);have e1:=g1 1 (by omega);have e2:=g1 2 (by omega);have f0:=g2 0 (by omega);have f1:=g2 1 (by omega);have f2:=g2 2 (by omega);have hx:qu (P k) (P a) 0*qu (P k) (P b) 1 - qu (P k) (P a) 1*qu (P k) (P b) 0=ev3 (qu (P k) (P a)) (P b)*P k 2/\qu (P k) (P a) 1*qu (P k) (P b) 2 - qu (P k) (P a) 2*qu (P k) (P b) 1=ev3 (qu (P k) (P a)) (P b)*P k 0/\qu (P k) (P a) 2*qu (P k) (P b) 0 - qu (P k) (P a) 0*qu (P k) (P b) 2=ev3 (qu (P k) (P a)) (P b)*P k 1:=by
    simp only[ev3,qu];refine⟨?_,?_,?_⟩<;>grind
  obtain⟨x2,x0,x1⟩:=hx;have hdet:P k 0=0->P k 1=0->P k 2=0->ev3 (qu (P k) (P a)) (P b)=0:=λh0 h1 h2=>by
    simp only[ev3,qu,h0,h1,h2];grind
  generalize ev3 (qu (P k) (P a)) (P b)=D at*;generalize qu (P k) (P a) 0=a0 at*;generalize qu (P k) (P a) 1=a1 at*;generalize qu (P k) (P a) 2=a2 at*;generalize qu (P k) (P b) 0=b0 at*;generalize qu (P k) (P b) 1=b1 at*;generalize qu (P k) (P b) 2=b2 at*;generalize s 0=s0 at*;generalize s 1=s1 at*;generalize s 2=s2 at*;generalize P k 0=p0 at*;generalize P k 1=p1 at*;generalize P k 2=p2 at*;clear h1 h2 z g1 g2 n1 n2 n3 hG;have t2:(q1*q3*(q2*q3)*D)*p2=0:=by grind
  have t0:(q1*q3*(q2*q3)*D)*p0=0:=by grind
  have t1:(q1*q3*(q2*q3)*D)*p1=0:=by grind
  exact n4 (hdet ((fz hF t0).resolve_left hK) ((fz hF t1).resolve_left hK) ((fz hF t2).resolve_left hK))
def mixP {n:Nat} (P Q:Nat->Fq n) (s t:Fq n) (i:Nat):Fq n:=s*P i+t*Q i
theorem qa4 {n:Nat} (a P Q:Nat->Fq n) (s t:Fq n):ev3 a (mixP P Q s t)=s*ev3 a P+t*ev3 a Q:=by simp only[ev3,mixP];grind
theorem qtw {n:Nat} (hF:FldH n) {P:Nat->Nat->Fq n} (hG:gen3 P) {i j a b c d:Nat} (hk:i < 6/\j < 6/\a < 6/\b < 6/\c < 6/\d < 6) (hd:i≠j/\i≠a/\i≠b/\i≠c/\i≠d/\j≠a/\j≠b/\j≠c/\j≠d/\a≠b/\a≠c/\a≠d/\b≠c/\b≠d/\c≠d) {s t s' t':Fq n} (hs:s≠0) (ht:t≠0) (hs':s'≠0) (ht':t'≠0) (hst:s*t' - s'*t≠0):
    valC (lin6 P i a j b c d) (mixP (P i) (P j) s t)*valC (lin6 P i a j c b d) (mixP (P i) (P j) s' t') - valC (lin6 P i a j b c d) (mixP (P i) (P j) s' t')*valC (lin6 P i a j c b d) (mixP (P i) (P j) s t)≠0:=by
  obtain⟨i6,j6,a6,b6,c6,d6⟩:=hk;obtain⟨ij,ia,ib,ic,id,ja,jb,jc,jd,ab,ac,ad,bc,bd,cd⟩:=hd;have n1:=hG i a j i6 a6 j6 ia (Ne.symm ja) ij;have n2:=hG j b i j6 b6 i6 jb (Ne.symm ib) (Ne.symm ij);have n3:=hG j c i j6 c6 i6 jc (Ne.symm ic) (Ne.symm ij);have n4:=hG b c d b6 c6 d6 bc cd bd;have n5:=hG i j d i6 j6 d6 ij jd id;have hx:ev3 (qu (P c) (P d)) (P i)*ev3 (qu (P b) (P d)) (P j) - ev3 (qu (P c) (P d)) (P j)*ev3 (qu (P b) (P d)) (P i)=- (ev3 (qu (P b) (P c)) (P d)*ev3 (qu (P i) (P j)) (P d)):=by
    simp only[ev3,qu];grind
  have hK:=fnz hF (fnz hF (fnz hF (fnz hF (fnz hF hs ht) (fnz hF hs' ht')) (fnz hF (fnz hF n1 n1) (fnz hF n2 n3))) hst) (fnz hF n4 n5);rw[Z5,Z5,Z5,Z5];simp only[qa4];rw[show ev3 (qu (P i) (P a)) (P i)=0 from Zt _ _,show ev3 (qu (P j) (P b)) (P j)=0 from Zt _ _,show ev3 (qu (P j) (P c)) (P j)=0 from Zt _ _];generalize ev3 (qu (P i) (P a)) (P j)=A at*;generalize ev3 (qu (P j) (P b)) (P i)=B at*;generalize ev3 (qu (P j) (P c)) (P i)=C at*;generalize ev3 (qu (P c) (P d)) (P i)=c1 at*;generalize ev3 (qu (P c) (P d)) (P j)=c2 at*;generalize ev3 (qu (P b) (P d)) (P i)=b1 at*;generalize ev3 (qu (P b) (P d)) (P j)=b2 at*;generalize ev3 (qu (P b) (P c)) (P d)*ev3 (qu (P i) (P j)) (P d)=E at*;intro h0
  apply hK
  have:s*t*(s'*t')*(A*A*(B*C))*(s*t' - s'*t)*(c1*b2 - c2*b1)=0:=by grind
  rw[hx]at this
  grind
theorem qos {n:Nat} (hF:FldH n) (h1:(1:Fq n)≠0) (h2:(2:Fq n)≠0) {P:Nat->Nat->Fq n} (hG:gen3 P) {i j a b c d:Nat} (hk:i < 6/\j < 6/\a < 6/\b < 6/\c < 6/\d < 6) (hd:i≠j/\i≠a/\i≠b/\i≠c/\i≠d/\j≠a/\j≠b/\j≠c/\j≠d/\a≠b/\a≠c/\a≠d/\b≠c/\b≠d/\c≠d):
    ∃ x:Nat->Fq n,∃ y:Nat->Fq n,valC (lin6 P i j a b c d) x=0/\valC (lin6 P i j a c b d) x≠0/\valC (lin6 P i j a b c d) y≠0/\valC (lin6 P i j a c b d) y=0:=by
  obtain⟨i6,j6,a6,b6,c6,d6⟩:=hk;obtain⟨ij,ia,ib,ic,id,ja,jb,jc,jd,ab,ac,ad,bc,bd,cd⟩:=hd;have na:=hG i j a i6 j6 a6 ij ja ia;obtain⟨s,s0,hs⟩:=qho (b:=ev3 (qu (P i) (P j)) (P b)) h1 h2 na;obtain⟨t,t0,ht⟩:=qho (b:=ev3 (qu (P i) (P j)) (P c)) h1 h2 na;refine⟨onPt (P a) (P b) s,onPt (P a) (P c) t,?_,?_,?_,?_⟩
  · rw[Z5,qgs (qu (P a) (P b)),show ev3 (qu (P a) (P b)) (P a)=0 from Zt _ _,show ev3 (qu (P a) (P b)) (P b)=0 from J7 _ _];grind
  · rw[Z5,qgs,qgs,qgs,show ev3 (qu (P a) (P c)) (P a)=0 from Zt _ _,show ev3 (qu (P b) (P d)) (P b)=0 from Zt _ _]
    have m1:=hG a c b a6 c6 b6 ac (Ne.symm bc) ab;have m2:=hG b d a b6 d6 a6 bd (Ne.symm ad) (Ne.symm ab)
    have:=fnz hF (fnz hF hs (fnz hF s0 m1)) m2
    intro h
    apply this
    grind
  · rw[Z5,qgs,qgs,qgs,show ev3 (qu (P a) (P b)) (P a)=0 from Zt _ _,show ev3 (qu (P c) (P d)) (P c)=0 from Zt _ _]
    have m1:=hG a b c a6 b6 c6 ab bc ac;have m2:=hG c d a c6 d6 a6 cd (Ne.symm ad) (Ne.symm ac)
    have:=fnz hF (fnz hF ht (fnz hF t0 m1)) m2
    intro h
    apply this
    grind
  · rw[Z5,qgs (qu (P a) (P c)),show ev3 (qu (P a) (P c)) (P a)=0 from Zt _ _,show ev3 (qu (P a) (P c)) (P c)=0 from J7 _ _];grind
def valQ {n:Nat} (q x:Nat->Fq n):Fq n:=q 0*(x 0*x 0)+q 1*(x 0*x 1)+q 2*(x 0*x 2)+q 3*(x 1*x 1)+q 4*(x 1*x 2)+q 5*(x 2*x 2)
def polL {n:Nat} (q y:Nat->Fq n):Nat->Fq n
  | 0=>2*(q 0*y 0)+q 1*y 1+q 2*y 2
  | 1=>q 1*y 0+2*(q 3*y 1)+q 4*y 2
  | _=>q 2*y 0+q 4*y 1+2*(q 5*y 2)
theorem qdz {n:Nat} (q x y:Nat->Fq n) (s t:Fq n):valQ q (mixP x y s t)=s*s*valQ q x+s*t*ev3 (polL q y) x+t*t*valQ q y:=by simp only[valQ,mixP,ev3,polL];grind
theorem qrw {n:Nat} (q y:Nat->Fq n):ev3 (polL q y) y=2*valQ q y:=by simp only[valQ,ev3,polL];grind
def qL {n:Nat} (q l:Nat->Fq n):Nat->Fq n
  | 0=>q 0*l 0
  | 1=>q 0*l 1+q 1*l 0
  | 2=>q 0*l 2+q 2*l 0
  | 3=>q 1*l 1+q 3*l 0
  | 4=>q 1*l 2+q 2*l 1+q 4*l 0
  | 5=>q 2*l 2+q 5*l 0
  | 6=>q 3*l 1
  | 7=>q 3*l 2+q 4*l 1
  | 8=>q 4*l 2+q 5*l 1
  | _=>q 5*l 2
theorem qc9 {n:Nat} (q l x:Nat->Fq n):valC (qL q l) x=valQ q x*ev3 l x:=by simp only[valC,qL,valQ,ev3];grind
theorem qnk {n:Nat} (hF:FldH n) (h1:(1:Fq n)≠0) (h2:(2:Fq n)≠0) {P:Nat->Nat->Fq n} (hG:gen3 P) {m a b:Nat} (hk:m < 6/\a < 6/\b < 6) (hd:m≠a/\m≠b/\a≠b) (q:Nat->Fq n) (qa:valQ q (P a)=0) (qb:valQ q (P b)=0) (qm:valQ q (P m)≠0):
    ∃ x:Nat->Fq n,∃ y:Nat->Fq n,valC (qL q (qu (P m) (P a))) x=0/\valC (qL q (qu (P m) (P b))) x≠0/\valC (qL q (qu (P m) (P a))) y≠0/\valC (qL q (qu (P m) (P b))) y=0:=by
  obtain⟨m6,a6,b6⟩:=hk;obtain⟨ma,mb,ab⟩:=hd;obtain⟨s,s0,hs⟩:=qho (b:=ev3 (polL q (P a)) (P m)) h1 h2 qm;obtain⟨t,t0,ht⟩:=qho (b:=ev3 (polL q (P b)) (P m)) h1 h2 qm;have n1:=hG m b a m6 b6 a6 mb (Ne.symm ab) ma;have n2:=hG m a b m6 a6 b6 ma ab mb;refine⟨mixP (P m) (P a) 1 s,mixP (P m) (P b) 1 t,?_,?_,?_,?_⟩
  · rw[qc9,qa4,show ev3 (qu (P m) (P a)) (P m)=0 from Zt _ _,show ev3 (qu (P m) (P a)) (P a)=0 from J7 _ _];grind
  · rw[qc9,qa4,qdz,qa,show ev3 (qu (P m) (P b)) (P m)=0 from Zt _ _]
    have:=fnz hF hs (fnz hF s0 n1)
    intro h
    apply this
    grind
  · rw[qc9,qa4,qdz,qb,show ev3 (qu (P m) (P a)) (P m)=0 from Zt _ _]
    have:=fnz hF ht (fnz hF t0 n2)
    intro h
    apply this
    grind
  · rw[qc9,qa4,show ev3 (qu (P m) (P b)) (P m)=0 from Zt _ _,show ev3 (qu (P m) (P b)) (P b)=0 from J7 _ _];grind
def secP {n:Nat} (q:Nat->Fq n) (P:Nat->Nat->Fq n) (m a:Nat):Nat->Fq n:=mixP (P a) (P m) (valQ q (P m)) (- ev3 (polL q (P m)) (P a))
theorem qt9 {n:Nat} (q:Nat->Fq n) (P:Nat->Nat->Fq n) (m a:Nat) (qa:valQ q (P a)=0):valQ q (secP q P m a)=0:=by
  rw[secP,qdz,qa];grind
theorem qq1 {n:Nat} (a b c:Nat->Fq n) (h0:qu a b 0=0) (h1:qu a b 1=0) (h2:qu a b 2=0) (i:Nat) (hi:i < 3):ev3 c a*b i=ev3 c b*a i:=by
  simp only[qu,ev3]at*
  rcases (show i=0\/i=1\/i=2 by omega) with rfl|rfl|rfl<;>grind
theorem qpe {n:Nat} (hF:FldH n) {P:Nat->Nat->Fq n} (hG:gen3 P) {m u v a b c:Nat} (hk:m < 6/\u < 6/\v < 6/\a < 6/\b < 6/\c < 6) (hd:m≠u/\m≠v/\m≠a/\m≠b/\m≠c/\u≠v/\u≠a/\u≠b/\u≠c/\v≠a/\v≠b/\v≠c/\a≠b/\a≠c/\b≠c) (hall:∀ z,z < 6->z=m\/z=u\/z=v\/z=a\/z=b\/z=c) (q:Nat->Fq n) (qm:valQ q (P m)≠0) (pv:ev3 (polL q (P m)) (P v)≠0):
    ∃ f:Nat->Fq n,(∀ z,z < 6->valC f (P z)=0)/\valC f (secP q P m u)=0/\valC f (secP q P m v)≠0:=by
  obtain⟨m6,u6,v6,a6,b6,c6⟩:=hk;obtain⟨mu,mv,ma,mb,mc,uv,ua,ub,uc,va,vb,vc,ab,ac,bc⟩:=hd;have z0:∀ x y:Nat,valC (lin6 P u m v x y c) (secP q P m u)=0:=λx y=>by
    rw[Z5,secP,qa4 (qu (P u) (P m)),show ev3 (qu (P u) (P m)) (P u)=0 from Zt _ _,show ev3 (qu (P u) (P m)) (P m)=0 from J7 _ _];grind
  have d1:ev3 (qu (P u) (P m)) (secP q P m v)≠0:=by
    rw[secP,qa4,show ev3 (qu (P u) (P m)) (P m)=0 from J7 _ _]
    have:=fnz hF qm (hG u m v u6 m6 v6 (Ne.symm mu) mv uv)
    intro h;apply this;grind
  have d2:∀ x,x < 6->x≠v->x≠m->ev3 (qu (P v) (P x)) (secP q P m v)≠0:=λx x6 xv xm=>by
    rw[secP,qa4,show ev3 (qu (P v) (P x)) (P v)=0 from Zt _ _]
    have:=fnz hF pv (hG v x m v6 x6 m6 (Ne.symm xv) xm (Ne.symm mv))
    intro h;apply this;grind
  have d3:ev3 (qu (P b) (P c)) (secP q P m v)≠0\/ev3 (qu (P a) (P c)) (secP q P m v)≠0:=by
    refine Classical.byContradiction λhn=>?_;have e1:ev3 (qu (P b) (P c)) (secP q P m v)=0:=Classical.byContradiction λh=>hn (.inl h);have e2:ev3 (qu (P a) (P c)) (secP q P m v)=0:=Classical.byContradiction λh=>hn (.inr h);have e3:ev3 (qu (P c) (P b)) (secP q P m v)=0:=by
      have:ev3 (qu (P c) (P b)) (secP q P m v)=- ev3 (qu (P b) (P c)) (secP q P m v):=by simp only[ev3,qu];grind
      rw[this,e1];grind
    have e4:ev3 (qu (P c) (P a)) (secP q P m v)=0:=by
      have:ev3 (qu (P c) (P a)) (secP q P m v)=- ev3 (qu (P a) (P c)) (secP q P m v):=by simp only[ev3,qu];grind
      rw[this,e2];grind
    have hD:=hG c b a c6 b6 a6 (Ne.symm bc) (Ne.symm ab) (Ne.symm ac);obtain⟨t0,t1,t2⟩:=qjc (P c) (P b) (P a) (secP q P m v) e3 e4;have k0:=(fz hF t0).resolve_left hD;have k1:=(fz hF t1).resolve_left hD;have k2:=(fz hF t2).resolve_left hD;have hz:ev3 (qu (P v) (P m)) (secP q P m v)=0:=by
      rw[secP,qa4,show ev3 (qu (P v) (P m)) (P v)=0 from Zt _ _,show ev3 (qu (P v) (P m)) (P m)=0 from J7 _ _];grind
    have hne:=hG v m c v6 m6 c6 (Ne.symm mv) mc vc;have hc:∀ i,i < 3->secP q P m v i=0:=λi hi=>by
      have:=qq1 (P c) (secP q P m v) (qu (P v) (P m)) k0 k1 k2 i hi
      rw[hz]at this;exact(fz hF (this.trans (by grind))).resolve_left hne
    apply d1
    simp only[ev3];rw[hc 0 (by omega),hc 1 (by omega),hc 2 (by omega)]
    grind
  rcases d3 with h|h
  · refine⟨lin6 P u m v a b c,qc0 P u m v a b c (λz hz=>by have:=hall z hz;omega),z0 a b,?_⟩
    rw[Z5];exact fnz hF (fnz hF d1 (d2 a a6 (Ne.symm va) (Ne.symm ma))) h
  · refine⟨lin6 P u m v b a c,qc0 P u m v b a c (λz hz=>by have:=hall z hz;omega),z0 b a,?_⟩
    rw[Z5];exact fnz hF (fnz hF d1 (d2 b b6 (Ne.symm vb) (Ne.symm mb))) h
theorem qsd {n:Nat} (hF:FldH n) {P:Nat->Nat->Fq n} (hG:gen3 P) {a b c:Nat} (hk:a < 6/\b < 6/\c < 6) (hd:a≠b/\b≠c/\a≠c) (l y:Nat->Fq n) (hl:ev3 l y≠0) (ha:ev3 l (P a)=0) (hb:ev3 l (P b)=0) (hc:ev3 l (P c)=0):False:=by
  have hD:=hG a b c hk.1 hk.2.1 hk.2.2 hd.1 hd.2.1 hd.2.2;have e:∀ i,i < 3->ev3 (qu (P a) (P b)) (P c)*l i=0:=λi hi=>by
    simp only[ev3,qu]at*
    rcases (show i=0\/i=1\/i=2 by omega) with rfl|rfl|rfl<;>grind
  apply hl
  simp only[ev3];rw[(fz hF (e 0 (by omega))).resolve_left hD,(fz hF (e 1 (by omega))).resolve_left hD,(fz hF (e 2 (by omega))).resolve_left hD]
  grind
end Go.Proofs.YtmgbpmihbljngaaGreat.PA
