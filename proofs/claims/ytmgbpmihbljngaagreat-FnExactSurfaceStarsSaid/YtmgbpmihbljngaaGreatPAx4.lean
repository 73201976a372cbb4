-- by xprint.py and mergepa.py
import Derived.Test.YtmgbpmihbljngaaGreatProg
import Derived.Lib.Hide
import Derived.Shelf.Abstract
import Derived.Test.YtmgbpmihbljngaaGreatWGuard
import Derived.Deep.WholeRow
namespace Go.Proofs.YtmgbpmihbljngaaGreat.PA
open Value (int)
open IntKind (i64)
open RowKit YtmgbpmihbljngaaGreatW.PrintWords YtmgbpmihbljngaaGreatW.PrintLast YtmgbpmihbljngaaGreatW.PrintMore
attribute [local go_sem] Q3 Q0 Zk Zj Qo Qp Q5 Q4
set_option linter.unusedVariables false
set_option linter.unusedSimpArgs false
def errW :Option Int->Value
  | none=>.nilIface
  | some c=>.iface 0 (int i64 c)
theorem qj5 :errW none=.nilIface:=rfl
theorem qjq (c:Int):errW (some c)=.iface 0 (int i64 c):=rfl
theorem Ju :(Tryz.prog.info? 3).map (λi=>(i.zero,i.size,i.bytes))=some (some (int i64 0),1,8):=by kernel_rfl
theorem Ja :(Tryz.prog.info? 37).map (λi=>(i.zero,i.size,i.bytes))=some (some (.slice none 0 0),1,24):=by kernel_rfl
theorem info49 :(Tryz.prog.info? 49).map (λi=>(i.zero,i.size,i.bytes))=some (some (.agg #[(int i64 0),(int i64 0),(int i64 0)]),3,24):=by kernel_rfl
theorem qb2 :(Tryz.prog.info? 51).map (λi=>(i.zero,i.size,i.bytes))=some (some (.agg #[(int i64 0),(int i64 0),(int i64 0)]),3,24):=by kernel_rfl
structure S49 where
  f0:Int
  f1:Int
  f2:Int
def z49 :S49:=⟨(0:Int),(0:Int),(0:Int)⟩
def k49 :Kd S49:=Kd.iso (Kd.pair (Kd.int i64) (Kd.pair (Kd.int i64) (Kd.int i64))) (λx:S49=>(x.f0,x.f1,x.f2))
theorem qhr {w:World} {x:S49} {cs:List Value} (h:k49.K w x cs):cs=[int i64 x.f0,int i64 x.f1,int i64 x.f2]:=by
  obtain⟨_,_,rfl,rfl,⟨_,_,rfl,rfl,rfl⟩⟩:=h;exact rfl
theorem qrn {w:World} {base:Nat} {ok:Nat->Prop} {x:S49} {cs:List Value} (h:k49.M w base ok x cs):cs=[int i64 x.f0,int i64 x.f1,int i64 x.f2]:=by
  obtain⟨_,_,rfl,rfl,⟨_,_,rfl,rfl,rfl⟩⟩:=h;exact rfl
theorem qsn (w:World) (x:S49):k49.K w x [int i64 x.f0,int i64 x.f1,int i64 x.f2]:=⟨[int i64 x.f0],[int i64 x.f1,int i64 x.f2],rfl,rfl,⟨[int i64 x.f1],[int i64 x.f2],rfl,rfl,rfl⟩⟩
theorem qa1 (w:World) (base:Nat) (ok:Nat->Prop) (x:S49):k49.M w base ok x [int i64 x.f0,int i64 x.f1,int i64 x.f2]:=⟨[int i64 x.f0],[int i64 x.f1,int i64 x.f2],rfl,rfl,⟨[int i64 x.f1],[int i64 x.f2],rfl,rfl,rfl⟩⟩
def zp (xs:List S49) (i:Int):S49:=xs.getD i.toNat z49
theorem qlo {w:World} {A:Option Addr} {n:Nat} {xs:List S49} (h:Kd.C k49 w A n xs) (i:Int) (h0:0<=i) (h1:i < n):∃ ad ,A=some ad/\w.cell? (ad.add (i.toNat*3))=some (int i64 (zp xs i).f0)/\w.cell? ⟨(ad.add (i.toNat*3)).block,(ad.add (i.toNat*3)).off+1,none⟩=some (int i64 (zp xs i).f1)/\w.cell? ⟨(ad.add (i.toNat*3)).block,(ad.add (i.toNat*3)).off+2,none⟩=some (int i64 (zp xs i).f2):=by
  obtain⟨ad,c,e,_,hK,hc0⟩:=Kd.BX h z49 i h0 h1;have hc:∀ j u,c[j]? =some u->w.cell? (ad.add (i.toNat*3+j))=some u:=hc0;obtain rfl:=qhr hK;exact⟨ad,e,hc 0 _ rfl,by rw[<-qb9 _ _ 1 (by omega)];exact hc 1 _ rfl,by rw[<-qb9 _ _ 2 (by omega)];exact hc 2 _ rfl⟩
structure S53 where
  f0:S49
def z53 :S53:=⟨z49⟩
def k53 :Kd S53:=Kd.iso k49 (λx:S53=>x.f0)
theorem qud {w:World} {x:S53} {cs:List Value} (h:k53.K w x cs):cs=[int i64 x.f0.f0,int i64 x.f0.f1,int i64 x.f0.f2]:=by
  have s0:=h;obtain rfl:=qhr s0;exact rfl
theorem k53_mk (w:World) (x:S53):k53.K w x [int i64 x.f0.f0,int i64 x.f0.f1,int i64 x.f0.f2]:=(qsn w x.f0 )
def J9 (xs:List S53) (i:Int):S53:=xs.getD i.toNat z53
theorem DC {w:World} {A:Option Addr} {n:Nat} {xs:List S53} (h:Kd.C k53 w A n xs) (i:Int) (h0:0<=i) (h1:i < n):∃ ad ,A=some ad/\w.cell? (ad.add (i.toNat*3))=some (int i64 (J9 xs i).f0.f0)/\w.cell? ⟨(ad.add (i.toNat*3)).block,(ad.add (i.toNat*3)).off+1,none⟩=some (int i64 (J9 xs i).f0.f1)/\w.cell? ⟨(ad.add (i.toNat*3)).block,(ad.add (i.toNat*3)).off+2,none⟩=some (int i64 (J9 xs i).f0.f2):=by
  obtain⟨ad,c,e,_,hK,hc0⟩:=Kd.BX h z53 i h0 h1;have hc:∀ j u,c[j]? =some u->w.cell? (ad.add (i.toNat*3+j))=some u:=hc0;obtain rfl:=qud hK;exact⟨ad,e,hc 0 _ rfl,by rw[<-qb9 _ _ 1 (by omega)];exact hc 1 _ rfl,by rw[<-qb9 _ _ 2 (by omega)];exact hc 2 _ rfl⟩
structure S51 where
  f0:S49
def z51 :S51:=⟨z49⟩
def k51 :Kd S51:=Kd.iso k49 (λx:S51=>x.f0)
theorem qtl {w:World} {x:S51} {cs:List Value} (h:k51.K w x cs):cs=[int i64 x.f0.f0,int i64 x.f0.f1,int i64 x.f0.f2]:=by
  have s0:=h;obtain rfl:=qhr s0;exact rfl
theorem qf0 {w:World} {base:Nat} {ok:Nat->Prop} {x:S51} {cs:List Value} (h:k51.M w base ok x cs):cs=[int i64 x.f0.f0,int i64 x.f0.f1,int i64 x.f0.f2]:=by
  have s0:=h;obtain rfl:=qrn s0;exact rfl
theorem k51_mk (w:World) (x:S51):k51.K w x [int i64 x.f0.f0,int i64 x.f0.f1,int i64 x.f0.f2]:=(qsn w x.f0 )
theorem qap (w:World) (base:Nat) (ok:Nat->Prop) (x:S51):k51.M w base ok x [int i64 x.f0.f0,int i64 x.f0.f1,int i64 x.f0.f2]:=(qa1 w base ok x.f0 )
def qg (xs:List S51) (i:Int):S51:=xs.getD i.toNat z51
theorem Zn {w:World} {A:Option Addr} {n:Nat} {xs:List S51} (h:Kd.C k51 w A n xs) (i:Int) (h0:0<=i) (h1:i < n):∃ ad ,A=some ad/\w.cell? (ad.add (i.toNat*3))=some (int i64 (qg xs i).f0.f0)/\w.cell? ⟨(ad.add (i.toNat*3)).block,(ad.add (i.toNat*3)).off+1,none⟩=some (int i64 (qg xs i).f0.f1)/\w.cell? ⟨(ad.add (i.toNat*3)).block,(ad.add (i.toNat*3)).off+2,none⟩=some (int i64 (qg xs i).f0.f2):=by
  obtain⟨ad,c,e,_,hK,hc0⟩:=Kd.BX h z51 i h0 h1;have hc:∀ j u,c[j]? =some u->w.cell? (ad.add (i.toNat*3+j))=some u:=hc0;obtain rfl:=qtl hK;exact⟨ad,e,hc 0 _ rfl,by rw[<-qb9 _ _ 1 (by omega)];exact hc 1 _ rfl,by rw[<-qb9 _ _ 2 (by omega)];exact hc 2 _ rfl⟩
def zt (xs:List (List Int)) (i:Int):(List Int):=xs.getD i.toNat ([]:List Int)
theorem qat {w:World} {A:Option Addr} {n:Nat} {xs:List (List Int)} (h:Kd.C (Kd.slice 3 (Kd.int i64)) w A n xs) (i:Int) (h0:0<=i) (h1:i < n):∃ ad A0 c0,A=some ad/\w.cell? (ad.add i.toNat)=some (.slice A0 (zt xs i).length c0)/\(zt xs i).length<=c0/\(Kd.int i64).C w A0 (zt xs i).length (zt xs i):=by
  obtain⟨ad,c,e,_,hK,hc0⟩:=Kd.BX h ([]:List Int) i h0 h1;have hc:∀ j u,c[j]? =some u->w.cell? (ad.add (i.toNat*1+j))=some u:=hc0;obtain⟨A0,c0,rfl,l0,g0⟩:=hK;exact⟨ad,A0,c0,e,by have hq:=hc 0 _ rfl;rwa [Nat.mul_one,Nat.add_zero]at hq,l0,g0⟩
class J6 (W W':World):Prop where
  st:∀ {w:World},Below w.heap.size w W->Below w.heap.size w W'
instance (W :World):J6 W W:=⟨λh=>h⟩
instance (W W':World) (o:Obj) [s:J6 W W']:J6 W (W'.alloc o):=⟨λh=>Qm (s.st h) o⟩
instance (W W':World) [s:J6 W W']:J6 W W'.drew:=⟨λh=>Qn (s.st h)⟩
instance (W W':World) (m:Nat) [s:J6 W W']:J6 W (W'.drewN m):=⟨λh=>Qs (s.st h) m⟩
theorem bb {w W W':World} (h:Below w.heap.size w W) [s:J6 W W']:Below w.heap.size w W':=s.st h
theorem gs {W W':World} [s:J6 W W']:Below W.heap.size W W':=s.st (Below.refl _ _)
instance (W W':World) (b o:Nat) (v:Value) [s:J6 W (W'.setCells b o [v])]:J6 W (W'.setCell ⟨b,o,none⟩ v):=⟨λh=>s.st h⟩
theorem am {p:Prop} (h:p):qf p:=⟨h⟩
theorem bs {α β:Type} {x:Option α} {f:α->Option β} {r:β} (h:x.bind f=some r):∃ a,qf (x=some a)/\f a=some r:=by
  obtain⟨a,h1,h2⟩:=Option.bind_eq_some_iff.mp h;exact⟨a,⟨h1⟩,h2⟩
theorem bsy {α β:Type} {t:α} {f:α->Option β} {r:β} (h:(some t).bind f=some r):∃ y,qf (y=t)/\f y=some r:=⟨t,⟨rfl⟩,h⟩
theorem ifn {α:Type} {c:Prop} [Decidable c] {a:Option α} {r:α} (h:(if c then a else none)=some r):c/\a=some r:=by
  by_cases k:c
  · rw[if_pos k]at h;exact⟨k,h⟩
  · rw[if_neg k]at h;cases h
theorem Eb {α:Type} (a:Option α):LeO a a:=LeO.refl a
theorem Ec {α:Type} (b:Option α):LeO none b:=LeO.none b
theorem Ed {α:Type} {c:Prop} [Decidable c] {a a' b b':Option α} (h:LeO a a') (k:LeO b b'):LeO (if c then a else b) (if c then a' else b'):=LeO.ite h k
theorem Ee {α β:Type} {a a':Option α} {f f':α->Option β} (h:LeO a a') (k:∀ x,LeO (f x) (f' x)):LeO (a.bind f) (a'.bind f'):=LeO.bind h k
theorem Ef {α:Type} {c:Prop} [Decidable c] {a:Option α} {r:α} (h:(if c then a else none)=some r):decide c=true/\a=some r:=⟨decide_eq_true (ifn h).1,(ifn h).2⟩
theorem Eg {α:Type} {c:Prop} [Decidable c] {a b:Option α} {r:α} (h:(if c then a else b)=some r):(decide c=true/\a=some r)\/(decide c=false/\b=some r):=by
 by_cases hc:c
 ·rw[if_pos hc]at h;exact .inl ⟨decide_eq_true hc,h⟩
 ·rw[if_neg hc]at h;exact .inr ⟨decide_eq_false hc,h⟩
theorem ifm {α:Type} {c:Prop} [Decidable c] {a:Option α} {r:α} (h:(if c then none else a)=some r):¬ c/\a=some r:=by
  by_cases k:c
  · rw[if_pos k]at h;cases h
  · rw[if_neg k]at h;exact⟨k,h⟩
theorem od {p:Prop} [Decidable p] (h:decide p=true:=by first|(with_reducible assumption)|assumption):p:=of_decide_eq_true h
theorem fr {p:Prop} (h:p:=by first|rfl|(simp;done)|(simp[*];done)):p:=h
theorem fq {p:Prop} (h:p:=by first|rfl|(simp[qj5,qjq]<;>rfl)|(simp[*,qj5,qjq]<;>rfl)):p:=h
theorem df {w w':World} (h:Drawn0 w w':=by repeat (first|exact Drawn0.refl _|apply Drawn0.step)):Drawn0 w w':=h
theorem bw {w W W':World} (h:qf (Below w.heap.size w W)) [J6 W W']:Below w.heap.size w W':=bb h.out
theorem bz {w W W':World} (h:qf (Below w.heap.size w W)) [J6 W W']:w.heap.size<=W'.heap.size:=zw (bb h.out)
theorem Ek {w W W':World} {g:Nat} (h:qf (Below w.heap.size w W)) [J6 W W'] (hg:g=W'.heap.size):qf (w.heap.size<=g):=⟨by rw[hg];exact bz h⟩
theorem bq {w W W' w2:World} (h:qf (Below w.heap.size w W)) [J6 W W'] (k:Below W'.heap.size W' w2):qf (Below w.heap.size w w2):=⟨ze (bb h.out) k⟩
theorem wcl {w W:World} (h:qf (Below w.heap.size w W)) {a:Addr} {v:Value} (k:w.cell? a=some v):W.cell? a=some v:=(h.out.cell (World.block_lt_of_cell? w _ k)).trans k
section
variable {α :Type} {d:Kd α} {e base:Nat} {ok:Nat->Prop} {w W W' w2:World} {u v:Value} {xs:List α} {A:Option Addr} {n:Nat}
theorem wR (h:qf (Kd.R d e W base ok v xs)) [J6 W W']:Kd.R d e W' base ok v xs:=Kd.Af h.out gs
theorem wV (h:qf (Kd.V d e W base ok v xs)) [J6 W W']:Kd.V d e W' base ok v xs:=Kd.AC h.out gs
theorem wN (h:qf (Kd.N d e W base ok v xs)) [J6 W W']:Kd.N d e W' base ok v xs:=Kd.AK h.out gs
theorem wS (h:qf (Kd.S d e W base ok v xs)) [J6 W W']:Kd.S d e W' base ok v xs:=Kd.Ap h.out gs
theorem wC (h:qf (Kd.C d W A n xs)) [J6 W W']:Kd.C d W' A n xs:=Kd.Ad h.out gs
theorem eR (h:qf (Kd.R d e W base ok u xs)) [J6 W W'] (k:∀ k,v.ownBlock=some k->W'.heap.size<=k) (hb:Below W'.heap.size W' w2):qf (Kd.R d e w2 base (λk=>ok k/\some k≠v.ownBlock) u xs):=⟨Kd.Cw (wR h) k hb⟩
theorem eV (h:qf (Kd.V d e W base ok u xs)) [J6 W W'] (k:∀ k,v.ownBlock=some k->W'.heap.size<=k) (hb:Below W'.heap.size W' w2):qf (Kd.V d e w2 base (λk=>ok k/\some k≠v.ownBlock) u xs):=⟨Kd.CM (wV h) k hb⟩
theorem eN (h:qf (Kd.N d e W base ok u xs)) [J6 W W'] (k:∀ k,v.ownBlock=some k->W'.heap.size<=k) (hb:Below W'.heap.size W' w2):qf (Kd.N d e w2 base (λk=>ok k/\some k≠v.ownBlock) u xs):=⟨Kd.CJ (wN h) k hb⟩
theorem eS (h:qf (Kd.S d e W base ok u xs)) [J6 W W'] (k:∀ k,v.ownBlock=some k->W'.heap.size<=k) (hb:Below W'.heap.size W' w2):qf (Kd.S d e w2 base (λk=>ok k/\some k≠v.ownBlock) u xs):=⟨Kd.Bz (wS h) k hb⟩
theorem mR (h:Kd.R d e w2 W.heap.size ok v xs) (hB:qf (Below w.heap.size w W')) [J6 W' W]:Kd.R d e w2 w.heap.size (λk=>w.heap.size<=k/\ok k) v xs:=Kd.Ai (Kd.BD (M:=λk=>w.heap.size<=k) h (bz hB) λ_ h=>h) (bz hB)
end
section
variable {P :Program} {md:Region.Mode} {ops:Array Oper} {Q:Exit->Act->World->Prop} {S:World->Prop} {ds:List Nat} {T:Bool×List (List Nat×List Nat)} {B:List Nat} {fuel:Nat} {l:Array Bool} {a a':Act} {w:World} {oi:Oper} {v:Value}
theorem pz (i:Nat) (N:Tmp) (HT:qf (rtab md ops=T)) (h:ji P md ops Q S ds fuel (l.setIfInBounds i true) a' w) (hi:ops[i]? =some oi:=by rfl) (hN:oi.dst=some N:=by rfl)
    (hc:anyT T l.toList (l.setIfInBounds i true).toList i=true:=by kernel_rfl) (hQ:∀ c a w,Q (.panic c) (a.put oi.dst v) w->Q (.panic c) a w:=by exact λ_ _ _ h=>h)
    (hw:Region.wanted oi (yielded ops a.tmps)=true:=by rfl) (hy:∀ w,(execOp a.eval oi).run P w=.ok (.value v) w:=by (intro w';go_simp;with_reducible rfl))
    (ha:a.put (some N) v=a':=by (simp only[Act.put,List.setIfInBounds_toArray,List.set_cons_zero,List.set_cons_succ,qa6,qb3];rfl)):ji P md ops Q S ds (fuel+1) l a w:=qhn (l.setIfInBounds i true) hi hN (qs9 HT.out hc) hQ (Or.inl ⟨hw,hy⟩) ha h
theorem Et {oj:Oper} {v2:Value} {a2:Act} (i:Nat) (N:Tmp) (j:Nat) (M:Tmp) (HT:qf (rtab md ops=T)) (h:ji P md ops Q S ds fuel ((l.setIfInBounds i true).setIfInBounds j true) a2 w) (hi:ops[i]? =some oi:=by rfl) (hN:oi.dst=some N:=by rfl)
    (hc:anyT T l.toList (l.setIfInBounds i true).toList i=true:=by kernel_rfl) (hQ:∀ c a w,Q (.panic c) (a.put oi.dst v) w->Q (.panic c) a w:=by exact λ_ _ _ h=>h)
    (hw:Region.wanted oi (yielded ops a.tmps)=true:=by rfl) (hy:∀ w,(execOp a.eval oi).run P w=.ok (.value v) w:=by (intro w';go_simp;with_reducible rfl))
    (ha:a.put (some N) v=a':=by (simp only[Act.put,List.setIfInBounds_toArray,List.set_cons_zero,List.set_cons_succ,qa6,qb3];rfl)) (hi2:ops[j]? =some oj:=by rfl) (hN2:oj.dst=some M:=by rfl)
    (hc2:anyT T (l.setIfInBounds i true).toList ((l.setIfInBounds i true).setIfInBounds j true).toList j=true:=by kernel_rfl) (hQ2:∀ c a' w,Q (.panic c) (a'.put oj.dst v2) w->Q (.panic c) a' w:=by exact λ_ _ _ h=>h)
    (hw2:Region.wanted oj (yielded ops a'.tmps)=true:=by rfl) (hy2:∀ w,(execOp a'.eval oj).run P w=.ok (.value v2) w:=by (intro w';go_simp;with_reducible rfl))
    (ha2:a'.put (some M) v2=a2:=by (simp only[Act.put,List.setIfInBounds_toArray,List.set_cons_zero,List.set_cons_succ,qa6,qb3];rfl)):ji P md ops Q S ds (fuel+1+1) l a w:=pz i N HT (pz j M HT h hi2 hN2 hc2 hQ2 hw2 hy2 ha2) hi hN hc hQ hw hy ha
theorem po (i:Nat) (N:Tmp) (HT:qf (rtab md ops=T)) (h:ji P md ops Q S ds fuel (l.setIfInBounds i true) a' w) (hi:ops[i]? =some oi:=by rfl) (hN:oi.dst=some N:=by rfl)
    (hc:anyT T l.toList (l.setIfInBounds i true).toList i=true:=by kernel_rfl) (hQ:∀ c a w,Q (.panic c) (a.put oi.dst undef) w->Q (.panic c) a w:=by exact λ_ _ _ h=>h)
    (hw:Region.wanted oi (yielded ops a.tmps)=false:=by rfl)
    (ha:a.put (some N) undef=a':=by (simp only[Act.put,List.setIfInBounds_toArray,List.set_cons_zero,List.set_cons_succ,qa6,qb3];rfl)):ji P md ops Q S ds (fuel+1) l a w:=qhn (l.setIfInBounds i true) hi hN (qs9 HT.out hc) hQ (Or.inr ⟨hw,rfl⟩) ha h
theorem tk (i:Nat) (N:Tmp) (HT:qf (rtab md ops=T)) (HW:qf (Ql T.2 B=true)) (hS:S w) (h:ji P md ops Q S ds fuel (l.setIfInBounds i true) a' w) (hi:ops[i]? =some oi:=by rfl) (hN:oi.dst=some N:=by rfl)
    (hc:qss T B ds l.toList (l.setIfInBounds i true).toList i=true:=by kernel_rfl) (hQ:∀ c a w,Q (.panic c) (a.put oi.dst v) w->Q (.panic c) a w:=by exact λ_ _ _ h=>h)
    (hw:Region.wanted oi (yielded ops a.tmps)=true:=by rfl) (hy:∀ w,S w->(execOp a.eval oi).run P w=.ok (.value v) w:=by (first|(rintro w' ⟨s0,s1,s2,s3,s4,s5⟩;go_simp;with_reducible rfl)|(rintro w' ⟨s0,s1,s2,s3,s4⟩;go_simp;with_reducible rfl)|(rintro w' ⟨s0,s1,s2,s3⟩;go_simp;with_reducible rfl)|(rintro w' ⟨s0,s1,s2⟩;go_simp;with_reducible rfl)|(rintro w' ⟨s0,s1⟩;go_simp;with_reducible rfl)|(rintro w' s0;go_simp;with_reducible rfl)))
    (ha:a.put (some N) v=a':=by (simp only[Act.put,List.setIfInBounds_toArray,List.set_cons_zero,List.set_cons_succ,qa6,qb3];rfl)):ji P md ops Q S ds (fuel+1) l a w:=take_ (l.setIfInBounds i true) hi hN (qtb HT.out HW.out hc) hQ (Or.inl ⟨hw,hy⟩) hS ha h
theorem on (i:Nat) (N:Option Tmp) (HT:qf (rtab md ops=T)) (h:∀ K:Act->World->Prop,Shut (∀ a' w',S w'->(S w'->ji P md ops Q S ds fuel (l.setIfInBounds i true) a' w')->K a' w')->if Region.wanted oi (yielded ops a.tmps)=true then Oper.wp P oi a w K Q else K (a.put N undef) w)
    (hi:ops[i]? =some oi:=by rfl) (hN:oi.dst=N:=by rfl) (hc:(qdq T.2 l.toList == [i] && l.toList.set i true == (l.setIfInBounds i true).toList)=true:=by kernel_rfl) (hd:i ∉ ds:=by decide):ji P md ops Q S ds (fuel+1) l a w:=one_ (l.setIfInBounds i true) hi hN (qui HT.out hc) hd h
theorem la (i:Nat) (N:Option Tmp) (HT:qf (rtab md ops=T)) (h:∀ K:Act->World->Prop,Shut (∀ a' w',ji P md ops Q S ds fuel (l.setIfInBounds i true) a' w'->K a' w')->if Region.wanted oi (yielded ops a.tmps)=true then Oper.wp P oi a w K Q else K (a.put N undef) w)
    (hi:ops[i]? =some oi:=by rfl) (hN:oi.dst=N:=by rfl) (hc:(qdq T.2 l.toList == [i] && l.toList.set i true == (l.setIfInBounds i true).toList)=true:=by kernel_rfl) (hd:i∈ds:=by decide):ji P md ops Q S ds (fuel+1) l a w:=last_ (l.setIfInBounds i true) hi hN (qui HT.out hc) hd h
theorem nz (h:ji P md ops Q S ds fuel l a' w) (ha:a=a':=by (first|(show Act.put _ _ _=_;simp only[Act.put,List.setIfInBounds_toArray,List.set_cons_zero,List.set_cons_succ,qa6,qb3];rfl)|(simp only[Act.put,List.setIfInBounds_toArray,List.set_cons_zero,List.set_cons_succ,qa6,qb3];rfl))):ji P md ops Q S ds fuel l a w:=qhi ha h
theorem st (n:Nat) (S:World->Prop) (ds:List Nat) {id:Nat} {T:Bool×List (List Nat×List Nat)} {B:List Nat} (hT:rtab .any ops=T) (hB:Ql T.2 B=true) (hS:S w.drew) (h:S w.drew->qf (rtab .any ops=T)->qf (Ql T.2 B=true)->ji P .any ops Q S ds n (Array.replicate n false) a w.drew)
    (hm:P.follows .mixedOrders=true:=by kernel_rfl) (hn:ops.size=n:=by rfl):(Code.region id ops true).wp P Q a w:=qse (Array.replicate n false) hm hn rfl hS λhh=>qqy hT hB λx y=>h hh x y
end
section
variable {P :Program} {ops:Array Oper} {Q:Exit->Act->World->Prop} {rest:List Oper} {oi:Oper} {a:Act} {w:World} {K:Act->World->Prop}
theorem gl (N:Tmp) {f:FuncId} {fn:Func} {az:Array Operand} {ts:Array TypeId} (hf:P.funcs[f]? =some fn) (args:Array Value) (h:Calls P f args w λe w'=>∃ v,e=.returned v/\wpList P ops Q rest (a.put (some N) v) w')
    (hop:oi.op=.call { callee:=.value (.func f),args:=az,argTypes:=ts }:=by rfl) (hd:oi.dst=some N:=by rfl) (hg:oi.guard=none:=by rfl) (hname:(fn.name == "runtime.NumGoroutine")=false:=by kernel_rfl) (hb:fn.body.isSome=true:=by rfl)
    (hargs:az.map a.eval=args:=by ((try simp only[List.map_toArray,List.map_cons,List.map_nil]);first|done|rfl|(simp only[List.length_drop,List.length_take];rfl))):wpList P ops Q (oi :: rest) a w:=goesL_ (some N) hd hg hf hname hb args hop hargs h
theorem gs_ {N:Option Tmp} {f:FuncId} {fn:Func} {az:Array Operand} {ts:Array TypeId} (hf:P.funcs[f]? =some fn) (args:Array Value) (h:Calls P f args w λe w'=>∃ v,e=.returned v/\K (a.put N v) w')
    (hw:Region.wanted oi (yielded ops a.tmps)=true:=by rfl) (hN:oi.dst=N:=by rfl) (hop:oi.op=.call { callee:=.value (.func f),args:=az,argTypes:=ts }:=by rfl) (hname:(fn.name == "runtime.NumGoroutine")=false:=by kernel_rfl) (hb:fn.body.isSome=true:=by rfl)
    (hargs:az.map a.eval=args:=by ((try simp only[List.map_toArray,List.map_cons,List.map_nil]);first|done|rfl|(simp only[List.length_drop,List.length_take];rfl))):if Region.wanted oi (yielded ops a.tmps)=true then Oper.wp P oi a w K Q else K (a.put N undef) w:=goes_ hf hname hb args hw hN hop hargs h
theorem qjr (W:World) (base:Nat) (ok:Nat->Prop):∀ xs:List Int,Reps ((Kd.int i64).M W base ok) (Kd.int i64).sz xs (xs.map (Value.int .i64))
  | []=>Reps.none _ _
  | x :: xs=>Reps.one (show Kd.M (Kd.int i64) _ _ _ x [int i64 x] from rfl) (qjr W base ok xs)
theorem li (e:Nat) {N:Tmp} (xs:List Int) (h:∀ v1 w1,(Kd.int i64).R e w1 w.heap.size (λ_=>True) v1 xs->Below w.heap.size w w1->wpList P ops Q rest (a.put oi.dst v1) w1) {inner:List Value}
    (hgd:oi.guard=none:=by rfl) (hd:oi.dst=some N:=by rfl) (hi:inner=xs.map (Value.int .i64):=by rfl) (hrun:(execOp a.eval oi).run P w=.ok (.value (.slice (some ⟨w.heap.size,0,none⟩) xs.length xs.length)) (w.alloc (.cells inner.toArray e)):=by first|(go_simp;done)|(go_simp;rfl)) (hm:xs.length<=9223372036854775807:=by simp):wpList P ops Q (oi :: rest) a w:=by
  subst hi;exact Kd.AR (Kd.int i64) w.heap.size e hgd hd hrun (okp:=λ_=>True) (qjr _ _ _ xs) (λ_ h=>h) trivial (Below.refl _ _) (Nat.le_refl _) hm λv1 w1 h1 h2 _ _=>h v1 w1 h1 h2
end
theorem pk_ {w w':World} {b:Nat} {o:Obj} (h:qf (w.heap[b]? =some o)) (k:w.heap[b]? =some o->w'.heap[b]? =some o:=by (intro h_;(with_reducible repeat (first|refine qw ?_ _|refine qy ?_|refine qx ?_ _));exact h_)):w'.heap[b]? =some o:=k h.out
theorem Eh {w w':World} {b g:Nat} {o:Obj} (h:qf (w.heap[b]?=some o)) (hg:g=w'.heap.size) (k:w.heap[b]? =some o->w'.heap[b]? =some o:=by (intro h_;(with_reducible repeat (first|refine qw ?_ _|refine qy ?_|refine qx ?_ _));exact h_)):qf (b≠g):=⟨by rw[hg];exact Nat.ne_of_lt (Qj (k h.out))⟩
theorem Ei {w w':World} {b g:Nat} {o:Obj} (h:qf (w.heap[b]?=some o)) (hg:g=w'.heap.size) (k:w.heap[b]? =some o->w'.heap[b]? =some o:=by (intro h_;(with_reducible repeat (first|refine qw ?_ _|refine qy ?_|refine qx ?_ _));exact h_)):qf (g≠b):=⟨by rw[hg];exact Nat.ne_of_gt (Qj (k h.out))⟩
theorem bx_ {w W W':World} (h:qf (Below w.heap.size w W)) (k:Below w.heap.size w W->Below w.heap.size w W':=by (intro h_;repeat (first|(with_reducible first|exact h_|apply Qm|apply Qs|apply Qn)|refine Za ?_ (qf.out (by assumption))|exact h_))):Below w.heap.size w W':=k h.out
section
variable {α :Type} {d:Kd α} {e base:Nat} {ok ok':Nat->Prop} {w W W':World} {v:Value} {xs:List α}
theorem oR_ (h:qf (Kd.R d e W base ok v xs)) [J6 W W'] (k:∀ k,ok k->ok' k):Kd.R d e W' base ok' v xs:=Kd.Ae (wR h) k
theorem oN_ (h:qf (Kd.N d e W base ok v xs)) [J6 W W'] (k:∀ k,ok k->ok' k):Kd.N d e W' base ok' v xs:=Kd.Ar (wN h) k
theorem oS_ (h:qf (Kd.S d e W base ok v xs)) [J6 W W'] (k:∀ k,ok k->ok' k):Kd.S d e W' base ok' v xs:=Kd.At (wS h) k
theorem oV_ (h:qf (Kd.V d e W base ok v xs)) [J6 W W'] (k:∀ k,ok k->ok' k):Kd.V d e W' base ok' v xs:=Kd.AP (wV h) k
end
section
variable {P :Program} {ops:Array Oper} {Q:Exit->Act->World->Prop} {rest:List Oper} {o:Oper} {a:Act} {W:World} {K:Act->World->Prop}
theorem xe_ (N:Tmp) (t:TypeId) (cs:Array Value) (h:∀ g,g=W.heap.size->∀ w1,w1.heap[g]? =some (.cells cs t (0,0))->Below W.heap.size W w1->wpList P ops Q rest (a.put o.dst (.pointer (some ⟨g,0,none⟩))) w1)
    (hg:o.guard=none:=by rfl) (hd:o.dst=some N:=by rfl) (hr:(execOp a.eval o).run P W=.ok (.value (.pointer (some ⟨W.heap.size,0,none⟩))) (W.alloc (.cells cs t (0,0))):=by first|(go_simp;done)|(go_simp;rfl)):wpList P ops Q (o :: rest) a W:=qqz hg hd hr h
theorem xs_ (N:Tmp) (t:TypeId) (cs:Array Value) (h:∀ g,g=W.heap.size->∀ w1,w1.heap[g]? =some (.cells cs t (0,0))->Below W.heap.size W w1->K (a.put o.dst (.pointer (some ⟨g,0,none⟩))) w1)
    (hg:Region.wanted o (yielded ops a.tmps)=true:=by rfl) (hd:o.dst=some N:=by rfl) (hr:(execOp a.eval o).run P W=.ok (.value (.pointer (some ⟨W.heap.size,0,none⟩))) (W.alloc (.cells cs t (0,0))):=by first|(go_simp;done)|(go_simp;rfl)):if Region.wanted o (yielded ops a.tmps)=true then Oper.wp P o a W K Q else K (a.put o.dst undef) W:=qt7 hg hd hr h
end
abbrev KI:=Kd.slice 3 (Kd.int i64)
theorem Ej {w w' w2:World} {b:Nat} {o:Obj} (h:qf (w.heap[b]? =some o)) (hb:Below w'.heap.size w' w2) (k:w.heap[b]? =some o->w'.heap[b]? =some o:=by (intro h_;(with_reducible repeat (first|refine qw ?_ _|refine qy ?_|refine qx ?_ _));exact h_)):qf (w2.heap[b]? =some o):=⟨qt (k h.out) hb⟩
theorem Em (w:World):qf (Below w.heap.size w w):=⟨Below.refl _ _⟩
theorem En {w:World} {g:Nat} {t:TypeId} {a b c:Value} (h:w.heap[g]? =some (.cells #[a,b,c] t (0,0))):w.cell? ⟨g,0,none⟩=some a:=(qe h 0).trans rfl
theorem Eo {w:World} {g:Nat} {t:TypeId} {a b c:Value} (h:w.heap[g]? =some (.cells #[a,b,c] t (0,0))):w.cell? ⟨g,1,none⟩=some b:=(qe h 1).trans rfl
theorem Ep {w:World} {g:Nat} {t:TypeId} {a b c:Value} (h:w.heap[g]? =some (.cells #[a,b,c] t (0,0))):w.cell? ⟨g,2,none⟩=some c:=(qe h 2).trans rfl
theorem Es {k:IntKind} {A:Option Addr} {n:Nat} {w:World} {xs:List Int} (h:(Kd.int k).C w A n xs) (i:Int) (h0:0<=i) (h1:i < n):∃ ad,A=some ad/\w.cell? (ad.add i.toNat)=some (.int k (rd xs i))/\(0<=i)=True/\(i < (n:Int))=True:=by
 obtain⟨ad,e,hx⟩:=Kd.Aj h i h0 h1;exact⟨ad,e,hx,eq_true h0,eq_true h1⟩
theorem Er {A:Option Addr} {n c e base:Nat} {ok:Nat->Prop} {w:World} {xs:List (List Int)} (h:Kd.V (Kd.slice 3 (Kd.int i64)) e w base ok (.slice A n c) xs) (i:Int) (h0:0<=i) (h1:i < (n:Int)):∃ ad A0 c0,A=some ad/\w.cell? (ad.add i.toNat)=some (.slice A0 (zt xs i).length c0)/\qf (Kd.V (Kd.int i64) 3 w base ok (.slice A0 (zt xs i).length c0) (zt xs i))/\qf (Kd.C (Kd.int i64) w A0 (zt xs i).length (zt xs i))/\qf ((zt xs i).length<=c0)/\(0<=i)=True/\(i < (n:Int))=True:=by
 obtain rfl:=(Kd.An h).1;obtain⟨ad,A0,c0,e0,hx,hl,hi⟩:=qat (Kd.An h).2.2 i h0 h1
 cases e0
 obtain⟨ce,_,hMe,hcc⟩:=Kd.Cx h [] i h0 h1;obtain⟨ua,uc,rfl,ul,ge⟩:=Kd.Ax hMe;have hv:=hcc 0 _ rfl;rw[Nat.add_zero,show ((Kd.slice 3 (Kd.int i64))).sz=1 from rfl,Nat.mul_one]at hv;replace hv:=Option.some.inj (hv.symm.trans hx);injection hv with hva_ hvn_ hvc_
 rw[hva_]at ge;rw[hvc_]at ul;exact⟨ad,A0,c0,rfl,hx,⟨Kd.V_mk ul ge⟩,⟨hi⟩,⟨hl⟩,eq_true h0,eq_true h1⟩
set_option maxHeartbeats 8000000
set_option maxRecDepth 100000
attribute [local go_sem] Tryz.underlying51
def J5.f (l0:List (S53)) (a1:Int):Option (Int):=if (wrap64 (a1 - (l0.length:Int))) < 0 then (some (-1)) else (some (wrap64 (a1 - (l0.length:Int))))
theorem J5.calls (A0:Option Addr) (c0:Nat) (l0:List (S53)) (a1:Int) (r:Int) (w:World) (hr0:Kd.C k53 w A0 l0.length l0) (hc0:l0.length<=c0) (h:J5.f l0 a1=some r):
  Calls Tryz.prog 5 #[.slice A0 l0.length c0,int i64 a1] w λe w'=>e=.returned (int i64 r)/\Drawn0 w w':=by
 clear hr0 hc0;have H:=h;unfold J5.f at H;clear h;replace H:=Eg H;rcases H with ⟨c3b0,H⟩|⟨c3b0,H⟩
 ·obtain rfl:=Option.some.inj H
  go_enter Tryz.func5,Tryz.ntmps5
  go_wp2;go_ret
  exact⟨fr,df⟩
 ·obtain rfl:=Option.some.inj H
  go_enter Tryz.func5,Tryz.ntmps5
  go_wp2;go_ret
  exact⟨fr,df⟩
def Q9.f (a0:Int) (a1:Int):Option (Int):=if a0=0 then (none) else (some (Int.tmod (wrap64 ((Int.tmod a1 a0)+a0)) a0))
theorem Q9.calls (a0:Int) (a1:Int) (r:Int) (w:World) (h:Q9.f a0 a1=some r):
  Calls Tryz.prog 62 #[int i64 a0,int i64 a1] w λe w'=>e=.returned (int i64 r)/\Drawn0 w w':=by
 have H:=h;unfold Q9.f at H;clear h;replace H:=ifm H;obtain⟨c3,H⟩:=H;have c3b0:=beq_eq_false_iff_ne.mpr c3;have c3b1:=bne_iff_ne.mpr c3;obtain rfl:=Option.some.inj H;go_enter Tryz.func62,Tryz.ntmps62
 go_wp2;go_ret
 exact⟨fr,df⟩
def Qy.f (a0:Int) (a1_0:Int) (a1_1:Int) (a1_2:Int) (a2_0:Int) (a2_1:Int) (a2_2:Int):Option (List Int):=(Q9.f a0 (wrap64 ((wrap64 (a1_1*a2_2)) - (wrap64 (a1_2*a2_1))))).bind λt103=>((Q9.f a0 (wrap64 ((wrap64 (a1_2*a2_0)) - (wrap64 (a1_0*a2_2))))).bind λt104=>((Q9.f a0 (wrap64 ((wrap64 (a1_0*a2_1)) - (wrap64 (a1_1*a2_0))))).bind λt105=>(some (([t103,t104,t105]:List Int)))))
def Qy.T1 :Bool×List (List Nat×List Nat):=(true,[([],[]),([],[]),([1],[1]),([2],[2]),([],[]),([4],[4]),([5],[5]),([3,6],[3,6]),([],[]),([8],[8]),([9],[9]),([],[]),([11],[11]),([12],[12]),([10,13],[10,13]),([7,14],[7,14]),([0,15],[0,15]),([],[]),([],[]),([18],[18]),([19],[19]),([],[]),([21],[21]),([22],[22]),([20,23],[20,23]),([],[]),([25],[25]),([26],[26]),([],[]),([28],[28]),([29],[29]),([27,30],[27,30]),([24,31],[24,31]),([17,32,16],[17,32]),([],[]),([],[]),([35],[35]),([36],[36]),([],[]),([38],[38]),([39],[39]),([37,40],[37,40]),([],[]),([42],[42]),([43],[43]),([],[]),([45],[45]),([46],[46]),([44,47],[44,47]),([41,48],[41,48]),([34,49,33],[34,49]),([16,33,50],[16,33,50]),([51,50,0,1,2,3,4,5,6,7,8,9,10,11,12,13,14,15,16,17,18,19,20,21,22,23,24,25,26,27,28,29,30,31,32,33,34,35,36,37,38,39,40,41,42,43,44,45,46,47,48,49,50,51],[51])])
def Qy.B1 :List Nat:=[0,0,2,6,0,16,48,126,0,256,768,0,2048,6144,16128,32766,65535,0,0,262144,786432,0,2097152,6291456,16515072,0,33554432,100663296,0,268435456,805306368,2113929216,4294705152,8589934591,0,0,34359738368,103079215104,0,274877906944,824633720832,2164663517184,0,4398046511104,13194139533312,0,35184372088832,105553116266496,277076930199552,562915593682944,1125899906842623,2251799813685247,4503599627370495]
theorem Qy.calls (a0:Int) (a1_0:Int) (a1_1:Int) (a1_2:Int) (a2_0:Int) (a2_1:Int) (a2_2:Int) (r:List Int) (w:World) (h:Qy.f a0 a1_0 a1_1 a1_2 a2_0 a2_1 a2_2=some r):
  Calls Tryz.prog 53 #[int i64 a0,.agg #[int i64 a1_0,int i64 a1_1,int i64 a1_2],.agg #[int i64 a2_0,int i64 a2_1,int i64 a2_2]] w λe w'=>∃ v0_:Value,e=.returned (v0_)/\Kd.R (Kd.int i64) 3 w' w.heap.size (λ_=>True) v0_ r/\Below w.heap.size w w':=by
 have HB:=Em w;have H:=h;unfold Qy.f at H;clear h;replace H:=bs H;obtain⟨t103,A4,H⟩:=H;replace H:=bs H;obtain⟨t104,A5,H⟩:=H;replace H:=bs H;obtain⟨t105,A6,H⟩:=H;generalize hy106:(([t103,t104,t105]:List Int))=y106 at H;have Ny106:=am hy106.symm;clear hy106;obtain rfl:=Option.some.inj H;go_enter Tryz.func53,Tryz.ntmps53
 try go_wp2_with (first|((with_reducible refine zd (N:=4) rfl ?_);refine xe_ 4 51 #[int i64 a1_0,int i64 a1_1,int i64 a1_2] ?_;intro gb101 hg w7 hbox hb;have BK101:=am (hbox);have GW101:=Ek HB hg;replace HB:=bq HB hb;clear hb hbox hg)|((with_reducible refine zd (N:=5) rfl ?_);refine xe_ 5 51 #[int i64 a2_0,int i64 a2_1,int i64 a2_2] ?_;intro gb102 hg w8 hbox hb;have BK102:=am (hbox);have GW102:=am ((by rw[hg];exact(zw (bx_ HB)):w.heap.size<=gb102));replace HB:=am (ze (bx_ HB) hb);have NB101_102:=Eh BK101 hg;have NB102_101:=Ei BK101 hg;replace BK101:=Ej BK101 hb;clear hb hbox hg))
 replace BK101:=am (qy BK101.out);replace BK102:=am (qy BK102.out);replace HB:=am (Qn HB.out);refine st (T:=Qy.T1) (B:=Qy.B1) 53 (λw'=>w'.cell? ⟨gb101,0,none⟩=some (int i64 a1_0)/\w'.cell? ⟨gb101,1,none⟩=some (int i64 a1_1)/\w'.cell? ⟨gb101,2,none⟩=some (int i64 a1_2)/\w'.cell? ⟨gb102,0,none⟩=some (int i64 a2_0)/\w'.cell? ⟨gb102,1,none⟩=some (int i64 a2_1)/\w'.cell? ⟨gb102,2,none⟩=some (int i64 a2_2)) [] (by kernel_rfl) (by kernel_rfl) (⟨(qe BK101.out 0).trans rfl,(qe BK101.out 1).trans rfl,(qe BK101.out 2).trans rfl,(qe BK102.out 0).trans rfl,(qe BK102.out 1).trans rfl,(qe BK102.out 2).trans rfl⟩) λhHeld HT_ HW_=>?_;generalize w8.drew=w9 at BK101 BK102 HB hHeld ⊢;refine Et 0 7 1 8 HT_ ?_;refine Et 2 9 4 11 HT_ ?_;refine Et 5 12 8 15 HT_ ?_;refine Et 9 16 11 18 HT_ ?_;refine Et 12 19 17 24 HT_ ?_;refine Et 18 25 19 26 HT_ ?_;refine Et 21 28 22 29 HT_ ?_;refine Et 25 32 26 33 HT_ ?_;refine Et 28 35 29 36 HT_ ?_;refine Et 34 41 35 42 HT_ ?_;refine Et 36 43 38 45 HT_ ?_;refine Et 39 46 42 49 HT_ ?_;refine Et 43 50 45 52 HT_ ?_;refine pz 46 53 HT_ ?_;refine tk 3 10 HT_ HW_ hHeld ?_;refine tk 6 13 HT_ HW_ hHeld ?_;refine pz 7 14 HT_ ?_;refine tk 10 17 HT_ HW_ hHeld ?_;refine tk 13 20 HT_ HW_ hHeld ?_;refine Et 14 21 15 22 HT_ ?_;refine tk 20 27 HT_ HW_ hHeld ?_;refine tk 23 30 HT_ HW_ hHeld ?_;refine pz 24 31 HT_ ?_;refine tk 27 34 HT_ HW_ hHeld ?_;refine tk 30 37 HT_ HW_ hHeld ?_;refine Et 31 38 32 39 HT_ ?_;refine tk 37 44 HT_ HW_ hHeld ?_;refine tk 40 47 HT_ HW_ hHeld ?_;refine pz 41 48 HT_ ?_;refine tk 44 51 HT_ HW_ hHeld ?_;refine tk 47 54 HT_ HW_ hHeld ?_;refine Et 48 55 49 56 HT_ ?_;refine on 16 (some 23) HT_ λK hK=>?_;refine gs_ Tryz.func62 #[int i64 a0,int i64 (wrap64 ((wrap64 (a1_1*a2_2)) - (wrap64 (a1_2*a2_1))))] ?_
 with_reducible refine(Q9.calls a0 (wrap64 ((wrap64 (a1_1*a2_2)) - (wrap64 (a1_2*a2_1)))) t103 _ A4.out).mono ?_
 rintro e w' ⟨rfl,⟨nd,rfl⟩⟩;refine⟨_,rfl,?_⟩;refine hK.out _ _ ⟨En BK101.out,Eo BK101.out,Ep BK101.out,En BK102.out,Eo BK102.out,Ep BK102.out⟩ λhHeld=>nz ?_;clear hK K;refine on 33 (some 40) HT_ λK hK=>?_;refine gs_ Tryz.func62 #[int i64 a0,int i64 (wrap64 ((wrap64 (a1_2*a2_0)) - (wrap64 (a1_0*a2_2))))] ?_
 with_reducible refine(Q9.calls a0 (wrap64 ((wrap64 (a1_2*a2_0)) - (wrap64 (a1_0*a2_2)))) t104 _ A5.out).mono ?_
 rintro e w' ⟨rfl,⟨nd,rfl⟩⟩;refine⟨_,rfl,?_⟩;refine hK.out _ _ ⟨En BK101.out,Eo BK101.out,Ep BK101.out,En BK102.out,Eo BK102.out,Ep BK102.out⟩ λhHeld=>nz ?_;clear hK K;refine on 50 (some 57) HT_ λK hK=>?_;refine gs_ Tryz.func62 #[int i64 a0,int i64 (wrap64 ((wrap64 (a1_0*a2_1)) - (wrap64 (a1_1*a2_0))))] ?_
 with_reducible refine(Q9.calls a0 (wrap64 ((wrap64 (a1_0*a2_1)) - (wrap64 (a1_1*a2_0)))) t105 _ A6.out).mono ?_
 rintro e w' ⟨rfl,⟨nd,rfl⟩⟩;refine⟨_,rfl,?_⟩;refine hK.out _ _ ⟨En BK101.out,Eo BK101.out,Ep BK101.out,En BK102.out,Eo BK102.out,Ep BK102.out⟩ λhHeld=>nz ?_;clear hK K;refine on 51 (some 58) HT_ λK hK=>?_;refine Kd.AX (Kd.int i64) _ 3 ?hg (N:=58) ?hd (xs:=([t103,t104,t105]:List Int)) (inner:=[int i64 t103,int i64 t104,int i64 t105]) (ok:=λ_=>True) (okp:=λ_=>True) ?hr ?hp (λ_ hk=>hk) trivial (Below.refl _ _) (Nat.le_refl _) (by simp) ?_;(case hd=>rfl);(case hg=>rfl);(case hr=>first|(go_simp;done)|(go_simp;rfl));(case hp=>exact(Reps.one (show Kd.M (Kd.int i64) _ _ _ t103 [int i64 t103] from rfl) (Reps.one (show Kd.M (Kd.int i64) _ _ _ t104 [int i64 t104] from rfl) (Reps.one (show Kd.M (Kd.int i64) _ _ _ t105 [int i64 t105] from rfl) (Reps.none _ _)))))
 intro v107 w10 ho11 hb hg_ hnew_;clear hg_ hnew_;rw[<-Ny106.out]at ho11;have HO108:=am (Kd.Ai ho11 (zw (bx_ HB)));replace BK101:=Ej BK101 hb;replace BK102:=Ej BK102 hb;replace HB:=am (ze (bx_ HB) hb);clear hb ho11;refine hK.out _ _ ⟨En BK101.out,Eo BK101.out,Ep BK101.out,En BK102.out,Eo BK102.out,Ep BK102.out⟩ λhHeld=>nz ?_;clear hK K;refine pz 52 6 HT_ ?_;refine Zh (Qe HT_.out (by kernel_rfl)) ?_
 try go_wp2
 go_ret
 exact⟨_,fq,wR HO108,bx_ HB⟩
def Jy.f (a0:Int) (a1_0:Int) (a1_1:Int) (a1_2:Int) (l2:List Int):Option (Bool):=if 0 < (l2.length:Int) then (if 1 < (l2.length:Int) then (if 2 < (l2.length:Int) then (if a0=0 then (none) else (some ((Int.tmod (wrap64 ((wrap64 ((wrap64 (a1_0*(rd l2 0)))+(wrap64 (a1_1*(rd l2 1)))))+(wrap64 (a1_2*(rd l2 2))))) a0) == 0))) else (none)) else (none)) else (none)
theorem Jy.calls (a0:Int) (a1_0:Int) (a1_1:Int) (a1_2:Int) (A2:Option Addr) (c2:Nat) (l2:List Int) (r:Bool) (w:World) (hr2:Kd.C (Kd.int i64) w A2 l2.length l2) (hc2:l2.length<=c2) (h:Jy.f a0 a1_0 a1_1 a1_2 l2=some r):
  Calls Tryz.prog 54 #[int i64 a0,.agg #[int i64 a1_0,int i64 a1_1,int i64 a1_2],.slice A2 l2.length c2] w λe w'=>e=.returned (.bool r)/\Below w.heap.size w w':=by
 have HR2:=am hr2;clear hr2 hc2;have HB:=Em w;have H:=h;unfold Jy.f at H;clear h
 by_cases c4:0 < (l2.length:Int)
 ·rw[if_pos c4]at H
  have c4b0:=decide_eq_true c4;have c4b1:decide (0 < l2.length)=true:=decide_eq_true (by omega);clear c4;replace H:=ifn H;obtain⟨c5,H⟩:=H;have c5b0:=decide_eq_true c5;have c5b1:decide (1 < l2.length)=true:=decide_eq_true (by omega);clear c5;replace H:=ifn H;obtain⟨c6,H⟩:=H;have c6b0:=decide_eq_true c6;have c6b1:decide (2 < l2.length)=true:=decide_eq_true (by omega);clear c6;replace H:=ifm H;obtain⟨c7,H⟩:=H;have c7b0:=beq_eq_false_iff_ne.mpr c7;have c7b1:=bne_iff_ne.mpr c7;obtain rfl:=Option.some.inj H;go_enter Tryz.func54,Tryz.ntmps54
  go_wp2_with (first|((with_reducible refine zd (N:=4) rfl ?_);refine xe_ 4 51 #[int i64 a1_0,int i64 a1_1,int i64 a1_2] ?_;intro gb109 hg w8 hbox hb;have BK109:=am (hbox);have GW109:=Ek HB hg;replace HB:=bq HB hb;clear hb hbox hg;have hcz9_0:=En BK109.out;have hcz9_1:=Eo BK109.out;have hcz9_2:=Ep BK109.out;have hfz9_0:=ql BK109.out 0;have hfz9_1:=ql BK109.out 1;have hfz9_2:=ql BK109.out 2;have p110:0<=(0:Int):=(by omega);have q110:0 < (l2.length:Int):=od;obtain⟨ad110,e110,hx110_0⟩:=Kd.Aj HR2.out 0 p110 q110;cases e110;have qi110:(0 < l2.length)=True:=eq_true (by omega);(try rw[show ((0:Int)).toNat=0 from rfl]at hx110_0);(try rw[Addr.add_zero']at hx110_0);replace hx110_0:=wcl HB hx110_0;replace p110:=eq_true p110;replace q110:=eq_true q110;have p111:0<=(1:Int):=(by omega);have q111:1 < (l2.length:Int):=od;obtain⟨ad111,e111,hx111_0⟩:=Kd.Aj HR2.out 1 p111 q111;obtain rfl:ad110=ad111:=(by injection e111);(try simp only[show (1:Int).toNat=1 from rfl,Nat.reduceMul,Nat.reduceEqDiff,Go.Addr.add,↓reduceIte]at hx111_0);have qi111:(1 < l2.length)=True:=eq_true (by omega);(try rw[show ((1:Int)).toNat=1 from rfl]at hx111_0);replace hx111_0:=wcl HB hx111_0;replace p111:=eq_true p111;replace q111:=eq_true q111;have p112:0<=(2:Int):=(by omega);have q112:2 < (l2.length:Int):=od;obtain⟨ad112,e112,hx112_0⟩:=Kd.Aj HR2.out 2 p112 q112;obtain rfl:ad110=ad112:=(by injection e112);(try simp only[show (2:Int).toNat=2 from rfl,Nat.reduceMul,Nat.reduceEqDiff,Go.Addr.add,↓reduceIte]at hx112_0);have qi112:(2 < l2.length)=True:=eq_true (by omega);(try rw[show ((2:Int)).toNat=2 from rfl]at hx112_0);replace hx112_0:=wcl HB hx112_0;replace p112:=eq_true p112;replace q112:=eq_true q112))
  repeat (go_quiet (first|((with_reducible refine zd (N:=4) rfl ?_);refine xe_ 4 51 #[int i64 a1_0,int i64 a1_1,int i64 a1_2] ?_;intro gb109 hg w8 hbox hb;have n0_:=bq HB hb;have n1_:=am (hbox);have n2_:=Ek HB hg;have n3_:=Ek HB hg;clear HB;have HB:=n0_;have BK109:=n1_;have GW109:=n2_;clear n0_ n1_ n2_ n3_;clear hb hbox hg;have hcz9_0:=En BK109.out;have hcz9_1:=Eo BK109.out;have hcz9_2:=Ep BK109.out;have hfz9_0:=ql BK109.out 0;have hfz9_1:=ql BK109.out 1;have hfz9_2:=ql BK109.out 2;have p110:0<=(0:Int):=(by omega);have q110:0 < (l2.length:Int):=od;obtain⟨ad110,e110,hx110_0⟩:=Kd.Aj HR2.out 0 p110 q110;cases e110;have qi110:(0 < l2.length)=True:=eq_true (by omega);(try rw[show ((0:Int)).toNat=0 from rfl]at hx110_0);(try rw[Addr.add_zero']at hx110_0);replace hx110_0:=wcl HB hx110_0;replace p110:=eq_true p110;replace q110:=eq_true q110;have p111:0<=(1:Int):=(by omega);have q111:1 < (l2.length:Int):=od;obtain⟨ad111,e111,hx111_0⟩:=Kd.Aj HR2.out 1 p111 q111;obtain rfl:ad110=ad111:=(by injection e111);(try simp only[show (1:Int).toNat=1 from rfl,Nat.reduceMul,Nat.reduceEqDiff,Go.Addr.add,↓reduceIte]at hx111_0);have qi111:(1 < l2.length)=True:=eq_true (by omega);(try rw[show ((1:Int)).toNat=1 from rfl]at hx111_0);replace hx111_0:=wcl HB hx111_0;replace p111:=eq_true p111;replace q111:=eq_true q111;have p112:0<=(2:Int):=(by omega);have q112:2 < (l2.length:Int):=od;obtain⟨ad112,e112,hx112_0⟩:=Kd.Aj HR2.out 2 p112 q112;obtain rfl:ad110=ad112:=(by injection e112);(try simp only[show (2:Int).toNat=2 from rfl,Nat.reduceMul,Nat.reduceEqDiff,Go.Addr.add,↓reduceIte]at hx112_0);have qi112:(2 < l2.length)=True:=eq_true (by omega);(try rw[show ((2:Int)).toNat=2 from rfl]at hx112_0);replace hx112_0:=wcl HB hx112_0;replace p112:=eq_true p112;replace q112:=eq_true q112));try go_wp2_with (first|((with_reducible refine zd (N:=4) rfl ?_);refine xe_ 4 51 #[int i64 a1_0,int i64 a1_1,int i64 a1_2] ?_;intro gb109 hg w8 hbox hb;have n0_:=bq HB hb;have n1_:=am (hbox);have n2_:=Ek HB hg;have n3_:=Ek HB hg;clear HB;have HB:=n0_;have BK109:=n1_;have GW109:=n2_;clear n0_ n1_ n2_ n3_;clear hb hbox hg;have hcz9_0:=En BK109.out;have hcz9_1:=Eo BK109.out;have hcz9_2:=Ep BK109.out;have hfz9_0:=ql BK109.out 0;have hfz9_1:=ql BK109.out 1;have hfz9_2:=ql BK109.out 2;have p110:0<=(0:Int):=(by omega);have q110:0 < (l2.length:Int):=od;obtain⟨ad110,e110,hx110_0⟩:=Kd.Aj HR2.out 0 p110 q110;cases e110;have qi110:(0 < l2.length)=True:=eq_true (by omega);(try rw[show ((0:Int)).toNat=0 from rfl]at hx110_0);(try rw[Addr.add_zero']at hx110_0);replace hx110_0:=wcl HB hx110_0;replace p110:=eq_true p110;replace q110:=eq_true q110;have p111:0<=(1:Int):=(by omega);have q111:1 < (l2.length:Int):=od;obtain⟨ad111,e111,hx111_0⟩:=Kd.Aj HR2.out 1 p111 q111;obtain rfl:ad110=ad111:=(by injection e111);(try simp only[show (1:Int).toNat=1 from rfl,Nat.reduceMul,Nat.reduceEqDiff,Go.Addr.add,↓reduceIte]at hx111_0);have qi111:(1 < l2.length)=True:=eq_true (by omega);(try rw[show ((1:Int)).toNat=1 from rfl]at hx111_0);replace hx111_0:=wcl HB hx111_0;replace p111:=eq_true p111;replace q111:=eq_true q111;have p112:0<=(2:Int):=(by omega);have q112:2 < (l2.length:Int):=od;obtain⟨ad112,e112,hx112_0⟩:=Kd.Aj HR2.out 2 p112 q112;obtain rfl:ad110=ad112:=(by injection e112);(try simp only[show (2:Int).toNat=2 from rfl,Nat.reduceMul,Nat.reduceEqDiff,Go.Addr.add,↓reduceIte]at hx112_0);have qi112:(2 < l2.length)=True:=eq_true (by omega);(try rw[show ((2:Int)).toNat=2 from rfl]at hx112_0);replace hx112_0:=wcl HB hx112_0;replace p112:=eq_true p112;replace q112:=eq_true q112)))
  go_ret
  exact⟨fq,bx_ HB⟩
 ·rw[if_neg c4]at H
  exact absurd H (by simp)
def Zy.f (a0:Int):Option (Bool):=if a0=7 then (some true) else (if a0=11 then (some true) else (if a0=13 then (some true) else (if a0=17 then (some true) else (if a0=19 then (some true) else (if a0=23 then (some true) else (if a0=29 then (some true) else (if a0=31 then (some true) else (some false))))))))
theorem Zy.calls (a0:Int) (r:Bool) (w:World) (h:Zy.f a0=some r):
  Calls Tryz.prog 126 #[int i64 a0] w λe w'=>e=.returned (.bool r)/\Drawn0 w w':=by
 have H:=h;unfold Zy.f at H;clear h
 by_cases c2:a0=7
 ·rw[if_pos c2]at H
  have c2b0:=beq_iff_eq.mpr c2;have c2b1:=bne_eq_false_iff_eq.mpr c2;clear c2;obtain rfl:=Option.some.inj H;go_enter Tryz.func126,Tryz.ntmps126
  go_wp2;go_ret
  exact⟨fr,df⟩
 ·rw [if_neg c2] at H
  have c2b0:=beq_eq_false_iff_ne.mpr c2;have c2b1:=bne_iff_ne.mpr c2
  by_cases c3:a0=11
  ·rw[if_pos c3]at H
   have c3b0:=beq_iff_eq.mpr c3;have c3b1:=bne_eq_false_iff_eq.mpr c3;clear c3;obtain rfl:=Option.some.inj H;go_enter Tryz.func126,Tryz.ntmps126
   go_wp2;go_ret
   exact⟨fr,df⟩
  ·rw [if_neg c3] at H
   have c3b0:=beq_eq_false_iff_ne.mpr c3;have c3b1:=bne_iff_ne.mpr c3
   by_cases c4:a0=13
   ·rw[if_pos c4]at H
    have c4b0:=beq_iff_eq.mpr c4;have c4b1:=bne_eq_false_iff_eq.mpr c4;clear c4;obtain rfl:=Option.some.inj H;go_enter Tryz.func126,Tryz.ntmps126
    go_wp2;go_ret
    exact⟨fr,df⟩
   ·rw [if_neg c4] at H
    have c4b0:=beq_eq_false_iff_ne.mpr c4;have c4b1:=bne_iff_ne.mpr c4
    by_cases c5:a0=17
    ·rw[if_pos c5]at H
     have c5b0:=beq_iff_eq.mpr c5;have c5b1:=bne_eq_false_iff_eq.mpr c5;clear c5;obtain rfl:=Option.some.inj H;go_enter Tryz.func126,Tryz.ntmps126
     go_wp2;go_ret
     exact⟨fr,df⟩
    ·rw [if_neg c5] at H
     have c5b0:=beq_eq_false_iff_ne.mpr c5;have c5b1:=bne_iff_ne.mpr c5
     by_cases c6:a0=19
     ·rw[if_pos c6]at H
      have c6b0:=beq_iff_eq.mpr c6;have c6b1:=bne_eq_false_iff_eq.mpr c6;clear c6;obtain rfl:=Option.some.inj H;go_enter Tryz.func126,Tryz.ntmps126
      go_wp2;go_ret
      exact⟨fr,df⟩
     ·rw [if_neg c6] at H
      have c6b0:=beq_eq_false_iff_ne.mpr c6;have c6b1:=bne_iff_ne.mpr c6
      by_cases c7:a0=23
      ·rw[if_pos c7]at H
       have c7b0:=beq_iff_eq.mpr c7;have c7b1:=bne_eq_false_iff_eq.mpr c7;clear c7;obtain rfl:=Option.some.inj H;go_enter Tryz.func126,Tryz.ntmps126
       go_wp2;go_ret
       exact⟨fr,df⟩
      ·rw[if_neg c7]at H
       have c7b0:=beq_eq_false_iff_ne.mpr c7;have c7b1:=bne_iff_ne.mpr c7
       by_cases c8:a0=29
       ·rw[if_pos c8]at H
        have c8b0:=beq_iff_eq.mpr c8;have c8b1:=bne_eq_false_iff_eq.mpr c8;clear c8;obtain rfl:=Option.some.inj H;go_enter Tryz.func126,Tryz.ntmps126
        go_wp2;go_ret
        exact⟨fr,df⟩
       ·rw[if_neg c8]at H
        have c8b0:=beq_eq_false_iff_ne.mpr c8;have c8b1:=bne_iff_ne.mpr c8
        by_cases c9:a0=31
        ·rw[if_pos c9]at H
         have c9b0:=beq_iff_eq.mpr c9;have c9b1:=bne_eq_false_iff_eq.mpr c9;clear c9;obtain rfl:=Option.some.inj H;go_enter Tryz.func126,Tryz.ntmps126
         go_wp2;go_ret
         exact⟨fr,df⟩
        ·rw[if_neg c9]at H
         have c9b0:=beq_eq_false_iff_ne.mpr c9;have c9b1:=bne_iff_ne.mpr c9;obtain rfl:=Option.some.inj H;go_enter Tryz.func126,Tryz.ntmps126
         go_wp2;go_ret
         exact⟨fr,df⟩
def Qr.f (a0:Int) (a1:Int) (a2:Int):Option (Bool):=if a0>=a1 then (some (decide (a0<=a2))) else (some false)
theorem Qr.calls (a0:Int) (a1:Int) (a2:Int) (r:Bool) (w:World) (h:Qr.f a0 a1 a2=some r):
  Calls Tryz.prog 59 #[int i64 a0,int i64 a1,int i64 a2] w λe w'=>e=.returned (.bool r)/\Drawn0 w w':=by
 have H:=h;unfold Qr.f at H;clear h;replace H:=Eg H;rcases H with ⟨c4b0,H⟩|⟨c4b0,H⟩
 ·obtain rfl:=Option.some.inj H
  go_enter Tryz.func59,Tryz.ntmps59
  go_wp2;go_ret
  exact⟨fr,df⟩
 ·obtain rfl:=Option.some.inj H
  go_enter Tryz.func59,Tryz.ntmps59
  go_wp2;go_ret
  exact⟨fr,df⟩
def jo.l0 :Nat->Int->Int->Int->Option (Int)
 | 0,_,_,_=>none
 | k+1,x0,x1,x5=>if x5 < x0 then (if x0=0 then (none) else (if (Int.tmod (wrap64 (x5*x1)) x0)=1 then (some x5) else (jo.l0 k x0 x1 (wrap64 (x5+1))))) else (some 0)
def jo.f (k:Nat) (a0:Int) (a1:Int):Option (Int):=jo.l0 k a0 a1 1
theorem jo.Ag :∀ k,(∀ y0 y1 y2,LeO (jo.l0 k y0 y1 y2) (jo.l0 (k+1) y0 y1 y2))
 | 0=>λ_ _ _ r h=>by simp[jo.l0]at h
 | k+1=>by
  have ih0:=jo.Ag k
  ·intro y0 y1 y2
   unfold jo.l0
   repeat' with_reducible first|intro _|apply ih0|apply Eb|apply Ec|apply Ed|apply Ee
theorem jo.mono (a0 a1 k):LeO (jo.f k a0 a1) (jo.f (k+1) a0 a1):=by
 have ih0:=jo.Ag k;unfold jo.f
 repeat' with_reducible first|intro _|apply ih0|apply Eb|apply Ec|apply Ed|apply Ee
theorem jo.calls (k:Nat) (a0:Int) (a1:Int) (r:Int) (w:World) (h:jo.f k a0 a1=some r):
  Calls Tryz.prog 104 #[int i64 a0,int i64 a1] w λe w'=>e=.returned (int i64 r)/\Drawn0 w w':=by
 have H:=h;unfold jo.f at H;clear h;have H':=am H;clear H;go_enter Tryz.func104,Tryz.ntmps104
 go_wp2
 go_loopg [5] k (λkq v5 w'=>∃ (x5_1:Int),v5=int i64 x5_1/\qf (jo.l0 kq a0 a1 x5_1=some r)/\qf (kq<=k)/\Drawn0 w w')
 case atStart=>exact⟨(1),fr,H',⟨Nat.le_refl _⟩,df⟩
 case round=>
  clear H';try clear c1;try clear p2
  obtain⟨x5_1,rfl,HA,HK1,⟨m1,rfl⟩⟩:=hrel
  cases gk with
  | zero=>exact absurd HA.out (by simp[jo.l0])
  | succ k1=>
   have H:=HA.out;clear HA;simp only[jo.l0]at H;replace H:=Eg H;rcases H with ⟨c3b0,H⟩|⟨c3b0,H⟩
   ·replace H:=ifm H;obtain⟨c4,H⟩:=H;have c4b0:=beq_eq_false_iff_ne.mpr c4;have c4b1:=bne_iff_ne.mpr c4
    by_cases c5:(Int.tmod (wrap64 (x5_1*a1)) a0)=1
    ·rw[if_pos c5]at H
     have c5b0:=beq_iff_eq.mpr c5;have c5b1:=bne_eq_false_iff_eq.mpr c5;clear c5;obtain rfl:=Option.some.inj H;go_wp2;go_ret
     exact⟨fr,df⟩
    ·rw[if_neg c5]at H
     have c5b0:=beq_eq_false_iff_ne.mpr c5;have c5b1:=bne_iff_ne.mpr c5;have H':=am H;clear H;go_wp2
     go_roundg k1
     case measure=>have:=HK1.out;omega
     case rel=>exact⟨(wrap64 (x5_1+1)),fr,H',⟨by have:=HK1.out;omega⟩,df⟩
   ·obtain rfl:=Option.some.inj H;go_wp2;go_ret
    exact⟨fr,df⟩
attribute [local go_sem] Tryz.underlying49
def zh.l0 :Nat->Int->List Int->List Int->Int->Int->Option (List Int)
 | 0,_,_,_,_,_=>none
 | k+1,x0,x1,x5,x6,x7=>if x7 < (x1.length:Int) then (if x6=0 then (if 0<=x7 then ((jo.f k x0 (rd x1 x7)).bind λt117=>(if x0=0 then (none) else (if x5.length < 17592186044416 then (zh.l0 k x0 x1 (x5++[Int.tmod (wrap64 ((rd x1 x7)*t117)) x0]) t117 (wrap64 (x7+1))) else (none)))) else (none)) else (if 0<=x7 then (if x0=0 then (none) else (if x5.length < 17592186044416 then (zh.l0 k x0 x1 (x5++[Int.tmod (wrap64 ((rd x1 x7)*x6)) x0]) x6 (wrap64 (x7+1))) else (none))) else (none))) else (some x5)
def zh.f (k:Nat) (a0:Int) (l1:List Int):Option (List Int):=zh.l0 k a0 l1 (([]:List Int)) 0 0
theorem zh.Ag :∀ k,(∀ y0 y1 y2 y3 y4,LeO (zh.l0 k y0 y1 y2 y3 y4) (zh.l0 (k+1) y0 y1 y2 y3 y4))
 | 0=>λ_ _ _ _ _ r h=>by simp[zh.l0]at h
 | k+1=>by
  have ih0:=zh.Ag k
  ·intro y0 y1 y2 y3 y4
   unfold zh.l0
   repeat' with_reducible first|intro _|apply ih0|apply jo.mono|apply Eb|apply Ec|apply Ed|apply Ee
theorem zh.mono (a0 a1 k):LeO (zh.f k a0 a1) (zh.f (k+1) a0 a1):=by
 have ih0:=zh.Ag k;unfold zh.f
 repeat' with_reducible first|intro _|apply ih0|apply jo.mono|apply Eb|apply Ec|apply Ed|apply Ee
theorem zh.calls (k:Nat) (a0:Int) (A1:Option Addr) (c1:Nat) (l1:List Int) (r:List Int) (w:World) (hr1:Kd.C (Kd.int i64) w A1 l1.length l1) (hc1:l1.length<=c1) (h:zh.f k a0 l1=some r):
  Calls Tryz.prog 63 #[int i64 a0,.slice A1 l1.length c1] w λe w'=>∃ v0_:Value,e=.returned (v0_)/\Kd.R (Kd.int i64) 3 w' w.heap.size (λ_=>True) v0_ r/\Below w.heap.size w w':=by
 have HR1:=am hr1;clear hr1 hc1;have HB:=Em w;have H:=h;unfold zh.f at H;clear h;generalize hy113:(([]:List Int))=y113 at H;have Ny113:=am hy113.symm;clear hy113;have H':=am H;clear H;go_enter Tryz.func63,Tryz.ntmps63
 go_wp2_with (first|((with_reducible refine zd (N:=8) rfl ?_);refine li 3 ([]:List Int) ?_;intro v114 w3 ho4 hb;rw[<-Ny113.out]at ho4;have HO115:=am (Kd.Ai ho4 (bz HB));replace HB:=bq HB hb;clear hb ho4))
 go_loopg [5,6,7] k (λkq v5 v6 v7 w'=>∃ (x5_1:List Int) (x6_1:Int) (x7_1:Int),v6=int i64 x6_1/\v7=int i64 x7_1/\qf (zh.l0 kq a0 l1 x5_1 x6_1 x7_1=some r)/\qf (kq<=k)/\qf (Kd.R (Kd.int i64) 3 w' w.heap.size (λ_=>True) v5 x5_1)/\qf (Below w.heap.size w w'))
 case atStart=>exact⟨(y113),(0),(0),fr,fr,H',⟨Nat.le_refl _⟩,⟨wR HO115⟩,⟨bw HB⟩⟩
 case round=>
  clear H';try clear c1;try clear p2
  obtain⟨x5_1,x6_1,x7_1,rfl,rfl,HA,HK1,HO_5,HB⟩:=hrel
  cases gk with
  | zero=>exact absurd HA.out (by simp[zh.l0])
  | succ k1=>
   have H:=HA.out;clear HA;simp only[zh.l0]at H
   by_cases c5:x7_1 < (l1.length:Int)
   ·rw[if_pos c5]at H
    have c5b0:=decide_eq_true c5;clear c5
    by_cases c6:x6_1=0
    ·rw[if_pos c6]at H
     have c6b0:=beq_iff_eq.mpr c6;have c6b1:=bne_eq_false_iff_eq.mpr c6;clear c6;replace H:=Ef H;obtain⟨c7b0,H⟩:=H;replace H:=bs H;obtain⟨t117,A8,H⟩:=H;replace H:=ifm H;obtain⟨c9,H⟩:=H;have c9b0:=beq_eq_false_iff_ne.mpr c9;have c9b1:=bne_iff_ne.mpr c9;replace H:=ifn H;obtain⟨c10,H⟩:=H;have LMc10:=am c10;clear c10;generalize hy119:(x5_1++[Int.tmod (wrap64 ((rd l1 x7_1)*t117)) a0]:List Int)=y119 at H;have Ny119:=am hy119.symm;clear hy119;have H':=am H;clear H;have p116:0<=(x7_1:Int):=od;have q116:x7_1 < (l1.length:Int):=od;obtain⟨ad116,e116,hx116_0⟩:=Kd.Aj HR1.out x7_1 p116 q116
     cases e116
     replace hx116_0:=wcl HB hx116_0;replace p116:=eq_true p116;replace q116:=eq_true q116
     go_wp2_with (first|((with_reducible refine za (f:=104) rfl ?_);refine gl 22 Tryz.func104 #[int i64 a0,int i64 (rd l1 x7_1)] ?_;(with_reducible refine(jo.calls k1 a0 (rd l1 x7_1) t117 _ A8.out).mono ?_);rintro e w' ⟨rfl,⟨nd,rfl⟩⟩;refine⟨_,rfl,?_⟩;have p118:0<=(x7_1:Int):=od;have q118:x7_1 < (l1.length:Int):=od;obtain⟨ad118,e118,hx118_0⟩:=Kd.Aj HR1.out x7_1 p118 q118;obtain rfl:ad116=ad118:=(by injection e118);replace hx118_0:=wcl HB hx118_0;replace p118:=eq_true p118;replace q118:=eq_true q118)|((with_reducible refine jz (b:=.append) (xs:=#[.tmp 23,.tmp 32]) rfl ?_);at_builtin;refine Kd.Au (Kd.int i64) (w0:=w) w.heap.size rfl (.tmp 23) (.tmp 32) 37 3 (int i64 0) 8 rfl Tryz.underlying37 Ju rfl (by decide) (by omega) u5 x5_1 (Int.tmod (wrap64 ((rd l1 x7_1)*t117)) a0) [int i64 (Int.tmod (wrap64 ((rd l1 x7_1)*t117)) a0)] (λ_=>True) (λ_=>False) rfl rfl ?aP (λ_ hk=>hk.elim) ?aF ?aO ?aB ?aS ?aL ?_;(case aP=>exact rfl);(case aB=>exact(bw HB));(case aF=>exact(λ_ _=>trivial));(case aO=>exact(wR HO_5));(case aS=>exact(bz HB));(case aL=>have:=LMc10.out;omega);intro v120 w11 ho hb hg hat;rw[<-Ny119.out]at ho;replace HB:=am (hb);have HO121:=am (ho);clear HO_5;clear ho hb hg hat))
     go_roundg k1
     case measure=>have:=HK1.out;omega
     case rel=>exact⟨(y119),(t117),(wrap64 (x7_1+1)),fr,fr,H',⟨by have:=HK1.out;omega⟩,⟨wR HO121⟩,⟨bw HB⟩⟩
    ·rw[if_neg c6]at H
     have c6b0:=beq_eq_false_iff_ne.mpr c6;have c6b1:=bne_iff_ne.mpr c6;replace H:=Ef H;obtain⟨c12b0,H⟩:=H;replace H:=ifm H;obtain⟨c13,H⟩:=H;have c13b0:=beq_eq_false_iff_ne.mpr c13;have c13b1:=bne_iff_ne.mpr c13;replace H:=ifn H;obtain⟨c14,H⟩:=H;have LMc14:=am c14;clear c14;generalize hy123:(x5_1++[Int.tmod (wrap64 ((rd l1 x7_1)*x6_1)) a0]:List Int)=y123 at H;have Ny123:=am hy123.symm;clear hy123;have H':=am H;clear H;have p122:0<=(x7_1:Int):=od;have q122:x7_1 < (l1.length:Int):=od;obtain⟨ad122,e122,hx122_0⟩:=Kd.Aj HR1.out x7_1 p122 q122
     cases e122
     replace hx122_0:=wcl HB hx122_0;replace p122:=eq_true p122;replace q122:=eq_true q122
     go_wp2_with (first|((with_reducible refine jz (b:=.append) (xs:=#[.tmp 23,.tmp 32]) rfl ?_);at_builtin;refine Kd.Au (Kd.int i64) (w0:=w) w.heap.size rfl (.tmp 23) (.tmp 32) 37 3 (int i64 0) 8 rfl Tryz.underlying37 Ju rfl (by decide) (by omega) u5 x5_1 (Int.tmod (wrap64 ((rd l1 x7_1)*x6_1)) a0) [int i64 (Int.tmod (wrap64 ((rd l1 x7_1)*x6_1)) a0)] (λ_=>True) (λ_=>False) rfl rfl ?aP (λ_ hk=>hk.elim) ?aF ?aO ?aB ?aS ?aL ?_;(case aP=>exact rfl);(case aB=>exact(bw HB));(case aF=>exact(λ_ _=>trivial));(case aO=>exact(wR HO_5));(case aS=>exact(bz HB));(case aL=>have:=LMc14.out;omega);intro v124 w15 ho hb hg hat;rw[<-Ny123.out]at ho;replace HB:=am (hb);have HO125:=am (ho);clear HO_5;clear ho hb hg hat))
     go_roundg k1
     case measure=>have:=HK1.out;omega
     case rel=>exact⟨(y123),(x6_1),(wrap64 (x7_1+1)),fr,fr,H',⟨by have:=HK1.out;omega⟩,⟨wR HO125⟩,⟨bw HB⟩⟩
   ·rw[if_neg c5]at H
    have c5b0:=decide_eq_false c5;clear c5;obtain rfl:=Option.some.inj H;go_wp2;go_ret
    exact⟨_,fq,wR HO_5,bw HB⟩
def z8.l0 :Nat->List Int->Int->Option (Bool)
 | 0,_,_=>none
 | k+1,x0,x3=>if x3 < (x0.length:Int) then (if 0<=x3 then (if (rd x0 x3)=0 then (z8.l0 k x0 (wrap64 (x3+1))) else (some false)) else (none)) else (some true)
def z8.f (k:Nat) (l0:List Int):Option (Bool):=z8.l0 k l0 0
theorem z8.Ag :∀ k,(∀ y0 y1,LeO (z8.l0 k y0 y1) (z8.l0 (k+1) y0 y1))
 | 0=>λ_ _ r h=>by simp[z8.l0]at h
 | k+1=>by
  have ih0:=z8.Ag k
  ·intro y0 y1
   unfold z8.l0
   repeat' with_reducible first|intro _|apply ih0|apply Eb|apply Ec|apply Ed|apply Ee
theorem z8.mono (a0 k):LeO (z8.f k a0) (z8.f (k+1) a0):=by
 have ih0:=z8.Ag k;unfold z8.f
 repeat' with_reducible first|intro _|apply ih0|apply Eb|apply Ec|apply Ed|apply Ee
theorem z8.calls (k:Nat) (A0:Option Addr) (c0:Nat) (l0:List Int) (r:Bool) (w:World) (hr0:Kd.C (Kd.int i64) w A0 l0.length l0) (hc0:l0.length<=c0) (h:z8.f k l0=some r):
  Calls Tryz.prog 100 #[.slice A0 l0.length c0] w λe w'=>e=.returned (.bool r)/\Drawn0 w w':=by
 have HR0:=am hr0;clear hr0 hc0;have H:=h;unfold z8.f at H;clear h;have H':=am H;clear H;go_enter Tryz.func100,Tryz.ntmps100
 go_wp2
 go_loopg [3] k (λkq v3 w'=>∃ (x3_1:Int),v3=int i64 x3_1/\qf (z8.l0 kq l0 x3_1=some r)/\qf (kq<=k)/\Drawn0 w w')
 case atStart=>exact⟨(0),fr,H',⟨Nat.le_refl _⟩,df⟩
 case round=>
  clear H';try clear c1
  obtain⟨x3_1,rfl,HA,HK1,⟨m1,rfl⟩⟩:=hrel
  cases gk with
  | zero=>exact absurd HA.out (by simp[z8.l0])
  | succ k1=>
   have H:=HA.out;clear HA;simp only[z8.l0]at H;replace H:=Eg H;rcases H with ⟨c2b0,H⟩|⟨c2b0,H⟩
   ·replace H:=Ef H;obtain⟨c3b0,H⟩:=H
    by_cases c4:(rd l0 x3_1)=0
    ·rw[if_pos c4]at H
     have c4b0:=beq_iff_eq.mpr c4;have c4b1:=bne_eq_false_iff_eq.mpr c4;clear c4;have H':=am H;clear H;obtain⟨ad126,e126,hx126_0,p126,q126⟩:=Es HR0.out x3_1 od od;cases e126;go_wp2
     go_roundg k1
     case measure=>have:=HK1.out;omega
     case rel=>exact⟨(wrap64 (x3_1+1)),fr,H',⟨by have:=HK1.out;omega⟩,df⟩
    ·rw[if_neg c4]at H
     have c4b0:=beq_eq_false_iff_ne.mpr c4;have c4b1:=bne_iff_ne.mpr c4;obtain rfl:=Option.some.inj H;obtain⟨ad126,e126,hx126_0,p126,q126⟩:=Es HR0.out x3_1 od od;cases e126;go_wp2;go_ret
     exact⟨fr,df⟩
   ·obtain rfl:=Option.some.inj H;go_wp2;go_ret
    exact⟨fr,df⟩
def linB (p x:Int):Bool:=decide (0<=x) && decide (x<=wrap64 (p - 1))
theorem Jf (p x:Int):Qr.f x 0 (wrap64 (p - 1))=some (linB p x):=by
 unfold Qr.f linB
 by_cases h:x>=0
 ·rw[if_pos h,decide_eq_true (show 0<=x from h),Bool.true_and]
 ·rw[if_neg h,decide_eq_false (show ¬ 0<=x from h),Bool.false_and]
theorem qke {w:World} {b:Nat} {x y z:Int} {t:TypeId} (h:w.heap[b]? =some (.cells #[int i64 x,int i64 y,int i64 z] t (0,0))):Kd.C (Kd.int i64) w (some ⟨b,0,none⟩) 3 [x,y,z]:=by
 refine Kd.Bl (d:=(0:Int)) (h1:=λ_=>rfl) ⟨rfl,by omega,λ_=>⟨_,rfl,λj hj=>?_⟩⟩;have e:=cell_of_row w b j _ _ _ h
 rcases (show j=0\/j=1\/j=2 by omega) with rfl|rfl|rfl<;>exact e
def j9.f (k:Nat) (p x y z:Int):Option Bool:=if linB p x=true then if linB p y=true then if linB p z=true then (zh.f k p [x,y,z]).bind λr=>(z8.f k r).bind λb=>if b=true then some false else if 3<=r.length then some ((rd r 0 == x) && (rd r 1 == y) && (rd r 2 == z)) else none else some false else some false else some false
theorem j9.mono (a0 a1 a2 a3 k):LeO (j9.f k a0 a1 a2 a3) (j9.f (k+1) a0 a1 a2 a3):=by
 unfold j9.f;exact LeO.ite (LeO.ite (LeO.ite (LeO.bind (zh.mono _ _ _) λ_=>LeO.bind (z8.mono _ _) λ_=>LeO.refl _) (LeO.refl _)) (LeO.refl _)) (LeO.refl _)
def j9.T7 :Bool×List (List Nat×List Nat):=(true,[([],[]),([0],[0]),([1],[1]),([2,1],[2]),([3],[3]),([4,3],[3,4]),([5,3],[3,5]),([3],[3]),([7,3],[3,7]),([8,3],[3,8]),([6,9,3],[3,6,9]),([3,10],[3,10]),([11,3],[11]),([12],[12]),([13,12],[12,13]),([14,12],[12,14]),([12],[12]),([16,12],[12,16]),([17,12],[12,17]),([15,18,12],[12,15,18]),([12,19],[12,19]),([20,12],[20]),([21],[21]),([22,21],[21,22]),([23,21],[21,23]),([21],[21]),([25,21],[21,25]),([26,21],[21,26]),([24,27,21],[21,24,27]),([21,28],[21,28]),([29,21,0,1,2,3,4,5,6,7,8,9,10,11,12,13,14,15,16,17,18,19,20,21,22,23,24,25,26,27,28,29],[29])])
def j9.B7 :List Nat:=[0,1,3,7,15,31,63,15,143,399,1023,2047,4095,8191,16383,32767,8191,73727,204799,524287,1048575,2097151,4194303,8388607,16777215,4194303,37748735,104857599,268435455,536870911,1073741823]
theorem j9.tab7 :rtab .any (Jc Tryz.f127 7)=j9.T7:=by kernel_rfl
theorem j9.bits7 :Ql j9.T7.2 j9.B7=true:=by kernel_rfl
theorem j9.outX (k:Nat) (p x y z:Int) (r:Bool) (w:World) (hx:linB p x=false):
  Calls Tryz.prog 127 #[int i64 p,.agg #[int i64 x,int i64 y,int i64 z]] w λe w'=>e=.returned (.bool false)/\Below w.heap.size w w':=by
 have HB:=Em w;clear k;go_enter Tryz.func127,Tryz.ntmps127;go_wp2_with fail;refine wp_loop_rounds 4 ?_;rw[rounds_succ];go_wp2_with fail;refine(Qr.calls x 0 _ false _ ((Jf p x).trans (congrArg some hx))).mono ?_;rintro e w1 ⟨rfl,⟨m1,rfl⟩⟩;go_wp2_with fail
 go_ret
 exact⟨fq,bw HB⟩
theorem j9.outY (k:Nat) (p x y z:Int) (r:Bool) (w:World) (hx:linB p x=true) (hy:linB p y=false):
  Calls Tryz.prog 127 #[int i64 p,.agg #[int i64 x,int i64 y,int i64 z]] w λe w'=>e=.returned (.bool false)/\Below w.heap.size w w':=by
 have HB:=Em w;clear k;go_enter Tryz.func127,Tryz.ntmps127;go_wp2_with fail;refine wp_loop_rounds 4 ?_;rw[rounds_succ];go_wp2_with fail;refine(Qr.calls x 0 _ true _ ((Jf p x).trans (congrArg some hx))).mono ?_;rintro e w1 ⟨rfl,⟨m1,rfl⟩⟩;go_wp2_with fail;rw[rounds_succ];go_wp2_with fail;refine(Qr.calls y 0 _ false _ ((Jf p y).trans (congrArg some hy))).mono ?_;rintro e w2 ⟨rfl,⟨m2,rfl⟩⟩;go_wp2_with fail
 go_ret
 exact⟨fq,bw HB⟩
theorem j9.outZ (k:Nat) (p x y z:Int) (r:Bool) (w:World) (hx:linB p x=true) (hy:linB p y=true) (hz:linB p z=false):
  Calls Tryz.prog 127 #[int i64 p,.agg #[int i64 x,int i64 y,int i64 z]] w λe w'=>e=.returned (.bool false)/\Below w.heap.size w w':=by
 have HB:=Em w;clear k;go_enter Tryz.func127,Tryz.ntmps127;go_wp2_with fail;refine wp_loop_rounds 4 ?_;rw[rounds_succ];go_wp2_with fail;refine(Qr.calls x 0 _ true _ ((Jf p x).trans (congrArg some hx))).mono ?_;rintro e w1 ⟨rfl,⟨m1,rfl⟩⟩;go_wp2_with fail;rw[rounds_succ];go_wp2_with fail;refine(Qr.calls y 0 _ true _ ((Jf p y).trans (congrArg some hy))).mono ?_;rintro e w2 ⟨rfl,⟨m2,rfl⟩⟩;go_wp2_with fail;rw[rounds_succ];go_wp2_with fail;refine(Qr.calls z 0 _ false _ ((Jf p z).trans (congrArg some hz))).mono ?_;rintro e w3 ⟨rfl,⟨m3,rfl⟩⟩;go_wp2_with fail
 go_ret
 exact⟨fq,bw HB⟩
theorem j9.zero (k:Nat) (p x y z:Int) (r:Bool) (w:World) (hx:linB p x=true) (hy:linB p y=true) (hz:linB p z=true) (q:List Int) (hq:zh.f k p [x,y,z]=some q) (hb:z8.f k q=some true):
  Calls Tryz.prog 127 #[int i64 p,.agg #[int i64 x,int i64 y,int i64 z]] w λe w'=>e=.returned (.bool false)/\Below w.heap.size w w':=by
 have HB:=Em w;have HQ:=am hq;have HZ:=am hb;clear hq hb;go_enter Tryz.func127,Tryz.ntmps127;go_wp2_with fail;refine wp_loop_rounds 4 ?_;rw[rounds_succ];go_wp2_with fail;refine(Qr.calls x 0 _ true _ ((Jf p x).trans (congrArg some hx))).mono ?_;rintro e w1 ⟨rfl,⟨m1,rfl⟩⟩;go_wp2_with fail;rw[rounds_succ];go_wp2_with fail;refine(Qr.calls y 0 _ true _ ((Jf p y).trans (congrArg some hy))).mono ?_;rintro e w2 ⟨rfl,⟨m2,rfl⟩⟩;go_wp2_with fail;rw[rounds_succ];go_wp2_with fail;refine(Qr.calls z 0 _ true _ ((Jf p z).trans (congrArg some hz))).mono ?_;rintro e w3 ⟨rfl,⟨m3,rfl⟩⟩;go_wp2_with fail;rw[rounds_succ];go_wp2_with fail;have HX0:=am (Kd.Ad (qke (w:=w.alloc (.cells #[int i64 x,int i64 y,int i64 z] 51)) (heap_alloc_last w _)) (gs (W':=(w.alloc (.cells #[int i64 x,int i64 y,int i64 z] 51)).drewN (m1+m2+m3))));refine(zh.calls k p (some ⟨w.heap.size,0,none⟩) 3 [x,y,z] q _ (HX0.out) (Nat.le_refl _) HQ.out).mono ?_;rintro e w4 ⟨v0,rfl,hv,hb⟩;obtain⟨B1,d1,e1⟩:=Kd.Ah hv;subst e1;replace HB:=bq HB hb;have HV:=am (Kd.Ac hv);clear hv hb;go_wp2_with fail;refine st 31 (λw'=>True) [] j9.tab7 j9.bits7 trivial λhHeld HT_ HW_=>?_;refine pz 0 23 HT_ ?_;refine on 1 (some 24) HT_ λK hK=>?_;refine gs_ Tryz.func100 #[.slice B1 q.length d1] ?_;refine(z8.calls k B1 d1 q true _ (Kd.Ad HV.out.2.2 gs) HV.out.2.1 HZ.out).mono ?_;rintro e w5 ⟨rfl,⟨m5,rfl⟩⟩;refine⟨_,rfl,?_⟩;refine hK.out _ _ trivial λhHeld=>nz ?_;clear hK K;refine Et 2 25 3 26 HT_ ?_;refine po 4 27 HT_ ?_;refine po 5 28 HT_ ?_;refine po 6 29 HT_ ?_;refine po 7 30 HT_ ?_;refine po 8 31 HT_ ?_;refine po 9 32 HT_ ?_;refine po 10 33 HT_ ?_;refine Et 11 34 12 35 HT_ ?_;refine po 13 36 HT_ ?_;refine po 14 37 HT_ ?_;refine po 15 38 HT_ ?_;refine po 16 39 HT_ ?_;refine po 17 40 HT_ ?_;refine po 18 41 HT_ ?_;refine po 19 42 HT_ ?_;refine Et 20 43 21 44 HT_ ?_;refine po 22 45 HT_ ?_;refine po 23 46 HT_ ?_;refine po 24 47 HT_ ?_;refine po 25 48 HT_ ?_;refine po 26 49 HT_ ?_;refine po 27 50 HT_ ?_;refine po 28 51 HT_ ?_;refine Et 29 52 30 4 HT_ ?_;refine Zh (Qe HT_.out (by kernel_rfl)) ?_
 try go_wp2
 go_ret
 exact⟨fq,bw HB⟩
theorem j9.ne0 (k:Nat) (p x y z:Int) (r:Bool) (w:World) (hx:linB p x=true) (hy:linB p y=true) (hz:linB p z=true) (q:List Int) (hq:zh.f k p [x,y,z]=some q) (hb:z8.f k q=some false) (hl:3<=q.length) (e0:(rd q 0 == x)=false):
  Calls Tryz.prog 127 #[int i64 p,.agg #[int i64 x,int i64 y,int i64 z]] w λe w'=>e=.returned (.bool false)/\Below w.heap.size w w':=by
 have HB:=Em w;have HQ:=am hq;have HZ:=am hb;clear hq hb;go_enter Tryz.func127,Tryz.ntmps127;go_wp2_with fail;refine wp_loop_rounds 4 ?_;rw[rounds_succ];go_wp2_with fail;refine(Qr.calls x 0 _ true _ ((Jf p x).trans (congrArg some hx))).mono ?_;rintro e w1 ⟨rfl,⟨m1,rfl⟩⟩;go_wp2_with fail;rw[rounds_succ];go_wp2_with fail;refine(Qr.calls y 0 _ true _ ((Jf p y).trans (congrArg some hy))).mono ?_;rintro e w2 ⟨rfl,⟨m2,rfl⟩⟩;go_wp2_with fail;rw[rounds_succ];go_wp2_with fail;refine(Qr.calls z 0 _ true _ ((Jf p z).trans (congrArg some hz))).mono ?_;rintro e w3 ⟨rfl,⟨m3,rfl⟩⟩;go_wp2_with fail;rw[rounds_succ];go_wp2_with fail;have HX0:=am (Kd.Ad (qke (w:=w.alloc (.cells #[int i64 x,int i64 y,int i64 z] 51)) (heap_alloc_last w _)) (gs (W':=(w.alloc (.cells #[int i64 x,int i64 y,int i64 z] 51)).drewN (m1+m2+m3))));refine(zh.calls k p (some ⟨w.heap.size,0,none⟩) 3 [x,y,z] q _ (HX0.out) (Nat.le_refl _) HQ.out).mono ?_;rintro e w4 ⟨v0,rfl,hv,hb⟩;have HC0:=am (Kd.Ad HX0.out hb);obtain⟨B1,d1,e1⟩:=Kd.Ah hv;subst e1;replace HB:=bq HB hb;have HV:=am (Kd.Ac hv);clear hv hb;go_wp2_with fail;obtain⟨ad,ea,hx0⟩:=Kd.Aj HV.out.2.2 0 (by omega) (by omega);obtain rfl:=ea;obtain⟨ad1,ea1,hx1⟩:=Kd.Aj HV.out.2.2 1 (by omega) (by omega);obtain rfl:ad=ad1:=by injection ea1
 obtain⟨ad2,ea2,hx2⟩:=Kd.Aj HV.out.2.2 2 (by omega) (by omega);obtain rfl:ad=ad2:=by injection ea2
 rw[show ((0:Int)).toNat=0 from rfl,Addr.add_zero']at hx0;simp only[show (1:Int).toNat=1 from rfl,Nat.reduceMul,Nat.reduceEqDiff,Go.Addr.add,↓reduceIte]at hx1;simp only[show (2:Int).toNat=2 from rfl,Nat.reduceMul,Nat.reduceEqDiff,Go.Addr.add,↓reduceIte]at hx2;have l0:(0 < q.length)=True:=eq_true (by omega);have l1:(1 < (q.length:Int))=True:=eq_true (by omega);have l2:(2 < (q.length:Int))=True:=eq_true (by omega);obtain⟨a0,f0,g0⟩:=Kd.Aj HC0.out 0 (by omega) (by simp);obtain rfl:=Option.some.inj f0;obtain⟨a1,f1,g1⟩:=Kd.Aj HC0.out 1 (by omega) (by simp);obtain rfl:=Option.some.inj f1;obtain⟨a2,f2,g2⟩:=Kd.Aj HC0.out 2 (by omega) (by simp);obtain rfl:=Option.some.inj f2;replace g0:w4.cell? ⟨w.heap.size,0,none⟩=some (int i64 x):=g0;replace g1:w4.cell? ⟨w.heap.size,1,none⟩=some (int i64 y):=by simpa [Addr.add,rd] using g1
 replace g2:w4.cell? ⟨w.heap.size,2,none⟩=some (int i64 z):=by simpa [Addr.add,rd] using g2
 have p0:(0<=(0:Int))=True:=eq_true (by omega);have p1:(0<=(1:Int))=True:=eq_true (by omega);have p2:(0<=(2:Int))=True:=eq_true (by omega);have hHeld0:(λw'=>w'.cell? ad=some (int i64 (rd q 0))/\w'.cell? ⟨ad.block,ad.off+1,none⟩=some (int i64 (rd q 1))/\w'.cell? ⟨ad.block,ad.off+2,none⟩=some (int i64 (rd q 2))/\w'.cell? ⟨w.heap.size,0,none⟩=some (int i64 x)/\w'.cell? ⟨w.heap.size,1,none⟩=some (int i64 y)/\w'.cell? ⟨w.heap.size,2,none⟩=some (int i64 z)) w4.drew:=⟨hx0,hx1,hx2,g0,g1,g2⟩
 refine st 31 (λw'=>w'.cell? ad=some (int i64 (rd q 0))/\w'.cell? ⟨ad.block,ad.off+1,none⟩=some (int i64 (rd q 1))/\w'.cell? ⟨ad.block,ad.off+2,none⟩=some (int i64 (rd q 2))/\w'.cell? ⟨w.heap.size,0,none⟩=some (int i64 x)/\w'.cell? ⟨w.heap.size,1,none⟩=some (int i64 y)/\w'.cell? ⟨w.heap.size,2,none⟩=some (int i64 z)) [] j9.tab7 j9.bits7 hHeld0 λhHeld HT_ HW_=>?_;refine pz 0 23 HT_ ?_;refine on 1 (some 24) HT_ λK hK=>?_;refine gs_ Tryz.func100 #[.slice (some ad) q.length d1] ?_;refine(z8.calls k (some ad) d1 q false _ (Kd.Ad HV.out.2.2 gs) HV.out.2.1 HZ.out).mono ?_;rintro e w5 ⟨rfl,⟨m5,rfl⟩⟩;refine⟨_,rfl,?_⟩;refine hK.out _ _ ⟨hx0,hx1,hx2,g0,g1,g2⟩ λhHeld=>nz ?_;clear hK K;refine Et 2 25 3 26 HT_ ?_;refine Et 4 27 5 28 HT_ ?_;refine tk 6 29 HT_ HW_ hHeld ?_;refine Et 7 30 8 31 HT_ ?_;refine tk 9 32 HT_ HW_ hHeld ?_;refine Et 10 33 11 34 HT_ ?_;refine pz 12 35 HT_ ?_;refine po 13 36 HT_ ?_;refine po 14 37 HT_ ?_;refine po 15 38 HT_ ?_;refine po 16 39 HT_ ?_;refine po 17 40 HT_ ?_;refine po 18 41 HT_ ?_;refine po 19 42 HT_ ?_;refine Et 20 43 21 44 HT_ ?_;refine po 22 45 HT_ ?_;refine po 23 46 HT_ ?_;refine po 24 47 HT_ ?_;refine po 25 48 HT_ ?_;refine po 26 49 HT_ ?_;refine po 27 50 HT_ ?_;refine po 28 51 HT_ ?_;refine Et 29 52 30 4 HT_ ?_;refine Zh (Qe HT_.out (by kernel_rfl)) ?_
 try go_wp2
 go_ret
 exact⟨fq,bw HB⟩
theorem j9.ne1 (k:Nat) (p x y z:Int) (r:Bool) (w:World) (hx:linB p x=true) (hy:linB p y=true) (hz:linB p z=true) (q:List Int) (hq:zh.f k p [x,y,z]=some q) (hb:z8.f k q=some false) (hl:3<=q.length) (e0:(rd q 0 == x)=true) (e1:(rd q 1 == y)=false):
  Calls Tryz.prog 127 #[int i64 p,.agg #[int i64 x,int i64 y,int i64 z]] w λe w'=>e=.returned (.bool false)/\Below w.heap.size w w':=by
 have HB:=Em w;have HQ:=am hq;have HZ:=am hb;clear hq hb;go_enter Tryz.func127,Tryz.ntmps127;go_wp2_with fail;refine wp_loop_rounds 4 ?_;rw[rounds_succ];go_wp2_with fail;refine(Qr.calls x 0 _ true _ ((Jf p x).trans (congrArg some hx))).mono ?_;rintro e w1 ⟨rfl,⟨m1,rfl⟩⟩;go_wp2_with fail;rw[rounds_succ];go_wp2_with fail;refine(Qr.calls y 0 _ true _ ((Jf p y).trans (congrArg some hy))).mono ?_;rintro e w2 ⟨rfl,⟨m2,rfl⟩⟩;go_wp2_with fail;rw[rounds_succ];go_wp2_with fail;refine(Qr.calls z 0 _ true _ ((Jf p z).trans (congrArg some hz))).mono ?_;rintro e w3 ⟨rfl,⟨m3,rfl⟩⟩;go_wp2_with fail;rw[rounds_succ];go_wp2_with fail;have HX0:=am (Kd.Ad (qke (w:=w.alloc (.cells #[int i64 x,int i64 y,int i64 z] 51)) (heap_alloc_last w _)) (gs (W':=(w.alloc (.cells #[int i64 x,int i64 y,int i64 z] 51)).drewN (m1+m2+m3))));refine(zh.calls k p (some ⟨w.heap.size,0,none⟩) 3 [x,y,z] q _ (HX0.out) (Nat.le_refl _) HQ.out).mono ?_;rintro e w4 ⟨v0,rfl,hv,hb⟩;have HC0:=am (Kd.Ad HX0.out hb);obtain⟨B1,d1,e1⟩:=Kd.Ah hv;subst e1;replace HB:=bq HB hb;have HV:=am (Kd.Ac hv);clear hv hb;go_wp2_with fail;obtain⟨ad,ea,hx0⟩:=Kd.Aj HV.out.2.2 0 (by omega) (by omega);obtain rfl:=ea;obtain⟨ad1,ea1,hx1⟩:=Kd.Aj HV.out.2.2 1 (by omega) (by omega);obtain rfl:ad=ad1:=by injection ea1
 obtain⟨ad2,ea2,hx2⟩:=Kd.Aj HV.out.2.2 2 (by omega) (by omega);obtain rfl:ad=ad2:=by injection ea2
 rw[show ((0:Int)).toNat=0 from rfl,Addr.add_zero']at hx0;simp only[show (1:Int).toNat=1 from rfl,Nat.reduceMul,Nat.reduceEqDiff,Go.Addr.add,↓reduceIte]at hx1;simp only[show (2:Int).toNat=2 from rfl,Nat.reduceMul,Nat.reduceEqDiff,Go.Addr.add,↓reduceIte]at hx2;have l0:(0 < q.length)=True:=eq_true (by omega);have l1:(1 < (q.length:Int))=True:=eq_true (by omega);have l2:(2 < (q.length:Int))=True:=eq_true (by omega);obtain⟨a0,f0,g0⟩:=Kd.Aj HC0.out 0 (by omega) (by simp);obtain rfl:=Option.some.inj f0;obtain⟨a1,f1,g1⟩:=Kd.Aj HC0.out 1 (by omega) (by simp);obtain rfl:=Option.some.inj f1;obtain⟨a2,f2,g2⟩:=Kd.Aj HC0.out 2 (by omega) (by simp);obtain rfl:=Option.some.inj f2;replace g0:w4.cell? ⟨w.heap.size,0,none⟩=some (int i64 x):=g0;replace g1:w4.cell? ⟨w.heap.size,1,none⟩=some (int i64 y):=by simpa [Addr.add,rd] using g1
 replace g2:w4.cell? ⟨w.heap.size,2,none⟩=some (int i64 z):=by simpa [Addr.add,rd] using g2
 have p0:(0<=(0:Int))=True:=eq_true (by omega);have p1:(0<=(1:Int))=True:=eq_true (by omega);have p2:(0<=(2:Int))=True:=eq_true (by omega);have hHeld0:(λw'=>w'.cell? ad=some (int i64 (rd q 0))/\w'.cell? ⟨ad.block,ad.off+1,none⟩=some (int i64 (rd q 1))/\w'.cell? ⟨ad.block,ad.off+2,none⟩=some (int i64 (rd q 2))/\w'.cell? ⟨w.heap.size,0,none⟩=some (int i64 x)/\w'.cell? ⟨w.heap.size,1,none⟩=some (int i64 y)/\w'.cell? ⟨w.heap.size,2,none⟩=some (int i64 z)) w4.drew:=⟨hx0,hx1,hx2,g0,g1,g2⟩
 refine st 31 (λw'=>w'.cell? ad=some (int i64 (rd q 0))/\w'.cell? ⟨ad.block,ad.off+1,none⟩=some (int i64 (rd q 1))/\w'.cell? ⟨ad.block,ad.off+2,none⟩=some (int i64 (rd q 2))/\w'.cell? ⟨w.heap.size,0,none⟩=some (int i64 x)/\w'.cell? ⟨w.heap.size,1,none⟩=some (int i64 y)/\w'.cell? ⟨w.heap.size,2,none⟩=some (int i64 z)) [] j9.tab7 j9.bits7 hHeld0 λhHeld HT_ HW_=>?_;refine pz 0 23 HT_ ?_;refine on 1 (some 24) HT_ λK hK=>?_;refine gs_ Tryz.func100 #[.slice (some ad) q.length d1] ?_;refine(z8.calls k (some ad) d1 q false _ (Kd.Ad HV.out.2.2 gs) HV.out.2.1 HZ.out).mono ?_;rintro e w5 ⟨rfl,⟨m5,rfl⟩⟩;refine⟨_,rfl,?_⟩;refine hK.out _ _ ⟨hx0,hx1,hx2,g0,g1,g2⟩ λhHeld=>nz ?_;clear hK K;refine Et 2 25 3 26 HT_ ?_;refine Et 4 27 5 28 HT_ ?_;refine tk 6 29 HT_ HW_ hHeld ?_;refine Et 7 30 8 31 HT_ ?_;refine tk 9 32 HT_ HW_ hHeld ?_;refine Et 10 33 11 34 HT_ ?_;refine Et 12 35 13 36 HT_ ?_;refine pz 14 37 HT_ ?_;refine tk 15 38 HT_ HW_ hHeld ?_;refine Et 16 39 17 40 HT_ ?_;refine tk 18 41 HT_ HW_ hHeld ?_;refine Et 19 42 20 43 HT_ ?_;refine pz 21 44 HT_ ?_;refine po 22 45 HT_ ?_;refine po 23 46 HT_ ?_;refine po 24 47 HT_ ?_;refine po 25 48 HT_ ?_;refine po 26 49 HT_ ?_;refine po 27 50 HT_ ?_;refine po 28 51 HT_ ?_;refine Et 29 52 30 4 HT_ ?_;refine Zh (Qe HT_.out (by kernel_rfl)) ?_
 try go_wp2
 go_ret
 exact⟨fq,bw HB⟩
theorem j9.eq (k:Nat) (p x y z:Int) (r:Bool) (w:World) (hx:linB p x=true) (hy:linB p y=true) (hz:linB p z=true) (q:List Int) (hq:zh.f k p [x,y,z]=some q) (hb:z8.f k q=some false) (hl:3<=q.length) (e0:(rd q 0 == x)=true) (e1:(rd q 1 == y)=true):
  Calls Tryz.prog 127 #[int i64 p,.agg #[int i64 x,int i64 y,int i64 z]] w λe w'=>e=.returned (.bool (rd q 2 == z))/\Below w.heap.size w w':=by
 have HB:=Em w;have HQ:=am hq;have HZ:=am hb;clear hq hb;go_enter Tryz.func127,Tryz.ntmps127;go_wp2_with fail;refine wp_loop_rounds 4 ?_;rw[rounds_succ];go_wp2_with fail;refine(Qr.calls x 0 _ true _ ((Jf p x).trans (congrArg some hx))).mono ?_;rintro e w1 ⟨rfl,⟨m1,rfl⟩⟩;go_wp2_with fail;rw[rounds_succ];go_wp2_with fail;refine(Qr.calls y 0 _ true _ ((Jf p y).trans (congrArg some hy))).mono ?_;rintro e w2 ⟨rfl,⟨m2,rfl⟩⟩;go_wp2_with fail;rw[rounds_succ];go_wp2_with fail;refine(Qr.calls z 0 _ true _ ((Jf p z).trans (congrArg some hz))).mono ?_;rintro e w3 ⟨rfl,⟨m3,rfl⟩⟩;go_wp2_with fail;rw[rounds_succ];go_wp2_with fail;have HX0:=am (Kd.Ad (qke (w:=w.alloc (.cells #[int i64 x,int i64 y,int i64 z] 51)) (heap_alloc_last w _)) (gs (W':=(w.alloc (.cells #[int i64 x,int i64 y,int i64 z] 51)).drewN (m1+m2+m3))));refine(zh.calls k p (some ⟨w.heap.size,0,none⟩) 3 [x,y,z] q _ (HX0.out) (Nat.le_refl _) HQ.out).mono ?_;rintro e w4 ⟨v0,rfl,hv,hb⟩;have HC0:=am (Kd.Ad HX0.out hb);obtain⟨B1,d1,e1⟩:=Kd.Ah hv;subst e1;replace HB:=bq HB hb;have HV:=am (Kd.Ac hv);clear hv hb;go_wp2_with fail;obtain⟨ad,ea,hx0⟩:=Kd.Aj HV.out.2.2 0 (by omega) (by omega);obtain rfl:=ea;obtain⟨ad1,ea1,hx1⟩:=Kd.Aj HV.out.2.2 1 (by omega) (by omega);obtain rfl:ad=ad1:=by injection ea1
 obtain⟨ad2,ea2,hx2⟩:=Kd.Aj HV.out.2.2 2 (by omega) (by omega);obtain rfl:ad=ad2:=by injection ea2
 rw[show ((0:Int)).toNat=0 from rfl,Addr.add_zero']at hx0;simp only[show (1:Int).toNat=1 from rfl,Nat.reduceMul,Nat.reduceEqDiff,Go.Addr.add,↓reduceIte]at hx1;simp only[show (2:Int).toNat=2 from rfl,Nat.reduceMul,Nat.reduceEqDiff,Go.Addr.add,↓reduceIte]at hx2;have l0:(0 < q.length)=True:=eq_true (by omega);have l1:(1 < (q.length:Int))=True:=eq_true (by omega);have l2:(2 < (q.length:Int))=True:=eq_true (by omega);obtain⟨a0,f0,g0⟩:=Kd.Aj HC0.out 0 (by omega) (by simp);obtain rfl:=Option.some.inj f0;obtain⟨a1,f1,g1⟩:=Kd.Aj HC0.out 1 (by omega) (by simp);obtain rfl:=Option.some.inj f1;obtain⟨a2,f2,g2⟩:=Kd.Aj HC0.out 2 (by omega) (by simp);obtain rfl:=Option.some.inj f2;replace g0:w4.cell? ⟨w.heap.size,0,none⟩=some (int i64 x):=g0;replace g1:w4.cell? ⟨w.heap.size,1,none⟩=some (int i64 y):=by simpa [Addr.add,rd] using g1
 replace g2:w4.cell? ⟨w.heap.size,2,none⟩=some (int i64 z):=by simpa [Addr.add,rd] using g2
 have p0:(0<=(0:Int))=True:=eq_true (by omega);have p1:(0<=(1:Int))=True:=eq_true (by omega);have p2:(0<=(2:Int))=True:=eq_true (by omega);have hHeld0:(λw'=>w'.cell? ad=some (int i64 (rd q 0))/\w'.cell? ⟨ad.block,ad.off+1,none⟩=some (int i64 (rd q 1))/\w'.cell? ⟨ad.block,ad.off+2,none⟩=some (int i64 (rd q 2))/\w'.cell? ⟨w.heap.size,0,none⟩=some (int i64 x)/\w'.cell? ⟨w.heap.size,1,none⟩=some (int i64 y)/\w'.cell? ⟨w.heap.size,2,none⟩=some (int i64 z)) w4.drew:=⟨hx0,hx1,hx2,g0,g1,g2⟩
 refine st 31 (λw'=>w'.cell? ad=some (int i64 (rd q 0))/\w'.cell? ⟨ad.block,ad.off+1,none⟩=some (int i64 (rd q 1))/\w'.cell? ⟨ad.block,ad.off+2,none⟩=some (int i64 (rd q 2))/\w'.cell? ⟨w.heap.size,0,none⟩=some (int i64 x)/\w'.cell? ⟨w.heap.size,1,none⟩=some (int i64 y)/\w'.cell? ⟨w.heap.size,2,none⟩=some (int i64 z)) [] j9.tab7 j9.bits7 hHeld0 λhHeld HT_ HW_=>?_;refine pz 0 23 HT_ ?_;refine on 1 (some 24) HT_ λK hK=>?_;refine gs_ Tryz.func100 #[.slice (some ad) q.length d1] ?_;refine(z8.calls k (some ad) d1 q false _ (Kd.Ad HV.out.2.2 gs) HV.out.2.1 HZ.out).mono ?_;rintro e w5 ⟨rfl,⟨m5,rfl⟩⟩;refine⟨_,rfl,?_⟩;refine hK.out _ _ ⟨hx0,hx1,hx2,g0,g1,g2⟩ λhHeld=>nz ?_;clear hK K;refine Et 2 25 3 26 HT_ ?_;refine Et 4 27 5 28 HT_ ?_;refine tk 6 29 HT_ HW_ hHeld ?_;refine Et 7 30 8 31 HT_ ?_;refine tk 9 32 HT_ HW_ hHeld ?_;refine Et 10 33 11 34 HT_ ?_;refine Et 12 35 13 36 HT_ ?_;refine pz 14 37 HT_ ?_;refine tk 15 38 HT_ HW_ hHeld ?_;refine Et 16 39 17 40 HT_ ?_;refine tk 18 41 HT_ HW_ hHeld ?_;refine Et 19 42 20 43 HT_ ?_;refine Et 21 44 22 45 HT_ ?_;refine pz 23 46 HT_ ?_;refine tk 24 47 HT_ HW_ hHeld ?_;refine Et 25 48 26 49 HT_ ?_;refine tk 27 50 HT_ HW_ hHeld ?_;refine Et 28 51 29 52 HT_ ?_;refine pz 30 4 HT_ ?_;refine Zh (Qe HT_.out (by kernel_rfl)) ?_
 try go_wp2
 go_ret
 exact⟨fq,bw HB⟩
theorem j9.calls (k:Nat) (p x y z:Int) (r:Bool) (w:World) (h:j9.f k p x y z=some r):
  Calls Tryz.prog 127 #[int i64 p,.agg #[int i64 x,int i64 y,int i64 z]] w λe w'=>e=.returned (.bool r)/\Below w.heap.size w w':=by
 unfold j9.f at h
 split at h
 next hx=>
  split at h
  next hy=>
   split at h
   next hz=>
    obtain⟨q,hq,h⟩:=Option.bind_eq_some_iff.1 h;obtain⟨b,hb,h⟩:=Option.bind_eq_some_iff.1 h
    cases b with
    | true=>obtain rfl:=Option.some.inj h;exact j9.zero k p x y z false w hx hy hz q hq hb
    | false=>
     rw[if_neg (by simp)]at h
     split at h
     next hl=>
      replace h:=Option.some.inj h
      cases e0:(rd q 0 == x) with
      | false=>rw[e0]at h;subst h;exact j9.ne0 k p x y z false w hx hy hz q hq hb hl e0
      | true=>
       cases e1:(rd q 1 == y) with
       | false=>rw[e0,e1]at h;subst h;exact j9.ne1 k p x y z false w hx hy hz q hq hb hl e0 e1
       | true=>rw[e0,e1]at h;subst h;exact j9.eq k p x y z false w hx hy hz q hq hb hl e0 e1
     next=>exact absurd h (by simp)
   next hz=>obtain rfl:=Option.some.inj h;exact j9.outZ k p x y z false w hx hy (by simpa using hz)
  next hy=>obtain rfl:=Option.some.inj h;exact j9.outY k p x y z false w hx (by simpa using hy)
 next hx=>obtain rfl:=Option.some.inj h;exact j9.outX k p x y z false w (by simpa using hx)
def Qv.f (k:Nat) (a0:Int) (a1_0:Int) (a1_1:Int) (a1_2:Int):Option (Bool):=(Zy.f a0).bind λt128=>(if t128=true then ((j9.f k a0 a1_0 a1_1 a1_2).bind λt129=>(some t129)) else (some false))
theorem Qv.mono (a0 a1 a2 a3 k):LeO (Qv.f k a0 a1 a2 a3) (Qv.f (k+1) a0 a1 a2 a3):=by
 unfold Qv.f
 repeat' with_reducible first|intro _|apply j9.mono|apply Eb|apply Ec|apply Ed|apply Ee
theorem Qv.calls (k:Nat) (a0:Int) (a1_0:Int) (a1_1:Int) (a1_2:Int) (r:Bool) (w:World) (h:Qv.f k a0 a1_0 a1_1 a1_2=some r):
  Calls Tryz.prog 95 #[int i64 a0,.agg #[int i64 a1_0,int i64 a1_1,int i64 a1_2]] w λe w'=>e=.returned (.bool r)/\Below w.heap.size w w':=by
 have HB:=Em w;have H:=h;unfold Qv.f at H;clear h;replace H:=bs H;obtain⟨t128,A3,H⟩:=H
 by_cases c4:t128=true
 ·subst c4
  rw[if_pos rfl]at H;replace H:=bs H;obtain⟨t129,A5,H⟩:=H;obtain rfl:=Option.some.inj H;go_enter Tryz.func95,Tryz.ntmps95
  go_wp2_with (first|((with_reducible refine zd (N:=3) rfl ?_);refine xe_ 3 51 #[int i64 a1_0,int i64 a1_1,int i64 a1_2] ?_;intro gb127 hg w6 hbox hb;have BK127:=am (hbox);have GW127:=Ek HB hg;replace HB:=bq HB hb;clear hb hbox hg)|((with_reducible refine za (f:=126) rfl ?_);refine gl 6 Tryz.func126 #[int i64 a0] ?_;(with_reducible refine(Zy.calls a0 true _ A3.out).mono ?_);rintro e w' ⟨rfl,⟨nd,rfl⟩⟩;refine⟨_,rfl,?_⟩;have hcz7_0:=En BK127.out;have hcz7_1:=Eo BK127.out;have hcz7_2:=Ep BK127.out;have hfz7_0:=ql BK127.out 0;have hfz7_1:=ql BK127.out 1;have hfz7_2:=ql BK127.out 2)|(go_at_call 127;(with_reducible refine(j9.calls k a0 a1_0 a1_1 a1_2 t129 _ A5.out).mono ?_);rintro e w8 ⟨rfl,hb⟩;replace HB:=am (ze (bx_ HB) hb);(try clear hb)))
  go_ret
  exact⟨fq,bx_ HB⟩
 ·replace c4:=Bool.eq_false_iff.mpr c4
  subst c4;rw[if_neg (show ¬ (false=true) by decide)]at H;obtain rfl:=Option.some.inj H;go_enter Tryz.func95,Tryz.ntmps95
  go_wp2_with (first|((with_reducible refine zd (N:=3) rfl ?_);refine xe_ 3 51 #[int i64 a1_0,int i64 a1_1,int i64 a1_2] ?_;intro gb127 hg w9 hbox hb;have GW127:=Ek HB hg;replace HB:=bq HB hb;clear hb hbox hg)|((with_reducible refine za (f:=126) rfl ?_);refine gl 6 Tryz.func126 #[int i64 a0] ?_;(with_reducible refine(Zy.calls a0 false _ A3.out).mono ?_);rintro e w' ⟨rfl,⟨nd,rfl⟩⟩;refine⟨_,rfl,?_⟩))
  go_ret
  exact⟨fq,bx_ HB⟩
mutual
def qv.l0 :Nat->Int->List (S51)->Int->Option (Bool)
 | 0,_,_,_=>none
 | k+1,x0,x1,x5=>if x5 < (x1.length:Int) then (if 0<=x5 then ((Qv.f k x0 ((qg x1 x5).f0.f0) ((qg x1 x5).f0.f1) ((qg x1 x5).f0.f2)).bind λt131=>(if t131=true then (qv.l1 k x0 x1 x5 0) else (some false))) else (none)) else (some true)
def qv.l1 :Nat->Int->List (S51)->Int->Int->Option (Bool)
 | 0,_,_,_,_=>none
 | k+1,x0,x1,x5,x6=>if x6 < x5 then (qv.l2 k x0 x1 x5 x6 0) else (qv.l0 k x0 x1 (wrap64 (x5+1)))
def qv.l2 :Nat->Int->List (S51)->Int->Int->Int->Option (Bool)
 | 0,_,_,_,_,_=>none
 | k+1,x0,x1,x5,x6,x7=>if x7 < x6 then (if 0<=x5 then (if x5 < (x1.length:Int) then (if 0<=x6 then (if x6 < (x1.length:Int) then (if 0<=x7 then (if x7 < (x1.length:Int) then ((Qy.f x0 ((qg x1 x6).f0.f0) ((qg x1 x6).f0.f1) ((qg x1 x6).f0.f2) ((qg x1 x7).f0.f0) ((qg x1 x7).f0.f1) ((qg x1 x7).f0.f2)).bind λt135=>((Jy.f x0 ((qg x1 x5).f0.f0) ((qg x1 x5).f0.f1) ((qg x1 x5).f0.f2) t135).bind λt138=>(if t138=true then (some false) else (qv.l2 k x0 x1 x5 x6 (wrap64 (x7+1)))))) else (none)) else (none)) else (none)) else (none)) else (none)) else (none)) else (qv.l1 k x0 x1 x5 (wrap64 (x6+1)))
end
def qv.f (k:Nat) (a0:Int) (l1:List (S51)):Option (Bool):=qv.l0 k a0 l1 0
theorem qv.Ag :∀ k,(∀ y0 y1 y2,LeO (qv.l0 k y0 y1 y2) (qv.l0 (k+1) y0 y1 y2))/\(∀ y0 y1 y2 y3,LeO (qv.l1 k y0 y1 y2 y3) (qv.l1 (k+1) y0 y1 y2 y3))/\(∀ y0 y1 y2 y3 y4,LeO (qv.l2 k y0 y1 y2 y3 y4) (qv.l2 (k+1) y0 y1 y2 y3 y4))
 | 0=>⟨λ_ _ _ r h=>by simp[qv.l0]at h,λ_ _ _ _ r h=>by simp[qv.l1]at h,λ_ _ _ _ _ r h=>by simp[qv.l2]at h⟩
 | k+1=>by
  obtain⟨ih0,ih1,ih2⟩:=qv.Ag k;refine⟨?_,?_,?_⟩
  ·intro y0 y1 y2
   unfold qv.l0
   repeat' with_reducible first|intro _|apply ih0|apply ih1|apply ih2|apply Qv.mono|apply Eb|apply Ec|apply Ed|apply Ee
  ·intro y0 y1 y2 y3
   unfold qv.l1
   repeat' with_reducible first|intro _|apply ih0|apply ih1|apply ih2|apply Qv.mono|apply Eb|apply Ec|apply Ed|apply Ee
  ·intro y0 y1 y2 y3 y4
   unfold qv.l2
   repeat' with_reducible first|intro _|apply ih0|apply ih1|apply ih2|apply Qv.mono|apply Eb|apply Ec|apply Ed|apply Ee
theorem qv.mono (a0 a1 k):LeO (qv.f k a0 a1) (qv.f (k+1) a0 a1):=by
 obtain⟨ih0,ih1,ih2⟩:=qv.Ag k;unfold qv.f
 repeat' with_reducible first|intro _|apply ih0|apply ih1|apply ih2|apply Qv.mono|apply Eb|apply Ec|apply Ed|apply Ee
def qv.T12 :Bool×List (List Nat×List Nat):=(true,[([],[]),([],[]),([],[]),([1,2],[1,2]),([3],[3]),([],[]),([],[]),([],[]),([6,7],[6,7]),([8],[8]),([],[]),([],[]),([10,11],[10,11]),([12],[12]),([5,9,13],[5,9,13]),([0,4,14,14],[0,4,14])])
def qv.B12 :List Nat:=[0,0,0,6,14,0,0,0,192,448,0,0,3072,7168,16352,32767]
theorem qv.tab12 :rtab .any (Jc Tryz.f46 12)=qv.T12:=by kernel_rfl
theorem qv.bits12 :Ql qv.T12.2 qv.B12=true:=by kernel_rfl
set_option maxHeartbeats 8000000 in
set_option maxRecDepth 100000 in
theorem qv.calls (k:Nat) (a0:Int) (A1:Option Addr) (c1:Nat) (l1:List (S51)) (r:Bool) (w:World) (hr1:Kd.C k51 w A1 l1.length l1) (hc1:l1.length<=c1) (h:qv.f k a0 l1=some r):
  Calls Tryz.prog 46 #[int i64 a0,.slice A1 l1.length c1] w λe w'=>e=.returned (.bool r)/\Below w.heap.size w w':=by
 have HR1:=am hr1;clear hr1 hc1;have HB:=Em w;have H:=h;unfold qv.f at H;clear h;have H':=am H;clear H;go_enter Tryz.func46,Tryz.ntmps46
 go_wp2
 go_loopg [5] k (λkq v5 w'=>∃ (x5_1:Int),v5=int i64 x5_1/\qf (qv.l0 kq a0 l1 x5_1=some r)/\qf (kq<=k)/\qf (Below w.heap.size w w'))
 case atStart=>exact⟨(0),fr,H',⟨Nat.le_refl _⟩,⟨bw HB⟩⟩
 case round =>
  clear H';try clear c1;try clear p2
  obtain⟨x5_1,rfl,HA,HK1,HB⟩:=hrel
  cases gk with
  | zero=>exact absurd HA.out (by simp[qv.l0])
  | succ k1 =>
   have H:=HA.out;clear HA;simp only[qv.l0]at H;replace H:=Eg H;rcases H with ⟨c3b0,H⟩|⟨c3b0,H⟩
   ·replace H:=Ef H;obtain⟨c4b0,H⟩:=H;replace H:=bs H;obtain⟨t131,A5,H⟩:=H
    by_cases c6:t131=true
    ·subst c6
     rw[if_pos rfl]at H;have H':=am H;clear H;have p130:0<=(x5_1:Int):=od;have q130:x5_1 < (l1.length:Int):=od;obtain⟨ad130,e130,hx130_0,hx130_1,hx130_2⟩:=Zn HR1.out x5_1 p130 q130
     cases e130
     replace hx130_0:=wcl HB hx130_0;replace hx130_1:=wcl HB hx130_1;replace hx130_2:=wcl HB hx130_2;replace p130:=eq_true p130;replace q130:=eq_true q130
     go_wp2_with (first|((with_reducible refine za (f:=95) rfl ?_);refine gl 19 Tryz.func95 #[int i64 a0,.agg #[int i64 ((qg l1 x5_1).f0.f0),int i64 ((qg l1 x5_1).f0.f1),int i64 ((qg l1 x5_1).f0.f2)]] ?_;(with_reducible refine(Qv.calls k1 a0 ((qg l1 x5_1).f0.f0) ((qg l1 x5_1).f0.f1) ((qg l1 x5_1).f0.f2) true _ A5.out).mono ?_);rintro e w7 ⟨rfl,hb⟩;refine⟨_,rfl,?_⟩;replace HB:=bq HB hb;(try clear hb)))
     go_loopg [6] k1 (λkq v6 w'=>∃ (x6_2:Int),v6=int i64 x6_2/\qf (qv.l1 kq a0 l1 x5_1 x6_2=some r)/\qf (kq<=k1)/\qf (Below w.heap.size w w'))
     case atStart=>exact⟨(0),fr,H',⟨Nat.le_refl _⟩,⟨bw HB⟩⟩
     case round=>
      clear H';try clear c1;try clear p1;try clear q1;try clear hx1;try clear p2;try clear c3;try clear c3b0;try clear c4;try clear c4b0;try clear c6;try clear hx130_0;try clear hx130_1;try clear hx130_2;try clear p130;try clear p2
      try clear q130
      obtain⟨x6_2,rfl,HA,HK2,HB⟩:=hrel
      cases gk with
      | zero=>exact absurd HA.out (by simp[qv.l1])
      | succ k2=>
       have H:=HA.out;clear HA;simp only[qv.l1]at H;replace H:=Eg H;rcases H with ⟨c8b0,H⟩|⟨c8b0,H⟩
       ·have H':=am H;clear H;go_wp2
        go_loopg [7] k2 (λkq v7 w'=>∃ (x7_3:Int),v7=int i64 x7_3/\qf (qv.l2 kq a0 l1 x5_1 x6_2 x7_3=some r)/\qf (kq<=k2)/\qf (Below w.heap.size w w'))
        case atStart=>exact⟨(0),fr,H',⟨Nat.le_refl _⟩,⟨bw HB⟩⟩
        case round=>
         clear H';try clear c1;try clear p1;try clear q1;try clear hx1;try clear p2;try clear c3;try clear c3b0;try clear c4;try clear c4b0;try clear c6;try clear c8;try clear c8b0;try clear hx130_0;try clear hx130_1;try clear hx130_2
         try clear p1;try clear p130;try clear p2;try clear q1;try clear q130
         obtain⟨x7_3,rfl,HA,HK3,HB⟩:=hrel
         cases gk with
         | zero=>exact absurd HA.out (by simp[qv.l2])
         | succ k3=>
          have H:=HA.out;clear HA;simp only[qv.l2]at H;replace H:=Eg H;rcases H with ⟨c9b0,H⟩|⟨c9b0,H⟩
          ·replace H:=Ef H;obtain⟨c10b0,H⟩:=H;replace H:=Ef H;obtain⟨c11b0,H⟩:=H;replace H:=ifn H;obtain⟨c12,H⟩:=H
           have c12b0:=decide_eq_true c12;clear c12;replace H:=Ef H;obtain⟨c13b0,H⟩:=H;replace H:=Ef H;obtain⟨c14b0,H⟩:=H;replace H:=ifn H;obtain⟨c15,H⟩:=H;have c15b0:=decide_eq_true c15;clear c15;replace H:=bs H;obtain⟨t135,A16,H⟩:=H;replace H:=bs H;obtain⟨t138,A17,H⟩:=H
           by_cases c18:t138=true
           ·subst c18
            rw[if_pos rfl]at H;obtain rfl:=Option.some.inj H
            try go_wp2
            replace HB:=am (Qn HB.out);have p132:0<=(x5_1:Int):=od;have q132:x5_1 < (l1.length:Int):=od;obtain⟨ad132,e132,hx132_0,hx132_1,hx132_2⟩:=Zn HR1.out x5_1 p132 q132;have hw132_2:=hx132_2;have hw132_1:=hx132_1;have hw132_0:=hx132_0;obtain rfl:ad130=ad132:=(by injection e132)
            replace hx132_0:=wcl HB hx132_0;replace hx132_1:=wcl HB hx132_1;replace hx132_2:=wcl HB hx132_2;replace p132:=eq_true p132;replace q132:=eq_true q132;have p133:0<=(x6_2:Int):=od;have q133:x6_2 < (l1.length:Int):=od;obtain⟨ad133,e133,hx133_0,hx133_1,hx133_2⟩:=Zn HR1.out x6_2 p133 q133;have hw133_2:=hx133_2;have hw133_1:=hx133_1;have hw133_0:=hx133_0;obtain rfl:ad130=ad133:=(by injection e133)
            replace hx133_0:=wcl HB hx133_0;replace hx133_1:=wcl HB hx133_1;replace hx133_2:=wcl HB hx133_2;replace p133:=eq_true p133;replace q133:=eq_true q133;have p134:0<=(x7_3:Int):=od;have q134:x7_3 < (l1.length:Int):=od;obtain⟨ad134,e134,hx134_0,hx134_1,hx134_2⟩:=Zn HR1.out x7_3 p134 q134;have hw134_2:=hx134_2;have hw134_1:=hx134_1;have hw134_0:=hx134_0;obtain rfl:ad130=ad134:=(by injection e134)
            replace hx134_0:=wcl HB hx134_0;replace hx134_1:=wcl HB hx134_1;replace hx134_2:=wcl HB hx134_2;replace p134:=eq_true p134;replace q134:=eq_true q134;refine st 16 (λw'=>w'.cell? (ad130.add ((x5_1).toNat*3))=some (int i64 ((qg l1 x5_1).f0.f0))/\w'.cell? ⟨(ad130.add ((x5_1).toNat*3)).block,(ad130.add ((x5_1).toNat*3)).off+1,none⟩=some (int i64 ((qg l1 x5_1).f0.f1))/\w'.cell? ⟨(ad130.add ((x5_1).toNat*3)).block,(ad130.add ((x5_1).toNat*3)).off+2,none⟩=some (int i64 ((qg l1 x5_1).f0.f2))/\w'.cell? (ad130.add ((x6_2).toNat*3))=some (int i64 ((qg l1 x6_2).f0.f0))/\w'.cell? ⟨(ad130.add ((x6_2).toNat*3)).block,(ad130.add ((x6_2).toNat*3)).off+1,none⟩=some (int i64 ((qg l1 x6_2).f0.f1))/\w'.cell? ⟨(ad130.add ((x6_2).toNat*3)).block,(ad130.add ((x6_2).toNat*3)).off+2,none⟩=some (int i64 ((qg l1 x6_2).f0.f2))/\w'.cell? (ad130.add ((x7_3).toNat*3))=some (int i64 ((qg l1 x7_3).f0.f0))/\w'.cell? ⟨(ad130.add ((x7_3).toNat*3)).block,(ad130.add ((x7_3).toNat*3)).off+1,none⟩=some (int i64 ((qg l1 x7_3).f0.f1))/\w'.cell? ⟨(ad130.add ((x7_3).toNat*3)).block,(ad130.add ((x7_3).toNat*3)).off+2,none⟩=some (int i64 ((qg l1 x7_3).f0.f2))) [] qv.tab12 qv.bits12 (⟨(wcl HB hw132_0),(wcl HB hw132_1),(wcl HB hw132_2),(wcl HB hw133_0),(wcl HB hw133_1),(wcl HB hw133_2),(wcl HB hw134_0),(wcl HB hw134_1),(wcl HB hw134_2)⟩) λhHeld HT_ HW_=>?_;generalize wr.drew=w19 at HB hx132_0 hx132_1 hx132_2 hx133_0 hx133_1 hx133_2 hx134_0 hx134_1 hx134_2 hHeld ⊢;refine Et 0 31 1 32 HT_ ?_;refine Et 2 33 3 34 HT_ ?_;refine Et 5 36 6 37 HT_ ?_;refine Et 7 38 8 39 HT_ ?_;refine Et 10 41 11 42 HT_ ?_;refine pz 12 43 HT_ ?_;refine tk 4 35 HT_ HW_ hHeld ?_;refine tk 9 40 HT_ HW_ hHeld ?_;refine tk 13 44 HT_ HW_ hHeld ?_;refine on 14 (some 45) HT_ λK hK=>?_;refine gs_ Tryz.func53 #[int i64 a0,.agg #[int i64 ((qg l1 x6_2).f0.f0),int i64 ((qg l1 x6_2).f0.f1),int i64 ((qg l1 x6_2).f0.f2)],.agg #[int i64 ((qg l1 x7_3).f0.f0),int i64 ((qg l1 x7_3).f0.f1),int i64 ((qg l1 x7_3).f0.f2)]] ?_
            with_reducible refine(Qy.calls a0 ((qg l1 x6_2).f0.f0) ((qg l1 x6_2).f0.f1) ((qg l1 x6_2).f0.f2) ((qg l1 x7_3).f0.f0) ((qg l1 x7_3).f0.f1) ((qg l1 x7_3).f0.f2) t135 _ A16.out).mono ?_
            rintro e w20 ⟨v136,rfl,ho0,hb⟩;refine⟨_,rfl,?_⟩;have HO137:=am (Kd.Ai ho0 (bz HB));replace HB:=bq HB hb
            (try clear hb)
            (try clear ho0)
            obtain⟨Ao21,co21,eo21⟩:=Kd.Ah HO137.out
            (first|subst eo21|(injection eo21 with f1_ f2_ f3_;have f4_:=f1_.symm;have f5_:=f3_.symm;clear f1_ f2_ f3_;subst f4_;subst f5_))
            refine hK.out _ _ ⟨(wcl HB hw132_0),(wcl HB hw132_1),(wcl HB hw132_2),(wcl HB hw133_0),(wcl HB hw133_1),(wcl HB hw133_2),(wcl HB hw134_0),(wcl HB hw134_1),(wcl HB hw134_2)⟩ λhHeld=>nz ?_;clear hK K;refine on 15 (some 46) HT_ λK hK=>?_;refine gs_ Tryz.func54 #[int i64 a0,.agg #[int i64 ((qg l1 x5_1).f0.f0),int i64 ((qg l1 x5_1).f0.f1),int i64 ((qg l1 x5_1).f0.f2)],.slice Ao21 t135.length co21] ?_
            with_reducible refine(Jy.calls a0 ((qg l1 x5_1).f0.f0) ((qg l1 x5_1).f0.f1) ((qg l1 x5_1).f0.f2) _ _ t135 true _ ?side1 ?side2 A17.out).mono ?_
            (case side1=>exact Kd.Ad (Kd.Ac HO137.out).2.2 gs)
            (case side2=>exact(Kd.Ac HO137.out).2.1)
            rintro e w22 ⟨rfl,hb⟩;refine⟨_,rfl,?_⟩;replace HO137:=am (Kd.Af (wR HO137) hb);replace HB:=bq HB hb
            (try clear hb)
            refine hK.out _ _ ⟨(wcl HB hw132_0),(wcl HB hw132_1),(wcl HB hw132_2),(wcl HB hw133_0),(wcl HB hw133_1),(wcl HB hw133_2),(wcl HB hw134_0),(wcl HB hw134_1),(wcl HB hw134_2)⟩ λhHeld=>nz ?_;clear hK K;refine Zh (Qe HT_.out (by kernel_rfl)) ?_
            try go_wp2
            go_ret
            exact⟨fq,bw HB⟩
           ·replace c18:=Bool.eq_false_iff.mpr c18
            subst c18;rw[if_neg (show ¬ (false=true) by decide)]at H;have H':=am H;clear H
            try go_wp2
            replace HB:=am (Qn HB.out);have p132:0<=(x5_1:Int):=od;have q132:x5_1 < (l1.length:Int):=od;obtain⟨ad132,e132,hx132_0,hx132_1,hx132_2⟩:=Zn HR1.out x5_1 p132 q132;have hw132_2:=hx132_2;have hw132_1:=hx132_1;have hw132_0:=hx132_0;obtain rfl:ad130=ad132:=(by injection e132)
            replace hx132_0:=wcl HB hx132_0;replace hx132_1:=wcl HB hx132_1;replace hx132_2:=wcl HB hx132_2;replace p132:=eq_true p132;replace q132:=eq_true q132;have p133:0<=(x6_2:Int):=od;have q133:x6_2 < (l1.length:Int):=od;obtain⟨ad133,e133,hx133_0,hx133_1,hx133_2⟩:=Zn HR1.out x6_2 p133 q133;have hw133_2:=hx133_2;have hw133_1:=hx133_1;have hw133_0:=hx133_0;obtain rfl:ad130=ad133:=(by injection e133)
            replace hx133_0:=wcl HB hx133_0;replace hx133_1:=wcl HB hx133_1;replace hx133_2:=wcl HB hx133_2;replace p133:=eq_true p133;replace q133:=eq_true q133;have p134:0<=(x7_3:Int):=od;have q134:x7_3 < (l1.length:Int):=od;obtain⟨ad134,e134,hx134_0,hx134_1,hx134_2⟩:=Zn HR1.out x7_3 p134 q134;have hw134_2:=hx134_2;have hw134_1:=hx134_1;have hw134_0:=hx134_0;obtain rfl:ad130=ad134:=(by injection e134)
            replace hx134_0:=wcl HB hx134_0;replace hx134_1:=wcl HB hx134_1;replace hx134_2:=wcl HB hx134_2;replace p134:=eq_true p134;replace q134:=eq_true q134;refine st 16 (λw'=>w'.cell? (ad130.add ((x5_1).toNat*3))=some (int i64 ((qg l1 x5_1).f0.f0))/\w'.cell? ⟨(ad130.add ((x5_1).toNat*3)).block,(ad130.add ((x5_1).toNat*3)).off+1,none⟩=some (int i64 ((qg l1 x5_1).f0.f1))/\w'.cell? ⟨(ad130.add ((x5_1).toNat*3)).block,(ad130.add ((x5_1).toNat*3)).off+2,none⟩=some (int i64 ((qg l1 x5_1).f0.f2))/\w'.cell? (ad130.add ((x6_2).toNat*3))=some (int i64 ((qg l1 x6_2).f0.f0))/\w'.cell? ⟨(ad130.add ((x6_2).toNat*3)).block,(ad130.add ((x6_2).toNat*3)).off+1,none⟩=some (int i64 ((qg l1 x6_2).f0.f1))/\w'.cell? ⟨(ad130.add ((x6_2).toNat*3)).block,(ad130.add ((x6_2).toNat*3)).off+2,none⟩=some (int i64 ((qg l1 x6_2).f0.f2))/\w'.cell? (ad130.add ((x7_3).toNat*3))=some (int i64 ((qg l1 x7_3).f0.f0))/\w'.cell? ⟨(ad130.add ((x7_3).toNat*3)).block,(ad130.add ((x7_3).toNat*3)).off+1,none⟩=some (int i64 ((qg l1 x7_3).f0.f1))/\w'.cell? ⟨(ad130.add ((x7_3).toNat*3)).block,(ad130.add ((x7_3).toNat*3)).off+2,none⟩=some (int i64 ((qg l1 x7_3).f0.f2))) [] qv.tab12 qv.bits12 (⟨(wcl HB hw132_0),(wcl HB hw132_1),(wcl HB hw132_2),(wcl HB hw133_0),(wcl HB hw133_1),(wcl HB hw133_2),(wcl HB hw134_0),(wcl HB hw134_1),(wcl HB hw134_2)⟩) λhHeld HT_ HW_=>?_;generalize wr.drew=w23 at HB hx132_0 hx132_1 hx132_2 hx133_0 hx133_1 hx133_2 hx134_0 hx134_1 hx134_2 hHeld ⊢;refine Et 0 31 1 32 HT_ ?_;refine Et 2 33 3 34 HT_ ?_;refine Et 5 36 6 37 HT_ ?_;refine Et 7 38 8 39 HT_ ?_;refine Et 10 41 11 42 HT_ ?_;refine pz 12 43 HT_ ?_;refine tk 4 35 HT_ HW_ hHeld ?_;refine tk 9 40 HT_ HW_ hHeld ?_;refine tk 13 44 HT_ HW_ hHeld ?_;refine on 14 (some 45) HT_ λK hK=>?_;refine gs_ Tryz.func53 #[int i64 a0,.agg #[int i64 ((qg l1 x6_2).f0.f0),int i64 ((qg l1 x6_2).f0.f1),int i64 ((qg l1 x6_2).f0.f2)],.agg #[int i64 ((qg l1 x7_3).f0.f0),int i64 ((qg l1 x7_3).f0.f1),int i64 ((qg l1 x7_3).f0.f2)]] ?_
            with_reducible refine(Qy.calls a0 ((qg l1 x6_2).f0.f0) ((qg l1 x6_2).f0.f1) ((qg l1 x6_2).f0.f2) ((qg l1 x7_3).f0.f0) ((qg l1 x7_3).f0.f1) ((qg l1 x7_3).f0.f2) t135 _ A16.out).mono ?_
            rintro e w24 ⟨v136,rfl,ho0,hb⟩;refine⟨_,rfl,?_⟩;have HO137:=am (Kd.Ai ho0 (bz HB));replace HB:=bq HB hb
            (try clear hb)
            (try clear ho0)
            obtain⟨Ao25,co25,eo25⟩:=Kd.Ah HO137.out
            (first|subst eo25|(injection eo25 with f1_ f2_ f3_;have f4_:=f1_.symm;have f5_:=f3_.symm;clear f1_ f2_ f3_;subst f4_;subst f5_))
            refine hK.out _ _ ⟨(wcl HB hw132_0),(wcl HB hw132_1),(wcl HB hw132_2),(wcl HB hw133_0),(wcl HB hw133_1),(wcl HB hw133_2),(wcl HB hw134_0),(wcl HB hw134_1),(wcl HB hw134_2)⟩ λhHeld=>nz ?_;clear hK K;refine on 15 (some 46) HT_ λK hK=>?_;refine gs_ Tryz.func54 #[int i64 a0,.agg #[int i64 ((qg l1 x5_1).f0.f0),int i64 ((qg l1 x5_1).f0.f1),int i64 ((qg l1 x5_1).f0.f2)],.slice Ao25 t135.length co25] ?_
            with_reducible refine(Jy.calls a0 ((qg l1 x5_1).f0.f0) ((qg l1 x5_1).f0.f1) ((qg l1 x5_1).f0.f2) _ _ t135 false _ ?side1 ?side2 A17.out).mono ?_
            (case side1=>exact Kd.Ad (Kd.Ac HO137.out).2.2 gs)
            (case side2=>exact(Kd.Ac HO137.out).2.1)
            rintro e w26 ⟨rfl,hb⟩;refine⟨_,rfl,?_⟩;replace HO137:=am (Kd.Af (wR HO137) hb);replace HB:=bq HB hb
            (try clear hb)
            refine hK.out _ _ ⟨(wcl HB hw132_0),(wcl HB hw132_1),(wcl HB hw132_2),(wcl HB hw133_0),(wcl HB hw133_1),(wcl HB hw133_2),(wcl HB hw134_0),(wcl HB hw134_1),(wcl HB hw134_2)⟩ λhHeld=>nz ?_;clear hK K;refine Zh (Qe HT_.out (by kernel_rfl)) ?_
            try go_wp2
            go_roundg k3
            case measure=>have:=HK1.out;have:=HK2.out;have:=HK3.out;omega
            case rel=>exact⟨(wrap64 (x7_3+1)),fr,H',⟨by have:=HK1.out;have:=HK2.out;have:=HK3.out;omega⟩,⟨bw HB⟩⟩
          ·have H':=am H;clear H;go_wp2
           go_roundg k3
           case measure=>have:=HK1.out;have:=HK2.out;have:=HK3.out;omega
           case rel=>exact⟨(wrap64 (x6_2+1)),fr,H',⟨by have:=HK1.out;have:=HK2.out;have:=HK3.out;omega⟩,⟨bw HB⟩⟩
       ·have H':=am H;clear H;go_wp2
        go_roundg k2
        case measure=>have:=HK1.out;have:=HK2.out;omega
        case rel=>exact⟨(wrap64 (x5_1+1)),fr,H',⟨by have:=HK1.out;have:=HK2.out;omega⟩,⟨bw HB⟩⟩
    ·replace c6:=Bool.eq_false_iff.mpr c6
     subst c6;rw[if_neg (show ¬ (false=true) by decide)]at H;obtain rfl:=Option.some.inj H;have p130:0<=(x5_1:Int):=od;have q130:x5_1 < (l1.length:Int):=od;obtain⟨ad130,e130,hx130_0,hx130_1,hx130_2⟩:=Zn HR1.out x5_1 p130 q130
     cases e130
     replace hx130_0:=wcl HB hx130_0;replace hx130_1:=wcl HB hx130_1;replace hx130_2:=wcl HB hx130_2;replace p130:=eq_true p130;replace q130:=eq_true q130
     go_wp2_with (first|((with_reducible refine za (f:=95) rfl ?_);refine gl 19 Tryz.func95 #[int i64 a0,.agg #[int i64 ((qg l1 x5_1).f0.f0),int i64 ((qg l1 x5_1).f0.f1),int i64 ((qg l1 x5_1).f0.f2)]] ?_;(with_reducible refine(Qv.calls k1 a0 ((qg l1 x5_1).f0.f0) ((qg l1 x5_1).f0.f1) ((qg l1 x5_1).f0.f2) false _ A5.out).mono ?_);rintro e w27 ⟨rfl,hb⟩;refine⟨_,rfl,?_⟩;replace HB:=bq HB hb;(try clear hb)))
     go_ret
     exact⟨fq,bw HB⟩
   ·obtain rfl:=Option.some.inj H;go_wp2;go_ret
    exact⟨fq,bw HB⟩
def zj.l0 :Nat->Int->List Int->Int->List Int->List Int->Int->Option (List Int)
 | 0,_,_,_,_,_,_=>none
 | k+1,x0,x1,x2,x3,x9,x10=>if x10 < (x1.length:Int) then (if 0<=x10 then (if x10 < (x3.length:Int) then ((Q9.f x0 (wrap64 ((rd x1 x10) - (wrap64 (x2*(rd x3 x10)))))).bind λt144=>(if x9.length < 17592186044416 then (zj.l0 k x0 x1 x2 x3 (x9++[t144]) (wrap64 (x10+1))) else (none))) else (none)) else (none)) else (some x9)
def zj.f (k:Nat) (a0:Int) (l1:List Int) (a2:Int) (l3:List Int):Option (List Int):=zj.l0 k a0 l1 a2 l3 (([]:List Int)) 0
theorem zj.Ag :∀ k,(∀ y0 y1 y2 y3 y4 y5,LeO (zj.l0 k y0 y1 y2 y3 y4 y5) (zj.l0 (k+1) y0 y1 y2 y3 y4 y5))
 | 0=>λ_ _ _ _ _ _ r h=>by simp[zj.l0]at h
 | k+1=>by
  have ih0:=zj.Ag k
  ·intro y0 y1 y2 y3 y4 y5
   unfold zj.l0
   repeat' with_reducible first|intro _|apply ih0|apply Eb|apply Ec|apply Ed|apply Ee
theorem zj.mono (a0 a1 a2 a3 k):LeO (zj.f k a0 a1 a2 a3) (zj.f (k+1) a0 a1 a2 a3):=by
 have ih0:=zj.Ag k;unfold zj.f
 repeat' with_reducible first|intro _|apply ih0|apply Eb|apply Ec|apply Ed|apply Ee
def zj.T5 :Bool×List (List Nat×List Nat):=(true,[([],[]),([],[]),([],[]),([],[]),([2,3],[2,3]),([4],[4]),([],[]),([],[]),([],[]),([7,8],[7,8]),([9],[9]),([6,10],[6,10]),([5,11],[5,11]),([1,12],[1,12]),([13],[13]),([0,14,13],[0,14]),([15,15,0,1,2,3,4,5,6,7,8,9,10,11,12,13,14,15],[0,15])])
def zj.B5 :List Nat:=[0,0,0,0,12,28,0,0,0,384,896,1984,4092,8190,16382,32767,65535]
set_option maxHeartbeats 8000000 in
set_option maxRecDepth 100000 in
theorem zj.calls (k:Nat) (a0:Int) (A1:Option Addr) (c1:Nat) (l1:List Int) (a2:Int) (A3:Option Addr) (c3:Nat) (l3:List Int) (r:List Int) (w:World) (hr1:Kd.C (Kd.int i64) w A1 l1.length l1) (hc1:l1.length<=c1) (hr3:Kd.C (Kd.int i64) w A3 l3.length l3) (hc3:l3.length<=c3) (h:zj.f k a0 l1 a2 l3=some r):
  Calls Tryz.prog 128 #[int i64 a0,.slice A1 l1.length c1,int i64 a2,.slice A3 l3.length c3] w λe w'=>∃ v0_:Value,e=.returned (v0_)/\Kd.R (Kd.int i64) 3 w' w.heap.size (λ_=>True) v0_ r/\Below w.heap.size w w':=by
 have HR1:=am hr1;clear hr1 hc1;have HR3:=am hr3;clear hr3 hc3;have HB:=Em w;have H:=h;unfold zj.f at H;clear h;generalize hy139:(([]:List Int))=y139 at H;have Ny139:=am hy139.symm;clear hy139;have H':=am H;clear H;go_enter Tryz.func128,Tryz.ntmps128
 go_wp2_with (first|((with_reducible refine zd (N:=11) rfl ?_);refine li 3 ([]:List Int) ?_;intro v140 w5 ho6 hb;rw[<-Ny139.out]at ho6;have HO141:=am (Kd.Ai ho6 (bz HB));replace HB:=bq HB hb;clear hb ho6))
 go_loopg [9,10] k (λkq v9 v10 w'=>∃ (x9_1:List Int) (x10_1:Int),v10=int i64 x10_1/\qf (zj.l0 kq a0 l1 a2 l3 x9_1 x10_1=some r)/\qf (kq<=k)/\qf (Kd.R (Kd.int i64) 3 w' w.heap.size (λ_=>True) v9 x9_1)/\qf (Below w.heap.size w w'))
 case atStart=>exact⟨(y139),(0),fr,H',⟨Nat.le_refl _⟩,⟨wR HO141⟩,⟨bw HB⟩⟩
 case round=>
  clear H';try clear c1;try clear p2;try clear c3
  obtain⟨x9_1,x10_1,rfl,HA,HK1,HO_9,HB⟩:=hrel
  cases gk with
  | zero=>exact absurd HA.out (by simp[zj.l0])
  | succ k1=>
   have H:=HA.out;clear HA;simp only[zj.l0]at H;replace H:=Eg H;rcases H with ⟨c7b0,H⟩|⟨c7b0,H⟩
   ·replace H:=Ef H;obtain⟨c8b0,H⟩:=H;replace H:=Ef H;obtain⟨c9b0,H⟩:=H;replace H:=bs H;obtain⟨t144,A10,H⟩:=H
    replace H:=ifn H;obtain⟨c11,H⟩:=H;have LMc11:=am c11;clear c11;generalize hy145:(x9_1++[t144]:List Int)=y145 at H;have Ny145:=am hy145.symm;clear hy145;have H':=am H;clear H
    try go_wp2
    replace HO_9:=am (Kd.Ay HO_9.out);replace HB:=am (Qn HB.out);have p142:0<=(x10_1:Int):=od;have q142:x10_1 < (l1.length:Int):=od;obtain⟨ad142,e142,hx142_0⟩:=Kd.Aj HR1.out x10_1 p142 q142;have hw142_0:=hx142_0
    cases e142
    replace hx142_0:=wcl HB hx142_0;replace p142:=eq_true p142;replace q142:=eq_true q142;have p143:0<=(x10_1:Int):=od;have q143:x10_1 < (l3.length:Int):=od;obtain⟨ad143,e143,hx143_0⟩:=Kd.Aj HR3.out x10_1 p143 q143;have hw143_0:=hx143_0
    cases e143
    replace hx143_0:=wcl HB hx143_0;replace p143:=eq_true p143;replace q143:=eq_true q143;refine st (T:=zj.T5) (B:=zj.B5) 17 (λw'=>w'.cell? (ad142.add (x10_1).toNat)=some (int i64 (rd l1 x10_1))/\w'.cell? (ad143.add (x10_1).toNat)=some (int i64 (rd l3 x10_1))) [] (by kernel_rfl) (by kernel_rfl) (⟨(wcl HB hw142_0),(wcl HB hw143_0)⟩) λhHeld HT_ HW_=>?_;generalize wr.drew=w12 at HO_9 HB hx142_0 hx143_0 hHeld ⊢;refine Et 0 18 1 19 HT_ ?_;refine Et 2 20 3 21 HT_ ?_;refine Et 4 22 6 24 HT_ ?_;refine Et 7 25 8 26 HT_ ?_;refine pz 9 27 HT_ ?_;refine tk 5 23 HT_ HW_ hHeld ?_;refine tk 10 28 HT_ HW_ hHeld ?_;refine Et 11 29 12 30 HT_ ?_;refine on 13 (some 31) HT_ λK hK=>?_;refine gs_ Tryz.func62 #[int i64 a0,int i64 (wrap64 ((rd l1 x10_1) - (wrap64 (a2*(rd l3 x10_1)))))] ?_
    with_reducible refine(Q9.calls a0 (wrap64 ((rd l1 x10_1) - (wrap64 (a2*(rd l3 x10_1))))) t144 _ A10.out).mono ?_
    rintro e w' ⟨rfl,⟨nd,rfl⟩⟩;refine⟨_,rfl,?_⟩;refine hK.out _ _ ⟨(wcl HB hw142_0),(wcl HB hw143_0)⟩ λhHeld=>nz ?_;clear hK K;refine on 14 (some 32) HT_ λK hK=>?_;refine qbq (w1:=?_) (v:=?_) (by rfl) rfl ?_ ?_
    rotate_left 2
    ·go_simp
     constructor
     ·rfl
     ·rfl
    refine hK.out _ _ ⟨(World.cell?_alloc_lt _ _ _ (World.block_lt_of_cell? _ _ ((wcl HB hw142_0)))).trans ((wcl HB hw142_0)),(World.cell?_alloc_lt _ _ _ (World.block_lt_of_cell? _ _ ((wcl HB hw143_0)))).trans ((wcl HB hw143_0))⟩ λhHeld=>nz ?_;clear hK K;refine on 15 (some 33) HT_ λK hK=>?_;refine Kd.AA (Kd.int i64) (w0:=w) w.heap.size (by rfl) (.tmp 18) (.tmp 32) 37 3 (int i64 0) 8 rfl Tryz.underlying37 Ju rfl (by decide) (by omega) u9 x9_1 t144 [int i64 t144] (λ_=>True) (λ_=>False) rfl rfl ?aP (λ_ hk=>hk.elim) ?aF ?aO ?aB ?aS ?aL ?_
    (case aP=>exact rfl)
    (case aB=>exact(bw HB))
    (case aF=>exact(λ_ _=>trivial))
    (case aO=>exact(wR HO_9))
    (case aS=>exact(bz HB))
    (case aL=>have:=LMc11.out;omega)
    intro v146 w13 ho hb hg hat
    rw[<-Ny145.out]at ho;replace HB:=am (hb);have HO147:=am (ho);clear HO_9;clear ho hb hg hat
    refine hK.out _ _ ⟨(wcl HB hw142_0),(wcl HB hw143_0)⟩ λhHeld=>nz ?_;clear hK K;refine pz 16 9 HT_ ?_;refine Zh (Qe HT_.out (by kernel_rfl)) ?_
    try go_wp2
    go_roundg k1
    case measure=>have:=HK1.out;omega
    case rel=>exact⟨(y145),(wrap64 (x10_1+1)),fr,H',⟨by have:=HK1.out;omega⟩,⟨wR HO147⟩,⟨bw HB⟩⟩
   ·obtain rfl:=Option.some.inj H;go_wp2;go_ret
    exact⟨_,fq,wR HO_9,bw HB⟩
end Go.Proofs.YtmgbpmihbljngaaGreat.PA
