-- Written by xprint.py, a program of this claim's own (over the kit's print.py)
import Derived.Test.YtmgbpmihbljngaaProg
import Derived.Lib.Hide
import Derived.Shelf.Abstract
import Derived.Test.YtmgbpmihbljngaaWFour
import Derived.Test.YtmgbpmihbljngaaWAt
import Derived.Test.YtmgbpmihbljngaaWEqStruct
import Derived.Test.YtmgbpmihbljngaaWRepsOne
import Derived.Test.YtmgbpmihbljngaaWInvWords
import Derived.Test.YtmgbpmihbljngaaWGuard
import Derived.Test.YtmgbpmihbljngaaWMore
namespace Go.Proofs.Ytmgbpmihbljngaa.PA
open Go.RowKit Go.Proofs.YtmgbpmihbljngaaW.PrintWords Go.Proofs.YtmgbpmihbljngaaW.PrintLast Go.Proofs.YtmgbpmihbljngaaW.PrintMore
attribute [local go_sem] Qs Qr Qx Qw Qf Qe Qq Qp
set_option linter.unusedVariables false
set_option linter.unusedSimpArgs false
def errW :Option Int→Value
  | none=>.nilIface
  | some c=>.iface 0 (.int .i64 c)
theorem qgv :errW none=.nilIface:=rfl
theorem qg2 (c:Int):errW (some c)=.iface 0 (.int .i64 c):=rfl
theorem Jm :(Try.prog.info? 3).map (fun i=>(i.zero,i.size,i.bytes))=some (some (.int .i64 0),1,8):=by kernel_rfl
theorem Zu :(Try.prog.info? 23).map (fun i=>(i.zero,i.size,i.bytes))=some (some (.slice none 0 0),1,24):=by kernel_rfl
theorem info41 :(Try.prog.info? 41).map (fun i=>(i.zero,i.size,i.bytes))=some (some (.agg #[(.int .i64 0),(.int .i64 0),(.int .i64 0)]),3,24):=by kernel_rfl
theorem J4 :(Try.prog.info? 43).map (fun i=>(i.zero,i.size,i.bytes))=some (some (.agg #[(.int .i64 0),(.int .i64 0),(.int .i64 0)]),3,24):=by kernel_rfl
structure S41 where
  f0:Int
  f1:Int
  f2:Int
def z41 :S41:=⟨(0:Int),(0:Int),(0:Int)⟩
def k41 :Kd S41:=Kd.iso (Kd.pair (Kd.int .i64) (Kd.pair (Kd.int .i64) (Kd.int .i64))) (fun x:S41=>(x.f0,x.f1,x.f2))
theorem qf3 {w:World} {x:S41} {cs:List Value} (h:k41.K w x cs):cs=[.int .i64 x.f0,.int .i64 x.f1,.int .i64 x.f2]:=by
  obtain⟨_,_,rfl,rfl,⟨_,_,rfl,rfl,rfl⟩⟩:=h
  exact rfl
theorem qmv {w:World} {base:Nat} {ok:Nat→Prop} {x:S41} {cs:List Value} (h:k41.M w base ok x cs):cs=[.int .i64 x.f0,.int .i64 x.f1,.int .i64 x.f2]:=by
  obtain⟨_,_,rfl,rfl,⟨_,_,rfl,rfl,rfl⟩⟩:=h
  exact rfl
theorem qoa (w:World) (x:S41):k41.K w x [.int .i64 x.f0,.int .i64 x.f1,.int .i64 x.f2]:=⟨[.int .i64 x.f0],[.int .i64 x.f1,.int .i64 x.f2],rfl,rfl,⟨[.int .i64 x.f1],[.int .i64 x.f2],rfl,rfl,rfl⟩⟩
theorem Ji (w:World) (base:Nat) (ok:Nat→Prop) (x:S41):k41.M w base ok x [.int .i64 x.f0,.int .i64 x.f1,.int .i64 x.f2]:=⟨[.int .i64 x.f0],[.int .i64 x.f1,.int .i64 x.f2],rfl,rfl,⟨[.int .i64 x.f1],[.int .i64 x.f2],rfl,rfl,rfl⟩⟩
def zg (xs:List S41) (i:Int):S41:=xs.getD i.toNat z41
theorem qh2 {w:World} {A:Option Addr} {n:Nat} {xs:List S41} (h:Kd.C k41 w A n xs) (i:Int) (h0:0≤i) (h1:i < n):∃ ad ,A=some ad∧w.cell? (ad.add (i.toNat*3))=some (.int .i64 (zg xs i).f0)∧w.cell? ⟨(ad.add (i.toNat*3)).block,(ad.add (i.toNat*3)).off+1,none⟩=some (.int .i64 (zg xs i).f1)∧w.cell? ⟨(ad.add (i.toNat*3)).block,(ad.add (i.toNat*3)).off+2,none⟩=some (.int .i64 (zg xs i).f2):=by
  obtain⟨ad,c,e,_,hK,hc0⟩:=Kd.C_get h z41 i h0 h1
  have hc:∀ j u,c[j]? =some u→w.cell? (ad.add (i.toNat*3+j))=some u:=hc0
  obtain rfl:=qf3 hK
  exact⟨ad,e,hc 0 _ rfl,by rw[← qab _ _ 1 (by omega)];exact hc 1 _ rfl,by rw[← qab _ _ 2 (by omega)];exact hc 2 _ rfl⟩
structure S76 where
  f0:S41
def z76 :S76:=⟨z41⟩
def k76 :Kd S76:=Kd.iso k41 (fun x:S76=>x.f0)
theorem qoz {w:World} {x:S76} {cs:List Value} (h:k76.K w x cs):cs=[.int .i64 x.f0.f0,.int .i64 x.f0.f1,.int .i64 x.f0.f2]:=by
  have s0:=h
  obtain rfl:=qf3 s0
  exact rfl
theorem k76_mk (w:World) (x:S76):k76.K w x [.int .i64 x.f0.f0,.int .i64 x.f0.f1,.int .i64 x.f0.f2]:=(qoa w x.f0 )
def Zv (xs:List S76) (i:Int):S76:=xs.getD i.toNat z76
theorem at_T76 {w:World} {A:Option Addr} {n:Nat} {xs:List S76} (h:Kd.C k76 w A n xs) (i:Int) (h0:0≤i) (h1:i < n):∃ ad ,A=some ad∧w.cell? (ad.add (i.toNat*3))=some (.int .i64 (Zv xs i).f0.f0)∧w.cell? ⟨(ad.add (i.toNat*3)).block,(ad.add (i.toNat*3)).off+1,none⟩=some (.int .i64 (Zv xs i).f0.f1)∧w.cell? ⟨(ad.add (i.toNat*3)).block,(ad.add (i.toNat*3)).off+2,none⟩=some (.int .i64 (Zv xs i).f0.f2):=by
  obtain⟨ad,c,e,_,hK,hc0⟩:=Kd.C_get h z76 i h0 h1
  have hc:∀ j u,c[j]? =some u→w.cell? (ad.add (i.toNat*3+j))=some u:=hc0
  obtain rfl:=qoz hK
  exact⟨ad,e,hc 0 _ rfl,by rw[← qab _ _ 1 (by omega)];exact hc 1 _ rfl,by rw[← qab _ _ 2 (by omega)];exact hc 2 _ rfl⟩
structure S43 where
  f0:S41
def z43 :S43:=⟨z41⟩
def k43 :Kd S43:=Kd.iso k41 (fun x:S43=>x.f0)
theorem qoq {w:World} {x:S43} {cs:List Value} (h:k43.K w x cs):cs=[.int .i64 x.f0.f0,.int .i64 x.f0.f1,.int .i64 x.f0.f2]:=by
  have s0:=h
  obtain rfl:=qf3 s0
  exact rfl
theorem qdj {w:World} {base:Nat} {ok:Nat→Prop} {x:S43} {cs:List Value} (h:k43.M w base ok x cs):cs=[.int .i64 x.f0.f0,.int .i64 x.f0.f1,.int .i64 x.f0.f2]:=by
  have s0:=h
  obtain rfl:=qmv s0
  exact rfl
theorem k43_mk (w:World) (x:S43):k43.K w x [.int .i64 x.f0.f0,.int .i64 x.f0.f1,.int .i64 x.f0.f2]:=(qoa w x.f0 )
theorem Jb (w:World) (base:Nat) (ok:Nat→Prop) (x:S43):k43.M w base ok x [.int .i64 x.f0.f0,.int .i64 x.f0.f1,.int .i64 x.f0.f2]:=(Ji w base ok x.f0 )
def qd (xs:List S43) (i:Int):S43:=xs.getD i.toNat z43
theorem Qo {w:World} {A:Option Addr} {n:Nat} {xs:List S43} (h:Kd.C k43 w A n xs) (i:Int) (h0:0≤i) (h1:i < n):∃ ad ,A=some ad∧w.cell? (ad.add (i.toNat*3))=some (.int .i64 (qd xs i).f0.f0)∧w.cell? ⟨(ad.add (i.toNat*3)).block,(ad.add (i.toNat*3)).off+1,none⟩=some (.int .i64 (qd xs i).f0.f1)∧w.cell? ⟨(ad.add (i.toNat*3)).block,(ad.add (i.toNat*3)).off+2,none⟩=some (.int .i64 (qd xs i).f0.f2):=by
  obtain⟨ad,c,e,_,hK,hc0⟩:=Kd.C_get h z43 i h0 h1
  have hc:∀ j u,c[j]? =some u→w.cell? (ad.add (i.toNat*3+j))=some u:=hc0
  obtain rfl:=qoq hK
  exact⟨ad,e,hc 0 _ rfl,by rw[← qab _ _ 1 (by omega)];exact hc 1 _ rfl,by rw[← qab _ _ 2 (by omega)];exact hc 2 _ rfl⟩
def ju (xs:List (List Int)) (i:Int):(List Int):=xs.getD i.toNat ([]:List Int)
theorem qak {w:World} {A:Option Addr} {n:Nat} {xs:List (List Int)} (h:Kd.C (Kd.slice 3 (Kd.int .i64)) w A n xs) (i:Int) (h0:0≤i) (h1:i < n):∃ ad A0 c0,A=some ad∧w.cell? (ad.add i.toNat)=some (.slice A0 (ju xs i).length c0)∧(ju xs i).length≤c0∧(Kd.int .i64).C w A0 (ju xs i).length (ju xs i):=by
  obtain⟨ad,c,e,_,hK,hc0⟩:=Kd.C_get h ([]:List Int) i h0 h1
  have hc:∀ j u,c[j]? =some u→w.cell? (ad.add (i.toNat*1+j))=some u:=hc0
  obtain⟨A0,c0,rfl,l0,g0⟩:=hK
  exact⟨ad,A0,c0,e,by have hq:=hc 0 _ rfl;rwa [Nat.mul_one,Nat.add_zero]at hq,l0,g0⟩
class Zq (W W':World):Prop where
  st:∀ {w:World},Below w.heap.size w W→Below w.heap.size w W'
instance (W :World):Zq W W:=⟨fun h=>h⟩
instance (W W':World) (o:Obj) [s:Zq W W']:Zq W (W'.alloc o):=⟨fun h=>jx (s.st h) o⟩
instance (W W':World) [s:Zq W W']:Zq W W'.drew:=⟨fun h=>Qg (s.st h)⟩
instance (W W':World) (m:Nat) [s:Zq W W']:Zq W (W'.drewN m):=⟨fun h=>Ql (s.st h) m⟩
theorem bb {w W W':World} (h:Below w.heap.size w W) [s:Zq W W']:Below w.heap.size w W':=s.st h
theorem gs {W W':World} [s:Zq W W']:Below W.heap.size W W':=s.st (Below.refl _ _)
instance (W W':World) (b o:Nat) (v:Value) [s:Zq W (W'.setCells b o [v])]:Zq W (W'.setCell ⟨b,o,none⟩ v):=⟨fun h=>s.st h⟩
theorem am {p:Prop} (h:p):qf p:=⟨h⟩
theorem bs {α β:Type} {x:Option α} {f:α→Option β} {r:β} (h:x.bind f=some r):∃ a,qf (x=some a)∧f a=some r:=by
  obtain⟨a,h1,h2⟩:=Option.bind_eq_some_iff.mp h;exact⟨a,⟨h1⟩,h2⟩
theorem bsy {α β:Type} {t:α} {f:α→Option β} {r:β} (h:(some t).bind f=some r):∃ y,qf (y=t)∧f y=some r:=⟨t,⟨rfl⟩,h⟩
theorem ifn {α:Type} {c:Prop} [Decidable c] {a:Option α} {r:α} (h:(if c then a else none)=some r):c∧a=some r:=by
  by_cases k:c
  · rw[if_pos k]at h;exact⟨k,h⟩
  · rw[if_neg k]at h;cases h
theorem ifm {α:Type} {c:Prop} [Decidable c] {a:Option α} {r:α} (h:(if c then none else a)=some r):¬ c∧a=some r:=by
  by_cases k:c
  · rw[if_pos k]at h;cases h
  · rw[if_neg k]at h;exact⟨k,h⟩
theorem od {p:Prop} [Decidable p] (h:decide p=true:=by first | (with_reducible assumption) | assumption):p:=of_decide_eq_true h
theorem as_ {p:Prop} (h:p:=by first | (with_reducible assumption) | assumption):p:=h
theorem fr {p:Prop} (h:p:=by first | rfl | (simp;done) | (simp[*];done)):p:=h
theorem fq {p:Prop} (h:p:=by first | rfl | (simp[qgv,qg2]<;>rfl) | (simp[*,qgv,qg2]<;>rfl)):p:=h
theorem df {w w':World} (h:Drawn0 w w':=by repeat (first | exact Drawn0.refl _ | apply Drawn0.step)):Drawn0 w w':=h
theorem bw {w W W':World} (h:qf (Below w.heap.size w W)) [Zq W W']:Below w.heap.size w W':=bb h.out
theorem bz {w W W':World} (h:qf (Below w.heap.size w W)) [Zq W W']:w.heap.size≤W'.heap.size:=zo (bb h.out)
theorem bq {w W W' w2:World} (h:qf (Below w.heap.size w W)) [Zq W W'] (k:Below W'.heap.size W' w2):qf (Below w.heap.size w w2):=⟨jg (bb h.out) k⟩
theorem wcl {w W:World} (h:qf (Below w.heap.size w W)) {a:Addr} {v:Value} (k:w.cell? a=some v):W.cell? a=some v:=(h.out.cell (World.block_lt_of_cell? w _ k)).trans k
section
variable {α :Type} {d:Kd α} {e base:Nat} {ok:Nat→Prop} {w W W' w2:World} {u v:Value} {xs:List α} {A:Option Addr} {n:Nat}
theorem wR (h:qf (Kd.R d e W base ok v xs)) [Zq W W']:Kd.R d e W' base ok v xs:=Kd.R_below h.out gs
theorem wV (h:qf (Kd.V d e W base ok v xs)) [Zq W W']:Kd.V d e W' base ok v xs:=Kd.V_below h.out gs
theorem wN (h:qf (Kd.N d e W base ok v xs)) [Zq W W']:Kd.N d e W' base ok v xs:=Kd.N_below h.out gs
theorem wS (h:qf (Kd.S d e W base ok v xs)) [Zq W W']:Kd.S d e W' base ok v xs:=Kd.S_below h.out gs
theorem wC (h:qf (Kd.C d W A n xs)) [Zq W W']:Kd.C d W' A n xs:=Kd.C_below h.out gs
theorem eR (h:qf (Kd.R d e W base ok u xs)) [Zq W W'] (k:∀ k,v.ownBlock=some k→W'.heap.size≤k) (hb:Below W'.heap.size W' w2):qf (Kd.R d e w2 base (fun k=>ok k∧some k≠v.ownBlock) u xs):=⟨Kd.R_elder' (wR h) k hb⟩
theorem eV (h:qf (Kd.V d e W base ok u xs)) [Zq W W'] (k:∀ k,v.ownBlock=some k→W'.heap.size≤k) (hb:Below W'.heap.size W' w2):qf (Kd.V d e w2 base (fun k=>ok k∧some k≠v.ownBlock) u xs):=⟨Kd.V_elder' (wV h) k hb⟩
theorem eN (h:qf (Kd.N d e W base ok u xs)) [Zq W W'] (k:∀ k,v.ownBlock=some k→W'.heap.size≤k) (hb:Below W'.heap.size W' w2):qf (Kd.N d e w2 base (fun k=>ok k∧some k≠v.ownBlock) u xs):=⟨Kd.N_elder' (wN h) k hb⟩
theorem eS (h:qf (Kd.S d e W base ok u xs)) [Zq W W'] (k:∀ k,v.ownBlock=some k→W'.heap.size≤k) (hb:Below W'.heap.size W' w2):qf (Kd.S d e w2 base (fun k=>ok k∧some k≠v.ownBlock) u xs):=⟨Kd.S_elder' (wS h) k hb⟩
theorem mR (h:Kd.R d e w2 W.heap.size ok v xs) (hB:qf (Below w.heap.size w W')) [Zq W' W]:Kd.R d e w2 w.heap.size (fun k=>w.heap.size≤k∧ok k) v xs:=Kd.R_lower (Kd.R_newM (M:=fun k=>w.heap.size≤k) h (bz hB) fun _ h=>h) (bz hB)
end
section
variable {P :Program} {md:Region.Mode} {ops:Array Oper} {Q:Exit→Act→World→Prop} {S:World→Prop} {ds:List Nat} {T:Bool×List (List Nat×List Nat)} {B:List Nat} {fuel:Nat} {l:Array Bool} {a a':Act} {w:World} {oi:Oper} {v:Value}
theorem pz (i:Nat) (N:Tmp) (HT:qf (rtab md ops=T)) (h:zu P md ops Q S ds fuel (l.setIfInBounds i true) a' w) (hi:ops[i]? =some oi:=by rfl) (hN:oi.dst=some N:=by rfl)
    (hc:anyT T l.toList (l.setIfInBounds i true).toList i=true:=by kernel_rfl) (hQ:∀ c a w,Q (.panic c) (a.put oi.dst v) w→Q (.panic c) a w:=by exact fun _ _ _ h=>h)
    (hw:Region.wanted oi (yielded ops a.tmps)=true:=by rfl) (hy:∀ w,(execOp a.eval oi).run P w=.ok (.value v) w:=by (intro w';go_simp;with_reducible rfl))
    (ha:a.put (some N) v=a':=by (simp only[Act.put,List.setIfInBounds_toArray,List.set_cons_zero,List.set_cons_succ,qbs,qbv];rfl)):zu P md ops Q S ds (fuel+1) l a w:=pure_ (l.setIfInBounds i true) hi hN (qpd HT.out hc) hQ (Or.inl ⟨hw,hy⟩) ha h
theorem po (i:Nat) (N:Tmp) (HT:qf (rtab md ops=T)) (h:zu P md ops Q S ds fuel (l.setIfInBounds i true) a' w) (hi:ops[i]? =some oi:=by rfl) (hN:oi.dst=some N:=by rfl)
    (hc:anyT T l.toList (l.setIfInBounds i true).toList i=true:=by kernel_rfl) (hQ:∀ c a w,Q (.panic c) (a.put oi.dst undef) w→Q (.panic c) a w:=by exact fun _ _ _ h=>h)
    (hw:Region.wanted oi (yielded ops a.tmps)=false:=by rfl)
    (ha:a.put (some N) undef=a':=by (simp only[Act.put,List.setIfInBounds_toArray,List.set_cons_zero,List.set_cons_succ,qbs,qbv];rfl)):zu P md ops Q S ds (fuel+1) l a w:=pure_ (l.setIfInBounds i true) hi hN (qpd HT.out hc) hQ (Or.inr ⟨hw,rfl⟩) ha h
theorem tk (i:Nat) (N:Tmp) (HT:qf (rtab md ops=T)) (HW:qf (Qj T.2 B=true)) (hS:S w) (h:zu P md ops Q S ds fuel (l.setIfInBounds i true) a' w) (hi:ops[i]? =some oi:=by rfl) (hN:oi.dst=some N:=by rfl)
    (hc:qom T B ds l.toList (l.setIfInBounds i true).toList i=true:=by kernel_rfl) (hQ:∀ c a w,Q (.panic c) (a.put oi.dst v) w→Q (.panic c) a w:=by exact fun _ _ _ h=>h)
    (hw:Region.wanted oi (yielded ops a.tmps)=true:=by rfl) (hy:∀ w,S w→(execOp a.eval oi).run P w=.ok (.value v) w:=by (first | (rintro w' ⟨s0,s1,s2,s3,s4,s5⟩;go_simp;with_reducible rfl) | (rintro w' ⟨s0,s1,s2,s3,s4⟩;go_simp;with_reducible rfl) | (rintro w' ⟨s0,s1,s2,s3⟩;go_simp;with_reducible rfl) | (rintro w' ⟨s0,s1,s2⟩;go_simp;with_reducible rfl) | (rintro w' ⟨s0,s1⟩;go_simp;with_reducible rfl) | (rintro w' s0;go_simp;with_reducible rfl)))
    (ha:a.put (some N) v=a':=by (simp only[Act.put,List.setIfInBounds_toArray,List.set_cons_zero,List.set_cons_succ,qbs,qbv];rfl)):zu P md ops Q S ds (fuel+1) l a w:=take_ (l.setIfInBounds i true) hi hN (qn8 HT.out HW.out hc) hQ (Or.inl ⟨hw,hy⟩) hS ha h
theorem on (i:Nat) (N:Option Tmp) (HT:qf (rtab md ops=T)) (h:∀ K:Act→World→Prop,Shut (∀ a' w',S w'→(S w'→zu P md ops Q S ds fuel (l.setIfInBounds i true) a' w')→K a' w')→if Region.wanted oi (yielded ops a.tmps)=true then Oper.wp P oi a w K Q else K (a.put N undef) w)
    (hi:ops[i]? =some oi:=by rfl) (hN:oi.dst=N:=by rfl) (hc:(qbt T.2 l.toList == [i] && l.toList.set i true == (l.setIfInBounds i true).toList)=true:=by kernel_rfl) (hd:i ∉ ds:=by decide):zu P md ops Q S ds (fuel+1) l a w:=one_ (l.setIfInBounds i true) hi hN (qpo HT.out hc) hd h
theorem la (i:Nat) (N:Option Tmp) (HT:qf (rtab md ops=T)) (h:∀ K:Act→World→Prop,Shut (∀ a' w',zu P md ops Q S ds fuel (l.setIfInBounds i true) a' w'→K a' w')→if Region.wanted oi (yielded ops a.tmps)=true then Oper.wp P oi a w K Q else K (a.put N undef) w)
    (hi:ops[i]? =some oi:=by rfl) (hN:oi.dst=N:=by rfl) (hc:(qbt T.2 l.toList == [i] && l.toList.set i true == (l.setIfInBounds i true).toList)=true:=by kernel_rfl) (hd:i∈ds:=by decide):zu P md ops Q S ds (fuel+1) l a w:=last_ (l.setIfInBounds i true) hi hN (qpo HT.out hc) hd h
theorem nz (h:zu P md ops Q S ds fuel l a' w) (ha:a=a':=by (first | (show Act.put _ _ _=_;simp only[Act.put,List.setIfInBounds_toArray,List.set_cons_zero,List.set_cons_succ,qbs,qbv];rfl) | (simp only[Act.put,List.setIfInBounds_toArray,List.set_cons_zero,List.set_cons_succ,qbs,qbv];rfl))):zu P md ops Q S ds fuel l a w:=qe5 ha h
theorem st (n:Nat) (S:World→Prop) (ds:List Nat) {id:Nat} {T:Bool×List (List Nat×List Nat)} {B:List Nat} (hT:rtab .any ops=T) (hB:Qj T.2 B=true) (hS:S w.drew) (h:S w.drew→qf (rtab .any ops=T)→qf (Qj T.2 B=true)→zu P .any ops Q S ds n (Array.replicate n false) a w.drew)
    (hm:P.follows .mixedOrders=true:=by kernel_rfl) (hn:ops.size=n:=by rfl):(Code.region id ops true).wp P Q a w:=start_ (Array.replicate n false) hm hn rfl hS fun hh=>qni hT hB fun x y=>h hh x y
end
section
variable {P :Program} {ops:Array Oper} {Q:Exit→Act→World→Prop} {rest:List Oper} {oi:Oper} {a:Act} {w:World} {K:Act→World→Prop}
theorem gl (N:Tmp) {f:FuncId} {fn:Func} {az:Array Operand} {ts:Array TypeId} (hf:P.funcs[f]? =some fn) (args:Array Value) (h:Calls P f args w fun e w'=>∃ v,e=.returned v∧wpList P ops Q rest (a.put (some N) v) w')
    (hop:oi.op=.call { callee:=.value (.func f),args:=az,argTypes:=ts }:=by rfl) (hd:oi.dst=some N:=by rfl) (hg:oi.guard=none:=by rfl) (hname:(fn.name == "runtime.NumGoroutine")=false:=by kernel_rfl) (hb:fn.body.isSome=true:=by rfl)
    (hargs:az.map a.eval=args:=by ((try simp only[List.map_toArray,List.map_cons,List.map_nil]);first | done | rfl | (simp only[List.length_drop,List.length_take];rfl))):wpList P ops Q (oi :: rest) a w:=goesL_ (some N) hd hg hf hname hb args hop hargs h
theorem gs_ {N:Option Tmp} {f:FuncId} {fn:Func} {az:Array Operand} {ts:Array TypeId} (hf:P.funcs[f]? =some fn) (args:Array Value) (h:Calls P f args w fun e w'=>∃ v,e=.returned v∧K (a.put N v) w')
    (hw:Region.wanted oi (yielded ops a.tmps)=true:=by rfl) (hN:oi.dst=N:=by rfl) (hop:oi.op=.call { callee:=.value (.func f),args:=az,argTypes:=ts }:=by rfl) (hname:(fn.name == "runtime.NumGoroutine")=false:=by kernel_rfl) (hb:fn.body.isSome=true:=by rfl)
    (hargs:az.map a.eval=args:=by ((try simp only[List.map_toArray,List.map_cons,List.map_nil]);first | done | rfl | (simp only[List.length_drop,List.length_take];rfl))):if Region.wanted oi (yielded ops a.tmps)=true then Oper.wp P oi a w K Q else K (a.put N undef) w:=goes_ hf hname hb args hw hN hop hargs h
theorem qgp (W:World) (base:Nat) (ok:Nat→Prop):∀ xs:List Int,Reps ((Kd.int .i64).M W base ok) (Kd.int .i64).sz xs (xs.map (Value.int .i64))
  | []=>Reps.none _ _
  | x :: xs=>Reps.one (show Kd.M (Kd.int .i64) _ _ _ x [.int .i64 x] from rfl) (qgp W base ok xs)
theorem li (e:Nat) {N:Tmp} (xs:List Int) (h:∀ v1 w1,(Kd.int .i64).R e w1 w.heap.size (fun _=>True) v1 xs→Below w.heap.size w w1→wpList P ops Q rest (a.put oi.dst v1) w1) {inner:List Value}
    (hgd:oi.guard=none:=by rfl) (hd:oi.dst=some N:=by rfl) (hi:inner=xs.map (Value.int .i64):=by rfl) (hrun:(execOp a.eval oi).run P w=.ok (.value (.slice (some ⟨w.heap.size,0,none⟩) xs.length xs.length)) (w.alloc (.cells inner.toArray e)):=by first | (go_simp;done) | (go_simp;rfl)) (hm:xs.length≤9223372036854775807:=by simp):wpList P ops Q (oi :: rest) a w:=by
  subst hi
  exact Kd.R_lit (Kd.int .i64) w.heap.size e hgd hd hrun (okp:=fun _=>True) (qgp _ _ _ xs) (fun _ h=>h) trivial (Below.refl _ _) (Nat.le_refl _) hm fun v1 w1 h1 h2 _ _=>h v1 w1 h1 h2
end
theorem pk_ {w w':World} {b:Nat} {o:Obj} (h:qf (w.heap[b]? =some o)) (k:w.heap[b]? =some o→w'.heap[b]? =some o:=by (intro h_;(with_reducible repeat (first | refine qx ?_ _ | refine qw ?_ | refine qq ?_ _));exact h_)):w'.heap[b]? =some o:=k h.out
theorem bx_ {w W W':World} (h:qf (Below w.heap.size w W)) (k:Below w.heap.size w W→Below w.heap.size w W':=by (intro h_;repeat (first | (with_reducible first | exact h_ | apply jx | apply Ql | apply Qg) | refine Qi ?_ (qf.out (by assumption)) | exact h_))):Below w.heap.size w W':=k h.out
section
variable {α :Type} {d:Kd α} {e base:Nat} {ok ok':Nat→Prop} {w W W':World} {v:Value} {xs:List α}
theorem oR_ (h:qf (Kd.R d e W base ok v xs)) [Zq W W'] (k:∀ k,ok k→ok' k):Kd.R d e W' base ok' v xs:=Kd.R_mono (wR h) k
theorem oN_ (h:qf (Kd.N d e W base ok v xs)) [Zq W W'] (k:∀ k,ok k→ok' k):Kd.N d e W' base ok' v xs:=Kd.N_mono (wN h) k
theorem oS_ (h:qf (Kd.S d e W base ok v xs)) [Zq W W'] (k:∀ k,ok k→ok' k):Kd.S d e W' base ok' v xs:=Kd.S_mono (wS h) k
theorem oV_ (h:qf (Kd.V d e W base ok v xs)) [Zq W W'] (k:∀ k,ok k→ok' k):Kd.V d e W' base ok' v xs:=Kd.V_mono (wV h) k
end
section
variable {P :Program} {ops:Array Oper} {Q:Exit→Act→World→Prop} {rest:List Oper} {o:Oper} {a:Act} {W:World} {K:Act→World→Prop}
theorem xe_ (N:Tmp) (t:TypeId) (cs:Array Value) (h:∀ g,g=W.heap.size→∀ w1,w1.heap[g]? =some (.cells cs t (0,0))→Below W.heap.size W w1→wpList P ops Q rest (a.put o.dst (.pointer (some ⟨g,0,none⟩))) w1)
    (hg:o.guard=none:=by rfl) (hd:o.dst=some N:=by rfl) (hr:(execOp a.eval o).run P W=.ok (.value (.pointer (some ⟨W.heap.size,0,none⟩))) (W.alloc (.cells cs t (0,0))):=by first | (go_simp;done) | (go_simp;rfl)):wpList P ops Q (o :: rest) a W:=qnh hg hd hr h
theorem xs_ (N:Tmp) (t:TypeId) (cs:Array Value) (h:∀ g,g=W.heap.size→∀ w1,w1.heap[g]? =some (.cells cs t (0,0))→Below W.heap.size W w1→K (a.put o.dst (.pointer (some ⟨g,0,none⟩))) w1)
    (hg:Region.wanted o (yielded ops a.tmps)=true:=by rfl) (hd:o.dst=some N:=by rfl) (hr:(execOp a.eval o).run P W=.ok (.value (.pointer (some ⟨W.heap.size,0,none⟩))) (W.alloc (.cells cs t (0,0))):=by first | (go_simp;done) | (go_simp;rfl)):if Region.wanted o (yielded ops a.tmps)=true then Oper.wp P o a W K Q else K (a.put o.dst undef) W:=qou hg hd hr h
end
end Go.Proofs.Ytmgbpmihbljngaa.PA
