-- Written by xprint.py, a program of this claim's own (over the kit's print.py)
import Derived.Test.YtmgbpmihbljngaaPAx1
namespace Go.Proofs.Ytmgbpmihbljngaa.PA
set_option maxHeartbeats 8000000
set_option maxRecDepth 100000
open Go.RowKit Go.Proofs.YtmgbpmihbljngaaW.PrintWords Go.Proofs.YtmgbpmihbljngaaW.PrintLast Go.Proofs.YtmgbpmihbljngaaW.PrintMore
attribute [local go_sem] Qs Qr Qx Qw Qf Qe Qq Qp
set_option linter.unusedVariables false
set_option linter.unusedSimpArgs false
def q8.l0 :Nat→List (S43)→List (S43)→Int→Option (Bool)
 | 0,_,_,_=>none
 | k+1,x0,x1,x5=>if x5 < (x0.length:Int) then (if 0≤x5 then (if x5 < (x1.length:Int) then ((Zx.f ((qd x0 x5).f0.f0) ((qd x0 x5).f0.f1) ((qd x0 x5).f0.f2) ((qd x1 x5).f0.f0) ((qd x1 x5).f0.f1) ((qd x1 x5).f0.f2)).bind fun t122=>(if t122=true then (q8.l0 k x0 x1 (wrap64 (x5+1))) else (some false))) else (none)) else (none)) else (some true)
def q8.f (k:Nat) (l0:List (S43)) (l1:List (S43)):Option (Bool):=if (l0.length:Int)=(l1.length:Int) then (q8.l0 k l0 l1 0) else (some false)
theorem q8.mono_l :∀ k,(∀ y0 y1 y2,LeO (q8.l0 k y0 y1 y2) (q8.l0 (k+1) y0 y1 y2))
 | 0=>fun _ _ _ r h=>by simp[q8.l0]at h
 | k+1=>by
  have ih0:=q8.mono_l k
  ·intro y0 y1 y2
   unfold q8.l0
   repeat' first | (with_reducible first | apply ih0 | exact LeO.refl _ | exact LeO.none _ | refine LeO.ite ?_ ?_ | refine LeO.bind ?_ (fun _=>?_)) | (first | apply ih0 | exact LeO.none _ | refine LeO.ite ?_ ?_ | refine LeO.bind ?_ (fun _=>?_))
theorem q8.mono :∀ a0 a1 k,LeO (q8.f k a0 a1) (q8.f (k+1) a0 a1):=by
 intro a0 a1 k
 have ih0:=q8.mono_l k
 unfold q8.f
 repeat' first | (with_reducible first | apply ih0 | exact LeO.refl _ | exact LeO.none _ | refine LeO.ite ?_ ?_ | refine LeO.bind ?_ (fun _=>?_)) | (first | apply ih0 | exact LeO.none _ | refine LeO.ite ?_ ?_ | refine LeO.bind ?_ (fun _=>?_))
def q8.T6 :Bool×List (List Nat×List Nat):=(true,[([],[]),([],[]),([0,1],[0,1]),([2],[2]),([],[]),([],[]),([4,5],[4,5]),([6],[6]),([3,7],[3,7]),([8],[8])])
def q8.B6 :List Nat:=[0,0,3,7,0,0,48,112,255,511]
theorem q8.tab6 :rtab .any (Z0 Try.f24 6)=q8.T6:=by kernel_rfl
theorem q8.bits6 :Qj q8.T6.2 q8.B6=true:=by kernel_rfl
theorem q8.calls (k:Nat) (A0:Option Addr) (c0:Nat) (l0:List (S43)) (A1:Option Addr) (c1:Nat) (l1:List (S43)) (r:Bool) (w:World) (hr0:Kd.C k43 w A0 l0.length l0) (hc0:l0.length≤c0) (hr1:Kd.C k43 w A1 l1.length l1) (hc1:l1.length≤c1) (h:q8.f k l0 l1=some r):
  Calls Try.prog 24 #[.slice A0 l0.length c0,.slice A1 l1.length c1] w fun e w'=>e=.returned (.bool r)∧Below w.heap.size w w':=by
 have hu43:=Try.underlying43
 have HR0:=am hr0
 have HC0:=am hc0
 clear hr0 hc0
 have HR1:=am hr1
 have HC1:=am hc1
 clear hr1 hc1
 have HB:=am (Below.refl w.heap.size w)
 have H:(if (l0.length:Int)=(l1.length:Int) then (q8.l0 k l0 l1 0) else (some false))=some r:=h
 clear h
 by_cases c3:(l0.length:Int)=(l1.length:Int)
 ·rw [if_pos c3] at H
  have c3b0:=beq_iff_eq.mpr c3;have c3b1:=bne_eq_false_iff_eq.mpr c3
  have c3b2:(l0.length == l1.length)=true:=by first | simpa using c3 | (simp at c3 ⊢;omega)
  clear c3;have H':=am H;clear H
  go_enter Try.func24,Try.ntmps24
  go_wp2
  go_loopg [5] k (fun kq v5 w'=>∃ (x5_1:Int),v5=.int .i64 x5_1∧qf (q8.l0 kq l0 l1 x5_1=some r)∧qf (kq≤k)∧qf (Below w.heap.size w w'))
  case atStart=>exact⟨(0),fr,H',⟨Nat.le_refl _⟩,⟨bw HB⟩⟩
  case round=>
   clear H';try clear c1;try clear c2;try clear p2;try clear c3;try clear c3b0;try clear c3b1;try clear c3b2
   obtain⟨x5_1,rfl,HA,HK1,HB⟩:=hrel
   cases gk with
   | zero=>exact absurd HA.out (by simp[q8.l0])
   | succ k1=>
    have H:=HA.out;clear HA
    simp only[q8.l0]at H
    by_cases c4:x5_1 < (l0.length:Int)
    ·rw[if_pos c4]at H
     have c4b0:=decide_eq_true c4;clear c4;replace H:=ifn H;obtain⟨c5,H⟩:=H;have c5b0:=decide_eq_true c5;clear c5;replace H:=ifn H;obtain⟨c6,H⟩:=H;have c6b0:=decide_eq_true c6;clear c6;replace H:=bs H;obtain⟨t122,A7,H⟩:=H
     by_cases c8:t122=true
     ·subst c8
      rw[if_pos rfl]at H
      have H':=am H;clear H
      try go_wp2
      replace HB:=am (Qg HB.out)
      have p120:0≤(x5_1:Int):=od
      have q120:x5_1 < (l0.length:Int):=od
      obtain⟨ad120,e120,hx120_0,hx120_1,hx120_2⟩:=Qo HR0.out x5_1 p120 q120
      have hw120_2:=hx120_2
      have hw120_1:=hx120_1
      have hw120_0:=hx120_0
      cases e120
      replace hx120_0:=wcl HB hx120_0
      replace hx120_1:=wcl HB hx120_1
      replace hx120_2:=wcl HB hx120_2
      replace p120:=eq_true p120;replace q120:=eq_true q120
      have p121:0≤(x5_1:Int):=od
      have q121:x5_1 < (l1.length:Int):=od
      obtain⟨ad121,e121,hx121_0,hx121_1,hx121_2⟩:=Qo HR1.out x5_1 p121 q121
      have hw121_2:=hx121_2
      have hw121_1:=hx121_1
      have hw121_0:=hx121_0
      cases e121
      replace hx121_0:=wcl HB hx121_0
      replace hx121_1:=wcl HB hx121_1
      replace hx121_2:=wcl HB hx121_2
      replace p121:=eq_true p121;replace q121:=eq_true q121
      refine st 10 (fun w'=>w'.cell? (ad120.add ((x5_1).toNat*3))=some (.int .i64 ((qd l0 x5_1).f0.f0))∧w'.cell? ⟨(ad120.add ((x5_1).toNat*3)).block,(ad120.add ((x5_1).toNat*3)).off+1,none⟩=some (.int .i64 ((qd l0 x5_1).f0.f1))∧w'.cell? ⟨(ad120.add ((x5_1).toNat*3)).block,(ad120.add ((x5_1).toNat*3)).off+2,none⟩=some (.int .i64 ((qd l0 x5_1).f0.f2))∧w'.cell? (ad121.add ((x5_1).toNat*3))=some (.int .i64 ((qd l1 x5_1).f0.f0))∧w'.cell? ⟨(ad121.add ((x5_1).toNat*3)).block,(ad121.add ((x5_1).toNat*3)).off+1,none⟩=some (.int .i64 ((qd l1 x5_1).f0.f1))∧w'.cell? ⟨(ad121.add ((x5_1).toNat*3)).block,(ad121.add ((x5_1).toNat*3)).off+2,none⟩=some (.int .i64 ((qd l1 x5_1).f0.f2))) [] q8.tab6 q8.bits6 (⟨(wcl HB hw120_0),(wcl HB hw120_1),(wcl HB hw120_2),(wcl HB hw121_0),(wcl HB hw121_1),(wcl HB hw121_2)⟩) fun hHeld HT_ HW_=>?_
      generalize wr.drew=w9 at HB hx120_0 hx120_1 hx120_2 hx121_0 hx121_1 hx121_2 hHeld ⊢
      refine pz 0 17 HT_ ?_;refine pz 1 18 HT_ ?_;refine pz 2 19 HT_ ?_;refine pz 4 21 HT_ ?_;refine pz 5 22 HT_ ?_;refine pz 6 23 HT_ ?_;refine tk 3 20 HT_ HW_ hHeld ?_;refine tk 7 24 HT_ HW_ hHeld ?_
      refine on 8 (some 25) HT_ fun K hK=>?_
      refine gs_ Try.func68 #[.agg #[.int .i64 ((qd l0 x5_1).f0.f0),.int .i64 ((qd l0 x5_1).f0.f1),.int .i64 ((qd l0 x5_1).f0.f2)],.agg #[.int .i64 ((qd l1 x5_1).f0.f0),.int .i64 ((qd l1 x5_1).f0.f1),.int .i64 ((qd l1 x5_1).f0.f2)]] ?_
      with_reducible refine(Zx.calls ((qd l0 x5_1).f0.f0) ((qd l0 x5_1).f0.f1) ((qd l0 x5_1).f0.f2) ((qd l1 x5_1).f0.f0) ((qd l1 x5_1).f0.f1) ((qd l1 x5_1).f0.f2) true _ A7.out).mono ?_
      rintro e w10 ⟨rfl,hb⟩
      refine⟨_,rfl,?_⟩
      replace HB:=bq HB hb
      (try clear hb)
      (try clear hb2)
      (try clear hk)
      (try clear hi)
      refine hK.out _ _ ⟨(wcl HB hw120_0),(wcl HB hw120_1),(wcl HB hw120_2),(wcl HB hw121_0),(wcl HB hw121_1),(wcl HB hw121_2)⟩ fun hHeld=>nz ?_
      clear hK K;refine pz 9 26 HT_ ?_
      refine Q3 (Qa HT_.out (by kernel_rfl)) ?_
      try go_wp2
      go_roundg k1
      case measure=>have:=HK1.out;omega
      case rel=>exact⟨(wrap64 (x5_1+1)),fr,H',⟨by have:=HK1.out;omega⟩,⟨bw HB⟩⟩
     ·replace c8:=Bool.eq_false_iff.mpr c8
      subst c8
      rw[if_neg (show ¬ (false=true) by decide)]at H
      obtain rfl:=Option.some.inj H
      try go_wp2
      replace HB:=am (Qg HB.out)
      have p120:0≤(x5_1:Int):=od
      have q120:x5_1 < (l0.length:Int):=od
      obtain⟨ad120,e120,hx120_0,hx120_1,hx120_2⟩:=Qo HR0.out x5_1 p120 q120
      have hw120_2:=hx120_2
      have hw120_1:=hx120_1
      have hw120_0:=hx120_0
      cases e120
      replace hx120_0:=wcl HB hx120_0
      replace hx120_1:=wcl HB hx120_1
      replace hx120_2:=wcl HB hx120_2
      replace p120:=eq_true p120;replace q120:=eq_true q120
      have p121:0≤(x5_1:Int):=od
      have q121:x5_1 < (l1.length:Int):=od
      obtain⟨ad121,e121,hx121_0,hx121_1,hx121_2⟩:=Qo HR1.out x5_1 p121 q121
      have hw121_2:=hx121_2
      have hw121_1:=hx121_1
      have hw121_0:=hx121_0
      cases e121
      replace hx121_0:=wcl HB hx121_0
      replace hx121_1:=wcl HB hx121_1
      replace hx121_2:=wcl HB hx121_2
      replace p121:=eq_true p121;replace q121:=eq_true q121
      refine st 10 (fun w'=>w'.cell? (ad120.add ((x5_1).toNat*3))=some (.int .i64 ((qd l0 x5_1).f0.f0))∧w'.cell? ⟨(ad120.add ((x5_1).toNat*3)).block,(ad120.add ((x5_1).toNat*3)).off+1,none⟩=some (.int .i64 ((qd l0 x5_1).f0.f1))∧w'.cell? ⟨(ad120.add ((x5_1).toNat*3)).block,(ad120.add ((x5_1).toNat*3)).off+2,none⟩=some (.int .i64 ((qd l0 x5_1).f0.f2))∧w'.cell? (ad121.add ((x5_1).toNat*3))=some (.int .i64 ((qd l1 x5_1).f0.f0))∧w'.cell? ⟨(ad121.add ((x5_1).toNat*3)).block,(ad121.add ((x5_1).toNat*3)).off+1,none⟩=some (.int .i64 ((qd l1 x5_1).f0.f1))∧w'.cell? ⟨(ad121.add ((x5_1).toNat*3)).block,(ad121.add ((x5_1).toNat*3)).off+2,none⟩=some (.int .i64 ((qd l1 x5_1).f0.f2))) [] q8.tab6 q8.bits6 (⟨(wcl HB hw120_0),(wcl HB hw120_1),(wcl HB hw120_2),(wcl HB hw121_0),(wcl HB hw121_1),(wcl HB hw121_2)⟩) fun hHeld HT_ HW_=>?_
      generalize wr.drew=w11 at HB hx120_0 hx120_1 hx120_2 hx121_0 hx121_1 hx121_2 hHeld ⊢
      refine pz 0 17 HT_ ?_;refine pz 1 18 HT_ ?_;refine pz 2 19 HT_ ?_;refine pz 4 21 HT_ ?_;refine pz 5 22 HT_ ?_;refine pz 6 23 HT_ ?_;refine tk 3 20 HT_ HW_ hHeld ?_;refine tk 7 24 HT_ HW_ hHeld ?_
      refine on 8 (some 25) HT_ fun K hK=>?_
      refine gs_ Try.func68 #[.agg #[.int .i64 ((qd l0 x5_1).f0.f0),.int .i64 ((qd l0 x5_1).f0.f1),.int .i64 ((qd l0 x5_1).f0.f2)],.agg #[.int .i64 ((qd l1 x5_1).f0.f0),.int .i64 ((qd l1 x5_1).f0.f1),.int .i64 ((qd l1 x5_1).f0.f2)]] ?_
      with_reducible refine(Zx.calls ((qd l0 x5_1).f0.f0) ((qd l0 x5_1).f0.f1) ((qd l0 x5_1).f0.f2) ((qd l1 x5_1).f0.f0) ((qd l1 x5_1).f0.f1) ((qd l1 x5_1).f0.f2) false _ A7.out).mono ?_
      rintro e w12 ⟨rfl,hb⟩
      refine⟨_,rfl,?_⟩
      replace HB:=bq HB hb
      (try clear hb)
      (try clear hb2)
      (try clear hk)
      (try clear hi)
      refine hK.out _ _ ⟨(wcl HB hw120_0),(wcl HB hw120_1),(wcl HB hw120_2),(wcl HB hw121_0),(wcl HB hw121_1),(wcl HB hw121_2)⟩ fun hHeld=>nz ?_
      clear hK K;refine pz 9 26 HT_ ?_
      refine Q3 (Qa HT_.out (by kernel_rfl)) ?_
      try go_wp2
      go_ret
      exact⟨fq,bw HB⟩
    ·rw[if_neg c4]at H
     have c4b0:=decide_eq_false c4;clear c4;obtain rfl:=Option.some.inj H;go_wp2;go_ret
     exact⟨fq,bw HB⟩
 ·rw[if_neg c3]at H
  have c3b0:=beq_eq_false_iff_ne.mpr c3;have c3b1:=bne_iff_ne.mpr c3
  have c3b2:(l0.length == l1.length)=false:=by first | simpa using c3 | (simp at c3 ⊢;omega)
  obtain rfl:=Option.some.inj H
  go_enter Try.func24,Try.ntmps24
  go_wp2;go_ret
  exact⟨fq,bw HB⟩
def mkP (a:Int) (n:Nat):List S43:=(List.range n).map fun (j:Nat)=>⟨⟨a+3*(j:Int),a+3*(j:Int)+1,a+3*(j:Int)+2⟩⟩
def Zb.f (l0:List S43) (a1:Int):Option (Int×List S43):=if l0.length≤1048576∧0≤a1∧a1≤1000000000 then some (a1+3*(l0.length:Int),mkP a1 l0.length) else none
theorem qnw {w:World} {base g n cap:Nat} {ok:Nat→Prop} {xs:List S43} (h:Kd.R k43 43 w base ok (.slice (some ⟨g,0,none⟩) n cap) xs) (i:Nat) (hi:i < n) (x y z:Int) (hx:qd xs (i:Int)=⟨⟨x,y,z⟩⟩):∀ j u,([.int .i64 x,.int .i64 y,.int .i64 z]:List Value)[j]? =some u→w.cell? ⟨g,(i:Int).toNat*k43.sz+j,none⟩=some u:=by
 have hr:=Kd.R_reads' h
 obtain⟨ad,e,x0,x1,x2⟩:=Qo hr.2.2 (i:Int) (by omega) (by omega)
 obtain rfl:=Option.some.inj e
 rw[hx]at x0 x1 x2
 have hz:k43.sz=3:=rfl
 have ea:(⟨g,0,none⟩:Addr).add ((i:Int).toNat*3)=⟨g,i*3,none⟩:=by
  rw[Int.toNat_natCast]
  unfold Addr.add
  split
  ·next e=>rw[e]
  ·simp
 rw[ea]at x0 x1 x2
 intro j u hj
 rw[hz]
 match j,hj with
 | 0,hj=>obtain rfl:=Option.some.inj hj;exact x0
 | 1,hj=>obtain rfl:=Option.some.inj hj;exact x1
 | 2,hj=>obtain rfl:=Option.some.inj hj;exact x2
theorem qew {W:World} {base g n cap:Nat} {ok:Nat→Prop} {xs:List S43} (h:Kd.R k43 43 W base ok (.slice (some ⟨g,0,none⟩) n cap) xs) (i:Nat) (hi:i < n) (x y z:Int) (hx:qd xs (i:Int)=⟨⟨x,y,z⟩⟩) (j:Nat) (v x' y' z':Int) (hj:j < 3) (he:([.int .i64 x,.int .i64 y,.int .i64 z]:List Value).take j++[.int .i64 v]++([.int .i64 x,.int .i64 y,.int .i64 z]:List Value).drop (j+1)=[.int .i64 x',.int .i64 y',.int .i64 z']):
  (Kd.R k43 43 (W.setCell ⟨g,i*3+j,none⟩ (.int .i64 v)) base ok (.slice (some ⟨g,0,none⟩) n cap) (xs.set i ⟨⟨x',y',z'⟩⟩)∧W.grownBy (W.setCell ⟨g,i*3+j,none⟩ (.int .i64 v)) (some g))∧W.cell? ⟨g,i*3+j,none⟩=([.int .i64 x,.int .i64 y,.int .i64 z]:List Value)[j]?∧W.frozen? ⟨g,i*3+j,none⟩=false:=by
 have hc:=qnw h i hi x y z hx
 have hz:k43.sz=3:=rfl
 rw[Int.toNat_natCast,hz]at hc
 refine⟨?_,?_,?_⟩
 ·have:=Kd.R_seg (okp:=fun _=>False) h (i:Int) (by omega) (by omega) (c:=[.int .i64 x,.int .i64 y,.int .i64 z]) (seg:=[.int .i64 v]) (j:=j) rfl (by rw[Int.toNat_natCast,hz];exact hc) (by show j+1≤3;omega) (x':=⟨⟨x',y',z'⟩⟩) (by show k43.M W base _ _ (List.take j _ ++[_]++List.drop (j+1) _);rw[he];exact Jb _ _ _ _) (fun _ hk=>hk.elim)
  rw[Int.toNat_natCast,hz]at this
  exact this
 ·rcases (show j=0∨j=1∨j=2 by omega) with rfl | rfl | rfl
  ·exact hc 0 _ rfl
  ·exact hc 1 _ rfl
  ·exact hc 2 _ rfl
 ·obtain⟨g2,c2,hv,_,_,cl,hg⟩:=Kd.R_form h (by have:=(Kd.R_reads' h).1;omega)
  injection hv with ha
  injection ha with ha
  injection ha with ha
  subst ha
  exact ql hg _
theorem qqd {i d n:Nat} (h:i+(d+1)=n):n - (((i+1:Nat):Int)).toNat < n - ((i:Int)).toNat:=by omega
theorem mk_rd (xs:List S43) (i:Nat) (hi:i < xs.length) (x:S43):qd (xs.set i x) (i:Int)=x:=by simp[qd,List.getD_eq_getElem?_getD,hi]
theorem Zb.calls (P0_:Nat→Prop) (u9000_:Value) (l0:List S43) (a1:Int) (r1:Int) (r2:List S43) (w0 w:World) (hB:Below w0.heap.size w0 w) (ho0:Kd.R k43 43 w w0.heap.size P0_ u9000_ l0) (h:Zb.f l0 a1=some (r1,r2)):
  Calls Try.prog 25 #[u9000_,.int .i64 a1] w fun e w'=>e=.returned (.int .i64 r1)∧Kd.R k43 43 w' w0.heap.size (fun k_=>(P0_ k_∨w.heap.size≤k_)) u9000_ r2∧Below w0.heap.size w0 w'∧Kept w w' (fun k_=>P0_ k_):=by
 have hu43:=Try.underlying43
 have hu41:=Try.underlying41
 have hu34:=Try.underlying34
 have HO:=am (show Kd.R k43 43 w w0.heap.size (fun k_=>(P0_ k_∨w.heap.size≤k_)) u9000_ l0 from Kd.R_mono ho0 (fun k_ hk=>(.inl hk)))
 have HK:=am (Kept.refl w (fun k_=>P0_ k_))
 have HP0:=am (fun k (hk:u9000_.ownBlock=some k)=>ho0.1 k hk)
 have HB:=am hB
 unfold Zb.f at h
 split at h
 rotate_left
 ·exact absurd h (by simp)
 next hlen=>
 have HLEN:=am hlen
 replace h:=Option.some.inj h
 simp only[Prod.mk.injEq]at h
 obtain⟨rfl,rfl⟩:=h
 clear hB ho0 hlen
 obtain⟨Ao,co,eo⟩:=Kd.R_slice HO.out
 have HEO:=am eo
 subst eo
 go_enter Try.func25,Try.ntmps25
 go_wp2
 go_loopw [1,5] (fun v1 v5 w'=>∃ (d i:Nat) (xs:List S43),v1=.int .i64 (a1+3*(i:Int))∧v5=.int .i64 (i:Int)∧qf (i+d=l0.length)∧qf (xs=mkP a1 i++l0.drop i)∧qf (Kd.R k43 43 w' w0.heap.size (fun k_=>(P0_ k_∨w.heap.size≤k_)) (.slice Ao l0.length co) xs)∧qf (Kept w w' (fun k_=>P0_ k_))∧qf (Below w0.heap.size w0 w')) (fun _ v5 _=>l0.length - (intOf v5).toNat)
 case atStart=>exact⟨l0.length,0,l0,by simp,rfl,⟨by omega⟩,⟨by simp[mkP]⟩,⟨HO.out⟩,⟨HK.out⟩,⟨HB.out⟩⟩
 case round=>
  clear HO HK HB
  obtain⟨d,i,xs,rfl,rfl,HD,HX,HO,HK,HB⟩:=hrel
  cases d with
  | zero=>
   have hi:i=l0.length:=by have:=HD.out;omega
   subst hi
   have hlt:decide (l0.length < l0.length)=false:=decide_eq_false (by omega)
   go_wp2;go_ret
   refine⟨fq,?_,HB.out,HK.out⟩
   have e:=HX.out
   rw[List.drop_length,List.append_nil]at e
   rw[← e]
   exact HO.out
  | succ d=>
   have hlt:(i < l0.length)=True:=eq_true (by have:=HD.out;omega)
   have hl:xs.length=l0.length:=by rw[HX.out];simp[mkP];have:=HD.out;omega
   obtain⟨g,cap,hv,hbg,hgl,cl,hgc⟩:=Kd.R_form HO.out (by have:=HD.out;omega)
   injection hv with ha hn hc
   subst ha;subst hc
   have HBG:=am hbg
   clear hn hgc cl hgl hbg
   obtain⟨⟨⟨x,y,z⟩⟩,hX⟩:∃ X,qd xs (i:Int)=X:=⟨_,rfl⟩
   have e1:qd (xs.set i ⟨⟨a1+3*(i:Int),y,z⟩⟩) (i:Int)=⟨⟨a1+3*(i:Int),y,z⟩⟩:=mk_rd xs i (by have:=HD.out;omega) _
   have e2:qd ((xs.set i ⟨⟨a1+3*(i:Int),y,z⟩⟩).set i ⟨⟨a1+3*(i:Int),a1+3*(i:Int)+1,z⟩⟩) (i:Int)=⟨⟨a1+3*(i:Int),a1+3*(i:Int)+1,z⟩⟩:=mk_rd _ i (by have:=HD.out;rw[List.length_set];omega) _
   have E0:=am hX
   have E1:=am e1
   have E2:=am e2
   have HL:=am hl
   clear hX e1 e2 hl
   have p0:(0≤(i:Int))=True:=eq_true (by omega)
   have w1_:wrap64 (a1+3*(i:Int)+1)=a1+3*(i:Int)+1:=by have:=HLEN.out;have:=HD.out;unfold wrap64;omega
   have w2_:wrap64 (a1+3*(i:Int)+1+1)=a1+3*(i:Int)+2:=by have:=HLEN.out;have:=HD.out;unfold wrap64;omega
   have w3_:wrap64 (a1+3*(i:Int)+2+1)=a1+3*(i:Int)+3:=by have:=HLEN.out;have:=HD.out;unfold wrap64;omega
   have w4_:wrap64 ((i:Int)+1)=((i+1:Nat):Int):=by have:=HLEN.out;have:=HD.out;unfold wrap64;omega
   obtain⟨⟨r0,hg0⟩,hc0,hf0⟩:=qew HO.out i (by have:=HD.out;omega) x y z E0.out 0 (a1+3*(i:Int)) (a1+3*(i:Int)) y z (by omega) rfl
   rw[Nat.add_zero]at r0 hg0 hc0 hf0
   have HO1:=am r0
   have HK1:=am (Kept.of_grown (S:=(fun k_=>P0_ k_)) hg0 HK.out (fun k_ e_=>(HO.out.1 k_ e_)))
   have HB1:=am (Qi HB.out HBG.out (j:=i*3) (v:=.int .i64 (a1+3*(i:Int))))
   clear r0 hg0
   obtain⟨⟨r1,hg1⟩,hc1,hf1⟩:=qew HO1.out i (by have:=HD.out;omega) (a1+3*(i:Int)) y z E1.out 1 (a1+3*(i:Int)+1) (a1+3*(i:Int)) (a1+3*(i:Int)+1) z (by omega) rfl
   have HO2:=am r1
   have HK2:=am (Kept.of_grown (S:=(fun k_=>P0_ k_)) hg1 HK1.out (fun k_ e_=>(HO1.out.1 k_ e_)))
   have HB2:=am (Qi HB1.out HBG.out (j:=i*3+1) (v:=.int .i64 (a1+3*(i:Int)+1)))
   clear r1 hg1
   obtain⟨⟨r2,hg2⟩,hc2,hf2⟩:=qew HO2.out i (by have:=HD.out;omega) (a1+3*(i:Int)) (a1+3*(i:Int)+1) z E2.out 2 (a1+3*(i:Int)+2) (a1+3*(i:Int)) (a1+3*(i:Int)+1) (a1+3*(i:Int)+2) (by omega) rfl
   have HO3:=am r2
   have HK3:=am (Kept.of_grown (S:=(fun k_=>P0_ k_)) hg2 HK2.out (fun k_ e_=>(HO2.out.1 k_ e_)))
   have HB3:=am (Qi HB2.out HBG.out (j:=i*3+2) (v:=.int .i64 (a1+3*(i:Int)+2)))
   clear r2 hg2
   replace hc0:wr.cell? ⟨g,i*3,none⟩=some (.int .i64 x):=hc0
   replace hf0:wr.frozen? ⟨g,i*3,none⟩=false:=hf0
   replace hc1:(wr.setCell ⟨g,i*3,none⟩ (.int .i64 (a1+3*(i:Int)))).cell? ⟨g,i*3+1,none⟩=some (.int .i64 y):=hc1
   replace hf1:(wr.setCell ⟨g,i*3,none⟩ (.int .i64 (a1+3*(i:Int)))).frozen? ⟨g,i*3+1,none⟩=false:=hf1
   replace hc2:((wr.setCell ⟨g,i*3,none⟩ (.int .i64 (a1+3*(i:Int)))).setCell ⟨g,i*3+1,none⟩ (.int .i64 (a1+3*(i:Int)+1))).cell? ⟨g,i*3+2,none⟩=some (.int .i64 z):=hc2
   replace hf2:((wr.setCell ⟨g,i*3,none⟩ (.int .i64 (a1+3*(i:Int)))).setCell ⟨g,i*3+1,none⟩ (.int .i64 (a1+3*(i:Int)+1))).frozen? ⟨g,i*3+2,none⟩=false:=hf2
   go_wp2
   refine wp_loop_rounds 4 ?_
   rw[rounds_succ]
   go_wp2
   rw[rounds_succ]
   go_wp2
   rw[rounds_succ]
   go_wp2
   rw[rounds_succ]
   go_wp2
   refine⟨⟨d,i+1,_,by rw[w3_];congr 1;omega,by rw[w4_],⟨by have:=HD.out;omega⟩,?_,HO3,HK3,HB3⟩,?_⟩
   ·refine⟨?_⟩
    rw[List.set_set,List.set_set,HX.out,List.drop_eq_getElem_cons (by have:=HD.out;omega),List.set_append_right _ _ (by simp[mkP]),show i - (mkP a1 i).length=0 by simp[mkP],List.set_cons_zero]
    simp[mkP,List.range_succ]
   ·rw[w4_]
    exact qqd HD.out
def zm.l0 :Nat→List Int→Int→Int→Option (Int×List Int)
 | 0,_,_,_=>none
 | k+1,x0,x1,x5=>if x5 < (x0.length:Int) then (if 0≤x5 then (zm.l0 k (x0.set (x5:Int).toNat x1) (wrap64 (x1+1)) (wrap64 (x5+1))) else (none)) else (some (x1,x0))
def zm.f (k:Nat) (l0:List Int) (a1:Int):Option (Int×List Int):=zm.l0 k l0 a1 0
theorem zm.mono_l :∀ k,(∀ y0 y1 y2,LeO (zm.l0 k y0 y1 y2) (zm.l0 (k+1) y0 y1 y2))
 | 0=>fun _ _ _ r h=>by simp[zm.l0]at h
 | k+1=>by
  have ih0:=zm.mono_l k
  ·intro y0 y1 y2
   unfold zm.l0
   repeat' first | (with_reducible first | apply ih0 | exact LeO.refl _ | exact LeO.none _ | refine LeO.ite ?_ ?_ | refine LeO.bind ?_ (fun _=>?_)) | (first | apply ih0 | exact LeO.none _ | refine LeO.ite ?_ ?_ | refine LeO.bind ?_ (fun _=>?_))
theorem zm.mono :∀ a0 a1 k,LeO (zm.f k a0 a1) (zm.f (k+1) a0 a1):=by
 intro a0 a1 k
 have ih0:=zm.mono_l k
 unfold zm.f
 repeat' first | (with_reducible first | apply ih0 | exact LeO.refl _ | exact LeO.none _ | refine LeO.ite ?_ ?_ | refine LeO.bind ?_ (fun _=>?_)) | (first | apply ih0 | exact LeO.none _ | refine LeO.ite ?_ ?_ | refine LeO.bind ?_ (fun _=>?_))
theorem zm.calls (k:Nat) (P0_:Nat→Prop) (u9000_:Value) (l0:List Int) (a1:Int) (r1:Int) (r2:List Int) (w0 w:World) (hB:Below w0.heap.size w0 w) (ho0:Kd.R (Kd.int .i64) 3 w w0.heap.size P0_ u9000_ l0) (h:zm.f k l0 a1=some (r1,r2)):
  Calls Try.prog 26 #[u9000_,.int .i64 a1] w fun e w'=>e=.returned (.int .i64 r1)∧Kd.R (Kd.int .i64) 3 w' w0.heap.size (fun k_=>(P0_ k_∨w.heap.size≤k_)) u9000_ r2∧Below w0.heap.size w0 w'∧Kept w w' (fun k_=>P0_ k_):=by
 have HO0:=am (show Kd.R (Kd.int .i64) 3 w w0.heap.size (fun k_=>(P0_ k_∨w.heap.size≤k_)) u9000_ l0 from Kd.R_mono ho0 (fun k_ hk=>(.inl hk)))
 have HK:=am (Kept.refl w (fun k_=>P0_ k_))
 have HW0:=am hB.size
 have HB:=am hB
 clear hB
 have H:(zm.l0 k l0 a1 0)=some (r1,r2):=h
 clear h;have H':=am H;clear H
 go_enter Try.func26,Try.ntmps26
 go_wp2
 go_loopg [1,5] k (fun kq v1 v5 w'=>∃ (x0_1:List Int) (x1_1:Int) (x5_1:Int),v1=.int .i64 x1_1∧v5=.int .i64 x5_1∧qf (zm.l0 kq x0_1 x1_1 x5_1=some (r1,r2))∧qf (kq≤k)∧qf (Kd.R (Kd.int .i64) 3 w' w0.heap.size (fun k_=>(P0_ k_∨w.heap.size≤k_)) u9000_ x0_1)∧qf (Kept w w' (fun k_=>P0_ k_))∧qf (Below w0.heap.size w0 w'))
 case atStart=>exact⟨(l0),(a1),(0),fr,fr,H',⟨Nat.le_refl _⟩,⟨wR HO0⟩,⟨by repeat (first | (with_reducible first | exact HK.out | apply Kept.alloc | apply Kept.drewN | apply Kept.drew) | exact HK.out)⟩,⟨bw HB⟩⟩
 case round=>
  clear H';try clear c2;try clear p2
  obtain⟨x0_1,x1_1,x5_1,rfl,rfl,HA,HK1,HO_0,HK,HB⟩:=hrel
  cases gk with
  | zero=>exact absurd HA.out (by simp[zm.l0])
  | succ k1=>
   have H:=HA.out;clear HA
   simp only[zm.l0]at H
   by_cases c3:x5_1 < (x0_1.length:Int)
   ·rw[if_pos c3]at H
    have c3b0:=decide_eq_true c3;clear c3;replace H:=ifn H;obtain⟨c4,H⟩:=H;have c4b0:=decide_eq_true c4;clear c4
    generalize hy123:(x0_1.set (x5_1:Int).toNat x1_1:List Int)=y123 at H
    have Ny123:=am hy123.symm;clear hy123;have H':=am H;clear H
    obtain⟨Ao6,co6,eo6⟩:=Kd.R_slice HO_0.out
    subst eo6
    have p5:0≤(x5_1:Int):=od
    have q5:(x5_1:Int) < ((x0_1.length:Int):Int):=od
    obtain⟨go5,co5,eo5,gb5,gl5,cl5,HG5⟩:=Kd.R_form HO_0.out (by omega)
    (first | cases eo5 | (injection eo5 with ea_ en_ ec_;(first | subst ea_ | (injection ea_ with ea_;subst ea_));subst ec_;clear en_))
    have GB5:=am gb5
    have GG5:=am HG5
    clear gb5 gl5 HG5
    have HMgo5:=am (show (P0_ go5∨w.heap.size≤go5) from (HO_0.out.1 _ rfl))
    obtain⟨hx5_0,hf5_0⟩:=Kd.R_celln 0 HO_0.out (x5_1:Int) p5 q5
    replace p5:=eq_true p5;replace q5:=eq_true q5
    have HP7:=Kd.R_putg HO_0.out (x5_1:Int) x1_1
    go_wp2_with (first | ((with_reducible refine qff (t:=3) (p:=15) rfl ?_);refine qd9 (t:=3) (p:=15) (v:=?vo_w8) (w1:=(wr.setCell ⟨go5,(x5_1:Int).toNat,none⟩ (.int .i64 x1_1))) ?hg ?ho ?hn ?hr ?_;(case ho=>rfl);(case hg=>rfl);(case hn=>rfl);(case hr=>first | (go_simp;done) | (go_simp;rfl));intro w8 hw;have hg:wr.grownBy w8 (some go5):=(by rw[hw];exact HP7.2);have hp_:Kd.R (Kd.int .i64) 3 w8 w0.heap.size (fun k_=>(P0_ k_∨w.heap.size≤k_)) (.slice (some ⟨go5,0,none⟩) x0_1.length co6) y123:=(by rw[hw,Ny123.out];exact HP7.1);clear HP7;replace HB:=am ((by rw[hw];exact Qi (HB.out) GB5.out:Below w0.heap.size w0 w8));replace HK:=am (Kept.of_grown (S:=(fun k_=>P0_ k_)) hg (by repeat (first | (with_reducible first | exact HK.out | apply Kept.alloc | apply Kept.drewN | apply Kept.drew) | exact HK.out)) (fun k_ e_=>(HO_0.out.1 k_ e_)));replace HO_0:=am (hp_);clear hg hw hp_))
    go_roundg k1
    case measure=>have:=HK1.out;omega
    case rel=>exact⟨(y123),(wrap64 (x1_1+1)),(wrap64 (x5_1+1)),fr,fr,H',⟨by have:=HK1.out;omega⟩,⟨wR HO_0⟩,⟨by repeat (first | (with_reducible first | exact HK.out | apply Kept.alloc | apply Kept.drewN | apply Kept.drew) | exact HK.out)⟩,⟨bw HB⟩⟩
   ·rw[if_neg c3]at H
    have c3b0:=decide_eq_false c3;clear c3
    simp only[Option.some.injEq,Prod.mk.injEq]at H
    obtain⟨rfl,rfl⟩:=H
    obtain⟨Ao9,co9,eo9⟩:=Kd.R_slice HO_0.out
    subst eo9;go_wp2;go_ret
    exact⟨fq,wR HO_0,bw HB,by repeat (first | (with_reducible first | exact HK.out | apply Kept.alloc | apply Kept.drewN | apply Kept.drew) | exact HK.out)⟩
def zh.l0 :Nat→List Int→Int→Int→Option (Int)
 | 0,_,_,_=>none
 | k+1,x0,x1,x5=>if x5 < (x0.length:Int) then (if 0≤x5 then (if (rd x0 x5)=x1 then (zh.l0 k x0 (wrap64 (x1+1)) (wrap64 (x5+1))) else (some (-1))) else (none)) else (some x1)
def zh.f (k:Nat) (l0:List Int) (a1:Int):Option (Int):=zh.l0 k l0 a1 0
theorem zh.mono_l :∀ k,(∀ y0 y1 y2,LeO (zh.l0 k y0 y1 y2) (zh.l0 (k+1) y0 y1 y2))
 | 0=>fun _ _ _ r h=>by simp[zh.l0]at h
 | k+1=>by
  have ih0:=zh.mono_l k
  ·intro y0 y1 y2
   unfold zh.l0
   repeat' first | (with_reducible first | apply ih0 | exact LeO.refl _ | exact LeO.none _ | refine LeO.ite ?_ ?_ | refine LeO.bind ?_ (fun _=>?_)) | (first | apply ih0 | exact LeO.none _ | refine LeO.ite ?_ ?_ | refine LeO.bind ?_ (fun _=>?_))
theorem zh.mono :∀ a0 a1 k,LeO (zh.f k a0 a1) (zh.f (k+1) a0 a1):=by
 intro a0 a1 k
 have ih0:=zh.mono_l k
 unfold zh.f
 repeat' first | (with_reducible first | apply ih0 | exact LeO.refl _ | exact LeO.none _ | refine LeO.ite ?_ ?_ | refine LeO.bind ?_ (fun _=>?_)) | (first | apply ih0 | exact LeO.none _ | refine LeO.ite ?_ ?_ | refine LeO.bind ?_ (fun _=>?_))
theorem zh.calls (k:Nat) (A0:Option Addr) (c0:Nat) (l0:List Int) (a1:Int) (r:Int) (w:World) (hr0:Kd.C (Kd.int .i64) w A0 l0.length l0) (hc0:l0.length≤c0) (h:zh.f k l0 a1=some r):
  Calls Try.prog 27 #[.slice A0 l0.length c0,.int .i64 a1] w fun e w'=>e=.returned (.int .i64 r)∧Drawn0 w w':=by
 have HR0:=am hr0
 have HC0:=am hc0
 clear hr0 hc0
 have H:(zh.l0 k l0 a1 0)=some r:=h
 clear h;have H':=am H;clear H
 go_enter Try.func27,Try.ntmps27
 go_wp2
 go_loopg [1,5] k (fun kq v1 v5 w'=>∃ (x1_1:Int) (x5_1:Int),v1=.int .i64 x1_1∧v5=.int .i64 x5_1∧qf (zh.l0 kq l0 x1_1 x5_1=some r)∧qf (kq≤k)∧Drawn0 w w')
 case atStart=>exact⟨(a1),(0),fr,fr,H',⟨Nat.le_refl _⟩,df⟩
 case round=>
  clear H';try clear c2;try clear p2
  obtain⟨x1_1,x5_1,rfl,rfl,HA,HK1,⟨m1,rfl⟩⟩:=hrel
  cases gk with
  | zero=>exact absurd HA.out (by simp[zh.l0])
  | succ k1=>
   have H:=HA.out;clear HA
   simp only[zh.l0]at H
   by_cases c3:x5_1 < (l0.length:Int)
   ·rw[if_pos c3]at H
    have c3b0:=decide_eq_true c3;clear c3;replace H:=ifn H;obtain⟨c4,H⟩:=H;have c4b0:=decide_eq_true c4;clear c4
    by_cases c5:(rd l0 x5_1)=x1_1
    ·rw[if_pos c5]at H
     have c5b0:=beq_iff_eq.mpr c5;have c5b1:=bne_eq_false_iff_eq.mpr c5;clear c5;have H':=am H;clear H
     have p124:0≤(x5_1:Int):=od
     have q124:x5_1 < (l0.length:Int):=od
     obtain⟨ad124,e124,hx124_0⟩:=Kd.at_int HR0.out x5_1 p124 q124
     cases e124;replace p124:=eq_true p124;replace q124:=eq_true q124;go_wp2
     go_roundg k1
     case measure=>have:=HK1.out;omega
     case rel=>exact⟨(wrap64 (x1_1+1)),(wrap64 (x5_1+1)),fr,fr,H',⟨by have:=HK1.out;omega⟩,df⟩
    ·rw[if_neg c5]at H
     have c5b0:=beq_eq_false_iff_ne.mpr c5;have c5b1:=bne_iff_ne.mpr c5;obtain rfl:=Option.some.inj H
     have p124:0≤(x5_1:Int):=od
     have q124:x5_1 < (l0.length:Int):=od
     obtain⟨ad124,e124,hx124_0⟩:=Kd.at_int HR0.out x5_1 p124 q124
     cases e124;replace p124:=eq_true p124;replace q124:=eq_true q124;go_wp2;go_ret
     exact⟨fr,df⟩
   ·rw[if_neg c3]at H
    have c3b0:=decide_eq_false c3;clear c3;obtain rfl:=Option.some.inj H;go_wp2;go_ret
    exact⟨fr,df⟩
def Zo.f (a0:Int):Option (Bool):=if a0=7 then (some true) else (if a0=11 then (some true) else (if a0=13 then (some true) else (if a0=17 then (some true) else (if a0=19 then (some true) else (if a0=23 then (some true) else (if a0=29 then (some true) else (if a0=31 then (some true) else (some false))))))))
theorem Zo.calls (a0:Int) (r:Bool) (w:World) (h:Zo.f a0=some r):
  Calls Try.prog 103 #[.int .i64 a0] w fun e w'=>e=.returned (.bool r)∧Drawn0 w w':=by
 have H:(if a0=7 then (some true) else (if a0=11 then (some true) else (if a0=13 then (some true) else (if a0=17 then (some true) else (if a0=19 then (some true) else (if a0=23 then (some true) else (if a0=29 then (some true) else (if a0=31 then (some true) else (some false)))))))))=some r:=h
 clear h
 by_cases c2:a0=7
 ·rw[if_pos c2]at H
  have c2b0:=beq_iff_eq.mpr c2;have c2b1:=bne_eq_false_iff_eq.mpr c2;clear c2;obtain rfl:=Option.some.inj H
  go_enter Try.func103,Try.ntmps103
  go_wp2;go_ret
  exact⟨fr,df⟩
 ·rw [if_neg c2] at H
  have c2b0:=beq_eq_false_iff_ne.mpr c2;have c2b1:=bne_iff_ne.mpr c2
  by_cases c3:a0=11
  ·rw[if_pos c3]at H
   have c3b0:=beq_iff_eq.mpr c3;have c3b1:=bne_eq_false_iff_eq.mpr c3;clear c3;obtain rfl:=Option.some.inj H
   go_enter Try.func103,Try.ntmps103
   go_wp2;go_ret
   exact⟨fr,df⟩
  ·rw [if_neg c3] at H
   have c3b0:=beq_eq_false_iff_ne.mpr c3;have c3b1:=bne_iff_ne.mpr c3
   by_cases c4:a0=13
   ·rw[if_pos c4]at H
    have c4b0:=beq_iff_eq.mpr c4;have c4b1:=bne_eq_false_iff_eq.mpr c4;clear c4;obtain rfl:=Option.some.inj H
    go_enter Try.func103,Try.ntmps103
    go_wp2;go_ret
    exact⟨fr,df⟩
   ·rw [if_neg c4] at H
    have c4b0:=beq_eq_false_iff_ne.mpr c4;have c4b1:=bne_iff_ne.mpr c4
    by_cases c5:a0=17
    ·rw[if_pos c5]at H
     have c5b0:=beq_iff_eq.mpr c5;have c5b1:=bne_eq_false_iff_eq.mpr c5;clear c5;obtain rfl:=Option.some.inj H
     go_enter Try.func103,Try.ntmps103
     go_wp2;go_ret
     exact⟨fr,df⟩
    ·rw [if_neg c5] at H
     have c5b0:=beq_eq_false_iff_ne.mpr c5;have c5b1:=bne_iff_ne.mpr c5
     by_cases c6:a0=19
     ·rw[if_pos c6]at H
      have c6b0:=beq_iff_eq.mpr c6;have c6b1:=bne_eq_false_iff_eq.mpr c6;clear c6;obtain rfl:=Option.some.inj H
      go_enter Try.func103,Try.ntmps103
      go_wp2;go_ret
      exact⟨fr,df⟩
     ·rw [if_neg c6] at H
      have c6b0:=beq_eq_false_iff_ne.mpr c6;have c6b1:=bne_iff_ne.mpr c6
      by_cases c7:a0=23
      ·rw[if_pos c7]at H
       have c7b0:=beq_iff_eq.mpr c7;have c7b1:=bne_eq_false_iff_eq.mpr c7;clear c7;obtain rfl:=Option.some.inj H
       go_enter Try.func103,Try.ntmps103
       go_wp2;go_ret
       exact⟨fr,df⟩
      ·rw[if_neg c7]at H
       have c7b0:=beq_eq_false_iff_ne.mpr c7;have c7b1:=bne_iff_ne.mpr c7
       by_cases c8:a0=29
       ·rw[if_pos c8]at H
        have c8b0:=beq_iff_eq.mpr c8;have c8b1:=bne_eq_false_iff_eq.mpr c8;clear c8;obtain rfl:=Option.some.inj H
        go_enter Try.func103,Try.ntmps103
        go_wp2;go_ret
        exact⟨fr,df⟩
       ·rw[if_neg c8]at H
        have c8b0:=beq_eq_false_iff_ne.mpr c8;have c8b1:=bne_iff_ne.mpr c8
        by_cases c9:a0=31
        ·rw[if_pos c9]at H
         have c9b0:=beq_iff_eq.mpr c9;have c9b1:=bne_eq_false_iff_eq.mpr c9;clear c9;obtain rfl:=Option.some.inj H
         go_enter Try.func103,Try.ntmps103
         go_wp2;go_ret
         exact⟨fr,df⟩
        ·rw[if_neg c9]at H
         have c9b0:=beq_eq_false_iff_ne.mpr c9;have c9b1:=bne_iff_ne.mpr c9;obtain rfl:=Option.some.inj H
         go_enter Try.func103,Try.ntmps103
         go_wp2;go_ret
         exact⟨fr,df⟩
end Go.Proofs.Ytmgbpmihbljngaa.PA
