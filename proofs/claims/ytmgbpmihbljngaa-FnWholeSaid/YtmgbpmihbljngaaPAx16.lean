-- Written by xprint.py, a program of this claim's own (over the kit's print.py)
import Derived.Test.YtmgbpmihbljngaaPAx15
namespace Go.Proofs.Ytmgbpmihbljngaa.PA
set_option maxHeartbeats 8000000
set_option maxRecDepth 100000
open Go.RowKit Go.Proofs.YtmgbpmihbljngaaW.PrintWords Go.Proofs.YtmgbpmihbljngaaW.PrintLast Go.Proofs.YtmgbpmihbljngaaW.PrintMore
attribute [local go_sem] Qg Qj Qp Qo j4 j3 Qh Qf
set_option linter.unusedVariables false
set_option linter.unusedSimpArgs false
def zi.j0 :Nat→Int→List (S43)→Int→Bool→Option (List Int×Bool)
 | 0,_,_,_,_=>none
 | k+1,x0,x1,x2,x16=>if x16=true then (some ((([]:List Int)),false)) else ((zl.f k x0 x1).bind fun t391=>((zu.f k x0 x1 t391 x2).bind fun t394=>(some (t394,true))))
def zi.f (k:Nat) (a0:Int) (l1:List (S43)) (a2:Int):Option (List Int×Bool):=(zm.f k a0 l1).bind fun t386=>(if t386=true then ((zq.f a2 0 26).bind fun t387=>(zi.j0 k a0 l1 a2 (!t387))) else (zi.j0 k a0 l1 a2 true))
theorem zi.mono_l :∀ k,(∀ y0 y1 y2 y3,LeO (zi.j0 k y0 y1 y2 y3) (zi.j0 (k+1) y0 y1 y2 y3))
 | 0=>fun _ _ _ _ r h=>by simp[zi.j0]at h
 | k+1=>by
  have ih0:=zi.mono_l k
  ·intro y0 y1 y2 y3
   unfold zi.j0
   repeat' first | (with_reducible first | apply ih0 | apply zm.mono | apply zl.mono | apply zu.mono | exact LeO.refl _ | exact LeO.none _ | refine LeO.ite ?_ ?_ | refine LeO.bind ?_ (fun _=>?_)) | (first | apply ih0 | apply zm.mono | apply zl.mono | apply zu.mono | exact LeO.none _ | refine LeO.ite ?_ ?_ | refine LeO.bind ?_ (fun _=>?_))
theorem zi.mono :∀ a0 a1 a2 k,LeO (zi.f k a0 a1 a2) (zi.f (k+1) a0 a1 a2):=by
 intro a0 a1 a2 k
 have ih0:=zi.mono_l k
 unfold zi.f
 repeat' first | (with_reducible first | apply ih0 | apply zm.mono | apply zl.mono | apply zu.mono | exact LeO.refl _ | exact LeO.none _ | refine LeO.ite ?_ ?_ | refine LeO.bind ?_ (fun _=>?_)) | (first | apply ih0 | apply zm.mono | apply zl.mono | apply zu.mono | exact LeO.none _ | refine LeO.ite ?_ ?_ | refine LeO.bind ?_ (fun _=>?_))
theorem zi.calls (k:Nat) (a0:Int) (A1:Option Addr) (c1:Nat) (l1:List (S43)) (a2:Int) (r1:List Int) (r2:Bool) (w:World) (hr1:Kd.C k43 w A1 l1.length l1) (hc1:l1.length≤c1) (h:zi.f k a0 l1 a2=some (r1,r2)):
  Calls Try.prog 42 #[.int .i64 a0,.slice A1 l1.length c1,.int .i64 a2] w fun e w'=>∃ v0_:Value,e=.returned (.tuple #[v0_,.bool r2])∧Kd.R (Kd.int .i64) 3 w' w.heap.size (fun _=>True) v0_ r1∧Below w.heap.size w w':=by
 have HR1:=am hr1
 have HC1:=am hc1
 clear hr1 hc1
 have HB:=am (Below.refl w.heap.size w)
 have H:((zm.f k a0 l1).bind fun t386=>(if t386=true then ((zq.f a2 0 26).bind fun t387=>(zi.j0 k a0 l1 a2 (!t387))) else (zi.j0 k a0 l1 a2 true)))=some (r1,r2):=h
 clear h
 have HC4:=am H
 clear H
 go_enter Try.func42,Try.ntmps42
 go_upto_region 1 with (fail)
 go_cut [16] (fun v16 wc=>∃ (kq:Nat) (x16_3:Bool),v16=.bool x16_3∧qa (zi.j0 kq a0 l1 a2 x16_3=some (r1,r2))∧qa (kq≤k)∧qa (Below w.heap.size w wc))
 case first=>
  have H:=HC4.out
  clear HC4;replace H:=bs H;obtain⟨t386,A5,H⟩:=H
  by_cases c6:t386=true
  ·subst c6
   rw[if_pos rfl]at H
   replace H:=bs H;obtain⟨t387,A7,H⟩:=H;have H':=am H;clear H
   go_wp2_with (first | ((with_reducible refine qe (f:=62) rfl ?_);refine gl 10 Try.func62 #[.int .i64 a0,.slice A1 l1.length c1] ?_;(with_reducible refine(zm.calls k a0 _ _ l1 true _ ?_ ?_ A5.out).mono ?_);exact Kd.C_below HR1.out (bw HB);exact HC1.out;rintro e w8 ⟨rfl,hb⟩;refine⟨_,rfl,?_⟩;replace HB:=bq HB hb;(try clear hb)) | (go_at_call 87;(with_reducible refine(zq.calls a2 0 26 t387 _ A7.out).mono ?_);rintro e w' ⟨rfl,⟨nd,rfl⟩⟩))
   go_meet
   case rel=>exact⟨_,(!t387),fr,H',⟨by first | omega | exact Nat.le_refl _⟩,⟨bw HB⟩⟩
  ·replace c6:=Bool.eq_false_iff.mpr c6
   subst c6
   rw[if_neg (show ¬ (false=true) by decide)]at H
   have H':=am H;clear H
   go_wp2_with (first | ((with_reducible refine qe (f:=62) rfl ?_);refine gl 10 Try.func62 #[.int .i64 a0,.slice A1 l1.length c1] ?_;(with_reducible refine(zm.calls k a0 _ _ l1 false _ ?_ ?_ A5.out).mono ?_);exact Kd.C_below HR1.out (bw HB);exact HC1.out;rintro e w9 ⟨rfl,hb⟩;refine⟨_,rfl,?_⟩;replace HB:=bq HB hb;(try clear hb)))
   go_meet
   case rel=>exact⟨_,(true),fr,H',⟨by first | omega | exact Nat.le_refl _⟩,⟨bw HB⟩⟩
 case rest=>
  clear HC4;try clear c1;try clear p2;try clear c4;try clear c6
  obtain⟨kq,x16_3,rfl,HA,HJ3,HB⟩:=hcut
  cases kq with
  | zero=>exact absurd HA.out (by simp[zi.j0])
  | succ kj3=>
   have H:=HA.out;clear HA
   simp only[zi.j0]at H
   by_cases c10:x16_3=true
   ·subst c10
    rw[if_pos rfl]at H
    generalize hy388:(([]:List Int))=y388 at H
    have Ny388:=am hy388.symm;clear hy388
    simp only[Option.some.injEq,Prod.mk.injEq]at H
    obtain⟨rfl,rfl⟩:=H
    go_wp2_with (first | ((with_reducible refine q7 (N:=17) rfl ?_);refine li 3 ([]:List Int) ?_;intro v389 w11 ho12 hb;(first | rw[← Ny388.out]at ho12 | (simp only[Int.reduceToNat]at ho12;rw[← Ny388.out]at ho12));have HO390:=am (Kd.R_lower ho12 (bz HB));replace HB:=bq HB hb;clear hb ho12))
    go_ret2
    exact⟨_,fq,wR HO390,bw HB⟩
   ·replace c10:=Bool.eq_false_iff.mpr c10
    subst c10
    rw[if_neg (show ¬ (false=true) by decide)]at H
    replace H:=bs H;obtain⟨t391,A13,H⟩:=H;replace H:=bs H;obtain⟨t394,A14,H⟩:=H
    simp only[Option.some.injEq,Prod.mk.injEq]at H
    obtain⟨rfl,rfl⟩:=H
    go_wp2_with (first | ((with_reducible refine qe (f:=78) rfl ?_);refine gl 22 Try.func78 #[.int .i64 a0,.slice A1 l1.length c1] ?_;(with_reducible refine(zl.calls kj3 a0 _ _ l1 t391 _ ?_ ?_ A13.out).mono ?_);exact Kd.C_below HR1.out (bw HB);exact HC1.out;rintro e w15 ⟨v392,rfl,ho0,hb⟩;refine⟨_,rfl,?_⟩;have HO393:=am (Kd.N_lower (Kd.N_mono (ok':=fun k_=>True) ho0 (fun k_ hk_=>trivial)) (bz HB));replace HB:=bq HB hb;(try clear hb);(try clear ho0);obtain⟨Ao16,co16,eo16⟩:=Kd.N_slice HO393.out;subst eo16) | ((with_reducible refine qe (f:=88) rfl ?_);refine gl 24 Try.func88 #[.int .i64 a0,.slice A1 l1.length c1,.slice Ao16 t391.length co16,.int .i64 a2] ?_;(with_reducible refine(zu.calls kj3 a0 _ _ l1 _ _ t391 a2 t394 _ ?_ ?_ ?_ ?_ A14.out).mono ?_);exact Kd.C_below HR1.out (bw HB);exact HC1.out;exact Kd.C_below (Kd.N_reads' HO393.out).2.2 gs;exact(Kd.N_reads' HO393.out).2.1;rintro e w17 ⟨v395,rfl,ho0,hb⟩;refine⟨_,rfl,?_⟩;replace HO393:=eN HO393 (Kd.R_base ho0) hb;have HO396:=am (Kd.R_lower ho0 (bz HB));replace HB:=bq HB hb;(try clear hb);(try clear ho0)))
    go_ret2
    exact⟨_,fq,wR HO396,bw HB⟩
def IsS112 (w0 W:World) (g:Nat) (f0:List Int) (f1:Int):Prop:=∃ A0 c0,W.heap[g]? =some (.cells #[.slice A0 f0.length c0,.int .i64 f1] 112 (0,0))∧w0.heap.size≤g∧Kd.C (Kd.int .u8) w0 A0 f0.length f0
theorem IsS112.grown {w0 W:World} {g:Nat} {f0:List Int} {f1:Int} {W1:World} {row:Option Nat} (h:IsS112 w0 W g f0 f1) (hw:W.grownBy W1 row) (hne:some g≠row):IsS112 w0 W1 g f0 f1:=by
 obtain⟨A0,c0,hb,hg,hr0⟩:=h
 exact⟨A0,c0,Zg hb hw hne,hg,hr0⟩
theorem IsS112.fresh {w0 W:World} {g:Nat} {f0:List Int} {f1:Int} (h:IsS112 w0 W g f0 f1):∀ k,W.heap.size≤k→k≠g:=by
 obtain⟨A0,c0,hb,hg,hr0⟩:=h
 exact Kd.freshB hb
theorem IsS112.kept {w0 W:World} {g:Nat} {f0:List Int} {f1:Int} {W1:World} {S:Nat→Prop} (h:IsS112 w0 W g f0 f1) (hk:Kept W W1 S) (hne:¬ S g):IsS112 w0 W1 g f0 f1:=by
 obtain⟨A0,c0,hb,hg,hr0⟩:=h
 exact⟨A0,c0,qn1 hb hk hne,hg,hr0⟩
theorem IsS112.below {w0 W:World} {g:Nat} {f0:List Int} {f1:Int} {W1:World} (h:IsS112 w0 W g f0 f1) (hw:Below W.heap.size W W1):IsS112 w0 W1 g f0 f1:=h.grown (qbz hw none) (by simp)
theorem IsS112.alloc {w0 W:World} {g:Nat} {f0:List Int} {f1:Int} (h:IsS112 w0 W g f0 f1) (o:Obj):IsS112 w0 (W.alloc o) g f0 f1:=h.below (qy (Below.refl _ _) o)
theorem IsS112.drewN {w0 W:World} {g:Nat} {f0:List Int} {f1:Int} (h:IsS112 w0 W g f0 f1) (m:Nat):IsS112 w0 (W.drewN m) g f0 f1:=h
theorem IsS112.drew {w0 W:World} {g:Nat} {f0:List Int} {f1:Int} (h:IsS112 w0 W g f0 f1):IsS112 w0 W.drew g f0 f1:=h
theorem IsS112.at_ {w0 W:World} {g:Nat} {f0:List Int} {f1:Int} {w':World} {m:Nat} (hq:W.drewN m=w') (h:IsS112 w0 W g f0 f1):IsS112 w0 w' g f0 f1:=by subst hq;exact IsS112.drewN h m
theorem IsS112.apart {w0 W:World} {g:Nat} {f0:List Int} {f1:Int} {α:Type} {d:Kd α} {e:Nat} {base:Nat} {ok:Nat→Prop} {v:Value} {xs:List α} (h:IsS112 w0 W g f0 f1) (ho:d.R e W base ok v xs) (ht:∀ q,q∈e :: d.E→q≠112):d.R e W base (fun k=>ok k∧k≠g) v xs:=by
 obtain⟨A0,c0,hb,hg,hr0⟩:=h
 exact Kd.R_types ho hb ht
theorem IsS112.own_ne {w0 W:World} {g:Nat} {f0:List Int} {f1:Int} {α:Type} {d:Kd α} {e:Nat} {base:Nat} {ok:Nat→Prop} {v:Value} {xs:List α} (h:IsS112 w0 W g f0 f1) (ho:d.R e W base ok v xs) (ht:e≠112):some g≠v.ownBlock:=by
 obtain⟨A0,c0,hb,hg,hr0⟩:=h
 exact Kd.R_ne ho hb ht
theorem IsS112.lt {w0 W:World} {g:Nat} {f0:List Int} {f1:Int} (h:IsS112 w0 W g f0 f1):g < W.heap.size:=by
 obtain⟨A0,c0,hb,hg,hr0⟩:=h
 exact Za hb
theorem IsS112.ge {w0 W:World} {g:Nat} {f0:List Int} {f1:Int} (h:IsS112 w0 W g f0 f1):w0.heap.size≤g:=by
 obtain⟨A0,c0,hb,hg,hr0⟩:=h
 exact hg
theorem IsS112.far {w0 W:World} {g:Nat} {f0:List Int} {f1:Int} {p:Addr} (h:IsS112 w0 W g f0 f1) (hne:g≠p.block) (u:Value):IsS112 w0 (W.setCell p u) g f0 f1:=by
 obtain⟨A0,c0,hb,hg,hr0⟩:=h
 exact⟨A0,c0,Zh hb hne u,hg,hr0⟩
theorem qbk {W:World} {g:Nat} {A0:Option Addr} {c0:Nat} {f0:List Int} {f1:Int} (h:W.heap[g]? =some (.cells #[.slice A0 f0.length c0,.int .i64 f1] 112 (0,0))):W.cell? ⟨g,0,none⟩=some (.slice A0 f0.length c0):=(qf h 0).trans rfl
theorem qbr {W:World} {g:Nat} {A0:Option Addr} {c0:Nat} {f0:List Int} {f1:Int} (h:W.heap[g]? =some (.cells #[.slice A0 f0.length c0,.int .i64 f1] 112 (0,0))):W.cell? ⟨g,1,none⟩=some (.int .i64 f1):=(qf h 1).trans rfl
theorem IsS112.set_1 {w0 W:World} {g:Nat} {f0:List Int} {f1:Int} (h:IsS112 w0 W g f0 f1) (x:Int):IsS112 w0 (W.setCell ⟨g,1,none⟩ (.int .i64 x)) g f0 x:=by
 obtain⟨A0,c0,hb,hg,hr0⟩:=h
 exact⟨A0,c0,by simpa using Zz hb 1 (.int .i64 x),hg,hr0⟩
theorem zt {w0 W W':World} {g:Nat} {f0 f0':List Int} {f1 f1':Int} (h:qa (IsS112 w0 W g f0 f1)) (k:IsS112 w0 W g f0 f1→IsS112 w0 W' g f0' f1':=by (intro h_;repeat (first | (with_reducible first | exact h_ | apply IsS112.alloc | apply IsS112.drewN | apply IsS112.drew | apply IsS112.set_1) | refine IsS112.far ?_ (qa.out (by assumption)) _ | exact h_))):IsS112 w0 W' g f0' f1':=k h.out
theorem jr {w w0 W W' W2:World} {g:Nat} {f0:List Int} {f1:Int} (h:qa (Below w.heap.size w W)) (i:qa (IsS112 w0 W2 g f0 f1)) (k:IsS112 w0 W2 g f0 f1→Below w.heap.size w W→Below w.heap.size w W':=by (intro i_ h_;repeat (first | (with_reducible first | exact h_ | apply qy | apply qh | apply qv | refine zd ?_ (IsS112.ge i_)) | refine zd ?_ (qa.out (by assumption)) | exact h_))):Below w.heap.size w W':=k i.out h.out
theorem IsS112.new (w0 W:World) (A0:Option Addr) (c0:Nat) (f0:List Int) (f1:Int) (hB:Below w0.heap.size w0 W) (hr0:Kd.C (Kd.int .u8) w0 A0 f0.length f0):IsS112 w0 (W.alloc (.cells #[.slice A0 f0.length c0,.int .i64 f1] 112)) W.heap.size f0 f1:=⟨A0,c0,by simpa using heap_alloc_new W _,hB.size,hr0⟩
def Z2.f (l0:List Int):Option (List Int×Int):=if (l0.length:Int)>2000 then (if 2000≤(l0.length:Int) then (some (l0.take 2000,0)) else (none)) else (some (l0,0))
theorem Z2.calls (A0:Option Addr) (c0:Nat) (l0:List Int) (r1:List Int) (r2:Int) (w0 w:World) (hB:Below w0.heap.size w0 w) (hr0:Kd.C (Kd.int .u8) w0 A0 l0.length l0) (hc0:l0.length≤c0) (h:Z2.f l0=some (r1,r2)):
  Calls Try.prog 69 #[.slice A0 l0.length c0] w fun e w'=>∃ g_:Nat,e=.returned (.pointer (some ⟨g_,0,none⟩))∧IsS112 w0 w' g_ r1 r2∧Below w0.heap.size w0 w'∧Below w.heap.size w w':=by
 have hu112:=Try.underlying112
 have HR0:=am hr0
 have HC0:=am hc0
 clear hr0 hc0
 have HBW:=am (Below.refl w.heap.size w)
 have HW0:=am hB.size
 have HB:=am hB
 clear hB
 have H:(if (l0.length:Int)>2000 then (if 2000≤(l0.length:Int) then (some (l0.take 2000,0)) else (none)) else (some (l0,0)))=some (r1,r2):=h
 clear h
 by_cases c2:(l0.length:Int)>2000
 ·rw[if_pos c2]at H
  have c2b0:=decide_eq_true c2
  have c2b1:decide (2000 < l0.length)=true:=decide_eq_true (by omega)
  clear c2;replace H:=ifn H;obtain⟨c3,H⟩:=H;have c3b0:=eq_true c3;have c3b1:=decide_eq_true c3;clear c3
  simp only[Option.some.injEq,Prod.mk.injEq]at H
  obtain⟨rfl,rfl⟩:=H
  obtain⟨i04,hi04,_,hsz4,_⟩:=info_parts info5
  obtain⟨hcut4,hA4,hC4⟩:=qco (P:=Try.prog) (Value.int .u8) 0 22 5 .i64 Try.underlying22 hi04 hsz4 A0 c0 l0 2000 (by omega) (od) HC0.out
  have HR397:=am (Kd.C_of_reads (h1:=fun _=>rfl) (hA4 _ (Kd.reads_of_C HR0.out)))
  have HC397:=am hC4
  clear hA4 hC4 hi04 hsz4
  go_enter Try.func69,Try.ntmps69
  go_wp2_with (first | ((with_reducible refine q7 (N:=10) rfl ?_);refine xe_ 10 112 #[.slice A0 (l0.take 2000).length c0,.int .i64 0] ?_;intro gb398 hg w5 hbox hb;replace HB:=bq HB hb;have BK398:=am (hbox);have GW398:=am ((by rw[hg];exact(jv (bb HBW.out)):w.heap.size≤gb398));have GE398:=am ((Nat.le_trans HW0.out (by rw[hg];exact(jv (bb HBW.out)):w.heap.size≤gb398):w0.heap.size≤gb398));replace HBW:=am (zp HBW.out hb);clear hb hbox hg))
  go_ret
  exact⟨_,rfl,(show IsS112 w0 _ gb398 (l0.take 2000) 0 from ⟨_,_,by (with_reducible repeat (first | refine zc ?_ _ | refine ze ?_ | refine za ?_ _));exact BK398.out,GE398.out,HR397.out⟩),bx_ HB,bx_ HBW⟩
 ·rw[if_neg c2]at H
  have c2b0:=decide_eq_false c2
  have c2b1:decide (2000 < l0.length)=false:=decide_eq_false (by omega)
  clear c2
  simp only[Option.some.injEq,Prod.mk.injEq]at H
  obtain⟨rfl,rfl⟩:=H
  go_enter Try.func69,Try.ntmps69
  go_wp2_with (first | ((with_reducible refine q7 (N:=10) rfl ?_);refine xe_ 10 112 #[.slice A0 l0.length c0,.int .i64 0] ?_;intro gb399 hg w6 hbox hb;replace HB:=bq HB hb;have BK399:=am (hbox);have GW399:=am ((by rw[hg];exact(jv (bb HBW.out)):w.heap.size≤gb399));have GE399:=am ((Nat.le_trans HW0.out (by rw[hg];exact(jv (bb HBW.out)):w.heap.size≤gb399):w0.heap.size≤gb399));replace HBW:=am (zp HBW.out hb);clear hb hbox hg))
  go_ret
  exact⟨_,rfl,(show IsS112 w0 _ gb399 l0 0 from ⟨_,_,by (with_reducible repeat (first | refine zc ?_ _ | refine ze ?_ | refine za ?_ _));exact BK399.out,GE399.out,HR0.out⟩),bx_ HB,bx_ HBW⟩
def qb.j0 :Nat→Int→Bool→List Int→Int→Option (Int×Int)
 | 0,_,_,_,_=>none
 | k+1,x1,x24,x1000,x1001=>if x24=true then (some (0,x1001)) else (if (wrap64 (x1001 - 1)) < (x1000.length:Int) then (if 0≤(wrap64 (x1001 - 1)) then (if x1=0 then (none) else (some (Int.tmod (wrap64 (rd x1000 (wrap64 (x1001 - 1)))) x1,x1001))) else (none)) else (if (x1000.length:Int)=0 then (none) else (if 0≤(Int.tmod (wrap64 (x1001 - 1)) (x1000.length:Int)) then (if (Int.tmod (wrap64 (x1001 - 1)) (x1000.length:Int)) < (x1000.length:Int) then (if 0≤(Int.tmod (wrap64 ((wrap64 ((wrap64 (x1001 - 1))*7))+3)) (x1000.length:Int)) then (if (Int.tmod (wrap64 ((wrap64 ((wrap64 (x1001 - 1))*7))+3)) (x1000.length:Int)) < (x1000.length:Int) then (if x1=0 then (none) else (some (Int.tmod (Go.bits .xor .i64 (wrap64 ((wrap64 ((wrap64 ((wrap64 ((wrap64 (rd x1000 (Int.tmod (wrap64 (x1001 - 1)) (x1000.length:Int))))*131))+(wrap64 ((wrap64 (rd x1000 (Int.tmod (wrap64 ((wrap64 ((wrap64 (x1001 - 1))*7))+3)) (x1000.length:Int))))*1117))))+(wrap64 ((wrap64 (x1001 - 1))*29))))+(wrap64 ((wrap64 (Int.tdiv (wrap64 (x1001 - 1)) (x1000.length:Int)))*53)))) (wrap64 (Int.tdiv (wrap64 ((wrap64 ((wrap64 ((wrap64 ((wrap64 (rd x1000 (Int.tmod (wrap64 (x1001 - 1)) (x1000.length:Int))))*131))+(wrap64 ((wrap64 (rd x1000 (Int.tmod (wrap64 ((wrap64 ((wrap64 (x1001 - 1))*7))+3)) (x1000.length:Int))))*1117))))+(wrap64 ((wrap64 (x1001 - 1))*29))))+(wrap64 ((wrap64 (Int.tdiv (wrap64 (x1001 - 1)) (x1000.length:Int)))*53)))) 64))) x1,x1001))) else (none)) else (none)) else (none)) else (none))))
def qb.f (k:Nat) (s0_0:List Int) (s0_1:Int) (a1:Int):Option (Int×Int):=if a1 < 1 then (qb.j0 k a1 true s0_0 (wrap64 (s0_1+1))) else (qb.j0 k a1 ((s0_0.length:Int) == 0) s0_0 (wrap64 (s0_1+1)))
theorem qb.mono_l :∀ k,(∀ y0 y1 y2 y3,LeO (qb.j0 k y0 y1 y2 y3) (qb.j0 (k+1) y0 y1 y2 y3))
 | 0=>fun _ _ _ _ r h=>by simp[qb.j0]at h
 | k+1=>by
  have ih0:=qb.mono_l k
  ·intro y0 y1 y2 y3
   unfold qb.j0
   repeat' first | (with_reducible first | apply ih0 | exact LeO.refl _ | exact LeO.none _ | refine LeO.ite ?_ ?_ | refine LeO.bind ?_ (fun _=>?_)) | (first | apply ih0 | exact LeO.none _ | refine LeO.ite ?_ ?_ | refine LeO.bind ?_ (fun _=>?_))
theorem qb.mono :∀ a0 a1 a2 k,LeO (qb.f k a0 a1 a2) (qb.f (k+1) a0 a1 a2):=by
 intro a0 a1 a2 k
 have ih0:=qb.mono_l k
 unfold qb.f
 repeat' first | (with_reducible first | apply ih0 | exact LeO.refl _ | exact LeO.none _ | refine LeO.ite ?_ ?_ | refine LeO.bind ?_ (fun _=>?_)) | (first | apply ih0 | exact LeO.none _ | refine LeO.ite ?_ ?_ | refine LeO.bind ?_ (fun _=>?_))
theorem qb.calls (k:Nat) (g:Nat) (s0_0:List Int) (s0_1:Int) (a1:Int) (r1:Int) (r2:Int) (w0 w:World) (hI:IsS112 w0 w g s0_0 s0_1) (hB:Below w0.heap.size w0 w) (h:qb.f k s0_0 s0_1 a1=some (r1,r2)):
  Calls Try.prog 71 #[.pointer (some ⟨g,0,none⟩),.int .i64 a1] w fun e w'=>e=.returned (.int .i64 r1)∧IsS112 w0 w' g s0_0 r2∧Below w0.heap.size w0 w'∧KeepBut w w' g none:=by
 have HI0:=am hI
 have HK:=am (KeepBut.refl w g none)
 have HL:=am hB.size
 clear hI
 have HW0:=am hB.size
 have HB:=am hB
 clear hB
 have H:(if a1 < 1 then (qb.j0 k a1 true s0_0 (wrap64 (s0_1+1))) else (qb.j0 k a1 ((s0_0.length:Int) == 0) s0_0 (wrap64 (s0_1+1))))=some (r1,r2):=h
 clear h
 have HC3:=am H
 clear H
 obtain⟨ASz4_0,cSz4_0,HGz4,hgz4,HSz4_0⟩:=HI0.out
 have hcz4_0:=qbk HGz4
 have hcz4_1:=qbr HGz4
 have hfz4_1:=qz HGz4 1
 clear HGz4 hgz4
 go_enter Try.func71,Try.ntmps71
 go_upto_region 2 with (fail)
 repeat (go_quiet (fail);go_upto_region 2 with (fail))
 go_cut [24] (fun v24 wc=>∃ (kq:Nat) (x24_2:Bool),v24=.bool x24_2∧qa (qb.j0 kq a1 x24_2 s0_0 (wrap64 (s0_1+1))=some (r1,r2))∧qa (kq≤k)∧qa (IsS112 w0 wc g s0_0 (wrap64 (s0_1+1)))∧qa (KeepBut w wc g none)∧qa (Below w0.heap.size w0 wc))
 case first=>
  have H:=HC3.out
  clear HC3
  by_cases c5:a1 < 1
  ·rw[if_pos c5]at H
   have c5b0:=decide_eq_true c5;clear c5
   (first | rw[c5b0] | (simp only[Z7,J6];rw[c5b0]) | skip)
   have H':=am H;clear H;go_wp2
   repeat (go_quiet (fail);try go_wp2)
   go_meet
   case rel=>exact⟨_,(true),fr,H',⟨by first | omega | exact Nat.le_refl _⟩,⟨zt HI0⟩,⟨kw HK⟩,⟨jr HB HI0⟩⟩
  ·rw[if_neg c5]at H
   have c5b0:=decide_eq_false c5;clear c5
   (first | rw[c5b0] | (simp only[Z7,J6];rw[c5b0]) | skip)
   have H':=am H;clear H
   obtain⟨ASz6_0,cSz6_0,HGz6,hgz6,HSz6_0⟩:=HI0.out
   have hcz6_0:=qbk HGz6
   have hcz6_1:=qbr HGz6
   have hfz6_1:=qz HGz6 1
   clear HGz6 hgz6;go_wp2
   repeat (go_quiet (fail);try go_wp2)
   go_meet
   case rel=>exact⟨_,(((s0_0.length:Int) == 0)),fr,H',⟨by first | omega | exact Nat.le_refl _⟩,⟨zt HI0⟩,⟨kw HK⟩,⟨jr HB HI0⟩⟩
 case rest=>
  clear HC3;try clear p2;try clear c5;try clear c5b0;try clear p6;try clear hcz4_0;try clear hcz4_1;try clear hcz6_0;try clear hcz6_1;try clear hfz4_1;try clear hfz6_1
  obtain⟨kq,x24_2,rfl,HA,HJ2,HI0,HK,HB⟩:=hcut
  cases kq with
  | zero=>exact absurd HA.out (by simp[qb.j0])
  | succ kj2=>
   have H:=HA.out;clear HA
   simp only[qb.j0]at H
   by_cases c7:x24_2=true
   ·subst c7
    rw[if_pos rfl]at H
    simp only[Option.some.injEq,Prod.mk.injEq]at H
    obtain⟨rfl,rfl⟩:=H;go_wp2
    repeat (go_quiet (fail);try go_wp2)
    go_ret
    exact⟨fq,zt HI0,jr HB HI0,kw HK⟩
   ·replace c7:=Bool.eq_false_iff.mpr c7
    subst c7
    rw[if_neg (show ¬ (false=true) by decide)]at H
    by_cases c8:(wrap64 ((wrap64 (s0_1+1)) - 1)) < (s0_0.length:Int)
    ·rw[if_pos c8]at H
     have c8b0:=decide_eq_true c8;clear c8
     obtain⟨ji9,hji9⟩:∃ j_:Int,(wrap64 ((wrap64 (s0_1+1)) - 1))=j_:=⟨_,rfl⟩
     (first | rw[hji9]at H | simp only[hji9]at H)
     (try rw[hji9]at c8b0)
     have hji9w:(IntKind.i64.wrap ((wrap64 (s0_1+1)) - 1))=ji9:=(Z7 _).trans hji9
     replace H:=ifn H;obtain⟨c10,H⟩:=H;have c10b0:=decide_eq_true c10;clear c10;replace H:=ifm H;obtain⟨c11,H⟩:=H;have c11b0:=beq_eq_false_iff_ne.mpr c11;have c11b1:=bne_iff_ne.mpr c11
     simp only[Option.some.injEq,Prod.mk.injEq]at H
     obtain⟨rfl,rfl⟩:=H
     obtain⟨ASz12_0,cSz12_0,HGz12,hgz12,HSz12_0⟩:=HI0.out
     have hcz12_0:=qbk HGz12
     have hcz12_1:=qbr HGz12
     have hfz12_1:=qz HGz12 1
     clear HGz12 hgz12
     have p400:0≤((ji9):Int):=od
     have q400:(ji9) < (s0_0.length:Int):=od
     obtain⟨ad400,e400,hx400_0⟩:=Kd.at_int HSz12_0 (ji9) p400 q400
     cases e400
     replace hx400_0:=Zt HB.out hx400_0
     replace p400:=eq_true p400;replace q400:=eq_true q400;go_wp2
     repeat (go_quiet (fail);try go_wp2)
     go_ret
     exact⟨by first | rfl | (simp[Qy,Qx]<;>rfl) | (simp only[← hji9];first | rfl | (simp[Qy,Qx]<;>rfl)) | (simp[*,Qy,Qx]<;>rfl),zt HI0,jr HB HI0,kw HK⟩
    ·rw[if_neg c8]at H
     have c8b0:=decide_eq_false c8;clear c8;replace H:=ifm H;obtain⟨c13,H⟩:=H;have c13b0:=beq_eq_false_iff_ne.mpr c13;have c13b1:=bne_iff_ne.mpr c13
     have c13b2:¬ (s0_0=[]):=fun h_=>c13 (by rw[h_];rfl)
     obtain⟨ji14,hji14⟩:∃ j_:Int,(Int.tmod (wrap64 ((wrap64 (s0_1+1)) - 1)) (s0_0.length:Int))=j_:=⟨_,rfl⟩
     (first | rw[hji14]at H | simp only[hji14]at H)
     by_cases c15:0≤(ji14)
     ·rw[if_pos c15]at H
      have c15b0:=decide_eq_true c15;clear c15;replace H:=ifn H;obtain⟨c16,H⟩:=H;have c16b0:=decide_eq_true c16;clear c16
      obtain⟨ji17,hji17⟩:∃ j_:Int,(Int.tmod (wrap64 ((wrap64 ((wrap64 ((wrap64 (s0_1+1)) - 1))*7))+3)) (s0_0.length:Int))=j_:=⟨_,rfl⟩
      (first | rw[hji17]at H | simp only[hji17]at H)
      replace H:=ifn H;obtain⟨c18,H⟩:=H;have c18b0:=decide_eq_true c18;clear c18;replace H:=ifn H;obtain⟨c19,H⟩:=H;have c19b0:=decide_eq_true c19;clear c19;replace H:=ifm H;obtain⟨c20,H⟩:=H;have c20b0:=beq_eq_false_iff_ne.mpr c20
      have c20b1:=bne_iff_ne.mpr c20
      simp only[Option.some.injEq,Prod.mk.injEq]at H
      obtain⟨rfl,rfl⟩:=H
      obtain⟨ASz21_0,cSz21_0,HGz21,hgz21,HSz21_0⟩:=HI0.out
      have hcz21_0:=qbk HGz21
      have hcz21_1:=qbr HGz21
      have hfz21_1:=qz HGz21 1
      clear HGz21 hgz21
      have p401:0≤((ji14):Int):=od
      have q401:(ji14) < (s0_0.length:Int):=od
      obtain⟨ad401,e401,hx401_0⟩:=Kd.at_int HSz21_0 (ji14) p401 q401
      cases e401
      replace hx401_0:=Zt HB.out hx401_0
      replace p401:=eq_true p401;replace q401:=eq_true q401
      have p402:0≤((ji17):Int):=od
      have q402:(ji17) < (s0_0.length:Int):=od
      obtain⟨ad402,e402,hx402_0⟩:=Kd.at_int HSz21_0 (ji17) p402 q402
      obtain rfl:ad401=ad402:=(by injection e402)
      replace hx402_0:=Zt HB.out hx402_0
      replace p402:=eq_true p402;replace q402:=eq_true q402;go_wp2
      repeat (go_quiet (fail);try go_wp2)
      go_ret
      exact⟨by first | rfl | (simp[Qy,Qx]<;>rfl) | (simp only[← hji14,← hji17];first | rfl | (simp[Qy,Qx]<;>rfl)) | (simp[*,Qy,Qx]<;>rfl),zt HI0,jr HB HI0,kw HK⟩
     ·rw[if_neg c15]at H
      exact absurd H (by simp)
def jw.f (k:Nat) (a0:Int) (l1:List Int):Option (Int×Int×Int):=(qu.f k a0 l1).bind fun t404=>(if 0 < (t404.length:Int) then (if 1 < (t404.length:Int) then (if 2 < (t404.length:Int) then (some (rd t404 0,rd t404 1,rd t404 2)) else (none)) else (none)) else (none))
theorem jw.mono :∀ a0 a1 k,LeO (jw.f k a0 a1) (jw.f (k+1) a0 a1):=by
 intro a0 a1 k
 unfold jw.f
 repeat' first | (with_reducible first | apply qu.mono | exact LeO.refl _ | exact LeO.none _ | refine LeO.ite ?_ ?_ | refine LeO.bind ?_ (fun _=>?_)) | (first | apply qu.mono | exact LeO.none _ | refine LeO.ite ?_ ?_ | refine LeO.bind ?_ (fun _=>?_))
def jw.T2 :Bool×List (List Nat×List Nat):=(true,[([],[]),([0],[0]),([1],[1]),([],[]),([3],[3]),([4],[4]),([],[]),([6],[6]),([7],[7]),([2,5,8],[2,5,8]),([9],[9]),([10,0,1,2,3,4,5,6,7,8,9,10],[10])])
def jw.B2 :List Nat:=[0,1,3,0,8,24,0,64,192,511,1023,2047]
theorem jw.tab2 :rtab .any (Ju Try.f160 2)=jw.T2:=by kernel_rfl
theorem jw.bits2 :Qt jw.T2.2 jw.B2=true:=by kernel_rfl
theorem jw.calls (k:Nat) (a0:Int) (A1:Option Addr) (c1:Nat) (l1:List Int) (r1:Int) (r2:Int) (r3:Int) (w:World) (hr1:Kd.C (Kd.int .i64) w A1 l1.length l1) (hc1:l1.length≤c1) (h:jw.f k a0 l1=some (r1,r2,r3)):
  Calls Try.prog 160 #[.int .i64 a0,.slice A1 l1.length c1] w fun e w'=>e=.returned (.agg #[.int .i64 r1,.int .i64 r2,.int .i64 r3])∧Below w.heap.size w w':=by
 have hu43:=Try.underlying43
 have hu41:=Try.underlying41
 have HR1:=am hr1
 have HC1:=am hc1
 clear hr1 hc1
 have HB:=am (Below.refl w.heap.size w)
 have H:((qu.f k a0 l1).bind fun t404=>(if 0 < (t404.length:Int) then (if 1 < (t404.length:Int) then (if 2 < (t404.length:Int) then (some (rd t404 0,rd t404 1,rd t404 2)) else (none)) else (none)) else (none)))=some (r1,r2,r3):=h
 clear h;replace H:=bs H;obtain⟨t404,A3,H⟩:=H
 by_cases c4:0 < (t404.length:Int)
 ·rw[if_pos c4]at H
  have c4b0:=decide_eq_true c4
  have c4b1:decide (0 < t404.length)=true:=decide_eq_true (by omega)
  clear c4;replace H:=ifn H;obtain⟨c5,H⟩:=H;have c5b0:=decide_eq_true c5
  have c5b1:decide (1 < t404.length)=true:=decide_eq_true (by omega)
  clear c5;replace H:=ifn H;obtain⟨c6,H⟩:=H;have c6b0:=decide_eq_true c6
  have c6b1:decide (2 < t404.length)=true:=decide_eq_true (by omega)
  clear c6
  simp only[Option.some.injEq,Prod.mk.injEq]at H
  obtain⟨rfl,rfl,rfl⟩:=H
  go_enter Try.func160,Try.ntmps160
  try go_wp2_with (first | ((with_reducible refine q7 (N:=4) rfl ?_);refine xe_ 4 43 #[.int .i64 0,.int .i64 0,.int .i64 0] ?_;intro gb403 hg w7 hbox hb;have BK403:=am (hbox);have GW403:=am ((by rw[hg];exact(bz HB):w.heap.size≤gb403));have GE403:=am ((by rw[hg];exact(bz HB):w.heap.size≤gb403));replace HB:=bq HB hb;clear hb hbox hg) | ((with_reducible refine qe (f:=80) rfl ?_);refine gl 8 Try.func80 #[.int .i64 a0,.slice A1 l1.length c1] ?_;(with_reducible refine(qu.calls k a0 _ _ l1 t404 _ ?side1 ?side2 A3.out).mono ?_);(case side1=>exact Kd.C_below HR1.out (bw HB));(case side2=>exact HC1.out);rintro e w8 ⟨v405,rfl,ho0,hb⟩;refine⟨_,rfl,?_⟩;have HO406:=am (Kd.R_lower ho0 (jv (bx_ HB)));replace BK403:=am (jx (g:=gb403) (o:=.cells #[.int .i64 0,.int .i64 0,.int .i64 0] 43 (0,0)) (pk_ BK403) hb);replace HB:=am (zp (bx_ HB) hb);(try clear hb);(try clear hb2);(try clear hk);(try clear hi);(try clear ho0)))
  replace HO406:=am (Kd.R_drew HO406.out)
  replace BK403:=am (ze BK403.out)
  replace HB:=am (qv HB.out)
  obtain⟨Ao10,co10,eo10⟩:=Kd.R_slice HO406.out
  (first | subst eo10 | (injection eo10 with f1_ f2_ f3_;have f4_:=f1_.symm;have f5_:=f3_.symm;clear f1_ f2_ f3_;subst f4_;subst f5_))
  have p407:0≤(0:Int):=(by omega)
  have q407:0 < (t404.length:Int):=od
  obtain⟨ad407,e407,hx407_0⟩:=Kd.at_int (Kd.R_reads' HO406.out).2.2 0 p407 q407
  cases e407
  have qi407:(0 < t404.length)=True:=eq_true (by omega)
  (try rw[show ((0:Int)).toNat=0 from rfl]at hx407_0)
  (try rw[Addr.add_zero']at hx407_0)
  replace p407:=eq_true p407;replace q407:=eq_true q407
  have p408:0≤(1:Int):=(by omega)
  have q408:1 < (t404.length:Int):=od
  obtain⟨ad408,e408,hx408_0⟩:=Kd.at_int (Kd.R_reads' HO406.out).2.2 1 p408 q408
  obtain rfl:ad407=ad408:=(by injection e408)
  (try simp only[show (1:Int).toNat=1 from rfl,Nat.reduceMul,Nat.reduceEqDiff,Go.Addr.add,↓reduceIte]at hx408_0)
  have qi408:(1 < t404.length)=True:=eq_true (by omega)
  (try rw[show ((1:Int)).toNat=1 from rfl]at hx408_0)
  replace p408:=eq_true p408;replace q408:=eq_true q408
  have p409:0≤(2:Int):=(by omega)
  have q409:2 < (t404.length:Int):=od
  obtain⟨ad409,e409,hx409_0⟩:=Kd.at_int (Kd.R_reads' HO406.out).2.2 2 p409 q409
  obtain rfl:ad407=ad409:=(by injection e409)
  (try simp only[show (2:Int).toNat=2 from rfl,Nat.reduceMul,Nat.reduceEqDiff,Go.Addr.add,↓reduceIte]at hx409_0)
  have qi409:(2 < t404.length)=True:=eq_true (by omega)
  (try rw[show ((2:Int)).toNat=2 from rfl]at hx409_0)
  replace p409:=eq_true p409;replace q409:=eq_true q409
  refine st 12 (fun w'=>w'.cell? ad407=some (.int .i64 (rd t404 0))∧w'.cell? ⟨ad407.block,ad407.off+1,none⟩=some (.int .i64 (rd t404 1))∧w'.cell? ⟨ad407.block,ad407.off+2,none⟩=some (.int .i64 (rd t404 2))) [] jw.tab2 jw.bits2 (⟨hx407_0,hx408_0,hx409_0⟩) fun hHeld HT_ HW_=>?_
  generalize w8.drew=w9 at HO406 BK403 HB hx407_0 hx408_0 hx409_0 hHeld ⊢
  refine pz 0 9 HT_ ?_;refine pz 1 10 HT_ ?_;refine pz 3 12 HT_ ?_;refine pz 4 13 HT_ ?_;refine pz 6 15 HT_ ?_;refine pz 7 16 HT_ ?_;refine tk 2 11 HT_ HW_ hHeld ?_;refine tk 5 14 HT_ HW_ hHeld ?_;refine tk 8 17 HT_ HW_ hHeld ?_;refine pz 9 18 HT_ ?_
  refine pz 10 19 HT_ ?_
  refine on 11 none HT_ fun K hK=>?_
  have hs11:w9.cell? ⟨gb403,0,none⟩=some (.int .i64 0):=(qf BK403.out 0).trans rfl
  have hfs11:=qz BK403.out 0
  have hs12:w9.cell? ⟨gb403,1,none⟩=some (.int .i64 0):=(qf BK403.out 1).trans rfl
  have hfs12:=qz BK403.out 1
  have hs13:w9.cell? ⟨gb403,2,none⟩=some (.int .i64 0):=(qf BK403.out 2).trans rfl
  have hfs13:=qz BK403.out 2
  refine qir (w1:=?_) (by rfl) rfl ?_ ?_
  rotate_left
  ·go_simp
   rfl
  refine hK.out _ _ ⟨((J2 (p:=⟨gb403,_,none⟩) (by first | exact Kd.own_blk (Kd.R_ne HO406.out BK403.out (by decide)) | (rw[Qq];exact Kd.own_blk (Kd.R_ne HO406.out BK403.out (by decide))) | (show (Addr.add _ _).block≠_;rw[Qq];exact Kd.own_blk (Kd.R_ne HO406.out BK403.out (by decide))) | (dsimp only;exact Kd.own_blk (Kd.R_ne HO406.out BK403.out (by decide)))) _).trans (((J2 (p:=⟨gb403,_,none⟩) (by first | exact Kd.own_blk (Kd.R_ne HO406.out BK403.out (by decide)) | (rw[Qq];exact Kd.own_blk (Kd.R_ne HO406.out BK403.out (by decide))) | (show (Addr.add _ _).block≠_;rw[Qq];exact Kd.own_blk (Kd.R_ne HO406.out BK403.out (by decide))) | (dsimp only;exact Kd.own_blk (Kd.R_ne HO406.out BK403.out (by decide)))) _).trans (((J2 (p:=⟨gb403,_,none⟩) (by first | exact Kd.own_blk (Kd.R_ne HO406.out BK403.out (by decide)) | (rw[Qq];exact Kd.own_blk (Kd.R_ne HO406.out BK403.out (by decide))) | (show (Addr.add _ _).block≠_;rw[Qq];exact Kd.own_blk (Kd.R_ne HO406.out BK403.out (by decide))) | (dsimp only;exact Kd.own_blk (Kd.R_ne HO406.out BK403.out (by decide)))) _).trans (hHeld.1)))))),((J2 (p:=⟨gb403,_,none⟩) (by first | exact Kd.own_blk (Kd.R_ne HO406.out BK403.out (by decide)) | (rw[Qq];exact Kd.own_blk (Kd.R_ne HO406.out BK403.out (by decide))) | (show (Addr.add _ _).block≠_;rw[Qq];exact Kd.own_blk (Kd.R_ne HO406.out BK403.out (by decide))) | (dsimp only;exact Kd.own_blk (Kd.R_ne HO406.out BK403.out (by decide)))) _).trans (((J2 (p:=⟨gb403,_,none⟩) (by first | exact Kd.own_blk (Kd.R_ne HO406.out BK403.out (by decide)) | (rw[Qq];exact Kd.own_blk (Kd.R_ne HO406.out BK403.out (by decide))) | (show (Addr.add _ _).block≠_;rw[Qq];exact Kd.own_blk (Kd.R_ne HO406.out BK403.out (by decide))) | (dsimp only;exact Kd.own_blk (Kd.R_ne HO406.out BK403.out (by decide)))) _).trans (((J2 (p:=⟨gb403,_,none⟩) (by first | exact Kd.own_blk (Kd.R_ne HO406.out BK403.out (by decide)) | (rw[Qq];exact Kd.own_blk (Kd.R_ne HO406.out BK403.out (by decide))) | (show (Addr.add _ _).block≠_;rw[Qq];exact Kd.own_blk (Kd.R_ne HO406.out BK403.out (by decide))) | (dsimp only;exact Kd.own_blk (Kd.R_ne HO406.out BK403.out (by decide)))) _).trans (hHeld.2.1)))))),((J2 (p:=⟨gb403,_,none⟩) (by first | exact Kd.own_blk (Kd.R_ne HO406.out BK403.out (by decide)) | (rw[Qq];exact Kd.own_blk (Kd.R_ne HO406.out BK403.out (by decide))) | (show (Addr.add _ _).block≠_;rw[Qq];exact Kd.own_blk (Kd.R_ne HO406.out BK403.out (by decide))) | (dsimp only;exact Kd.own_blk (Kd.R_ne HO406.out BK403.out (by decide)))) _).trans (((J2 (p:=⟨gb403,_,none⟩) (by first | exact Kd.own_blk (Kd.R_ne HO406.out BK403.out (by decide)) | (rw[Qq];exact Kd.own_blk (Kd.R_ne HO406.out BK403.out (by decide))) | (show (Addr.add _ _).block≠_;rw[Qq];exact Kd.own_blk (Kd.R_ne HO406.out BK403.out (by decide))) | (dsimp only;exact Kd.own_blk (Kd.R_ne HO406.out BK403.out (by decide)))) _).trans (((J2 (p:=⟨gb403,_,none⟩) (by first | exact Kd.own_blk (Kd.R_ne HO406.out BK403.out (by decide)) | (rw[Qq];exact Kd.own_blk (Kd.R_ne HO406.out BK403.out (by decide))) | (show (Addr.add _ _).block≠_;rw[Qq];exact Kd.own_blk (Kd.R_ne HO406.out BK403.out (by decide))) | (dsimp only;exact Kd.own_blk (Kd.R_ne HO406.out BK403.out (by decide)))) _).trans (hHeld.2.2))))))⟩ (fun hHeld=>?_)
  clear hK K
  refine Zo (Qz HT_.out (by kernel_rfl)) ?_
  try go_wp2
  refine bodyPost_ret (results_cell_row rfl _ _ gb403 43 #[.int .i64 (rd t404 0),.int .i64 (rd t404 1),.int .i64 (rd t404 2)] (0,0) _ rfl (by (with_reducible repeat (first | refine zc ?_ _ | refine ze ?_ | refine za ?_ _));refine Ql (cs:=#[.int .i64 (rd t404 0),.int .i64 (rd t404 1),.int .i64 0]) ?_ 2 _ rfl;(with_reducible repeat (first | refine zc ?_ _ | refine ze ?_ | refine za ?_ _));refine Ql (cs:=#[.int .i64 (rd t404 0),.int .i64 0,.int .i64 0]) ?_ 1 _ rfl;(with_reducible repeat (first | refine zc ?_ _ | refine ze ?_ | refine za ?_ _));refine Ql (cs:=#[.int .i64 0,.int .i64 0,.int .i64 0]) ?_ 0 _ rfl;(with_reducible repeat (first | refine zc ?_ _ | refine ze ?_ | refine za ?_ _));exact BK403.out) Try.underlying43 rfl (by kernel_rfl)) rfl ?_
  exact⟨fq,bx_ HB⟩
 ·rw[if_neg c4]at H
  exact absurd H (by simp)
end Go.Proofs.Ytmgbpmihbljngaa.PA
