-- Written by xprint.py, a program of this claim's own (over the kit's print.py)
import Derived.Test.YtmgbpmihbljngaaPAx16
namespace Go.Proofs.Ytmgbpmihbljngaa.PA
open Go.RowKit Go.Proofs.YtmgbpmihbljngaaW.PrintWords Go.Proofs.YtmgbpmihbljngaaW.PrintLast Go.Proofs.YtmgbpmihbljngaaW.PrintMore
attribute [local go_sem] Qg Qj Qp Qo j4 j3 Qh Qf
set_option linter.unusedVariables false
set_option linter.unusedSimpArgs false
def zx.j0 :Nat→Int→Int→Int→Int→Bool→Option (Int×Int×Int×Bool)
 | 0,_,_,_,_,_=>none
 | k+1,x0,x1,x2,x3,x28=>if x28=true then (some (0,0,0,false)) else ((jy.f x0 x1).bind fun t415=>((jy.f x0 x2).bind fun t416=>((jy.f x0 x3).bind fun t417=>((some (([t415,t416,t417]:List Int):List Int)).bind fun y418=>((zb.f k y418).bind fun t421=>(if t421=true then (some (0,0,0,false)) else ((jw.f k x0 y418).bind fun bt422=>(some (bt422.1,bt422.2.1,bt422.2.2,true)))))))))
def zx.f (k:Nat) (a0:Int) (a1:Int) (a2:Int) (a3:Int):Option (Int×Int×Int×Bool):=(jd.f a0).bind fun t411=>(if t411=true then ((zq.f a1 (-1000) 1000).bind fun t412=>(if t412=true then ((zq.f a2 (-1000) 1000).bind fun t413=>(if t413=true then ((zq.f a3 (-1000) 1000).bind fun t414=>(zx.j0 k a0 a1 a2 a3 (!t414))) else (zx.j0 k a0 a1 a2 a3 true))) else (zx.j0 k a0 a1 a2 a3 true))) else (zx.j0 k a0 a1 a2 a3 true))
theorem zx.mono_l :∀ k,(∀ y0 y1 y2 y3 y4,LeO (zx.j0 k y0 y1 y2 y3 y4) (zx.j0 (k+1) y0 y1 y2 y3 y4))
 | 0=>fun _ _ _ _ _ r h=>by simp[zx.j0]at h
 | k+1=>by
  have ih0:=zx.mono_l k
  ·intro y0 y1 y2 y3 y4
   unfold zx.j0
   repeat' first | (with_reducible first | apply ih0 | apply jw.mono | apply zb.mono | exact LeO.refl _ | exact LeO.none _ | refine LeO.ite ?_ ?_ | refine LeO.bind ?_ (fun _=>?_)) | (first | apply ih0 | apply jw.mono | apply zb.mono | exact LeO.none _ | refine LeO.ite ?_ ?_ | refine LeO.bind ?_ (fun _=>?_))
theorem zx.mono :∀ a0 a1 a2 a3 k,LeO (zx.f k a0 a1 a2 a3) (zx.f (k+1) a0 a1 a2 a3):=by
 intro a0 a1 a2 a3 k
 have ih0:=zx.mono_l k
 unfold zx.f
 repeat' first | (with_reducible first | apply ih0 | apply jw.mono | apply zb.mono | exact LeO.refl _ | exact LeO.none _ | refine LeO.ite ?_ ?_ | refine LeO.bind ?_ (fun _=>?_)) | (first | apply ih0 | apply jw.mono | apply zb.mono | exact LeO.none _ | refine LeO.ite ?_ ?_ | refine LeO.bind ?_ (fun _=>?_))
set_option maxHeartbeats 8000000 in
set_option maxRecDepth 100000 in
theorem zx.calls (k:Nat) (a0:Int) (a1:Int) (a2:Int) (a3:Int) (r1:Int) (r2:Int) (r3:Int) (r4:Bool) (w:World) (h:zx.f k a0 a1 a2 a3=some (r1,r2,r3,r4)):
  Calls Try.prog 118 #[.int .i64 a0,.int .i64 a1,.int .i64 a2,.int .i64 a3] w fun e w'=>e=.returned (.tuple #[.agg #[.int .i64 r1,.int .i64 r2,.int .i64 r3],.bool r4])∧Below w.heap.size w w':=by
 have hu43:=Try.underlying43
 have HB:=am (Below.refl w.heap.size w)
 have H:((jd.f a0).bind fun t411=>(if t411=true then ((zq.f a1 (-1000) 1000).bind fun t412=>(if t412=true then ((zq.f a2 (-1000) 1000).bind fun t413=>(if t413=true then ((zq.f a3 (-1000) 1000).bind fun t414=>(zx.j0 k a0 a1 a2 a3 (!t414))) else (zx.j0 k a0 a1 a2 a3 true))) else (zx.j0 k a0 a1 a2 a3 true))) else (zx.j0 k a0 a1 a2 a3 true)))=some (r1,r2,r3,r4):=h
 clear h
 have HC5:=am H
 clear H
 go_enter Try.func118,Try.ntmps118
 go_upto_region 1 with (first | ((with_reducible refine q7 (N:=8) rfl ?_);refine xe_ 8 43 #[.int .i64 0,.int .i64 0,.int .i64 0] ?_;intro gb410 hg w6 hbox hb;have BK410:=am (hbox);have GW410:=am ((by rw[hg];exact(bz HB):w.heap.size≤gb410));have GE410:=am ((by rw[hg];exact(bz HB):w.heap.size≤gb410));replace HB:=bq HB hb;clear hb hbox hg))
 (try simp only[Act.put,List.setIfInBounds_toArray,List.set_cons_zero,List.set_cons_succ])
 go_cut [28] (fun v28 wc=>∃ (kq:Nat) (x28_4:Bool),v28=.bool x28_4∧qa (zx.j0 kq a0 a1 a2 a3 x28_4=some (r1,r2,r3,r4))∧qa (kq≤k)∧qa (wc.heap[gb410]? =some (.cells #[.int .i64 0,.int .i64 0,.int .i64 0] 43 (0,0)))∧qa (Below w.heap.size w wc))
 case first=>
  have H:=HC5.out
  clear HC5;replace H:=bs H;obtain⟨t411,A7,H⟩:=H
  by_cases c8:t411=true
  ·subst c8
   rw[if_pos rfl]at H
   replace H:=bs H;obtain⟨t412,A9,H⟩:=H
   by_cases c10:t412=true
   ·subst c10
    rw[if_pos rfl]at H
    replace H:=bs H;obtain⟨t413,A11,H⟩:=H
    by_cases c12:t413=true
    ·subst c12
     rw[if_pos rfl]at H
     replace H:=bs H;obtain⟨t414,A13,H⟩:=H;have H':=am H;clear H
     go_wp2_with (first | ((with_reducible refine qe (f:=103) rfl ?_);refine gl 12 Try.func103 #[.int .i64 a0] ?_;(with_reducible refine(jd.calls a0 true _ A7.out).mono ?_);rintro e w' ⟨rfl,⟨nd,rfl⟩⟩;refine⟨_,rfl,?_⟩) | (go_at_call 87;(with_reducible refine(zq.calls a1 (-1000) 1000 true _ A9.out).mono ?_);rintro e w' ⟨rfl,⟨nd,rfl⟩⟩) | (go_at_call 87;(with_reducible refine(zq.calls a2 (-1000) 1000 true _ A11.out).mono ?_);rintro e w' ⟨rfl,⟨nd,rfl⟩⟩) | (go_at_call 87;(with_reducible refine(zq.calls a3 (-1000) 1000 t414 _ A13.out).mono ?_);rintro e w' ⟨rfl,⟨nd,rfl⟩⟩))
     go_meet
     case rel=>exact⟨_,(!t414),fr,H',⟨by first | omega | exact Nat.le_refl _⟩,⟨by (with_reducible repeat (first | refine zc ?_ _ | refine ze ?_ | refine za ?_ _));exact BK410.out⟩,⟨bx_ HB⟩⟩
    ·replace c12:=Bool.eq_false_iff.mpr c12
     subst c12
     rw[if_neg (show ¬ (false=true) by decide)]at H
     have H':=am H;clear H
     go_wp2_with (first | ((with_reducible refine qe (f:=103) rfl ?_);refine gl 12 Try.func103 #[.int .i64 a0] ?_;(with_reducible refine(jd.calls a0 true _ A7.out).mono ?_);rintro e w' ⟨rfl,⟨nd,rfl⟩⟩;refine⟨_,rfl,?_⟩) | (go_at_call 87;(with_reducible refine(zq.calls a1 (-1000) 1000 true _ A9.out).mono ?_);rintro e w' ⟨rfl,⟨nd,rfl⟩⟩) | (go_at_call 87;(with_reducible refine(zq.calls a2 (-1000) 1000 false _ A11.out).mono ?_);rintro e w' ⟨rfl,⟨nd,rfl⟩⟩))
     go_meet
     case rel=>exact⟨_,(true),fr,H',⟨by first | omega | exact Nat.le_refl _⟩,⟨by (with_reducible repeat (first | refine zc ?_ _ | refine ze ?_ | refine za ?_ _));exact BK410.out⟩,⟨bx_ HB⟩⟩
   ·replace c10:=Bool.eq_false_iff.mpr c10
    subst c10
    rw[if_neg (show ¬ (false=true) by decide)]at H
    have H':=am H;clear H
    go_wp2_with (first | ((with_reducible refine qe (f:=103) rfl ?_);refine gl 12 Try.func103 #[.int .i64 a0] ?_;(with_reducible refine(jd.calls a0 true _ A7.out).mono ?_);rintro e w' ⟨rfl,⟨nd,rfl⟩⟩;refine⟨_,rfl,?_⟩) | (go_at_call 87;(with_reducible refine(zq.calls a1 (-1000) 1000 false _ A9.out).mono ?_);rintro e w' ⟨rfl,⟨nd,rfl⟩⟩))
    go_meet
    case rel=>exact⟨_,(true),fr,H',⟨by first | omega | exact Nat.le_refl _⟩,⟨by (with_reducible repeat (first | refine zc ?_ _ | refine ze ?_ | refine za ?_ _));exact BK410.out⟩,⟨bx_ HB⟩⟩
  ·replace c8:=Bool.eq_false_iff.mpr c8
   subst c8
   rw[if_neg (show ¬ (false=true) by decide)]at H
   have H':=am H;clear H
   go_wp2_with (first | ((with_reducible refine qe (f:=103) rfl ?_);refine gl 12 Try.func103 #[.int .i64 a0] ?_;(with_reducible refine(jd.calls a0 false _ A7.out).mono ?_);rintro e w' ⟨rfl,⟨nd,rfl⟩⟩;refine⟨_,rfl,?_⟩))
   go_meet
   case rel=>exact⟨_,(true),fr,H',⟨by first | omega | exact Nat.le_refl _⟩,⟨by (with_reducible repeat (first | refine zc ?_ _ | refine ze ?_ | refine za ?_ _));exact BK410.out⟩,⟨bx_ HB⟩⟩
 case rest=>
  clear HC5;try clear c1;try clear p2;try clear c8;try clear c10;try clear c11;try clear c12
  obtain⟨kq,x28_4,rfl,HA,HJ4,BK410,HB⟩:=hcut
  cases kq with
  | zero=>exact absurd HA.out (by simp[zx.j0])
  | succ kj4=>
   have H:=HA.out;clear HA
   simp only[zx.j0]at H
   by_cases c14:x28_4=true
   ·subst c14
    rw[if_pos rfl]at H
    simp only[Option.some.injEq,Prod.mk.injEq]at H
    obtain⟨rfl,rfl,rfl,rfl⟩:=H
    have hcz15_0:wc.cell? ⟨gb410,0,none⟩=some (.int .i64 0):=(qf BK410.out 0).trans rfl
    have hcz15_1:wc.cell? ⟨gb410,1,none⟩=some (.int .i64 0):=(qf BK410.out 1).trans rfl
    have hcz15_2:wc.cell? ⟨gb410,2,none⟩=some (.int .i64 0):=(qf BK410.out 2).trans rfl
    have hfz15_0:=qz BK410.out 0
    have hfz15_1:=qz BK410.out 1
    have hfz15_2:=qz BK410.out 2
    go_wp2
    refine bodyPost_ret (qcw rfl _ _ gb410 43 #[.int .i64 0,.int .i64 0,.int .i64 0] (0,0) _ rfl (by (with_reducible repeat (first | refine zc ?_ _ | refine ze ?_ | refine za ?_ _));refine Ql (cs:=#[.int .i64 0,.int .i64 0,.int .i64 0]) ?_ 2 _ rfl;(with_reducible repeat (first | refine zc ?_ _ | refine ze ?_ | refine za ?_ _));refine Ql (cs:=#[.int .i64 0,.int .i64 0,.int .i64 0]) ?_ 1 _ rfl;(with_reducible repeat (first | refine zc ?_ _ | refine ze ?_ | refine za ?_ _));refine Ql (cs:=#[.int .i64 0,.int .i64 0,.int .i64 0]) ?_ 0 _ rfl;(with_reducible repeat (first | refine zc ?_ _ | refine ze ?_ | refine za ?_ _));exact BK410.out) Try.underlying43 rfl (by kernel_rfl)) rfl ?_
    exact⟨fq,bx_ HB⟩
   ·replace c14:=Bool.eq_false_iff.mpr c14
    subst c14
    rw[if_neg (show ¬ (false=true) by decide)]at H
    replace H:=bs H;obtain⟨t415,A16,H⟩:=H;replace H:=bs H;obtain⟨t416,A17,H⟩:=H;replace H:=bs H;obtain⟨t417,A18,H⟩:=H;replace H:=bsy H;obtain⟨y418,Ny418,H⟩:=H;replace H:=bs H;obtain⟨t421,A19,H⟩:=H
    by_cases c20:t421=true
    ·subst c20
     rw[if_pos rfl]at H
     simp only[Option.some.injEq,Prod.mk.injEq]at H
     obtain⟨rfl,rfl,rfl,rfl⟩:=H
     go_wp2_with (first | ((with_reducible refine qe (f:=158) rfl ?_);refine gl 32 Try.func158 #[.int .i64 a0,.int .i64 a1] ?_;(with_reducible refine(jy.calls a0 a1 t415 _ A16.out).mono ?_);rintro e w' ⟨rfl,⟨nd,rfl⟩⟩;refine⟨_,rfl,?_⟩;(try (rw[Z8 wc];generalize hq_:World.drewN wc _=wc;have n0_:qa (wc.heap[gb410]? =some (.cells #[.int .i64 0,.int .i64 0,.int .i64 0] 43 (0,0))):=⟨by rw[← hq_];exact(pk_ BK410)⟩;have n1_:qa (Below w.heap.size w wc):=⟨by rw[← hq_];exact(bx_ HB)⟩;clear BK410 HB hq_;have BK410:=n0_;have HB:=n1_;clear n0_ n1_))) | ((with_reducible refine qe (f:=158) rfl ?_);refine gl 35 Try.func158 #[.int .i64 a0,.int .i64 a2] ?_;(with_reducible refine(jy.calls a0 a2 t416 _ A17.out).mono ?_);rintro e w' ⟨rfl,⟨nd,rfl⟩⟩;refine⟨_,rfl,?_⟩;(try (rw[Z8 wc];generalize hq_:World.drewN wc _=wc;have n0_:qa (wc.heap[gb410]? =some (.cells #[.int .i64 0,.int .i64 0,.int .i64 0] 43 (0,0))):=⟨by rw[← hq_];exact(pk_ BK410)⟩;have n1_:qa (Below w.heap.size w wc):=⟨by rw[← hq_];exact(bx_ HB)⟩;clear BK410 HB hq_;have BK410:=n0_;have HB:=n1_;clear n0_ n1_))) | ((with_reducible refine qe (f:=158) rfl ?_);refine gl 38 Try.func158 #[.int .i64 a0,.int .i64 a3] ?_;(with_reducible refine(jy.calls a0 a3 t417 _ A18.out).mono ?_);rintro e w' ⟨rfl,⟨nd,rfl⟩⟩;refine⟨_,rfl,?_⟩;(try (rw[Z8 wc];generalize hq_:World.drewN wc _=wc;have n0_:qa (wc.heap[gb410]? =some (.cells #[.int .i64 0,.int .i64 0,.int .i64 0] 43 (0,0))):=⟨by rw[← hq_];exact(pk_ BK410)⟩;have n1_:qa (Below w.heap.size w wc):=⟨by rw[← hq_];exact(bx_ HB)⟩;clear BK410 HB hq_;have BK410:=n0_;have HB:=n1_;clear n0_ n1_))) | ((with_reducible refine q7 (N:=39) rfl ?_);refine li 3 [t415,t416,t417] ?_;intro v419 w21 ho22 hb;(first | rw[← Ny418.out]at ho22 | (simp only[Int.reduceToNat]at ho22;rw[← Ny418.out]at ho22));have HO420:=am (Kd.R_lower ho22 (jv (bx_ HB)));replace BK410:=am (jx (g:=gb410) (o:=.cells #[.int .i64 0,.int .i64 0,.int .i64 0] 43 (0,0)) (pk_ BK410) hb);replace HB:=am (zp (bx_ HB) hb);clear hb ho22;obtain⟨Ao23,co23,eo23⟩:=Kd.R_slice HO420.out;subst eo23) | ((with_reducible refine qe (f:=79) rfl ?_);refine gl 41 Try.func79 #[.slice Ao23 y418.length co23] ?_;(with_reducible refine(zb.calls kj4 _ _ y418 true _ ?_ ?_ A19.out).mono ?_);exact Kd.C_below (Kd.R_reads' HO420.out).2.2 gs;exact(Kd.R_reads' HO420.out).2.1;rintro e w' ⟨rfl,⟨nd,rfl⟩⟩;refine⟨_,rfl,?_⟩;(try (rw[Z8 w21];generalize hq_:World.drewN w21 _=w21;have n0_:qa (Kd.R (Kd.int .i64) 3 w21 w.heap.size (fun _=>True) (.slice Ao23 y418.length co23) y418):=⟨by rw[← hq_];exact(wR HO420)⟩;have n1_:qa (w21.heap[gb410]? =some (.cells #[.int .i64 0,.int .i64 0,.int .i64 0] 43 (0,0))):=⟨by rw[← hq_];exact(pk_ BK410)⟩;have n2_:qa (Below w.heap.size w w21):=⟨by rw[← hq_];exact(bx_ HB)⟩;clear HO420 BK410 HB hq_;have HO420:=n0_;have BK410:=n1_;have HB:=n2_;clear n0_ n1_ n2_));have hcz24_0:w21.cell? ⟨gb410,0,none⟩=some (.int .i64 0):=(qf BK410.out 0).trans rfl;have hcz24_1:w21.cell? ⟨gb410,1,none⟩=some (.int .i64 0):=(qf BK410.out 1).trans rfl;have hcz24_2:w21.cell? ⟨gb410,2,none⟩=some (.int .i64 0):=(qf BK410.out 2).trans rfl;have hfz24_0:=qz BK410.out 0;have hfz24_1:=qz BK410.out 1;have hfz24_2:=qz BK410.out 2))
     refine bodyPost_ret (qcw rfl _ _ gb410 43 #[.int .i64 0,.int .i64 0,.int .i64 0] (0,0) _ rfl (by (with_reducible repeat (first | refine zc ?_ _ | refine ze ?_ | refine za ?_ _));refine Ql (cs:=#[.int .i64 0,.int .i64 0,.int .i64 0]) ?_ 2 _ rfl;(with_reducible repeat (first | refine zc ?_ _ | refine ze ?_ | refine za ?_ _));refine Ql (cs:=#[.int .i64 0,.int .i64 0,.int .i64 0]) ?_ 1 _ rfl;(with_reducible repeat (first | refine zc ?_ _ | refine ze ?_ | refine za ?_ _));refine Ql (cs:=#[.int .i64 0,.int .i64 0,.int .i64 0]) ?_ 0 _ rfl;(with_reducible repeat (first | refine zc ?_ _ | refine ze ?_ | refine za ?_ _));exact BK410.out) Try.underlying43 rfl (by kernel_rfl)) rfl ?_
     exact⟨fq,bx_ HB⟩
    ·replace c20:=Bool.eq_false_iff.mpr c20
     subst c20
     rw[if_neg (show ¬ (false=true) by decide)]at H
     replace H:=bs H
     obtain⟨⟨t422,t423,t424⟩,A25,H⟩:=H
     dsimp only at H
     simp only[Option.some.injEq,Prod.mk.injEq]at H
     obtain⟨rfl,rfl,rfl,rfl⟩:=H
     go_wp2_with (first | ((with_reducible refine qe (f:=158) rfl ?_);refine gl 32 Try.func158 #[.int .i64 a0,.int .i64 a1] ?_;(with_reducible refine(jy.calls a0 a1 t415 _ A16.out).mono ?_);rintro e w' ⟨rfl,⟨nd,rfl⟩⟩;refine⟨_,rfl,?_⟩;(try (rw[Z8 wc];generalize hq_:World.drewN wc _=wc;have n0_:qa (wc.heap[gb410]? =some (.cells #[.int .i64 0,.int .i64 0,.int .i64 0] 43 (0,0))):=⟨by rw[← hq_];exact(pk_ BK410)⟩;have n1_:qa (Below w.heap.size w wc):=⟨by rw[← hq_];exact(bx_ HB)⟩;clear BK410 HB hq_;have BK410:=n0_;have HB:=n1_;clear n0_ n1_))) | ((with_reducible refine qe (f:=158) rfl ?_);refine gl 35 Try.func158 #[.int .i64 a0,.int .i64 a2] ?_;(with_reducible refine(jy.calls a0 a2 t416 _ A17.out).mono ?_);rintro e w' ⟨rfl,⟨nd,rfl⟩⟩;refine⟨_,rfl,?_⟩;(try (rw[Z8 wc];generalize hq_:World.drewN wc _=wc;have n0_:qa (wc.heap[gb410]? =some (.cells #[.int .i64 0,.int .i64 0,.int .i64 0] 43 (0,0))):=⟨by rw[← hq_];exact(pk_ BK410)⟩;have n1_:qa (Below w.heap.size w wc):=⟨by rw[← hq_];exact(bx_ HB)⟩;clear BK410 HB hq_;have BK410:=n0_;have HB:=n1_;clear n0_ n1_))) | ((with_reducible refine qe (f:=158) rfl ?_);refine gl 38 Try.func158 #[.int .i64 a0,.int .i64 a3] ?_;(with_reducible refine(jy.calls a0 a3 t417 _ A18.out).mono ?_);rintro e w' ⟨rfl,⟨nd,rfl⟩⟩;refine⟨_,rfl,?_⟩;(try (rw[Z8 wc];generalize hq_:World.drewN wc _=wc;have n0_:qa (wc.heap[gb410]? =some (.cells #[.int .i64 0,.int .i64 0,.int .i64 0] 43 (0,0))):=⟨by rw[← hq_];exact(pk_ BK410)⟩;have n1_:qa (Below w.heap.size w wc):=⟨by rw[← hq_];exact(bx_ HB)⟩;clear BK410 HB hq_;have BK410:=n0_;have HB:=n1_;clear n0_ n1_))) | ((with_reducible refine q7 (N:=39) rfl ?_);refine li 3 [t415,t416,t417] ?_;intro v419 w26 ho27 hb;(first | rw[← Ny418.out]at ho27 | (simp only[Int.reduceToNat]at ho27;rw[← Ny418.out]at ho27));have HO420:=am (Kd.R_lower ho27 (jv (bx_ HB)));replace BK410:=am (jx (g:=gb410) (o:=.cells #[.int .i64 0,.int .i64 0,.int .i64 0] 43 (0,0)) (pk_ BK410) hb);replace HB:=am (zp (bx_ HB) hb);clear hb ho27;obtain⟨Ao28,co28,eo28⟩:=Kd.R_slice HO420.out;subst eo28) | ((with_reducible refine qe (f:=79) rfl ?_);refine gl 41 Try.func79 #[.slice Ao28 y418.length co28] ?_;(with_reducible refine(zb.calls kj4 _ _ y418 false _ ?_ ?_ A19.out).mono ?_);exact Kd.C_below (Kd.R_reads' HO420.out).2.2 gs;exact(Kd.R_reads' HO420.out).2.1;rintro e w' ⟨rfl,⟨nd,rfl⟩⟩;refine⟨_,rfl,?_⟩;(try (rw[Z8 w26];generalize hq_:World.drewN w26 _=w26;have n0_:qa (Kd.R (Kd.int .i64) 3 w26 w.heap.size (fun _=>True) (.slice Ao28 y418.length co28) y418):=⟨by rw[← hq_];exact(wR HO420)⟩;have n1_:qa (w26.heap[gb410]? =some (.cells #[.int .i64 0,.int .i64 0,.int .i64 0] 43 (0,0))):=⟨by rw[← hq_];exact(pk_ BK410)⟩;have n2_:qa (Below w.heap.size w w26):=⟨by rw[← hq_];exact(bx_ HB)⟩;clear HO420 BK410 HB hq_;have HO420:=n0_;have BK410:=n1_;have HB:=n2_;clear n0_ n1_ n2_))) | ((with_reducible refine qe (f:=160) rfl ?_);refine gl 45 Try.func160 #[.int .i64 a0,.slice Ao28 y418.length co28] ?_;(with_reducible refine(jw.calls kj4 a0 _ _ y418 t422 t423 t424 _ ?_ ?_ A25.out).mono ?_);exact Kd.C_below (Kd.R_reads' HO420.out).2.2 gs;exact(Kd.R_reads' HO420.out).2.1;rintro e w29 ⟨rfl,hb⟩;refine⟨_,rfl,?_⟩;replace HO420:=am (Kd.R_below (wR HO420) hb);replace BK410:=am (jx (g:=gb410) (o:=.cells #[.int .i64 0,.int .i64 0,.int .i64 0] 43 (0,0)) (pk_ BK410) hb);replace HB:=am (zp (bx_ HB) hb);(try clear hb);have hcz30_0:w29.cell? ⟨gb410,0,none⟩=some (.int .i64 0):=(qf BK410.out 0).trans rfl;have hcz30_1:w29.cell? ⟨gb410,1,none⟩=some (.int .i64 0):=(qf BK410.out 1).trans rfl;have hcz30_2:w29.cell? ⟨gb410,2,none⟩=some (.int .i64 0):=(qf BK410.out 2).trans rfl;have hfz30_0:=qz BK410.out 0;have hfz30_1:=qz BK410.out 1;have hfz30_2:=qz BK410.out 2))
     refine bodyPost_ret (qcw rfl _ _ gb410 43 #[.int .i64 t422,.int .i64 t423,.int .i64 t424] (0,0) _ rfl (by (with_reducible repeat (first | refine zc ?_ _ | refine ze ?_ | refine za ?_ _));refine Ql (cs:=#[.int .i64 t422,.int .i64 t423,.int .i64 0]) ?_ 2 _ rfl;(with_reducible repeat (first | refine zc ?_ _ | refine ze ?_ | refine za ?_ _));refine Ql (cs:=#[.int .i64 t422,.int .i64 0,.int .i64 0]) ?_ 1 _ rfl;(with_reducible repeat (first | refine zc ?_ _ | refine ze ?_ | refine za ?_ _));refine Ql (cs:=#[.int .i64 0,.int .i64 0,.int .i64 0]) ?_ 0 _ rfl;(with_reducible repeat (first | refine zc ?_ _ | refine ze ?_ | refine za ?_ _));exact BK410.out) Try.underlying43 rfl (by kernel_rfl)) rfl ?_
     exact⟨fq,bx_ HB⟩
end Go.Proofs.Ytmgbpmihbljngaa.PA
