-- Written by xprint.py, a program of this claim's own (over the kit's print.py)
import Derived.Test.YtmgbpmihbljngaaPAx22
namespace Go.Proofs.Ytmgbpmihbljngaa.PA
set_option maxHeartbeats 8000000
set_option maxRecDepth 100000
open Go.RowKit Go.Proofs.YtmgbpmihbljngaaW.PrintWords Go.Proofs.YtmgbpmihbljngaaW.PrintLast Go.Proofs.YtmgbpmihbljngaaW.PrintMore
attribute [local go_sem] Qs Qr Qx Qw Qf Qe Qq Qp
set_option linter.unusedVariables false
set_option linter.unusedSimpArgs false
def qy.j0 :Nat→Int→List (S43)→Int→Bool→Option (List Int×Bool)
 | 0,_,_,_,_=>none
 | k+1,x0,x1,x2,x16=>if x16=true then (some (([]:List Int),false)) else ((jo.f k x0 x1).bind fun t480=>((zd.f k x0 x1 t480 x2).bind fun t483=>(some (t483,true))))
def qy.f (k:Nat) (a0:Int) (l1:List (S43)) (a2:Int):Option (List Int×Bool):=(j3.f k a0 l1).bind fun t478=>(if t478=true then ((Q7.f a2).bind fun t479=>(qy.j0 k a0 l1 a2 (!t479))) else (qy.j0 k a0 l1 a2 true))
theorem qy.mono_l :∀ k,(∀ y0 y1 y2 y3,LeO (qy.j0 k y0 y1 y2 y3) (qy.j0 (k+1) y0 y1 y2 y3))
 | 0=>fun _ _ _ _ r h=>by simp[qy.j0]at h
 | k+1=>by
  have ih0:=qy.mono_l k
  ·intro y0 y1 y2 y3
   unfold qy.j0
   repeat' first | (with_reducible first | apply ih0 | apply j3.mono | apply jo.mono | apply zd.mono | exact LeO.refl _ | exact LeO.none _ | refine LeO.ite ?_ ?_ | refine LeO.bind ?_ (fun _=>?_)) | (first | apply ih0 | apply j3.mono | apply jo.mono | apply zd.mono | exact LeO.none _ | refine LeO.ite ?_ ?_ | refine LeO.bind ?_ (fun _=>?_))
theorem qy.mono :∀ a0 a1 a2 k,LeO (qy.f k a0 a1 a2) (qy.f (k+1) a0 a1 a2):=by
 intro a0 a1 a2 k
 have ih0:=qy.mono_l k
 unfold qy.f
 repeat' first | (with_reducible first | apply ih0 | apply j3.mono | apply jo.mono | apply zd.mono | exact LeO.refl _ | exact LeO.none _ | refine LeO.ite ?_ ?_ | refine LeO.bind ?_ (fun _=>?_)) | (first | apply ih0 | apply j3.mono | apply jo.mono | apply zd.mono | exact LeO.none _ | refine LeO.ite ?_ ?_ | refine LeO.bind ?_ (fun _=>?_))
theorem qy.calls (k:Nat) (a0:Int) (A1:Option Addr) (c1:Nat) (l1:List (S43)) (a2:Int) (r1:List Int) (r2:Bool) (w:World) (hr1:Kd.C k43 w A1 l1.length l1) (hc1:l1.length≤c1) (h:qy.f k a0 l1 a2=some (r1,r2)):
  Calls Try.prog 43 #[.int .i64 a0,.slice A1 l1.length c1,.int .i64 a2] w fun e w'=>∃ v0_:Value,e=.returned (.tuple #[v0_,.bool r2])∧Kd.R (Kd.int .i64) 3 w' w.heap.size (fun _=>True) v0_ r1∧Below w.heap.size w w':=by
 have HR1:=am hr1
 have HC1:=am hc1
 clear hr1 hc1
 have HB:=am (Below.refl w.heap.size w)
 have H:((j3.f k a0 l1).bind fun t478=>(if t478=true then ((Q7.f a2).bind fun t479=>(qy.j0 k a0 l1 a2 (!t479))) else (qy.j0 k a0 l1 a2 true)))=some (r1,r2):=h
 clear h
 have HC4:=am H
 clear H
 go_enter Try.func43,Try.ntmps43
 go_upto_region 1 with (fail)
 go_cut [16] (fun v16 wc=>∃ (kq:Nat) (x16_3:Bool),v16=.bool x16_3∧qf (qy.j0 kq a0 l1 a2 x16_3=some (r1,r2))∧qf (kq≤k)∧qf (Below w.heap.size w wc))
 case first=>
  have H:=HC4.out
  clear HC4;replace H:=bs H;obtain⟨t478,A5,H⟩:=H
  by_cases c6:t478=true
  ·subst c6
   rw[if_pos rfl]at H
   replace H:=bs H;obtain⟨t479,A7,H⟩:=H;have H':=am H;clear H
   go_wp2_with (first | ((with_reducible refine qt (f:=65) rfl ?_);refine gl 10 Try.func65 #[.int .i64 a0,.slice A1 l1.length c1] ?_;(with_reducible refine(j3.calls k a0 _ _ l1 true _ ?_ ?_ A5.out).mono ?_);exact Kd.C_below HR1.out (bw HB);exact HC1.out;rintro e w8 ⟨rfl,hb⟩;refine⟨_,rfl,?_⟩;replace HB:=bq HB hb;(try clear hb)) | (go_at_call 89;(with_reducible refine(Q7.calls a2 t479 _ A7.out).mono ?_);rintro e w' ⟨rfl,⟨nd,rfl⟩⟩))
   go_meet
   case rel=>exact⟨_,(!t479),fr,H',⟨by first | omega | exact Nat.le_refl _⟩,⟨bw HB⟩⟩
  ·replace c6:=Bool.eq_false_iff.mpr c6
   subst c6
   rw[if_neg (show ¬ (false=true) by decide)]at H
   have H':=am H;clear H
   go_wp2_with (first | ((with_reducible refine qt (f:=65) rfl ?_);refine gl 10 Try.func65 #[.int .i64 a0,.slice A1 l1.length c1] ?_;(with_reducible refine(j3.calls k a0 _ _ l1 false _ ?_ ?_ A5.out).mono ?_);exact Kd.C_below HR1.out (bw HB);exact HC1.out;rintro e w9 ⟨rfl,hb⟩;refine⟨_,rfl,?_⟩;replace HB:=bq HB hb;(try clear hb)))
   go_meet
   case rel=>exact⟨_,(true),fr,H',⟨by first | omega | exact Nat.le_refl _⟩,⟨bw HB⟩⟩
 case rest=>
  clear HC4;try clear c1;try clear p2;try clear c4;try clear c6
  obtain⟨kq,x16_3,rfl,HA,HJ3,HB⟩:=hcut
  cases kq with
  | zero=>exact absurd HA.out (by simp[qy.j0])
  | succ kj3=>
   have H:=HA.out;clear HA
   simp only[qy.j0]at H
   by_cases c10:x16_3=true
   ·subst c10
    rw[if_pos rfl]at H
    simp only[Option.some.injEq,Prod.mk.injEq]at H
    obtain⟨rfl,rfl⟩:=H;go_wp2
    go_ret2
    exact⟨_,fq,by first | exact Kd.R_nil _ _ _ _ _ | exact Kd.N_nil _ _ _ _ _ | exact Kd.V_nil _ _ _ _ _ | exact Kd.Q_nil _ _ _ _ _ | exact Kd.S_nil _ _ _ _ _,bw HB⟩
   ·replace c10:=Bool.eq_false_iff.mpr c10
    subst c10
    rw[if_neg (show ¬ (false=true) by decide)]at H
    replace H:=bs H;obtain⟨t480,A11,H⟩:=H;replace H:=bs H;obtain⟨t483,A12,H⟩:=H
    simp only[Option.some.injEq,Prod.mk.injEq]at H
    obtain⟨rfl,rfl⟩:=H
    go_wp2_with (first | ((with_reducible refine qt (f:=67) rfl ?_);refine gl 21 Try.func67 #[.int .i64 a0,.slice A1 l1.length c1] ?_;(with_reducible refine(jo.calls kj3 a0 _ _ l1 t480 _ ?_ ?_ A11.out).mono ?_);exact Kd.C_below HR1.out (bw HB);exact HC1.out;rintro e w13 ⟨v481,rfl,ho0,hb⟩;refine⟨_,rfl,?_⟩;have HO482:=am (Kd.S_lower ho0 (bz HB));replace HB:=bq HB hb;(try clear hb);(try clear ho0);obtain⟨Ao14,co14,eo14⟩:=Kd.S_slice HO482.out;subst eo14) | ((with_reducible refine qt (f:=90) rfl ?_);refine gl 23 Try.func90 #[.int .i64 a0,.slice A1 l1.length c1,.slice Ao14 t480.length co14,.int .i64 a2] ?_;(with_reducible refine(zd.calls kj3 a0 _ _ l1 _ _ t480 a2 t483 _ ?_ ?_ ?_ ?_ A12.out).mono ?_);exact Kd.C_below HR1.out (bw HB);exact HC1.out;exact Kd.C_below (Kd.S_reads' HO482.out).2.2 gs;exact(Kd.S_reads' HO482.out).2.1;rintro e w15 ⟨v484,rfl,ho0,hb⟩;refine⟨_,rfl,?_⟩;replace HO482:=eS HO482 (Kd.R_base ho0) hb;have HO485:=am (Kd.R_lower ho0 (bz HB));replace HB:=bq HB hb;(try clear hb);(try clear ho0)))
    go_ret2
    exact⟨_,fq,wR HO485,bw HB⟩
mutual
def laws_FnExactSurfaceLine.j0 :Nat→Int→List (S76)→Int→List Int→Bool→List (S43)→List Int→Bool→Bool→Option (Bool)
 | 0,_,_,_,_,_,_,_,_,_=>none
 | k+1,x0,x1,x2,x8,x9,x10,x11,x12,x48=>if x48=true then (some false) else ((zc.f k x1).bind fun t502=>((q8.f k x10 t502).bind fun t505=>(if t505=true then ((Zb.f x10 1).bind fun bt506=>(if bt506.1 < 0 then (laws_FnExactSurfaceLine.j1 k x0 x1 x2 x8 x9 x11 true) else ((zk.f k x11 x8).bind fun t508=>(if t508=true then (laws_FnExactSurfaceLine.j1 k x0 x1 x2 x8 x9 x11 (x12 !=x9)) else (laws_FnExactSurfaceLine.j1 k x0 x1 x2 x8 x9 x11 true))))) else (some false))))
def laws_FnExactSurfaceLine.j1 :Nat→Int→List (S76)→Int→List Int→Bool→List Int→Bool→Option (Bool)
 | 0,_,_,_,_,_,_,_=>none
 | k+1,x0,x1,x2,x8,x9,x11,x69=>if x69=true then (some false) else ((zm.f k x11 1).bind fun bt509=>((zh.f k bt509.2 1).bind fun t511=>(if t511 < 0 then (some false) else (if t511=bt509.1 then ((zc.f k x1).bind fun t512=>((qy.f k x0 t512 x2).bind fun bt515=>((zk.f k bt515.1 x8).bind fun t519=>(if t519=true then (laws_FnExactSurfaceLine.j2 k bt509.2 bt509.1 (bt515.2 !=x9)) else (laws_FnExactSurfaceLine.j2 k bt509.2 bt509.1 true))))) else (some false)))))
def laws_FnExactSurfaceLine.j2 :Nat→List Int→Int→Bool→Option (Bool)
 | 0,_,_,_=>none
 | k+1,x11,x14,x97=>if x97=true then (some false) else ((zh.f k x11 1).bind fun t520=>(if t520 < 0 then (some false) else (if t520=x14 then (some true) else (some false))))
end
def laws_FnExactSurfaceLine.f (k:Nat) (a0:Int) (l1:List (S76)) (a2:Int):Option (Bool):=(Zg.f l1 1048576).bind fun t486=>(if t486 < 0 then (some true) else ((zc.f k l1).bind fun t487=>((q7.f k a0 t487 a2).bind fun bt490=>((zc.f k l1).bind fun t494=>((qy.f k a0 t494 a2).bind fun bt497=>((zk.f k bt497.1 bt490.1).bind fun t501=>(if t501=true then (laws_FnExactSurfaceLine.j0 k a0 l1 a2 bt490.1 bt490.2 t494 bt497.1 bt497.2 (bt497.2 !=bt490.2)) else (laws_FnExactSurfaceLine.j0 k a0 l1 a2 bt490.1 bt490.2 t494 bt497.1 bt497.2 true))))))))
theorem laws_FnExactSurfaceLine.mono_l :∀ k,(∀ y0 y1 y2 y3 y4 y5 y6 y7 y8,LeO (laws_FnExactSurfaceLine.j0 k y0 y1 y2 y3 y4 y5 y6 y7 y8) (laws_FnExactSurfaceLine.j0 (k+1) y0 y1 y2 y3 y4 y5 y6 y7 y8))∧(∀ y0 y1 y2 y3 y4 y5 y6,LeO (laws_FnExactSurfaceLine.j1 k y0 y1 y2 y3 y4 y5 y6) (laws_FnExactSurfaceLine.j1 (k+1) y0 y1 y2 y3 y4 y5 y6))∧(∀ y0 y1 y2,LeO (laws_FnExactSurfaceLine.j2 k y0 y1 y2) (laws_FnExactSurfaceLine.j2 (k+1) y0 y1 y2))
 | 0=>⟨fun _ _ _ _ _ _ _ _ _ r h=>by simp[laws_FnExactSurfaceLine.j0]at h,fun _ _ _ _ _ _ _ r h=>by simp[laws_FnExactSurfaceLine.j1]at h,fun _ _ _ r h=>by simp[laws_FnExactSurfaceLine.j2]at h⟩
 | k+1=>by
  obtain⟨ih0,ih1,ih2⟩:=laws_FnExactSurfaceLine.mono_l k
  refine⟨?_,?_,?_⟩
  ·intro y0 y1 y2 y3 y4 y5 y6 y7 y8
   unfold laws_FnExactSurfaceLine.j0
   repeat' first | (with_reducible first | apply ih0 | apply ih1 | apply ih2 | apply qy.mono | apply zk.mono | apply q8.mono | apply zh.mono | apply zm.mono | apply zc.mono | apply q7.mono | exact LeO.refl _ | exact LeO.none _ | refine LeO.ite ?_ ?_ | refine LeO.bind ?_ (fun _=>?_)) | (first | apply ih0 | apply ih1 | apply ih2 | apply qy.mono | apply zk.mono | apply q8.mono | apply zh.mono | apply zm.mono | apply zc.mono | apply q7.mono | exact LeO.none _ | refine LeO.ite ?_ ?_ | refine LeO.bind ?_ (fun _=>?_))
  ·intro y0 y1 y2 y3 y4 y5 y6
   unfold laws_FnExactSurfaceLine.j1
   repeat' first | (with_reducible first | apply ih0 | apply ih1 | apply ih2 | apply qy.mono | apply zk.mono | apply q8.mono | apply zh.mono | apply zm.mono | apply zc.mono | apply q7.mono | exact LeO.refl _ | exact LeO.none _ | refine LeO.ite ?_ ?_ | refine LeO.bind ?_ (fun _=>?_)) | (first | apply ih0 | apply ih1 | apply ih2 | apply qy.mono | apply zk.mono | apply q8.mono | apply zh.mono | apply zm.mono | apply zc.mono | apply q7.mono | exact LeO.none _ | refine LeO.ite ?_ ?_ | refine LeO.bind ?_ (fun _=>?_))
  ·intro y0 y1 y2
   unfold laws_FnExactSurfaceLine.j2
   repeat' first | (with_reducible first | apply ih0 | apply ih1 | apply ih2 | apply qy.mono | apply zk.mono | apply q8.mono | apply zh.mono | apply zm.mono | apply zc.mono | apply q7.mono | exact LeO.refl _ | exact LeO.none _ | refine LeO.ite ?_ ?_ | refine LeO.bind ?_ (fun _=>?_)) | (first | apply ih0 | apply ih1 | apply ih2 | apply qy.mono | apply zk.mono | apply q8.mono | apply zh.mono | apply zm.mono | apply zc.mono | apply q7.mono | exact LeO.none _ | refine LeO.ite ?_ ?_ | refine LeO.bind ?_ (fun _=>?_))
theorem laws_FnExactSurfaceLine.mono :∀ a0 a1 a2 k,LeO (laws_FnExactSurfaceLine.f k a0 a1 a2) (laws_FnExactSurfaceLine.f (k+1) a0 a1 a2):=by
 intro a0 a1 a2 k
 obtain⟨ih0,ih1,ih2⟩:=laws_FnExactSurfaceLine.mono_l k
 unfold laws_FnExactSurfaceLine.f
 repeat' first | (with_reducible first | apply ih0 | apply ih1 | apply ih2 | apply qy.mono | apply zk.mono | apply q8.mono | apply zh.mono | apply zm.mono | apply zc.mono | apply q7.mono | exact LeO.refl _ | exact LeO.none _ | refine LeO.ite ?_ ?_ | refine LeO.bind ?_ (fun _=>?_)) | (first | apply ih0 | apply ih1 | apply ih2 | apply qy.mono | apply zk.mono | apply q8.mono | apply zh.mono | apply zm.mono | apply zc.mono | apply q7.mono | exact LeO.none _ | refine LeO.ite ?_ ?_ | refine LeO.bind ?_ (fun _=>?_))
theorem laws_FnExactSurfaceLine.calls (k:Nat) (a0:Int) (A1:Option Addr) (c1:Nat) (l1:List (S76)) (a2:Int) (r:Bool) (w:World) (hr1:Kd.C k76 w A1 l1.length l1) (hc1:l1.length≤c1) (hT:r=true) (h:laws_FnExactSurfaceLine.f k a0 l1 a2=some r):
  Calls Try.prog 10 #[.int .i64 a0,.slice A1 l1.length c1,.int .i64 a2] w fun e w'=>e=.returned (.bool r)∧Below w.heap.size w w':=by
 have HT:=am hT
 clear hT
 have HR1:=am hr1
 have HC1:=am hc1
 clear hr1 hc1
 have HB:=am (Below.refl w.heap.size w)
 have H:((Zg.f l1 1048576).bind fun t486=>(if t486 < 0 then (some true) else ((zc.f k l1).bind fun t487=>((q7.f k a0 t487 a2).bind fun bt490=>((zc.f k l1).bind fun t494=>((qy.f k a0 t494 a2).bind fun bt497=>((zk.f k bt497.1 bt490.1).bind fun t501=>(if t501=true then (laws_FnExactSurfaceLine.j0 k a0 l1 a2 bt490.1 bt490.2 t494 bt497.1 bt497.2 (bt497.2 !=bt490.2)) else (laws_FnExactSurfaceLine.j0 k a0 l1 a2 bt490.1 bt490.2 t494 bt497.1 bt497.2 true)))))))))=some r:=h
 clear h;replace H:=bs H;obtain⟨t486,A4,H⟩:=H
 by_cases c5:t486 < 0
 ·rw[if_pos c5]at H
  have c5b0:=decide_eq_true c5;clear c5;obtain rfl:=Option.some.inj H
  go_enter Try.func10,Try.ntmps10
  go_wp2_with (first | ((with_reducible refine qt (f:=19) rfl ?_);refine gl 20 Try.func19 #[.slice A1 l1.length c1,.int .i64 1048576] ?_;(with_reducible refine(Zg.calls _ _ l1 1048576 t486 _ ?_ ?_ A4.out).mono ?_);exact wC HR1;exact HC1.out;rintro e w' ⟨rfl,⟨nd,rfl⟩⟩;refine⟨_,rfl,?_⟩))
  go_ret
  exact⟨fq,bw HB⟩
 ·rw [if_neg c5] at H
  have c5b0:=decide_eq_false c5;clear c5;replace H:=bs H;obtain⟨t487,A6,H⟩:=H;replace H:=bs H
  obtain⟨⟨t490,t491⟩,A7,H⟩:=H
  dsimp only at H
  replace H:=bs H;obtain⟨t494,A8,H⟩:=H;replace H:=bs H
  obtain⟨⟨t497,t498⟩,A9,H⟩:=H
  dsimp only at H
  have HC10:=am H
  clear H
  go_enter Try.func10,Try.ntmps10
  go_upto_region 8 with (first | ((with_reducible refine qt (f:=19) rfl ?_);refine gl 20 Try.func19 #[.slice A1 l1.length c1,.int .i64 1048576] ?_;(with_reducible refine(Zg.calls _ _ l1 1048576 t486 _ ?_ ?_ A4.out).mono ?_);exact wC HR1;exact HC1.out;rintro e w' ⟨rfl,⟨nd,rfl⟩⟩;refine⟨_,rfl,?_⟩) | ((with_reducible refine qt (f:=21) rfl ?_);refine gl 26 Try.func21 #[.slice A1 l1.length c1] ?_;(with_reducible refine(zc.calls k _ _ l1 t487 _ ?_ ?_ A6.out).mono ?_);exact wC HR1;exact HC1.out;rintro e w11 ⟨v488,rfl,ho0,hb⟩;refine⟨_,rfl,?_⟩;have HO489:=am (Kd.R_lower ho0 (bz HB));replace HB:=bq HB hb;(try clear hb);(try clear ho0);obtain⟨Ao12,co12,eo12⟩:=Kd.R_slice HO489.out;subst eo12) | ((with_reducible refine qt (f:=42) rfl ?_);refine gl 28 Try.func42 #[.int .i64 a0,.slice Ao12 t487.length co12,.int .i64 a2] ?_;(with_reducible refine(q7.calls k a0 _ _ t487 a2 t490 t491 _ ?_ ?_ A7.out).mono ?_);exact Kd.C_below (Kd.R_reads' HO489.out).2.2 gs;exact(Kd.R_reads' HO489.out).2.1;rintro e w13 ⟨v492,rfl,ho0,hb⟩;refine⟨_,rfl,?_⟩;replace HO489:=am (Kd.R_below (wR HO489) hb);have HO493:=am (Kd.R_lower ho0 (bz HB));replace HB:=bq HB hb;(try clear hb);(try clear ho0)) | ((with_reducible refine qt (f:=21) rfl ?_);refine gl 32 Try.func21 #[.slice A1 l1.length c1] ?_;(with_reducible refine(zc.calls k _ _ l1 t494 _ ?_ ?_ A8.out).mono ?_);exact Kd.C_below HR1.out (bw HB);exact HC1.out;rintro e w14 ⟨v495,rfl,ho0,hb⟩;refine⟨_,rfl,?_⟩;replace HO493:=am (Kd.R_below (wR HO493) hb);have HO496:=am (Kd.R_lower (Kd.R_new' ho0 (Kd.R_lt (wR HO489))) (bz HB));replace HO489:=eR HO489 (Kd.R_base ho0) hb;replace HB:=bq HB hb;(try clear hb);(try clear ho0);obtain⟨Ao15,co15,eo15⟩:=Kd.R_slice HO496.out;subst eo15) | ((with_reducible refine qt (f:=43) rfl ?_);refine gl 37 Try.func43 #[.int .i64 a0,.slice Ao15 t494.length co15,.int .i64 a2] ?_;(with_reducible refine(qy.calls k a0 _ _ t494 a2 t497 t498 _ ?_ ?_ A9.out).mono ?_);exact Kd.C_below (Kd.R_reads' HO496.out).2.2 gs;exact(Kd.R_reads' HO496.out).2.1;rintro e w16 ⟨v499,rfl,ho0,hb⟩;refine⟨_,rfl,?_⟩;replace HO489:=am (Kd.R_below (wR HO489) hb);replace HO496:=am (Kd.R_below (wR HO496) hb);have HO500:=am (Kd.R_lower (Kd.R_new' ho0 (Kd.R_lt (wR HO493))) (bz HB));replace HO493:=eR HO493 (Kd.R_base ho0) hb;replace HB:=bq HB hb;(try clear hb);(try clear ho0)))
  (try simp only[Act.put,List.setIfInBounds_toArray,List.set_cons_zero,List.set_cons_succ])
  go_cut [48] (fun v48 wc=>∃ (kq:Nat) (x48_9:Bool),v48=.bool x48_9∧qf (laws_FnExactSurfaceLine.j0 kq a0 l1 a2 t490 t491 t494 t497 t498 x48_9=some r)∧qf (kq≤k)∧qf (Kd.R (Kd.int .i64) 3 wc w.heap.size (fun k_=>some k_≠(v499:Value).ownBlock) v492 t490)∧qf (Kd.R k43 43 wc w.heap.size (fun _=>True) (.slice Ao15 t494.length co15) t494)∧qf (Kd.R (Kd.int .i64) 3 wc w.heap.size (fun k_=>some k_≠(v492:Value).ownBlock) v499 t497)∧qf (Below w.heap.size w wc))
  case first=>
   have H:=HC10.out
   clear HC10;replace H:=bs H;obtain⟨t501,A17,H⟩:=H
   by_cases c18:t501=true
   ·subst c18
    rw[if_pos rfl]at H
    have H':=am H;clear H
    obtain⟨Ao19,co19,eo19⟩:=Kd.R_slice HO500.out
    subst eo19
    obtain⟨Ao20,co20,eo20⟩:=Kd.R_slice HO493.out
    subst eo20
    go_wp2_with (first | ((with_reducible refine qt (f:=23) rfl ?_);refine gl 42 Try.func23 #[.slice Ao19 t497.length co19,.slice Ao20 t490.length co20] ?_;(with_reducible refine(zk.calls k _ _ t497 _ _ t490 true _ ?_ ?_ ?_ ?_ A17.out).mono ?_);exact Kd.C_below (Kd.R_reads' HO500.out).2.2 gs;exact(Kd.R_reads' HO500.out).2.1;exact Kd.C_below (Kd.R_reads' HO493.out).2.2 gs;exact(Kd.R_reads' HO493.out).2.1;rintro e w' ⟨rfl,⟨nd,rfl⟩⟩;refine⟨_,rfl,?_⟩))
    go_meet
    case rel=>exact⟨_,((t498 !=t491)),fr,H',⟨by first | omega | exact Nat.le_refl _⟩,⟨Kd.R_below (Kd.R_mono HO493.out (fun _ hk=>hk.2)) gs⟩,⟨Kd.R_below (Kd.R_mono HO496.out (fun _ hk=>trivial)) gs⟩,⟨Kd.R_below (Kd.R_mono HO500.out (fun _ hk=>hk.2)) gs⟩,⟨bw HB⟩⟩
   ·replace c18:=Bool.eq_false_iff.mpr c18
    subst c18
    rw[if_neg (show ¬ (false=true) by decide)]at H
    have H':=am H;clear H
    obtain⟨Ao21,co21,eo21⟩:=Kd.R_slice HO500.out
    subst eo21
    obtain⟨Ao22,co22,eo22⟩:=Kd.R_slice HO493.out
    subst eo22
    go_wp2_with (first | ((with_reducible refine qt (f:=23) rfl ?_);refine gl 42 Try.func23 #[.slice Ao21 t497.length co21,.slice Ao22 t490.length co22] ?_;(with_reducible refine(zk.calls k _ _ t497 _ _ t490 false _ ?_ ?_ ?_ ?_ A17.out).mono ?_);exact Kd.C_below (Kd.R_reads' HO500.out).2.2 gs;exact(Kd.R_reads' HO500.out).2.1;exact Kd.C_below (Kd.R_reads' HO493.out).2.2 gs;exact(Kd.R_reads' HO493.out).2.1;rintro e w' ⟨rfl,⟨nd,rfl⟩⟩;refine⟨_,rfl,?_⟩))
    go_meet
    case rel=>exact⟨_,(true),fr,H',⟨by first | omega | exact Nat.le_refl _⟩,⟨Kd.R_below (Kd.R_mono HO493.out (fun _ hk=>hk.2)) gs⟩,⟨Kd.R_below (Kd.R_mono HO496.out (fun _ hk=>trivial)) gs⟩,⟨Kd.R_below (Kd.R_mono HO500.out (fun _ hk=>hk.2)) gs⟩,⟨bw HB⟩⟩
  case rest =>
   clear HC10;try clear c1;try clear c2;try clear p2;try clear c4;try clear c5;try clear c5b0;try clear c10;try clear c18;try clear c19;try clear c21
   obtain⟨kq,x48_9,rfl,HA,HJ9,HO_8,HO_10,HO_11,HB⟩:=hcut
   cases kq with
   | zero=>exact absurd HA.out (by simp[laws_FnExactSurfaceLine.j0])
   | succ kj9 =>
    have H:=HA.out;clear HA
    simp only[laws_FnExactSurfaceLine.j0]at H
    by_cases c23:x48_9=true
    ·subst c23
     rw[if_pos rfl]at H
     exact absurd (H.trans (congrArg some HT.out)) (by simp)
    ·replace c23:=Bool.eq_false_iff.mpr c23
     subst c23
     rw[if_neg (show ¬ (false=true) by decide)]at H
     replace H:=bs H;obtain⟨t502,A24,H⟩:=H;replace H:=bs H;obtain⟨t505,A25,H⟩:=H
     by_cases c26:t505=true
     ·subst c26
      rw[if_pos rfl]at H
      replace H:=bs H
      obtain⟨⟨t506,t507⟩,A27,H⟩:=H
      dsimp only at H
      have HC28:=am H
      clear H
      go_upto_region 14 with (first | ((with_reducible refine qt (f:=21) rfl ?_);refine gl 51 Try.func21 #[.slice A1 l1.length c1] ?_;(with_reducible refine(zc.calls kj9 _ _ l1 t502 _ ?_ ?_ A24.out).mono ?_);exact Kd.C_below HR1.out (bw HB);exact HC1.out;rintro e w29 ⟨v503,rfl,ho0,hb⟩;refine⟨_,rfl,?_⟩;replace HO_8:=am (Kd.R_below (wR HO_8) hb);replace HO_11:=am (Kd.R_below (wR HO_11) hb);have HO504:=am (Kd.R_lower (Kd.R_new' ho0 (Kd.R_lt (wR HO_10))) (bz HB));replace HO_10:=eR HO_10 (Kd.R_base ho0) hb;replace HB:=bq HB hb;(try clear hb);(try clear ho0);obtain⟨Ao30,co30,eo30⟩:=Kd.R_slice HO504.out;subst eo30) | ((with_reducible refine qt (f:=24) rfl ?_);refine gl 52 Try.func24 #[.slice Ao15 t494.length co15,.slice Ao30 t502.length co30] ?_;(with_reducible refine(q8.calls kj9 _ _ t494 _ _ t502 true _ ?_ ?_ ?_ ?_ A25.out).mono ?_);exact Kd.C_below (Kd.R_reads' HO_10.out).2.2 gs;exact(Kd.R_reads' HO_10.out).2.1;exact Kd.C_below (Kd.R_reads' HO504.out).2.2 gs;exact(Kd.R_reads' HO504.out).2.1;rintro e w31 ⟨rfl,hb⟩;refine⟨_,rfl,?_⟩;replace HO_8:=am (Kd.R_below (wR HO_8) hb);replace HO_10:=am (Kd.R_below (wR HO_10) hb);replace HO_11:=am (Kd.R_below (wR HO_11) hb);replace HO504:=am (Kd.R_below (wR HO504) hb);replace HB:=bq HB hb;(try clear hb)) | ((with_reducible refine qt (f:=25) rfl ?_);refine gl 56 Try.func25 #[.slice Ao15 t494.length co15,.int .i64 1] ?_;(with_reducible refine(Zb.calls (fun k_=>some k_=(.slice Ao15 t494.length co15:Value).ownBlock) (.slice Ao15 t494.length co15) t494 1 t506 t507 w _ ?_ ?_ A27.out).mono ?_);(· repeat (first | (with_reducible first | exact HB.out | apply jx | apply Ql | apply Qg) | exact HB.out));exact Kd.R_tight rfl HO_10.out;rintro e w32 ⟨rfl,hy0,hb,hkp⟩;refine⟨_,rfl,?_⟩;replace HO_8:=am (Kd.R_mono (ok':=fun k_=>some k_≠(v499:Value).ownBlock) (Kd.R_keptB ((Kd.R_apart' HO_8.out (Kd.R_typed HO_10.out) (by decide))) hkp (fun k_ hk_ hs_=>(hk_.2) hs_)) (fun k_ hk_=>hk_.1.1));replace HO_11:=am (Kd.R_mono (ok':=fun k_=>some k_≠(v492:Value).ownBlock) (Kd.R_keptB ((Kd.R_apart' HO_11.out (Kd.R_typed HO_10.out) (by decide))) hkp (fun k_ hk_ hs_=>(hk_.2) hs_)) (fun k_ hk_=>hk_.1.1));replace HO_10:=am (Kd.R_reok rfl hy0 (fun k_ e_=>HO_10.out.1 k_ e_));replace HO504:=am (Kd.R_mono (ok':=fun k_=>some k_≠(.slice Ao15 t494.length co15:Value).ownBlock) (Kd.R_keptB (HO504.out) hkp (fun k_ hk_ hs_=>(hk_.2) hs_)) (fun k_ hk_=>hk_.1.2));replace HB:=am (hb);(try clear hb);(try clear hkp);(try clear hy0)))
      (try simp only[Act.put,List.setIfInBounds_toArray,List.set_cons_zero,List.set_cons_succ])
      go_cut [69] (fun v69 wc=>∃ (kq:Nat) (x69_27:Bool),v69=.bool x69_27∧qf (laws_FnExactSurfaceLine.j1 kq a0 l1 a2 t490 t491 t497 x69_27=some r)∧qf (kq≤kj9)∧qf (Kd.R (Kd.int .i64) 3 wc w.heap.size (fun k_=>some k_≠(v499:Value).ownBlock) v492 t490)∧qf (Kd.R (Kd.int .i64) 3 wc w.heap.size (fun k_=>some k_≠(v492:Value).ownBlock) v499 t497)∧qf (Below w.heap.size w wc))
      case first=>
       have H:=HC28.out
       clear HC28
       by_cases c33:t506 < 0
       ·rw[if_pos c33]at H
        have c33b0:=decide_eq_true c33;clear c33
        (first | rw[c33b0] | (simp only[qbs,qbv];rw[c33b0]) | skip)
        have H':=am H;clear H;go_wp2
        go_meet
        case rel=>exact⟨_,(true),fr,H',⟨by have:=HJ9.out;first | omega | exact Nat.le_refl _⟩,⟨wR HO_8⟩,⟨wR HO_11⟩,⟨bw HB⟩⟩
       ·rw[if_neg c33]at H
        have c33b0:=decide_eq_false c33;clear c33
        (first | rw[c33b0] | (simp only[qbs,qbv];rw[c33b0]) | skip)
        replace H:=bs H;obtain⟨t508,A34,H⟩:=H
        by_cases c35:t508=true
        ·subst c35
         rw[if_pos rfl]at H
         have H':=am H;clear H
         obtain⟨Ao36,co36,eo36⟩:=Kd.R_slice HO_11.out
         subst eo36
         obtain⟨Ao37,co37,eo37⟩:=Kd.R_slice HO_8.out
         subst eo37
         go_wp2_with (first | (go_at_call 23;(with_reducible refine(zk.calls kj9 _ _ t497 _ _ t490 true _ ?_ ?_ ?_ ?_ A34.out).mono ?_);exact Kd.C_below (Kd.R_reads' HO_11.out).2.2 gs;exact(Kd.R_reads' HO_11.out).2.1;exact Kd.C_below (Kd.R_reads' HO_8.out).2.2 gs;exact(Kd.R_reads' HO_8.out).2.1;rintro e w' ⟨rfl,⟨nd,rfl⟩⟩))
         go_meet
         case rel=>exact⟨_,((t498 !=t491)),fr,H',⟨by have:=HJ9.out;first | omega | exact Nat.le_refl _⟩,⟨wR HO_8⟩,⟨wR HO_11⟩,⟨bw HB⟩⟩
        ·replace c35:=Bool.eq_false_iff.mpr c35
         subst c35
         rw[if_neg (show ¬ (false=true) by decide)]at H
         have H':=am H;clear H
         obtain⟨Ao38,co38,eo38⟩:=Kd.R_slice HO_11.out
         subst eo38
         obtain⟨Ao39,co39,eo39⟩:=Kd.R_slice HO_8.out
         subst eo39
         go_wp2_with (first | (go_at_call 23;(with_reducible refine(zk.calls kj9 _ _ t497 _ _ t490 false _ ?_ ?_ ?_ ?_ A34.out).mono ?_);exact Kd.C_below (Kd.R_reads' HO_11.out).2.2 gs;exact(Kd.R_reads' HO_11.out).2.1;exact Kd.C_below (Kd.R_reads' HO_8.out).2.2 gs;exact(Kd.R_reads' HO_8.out).2.1;rintro e w' ⟨rfl,⟨nd,rfl⟩⟩))
         go_meet
         case rel=>exact⟨_,(true),fr,H',⟨by have:=HJ9.out;first | omega | exact Nat.le_refl _⟩,⟨wR HO_8⟩,⟨wR HO_11⟩,⟨bw HB⟩⟩
      case rest =>
       clear HC28;try clear c1;try clear c2;try clear p2;try clear c3;try clear c4;try clear c5;try clear c5b0;try clear c10;try clear c18;try clear c19;try clear c21;try clear c23;try clear c24;try clear c25;try clear c26;try clear c33
       try clear c33b0;try clear c35;try clear p2
       obtain⟨kq,x69_27,rfl,HA,HJ27,HO_8,HO_11,HB⟩:=hcut
       cases kq with
       | zero=>exact absurd HA.out (by simp[laws_FnExactSurfaceLine.j1])
       | succ kj27=>
        have H:=HA.out;clear HA
        simp only[laws_FnExactSurfaceLine.j1]at H
        by_cases c40:x69_27=true
        ·subst c40
         rw[if_pos rfl]at H
         exact absurd (H.trans (congrArg some HT.out)) (by simp)
        ·replace c40:=Bool.eq_false_iff.mpr c40
         subst c40
         rw[if_neg (show ¬ (false=true) by decide)]at H
         replace H:=bs H
         obtain⟨⟨t509,t510⟩,A41,H⟩:=H
         dsimp only at H
         replace H:=bs H;obtain⟨t511,A42,H⟩:=H
         by_cases c43:t511 < 0
         ·rw[if_pos c43]at H
          have c43b0:=decide_eq_true c43;clear c43
          exact absurd (H.trans (congrArg some HT.out)) (by simp)
         ·rw [if_neg c43] at H
          have c43b0:=decide_eq_false c43;clear c43
          by_cases c44:t511=t509
          ·rw [if_pos c44] at H
           have c44b0:=beq_iff_eq.mpr c44;have c44b1:=bne_eq_false_iff_eq.mpr c44;clear c44;replace H:=bs H;obtain⟨t512,A45,H⟩:=H;replace H:=bs H
           obtain⟨⟨t515,t516⟩,A46,H⟩:=H
           dsimp only at H
           have HC47:=am H
           clear H
           obtain⟨Ao48,co48,eo48⟩:=Kd.R_slice HO_11.out
           subst eo48
           go_upto_region 25 with (first | ((with_reducible refine qt (f:=26) rfl ?_);refine gl 72 Try.func26 #[.slice Ao48 t497.length co48,.int .i64 1] ?_;(with_reducible refine(zm.calls kj27 (fun k_=>some k_=(.slice Ao48 t497.length co48:Value).ownBlock) (.slice Ao48 t497.length co48) t497 1 t509 t510 w _ ?_ ?_ A41.out).mono ?_);(· repeat (first | (with_reducible first | exact HB.out | apply jx | apply Ql | apply Qg) | exact HB.out));exact Kd.R_tight rfl HO_11.out;rintro e w49 ⟨rfl,hy0,hb,hkp⟩;refine⟨_,rfl,?_⟩;replace HO_8:=am (Kd.R_mono (ok':=fun k_=>some k_≠(.slice Ao48 t497.length co48:Value).ownBlock) (Kd.R_keptB (HO_8.out) hkp (fun k_ hk_ hs_=>(hk_) hs_)) (fun k_ hk_=>hk_.1));replace HO_11:=am (Kd.R_reok rfl hy0 (fun k_ e_=>HO_11.out.1 k_ e_));replace HB:=am (hb);(try clear hb);(try clear hkp);(try clear hy0)) | ((with_reducible refine qt (f:=27) rfl ?_);refine gl 75 Try.func27 #[.slice Ao48 t510.length co48,.int .i64 1] ?_ (hargs:=by (try simp only[List.map_toArray,List.map_cons,List.map_nil]);first | done | (rw[show t510.length=t497.length from (Kd.R_reads' HO_11.out).1.symm]<;>rfl) | rfl | (simp only[List.length_drop,List.length_take];rfl));(with_reducible refine(zh.calls kj27 _ _ t510 1 t511 _ ?_ ?_ A42.out).mono ?_);exact Kd.C_below (Kd.R_reads' HO_11.out).2.2 gs;(· rw[show t510.length=t497.length from (Kd.R_reads' HO_11.out).1.symm];exact(Kd.R_reads' HO_11.out).2.1);rintro e w' ⟨rfl,⟨nd,rfl⟩⟩;refine⟨_,rfl,?_⟩) | ((with_reducible refine qt (f:=21) rfl ?_);refine gl 84 Try.func21 #[.slice A1 l1.length c1] ?_;(with_reducible refine(zc.calls kj27 _ _ l1 t512 _ ?_ ?_ A45.out).mono ?_);exact Kd.C_below HR1.out (bw HB);exact HC1.out;rintro e w50 ⟨v513,rfl,ho0,hb⟩;refine⟨_,rfl,?_⟩;replace HO_8:=am (Kd.R_below (wR HO_8) hb);replace HO_11:=am (Kd.R_below (wR HO_11) hb);have HO514:=am (Kd.R_lower ho0 (bz HB));replace HB:=bq HB hb;(try clear hb);(try clear ho0);obtain⟨Ao51,co51,eo51⟩:=Kd.R_slice HO514.out;subst eo51) | ((with_reducible refine qt (f:=43) rfl ?_);refine gl 86 Try.func43 #[.int .i64 a0,.slice Ao51 t512.length co51,.int .i64 a2] ?_;(with_reducible refine(qy.calls kj27 a0 _ _ t512 a2 t515 t516 _ ?_ ?_ A46.out).mono ?_);exact Kd.C_below (Kd.R_reads' HO514.out).2.2 gs;exact(Kd.R_reads' HO514.out).2.1;rintro e w52 ⟨v517,rfl,ho0,hb⟩;refine⟨_,rfl,?_⟩;replace HO514:=am (Kd.R_below (wR HO514) hb);have HO518:=am (Kd.R_lower (Kd.R_new' (Kd.R_new' ho0 (Kd.R_lt (wR HO_8))) (Kd.R_lt (wR HO_11))) (bz HB));replace HO_8:=eR HO_8 (Kd.R_base ho0) hb;replace HO_11:=eR HO_11 (Kd.R_base ho0) hb;replace HB:=bq HB hb;(try clear hb);(try clear ho0)))
           (try simp only[Act.put,List.setIfInBounds_toArray,List.set_cons_zero,List.set_cons_succ])
           go_cut [97] (fun v97 wc=>∃ (kq:Nat) (x97_46:Bool),v97=.bool x97_46∧qf (laws_FnExactSurfaceLine.j2 kq t510 t509 x97_46=some r)∧qf (kq≤kj27)∧qf (Kd.R (Kd.int .i64) 3 wc w.heap.size (fun _=>True) (.slice Ao48 t497.length co48) t510)∧qf (Below w.heap.size w wc))
           case first=>
            have H:=HC47.out
            clear HC47;replace H:=bs H;obtain⟨t519,A53,H⟩:=H
            by_cases c54:t519=true
            ·subst c54
             rw[if_pos rfl]at H
             have H':=am H;clear H
             obtain⟨Ao55,co55,eo55⟩:=Kd.R_slice HO518.out
             subst eo55
             obtain⟨Ao56,co56,eo56⟩:=Kd.R_slice HO_8.out
             subst eo56
             go_wp2_with (first | ((with_reducible refine qt (f:=23) rfl ?_);refine gl 91 Try.func23 #[.slice Ao55 t515.length co55,.slice Ao56 t490.length co56] ?_;(with_reducible refine(zk.calls kj27 _ _ t515 _ _ t490 true _ ?_ ?_ ?_ ?_ A53.out).mono ?_);exact Kd.C_below (Kd.R_reads' HO518.out).2.2 gs;exact(Kd.R_reads' HO518.out).2.1;exact Kd.C_below (Kd.R_reads' HO_8.out).2.2 gs;exact(Kd.R_reads' HO_8.out).2.1;rintro e w' ⟨rfl,⟨nd,rfl⟩⟩;refine⟨_,rfl,?_⟩))
             go_meet
             case rel=>exact⟨_,((t516 !=t491)),fr,H',⟨by have:=HJ9.out;have:=HJ27.out;first | omega | exact Nat.le_refl _⟩,⟨Kd.R_below (Kd.R_mono HO_11.out (fun _ hk=>trivial)) gs⟩,⟨bw HB⟩⟩
            ·replace c54:=Bool.eq_false_iff.mpr c54
             subst c54
             rw[if_neg (show ¬ (false=true) by decide)]at H
             have H':=am H;clear H
             obtain⟨Ao57,co57,eo57⟩:=Kd.R_slice HO518.out
             subst eo57
             obtain⟨Ao58,co58,eo58⟩:=Kd.R_slice HO_8.out
             subst eo58
             go_wp2_with (first | ((with_reducible refine qt (f:=23) rfl ?_);refine gl 91 Try.func23 #[.slice Ao57 t515.length co57,.slice Ao58 t490.length co58] ?_;(with_reducible refine(zk.calls kj27 _ _ t515 _ _ t490 false _ ?_ ?_ ?_ ?_ A53.out).mono ?_);exact Kd.C_below (Kd.R_reads' HO518.out).2.2 gs;exact(Kd.R_reads' HO518.out).2.1;exact Kd.C_below (Kd.R_reads' HO_8.out).2.2 gs;exact(Kd.R_reads' HO_8.out).2.1;rintro e w' ⟨rfl,⟨nd,rfl⟩⟩;refine⟨_,rfl,?_⟩))
             go_meet
             case rel=>exact⟨_,(true),fr,H',⟨by have:=HJ9.out;have:=HJ27.out;first | omega | exact Nat.le_refl _⟩,⟨Kd.R_below (Kd.R_mono HO_11.out (fun _ hk=>trivial)) gs⟩,⟨bw HB⟩⟩
           case rest=>
            clear HC47;try clear c1;try clear c2;try clear p2;try clear c3;try clear c4;try clear c5;try clear c5b0;try clear c10;try clear c18;try clear c19;try clear c21;try clear c23;try clear c24;try clear c25;try clear c26;try clear c27
            try clear c33;try clear c33b0;try clear c35;try clear c40;try clear c42;try clear c43;try clear c43b0;try clear c44;try clear c44b0;try clear c44b1;try clear c54;try clear p2
            obtain⟨kq,x97_46,rfl,HA,HJ46,HO_11,HB⟩:=hcut
            have hl11_46:=(Kd.R_reads' HO_11.out).1
            rw[hl11_46]at HO_11
            (try simp only[hl11_46])
            cases kq with
            | zero=>exact absurd HA.out (by simp[laws_FnExactSurfaceLine.j2])
            | succ kj46=>
             have H:=HA.out;clear HA
             simp only[laws_FnExactSurfaceLine.j2]at H
             by_cases c59:x97_46=true
             ·subst c59
              rw[if_pos rfl]at H
              exact absurd (H.trans (congrArg some HT.out)) (by simp)
             ·replace c59:=Bool.eq_false_iff.mpr c59
              subst c59
              rw[if_neg (show ¬ (false=true) by decide)]at H
              replace H:=bs H;obtain⟨t520,A60,H⟩:=H
              by_cases c61:t520 < 0
              ·rw[if_pos c61]at H
               have c61b0:=decide_eq_true c61;clear c61
               exact absurd (H.trans (congrArg some HT.out)) (by simp)
              ·rw[if_neg c61]at H
               have c61b0:=decide_eq_false c61;clear c61
               by_cases c62:t520=t509
               ·rw[if_pos c62]at H
                have c62b0:=beq_iff_eq.mpr c62;have c62b1:=bne_eq_false_iff_eq.mpr c62;clear c62;obtain rfl:=Option.some.inj H
                go_wp2_with (first | ((with_reducible refine qt (f:=27) rfl ?_);refine gl 100 Try.func27 #[.slice Ao48 t510.length co48,.int .i64 1] ?_;(with_reducible refine(zh.calls kj46 _ _ t510 1 t520 _ ?_ ?_ A60.out).mono ?_);exact Kd.C_below (Kd.R_reads' HO_11.out).2.2 gs;exact(Kd.R_reads' HO_11.out).2.1;rintro e w' ⟨rfl,⟨nd,rfl⟩⟩;refine⟨_,rfl,?_⟩))
                go_ret
                exact⟨fq,bw HB⟩
               ·rw[if_neg c62]at H
                have c62b0:=beq_eq_false_iff_ne.mpr c62;have c62b1:=bne_iff_ne.mpr c62
                exact absurd (H.trans (congrArg some HT.out)) (by simp)
          ·rw[if_neg c44]at H
           have c44b0:=beq_eq_false_iff_ne.mpr c44;have c44b1:=bne_iff_ne.mpr c44
           exact absurd (H.trans (congrArg some HT.out)) (by simp)
     ·replace c26:=Bool.eq_false_iff.mpr c26
      subst c26
      rw[if_neg (show ¬ (false=true) by decide)]at H
      exact absurd (H.trans (congrArg some HT.out)) (by simp)
end Go.Proofs.Ytmgbpmihbljngaa.PA
