-- Written by xprint.py, a program of this claim's own (over the kit's print.py)
import Derived.Test.YtmgbpmihbljngaaPAx16
namespace Go.Proofs.Ytmgbpmihbljngaa.PA
set_option maxHeartbeats 8000000
set_option maxRecDepth 100000
open Go.RowKit Go.Proofs.YtmgbpmihbljngaaW.PrintWords Go.Proofs.YtmgbpmihbljngaaW.PrintLast Go.Proofs.YtmgbpmihbljngaaW.PrintMore
attribute [local go_sem] Qg Qj Qp Qo j4 j3 Qh Qf
set_option linter.unusedVariables false
set_option linter.unusedSimpArgs false
mutual
def q8.l0 :Nat→List Int→Int→Option (List Int×Bool)
 | 0,_,_=>none
 | k+1,x4,x5=>if x5 < 4 then (q8.l1 k x4 x5 x5) else (some (x4,true))
def q8.l1 :Nat→List Int→Int→Int→Option (List Int×Bool)
 | 0,_,_,_=>none
 | k+1,x4,x5,x6=>if x6 < 4 then (q8.l2 k x4 x5 x6 x6) else (q8.l0 k x4 (wrap64 (x5+1)))
def q8.l2 :Nat→List Int→Int→Int→Int→Option (List Int×Bool)
 | 0,_,_,_,_=>none
 | k+1,x4,x5,x6,x7=>if x7 < 4 then (if x5=x7 then (if x4.length < 17592186044416 then (q8.l2 k (x4++[1]) x5 x6 (wrap64 (x7+1))) else (none)) else (if x4.length < 17592186044416 then (q8.l2 k (x4++[0]) x5 x6 (wrap64 (x7+1))) else (none))) else (q8.l1 k x4 x5 (wrap64 (x6+1)))
end
def q8.f (k:Nat) (a0:Int):Option (List Int×Bool):=(jd.f a0).bind fun t487=>(if t487=true then (q8.l0 k (([]:List Int)) 0) else (some ((([]:List Int)),false)))
theorem q8.mono_l :∀ k,(∀ y0 y1,LeO (q8.l0 k y0 y1) (q8.l0 (k+1) y0 y1))∧(∀ y0 y1 y2,LeO (q8.l1 k y0 y1 y2) (q8.l1 (k+1) y0 y1 y2))∧(∀ y0 y1 y2 y3,LeO (q8.l2 k y0 y1 y2 y3) (q8.l2 (k+1) y0 y1 y2 y3))
 | 0=>⟨fun _ _ r h=>by simp[q8.l0]at h,fun _ _ _ r h=>by simp[q8.l1]at h,fun _ _ _ _ r h=>by simp[q8.l2]at h⟩
 | k+1=>by
  obtain⟨ih0,ih1,ih2⟩:=q8.mono_l k
  refine⟨?_,?_,?_⟩
  ·intro y0 y1
   unfold q8.l0
   repeat' first | (with_reducible first | apply ih0 | apply ih1 | apply ih2 | exact LeO.refl _ | exact LeO.none _ | refine LeO.ite ?_ ?_ | refine LeO.bind ?_ (fun _=>?_)) | (first | apply ih0 | apply ih1 | apply ih2 | exact LeO.none _ | refine LeO.ite ?_ ?_ | refine LeO.bind ?_ (fun _=>?_))
  ·intro y0 y1 y2
   unfold q8.l1
   repeat' first | (with_reducible first | apply ih0 | apply ih1 | apply ih2 | exact LeO.refl _ | exact LeO.none _ | refine LeO.ite ?_ ?_ | refine LeO.bind ?_ (fun _=>?_)) | (first | apply ih0 | apply ih1 | apply ih2 | exact LeO.none _ | refine LeO.ite ?_ ?_ | refine LeO.bind ?_ (fun _=>?_))
  ·intro y0 y1 y2 y3
   unfold q8.l2
   repeat' first | (with_reducible first | apply ih0 | apply ih1 | apply ih2 | exact LeO.refl _ | exact LeO.none _ | refine LeO.ite ?_ ?_ | refine LeO.bind ?_ (fun _=>?_)) | (first | apply ih0 | apply ih1 | apply ih2 | exact LeO.none _ | refine LeO.ite ?_ ?_ | refine LeO.bind ?_ (fun _=>?_))
theorem q8.mono :∀ a0 k,LeO (q8.f k a0) (q8.f (k+1) a0):=by
 intro a0 k
 obtain⟨ih0,ih1,ih2⟩:=q8.mono_l k
 unfold q8.f
 repeat' first | (with_reducible first | apply ih0 | apply ih1 | apply ih2 | exact LeO.refl _ | exact LeO.none _ | refine LeO.ite ?_ ?_ | refine LeO.bind ?_ (fun _=>?_)) | (first | apply ih0 | apply ih1 | apply ih2 | exact LeO.none _ | refine LeO.ite ?_ ?_ | refine LeO.bind ?_ (fun _=>?_))
theorem q8.calls (k:Nat) (a0:Int) (r1:List Int) (r2:Bool) (w:World) (h:q8.f k a0=some (r1,r2)):
  Calls Try.prog 145 #[.int .i64 a0] w fun e w'=>∃ v0_:Value,e=.returned (.tuple #[v0_,.bool r2])∧Kd.R (Kd.int .i64) 3 w' w.heap.size (fun _=>True) v0_ r1∧Below w.heap.size w w':=by
 have HB:=am (Below.refl w.heap.size w)
 have H:((jd.f a0).bind fun t487=>(if t487=true then (q8.l0 k (([]:List Int)) 0) else (some ((([]:List Int)),false))))=some (r1,r2):=h
 clear h;replace H:=bs H;obtain⟨t487,A2,H⟩:=H
 by_cases c3:t487=true
 ·subst c3
  rw[if_pos rfl]at H
  generalize hy491:(([]:List Int))=y491 at H
  have Ny491:=am hy491.symm;clear hy491;have H':=am H;clear H
  go_enter Try.func145,Try.ntmps145
  go_wp2_with (first | ((with_reducible refine qe (f:=103) rfl ?_);refine gl 9 Try.func103 #[.int .i64 a0] ?_;(with_reducible refine(jd.calls a0 true _ A2.out).mono ?_);rintro e w' ⟨rfl,⟨nd,rfl⟩⟩;refine⟨_,rfl,?_⟩) | ((with_reducible refine q7 (N:=12) rfl ?_);refine li 3 ([]:List Int) ?_;intro v492 w4 ho5 hb;(first | rw[← Ny491.out]at ho5 | (simp only[Int.reduceToNat]at ho5;rw[← Ny491.out]at ho5));have HO493:=am (Kd.R_lower ho5 (bz HB));replace HB:=bq HB hb;clear hb ho5))
  go_loopg [4,5] k (fun kq v4 v5 w'=>∃ (x4_1:List Int) (x5_1:Int),v5=.int .i64 x5_1∧qa (q8.l0 kq x4_1 x5_1=some (r1,r2))∧qa (kq≤k)∧qa (Kd.R (Kd.int .i64) 3 w' w.heap.size (fun _=>True) v4 x4_1)∧qa (Below w.heap.size w w'))
  case atStart=>exact⟨(y491),(0),fr,H',⟨Nat.le_refl _⟩,⟨wR HO493⟩,⟨bw HB⟩⟩
  case round=>
   clear H';try clear c1;try clear p2;try clear c3
   obtain⟨x4_1,x5_1,rfl,HA,HK1,HO_4,HB⟩:=hrel
   cases gk with
   | zero=>exact absurd HA.out (by simp[q8.l0])
   | succ k1=>
    have H:=HA.out;clear HA
    simp only[q8.l0]at H
    by_cases c6:x5_1 < 4
    ·rw [if_pos c6] at H
     have c6b0:=decide_eq_true c6;clear c6;have H':=am H;clear H;go_wp2
     go_loopg [4,6] k1 (fun kq v4 v6 w'=>∃ (x4_2:List Int) (x6_2:Int),v6=.int .i64 x6_2∧qa (q8.l1 kq x4_2 x5_1 x6_2=some (r1,r2))∧qa (kq≤k1)∧qa (Kd.R (Kd.int .i64) 3 w' w.heap.size (fun _=>True) v4 x4_2)∧qa (Below w.heap.size w w'))
     case atStart=>exact⟨(x4_1),(x5_1),fr,H',⟨Nat.le_refl _⟩,⟨wR HO_4⟩,⟨bw HB⟩⟩
     case round=>
      clear H';try clear c1;try clear p2;try clear c3;try clear c6;try clear c6b0;try clear p2
      obtain⟨x4_2,x6_2,rfl,HA,HK2,HO_4,HB⟩:=hrel
      cases gk with
      | zero=>exact absurd HA.out (by simp[q8.l1])
      | succ k2=>
       have H:=HA.out;clear HA
       simp only[q8.l1]at H
       by_cases c7:x6_2 < 4
       ·rw [if_pos c7] at H
        have c7b0:=decide_eq_true c7;clear c7;have H':=am H;clear H;go_wp2
        go_loopg [4,7] k2 (fun kq v4 v7 w'=>∃ (x4_3:List Int) (x7_3:Int),v7=.int .i64 x7_3∧qa (q8.l2 kq x4_3 x5_1 x6_2 x7_3=some (r1,r2))∧qa (kq≤k2)∧qa (Kd.R (Kd.int .i64) 3 w' w.heap.size (fun _=>True) v4 x4_3)∧qa (Below w.heap.size w w'))
        case atStart=>exact⟨(x4_2),(x6_2),fr,H',⟨Nat.le_refl _⟩,⟨wR HO_4⟩,⟨bw HB⟩⟩
        case round=>
         clear H';try clear c1;try clear p2;try clear c3;try clear c6;try clear c6b0;try clear c7;try clear c7b0;try clear p2
         obtain⟨x4_3,x7_3,rfl,HA,HK3,HO_4,HB⟩:=hrel
         cases gk with
         | zero=>exact absurd HA.out (by simp[q8.l2])
         | succ k3=>
          have H:=HA.out;clear HA
          simp only[q8.l2]at H
          by_cases c8:x7_3 < 4
          ·rw[if_pos c8]at H
           have c8b0:=decide_eq_true c8;clear c8
           by_cases c9:x5_1=x7_3
           ·rw[if_pos c9]at H
            have c9b0:=beq_iff_eq.mpr c9;have c9b1:=bne_eq_false_iff_eq.mpr c9;clear c9;replace H:=ifn H;obtain⟨c10,H⟩:=H;have LMc10:=am c10;clear c10
            generalize hy494:(x4_3++[1]:List Int)=y494 at H
            have Ny494:=am hy494.symm;clear hy494;have H':=am H;clear H
            go_wp2_with (first | ((with_reducible refine ji (b:=.append) (xs:=#[.tmp 30,.tmp 31]) rfl ?_);at_builtin;refine Kd.R_append (Kd.int .i64) (w0:=w) w.heap.size rfl (.tmp 30) (.tmp 31) 23 3 (.int .i64 0) 8 rfl Try.underlying23 Q1 rfl (by decide) (by omega) u4 x4_3 1 [.int .i64 1] (fun _=>True) (fun _=>False) rfl rfl ?aP (fun _ hk=>hk.elim) ?aF ?aO ?aB ?aS ?aL ?_;(case aP=>exact rfl);(case aB=>exact(bw HB));(case aF=>exact(fun _ _=>trivial));(case aO=>exact(wR HO_4));(case aS=>exact(bz HB));(case aL=>have:=LMc10.out;omega);intro v495 w11 ho hb hg hat;rw[← Ny494.out]at ho;replace HB:=am (hb);have HO496:=am (ho);clear HO_4;clear ho hb hg hat))
            go_roundg k3
            case measure=>have:=HK1.out;have:=HK2.out;have:=HK3.out;omega
            case rel=>exact⟨(y494),(wrap64 (x7_3+1)),fr,H',⟨by have:=HK1.out;have:=HK2.out;have:=HK3.out;omega⟩,⟨wR HO496⟩,⟨bw HB⟩⟩
           ·rw[if_neg c9]at H
            have c9b0:=beq_eq_false_iff_ne.mpr c9;have c9b1:=bne_iff_ne.mpr c9;replace H:=ifn H;obtain⟨c12,H⟩:=H;have LMc12:=am c12;clear c12
            generalize hy497:(x4_3++[0]:List Int)=y497 at H
            have Ny497:=am hy497.symm;clear hy497;have H':=am H;clear H
            go_wp2_with (first | ((with_reducible refine ji (b:=.append) (xs:=#[.tmp 33,.tmp 34]) rfl ?_);at_builtin;refine Kd.R_append (Kd.int .i64) (w0:=w) w.heap.size rfl (.tmp 33) (.tmp 34) 23 3 (.int .i64 0) 8 rfl Try.underlying23 Q1 rfl (by decide) (by omega) u4 x4_3 0 [.int .i64 0] (fun _=>True) (fun _=>False) rfl rfl ?aP (fun _ hk=>hk.elim) ?aF ?aO ?aB ?aS ?aL ?_;(case aP=>exact rfl);(case aB=>exact(bw HB));(case aF=>exact(fun _ _=>trivial));(case aO=>exact(wR HO_4));(case aS=>exact(bz HB));(case aL=>have:=LMc12.out;omega);intro v498 w13 ho hb hg hat;rw[← Ny497.out]at ho;replace HB:=am (hb);have HO499:=am (ho);clear HO_4;clear ho hb hg hat))
            go_roundg k3
            case measure=>have:=HK1.out;have:=HK2.out;have:=HK3.out;omega
            case rel=>exact⟨(y497),(wrap64 (x7_3+1)),fr,H',⟨by have:=HK1.out;have:=HK2.out;have:=HK3.out;omega⟩,⟨wR HO499⟩,⟨bw HB⟩⟩
          ·rw[if_neg c8]at H
           have c8b0:=decide_eq_false c8;clear c8;have H':=am H;clear H;go_wp2
           go_roundg k3
           case measure=>have:=HK1.out;have:=HK2.out;have:=HK3.out;omega
           case rel=>exact⟨(x4_3),(wrap64 (x6_2+1)),fr,H',⟨by have:=HK1.out;have:=HK2.out;have:=HK3.out;omega⟩,⟨wR HO_4⟩,⟨bw HB⟩⟩
       ·rw[if_neg c7]at H
        have c7b0:=decide_eq_false c7;clear c7;have H':=am H;clear H;go_wp2
        go_roundg k2
        case measure=>have:=HK1.out;have:=HK2.out;omega
        case rel=>exact⟨(x4_2),(wrap64 (x5_1+1)),fr,H',⟨by have:=HK1.out;have:=HK2.out;omega⟩,⟨wR HO_4⟩,⟨bw HB⟩⟩
    ·rw[if_neg c6]at H
     have c6b0:=decide_eq_false c6;clear c6
     simp only[Option.some.injEq,Prod.mk.injEq]at H
     obtain⟨rfl,rfl⟩:=H;go_wp2
     go_ret2
     exact⟨_,fq,wR HO_4,bw HB⟩
 ·replace c3:=Bool.eq_false_iff.mpr c3
  subst c3
  rw[if_neg (show ¬ (false=true) by decide)]at H
  generalize hy488:(([]:List Int))=y488 at H
  have Ny488:=am hy488.symm;clear hy488
  simp only[Option.some.injEq,Prod.mk.injEq]at H
  obtain⟨rfl,rfl⟩:=H
  go_enter Try.func145,Try.ntmps145
  go_wp2_with (first | ((with_reducible refine qe (f:=103) rfl ?_);refine gl 9 Try.func103 #[.int .i64 a0] ?_;(with_reducible refine(jd.calls a0 false _ A2.out).mono ?_);rintro e w' ⟨rfl,⟨nd,rfl⟩⟩;refine⟨_,rfl,?_⟩) | ((with_reducible refine q7 (N:=11) rfl ?_);refine li 3 ([]:List Int) ?_;intro v489 w14 ho15 hb;(first | rw[← Ny488.out]at ho15 | (simp only[Int.reduceToNat]at ho15;rw[← Ny488.out]at ho15));have HO490:=am (Kd.R_lower ho15 (bz HB));replace HB:=bq HB hb;clear hb ho15))
  go_ret2
  exact⟨_,fq,wR HO490,bw HB⟩
mutual
def zf.j0 :Nat→Int→List Int→Bool→List Int→Int→Option (List Int×Int)
 | 0,_,_,_,_,_=>none
 | k+1,x1,x5,x18,x1000,x1001=>if x18=true then (some (x5,x1001)) else (zf.l0 k x1 (([]:List Int)) 0 x1000 x1001)
def zf.l0 :Nat→Int→List Int→Int→List Int→Int→Option (List Int×Int)
 | 0,_,_,_,_,_=>none
 | k+1,x1,x5,x7,x1000,x1001=>if x7 < 20 then ((qb.f k x1000 x1001 x1).bind fun bt509=>((qb.f k x1000 bt509.2 2).bind fun bt511=>(if x5.length < 17592186044416 then (zf.l0 k x1 (x5++[wrap64 (bt509.1*bt511.1)]) (wrap64 (x7+1)) x1000 bt511.2) else (none)))) else ((qb.f k x1000 x1001 24).bind fun bt516=>(if bt516.1=0 then (if 19≤(x5.length:Int) then (some ((x5.take (19:Int).toNat),bt516.2)) else (none)) else (some (x5,bt516.2))))
end
def zf.f (k:Nat) (s0_0:List Int) (s0_1:Int) (a1:Int):Option (List Int×Int):=(q8.f k a1).bind fun bt500=>(if bt500.2=true then ((qb.f k s0_0 s0_1 3).bind fun bt504=>(zf.j0 k a1 bt500.1 (bt504.1 == 0) s0_0 bt504.2)) else (zf.j0 k a1 bt500.1 false s0_0 s0_1))
theorem zf.mono_l :∀ k,(∀ y0 y1 y2 y3 y4,LeO (zf.j0 k y0 y1 y2 y3 y4) (zf.j0 (k+1) y0 y1 y2 y3 y4))∧(∀ y0 y1 y2 y3 y4,LeO (zf.l0 k y0 y1 y2 y3 y4) (zf.l0 (k+1) y0 y1 y2 y3 y4))
 | 0=>⟨fun _ _ _ _ _ r h=>by simp[zf.j0]at h,fun _ _ _ _ _ r h=>by simp[zf.l0]at h⟩
 | k+1=>by
  obtain⟨ih0,ih1⟩:=zf.mono_l k
  refine⟨?_,?_⟩
  ·intro y0 y1 y2 y3 y4
   unfold zf.j0
   repeat' first | (with_reducible first | apply ih0 | apply ih1 | apply q8.mono | apply qb.mono | exact LeO.refl _ | exact LeO.none _ | refine LeO.ite ?_ ?_ | refine LeO.bind ?_ (fun _=>?_)) | (first | apply ih0 | apply ih1 | apply q8.mono | apply qb.mono | exact LeO.none _ | refine LeO.ite ?_ ?_ | refine LeO.bind ?_ (fun _=>?_))
  ·intro y0 y1 y2 y3 y4
   unfold zf.l0
   repeat' first | (with_reducible first | apply ih0 | apply ih1 | apply q8.mono | apply qb.mono | exact LeO.refl _ | exact LeO.none _ | refine LeO.ite ?_ ?_ | refine LeO.bind ?_ (fun _=>?_)) | (first | apply ih0 | apply ih1 | apply q8.mono | apply qb.mono | exact LeO.none _ | refine LeO.ite ?_ ?_ | refine LeO.bind ?_ (fun _=>?_))
theorem zf.mono :∀ a0 a1 a2 k,LeO (zf.f k a0 a1 a2) (zf.f (k+1) a0 a1 a2):=by
 intro a0 a1 a2 k
 obtain⟨ih0,ih1⟩:=zf.mono_l k
 unfold zf.f
 repeat' first | (with_reducible first | apply ih0 | apply ih1 | apply q8.mono | apply qb.mono | exact LeO.refl _ | exact LeO.none _ | refine LeO.ite ?_ ?_ | refine LeO.bind ?_ (fun _=>?_)) | (first | apply ih0 | apply ih1 | apply q8.mono | apply qb.mono | exact LeO.none _ | refine LeO.ite ?_ ?_ | refine LeO.bind ?_ (fun _=>?_))
theorem zf.calls (k:Nat) (g:Nat) (s0_0:List Int) (s0_1:Int) (a1:Int) (r1:List Int) (r2:Int) (w0 w:World) (hI:IsS112 w0 w g s0_0 s0_1) (hB:Below w0.heap.size w0 w) (h:zf.f k s0_0 s0_1 a1=some (r1,r2)):
  Calls Try.prog 91 #[.pointer (some ⟨g,0,none⟩),.int .i64 a1] w fun e w'=>∃ v0_:Value,e=.returned (v0_)∧Kd.R (Kd.int .i64) 3 w' w.heap.size (fun _=>True) v0_ r1∧IsS112 w0 w' g s0_0 r2∧Below w0.heap.size w0 w'∧KeepBut w w' g none:=by
 have HI0:=am hI
 have HK:=am (KeepBut.refl w g none)
 have HL:=am hB.size
 clear hI
 have HW0:=am hB.size
 have HB:=am hB
 clear hB
 have H:((q8.f k a1).bind fun bt500=>(if bt500.2=true then ((qb.f k s0_0 s0_1 3).bind fun bt504=>(zf.j0 k a1 bt500.1 (bt504.1 == 0) s0_0 bt504.2)) else (zf.j0 k a1 bt500.1 false s0_0 s0_1)))=some (r1,r2):=h
 clear h;replace H:=bs H
 obtain⟨⟨t500,t501⟩,A3,H⟩:=H
 dsimp only at H
 have HC4:=am H
 clear H
 go_enter Try.func91,Try.ntmps91
 go_upto_region 2 with (first | ((with_reducible refine qe (f:=145) rfl ?_);refine gl 10 Try.func145 #[.int .i64 a1] ?_;(with_reducible refine(q8.calls k a1 t500 t501 _ A3.out).mono ?_);rintro e w5 ⟨v502,rfl,ho0,hb⟩;refine⟨_,rfl,?_⟩;have HO503:=am (Kd.R_lower ho0 (jg (w:=w) (g:=g) (row:=none) (kw HK)));replace HK:=am (KeepBut.trans (kw HK) (KeepBut.of_below hb g none) (.inl rfl));replace HB:=am (zp (jr HB HI0) hb);replace HI0:=am (IsS112.below (zt HI0) hb);(try clear hb);(try clear ho0)))
 (try simp only[Act.put,List.setIfInBounds_toArray,List.set_cons_zero,List.set_cons_succ])
 go_cut [18] (fun v18 wc=>∃ (kq:Nat) (x18_3:Bool) (x1001_3:Int),v18=.bool x18_3∧qa (zf.j0 kq a1 t500 x18_3 s0_0 x1001_3=some (r1,r2))∧qa (kq≤k)∧qa (Kd.R (Kd.int .i64) 3 wc w.heap.size (fun _=>True) v502 t500)∧qa (IsS112 w0 wc g s0_0 x1001_3)∧qa (KeepBut w wc g none)∧qa (Below w0.heap.size w0 wc))
 case first=>
  have H:=HC4.out
  clear HC4
  by_cases c6:t501=true
  ·subst c6
   rw[if_pos rfl]at H
   replace H:=bs H
   obtain⟨⟨t504,t505⟩,A7,H⟩:=H
   dsimp only at H
   have H':=am H;clear H
   go_wp2_with (first | (go_at_call 71;(with_reducible refine(qb.calls k g s0_0 s0_1 3 t504 t505 w0 _ ?_ ?_ A7.out).mono ?_);(· repeat (first | (with_reducible first | exact HI0.out | apply IsS112.alloc | apply IsS112.drewN | apply IsS112.drew | apply IsS112.set_1) | exact HI0.out));(· repeat (first | (with_reducible first | exact HB.out | apply qy | apply qh | apply qv | refine zd ?_ (IsS112.ge HI0.out)) | exact HB.out));rintro e w8 ⟨rfl,hi,hb,hk⟩;replace HO503:=am (Kd.R_mono (Kd.R_keep (IsS112.apart (show IsS112 w0 _ g s0_0 s0_1 from zt HI0) (wR HO503) (by decide)) hk (fun _ h=>h.2)) (fun _ h=>h.1));replace HK:=am (KeepBut.trans (kw HK) hk (.inl rfl));replace HB:=am (hb);replace HI0:=am (hi);(try clear hb);(try clear hk);(try clear hi)))
   go_meet
   case rel=>exact⟨_,((t504 == 0)),(t505),fr,H',⟨by first | omega | exact Nat.le_refl _⟩,⟨wR HO503⟩,⟨zt HI0⟩,⟨kw HK⟩,⟨jr HB HI0⟩⟩
  ·replace c6:=Bool.eq_false_iff.mpr c6
   subst c6
   rw[if_neg (show ¬ (false=true) by decide)]at H
   have H':=am H;clear H;go_wp2
   go_meet
   case rel=>exact⟨_,(false),(s0_1),fr,H',⟨by first | omega | exact Nat.le_refl _⟩,⟨wR HO503⟩,⟨zt HI0⟩,⟨kw HK⟩,⟨jr HB HI0⟩⟩
 case rest=>
  clear HC4;try clear c1;try clear p2;try clear c6
  obtain⟨kq,x18_3,x1001_3,rfl,HA,HJ3,HO_5,HI0,HK,HB⟩:=hcut
  cases kq with
  | zero=>exact absurd HA.out (by simp[zf.j0])
  | succ kj3=>
   have H:=HA.out;clear HA
   simp only[zf.j0]at H
   by_cases c9:x18_3=true
   ·subst c9
    rw[if_pos rfl]at H
    simp only[Option.some.injEq,Prod.mk.injEq]at H
    obtain⟨rfl,rfl⟩:=H;go_wp2;go_ret
    exact⟨_,fq,wR HO_5,zt HI0,jr HB HI0,kw HK⟩
   ·replace c9:=Bool.eq_false_iff.mpr c9
    subst c9
    rw[if_neg (show ¬ (false=true) by decide)]at H
    generalize hy506:(([]:List Int))=y506 at H
    have Ny506:=am hy506.symm;clear hy506;have H':=am H;clear H
    go_wp2_with (first | ((with_reducible refine q7 (N:=20) rfl ?_);refine li 3 ([]:List Int) ?_;intro v507 w10 ho11 hb;(first | rw[← Ny506.out]at ho11 | (simp only[Int.reduceToNat]at ho11;rw[← Ny506.out]at ho11));have HO508:=am (Kd.R_lower (Kd.R_new' ho11 (Kd.R_lt (wR HO_5))) (jg (w:=w) (g:=g) (row:=none) (kw HK)));replace HO_5:=eR HO_5 (Kd.R_base ho11) hb;replace HK:=am (KeepBut.trans (kw HK) (KeepBut.of_below hb g none) (.inl rfl));replace HB:=am (zp (jr HB HI0) hb);replace HI0:=am (IsS112.below (zt HI0) hb);clear hb ho11))
    go_loopg [5,7] kj3 (fun kq v5 v7 w'=>∃ (x5_2:List Int) (x7_2:Int) (x1001_2:Int),v7=.int .i64 x7_2∧qa (zf.l0 kq a1 x5_2 x7_2 s0_0 x1001_2=some (r1,r2))∧qa (kq≤kj3)∧qa (Kd.R (Kd.int .i64) 3 w' w.heap.size (fun _=>True) v5 x5_2)∧qa (IsS112 w0 w' g s0_0 x1001_2)∧qa (KeepBut w w' g none)∧qa (Below w0.heap.size w0 w'))
    case atStart=>exact⟨(y506),(0),(x1001_3),fr,H',⟨Nat.le_refl _⟩,⟨Kd.R_below (Kd.R_mono HO508.out (fun _ hk=>trivial)) gs⟩,⟨zt HI0⟩,⟨kw HK⟩,⟨jr HB HI0⟩⟩
    case round=>
     clear H';try clear c1;try clear p2;try clear c6;try clear c9;try clear p2
     obtain⟨x5_2,x7_2,x1001_2,rfl,HA,HK2,HO_5,HI0,HK,HB⟩:=hrel
     cases gk with
     | zero=>exact absurd HA.out (by simp[zf.l0])
     | succ k2=>
      have H:=HA.out;clear HA
      simp only[zf.l0]at H
      by_cases c12:x7_2 < 20
      ·rw[if_pos c12]at H
       have c12b0:=decide_eq_true c12;clear c12;replace H:=bs H
       obtain⟨⟨t509,t510⟩,A13,H⟩:=H
       dsimp only at H
       replace H:=bs H
       obtain⟨⟨t511,t512⟩,A14,H⟩:=H
       dsimp only at H
       replace H:=ifn H;obtain⟨c15,H⟩:=H;have LMc15:=am c15;clear c15
       generalize hy513:(x5_2++[wrap64 (t509*t511)]:List Int)=y513 at H
       have Ny513:=am hy513.symm;clear hy513;have H':=am H;clear H
       go_wp2_with (first | ((with_reducible refine qe (f:=71) rfl ?_);refine gl 28 Try.func71 #[.pointer (some ⟨g,0,none⟩),.int .i64 a1] ?_;(with_reducible refine(qb.calls k2 g s0_0 x1001_2 a1 t509 t510 w0 _ ?_ ?_ A13.out).mono ?_);(· repeat (first | (with_reducible first | exact HI0.out | apply IsS112.alloc | apply IsS112.drewN | apply IsS112.drew | apply IsS112.set_1) | exact HI0.out));(· repeat (first | (with_reducible first | exact HB.out | apply qy | apply qh | apply qv | refine zd ?_ (IsS112.ge HI0.out)) | exact HB.out));rintro e w16 ⟨rfl,hi,hb,hk⟩;refine⟨_,rfl,?_⟩;replace HO_5:=am (Kd.R_mono (Kd.R_keep (IsS112.apart (show IsS112 w0 _ g s0_0 x1001_2 from zt HI0) (wR HO_5) (by decide)) hk (fun _ h=>h.2)) (fun _ h=>h.1));replace HK:=am (KeepBut.trans (kw HK) hk (.inl rfl));replace HB:=am (hb);replace HI0:=am (hi);(try clear hb);(try clear hk);(try clear hi)) | ((with_reducible refine qe (f:=71) rfl ?_);refine gl 30 Try.func71 #[.pointer (some ⟨g,0,none⟩),.int .i64 2] ?_;(with_reducible refine(qb.calls k2 g s0_0 t510 2 t511 t512 w0 _ ?_ ?_ A14.out).mono ?_);(· repeat (first | (with_reducible first | exact HI0.out | apply IsS112.alloc | apply IsS112.drewN | apply IsS112.drew | apply IsS112.set_1) | exact HI0.out));(· repeat (first | (with_reducible first | exact HB.out | apply qy | apply qh | apply qv | refine zd ?_ (IsS112.ge HI0.out)) | exact HB.out));rintro e w17 ⟨rfl,hi,hb,hk⟩;refine⟨_,rfl,?_⟩;replace HO_5:=am (Kd.R_mono (Kd.R_keep (IsS112.apart (show IsS112 w0 _ g s0_0 t510 from zt HI0) (wR HO_5) (by decide)) hk (fun _ h=>h.2)) (fun _ h=>h.1));replace HK:=am (KeepBut.trans (kw HK) hk (.inl rfl));replace HB:=am (hb);replace HI0:=am (hi);(try clear hb);(try clear hk);(try clear hi)) | ((with_reducible refine ji (b:=.append) (xs:=#[.tmp 25,.tmp 32]) rfl ?_);at_builtin;refine Kd.R_append (Kd.int .i64) w.heap.size rfl (.tmp 25) (.tmp 32) 23 3 (.int .i64 0) 8 rfl Try.underlying23 Q1 rfl (by decide) (by omega) u5 x5_2 (wrap64 (t509*t511)) [.int .i64 (wrap64 (t509*t511))] (fun _=>True) (fun _=>False) rfl rfl ?aP (fun _ hk=>hk.elim) ?aF ?aO (Below.refl _ _) ?aS ?aL ?_;(case aP=>exact rfl);(case aF=>exact(fun _ _=>trivial));(case aO=>exact(wR HO_5));(case aS=>exact(jg (w:=w) (g:=g) (row:=none) (kw HK)));(case aL=>have:=LMc15.out;omega);intro v514 w18 ho hb hg hat;rw[← Ny513.out]at ho;replace HB:=am (Zl (jr HB HI0) HL.out hb);replace HI0:=am (IsS112.grown (zt HI0) hg (IsS112.own_ne HI0.out HO_5.out (by decide)));replace HK:=am (KeepBut.trans (kw HK) (KeepBut.of_grown hg g) (Kd.R_base2 HO_5.out));have HO515:=am (ho);clear HO_5;clear ho hb hg hat))
       go_roundg k2
       case measure=>have:=HJ3.out;have:=HK2.out;omega
       case rel=>exact⟨(y513),(wrap64 (x7_2+1)),(t512),fr,H',⟨by have:=HJ3.out;have:=HK2.out;omega⟩,⟨wR HO515⟩,⟨zt HI0⟩,⟨kw HK⟩,⟨jr HB HI0⟩⟩
      ·rw[if_neg c12]at H
       have c12b0:=decide_eq_false c12;clear c12;replace H:=bs H
       obtain⟨⟨t516,t517⟩,A19,H⟩:=H
       dsimp only at H
       by_cases c20:t516=0
       ·rw[if_pos c20]at H
        have c20b0:=beq_iff_eq.mpr c20;have c20b1:=bne_eq_false_iff_eq.mpr c20;clear c20;replace H:=ifn H;obtain⟨c21,H⟩:=H;have c21b0:=eq_true c21;have c21b1:=decide_eq_true c21;clear c21
        generalize hy518:(x5_2.take (19:Int).toNat:List Int)=y518 at H
        have Ny518:=am hy518.symm;clear hy518
        simp only[Option.some.injEq,Prod.mk.injEq]at H
        obtain⟨rfl,rfl⟩:=H
        go_wp2_with (first | ((with_reducible refine qe (f:=71) rfl ?_);refine gl 35 Try.func71 #[.pointer (some ⟨g,0,none⟩),.int .i64 24] ?_;(with_reducible refine(qb.calls k2 g s0_0 x1001_2 24 t516 t517 w0 _ ?_ ?_ A19.out).mono ?_);(· repeat (first | (with_reducible first | exact HI0.out | apply IsS112.alloc | apply IsS112.drewN | apply IsS112.drew | apply IsS112.set_1) | exact HI0.out));(· repeat (first | (with_reducible first | exact HB.out | apply qy | apply qh | apply qv | refine zd ?_ (IsS112.ge HI0.out)) | exact HB.out));rintro e w22 ⟨rfl,hi,hb,hk⟩;refine⟨_,rfl,?_⟩;replace HO_5:=am (Kd.R_mono (Kd.R_keep (IsS112.apart (show IsS112 w0 _ g s0_0 x1001_2 from zt HI0) (wR HO_5) (by decide)) hk (fun _ h=>h.2)) (fun _ h=>h.1));replace HK:=am (KeepBut.trans (kw HK) hk (.inl rfl));replace HB:=am (hb);replace HI0:=am (hi);(try clear hb);(try clear hk);(try clear hi);obtain⟨Ao23,co23,eo23⟩:=Kd.R_slice HO_5.out;subst eo23;have q24:(19:Int)≤((x5_2.length:Int):Int):=od;obtain⟨i024,hi024,_,hsz24,_⟩:=info_parts Q1;have hcut24:=qkn (P:=Try.prog) 23 3 .i64 Try.underlying23 hi024 Ao23 x5_2.length co23 19 (by omega) q24 (Kd.R_reads' HO_5.out).2.1;have hr24:=Kd.R_take (m:=(19:Int).toNat) HO_5.out (by omega);have hy24:y518.length=(19:Int).toNat:=(by rw[Ny518.out,List.length_take];omega);rw[← Ny518.out]at hr24;rw[← hy24]at hr24 hcut24;clear hy24 hi024 hsz24 HO_5;have HO520:=am hr24;clear hr24;replace q24:=eq_true q24))
        go_ret
        exact⟨_,fq,wR HO520,zt HI0,jr HB HI0,kw HK⟩
       ·rw[if_neg c20]at H
        have c20b0:=beq_eq_false_iff_ne.mpr c20;have c20b1:=bne_iff_ne.mpr c20
        simp only[Option.some.injEq,Prod.mk.injEq]at H
        obtain⟨rfl,rfl⟩:=H
        go_wp2_with (first | ((with_reducible refine qe (f:=71) rfl ?_);refine gl 35 Try.func71 #[.pointer (some ⟨g,0,none⟩),.int .i64 24] ?_;(with_reducible refine(qb.calls k2 g s0_0 x1001_2 24 t516 t517 w0 _ ?_ ?_ A19.out).mono ?_);(· repeat (first | (with_reducible first | exact HI0.out | apply IsS112.alloc | apply IsS112.drewN | apply IsS112.drew | apply IsS112.set_1) | exact HI0.out));(· repeat (first | (with_reducible first | exact HB.out | apply qy | apply qh | apply qv | refine zd ?_ (IsS112.ge HI0.out)) | exact HB.out));rintro e w25 ⟨rfl,hi,hb,hk⟩;refine⟨_,rfl,?_⟩;replace HO_5:=am (Kd.R_mono (Kd.R_keep (IsS112.apart (show IsS112 w0 _ g s0_0 x1001_2 from zt HI0) (wR HO_5) (by decide)) hk (fun _ h=>h.2)) (fun _ h=>h.1));replace HK:=am (KeepBut.trans (kw HK) hk (.inl rfl));replace HB:=am (hb);replace HI0:=am (hi);(try clear hb);(try clear hk);(try clear hi)))
        go_ret
        exact⟨_,fq,wR HO_5,zt HI0,jr HB HI0,kw HK⟩
end Go.Proofs.Ytmgbpmihbljngaa.PA
