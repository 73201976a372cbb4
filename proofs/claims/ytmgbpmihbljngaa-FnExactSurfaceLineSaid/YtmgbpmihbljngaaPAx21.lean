-- Written by xprint.py, a program of this claim's own (over the kit's print.py)
import Derived.Test.YtmgbpmihbljngaaPAx0
namespace Go.Proofs.Ytmgbpmihbljngaa.PA
open Go.RowKit Go.Proofs.YtmgbpmihbljngaaW.PrintWords Go.Proofs.YtmgbpmihbljngaaW.PrintLast Go.Proofs.YtmgbpmihbljngaaW.PrintMore
attribute [local go_sem] Qs Qr Qx Qw Qf Qe Qq Qp
set_option linter.unusedVariables false
set_option linter.unusedSimpArgs false
mutual
def qo.l0 :Nat→Int→List (S43)→Int→Int→Option ((List (S43)))
 | 0,_,_,_,_=>none
 | k+1,x0,x3,x10,x11=>if x11 < x10 then (if x3.length < 5864062014805 then (qo.l0 k x0 (x3++[(⟨(⟨0,1,x11⟩:S41)⟩:S43)]) x10 (wrap64 (x11+1))) else (none)) else (qo.l1 k x0 x3 x0 0)
def qo.l1 :Nat→Int→List (S43)→Int→Int→Option ((List (S43)))
 | 0,_,_,_,_=>none
 | k+1,x0,x3,x21,x22=>if x22 < x21 then (qo.l2 k x0 x3 x22 x21 x22 x0 0) else (some x3)
def qo.l2 :Nat→Int→List (S43)→Int→Int→Int→Int→Int→Option ((List (S43)))
 | 0,_,_,_,_,_,_,_=>none
 | k+1,x0,x3,x5,x21,x22,x25,x26=>if x26 < x25 then (if x3.length < 5864062014805 then (qo.l2 k x0 (x3++[(⟨(⟨1,x5,x26⟩:S41)⟩:S43)]) x5 x21 x22 x25 (wrap64 (x26+1))) else (none)) else (qo.l1 k x0 x3 x21 (wrap64 (x22+1)))
end
def qo.f (k:Nat) (a0:Int):Option ((List (S43))):=qo.l0 k a0 (([(⟨(⟨0,0,1⟩:S41)⟩:S43)]:List (S43))) a0 0
theorem qo.mono_l :∀ k,(∀ y0 y1 y2 y3,LeO (qo.l0 k y0 y1 y2 y3) (qo.l0 (k+1) y0 y1 y2 y3))∧(∀ y0 y1 y2 y3,LeO (qo.l1 k y0 y1 y2 y3) (qo.l1 (k+1) y0 y1 y2 y3))∧(∀ y0 y1 y2 y3 y4 y5 y6,LeO (qo.l2 k y0 y1 y2 y3 y4 y5 y6) (qo.l2 (k+1) y0 y1 y2 y3 y4 y5 y6))
 | 0=>⟨fun _ _ _ _ r h=>by simp[qo.l0]at h,fun _ _ _ _ r h=>by simp[qo.l1]at h,fun _ _ _ _ _ _ _ r h=>by simp[qo.l2]at h⟩
 | k+1=>by
  obtain⟨ih0,ih1,ih2⟩:=qo.mono_l k
  refine⟨?_,?_,?_⟩
  ·intro y0 y1 y2 y3
   unfold qo.l0
   repeat' first | (with_reducible first | apply ih0 | apply ih1 | apply ih2 | exact LeO.refl _ | exact LeO.none _ | refine LeO.ite ?_ ?_ | refine LeO.bind ?_ (fun _=>?_)) | (first | apply ih0 | apply ih1 | apply ih2 | exact LeO.none _ | refine LeO.ite ?_ ?_ | refine LeO.bind ?_ (fun _=>?_))
  ·intro y0 y1 y2 y3
   unfold qo.l1
   repeat' first | (with_reducible first | apply ih0 | apply ih1 | apply ih2 | exact LeO.refl _ | exact LeO.none _ | refine LeO.ite ?_ ?_ | refine LeO.bind ?_ (fun _=>?_)) | (first | apply ih0 | apply ih1 | apply ih2 | exact LeO.none _ | refine LeO.ite ?_ ?_ | refine LeO.bind ?_ (fun _=>?_))
  ·intro y0 y1 y2 y3 y4 y5 y6
   unfold qo.l2
   repeat' first | (with_reducible first | apply ih0 | apply ih1 | apply ih2 | exact LeO.refl _ | exact LeO.none _ | refine LeO.ite ?_ ?_ | refine LeO.bind ?_ (fun _=>?_)) | (first | apply ih0 | apply ih1 | apply ih2 | exact LeO.none _ | refine LeO.ite ?_ ?_ | refine LeO.bind ?_ (fun _=>?_))
theorem qo.mono :∀ a0 k,LeO (qo.f k a0) (qo.f (k+1) a0):=by
 intro a0 k
 obtain⟨ih0,ih1,ih2⟩:=qo.mono_l k
 unfold qo.f
 repeat' first | (with_reducible first | apply ih0 | apply ih1 | apply ih2 | exact LeO.refl _ | exact LeO.none _ | refine LeO.ite ?_ ?_ | refine LeO.bind ?_ (fun _=>?_)) | (first | apply ih0 | apply ih1 | apply ih2 | exact LeO.none _ | refine LeO.ite ?_ ?_ | refine LeO.bind ?_ (fun _=>?_))
set_option maxHeartbeats 8000000 in
set_option maxRecDepth 100000 in
theorem qo.calls (k:Nat) (a0:Int) (r:List (S43)) (w:World) (h:qo.f k a0=some r):
  Calls Try.prog 144 #[.int .i64 a0] w fun e w'=>∃ v0_:Value,e=.returned (v0_)∧Kd.R k43 43 w' w.heap.size (fun _=>True) v0_ r∧Below w.heap.size w w':=by
 have hu41:=Try.underlying41
 have hu43:=Try.underlying43
 have HB:=am (Below.refl w.heap.size w)
 have H:(qo.l0 k a0 (([(⟨(⟨0,0,1⟩:S41)⟩:S43)]:List (S43))) a0 0)=some r:=h
 clear h
 generalize hy469:(([(⟨(⟨0,0,1⟩:S41)⟩:S43)]:List (S43)))=y469 at H
 have Ny469:=am hy469.symm;clear hy469;have H':=am H;clear H
 go_enter Try.func144,Try.ntmps144
 go_wp2_with (first | ((with_reducible refine zb (N:=9) rfl ?_);refine Kd.R_lit k43 _ 43 ?hg (N:=9) ?hd (xs:=([(⟨(⟨0,0,1⟩:S41)⟩:S43)]:List (S43))) (inner:=[.int .i64 0,.int .i64 0,.int .i64 1]) (ok:=fun _=>True) (okp:=fun _=>True) ?hr ?hp (fun _ hk=>hk) trivial (Below.refl _ _) (Nat.le_refl _) (by simp) ?_;(case hd=>rfl);(case hg=>rfl);(case hr=>first | (go_simp;done) | (go_simp;rfl));(case hp=>exact(Reps.c3 (show Kd.M k43 _ _ _ (⟨(⟨0,0,1⟩:S41)⟩:S43) [.int .i64 0,.int .i64 0,.int .i64 1] from (Jb _ _ _ (⟨(⟨0,0,1⟩:S41)⟩:S43) )) (Reps.none _ _)));intro v470 w2 ho3 hb hg_ hnew_;clear hg_ hnew_;(first | rw[← Ny469.out]at ho3 | (simp only[Int.reduceToNat]at ho3;rw[← Ny469.out]at ho3));have HO471:=am (Kd.R_lower ho3 (bz HB));replace HB:=bq HB hb;clear hb ho3))
 go_loopg [3,11] k (fun kq v3 v11 w'=>∃ (x3_1:List (S43)) (x11_1:Int),v11=.int .i64 x11_1∧qf (qo.l0 kq a0 x3_1 a0 x11_1=some r)∧qf (kq≤k)∧qf (Kd.R k43 43 w' w.heap.size (fun _=>True) v3 x3_1)∧qf (Below w.heap.size w w'))
 case atStart=>exact⟨(y469),(0),fr,H',⟨Nat.le_refl _⟩,⟨wR HO471⟩,⟨bw HB⟩⟩
 case round=>
  clear H';try clear c1;try clear p2;try clear c3
  obtain⟨x3_1,x11_1,rfl,HA,HK1,HO_3,HB⟩:=hrel
  cases gk with
  | zero=>exact absurd HA.out (by simp[qo.l0])
  | succ k1=>
   have H:=HA.out;clear HA
   simp only[qo.l0]at H
   by_cases c4:x11_1 < a0
   ·rw[if_pos c4]at H
    have c4b0:=decide_eq_true c4;clear c4;replace H:=ifn H;obtain⟨c5,H⟩:=H;have LMc5:=am c5;clear c5
    generalize hy472:(x3_1++[(⟨(⟨0,1,x11_1⟩:S41)⟩:S43)]:List (S43))=y472 at H
    have Ny472:=am hy472.symm;clear hy472;have H':=am H;clear H
    go_wp2_with (first | ((with_reducible refine jr (b:=.append) (xs:=#[.tmp 14,.tmp 18]) rfl ?_);at_builtin;refine Kd.R_append k43 (w0:=w) w.heap.size rfl (.tmp 14) (.tmp 18) 34 43 (.agg #[(.int .i64 0),(.int .i64 0),(.int .i64 0)]) 24 rfl Try.underlying34 J4 rfl (by decide) (by omega) u3 x3_1 (⟨(⟨0,1,x11_1⟩:S41)⟩:S43) [.int .i64 0,.int .i64 1,.int .i64 x11_1] (fun _=>True) (fun _=>False) rfl rfl ?aP (fun _ hk=>hk.elim) ?aF ?aO ?aB ?aS ?aL ?_;(case aP=>exact Jb _ _ _ (⟨(⟨0,1,x11_1⟩:S41)⟩:S43));(case aB=>exact(bw HB));(case aF=>exact(fun _ _=>trivial));(case aO=>exact(wR HO_3));(case aS=>exact(bz HB));(case aL=>have:=LMc5.out;omega);intro v473 w6 ho hb hg hat;rw[← Ny472.out]at ho;replace HB:=am (hb);have HO474:=am (ho);clear HO_3;clear ho hb hg hat))
    go_roundg k1
    case measure=>have:=HK1.out;omega
    case rel=>exact⟨(y472),(wrap64 (x11_1+1)),fr,H',⟨by have:=HK1.out;omega⟩,⟨wR HO474⟩,⟨bw HB⟩⟩
   ·rw [if_neg c4] at H
    have c4b0:=decide_eq_false c4;clear c4;have H':=am H;clear H;go_wp2
    go_loopg [3,22] k1 (fun kq v3 v22 w'=>∃ (x3_2:List (S43)) (x22_2:Int),v22=.int .i64 x22_2∧qf (qo.l1 kq a0 x3_2 a0 x22_2=some r)∧qf (kq≤k1)∧qf (Kd.R k43 43 w' w.heap.size (fun _=>True) v3 x3_2)∧qf (Below w.heap.size w w'))
    case atStart=>exact⟨(x3_1),(0),fr,H',⟨Nat.le_refl _⟩,⟨wR HO_3⟩,⟨bw HB⟩⟩
    case round=>
     clear H';try clear c1;try clear p2;try clear c3;try clear c4;try clear c4b0;try clear c5;try clear p6;try clear p2
     obtain⟨x3_2,x22_2,rfl,HA,HK2,HO_3,HB⟩:=hrel
     cases gk with
     | zero=>exact absurd HA.out (by simp[qo.l1])
     | succ k2=>
      have H:=HA.out;clear HA
      simp only[qo.l1]at H
      by_cases c7:x22_2 < a0
      ·rw [if_pos c7] at H
       have c7b0:=decide_eq_true c7;clear c7;have H':=am H;clear H;go_wp2
       go_loopg [3,26] k2 (fun kq v3 v26 w'=>∃ (x3_3:List (S43)) (x26_3:Int),v26=.int .i64 x26_3∧qf (qo.l2 kq a0 x3_3 x22_2 a0 x22_2 a0 x26_3=some r)∧qf (kq≤k2)∧qf (Kd.R k43 43 w' w.heap.size (fun _=>True) v3 x3_3)∧qf (Below w.heap.size w w'))
       case atStart=>exact⟨(x3_2),(0),fr,H',⟨Nat.le_refl _⟩,⟨wR HO_3⟩,⟨bw HB⟩⟩
       case round=>
        clear H';try clear c1;try clear p2;try clear c3;try clear c4;try clear c4b0;try clear c5;try clear p6;try clear c7;try clear c7b0;try clear p2;try clear p6
        obtain⟨x3_3,x26_3,rfl,HA,HK3,HO_3,HB⟩:=hrel
        cases gk with
        | zero=>exact absurd HA.out (by simp[qo.l2])
        | succ k3=>
         have H:=HA.out;clear HA
         simp only[qo.l2]at H
         by_cases c8:x26_3 < a0
         ·rw[if_pos c8]at H
          have c8b0:=decide_eq_true c8;clear c8;replace H:=ifn H;obtain⟨c9,H⟩:=H;have LMc9:=am c9;clear c9
          generalize hy475:(x3_3++[(⟨(⟨1,x22_2,x26_3⟩:S41)⟩:S43)]:List (S43))=y475 at H
          have Ny475:=am hy475.symm;clear hy475;have H':=am H;clear H
          go_wp2_with (first | ((with_reducible refine jr (b:=.append) (xs:=#[.tmp 29,.tmp 34]) rfl ?_);at_builtin;refine Kd.R_append k43 (w0:=w) w.heap.size rfl (.tmp 29) (.tmp 34) 34 43 (.agg #[(.int .i64 0),(.int .i64 0),(.int .i64 0)]) 24 rfl Try.underlying34 J4 rfl (by decide) (by omega) u3 x3_3 (⟨(⟨1,x22_2,x26_3⟩:S41)⟩:S43) [.int .i64 1,.int .i64 x22_2,.int .i64 x26_3] (fun _=>True) (fun _=>False) rfl rfl ?aP (fun _ hk=>hk.elim) ?aF ?aO ?aB ?aS ?aL ?_;(case aP=>exact Jb _ _ _ (⟨(⟨1,x22_2,x26_3⟩:S41)⟩:S43));(case aB=>exact(bw HB));(case aF=>exact(fun _ _=>trivial));(case aO=>exact(wR HO_3));(case aS=>exact(bz HB));(case aL=>have:=LMc9.out;omega);intro v476 w10 ho hb hg hat;rw[← Ny475.out]at ho;replace HB:=am (hb);have HO477:=am (ho);clear HO_3;clear ho hb hg hat))
          go_roundg k3
          case measure=>have:=HK1.out;have:=HK2.out;have:=HK3.out;omega
          case rel=>exact⟨(y475),(wrap64 (x26_3+1)),fr,H',⟨by have:=HK1.out;have:=HK2.out;have:=HK3.out;omega⟩,⟨wR HO477⟩,⟨bw HB⟩⟩
         ·rw[if_neg c8]at H
          have c8b0:=decide_eq_false c8;clear c8;have H':=am H;clear H;go_wp2
          go_roundg k3
          case measure=>have:=HK1.out;have:=HK2.out;have:=HK3.out;omega
          case rel=>exact⟨(x3_3),(wrap64 (x22_2+1)),fr,H',⟨by have:=HK1.out;have:=HK2.out;have:=HK3.out;omega⟩,⟨wR HO_3⟩,⟨bw HB⟩⟩
      ·rw[if_neg c7]at H
       have c7b0:=decide_eq_false c7;clear c7;obtain rfl:=Option.some.inj H;go_wp2;go_ret
       exact⟨_,fq,wR HO_3,bw HB⟩
end Go.Proofs.Ytmgbpmihbljngaa.PA
