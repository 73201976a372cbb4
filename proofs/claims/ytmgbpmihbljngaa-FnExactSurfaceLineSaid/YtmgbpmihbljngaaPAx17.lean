-- Written by xprint.py, a program of this claim's own (over the kit's print.py)
import Derived.Test.YtmgbpmihbljngaaPAx16
namespace Go.Proofs.Ytmgbpmihbljngaa.PA
open Go.RowKit Go.Proofs.YtmgbpmihbljngaaW.PrintWords Go.Proofs.YtmgbpmihbljngaaW.PrintLast Go.Proofs.YtmgbpmihbljngaaW.PrintMore
attribute [local go_sem] Qs Qr Qx Qw Qf Qe Qq Qp
set_option linter.unusedVariables false
set_option linter.unusedSimpArgs false
mutual
def qh.l0 :Nat→Int→Int→List (List Int)→List Int→List (List Int)→Int→Int→Option ((List (List Int)))
 | 0,_,_,_,_,_,_,_=>none
 | k+1,x0,x2,x7,x8,x20,x21,x22=>if x22 < x21 then (if 0≤x22 then (if x22 < (x20.length:Int) then ((qk.f k (ju x20 x22) 1).bind fun t357=>(if x8.length < 17592186044416 then (qh.l0 k x0 x2 x7 (x8++[t357]) x20 x21 (wrap64 (x22+1))) else (none))) else (none)) else (none)) else (qh.l1 k x0 x2 x7 x8 (([]:List (List Int))) x2 0)
def qh.l1 :Nat→Int→Int→List (List Int)→List Int→List (List Int)→Int→Int→Option ((List (List Int)))
 | 0,_,_,_,_,_,_,_=>none
 | k+1,x0,x2,x7,x8,x11,x33,x34=>if x34 < x33 then ((q6.f k x8 x34).bind fun t367=>(if t367=true then (qh.l1 k x0 x2 x7 x8 x11 x33 (wrap64 (x34+1))) else (if 0≤x2 then (if (x2:Int).toNat≤35184372088832 then ((some (List.replicate (x2:Int).toNat 0:List Int)).bind fun y368=>(if 0≤x34 then (if x34 < (y368.length:Int) then (qh.l2 k x0 x2 x7 x8 x11 x34 (y368.set (x34:Int).toNat 1) x33 x34 x7 (x7.length:Int) 0) else (none)) else (none))) else (none)) else (none)))) else ((zy.f k x0 x11).bind fun t364=>(some t364))
def qh.l2 :Nat→Int→Int→List (List Int)→List Int→List (List Int)→Int→List Int→Int→Int→List (List Int)→Int→Int→Option ((List (List Int)))
 | 0,_,_,_,_,_,_,_,_,_,_,_,_=>none
 | k+1,x0,x2,x7,x8,x11,x12,x13,x33,x34,x45,x46,x47=>if x47 < x46 then (if 0≤x47 then (if x47 < (x45.length:Int) then (if x47 < (x8.length:Int) then (if 0≤x12 then (if x12 < ((ju x45 x47).length:Int) then ((Z1.f (wrap64 (-(rd (ju x45 x47) x12))) x0).bind fun t375=>(if 0≤(rd x8 x47) then (if (rd x8 x47) < (x13.length:Int) then (qh.l2 k x0 x2 x7 x8 x11 x12 (x13.set ((rd x8 x47):Int).toNat t375) x33 x34 x45 x46 (wrap64 (x47+1))) else (none)) else (none))) else (none)) else (none)) else (none)) else (none)) else (none)) else (if x11.length < 5864062014805 then (qh.l1 k x0 x2 x7 x8 (x11++[x13]) x33 (wrap64 (x34+1))) else (none))
end
def qh.f (k:Nat) (a0:Int) (l1:List (List Int)) (a2:Int):Option ((List (List Int))):=(zy.f k a0 l1).bind fun t350=>(qh.l0 k a0 a2 t350 (([]:List Int)) t350 (t350.length:Int) 0)
theorem qh.mono_l :∀ k,(∀ y0 y1 y2 y3 y4 y5 y6,LeO (qh.l0 k y0 y1 y2 y3 y4 y5 y6) (qh.l0 (k+1) y0 y1 y2 y3 y4 y5 y6))∧(∀ y0 y1 y2 y3 y4 y5 y6,LeO (qh.l1 k y0 y1 y2 y3 y4 y5 y6) (qh.l1 (k+1) y0 y1 y2 y3 y4 y5 y6))∧(∀ y0 y1 y2 y3 y4 y5 y6 y7 y8 y9 y10 y11,LeO (qh.l2 k y0 y1 y2 y3 y4 y5 y6 y7 y8 y9 y10 y11) (qh.l2 (k+1) y0 y1 y2 y3 y4 y5 y6 y7 y8 y9 y10 y11))
 | 0=>⟨fun _ _ _ _ _ _ _ r h=>by simp[qh.l0]at h,fun _ _ _ _ _ _ _ r h=>by simp[qh.l1]at h,fun _ _ _ _ _ _ _ _ _ _ _ _ r h=>by simp[qh.l2]at h⟩
 | k+1=>by
  obtain⟨ih0,ih1,ih2⟩:=qh.mono_l k
  refine⟨?_,?_,?_⟩
  ·intro y0 y1 y2 y3 y4 y5 y6
   unfold qh.l0
   repeat' first | (with_reducible first | apply ih0 | apply ih1 | apply ih2 | apply zy.mono | apply q6.mono | apply qk.mono | exact LeO.refl _ | exact LeO.none _ | refine LeO.ite ?_ ?_ | refine LeO.bind ?_ (fun _=>?_)) | (first | apply ih0 | apply ih1 | apply ih2 | apply zy.mono | apply q6.mono | apply qk.mono | exact LeO.none _ | refine LeO.ite ?_ ?_ | refine LeO.bind ?_ (fun _=>?_))
  ·intro y0 y1 y2 y3 y4 y5 y6
   unfold qh.l1
   repeat' first | (with_reducible first | apply ih0 | apply ih1 | apply ih2 | apply zy.mono | apply q6.mono | apply qk.mono | exact LeO.refl _ | exact LeO.none _ | refine LeO.ite ?_ ?_ | refine LeO.bind ?_ (fun _=>?_)) | (first | apply ih0 | apply ih1 | apply ih2 | apply zy.mono | apply q6.mono | apply qk.mono | exact LeO.none _ | refine LeO.ite ?_ ?_ | refine LeO.bind ?_ (fun _=>?_))
  ·intro y0 y1 y2 y3 y4 y5 y6 y7 y8 y9 y10 y11
   unfold qh.l2
   repeat' first | (with_reducible first | apply ih0 | apply ih1 | apply ih2 | apply zy.mono | apply q6.mono | apply qk.mono | exact LeO.refl _ | exact LeO.none _ | refine LeO.ite ?_ ?_ | refine LeO.bind ?_ (fun _=>?_)) | (first | apply ih0 | apply ih1 | apply ih2 | apply zy.mono | apply q6.mono | apply qk.mono | exact LeO.none _ | refine LeO.ite ?_ ?_ | refine LeO.bind ?_ (fun _=>?_))
theorem qh.mono :∀ a0 a1 a2 k,LeO (qh.f k a0 a1 a2) (qh.f (k+1) a0 a1 a2):=by
 intro a0 a1 a2 k
 obtain⟨ih0,ih1,ih2⟩:=qh.mono_l k
 unfold qh.f
 repeat' first | (with_reducible first | apply ih0 | apply ih1 | apply ih2 | apply zy.mono | apply q6.mono | apply qk.mono | exact LeO.refl _ | exact LeO.none _ | refine LeO.ite ?_ ?_ | refine LeO.bind ?_ (fun _=>?_)) | (first | apply ih0 | apply ih1 | apply ih2 | apply zy.mono | apply q6.mono | apply qk.mono | exact LeO.none _ | refine LeO.ite ?_ ?_ | refine LeO.bind ?_ (fun _=>?_))
def qh.T18 :Bool×List (List Nat×List Nat):=(true,[([],[]),([],[]),([],[]),([1,2],[1,2]),([3],[3]),([],[]),([],[]),([5,6],[5,6]),([7],[7]),([8],[8]),([],[]),([9,10],[9,10]),([0,4,0,1,2,3,4,5,6,7,8,9,10,11],[0,4]),([12,11,11,0,1,2,3,4,5,6,7,8,9,10,11],[11,12])])
def qh.B18 :List Nat:=[0,0,0,6,14,0,0,96,224,480,0,2016,4095,8191]
theorem qh.tab18 :rtab .any (Z0 Try.f112 18)=qh.T18:=by kernel_rfl
theorem qh.bits18 :Qj qh.T18.2 qh.B18=true:=by kernel_rfl
set_option maxHeartbeats 8000000 in
set_option maxRecDepth 100000 in
theorem qh.calls (k:Nat) (a0:Int) (A1:Option Addr) (c1:Nat) (l1:List (List Int)) (a2:Int) (r:List (List Int)) (w:World) (hr1:Kd.C (Kd.slice 3 (Kd.int .i64)) w A1 l1.length l1) (hc1:l1.length≤c1) (h:qh.f k a0 l1 a2=some r):
  Calls Try.prog 112 #[.int .i64 a0,.slice A1 l1.length c1,.int .i64 a2] w fun e w'=>∃ v0_:Value,e=.returned (v0_)∧Kd.S (Kd.slice 3 (Kd.int .i64)) 23 w' w.heap.size (fun _=>True) v0_ r∧Below w.heap.size w w':=by
 have HR1:=am hr1
 have HC1:=am hc1
 clear hr1 hc1
 have HB:=am (Below.refl w.heap.size w)
 have H:((zy.f k a0 l1).bind fun t350=>(qh.l0 k a0 a2 t350 (([]:List Int)) t350 (t350.length:Int) 0))=some r:=h
 clear h;replace H:=bs H;obtain⟨t350,A4,H⟩:=H
 generalize hy353:(([]:List Int))=y353 at H
 have Ny353:=am hy353.symm;clear hy353;have H':=am H;clear H
 go_enter Try.func112,Try.ntmps112
 go_wp2_with (first | ((with_reducible refine qt (f:=152) rfl ?_);refine gl 18 Try.func152 #[.int .i64 a0,.slice A1 l1.length c1] ?_;(with_reducible refine(zy.calls k a0 _ _ l1 t350 _ ?_ ?_ A4.out).mono ?_);exact wC HR1;exact HC1.out;rintro e w5 ⟨v351,rfl,ho0,hb⟩;refine⟨_,rfl,?_⟩;have HO352:=am (Kd.S_lower ho0 (bz HB));replace HB:=bq HB hb;(try clear hb);(try clear ho0)) | ((with_reducible refine zb (N:=19) rfl ?_);refine li 3 ([]:List Int) ?_;intro v354 w6 ho7 hb;(first | rw[← Ny353.out]at ho7 | (simp only[Int.reduceToNat]at ho7;rw[← Ny353.out]at ho7));replace HO352:=eS HO352 (Kd.R_base ho7) hb;have HO355:=am (Kd.R_lower ho7 (bz HB));replace HB:=bq HB hb;clear hb ho7;obtain⟨Ao8,co8,eo8⟩:=Kd.S_slice HO352.out;subst eo8))
 go_loopg [8,22] k (fun kq v8 v22 w'=>∃ (x8_1:List Int) (x22_1:Int),v22=.int .i64 x22_1∧qf (qh.l0 kq a0 a2 t350 x8_1 t350 (t350.length:Int) x22_1=some r)∧qf (kq≤k)∧qf (Kd.S (Kd.slice 3 (Kd.int .i64)) 23 w' w.heap.size (fun k_=>some k_≠(v8:Value).ownBlock) (.slice Ao8 t350.length co8) t350)∧qf (Kd.R (Kd.int .i64) 3 w' w.heap.size (fun _=>True) v8 x8_1)∧qf (Kd.S (Kd.slice 3 (Kd.int .i64)) 23 w' w.heap.size (fun k_=>some k_≠(v8:Value).ownBlock) (.slice Ao8 t350.length co8) t350)∧qf (Below w.heap.size w w'))
 case atStart=>exact⟨(y353),(0),fr,H',⟨Nat.le_refl _⟩,⟨Kd.S_below (Kd.S_mono HO352.out (fun _ hk=>hk.2)) gs⟩,⟨wR HO355⟩,⟨Kd.S_below (Kd.S_mono HO352.out (fun _ hk=>hk.2)) gs⟩,⟨bw HB⟩⟩
 case round =>
  clear H';try clear c1;try clear p2
  obtain⟨x8_1,x22_1,rfl,HA,HK1,HO_7,HO_8,HO_20,HB⟩:=hrel
  cases gk with
  | zero=>exact absurd HA.out (by simp[qh.l0])
  | succ k1 =>
   have H:=HA.out;clear HA
   simp only[qh.l0]at H
   by_cases c9:x22_1 < (t350.length:Int)
   ·rw[if_pos c9]at H
    have c9b0:=decide_eq_true c9;clear c9;replace H:=ifn H;obtain⟨c10,H⟩:=H;have c10b0:=decide_eq_true c10;clear c10;replace H:=ifn H;obtain⟨c11,H⟩:=H;have c11b0:=decide_eq_true c11;clear c11;replace H:=bs H;obtain⟨t357,A12,H⟩:=H
    replace H:=ifn H;obtain⟨c13,H⟩:=H;have LMc13:=am c13;clear c13
    generalize hy358:(x8_1++[t357]:List Int)=y358 at H
    have Ny358:=am hy358.symm;clear hy358;have H':=am H;clear H
    have p356:0≤(x22_1:Int):=od
    have q356:x22_1 < (t350.length:Int):=od
    obtain⟨ad356,A356_0,c356_0,e356,hx356_0,hl356_0,hi356_0⟩:=qak (Kd.S_reads' HO_20.out).2.2 x22_1 p356 q356
    cases e356
    obtain⟨ce356,hce356,hMe356,hcc356⟩:=Kd.S_get HO_20.out [] x22_1 p356 (by first | exact q356 | exact od | (have e_:=(Kd.S_reads' HO_20.out).1;omega))
    obtain⟨ve356_0,rfl,ge356_0⟩:=hMe356
    have hv356_0:=hcc356 0 _ rfl
    rw[Nat.add_zero,show ((Kd.slice 3 (Kd.int .i64))).sz=1 from rfl,Nat.mul_one]at hv356_0
    replace hv356_0:=Option.some.inj (hv356_0.symm.trans hx356_0)
    rw[hv356_0]at ge356_0
    have HL356_0:=am (show Kd.R (Kd.int .i64) 3 _ _ _ _ (ju t350 x22_1) from ge356_0)
    clear hv356_0 ge356_0;clear hcc356 hce356
    have HR356_0:=am hi356_0
    have HC356_0:=am hl356_0
    clear hi356_0 hl356_0;replace p356:=eq_true p356;replace q356:=eq_true q356
    go_wp2_with (first | ((with_reducible refine qt (f:=159) rfl ?_);refine gl 28 Try.func159 #[.slice A356_0 (ju t350 x22_1).length c356_0,.int .i64 1] ?_;(with_reducible refine(qk.calls k1 _ _ (ju t350 x22_1) 1 t357 _ ?_ ?_ A12.out).mono ?_);exact wC HR356_0;exact HC356_0.out;rintro e w' ⟨rfl,⟨nd,rfl⟩⟩;refine⟨_,rfl,?_⟩) | ((with_reducible refine jr (b:=.append) (xs:=#[.tmp 26,.tmp 29]) rfl ?_);at_builtin;refine Kd.R_append (Kd.int .i64) (w0:=w) w.heap.size rfl (.tmp 26) (.tmp 29) 23 3 (.int .i64 0) 8 rfl Try.underlying23 Jm rfl (by decide) (by omega) u8 x8_1 t357 [.int .i64 t357] (fun _=>True) (fun _=>False) rfl rfl ?aP (fun _ hk=>hk.elim) ?aF ?aO ?aB ?aS ?aL ?_;(case aP=>exact rfl);(case aB=>exact(bw HB));(case aF=>exact(fun _ _=>trivial));(case aO=>exact(wR HO_8));(case aS=>exact(bz HB));(case aL=>have:=LMc13.out;omega);intro v359 w14 ho hb hg hat;rw[← Ny358.out]at ho;replace HO_7:=am (Kd.S_after (ok:=(fun _=>True)) (oS_ HO_7 (fun _ hk=>⟨trivial,hk⟩)) hg hat);replace HO_20:=am (Kd.S_after (ok:=(fun _=>True)) (oS_ HO_20 (fun _ hk=>⟨trivial,hk⟩)) hg hat);replace HL356_0:=am (Kd.R_after (ok:=(fun k_=>some k_≠(.slice (some ad356) t350.length co8:Value).ownBlock)) (oR_ HL356_0 (fun _ hk=>⟨hk.2,hk.1⟩)) hg hat);replace HB:=am (hb);have HO360:=am (ho);clear HO_8;clear ho hb hg hat))
    go_roundg k1
    case measure=>have:=HK1.out;omega
    case rel=>exact⟨(y358),(wrap64 (x22_1+1)),fr,H',⟨by have:=HK1.out;omega⟩,⟨Kd.S_below (Kd.S_mono HO_7.out (fun _ hk=>hk.2)) gs⟩,⟨wR HO360⟩,⟨Kd.S_below (Kd.S_mono HO_20.out (fun _ hk=>hk.2)) gs⟩,⟨bw HB⟩⟩
   ·rw [if_neg c9] at H
    have c9b0:=decide_eq_false c9;clear c9
    generalize hy361:(([]:List (List Int)))=y361 at H
    have Ny361:=am hy361.symm;clear hy361;have H':=am H;clear H
    go_wp2_with (first | ((with_reducible refine zb (N:=32) rfl ?_);refine Kd.S_lit (Kd.slice 3 (Kd.int .i64)) _ 23 ?hg (N:=32) ?hd (xs:=([]:List (List Int))) (inner:=[]) (ok:=fun _=>True) (okp:=fun _=>True) ?hr ?hp (fun _ hk=>hk) trivial (Below.refl _ _) (Nat.le_refl _) (by simp) ?_;(case hd=>rfl);(case hg=>rfl);(case hr=>first | (go_simp;done) | (go_simp;rfl));(case hp=>exact(Reps.none _ _));intro v362 w15 ho16 hb hg_ hnew_;clear hg_ hnew_;(first | rw[← Ny361.out]at ho16 | (simp only[Int.reduceToNat]at ho16;rw[← Ny361.out]at ho16));have HO363:=am (Kd.S_lower (Kd.S_new' (Kd.S_new' (Kd.S_new' ho16 (Kd.S_lt (wS HO_7))) (Kd.R_lt (wR HO_8))) (Kd.S_lt (wS HO_20))) (bz HB));replace HO_7:=eS HO_7 (Kd.S_base ho16) hb;replace HO_8:=am (Kd.R_below (wR HO_8) hb);replace HO_20:=eS HO_20 (Kd.S_base ho16) hb;replace HB:=bq HB hb;clear hb ho16))
    go_loopg [11,34] k1 (fun kq v11 v34 w'=>∃ (x8_2:List Int) (x11_2:List (List Int)) (x34_2:Int),v34=.int .i64 x34_2∧qf (qh.l1 kq a0 a2 t350 x8_2 x11_2 a2 x34_2=some r)∧qf (kq≤k1)∧qf (Kd.S (Kd.slice 3 (Kd.int .i64)) 23 w' w.heap.size (fun k_=>some k_≠(u8:Value).ownBlock∧some k_≠(v11:Value).ownBlock) (.slice Ao8 t350.length co8) t350)∧qf (Kd.R (Kd.int .i64) 3 w' w.heap.size (fun _=>True) u8 x8_2)∧qf (Kd.S (Kd.slice 3 (Kd.int .i64)) 23 w' w.heap.size (fun k_=>some k_≠((.slice Ao8 t350.length co8):Value).ownBlock∧some k_≠(u8:Value).ownBlock) v11 x11_2)∧qf (Below w.heap.size w w'))
    case atStart=>exact⟨(x8_1),(y361),(0),fr,H',⟨Nat.le_refl _⟩,⟨wS HO_7⟩,⟨wR HO_8⟩,⟨Kd.S_below (Kd.S_mono HO363.out (fun _ hk=>⟨hk.1.1.2,hk.1.2⟩)) gs⟩,⟨bw HB⟩⟩
    case round=>
     clear H';try clear c1;try clear p2;try clear c3;try clear p3;try clear q3;try clear hx3;try clear p6;try clear c9;try clear c9b0;try clear c10;try clear c10b0;try clear c11;try clear c11b0;try clear c13;try clear c15;try clear hx356_0
     try clear p2;try clear p356;try clear q356
     obtain⟨x8_2,x11_2,x34_2,rfl,HA,HK2,HO_7,HO_8,HO_11,HB⟩:=hrel
     cases gk with
     | zero=>exact absurd HA.out (by simp[qh.l1])
     | succ k2=>
      have H:=HA.out;clear HA
      simp only[qh.l1]at H
      by_cases c17:x34_2 < a2
      ·rw [if_pos c17] at H
       have c17b0:=decide_eq_true c17;clear c17;replace H:=bs H;obtain⟨t367,A18,H⟩:=H
       by_cases c19:t367=true
       ·subst c19
        rw[if_pos rfl]at H
        have H':=am H;clear H
        obtain⟨Ao20,co20,eo20⟩:=Kd.R_slice HO_8.out
        subst eo20
        go_wp2_with (first | ((with_reducible refine qt (f:=155) rfl ?_);refine gl 39 Try.func155 #[.slice Ao20 x8_2.length co20,.int .i64 x34_2] ?_;(with_reducible refine(q6.calls k2 _ _ x8_2 x34_2 true _ ?_ ?_ A18.out).mono ?_);exact Kd.C_below (Kd.R_reads' HO_8.out).2.2 gs;exact(Kd.R_reads' HO_8.out).2.1;rintro e w' ⟨rfl,⟨nd,rfl⟩⟩;refine⟨_,rfl,?_⟩))
        go_roundg k2
        case measure=>have:=HK1.out;have:=HK2.out;omega
        case rel=>exact⟨(x8_2),(x11_2),(wrap64 (x34_2+1)),fr,H',⟨by have:=HK1.out;have:=HK2.out;omega⟩,⟨wS HO_7⟩,⟨wR HO_8⟩,⟨wS HO_11⟩,⟨bw HB⟩⟩
       ·replace c19:=Bool.eq_false_iff.mpr c19
        subst c19
        rw[if_neg (show ¬ (false=true) by decide)]at H
        replace H:=ifn H;obtain⟨c21,H⟩:=H;have c21b0:=eq_true c21;have c21b1:=decide_eq_true c21;clear c21;replace H:=ifn H;obtain⟨c22,H⟩:=H;have c22b0:=eq_true c22;have c22b1:=decide_eq_true c22;clear c22;replace H:=bsy H
        obtain⟨y368,Ny368,H⟩:=H;replace H:=ifn H;obtain⟨c23,H⟩:=H;have c23b0:=decide_eq_true c23;clear c23;replace H:=ifn H;obtain⟨c24,H⟩:=H;have c24b0:=decide_eq_true c24;clear c24
        generalize hy371:(y368.set (x34_2:Int).toNat 1:List Int)=y371 at H
        have Ny371:=am hy371.symm;clear hy371;have H':=am H;clear H
        obtain⟨Ao26,co26,eo26⟩:=Kd.R_slice HO_8.out
        subst eo26
        go_wp2_with (first | ((with_reducible refine qt (f:=155) rfl ?_);refine gl 39 Try.func155 #[.slice Ao26 x8_2.length co26,.int .i64 x34_2] ?_;(with_reducible refine(q6.calls k2 _ _ x8_2 x34_2 false _ ?_ ?_ A18.out).mono ?_);exact Kd.C_below (Kd.R_reads' HO_8.out).2.2 gs;exact(Kd.R_reads' HO_8.out).2.1;rintro e w' ⟨rfl,⟨nd,rfl⟩⟩;refine⟨_,rfl,?_⟩;(try (rw[qke wr];generalize hq_:World.drewN wr _=wr;have n0_:qf (Kd.S (Kd.slice 3 (Kd.int .i64)) 23 wr w.heap.size (fun k_=>some k_≠(.slice Ao8 t350.length co8:Value).ownBlock∧some k_≠(.slice Ao26 x8_2.length co26:Value).ownBlock) u11 x11_2):=⟨by rw[← hq_];exact(wS HO_11)⟩;have n1_:qf (Kd.S (Kd.slice 3 (Kd.int .i64)) 23 wr w.heap.size (fun k_=>some k_≠(u11:Value).ownBlock∧some k_≠(.slice Ao26 x8_2.length co26:Value).ownBlock) (.slice Ao8 t350.length co8) t350):=⟨by rw[← hq_];exact(oS_ HO_7 (fun _ hk=>⟨hk.2,hk.1⟩))⟩;have n2_:qf (Kd.R (Kd.int .i64) 3 wr w.heap.size (fun _=>True) (.slice Ao26 x8_2.length co26) x8_2):=⟨by rw[← hq_];exact(wR HO_8)⟩;have n3_:qf (Below w.heap.size w wr):=⟨by rw[← hq_];exact(bw HB)⟩;clear HO_11 HO_7 HO_8 HB hq_;have HO_11:=n0_;have HO_7:=n1_;have HO_8:=n2_;have HB:=n3_;clear n0_ n1_ n2_ n3_))) | ((with_reducible refine zb (N:=41) rfl ?_);refine Kd.R_make (Kd.int .i64) _ 3 rfl (N:=41) rfl 23 _ _ rfl a2 rfl rfl Try.underlying23 (.int .i64 0) 8 Jm rfl (by decide) (by omega) 0 (ok:=fun _=>True) (okp:=fun _=>True) rfl (fun _ hk=>hk) trivial (od) (Nat.le_trans (Nat.mul_le_mul_right _ (od:a2.toNat≤35184372088832)) (by omega)) (Below.refl _ _) (Nat.le_refl _) ?_;intro v369 w27 ho28 hb hg_ hnew_;clear hg_ hnew_;(first | rw[← Ny368.out]at ho28 | (simp only[Int.reduceToNat]at ho28;rw[← Ny368.out]at ho28));replace HO_7:=eS HO_7 (Kd.R_base ho28) hb;replace HO_11:=eS HO_11 (Kd.R_base ho28) hb;have HO370:=am (Kd.R_lower (Kd.R_new' ho28 (Kd.R_lt (wR HO_8))) (bz HB));replace HO_8:=eR HO_8 (Kd.R_base ho28) hb;replace HB:=bq HB hb;clear hb ho28;have p25:0≤(x34_2:Int):=od;have q25:(x34_2:Int) < ((y368.length:Int):Int):=od;obtain⟨go25,co25,eo25,gb25,gl25,cl25,HG25⟩:=Kd.R_form HO370.out (by omega);(first | cases eo25 | (injection eo25 with ea_ en_ ec_;(first | subst ea_ | (injection ea_ with ea_;subst ea_));subst ec_;clear en_));have GB25:=am gb25;have GG25:=am HG25;clear gb25 gl25 HG25;obtain⟨hx25_0,hf25_0⟩:=Kd.R_celln 0 HO370.out (x34_2:Int) p25 q25;replace p25:=eq_true p25;replace q25:=eq_true q25;have n_:=am (Kd.R_mono (ok':=(fun k_=>some k_≠(.slice Ao26 x8_2.length co26:Value).ownBlock)) HO370.out (fun k_ hk=>hk.2));clear HO370;have HO370:=n_;clear n_;obtain⟨hy29_,hz29_⟩:=Kd.R_celln 0 HO370.out (x34_2:Int) (od) (od);have HP29:=Kd.R_putg HO370.out (x34_2:Int) 1))
        obtain⟨w30,hw⟩:∃ w_,w_=(w27.setCell ⟨go25,(x34_2:Int).toNat,none⟩ (.int .i64 1)):=⟨_,rfl⟩
        rw[← hw]
        (have hg:w27.grownBy w30 (some go25):=(by rw[hw];exact HP29.2);have hp_:Kd.R (Kd.int .i64) 3 w30 w.heap.size (fun k_=>some k_≠(.slice Ao26 x8_2.length co26:Value).ownBlock) (.slice (some ⟨go25,0,none⟩) y368.length co25) y371:=(by rw[hw,Ny371.out];exact HP29.1);clear HP29;have n0_:=am (Kd.S_after (v:=(.slice (some ⟨go25,0,none⟩) y368.length co25)) (v1:=(.slice (some ⟨go25,0,none⟩) y368.length co25)) (ok:=(fun k_=>some k_≠(.slice Ao26 x8_2.length co26:Value).ownBlock∧some k_≠(u11:Value).ownBlock)) (by (with_reducible repeat (first | apply Kd.S_alloc | apply Kd.S_drewN | apply Kd.S_drew));first | exact HO_7.out | exact Kd.S_mono HO_7.out (fun _ h=>⟨⟨h.1.2,h.1.1⟩,h.2⟩)) hg (.inl rfl));have n1_:=am (Kd.R_after (v:=(.slice (some ⟨go25,0,none⟩) y368.length co25)) (v1:=(.slice (some ⟨go25,0,none⟩) y368.length co25)) (ok:=(fun _=>True)) (by (with_reducible repeat (first | apply Kd.R_alloc | apply Kd.R_drewN | apply Kd.R_drew));first | exact HO_8.out | exact Kd.S_mono HO_8.out (fun _ h=>⟨⟨h.1.2,h.1.1⟩,h.2⟩)) hg (.inl rfl));have n2_:=am (Kd.S_after (v:=(.slice (some ⟨go25,0,none⟩) y368.length co25)) (v1:=(.slice (some ⟨go25,0,none⟩) y368.length co25)) (ok:=(fun k_=>some k_≠(.slice Ao8 t350.length co8:Value).ownBlock∧some k_≠(.slice Ao26 x8_2.length co26:Value).ownBlock)) (by (with_reducible repeat (first | apply Kd.S_alloc | apply Kd.S_drewN | apply Kd.S_drew));first | exact HO_11.out | exact Kd.S_mono HO_11.out (fun _ h=>⟨⟨h.1.2,h.1.1⟩,h.2⟩)) hg (.inl rfl));have n3_:=am (hp_);have n4_:=am ((by rw[hw];exact Qi (HB.out) GB25.out:Below w.heap.size w w30));clear HO_7;clear HO_8;clear HO_11;clear HO370;clear HB;have HO_7:=n0_;have HO_8:=n1_;have HO_11:=n2_;have HO370:=n3_;have HB:=n4_;clear n0_ n1_ n2_ n3_ n4_;clear hg hw hp_)
        go_loopg [47] k2 (fun kq v47 w'=>∃ (x13_3:List Int) (x47_3:Int),v47=.int .i64 x47_3∧qf (qh.l2 kq a0 a2 t350 x8_2 x11_2 x34_2 x13_3 a2 x34_2 t350 (t350.length:Int) x47_3=some r)∧qf (kq≤k2)∧qf (Kd.S (Kd.slice 3 (Kd.int .i64)) 23 w' w.heap.size (fun k_=>some k_≠((.slice Ao26 x8_2.length co26):Value).ownBlock∧some k_≠(u11:Value).ownBlock∧some k_≠((.slice (some ⟨go25,0,none⟩) y368.length co25):Value).ownBlock) (.slice Ao8 t350.length co8) t350)∧qf (Kd.R (Kd.int .i64) 3 w' w.heap.size (fun k_=>some k_≠((.slice (some ⟨go25,0,none⟩) y368.length co25):Value).ownBlock) (.slice Ao26 x8_2.length co26) x8_2)∧qf (Kd.S (Kd.slice 3 (Kd.int .i64)) 23 w' w.heap.size (fun k_=>some k_≠((.slice Ao8 t350.length co8):Value).ownBlock∧some k_≠((.slice Ao26 x8_2.length co26):Value).ownBlock∧some k_≠((.slice (some ⟨go25,0,none⟩) y368.length co25):Value).ownBlock∧some k_≠((.slice Ao8 t350.length co8):Value).ownBlock) u11 x11_2)∧qf (Kd.R (Kd.int .i64) 3 w' w.heap.size (fun k_=>some k_≠((.slice Ao26 x8_2.length co26):Value).ownBlock) (.slice (some ⟨go25,0,none⟩) y368.length co25) x13_3)∧qf (Kd.S (Kd.slice 3 (Kd.int .i64)) 23 w' w.heap.size (fun k_=>some k_≠((.slice Ao26 x8_2.length co26):Value).ownBlock∧some k_≠(u11:Value).ownBlock∧some k_≠((.slice (some ⟨go25,0,none⟩) y368.length co25):Value).ownBlock) (.slice Ao8 t350.length co8) t350)∧qf (Below w.heap.size w w'))
        case atStart=>exact⟨(y371),(0),fr,H',⟨Nat.le_refl _⟩,⟨Kd.S_below (Kd.S_mono HO_7.out (fun _ hk=>⟨hk.1.1,⟨hk.1.2,hk.2⟩⟩)) gs⟩,⟨Kd.R_below (Kd.R_mono HO_8.out (fun _ hk=>hk.2)) gs⟩,⟨Kd.S_below (Kd.S_mono HO_11.out (fun _ hk=>⟨hk.1.1,⟨hk.1.2,⟨hk.2,hk.1.1⟩⟩⟩)) gs⟩,⟨wR HO370⟩,⟨Kd.S_below (Kd.S_mono HO_7.out (fun _ hk=>⟨hk.1.1,⟨hk.1.2,hk.2⟩⟩)) gs⟩,⟨bw HB⟩⟩
        case round=>
         clear H';try clear c1;try clear c2;try clear p2;try clear q2;try clear hx2;try clear c3;try clear p3;try clear q3;try clear hx3;try clear p6;try clear c9;try clear c9b0;try clear c10;try clear c10b0;try clear c11;try clear c11b0
         try clear c13;try clear c15;try clear c17;try clear c17b0;try clear c19;try clear c21;try clear c21b0;try clear c21b1;try clear c22;try clear c22b0;try clear c22b1;try clear c23;try clear c23b0;try clear c24;try clear c24b0;try clear p25
         try clear q25;try clear hx25;try clear hf25;try clear hx25_0;try clear hx356_0;try clear p2;try clear p25;try clear p3;try clear p356;try clear p6;try clear q25;try clear q3;try clear q356
         obtain⟨x13_3,x47_3,rfl,HA,HK3,HO_7,HO_8,HO_11,HO_13,HO_45,HB⟩:=hrel
         have hl13_3:=(Kd.R_reads' HO_13.out).1
         rw[hl13_3]at HO_13
         (try simp only[hl13_3])
         (try simp only[hl13_3]at HO_7)
         (try simp only[hl13_3]at HO_8)
         (try simp only[hl13_3]at HO_11)
         (try simp only[hl13_3]at HO_45)
         cases gk with
         | zero=>exact absurd HA.out (by simp[qh.l2])
         | succ k3=>
          have H:=HA.out;clear HA
          simp only[qh.l2]at H
          by_cases c31:x47_3 < (t350.length:Int)
          ·rw[if_pos c31]at H
           have c31b0:=decide_eq_true c31;clear c31;replace H:=ifn H;obtain⟨c32,H⟩:=H;have c32b0:=decide_eq_true c32;clear c32;replace H:=ifn H;obtain⟨c33,H⟩:=H;have c33b0:=decide_eq_true c33;clear c33;replace H:=ifn H;obtain⟨c34,H⟩:=H
           have c34b0:=decide_eq_true c34;clear c34;replace H:=ifn H;obtain⟨c35,H⟩:=H;have c35b0:=decide_eq_true c35;clear c35;replace H:=ifn H;obtain⟨c36,H⟩:=H;have c36b0:=decide_eq_true c36;clear c36;replace H:=bs H;obtain⟨t375,A37,H⟩:=H
           replace H:=ifn H;obtain⟨c38,H⟩:=H;have c38b0:=decide_eq_true c38;clear c38;replace H:=ifn H;obtain⟨c39,H⟩:=H;have c39b0:=decide_eq_true c39;clear c39
           generalize hy376:(x13_3.set ((rd x8_2 x47_3):Int).toNat t375:List Int)=y376 at H
           have Ny376:=am hy376.symm;clear hy376;have H':=am H;clear H
           have p372:0≤(x47_3:Int):=od
           have q372:x47_3 < (t350.length:Int):=od
           obtain⟨ad372,A372_0,c372_0,e372,hx372_0,hl372_0,hi372_0⟩:=qak (Kd.S_reads' HO_45.out).2.2 x47_3 p372 q372
           cases e372
           obtain⟨ce372,hce372,hMe372,hcc372⟩:=Kd.S_get HO_45.out [] x47_3 p372 (by first | exact q372 | exact od | (have e_:=(Kd.S_reads' HO_45.out).1;omega))
           obtain⟨ve372_0,rfl,ge372_0⟩:=hMe372
           have hv372_0:=hcc372 0 _ rfl
           rw[Nat.add_zero,show ((Kd.slice 3 (Kd.int .i64))).sz=1 from rfl,Nat.mul_one]at hv372_0
           replace hv372_0:=Option.some.inj (hv372_0.symm.trans hx372_0)
           rw[hv372_0]at ge372_0
           have HL372_0:=am (show Kd.R (Kd.int .i64) 3 _ _ _ _ (ju t350 x47_3) from ge372_0)
           clear hv372_0 ge372_0;clear hcc372 hce372
           have HR372_0:=am hi372_0
           have HC372_0:=am hl372_0
           clear hi372_0 hl372_0;replace p372:=eq_true p372;replace q372:=eq_true q372
           try go_wp2
           replace HO_7:=am (Kd.S_drew HO_7.out)
           replace HO_8:=am (Kd.R_drew HO_8.out)
           replace HO_11:=am (Kd.S_drew HO_11.out)
           replace HO_13:=am (Kd.R_drew HO_13.out)
           replace HO_45:=am (Kd.S_drew HO_45.out)
           replace HL372_0:=am (Kd.R_drew HL372_0.out)
           replace HR372_0:=am (Kd.C_drew HR372_0.out)
           replace HB:=am (Qg HB.out)
           have p373:0≤(x47_3:Int):=od
           have q373:x47_3 < (x8_2.length:Int):=od
           obtain⟨ad373,e373,hx373_0⟩:=Kd.at_int (Kd.R_reads' HO_8.out).2.2 x47_3 p373 q373
           cases e373;replace p373:=eq_true p373;replace q373:=eq_true q373
           have p374:0≤(x34_2:Int):=od
           have q374:x34_2 < ((ju t350 x47_3).length:Int):=od
           obtain⟨ad374,e374,hx374_0⟩:=Kd.at_int HR372_0.out x34_2 p374 q374
           cases e374;replace p374:=eq_true p374;replace q374:=eq_true q374
           refine st 14 (fun w'=>w'.cell? (ad373.add (x47_3).toNat)=some (.int .i64 (rd x8_2 x47_3))∧w'.cell? (ad374.add (x34_2).toNat)=some (.int .i64 (rd (ju t350 x47_3) x34_2))) [13] qh.tab18 qh.bits18 (⟨hx373_0,hx374_0⟩) fun hHeld HT_ HW_=>?_
           generalize wr.drew=w41 at HO_7 HO_8 HO_11 HO_13 HO_45 HL372_0 HR372_0 HB hx373_0 hx374_0 hHeld ⊢
           refine pz 0 52 HT_ ?_;refine pz 1 53 HT_ ?_;refine pz 2 54 HT_ ?_;refine pz 3 55 HT_ ?_;refine pz 5 57 HT_ ?_;refine pz 6 58 HT_ ?_;refine pz 7 59 HT_ ?_;refine pz 10 62 HT_ ?_;refine tk 4 56 HT_ HW_ hHeld ?_;refine tk 8 60 HT_ HW_ hHeld ?_
           refine pz 9 61 HT_ ?_
           refine on 11 (some 63) HT_ fun K hK=>?_
           refine gs_ Try.func126 #[.int .i64 (wrap64 (-(rd (ju t350 x47_3) x34_2))),.int .i64 a0] ?_
           with_reducible refine(Z1.calls (wrap64 (-(rd (ju t350 x47_3) x34_2))) a0 t375 _ A37.out).mono ?_
           rintro e w' ⟨rfl,⟨nd,rfl⟩⟩
           refine⟨_,rfl,?_⟩
           have p40:0≤((rd x8_2 x47_3):Int):=od
           have q40:((rd x8_2 x47_3):Int) < ((x13_3.length:Int):Int):=od
           obtain⟨hx40_0,hf40_0⟩:=Kd.R_celln 0 HO_13.out ((rd x8_2 x47_3):Int) p40 q40
           replace p40:=eq_true p40;replace q40:=eq_true q40
           have HP42:=Kd.R_putn HO_13.out ((rd x8_2 x47_3):Int) t375
           rw[← Ny376.out]at HP42
           have HQ42:=am HP42
           clear HP42
           refine hK.out _ _ ⟨hHeld.1,hHeld.2⟩ fun hHeld=>nz ?_
           clear hK K;refine pz 12 64 HT_ ?_
           refine la 13 none HT_ fun K hK=>?_
           refine qgw (w1:=?_) (by rfl) rfl ?_ ?_
           rotate_left
           ·go_simp
            rfl
           refine hK.out _ _ ?_
           clear hK K
           refine Q3 (Qa HT_.out (by kernel_rfl)) ?_
           try go_wp2
           (try simp only[← hl13_3])
           go_roundg k3
           case measure=>have:=HK1.out;have:=HK2.out;have:=HK3.out;omega
           case rel=>exact⟨(y376),(wrap64 (x47_3+1)),fr,H',⟨by have:=HK1.out;have:=HK2.out;have:=HK3.out;omega⟩,⟨by (try simp only[hl13_3]);(with_reducible repeat (first | apply Kd.S_alloc | apply Kd.S_drewN | apply Kd.S_drew));exact Kd.S_mono (Kd.S_far (p:=⟨go25,((rd x8_2 x47_3):Int).toNat,none⟩) (Kd.S_mono HO_7.out (fun k_ hk=>(⟨hk,fun e_=>hk.2.2 (by rw[e_];rfl)⟩:_∧k_≠go25))) (fun _ hk=>hk.2) (.int .i64 t375)) (fun _ hk=>⟨hk.1.1,⟨hk.1.2.1,hk.1.2.2⟩⟩)⟩,⟨by (try simp only[hl13_3]);(with_reducible repeat (first | apply Kd.R_alloc | apply Kd.R_drewN | apply Kd.R_drew));exact Kd.R_mono (Kd.R_far (p:=⟨go25,((rd x8_2 x47_3):Int).toNat,none⟩) (Kd.R_mono HO_8.out (fun k_ hk=>(⟨hk,fun e_=>hk (by rw[e_];rfl)⟩:_∧k_≠go25))) (fun _ hk=>hk.2) (.int .i64 t375)) (fun _ hk=>hk.1)⟩,⟨by (try simp only[hl13_3]);(with_reducible repeat (first | apply Kd.S_alloc | apply Kd.S_drewN | apply Kd.S_drew));exact Kd.S_mono (Kd.S_far (p:=⟨go25,((rd x8_2 x47_3):Int).toNat,none⟩) (Kd.S_mono HO_11.out (fun k_ hk=>(⟨hk,fun e_=>hk.2.2.1 (by rw[e_];rfl)⟩:_∧k_≠go25))) (fun _ hk=>hk.2) (.int .i64 t375)) (fun _ hk=>⟨hk.1.1,⟨hk.1.2.1,⟨hk.1.2.2.1,hk.1.2.2.2⟩⟩⟩)⟩,⟨by (try simp only[hl13_3]);(with_reducible repeat (first | apply Kd.R_alloc | apply Kd.R_drewN | apply Kd.R_drew));exact HQ42.out⟩,⟨by (try simp only[hl13_3]);(with_reducible repeat (first | apply Kd.S_alloc | apply Kd.S_drewN | apply Kd.S_drew));exact Kd.S_mono (Kd.S_far (p:=⟨go25,((rd x8_2 x47_3):Int).toNat,none⟩) (Kd.S_mono HO_45.out (fun k_ hk=>(⟨hk,fun e_=>hk.2.2 (by rw[e_];rfl)⟩:_∧k_≠go25))) (fun _ hk=>hk.2) (.int .i64 t375)) (fun _ hk=>⟨hk.1.1,⟨hk.1.2.1,hk.1.2.2⟩⟩)⟩,⟨bx_ HB⟩⟩
          ·rw[if_neg c31]at H
           have c31b0:=decide_eq_false c31;clear c31;replace H:=ifn H;obtain⟨c43,H⟩:=H;have LMc43:=am c43;clear c43
           generalize hy377:(x11_2++[x13_3]:List (List Int))=y377 at H
           have Ny377:=am hy377.symm;clear hy377;have H':=am H;clear H
           go_wp2_with (first | ((with_reducible refine jr (b:=.append) (xs:=#[.tmp 66,.tmp 68]) rfl ?_);at_builtin;refine Kd.S_append (Kd.slice 3 (Kd.int .i64)) (w0:=w) w.heap.size rfl (.tmp 66) (.tmp 68) 47 23 (.slice none 0 0) 24 rfl Try.underlying47 Zu rfl (by decide) (by omega) u11 x11_2 x13_3 [.slice (some ⟨go25,0,none⟩) x13_3.length co25] (fun k_=>some k_≠(.slice Ao8 t350.length co8:Value).ownBlock∧some k_≠(.slice Ao26 x8_2.length co26:Value).ownBlock∧some k_≠(.slice Ao8 t350.length co8:Value).ownBlock) (fun k_=>some k_=(.slice (some ⟨go25,0,none⟩) x13_3.length co25:Value).ownBlock) rfl rfl ?aP (fun k_ hk_=>((Kd.R_mono (ok':=fun k_=>((fun k_=>some k_≠(.slice Ao8 t350.length co8:Value).ownBlock∧some k_≠(.slice Ao26 x8_2.length co26:Value).ownBlock∧some k_≠(.slice Ao8 t350.length co8:Value).ownBlock)) k_∧some k_≠(u11:Value).ownBlock) (Kd.R_apart' (Kd.R_apart' (Kd.R_apart' (HO_13.out) (Kd.S_typed HO_7.out) (by decide)) (Kd.S_typed HO_45.out) (by decide)) (Kd.S_typed HO_11.out) (by decide)) (fun k_ hk=>⟨⟨hk.1.1.2,⟨hk.1.1.1,hk.1.2⟩⟩,hk.2⟩))).1 k_ hk_.symm) ?aF ?aO ?aB ?aS ?aL ?_;(case aP=>exact Kd.M_row (Kd.R_mono (Kd.R_tight rfl (Kd.R_mono (ok':=fun k_=>((fun k_=>some k_≠(.slice Ao8 t350.length co8:Value).ownBlock∧some k_≠(.slice Ao26 x8_2.length co26:Value).ownBlock∧some k_≠(.slice Ao8 t350.length co8:Value).ownBlock)) k_∧some k_≠(u11:Value).ownBlock) (Kd.R_apart' (Kd.R_apart' (Kd.R_apart' (HO_13.out) (Kd.S_typed HO_7.out) (by decide)) (Kd.S_typed HO_45.out) (by decide)) (Kd.S_typed HO_11.out) (by decide)) (fun k_ hk=>⟨⟨hk.1.1.2,⟨hk.1.1.1,hk.1.2⟩⟩,hk.2⟩))) (fun _ h_=>h_)));(case aB=>exact(bw HB));(case aF=>exact(fun k_ hk=>⟨Kd.fresh' (Kd.S_lt (wS HO_7)) k_ hk,Kd.fresh' (Kd.R_lt (wR HO_8)) k_ hk,Kd.fresh' (Kd.S_lt (wS HO_45)) k_ hk⟩));(case aO=>exact(oS_ HO_11 (fun k_ hk=>⟨⟨hk.1,⟨hk.2.1,hk.2.2.2⟩⟩,fun e_=>hk.2.2.1 e_⟩)));(case aS=>exact(bz HB));(case aL=>have:=LMc43.out;omega);intro v378 w44 ho hb hg hat;rw[← Ny377.out]at ho;replace HO_7:=am (Kd.S_after (ok:=(fun k_=>some k_≠(.slice Ao26 x8_2.length co26:Value).ownBlock∧some k_≠(.slice (some ⟨go25,0,none⟩) x13_3.length co25:Value).ownBlock)) (oS_ HO_7 (fun _ hk=>⟨⟨hk.1,hk.2.2⟩,hk.2.1⟩)) hg hat);replace HO_8:=am (Kd.R_over' (wR HO_8) (Kd.S_typed (wS HO_11)) (by decide) hg);replace HO_45:=am (Kd.S_after (ok:=(fun k_=>some k_≠(.slice Ao26 x8_2.length co26:Value).ownBlock∧some k_≠(.slice (some ⟨go25,0,none⟩) x13_3.length co25:Value).ownBlock)) (oS_ HO_45 (fun _ hk=>⟨⟨hk.1,hk.2.2⟩,hk.2.1⟩)) hg hat);replace HB:=am (hb);have HO379:=am (ho);clear HO_11 HO_13;clear ho hb hg hat))
           (try simp only[← hl13_3])
           go_roundg k3
           case measure=>have:=HK1.out;have:=HK2.out;have:=HK3.out;omega
           case rel=>exact⟨(x8_2),(y377),(wrap64 (x34_2+1)),fr,H',⟨by have:=HK1.out;have:=HK2.out;have:=HK3.out;omega⟩,⟨by (try simp only[hl13_3]);(with_reducible repeat (first | apply Kd.S_alloc | apply Kd.S_drewN | apply Kd.S_drew));exact Kd.S_mono HO_7.out (fun _ hk=>⟨hk.1.1,hk.2⟩)⟩,⟨by (try simp only[hl13_3]);(with_reducible repeat (first | apply Kd.R_alloc | apply Kd.R_drewN | apply Kd.R_drew));exact Kd.R_mono HO_8.out (fun _ hk=>trivial)⟩,⟨by (try simp only[hl13_3]);(with_reducible repeat (first | apply Kd.S_alloc | apply Kd.S_drewN | apply Kd.S_drew));exact Kd.S_mono HO379.out (fun _ hk=>⟨hk.1,hk.2.1⟩)⟩,⟨bw HB⟩⟩
      ·rw[if_neg c17]at H
       have c17b0:=decide_eq_false c17;clear c17;replace H:=bs H;obtain⟨t364,A45,H⟩:=H;obtain rfl:=Option.some.inj H
       obtain⟨Ao46,co46,eo46⟩:=Kd.S_slice HO_11.out
       subst eo46
       go_wp2_with (first | ((with_reducible refine qt (f:=152) rfl ?_);refine gl 73 Try.func152 #[.int .i64 a0,.slice Ao46 x11_2.length co46] ?_;(with_reducible refine(zy.calls k2 a0 _ _ x11_2 t364 _ ?_ ?_ A45.out).mono ?_);exact Kd.C_below (Kd.S_reads' HO_11.out).2.2 gs;exact(Kd.S_reads' HO_11.out).2.1;rintro e w47 ⟨v365,rfl,ho0,hb⟩;refine⟨_,rfl,?_⟩;have HO366:=am (Kd.S_lower (Kd.S_new' (Kd.S_new' (Kd.S_new' ho0 (Kd.S_lt (wS HO_7))) (Kd.R_lt (wR HO_8))) (Kd.S_lt (wS HO_11))) (bz HB));replace HO_7:=eS HO_7 (Kd.S_base ho0) hb;replace HO_8:=am (Kd.R_below (wR HO_8) hb);replace HO_11:=eS HO_11 (Kd.S_base ho0) hb;replace HB:=bq HB hb;(try clear hb);(try clear ho0)))
       go_ret
       exact⟨_,fq,Kd.S_below (Kd.S_mono HO366.out (fun _ hk=>trivial)) gs,bw HB⟩
end Go.Proofs.Ytmgbpmihbljngaa.PA
