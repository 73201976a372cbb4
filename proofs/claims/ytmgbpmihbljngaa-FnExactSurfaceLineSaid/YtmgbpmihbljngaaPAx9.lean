-- Written by xprint.py, a program of this claim's own (over the kit's print.py)
import Derived.Test.YtmgbpmihbljngaaPAx5
import Derived.Test.YtmgbpmihbljngaaPAx8
namespace Go.Proofs.Ytmgbpmihbljngaa.PA
set_option maxHeartbeats 8000000
set_option maxRecDepth 100000
open Go.RowKit Go.Proofs.YtmgbpmihbljngaaW.PrintWords Go.Proofs.YtmgbpmihbljngaaW.PrintLast Go.Proofs.YtmgbpmihbljngaaW.PrintMore
attribute [local go_sem] Qs Qr Qx Qw Qf Qe Qq Qp
set_option linter.unusedVariables false
set_option linter.unusedSimpArgs false
def jt.f (a0:Int) (a1_0:Int) (a1_1:Int) (a1_2:Int):Option (List Int):=if a0=0 then (none) else (some (([Int.tmod (wrap64 (a1_0*a1_0)) a0,Int.tmod (wrap64 (a1_0*a1_1)) a0,Int.tmod (wrap64 (a1_0*a1_2)) a0,Int.tmod (wrap64 (a1_1*a1_1)) a0,Int.tmod (wrap64 (a1_1*a1_2)) a0,Int.tmod (wrap64 (a1_2*a1_2)) a0]:List Int)))
def jt.T4 :Bool×List (List Nat×List Nat):=(true,[([],[]),([],[]),([0,1],[0,1]),([],[]),([2,3],[2,3]),([],[]),([],[]),([5,6],[5,6]),([],[]),([7,8],[7,8]),([],[]),([],[]),([10,11],[10,11]),([],[]),([12,13],[12,13]),([],[]),([],[]),([15,16],[15,16]),([],[]),([17,18],[17,18]),([],[]),([],[]),([20,21],[20,21]),([],[]),([22,23],[22,23]),([],[]),([],[]),([25,26],[25,26]),([],[]),([27,28],[27,28]),([4,9,14,19,24,29],[4,9,14,19,24,29]),([30,0,1,2,3,4,5,6,7,8,9,10,11,12,13,14,15,16,17,18,19,20,21,22,23,24,25,26,27,28,29,30],[30])])
def jt.B4 :List Nat:=[0,0,3,0,15,0,0,96,0,480,0,0,3072,0,15360,0,0,98304,0,491520,0,0,3145728,0,15728640,0,0,100663296,0,503316480,1073741823,2147483647]
theorem jt.tab4 :rtab .any (Z0 Try.f133 4)=jt.T4:=by kernel_rfl
theorem jt.bits4 :Qj jt.T4.2 jt.B4=true:=by kernel_rfl
theorem jt.calls (a0:Int) (a1_0:Int) (a1_1:Int) (a1_2:Int) (r:List Int) (w:World) (h:jt.f a0 a1_0 a1_1 a1_2=some r):
  Calls Try.prog 133 #[.int .i64 a0,.agg #[.int .i64 a1_0,.int .i64 a1_1,.int .i64 a1_2]] w fun e w'=>∃ v0_:Value,e=.returned (v0_)∧Kd.R (Kd.int .i64) 3 w' w.heap.size (fun _=>True) v0_ r∧Below w.heap.size w w':=by
 have hu43:=Try.underlying43
 have HB:=am (Below.refl w.heap.size w)
 have H:(if a0=0 then (none) else (some (([Int.tmod (wrap64 (a1_0*a1_0)) a0,Int.tmod (wrap64 (a1_0*a1_1)) a0,Int.tmod (wrap64 (a1_0*a1_2)) a0,Int.tmod (wrap64 (a1_1*a1_1)) a0,Int.tmod (wrap64 (a1_1*a1_2)) a0,Int.tmod (wrap64 (a1_2*a1_2)) a0]:List Int))))=some r:=h
 clear h;replace H:=ifm H;obtain⟨c3,H⟩:=H;have c3b0:=beq_eq_false_iff_ne.mpr c3;have c3b1:=bne_iff_ne.mpr c3
 generalize hy238:(([Int.tmod (wrap64 (a1_0*a1_0)) a0,Int.tmod (wrap64 (a1_0*a1_1)) a0,Int.tmod (wrap64 (a1_0*a1_2)) a0,Int.tmod (wrap64 (a1_1*a1_1)) a0,Int.tmod (wrap64 (a1_1*a1_2)) a0,Int.tmod (wrap64 (a1_2*a1_2)) a0]:List Int))=y238 at H
 have Ny238:=am hy238.symm;clear hy238;obtain rfl:=Option.some.inj H
 go_enter Try.func133,Try.ntmps133
 try go_wp2_with (first | ((with_reducible refine zb (N:=3) rfl ?_);refine xe_ 3 43 #[.int .i64 a1_0,.int .i64 a1_1,.int .i64 a1_2] ?_;intro gb237 hg w4 hbox hb;have BK237:=am (hbox);have GW237:=am ((by rw[hg];exact(bz HB):w.heap.size≤gb237));have GE237:=am ((by rw[hg];exact(bz HB):w.heap.size≤gb237));replace HB:=bq HB hb;clear hb hbox hg;have hcz5_0:w4.cell? ⟨gb237,0,none⟩=some (.int .i64 a1_0):=(qe BK237.out 0).trans rfl;have hcz5_1:w4.cell? ⟨gb237,1,none⟩=some (.int .i64 a1_1):=(qe BK237.out 1).trans rfl;have hcz5_2:w4.cell? ⟨gb237,2,none⟩=some (.int .i64 a1_2):=(qe BK237.out 2).trans rfl;have hfz5_0:=ql BK237.out 0;have hfz5_1:=ql BK237.out 1;have hfz5_2:=ql BK237.out 2))
 replace BK237:=am (qw BK237.out)
 replace HB:=am (Qg HB.out)
 refine st 32 (fun w'=>True) [] jt.tab4 jt.bits4 (trivial) fun hHeld HT_ HW_=>?_
 generalize w4.drew=w6 at BK237 HB hHeld ⊢
 refine pz 0 17 HT_ ?_;refine pz 1 18 HT_ ?_;refine pz 2 19 HT_ ?_;refine pz 3 20 HT_ ?_;refine pz 4 21 HT_ ?_;refine pz 5 22 HT_ ?_;refine pz 6 23 HT_ ?_;refine pz 7 24 HT_ ?_;refine pz 8 25 HT_ ?_;refine pz 9 26 HT_ ?_;refine pz 10 27 HT_ ?_
 refine pz 11 28 HT_ ?_;refine pz 12 29 HT_ ?_;refine pz 13 30 HT_ ?_;refine pz 14 31 HT_ ?_;refine pz 15 32 HT_ ?_;refine pz 16 33 HT_ ?_;refine pz 17 34 HT_ ?_;refine pz 18 35 HT_ ?_;refine pz 19 36 HT_ ?_;refine pz 20 37 HT_ ?_;refine pz 21 38 HT_ ?_
 refine pz 22 39 HT_ ?_;refine pz 23 40 HT_ ?_;refine pz 24 41 HT_ ?_;refine pz 25 42 HT_ ?_;refine pz 26 43 HT_ ?_;refine pz 27 44 HT_ ?_;refine pz 28 45 HT_ ?_;refine pz 29 46 HT_ ?_
 refine on 30 (some 47) HT_ fun K hK=>?_
 refine Kd.R_lit_step (Kd.int .i64) _ 3 ?hg (N:=47) ?hd (xs:=([Int.tmod (wrap64 (a1_0*a1_0)) a0,Int.tmod (wrap64 (a1_0*a1_1)) a0,Int.tmod (wrap64 (a1_0*a1_2)) a0,Int.tmod (wrap64 (a1_1*a1_1)) a0,Int.tmod (wrap64 (a1_1*a1_2)) a0,Int.tmod (wrap64 (a1_2*a1_2)) a0]:List Int)) (inner:=[.int .i64 (Int.tmod (wrap64 (a1_0*a1_0)) a0),.int .i64 (Int.tmod (wrap64 (a1_0*a1_1)) a0),.int .i64 (Int.tmod (wrap64 (a1_0*a1_2)) a0),.int .i64 (Int.tmod (wrap64 (a1_1*a1_1)) a0),.int .i64 (Int.tmod (wrap64 (a1_1*a1_2)) a0),.int .i64 (Int.tmod (wrap64 (a1_2*a1_2)) a0)]) (ok:=fun _=>True) (okp:=fun _=>True) ?hr ?hp (fun _ hk=>hk) trivial (Below.refl _ _) (Nat.le_refl _) (by simp) ?_;(case hd=>rfl);(case hg=>rfl);(case hr=>first | (go_simp;done) | (go_simp;rfl));(case hp=>exact(Reps.one (show Kd.M (Kd.int .i64) _ _ _ (Int.tmod (wrap64 (a1_0*a1_0)) a0) [.int .i64 (Int.tmod (wrap64 (a1_0*a1_0)) a0)] from rfl) (Reps.one (show Kd.M (Kd.int .i64) _ _ _ (Int.tmod (wrap64 (a1_0*a1_1)) a0) [.int .i64 (Int.tmod (wrap64 (a1_0*a1_1)) a0)] from rfl) (Reps.one (show Kd.M (Kd.int .i64) _ _ _ (Int.tmod (wrap64 (a1_0*a1_2)) a0) [.int .i64 (Int.tmod (wrap64 (a1_0*a1_2)) a0)] from rfl) (Reps.one (show Kd.M (Kd.int .i64) _ _ _ (Int.tmod (wrap64 (a1_1*a1_1)) a0) [.int .i64 (Int.tmod (wrap64 (a1_1*a1_1)) a0)] from rfl) (Reps.one (show Kd.M (Kd.int .i64) _ _ _ (Int.tmod (wrap64 (a1_1*a1_2)) a0) [.int .i64 (Int.tmod (wrap64 (a1_1*a1_2)) a0)] from rfl) (Reps.one (show Kd.M (Kd.int .i64) _ _ _ (Int.tmod (wrap64 (a1_2*a1_2)) a0) [.int .i64 (Int.tmod (wrap64 (a1_2*a1_2)) a0)] from rfl) (Reps.none _ _))))))))
 intro v239 w7 ho8 hb hg_ hnew_
 clear hg_ hnew_
 (first | rw[← Ny238.out]at ho8 | (simp only[Int.reduceToNat]at ho8;rw[← Ny238.out]at ho8))
 have HO240:=am (Kd.R_lower ho8 (zo (bx_ HB)))
 replace BK237:=am (qv (g:=gb237) (o:=.cells #[.int .i64 a1_0,.int .i64 a1_1,.int .i64 a1_2] 43 (0,0)) (pk_ BK237) hb)
 replace HB:=am (jg (bx_ HB) hb)
 clear hb ho8
 refine hK.out _ _ trivial fun hHeld=>nz ?_
 clear hK K;refine pz 31 4 HT_ ?_
 refine Q3 (Qa HT_.out (by kernel_rfl)) ?_
 try go_wp2
 go_ret
 exact⟨_,fq,wR HO240,bx_ HB⟩
def zw.l0 :Nat→Int→List (S43)→List (List Int)→Int→Option ((List (List Int)))
 | 0,_,_,_,_=>none
 | k+1,x0,x1,x5,x6=>if x6 < (x1.length:Int) then (if 0≤x6 then ((jt.f x0 ((qd x1 x6).f0.f0) ((qd x1 x6).f0.f1) ((qd x1 x6).f0.f2)).bind fun t245=>(if x5.length < 5864062014805 then (zw.l0 k x0 x1 (x5++[t245]) (wrap64 (x6+1))) else (none))) else (none)) else ((qp.f k x0 x5 6).bind fun t251=>(some t251))
def zw.f (k:Nat) (a0:Int) (l1:List (S43)):Option ((List (List Int))):=zw.l0 k a0 l1 (([]:List (List Int))) 0
theorem zw.mono_l :∀ k,(∀ y0 y1 y2 y3,LeO (zw.l0 k y0 y1 y2 y3) (zw.l0 (k+1) y0 y1 y2 y3))
 | 0=>fun _ _ _ _ r h=>by simp[zw.l0]at h
 | k+1=>by
  have ih0:=zw.mono_l k
  ·intro y0 y1 y2 y3
   unfold zw.l0
   repeat' first | (with_reducible first | apply ih0 | apply qp.mono | exact LeO.refl _ | exact LeO.none _ | refine LeO.ite ?_ ?_ | refine LeO.bind ?_ (fun _=>?_)) | (first | apply ih0 | apply qp.mono | exact LeO.none _ | refine LeO.ite ?_ ?_ | refine LeO.bind ?_ (fun _=>?_))
theorem zw.mono :∀ a0 a1 k,LeO (zw.f k a0 a1) (zw.f (k+1) a0 a1):=by
 intro a0 a1 k
 have ih0:=zw.mono_l k
 unfold zw.f
 repeat' first | (with_reducible first | apply ih0 | apply qp.mono | exact LeO.refl _ | exact LeO.none _ | refine LeO.ite ?_ ?_ | refine LeO.bind ?_ (fun _=>?_)) | (first | apply ih0 | apply qp.mono | exact LeO.none _ | refine LeO.ite ?_ ?_ | refine LeO.bind ?_ (fun _=>?_))
theorem zw.calls (k:Nat) (a0:Int) (A1:Option Addr) (c1:Nat) (l1:List (S43)) (r:List (List Int)) (w:World) (hr1:Kd.C k43 w A1 l1.length l1) (hc1:l1.length≤c1) (h:zw.f k a0 l1=some r):
  Calls Try.prog 106 #[.int .i64 a0,.slice A1 l1.length c1] w fun e w'=>∃ v0_:Value,e=.returned (v0_)∧Kd.N (Kd.slice 3 (Kd.int .i64)) 23 w' w.heap.size (fun k_=>(w.heap.size≤k_)) v0_ r∧Below w.heap.size w w':=by
 have hu43:=Try.underlying43
 have HR1:=am hr1
 have HC1:=am hc1
 clear hr1 hc1
 have HB:=am (Below.refl w.heap.size w)
 have H:(zw.l0 k a0 l1 (([]:List (List Int))) 0)=some r:=h
 clear h
 generalize hy241:(([]:List (List Int)))=y241 at H
 have Ny241:=am hy241.symm;clear hy241;have H':=am H;clear H
 go_enter Try.func106,Try.ntmps106
 go_wp2_with (first | ((with_reducible refine zb (N:=7) rfl ?_);refine Kd.N_lit (Kd.slice 3 (Kd.int .i64)) _ 23 ?hg (N':=7) ?hd (xs:=([]:List (List Int))) (inner:=[]) (ok:=(fun k_=>(w.heap.size≤k_))) (okp:=(fun k_=>(w.heap.size≤k_))) ?hr ?hp (fun _ hk=>hk) ((show ∀ k_,w.heap.size≤k_→(fun k_=>(w.heap.size≤k_)) k_ from fun k_ hk=>(Nat.le_trans (bz HB) hk)) _ (Nat.le_refl _)) (Below.refl _ _) (Nat.le_refl _) (by simp) ?_;(case hd=>rfl);(case hg=>rfl);(case hr=>first | (go_simp;done) | (go_simp;rfl));(case hp=>exact(Reps.none _ _));intro v242 w3 ho4 hb hg_ hnew_;clear hg_ hnew_;(first | rw[← Ny241.out]at ho4 | (simp only[Int.reduceToNat]at ho4;rw[← Ny241.out]at ho4));have HO243:=am (Kd.N_lower ho4 (bz HB));replace HB:=bq HB hb;clear hb ho4))
 go_loopg [5,6] k (fun kq v5 v6 w'=>∃ (x5_1:List (List Int)) (x6_1:Int),v6=.int .i64 x6_1∧qf (zw.l0 kq a0 l1 x5_1 x6_1=some r)∧qf (kq≤k)∧qf (Kd.N (Kd.slice 3 (Kd.int .i64)) 23 w' w.heap.size (fun k_=>(w.heap.size≤k_)) v5 x5_1)∧qf (Below w.heap.size w w'))
 case atStart=>exact⟨(y241),(0),fr,H',⟨Nat.le_refl _⟩,⟨wN HO243⟩,⟨bw HB⟩⟩
 case round=>
  clear H';try clear c1;try clear p2
  obtain⟨x5_1,x6_1,rfl,HA,HK1,HO_5,HB⟩:=hrel
  cases gk with
  | zero=>exact absurd HA.out (by simp[zw.l0])
  | succ k1=>
   have H:=HA.out;clear HA
   simp only[zw.l0]at H
   by_cases c5:x6_1 < (l1.length:Int)
   ·rw[if_pos c5]at H
    have c5b0:=decide_eq_true c5;clear c5;replace H:=ifn H;obtain⟨c6,H⟩:=H;have c6b0:=decide_eq_true c6;clear c6;replace H:=bs H;obtain⟨t245,A7,H⟩:=H;replace H:=ifn H;obtain⟨c8,H⟩:=H;have LMc8:=am c8;clear c8
    generalize hy248:(x5_1++[t245]:List (List Int))=y248 at H
    have Ny248:=am hy248.symm;clear hy248;have H':=am H;clear H
    have p244:0≤(x6_1:Int):=od
    have q244:x6_1 < (l1.length:Int):=od
    obtain⟨ad244,e244,hx244_0,hx244_1,hx244_2⟩:=Qo HR1.out x6_1 p244 q244
    cases e244
    replace hx244_0:=wcl HB hx244_0
    replace hx244_1:=wcl HB hx244_1
    replace hx244_2:=wcl HB hx244_2
    replace p244:=eq_true p244;replace q244:=eq_true q244
    go_wp2_with (first | ((with_reducible refine qt (f:=133) rfl ?_);refine gl 20 Try.func133 #[.int .i64 a0,.agg #[.int .i64 ((qd l1 x6_1).f0.f0),.int .i64 ((qd l1 x6_1).f0.f1),.int .i64 ((qd l1 x6_1).f0.f2)]] ?_;(with_reducible refine(jt.calls a0 ((qd l1 x6_1).f0.f0) ((qd l1 x6_1).f0.f1) ((qd l1 x6_1).f0.f2) t245 _ A7.out).mono ?_);rintro e w9 ⟨v246,rfl,ho0,hb⟩;refine⟨_,rfl,?_⟩;replace HO_5:=eN HO_5 (Kd.R_base ho0) hb;have HO247:=am (mR ho0 HB);replace HB:=bq HB hb;(try clear hb);(try clear ho0);obtain⟨Ao11,co11,eo11⟩:=Kd.R_slice HO247.out;subst eo11) | ((with_reducible refine jr (b:=.append) (xs:=#[.tmp 14,.tmp 21]) rfl ?_);at_builtin;refine Kd.N_append (Kd.slice 3 (Kd.int .i64)) (w0:=w) w.heap.size rfl (.tmp 14) (.tmp 21) 47 23 (.slice none 0 0) 24 rfl Try.underlying47 Zu rfl (by decide) (by omega) u5 x5_1 t245 [.slice Ao11 t245.length co11] (fun k_=>(w.heap.size≤k_)) (fun k_=>((fun k_=>(w.heap.size≤k_))) k_∧some k_≠(u5:Value).ownBlock) rfl rfl ?aP (fun _ hk=>hk) ?aF ?aO ?aB ?aS ?aL ?_;(case aP=>exact(Kd.FK_slice_mk (Kd.R_reads' (Kd.R_mono (ok':=(fun k_=>((fun k_=>(w.heap.size≤k_))) k_∧some k_≠(u5:Value).ownBlock)) (Kd.R_apart' (HO247.out) (Kd.N_typed HO_5.out) (by decide)) (fun k_ hk=>⟨hk.1.1,hk.2⟩))).2.1 (Kd.R_F (Kd.R_mono (ok':=(fun k_=>((fun k_=>(w.heap.size≤k_))) k_∧some k_≠(u5:Value).ownBlock)) (Kd.R_apart' (HO247.out) (Kd.N_typed HO_5.out) (by decide)) (fun k_ hk=>⟨hk.1.1,hk.2⟩)))));(case aB=>exact(bw HB));(case aF=>exact(fun k_ hk=>(Nat.le_trans (bz HB) hk)));(case aO=>exact(oN_ HO_5 (fun _ hk=>hk.1)));(case aS=>exact(bz HB));(case aL=>have:=LMc8.out;omega);intro v249 w10 ho hb hg hat;rw[← Ny248.out]at ho;replace HB:=am (hb);have HO250:=am (ho);clear HO_5 HO247;clear ho hb hg hat))
    go_roundg k1
    case measure=>have:=HK1.out;omega
    case rel=>exact⟨(y248),(wrap64 (x6_1+1)),fr,H',⟨by have:=HK1.out;omega⟩,⟨wN HO250⟩,⟨bw HB⟩⟩
   ·rw[if_neg c5]at H
    have c5b0:=decide_eq_false c5;clear c5;replace H:=bs H;obtain⟨t251,A12,H⟩:=H;obtain rfl:=Option.some.inj H
    obtain⟨Ao13,co13,eo13⟩:=Kd.N_slice HO_5.out
    subst eo13
    go_wp2_with (first | ((with_reducible refine qt (f:=109) rfl ?_);refine gl 25 Try.func109 #[.int .i64 a0,.slice Ao13 x5_1.length co13,.int .i64 6] ?_;(with_reducible refine(qp.calls k1 a0 (fun k_=>(w.heap.size≤k_)) _ _ x5_1 6 t251 _ ?_ A12.out).mono ?_);exact Kd.N_V (HO_5.out);rintro e w14 ⟨v252,rfl,ho0,hb⟩;refine⟨_,rfl,?_⟩;replace HO_5:=eN HO_5 (Kd.N_base ho0) hb;have HO253:=am (Kd.N_lower (Kd.N_mono (ok':=fun k_=>(w.heap.size≤k_)) ho0 (fun k_ hk_=>Or.elim hk_ (fun hs_=>hs_) (fun hn_=>(Nat.le_trans (bz HB) hn_)))) (bz HB));replace HB:=bq HB hb;(try clear hb);(try clear ho0)))
    go_ret
    exact⟨_,fq,wN HO253,bw HB⟩
def js.f (k:Nat) (a0:Int) (l1:List (S43)):Option (Bool):=if (l1.length:Int)=6 then ((qn.f k a0 l1).bind fun t254=>(if t254=true then ((zw.f k a0 l1).bind fun t255=>(some ((t255.length:Int) == 0))) else (some false))) else (some false)
theorem js.mono :∀ a0 a1 k,LeO (js.f k a0 a1) (js.f (k+1) a0 a1):=by
 intro a0 a1 k
 unfold js.f
 repeat' first | (with_reducible first | apply qn.mono | apply zw.mono | exact LeO.refl _ | exact LeO.none _ | refine LeO.ite ?_ ?_ | refine LeO.bind ?_ (fun _=>?_)) | (first | apply qn.mono | apply zw.mono | exact LeO.none _ | refine LeO.ite ?_ ?_ | refine LeO.bind ?_ (fun _=>?_))
theorem js.calls (k:Nat) (a0:Int) (A1:Option Addr) (c1:Nat) (l1:List (S43)) (r:Bool) (w:World) (hr1:Kd.C k43 w A1 l1.length l1) (hc1:l1.length≤c1) (h:js.f k a0 l1=some r):
  Calls Try.prog 62 #[.int .i64 a0,.slice A1 l1.length c1] w fun e w'=>e=.returned (.bool r)∧Below w.heap.size w w':=by
 have HR1:=am hr1
 have HC1:=am hc1
 clear hr1 hc1
 have HB:=am (Below.refl w.heap.size w)
 have H:(if (l1.length:Int)=6 then ((qn.f k a0 l1).bind fun t254=>(if t254=true then ((zw.f k a0 l1).bind fun t255=>(some ((t255.length:Int) == 0))) else (some false))) else (some false))=some r:=h
 clear h
 by_cases c3:(l1.length:Int)=6
 ·rw[if_pos c3]at H
  have c3b0:=beq_iff_eq.mpr c3;have c3b1:=bne_eq_false_iff_eq.mpr c3;clear c3;replace H:=bs H;obtain⟨t254,A4,H⟩:=H
  by_cases c5:t254=true
  ·subst c5
   rw[if_pos rfl]at H
   replace H:=bs H;obtain⟨t255,A6,H⟩:=H;obtain rfl:=Option.some.inj H
   go_enter Try.func62,Try.ntmps62
   go_wp2_with (first | (go_at_call 105;(with_reducible refine(qn.calls k a0 _ _ l1 true _ ?_ ?_ A4.out).mono ?_);exact wC HR1;exact HC1.out;rintro e w7 ⟨rfl,hb⟩;replace HB:=bq HB hb;(try clear hb)) | (go_at_call 106;(with_reducible refine(zw.calls k a0 _ _ l1 t255 _ ?_ ?_ A6.out).mono ?_);exact Kd.C_below HR1.out (bw HB);exact HC1.out;rintro e w8 ⟨v256,rfl,ho0,hb⟩;have HO257:=am (Kd.N_lower (Kd.N_mono (ok':=fun k_=>True) ho0 (fun k_ hk_=>trivial)) (bz HB));replace HB:=bq HB hb;(try clear hb);(try clear ho0);obtain⟨Ao9,co9,eo9⟩:=Kd.N_slice HO257.out;subst eo9))
   go_ret
   exact⟨fq,bw HB⟩
  ·replace c5:=Bool.eq_false_iff.mpr c5
   subst c5
   rw[if_neg (show ¬ (false=true) by decide)]at H
   obtain rfl:=Option.some.inj H
   go_enter Try.func62,Try.ntmps62
   go_wp2_with (first | (go_at_call 105;(with_reducible refine(qn.calls k a0 _ _ l1 false _ ?_ ?_ A4.out).mono ?_);exact wC HR1;exact HC1.out;rintro e w10 ⟨rfl,hb⟩;replace HB:=bq HB hb;(try clear hb)))
   go_ret
   exact⟨fq,bw HB⟩
 ·rw[if_neg c3]at H
  have c3b0:=beq_eq_false_iff_ne.mpr c3;have c3b1:=bne_iff_ne.mpr c3;obtain rfl:=Option.some.inj H
  go_enter Try.func62,Try.ntmps62
  go_wp2;go_ret
  exact⟨fq,bw HB⟩
def Zf.f  :Option ((List (S41))):=some (([(⟨3,0,0⟩:S41),(⟨2,1,0⟩:S41),(⟨2,0,1⟩:S41),(⟨1,2,0⟩:S41),(⟨1,1,1⟩:S41),(⟨1,0,2⟩:S41),(⟨0,3,0⟩:S41),(⟨0,2,1⟩:S41),(⟨0,1,2⟩:S41),(⟨0,0,3⟩:S41)]:List (S41)))
theorem Zf.calls  (r:List (S41)) (w:World) (h:Zf.f=some r):
  Calls Try.prog 157 #[] w fun e w'=>∃ v0_:Value,e=.returned (v0_)∧Kd.R k41 41 w' w.heap.size (fun _=>True) v0_ r∧Below w.heap.size w w':=by
 have hu41:=Try.underlying41
 have HB:=am (Below.refl w.heap.size w)
 have H:(some (([(⟨3,0,0⟩:S41),(⟨2,1,0⟩:S41),(⟨2,0,1⟩:S41),(⟨1,2,0⟩:S41),(⟨1,1,1⟩:S41),(⟨1,0,2⟩:S41),(⟨0,3,0⟩:S41),(⟨0,2,1⟩:S41),(⟨0,1,2⟩:S41),(⟨0,0,3⟩:S41)]:List (S41))))=some r:=h
 clear h
 generalize hy258:(([(⟨3,0,0⟩:S41),(⟨2,1,0⟩:S41),(⟨2,0,1⟩:S41),(⟨1,2,0⟩:S41),(⟨1,1,1⟩:S41),(⟨1,0,2⟩:S41),(⟨0,3,0⟩:S41),(⟨0,2,1⟩:S41),(⟨0,1,2⟩:S41),(⟨0,0,3⟩:S41)]:List (S41)))=y258 at H
 have Ny258:=am hy258.symm;clear hy258;obtain rfl:=Option.some.inj H
 go_enter Try.func157,Try.ntmps157
 go_wp2_with (first | ((with_reducible refine zb (N:=11) rfl ?_);refine Kd.R_lit k41 _ 41 ?hg (N:=11) ?hd (xs:=([(⟨3,0,0⟩:S41),(⟨2,1,0⟩:S41),(⟨2,0,1⟩:S41),(⟨1,2,0⟩:S41),(⟨1,1,1⟩:S41),(⟨1,0,2⟩:S41),(⟨0,3,0⟩:S41),(⟨0,2,1⟩:S41),(⟨0,1,2⟩:S41),(⟨0,0,3⟩:S41)]:List (S41))) (inner:=[.int .i64 3,.int .i64 0,.int .i64 0,.int .i64 2,.int .i64 1,.int .i64 0,.int .i64 2,.int .i64 0,.int .i64 1,.int .i64 1,.int .i64 2,.int .i64 0,.int .i64 1,.int .i64 1,.int .i64 1,.int .i64 1,.int .i64 0,.int .i64 2,.int .i64 0,.int .i64 3,.int .i64 0,.int .i64 0,.int .i64 2,.int .i64 1,.int .i64 0,.int .i64 1,.int .i64 2,.int .i64 0,.int .i64 0,.int .i64 3]) (ok:=fun _=>True) (okp:=fun _=>True) ?hr ?hp (fun _ hk=>hk) trivial (Below.refl _ _) (Nat.le_refl _) (by simp) ?_;(case hd=>rfl);(case hg=>rfl);(case hr=>first | (go_simp;done) | (go_simp;rfl));(case hp=>exact(Reps.c3 (show Kd.M k41 _ _ _ (⟨3,0,0⟩:S41) [.int .i64 3,.int .i64 0,.int .i64 0] from (Ji _ _ _ (⟨3,0,0⟩:S41) )) (Reps.c3 (show Kd.M k41 _ _ _ (⟨2,1,0⟩:S41) [.int .i64 2,.int .i64 1,.int .i64 0] from (Ji _ _ _ (⟨2,1,0⟩:S41) )) (Reps.c3 (show Kd.M k41 _ _ _ (⟨2,0,1⟩:S41) [.int .i64 2,.int .i64 0,.int .i64 1] from (Ji _ _ _ (⟨2,0,1⟩:S41) )) (Reps.c3 (show Kd.M k41 _ _ _ (⟨1,2,0⟩:S41) [.int .i64 1,.int .i64 2,.int .i64 0] from (Ji _ _ _ (⟨1,2,0⟩:S41) )) (Reps.c3 (show Kd.M k41 _ _ _ (⟨1,1,1⟩:S41) [.int .i64 1,.int .i64 1,.int .i64 1] from (Ji _ _ _ (⟨1,1,1⟩:S41) )) (Reps.c3 (show Kd.M k41 _ _ _ (⟨1,0,2⟩:S41) [.int .i64 1,.int .i64 0,.int .i64 2] from (Ji _ _ _ (⟨1,0,2⟩:S41) )) (Reps.c3 (show Kd.M k41 _ _ _ (⟨0,3,0⟩:S41) [.int .i64 0,.int .i64 3,.int .i64 0] from (Ji _ _ _ (⟨0,3,0⟩:S41) )) (Reps.c3 (show Kd.M k41 _ _ _ (⟨0,2,1⟩:S41) [.int .i64 0,.int .i64 2,.int .i64 1] from (Ji _ _ _ (⟨0,2,1⟩:S41) )) (Reps.c3 (show Kd.M k41 _ _ _ (⟨0,1,2⟩:S41) [.int .i64 0,.int .i64 1,.int .i64 2] from (Ji _ _ _ (⟨0,1,2⟩:S41) )) (Reps.c3 (show Kd.M k41 _ _ _ (⟨0,0,3⟩:S41) [.int .i64 0,.int .i64 0,.int .i64 3] from (Ji _ _ _ (⟨0,0,3⟩:S41) )) (Reps.none _ _))))))))))));intro v259 w1 ho2 hb hg_ hnew_;clear hg_ hnew_;(first | rw[← Ny258.out]at ho2 | (simp only[Int.reduceToNat]at ho2;rw[← Ny258.out]at ho2));have HO260:=am (Kd.R_lower ho2 (bz HB));replace HB:=bq HB hb;clear hb ho2))
 go_ret
 exact⟨_,fq,wR HO260,bw HB⟩
def zt.l0 :Nat→Int→Int→Int→Int→Int→Option (Int)
 | 0,_,_,_,_,_=>none
 | k+1,x0,x1,x2,x7,x8=>if x8 < x2 then (if x0=0 then (none) else (zt.l0 k x0 x1 x2 (Int.tmod (wrap64 (x7*x1)) x0) (wrap64 (x8+1)))) else (some x7)
def zt.f (k:Nat) (a0:Int) (a1:Int) (a2:Int):Option (Int):=zt.l0 k a0 a1 a2 1 0
theorem zt.mono_l :∀ k,(∀ y0 y1 y2 y3 y4,LeO (zt.l0 k y0 y1 y2 y3 y4) (zt.l0 (k+1) y0 y1 y2 y3 y4))
 | 0=>fun _ _ _ _ _ r h=>by simp[zt.l0]at h
 | k+1=>by
  have ih0:=zt.mono_l k
  ·intro y0 y1 y2 y3 y4
   unfold zt.l0
   repeat' first | (with_reducible first | apply ih0 | exact LeO.refl _ | exact LeO.none _ | refine LeO.ite ?_ ?_ | refine LeO.bind ?_ (fun _=>?_)) | (first | apply ih0 | exact LeO.none _ | refine LeO.ite ?_ ?_ | refine LeO.bind ?_ (fun _=>?_))
theorem zt.mono :∀ a0 a1 a2 k,LeO (zt.f k a0 a1 a2) (zt.f (k+1) a0 a1 a2):=by
 intro a0 a1 a2 k
 have ih0:=zt.mono_l k
 unfold zt.f
 repeat' first | (with_reducible first | apply ih0 | exact LeO.refl _ | exact LeO.none _ | refine LeO.ite ?_ ?_ | refine LeO.bind ?_ (fun _=>?_)) | (first | apply ih0 | exact LeO.none _ | refine LeO.ite ?_ ?_ | refine LeO.bind ?_ (fun _=>?_))
theorem zt.calls (k:Nat) (a0:Int) (a1:Int) (a2:Int) (r:Int) (w:World) (h:zt.f k a0 a1 a2=some r):
  Calls Try.prog 162 #[.int .i64 a0,.int .i64 a1,.int .i64 a2] w fun e w'=>e=.returned (.int .i64 r)∧Drawn0 w w':=by
 have H:(zt.l0 k a0 a1 a2 1 0)=some r:=h
 clear h;have H':=am H;clear H
 go_enter Try.func162,Try.ntmps162
 go_wp2
 go_loopg [7,8] k (fun kq v7 v8 w'=>∃ (x7_1:Int) (x8_1:Int),v7=.int .i64 x7_1∧v8=.int .i64 x8_1∧qf (zt.l0 kq a0 a1 a2 x7_1 x8_1=some r)∧qf (kq≤k)∧Drawn0 w w')
 case atStart=>exact⟨(1),(0),fr,fr,H',⟨Nat.le_refl _⟩,df⟩
 case round=>
  clear H';try clear c1;try clear p2
  obtain⟨x7_1,x8_1,rfl,rfl,HA,HK1,⟨m1,rfl⟩⟩:=hrel
  cases gk with
  | zero=>exact absurd HA.out (by simp[zt.l0])
  | succ k1=>
   have H:=HA.out;clear HA
   simp only[zt.l0]at H
   by_cases c4:x8_1 < a2
   ·rw[if_pos c4]at H
    have c4b0:=decide_eq_true c4;clear c4;replace H:=ifm H;obtain⟨c5,H⟩:=H;have c5b0:=beq_eq_false_iff_ne.mpr c5;have c5b1:=bne_iff_ne.mpr c5;have H':=am H;clear H;go_wp2
    go_roundg k1
    case measure=>have:=HK1.out;omega
    case rel=>exact⟨(Int.tmod (wrap64 (x7_1*a1)) a0),(wrap64 (x8_1+1)),fr,fr,H',⟨by have:=HK1.out;omega⟩,df⟩
   ·rw[if_neg c4]at H
    have c4b0:=decide_eq_false c4;clear c4;obtain rfl:=Option.some.inj H;go_wp2;go_ret
    exact⟨fr,df⟩
end Go.Proofs.Ytmgbpmihbljngaa.PA
