-- Written by xprint.py, a program of this claim's own (over the kit's print.py)
import Derived.Test.YtmgbpmihbljngaaPAx26
namespace Go.Proofs.Ytmgbpmihbljngaa.PA
set_option maxHeartbeats 8000000
set_option maxRecDepth 100000
open Go.RowKit Go.Proofs.YtmgbpmihbljngaaW.PrintWords Go.Proofs.YtmgbpmihbljngaaW.PrintLast Go.Proofs.YtmgbpmihbljngaaW.PrintMore
attribute [local go_sem] Qg Qj Qp Qo j4 j3 Qh Qf
set_option linter.unusedVariables false
set_option linter.unusedSimpArgs false
mutual
def qt.l0 :Nat→Int→List Int→List (List Int)→Int→Int→Option ((List (List Int)))
 | 0,_,_,_,_,_=>none
 | k+1,x0,x1,x5,x14,x15=>if x15 < x14 then (qt.l1 k x0 x1 x5 x15 (([]:List Int)) x14 x15 0) else (some x5)
def qt.l1 :Nat→Int→List Int→List (List Int)→Int→List Int→Int→Int→Int→Option ((List (List Int)))
 | 0,_,_,_,_,_,_,_,_=>none
 | k+1,x0,x1,x5,x6,x7,x14,x15,x19=>if x19 < 4 then (if 0≤x19 then (if x19 < (x1.length:Int) then (if 0≤(wrap64 (4+x19)) then (if (wrap64 (4+x19)) < (x1.length:Int) then (if x0=0 then (none) else (if x7.length < 17592186044416 then (qt.l1 k x0 x1 x5 x6 (x7++[Int.tmod (wrap64 ((rd x1 x19)+(wrap64 (x6*(rd x1 (wrap64 (4+x19))))))) x0]) x14 x15 (wrap64 (x19+1))) else (none))) else (none)) else (none)) else (none)) else (none)) else (if x5.length < 5864062014805 then (qt.l0 k x0 x1 (x5++[x7]) x14 (wrap64 (x15+1))) else (none))
end
def qt.f (k:Nat) (a0:Int) (l1:List Int):Option ((List (List Int))):=(some (([]:List Int):List Int)).bind fun y721=>(if 4≤(l1.length:Int) then (if y721.length+(l1.drop 4).length < 17592186044416 then (qt.l0 k a0 l1 (([(y721++(l1.drop 4))]:List (List Int))) a0 0) else (none)) else (none))
theorem qt.mono_l :∀ k,(∀ y0 y1 y2 y3 y4,LeO (qt.l0 k y0 y1 y2 y3 y4) (qt.l0 (k+1) y0 y1 y2 y3 y4))∧(∀ y0 y1 y2 y3 y4 y5 y6 y7,LeO (qt.l1 k y0 y1 y2 y3 y4 y5 y6 y7) (qt.l1 (k+1) y0 y1 y2 y3 y4 y5 y6 y7))
 | 0=>⟨fun _ _ _ _ _ r h=>by simp[qt.l0]at h,fun _ _ _ _ _ _ _ _ r h=>by simp[qt.l1]at h⟩
 | k+1=>by
  obtain⟨ih0,ih1⟩:=qt.mono_l k
  refine⟨?_,?_⟩
  ·intro y0 y1 y2 y3 y4
   unfold qt.l0
   repeat' first | (with_reducible first | apply ih0 | apply ih1 | exact LeO.refl _ | exact LeO.none _ | refine LeO.ite ?_ ?_ | refine LeO.bind ?_ (fun _=>?_)) | (first | apply ih0 | apply ih1 | exact LeO.none _ | refine LeO.ite ?_ ?_ | refine LeO.bind ?_ (fun _=>?_))
  ·intro y0 y1 y2 y3 y4 y5 y6 y7
   unfold qt.l1
   repeat' first | (with_reducible first | apply ih0 | apply ih1 | exact LeO.refl _ | exact LeO.none _ | refine LeO.ite ?_ ?_ | refine LeO.bind ?_ (fun _=>?_)) | (first | apply ih0 | apply ih1 | exact LeO.none _ | refine LeO.ite ?_ ?_ | refine LeO.bind ?_ (fun _=>?_))
theorem qt.mono :∀ a0 a1 k,LeO (qt.f k a0 a1) (qt.f (k+1) a0 a1):=by
 intro a0 a1 k
 obtain⟨ih0,ih1⟩:=qt.mono_l k
 unfold qt.f
 repeat' first | (with_reducible first | apply ih0 | apply ih1 | exact LeO.refl _ | exact LeO.none _ | refine LeO.ite ?_ ?_ | refine LeO.bind ?_ (fun _=>?_)) | (first | apply ih0 | apply ih1 | exact LeO.none _ | refine LeO.ite ?_ ?_ | refine LeO.bind ?_ (fun _=>?_))
def qt.T9 :Bool×List (List Nat×List Nat):=(true,[([],[]),([],[]),([],[]),([1,2],[1,2]),([3],[3]),([],[]),([],[]),([],[]),([7],[7]),([6,8],[6,8]),([9],[9]),([5,10],[5,10]),([4,11],[4,11]),([],[]),([12,13],[12,13]),([14],[14]),([0,15],[0,15]),([16,16,0,1,2,3,4,5,6,7,8,9,10,11,12,13,14,15,16],[0,16])])
def qt.B9 :List Nat:=[0,0,0,6,14,0,0,0,128,448,960,2016,4094,0,16382,32766,65535,131071]
theorem qt.tab9 :rtab .any (Ju Try.f94 9)=qt.T9:=by kernel_rfl
theorem qt.bits9 :Qt qt.T9.2 qt.B9=true:=by kernel_rfl
theorem qt.calls (k:Nat) (a0:Int) (A1:Option Addr) (c1:Nat) (l1:List Int) (r:List (List Int)) (w:World) (hr1:Kd.C (Kd.int .i64) w A1 l1.length l1) (hc1:l1.length≤c1) (h:qt.f k a0 l1=some r):
  Calls Try.prog 94 #[.int .i64 a0,.slice A1 l1.length c1] w fun e w'=>∃ v0_:Value,e=.returned (v0_)∧Kd.N (Kd.slice 3 (Kd.int .i64)) 23 w' w.heap.size (fun k_=>(w.heap.size≤k_)) v0_ r∧Below w.heap.size w w':=by
 have HR1:=am hr1
 have HC1:=am hc1
 clear hr1 hc1
 have HB:=am (Below.refl w.heap.size w)
 have H:((some (([]:List Int):List Int)).bind fun y721=>(if 4≤(l1.length:Int) then (if y721.length+(l1.drop 4).length < 17592186044416 then (qt.l0 k a0 l1 (([(y721++(l1.drop 4))]:List (List Int))) a0 0) else (none)) else (none)))=some r:=h
 clear h;replace H:=bsy H;obtain⟨y721,Ny721,H⟩:=H
 by_cases c3:4≤(l1.length:Int)
 ·rw [if_pos c3] at H
  have c3b0:=eq_true c3;have c3b1:=decide_eq_true c3;clear c3;replace H:=ifn H;obtain⟨c4,H⟩:=H;have LMc4:=am c4;clear c4
  generalize hy725:(y721++(l1.drop 4):List Int)=y725 at H
  have Ny725:=am hy725.symm;clear hy725
  generalize hy728:(([y725]:List (List Int)))=y728 at H
  have Ny728:=am hy728.symm;clear hy728;have H':=am H;clear H
  go_enter Try.func94,Try.ntmps94
  go_wp2_with (first | ((with_reducible refine q7 (N:=9) rfl ?_);refine li 3 ([]:List Int) ?_;intro v722 w5 ho6 hb;(first | rw[← Ny721.out]at ho6 | (simp only[Int.reduceToNat]at ho6;rw[← Ny721.out]at ho6));have HO723:=am (mR ho6 HB);replace HB:=bq HB hb;clear hb ho6;obtain⟨i07,hi07,_,hsz7,_⟩:=info_parts Q1;obtain⟨A7,hcut7,hA7,hC7⟩:=qcm (P:=Try.prog) (Value.int .i64) 0 23 3 .i64 Try.underlying23 hi07 hsz7 A1 c1 l1 4 (by omega) (od) HC1.out;have HR724:=am (Kd.C_of_reads (h1:=fun _=>rfl) (hA7 _ (Kd.reads_of_C HR1.out)));have HC724:=am hC7;clear hA7 hC7 hi07 hsz7) | ((with_reducible refine ji (b:=.append) (xs:=#[.tmp 9,.tmp 11]) rfl ?_);at_builtin;refine Kd.R_append_rows (Kd.int .i64) (w0:=w) w.heap.size rfl (.tmp 9) (.tmp 11) 23 3 (.int .i64 0) 8 rfl Try.underlying23 Q1 rfl (by decide) (by omega) v722 y721 (l1.drop 4) _ _ _ (fun k_=>(w.heap.size≤k_)) (fun _=>False) rfl rfl ?aO ?aR (fun _ _ h=>h) (fun _ h=>h.elim) ?aF ?aB ?aS ?aL ?_;(case aR=>first | (rw[← show (l1.drop 4).length=(l1.length - 4) from List.length_drop];exact Kd.C_below HR724.out (bw HB)) | (exact Kd.C_below HR724.out (bw HB)));(case aB=>exact(bw HB));(case aF=>exact(fun k_ hk=>(Nat.le_trans (bz HB) hk)));(case aO=>exact(oR_ HO723 (fun _ hk=>hk.1)));(case aS=>exact(bz HB));(case aL=>have:=LMc4.out;have hlx_:=(show (l1.drop 4).length=(l1.length - 4) from List.length_drop);omega);intro v726 w8 ho hb hg hat;rw[← Ny725.out]at ho;replace HB:=am (hb);have HO727:=am (ho);clear HO723;clear ho hb hg hat;obtain⟨Ao9,co9,eo9⟩:=Kd.R_slice HO727.out;subst eo9) | ((with_reducible refine q7 (N:=13) rfl ?_);refine Kd.N_lit (Kd.slice 3 (Kd.int .i64)) _ 23 ?hg (N':=13) ?hd (xs:=([y725]:List (List Int))) (inner:=[.slice Ao9 y725.length co9]) (ok:=(fun k_=>(w.heap.size≤k_))) (okp:=(fun k_=>(w.heap.size≤k_))) ?hr ?hp (fun _ hk=>hk) ((show ∀ k_,w8.heap.size≤k_→(fun k_=>(w.heap.size≤k_)) k_ from fun k_ hk=>(Nat.le_trans (bz HB) hk)) _ (Nat.le_refl _)) (Below.refl _ _) (Nat.le_refl _) (by simp) ?_;(case hd=>rfl);(case hg=>rfl);(case hr=>first | (go_simp;done) | (go_simp;rfl));(case hp=>exact(Reps.one (show Kd.FK (Kd.slice 3 (Kd.int .i64)) _ _ y725 [.slice Ao9 y725.length co9] from (Kd.FK_slice_mk (Kd.R_reads' (HO727.out)).2.1 (Kd.R_F (HO727.out)))) (Reps.none _ _)));intro v729 w10 ho11 hb hg_ hnew_;clear hg_ hnew_;(first | rw[← Ny728.out]at ho11 | (simp only[Int.reduceToNat]at ho11;rw[← Ny728.out]at ho11));have HO730:=am (Kd.N_lower ho11 (bz HB));replace HB:=bq HB hb;clear HO727;clear hb ho11))
  go_loopg [5,15] k (fun kq v5 v15 w'=>∃ (x5_1:List (List Int)) (x15_1:Int),v15=.int .i64 x15_1∧qa (qt.l0 kq a0 l1 x5_1 a0 x15_1=some r)∧qa (kq≤k)∧qa (Kd.N (Kd.slice 3 (Kd.int .i64)) 23 w' w.heap.size (fun k_=>(w.heap.size≤k_)) v5 x5_1)∧qa (Below w.heap.size w w'))
  case atStart=>exact⟨(y728),(0),fr,H',⟨Nat.le_refl _⟩,⟨wN HO730⟩,⟨bw HB⟩⟩
  case round=>
   clear H';try clear c1;try clear p2;try clear c3;try clear c3b0;try clear c3b1;try clear c4;try clear c9
   obtain⟨x5_1,x15_1,rfl,HA,HK1,HO_5,HB⟩:=hrel
   cases gk with
   | zero=>exact absurd HA.out (by simp[qt.l0])
   | succ k1=>
    have H:=HA.out;clear HA
    simp only[qt.l0]at H
    by_cases c12:x15_1 < a0
    ·rw [if_pos c12] at H
     have c12b0:=decide_eq_true c12;clear c12
     generalize hy731:(([]:List Int))=y731 at H
     have Ny731:=am hy731.symm;clear hy731;have H':=am H;clear H
     go_wp2_with (first | ((with_reducible refine q7 (N:=18) rfl ?_);refine li 3 ([]:List Int) ?_;intro v732 w13 ho14 hb;(first | rw[← Ny731.out]at ho14 | (simp only[Int.reduceToNat]at ho14;rw[← Ny731.out]at ho14));replace HO_5:=eN HO_5 (Kd.R_base ho14) hb;have HO733:=am (mR ho14 HB);replace HB:=bq HB hb;clear hb ho14))
     go_loopg [7,19] k1 (fun kq v7 v19 w'=>∃ (x7_2:List Int) (x19_2:Int),v19=.int .i64 x19_2∧qa (qt.l1 kq a0 l1 x5_1 x15_1 x7_2 a0 x15_1 x19_2=some r)∧qa (kq≤k1)∧qa (Kd.N (Kd.slice 3 (Kd.int .i64)) 23 w' w.heap.size (fun k_=>(w.heap.size≤k_)∧some k_≠(v7:Value).ownBlock) u5 x5_1)∧qa (Kd.R (Kd.int .i64) 3 w' w.heap.size (fun k_=>(w.heap.size≤k_)) v7 x7_2)∧qa (Below w.heap.size w w'))
     case atStart=>exact⟨(y731),(0),fr,H',⟨Nat.le_refl _⟩,⟨wN HO_5⟩,⟨Kd.R_below (Kd.R_mono HO733.out (fun _ hk=>hk.1)) gs⟩,⟨bw HB⟩⟩
     case round=>
      clear H';try clear c1;try clear p2;try clear c3;try clear c3b0;try clear c3b1;try clear c4;try clear c9;try clear c12;try clear c12b0;try clear p2
      obtain⟨x7_2,x19_2,rfl,HA,HK2,HO_5,HO_7,HB⟩:=hrel
      cases gk with
      | zero=>exact absurd HA.out (by simp[qt.l1])
      | succ k2=>
       have H:=HA.out;clear HA
       simp only[qt.l1]at H
       by_cases c15:x19_2 < 4
       ·rw[if_pos c15]at H
        have c15b0:=decide_eq_true c15;clear c15;replace H:=ifn H;obtain⟨c16,H⟩:=H;have c16b0:=decide_eq_true c16;clear c16;replace H:=ifn H;obtain⟨c17,H⟩:=H;have c17b0:=decide_eq_true c17;clear c17
        obtain⟨ji18,hji18⟩:∃ j_:Int,(wrap64 (4+x19_2))=j_:=⟨_,rfl⟩
        (first | rw[hji18]at H | simp only[hji18]at H)
        have hji18w:(IntKind.i64.wrap (4+x19_2))=ji18:=(Z7 _).trans hji18
        replace H:=ifn H;obtain⟨c19,H⟩:=H;have c19b0:=decide_eq_true c19;clear c19;replace H:=ifn H;obtain⟨c20,H⟩:=H;have c20b0:=decide_eq_true c20;clear c20;replace H:=ifm H;obtain⟨c21,H⟩:=H;have c21b0:=beq_eq_false_iff_ne.mpr c21
        have c21b1:=bne_iff_ne.mpr c21;replace H:=ifn H;obtain⟨c22,H⟩:=H;have LMc22:=am c22;clear c22
        generalize hy736:(x7_2++[Int.tmod (wrap64 ((rd l1 x19_2)+(wrap64 (x15_1*(rd l1 (ji18)))))) a0]:List Int)=y736 at H
        have Ny736:=am hy736.symm;clear hy736;have H':=am H;clear H
        try go_wp2
        replace HO_5:=am (Kd.N_drew HO_5.out)
        replace HO_7:=am (Kd.R_drew HO_7.out)
        replace HB:=am (qv HB.out)
        have p734:0≤(x19_2:Int):=od
        have q734:x19_2 < (l1.length:Int):=od
        obtain⟨ad734,e734,hx734_0⟩:=Kd.at_int HR1.out x19_2 p734 q734
        have hw734_0:=hx734_0
        cases e734
        replace hx734_0:=wcl HB hx734_0
        replace p734:=eq_true p734;replace q734:=eq_true q734
        have p735:0≤((ji18):Int):=od
        have q735:(ji18) < (l1.length:Int):=od
        obtain⟨ad735,e735,hx735_0⟩:=Kd.at_int HR1.out (ji18) p735 q735
        have hw735_0:=hx735_0
        obtain rfl:ad734=ad735:=(by injection e735)
        replace hx735_0:=wcl HB hx735_0
        replace p735:=eq_true p735;replace q735:=eq_true q735
        refine st 18 (fun w'=>w'.cell? (ad734.add (x19_2).toNat)=some (.int .i64 (rd l1 x19_2))∧w'.cell? (ad734.add ((ji18)).toNat)=some (.int .i64 (rd l1 (ji18)))) [] qt.tab9 qt.bits9 (⟨(wcl HB hw734_0),(wcl HB hw735_0)⟩) fun hHeld HT_ HW_=>?_
        generalize wr.drew=w23 at HO_5 HO_7 HB hx734_0 hx735_0 hHeld ⊢
        refine pz 0 22 HT_ ?_;refine pz 1 23 HT_ ?_;refine pz 2 24 HT_ ?_;refine pz 3 25 HT_ ?_;refine pz 5 27 HT_ ?_;refine pz 6 28 HT_ ?_;refine pz 7 29 HT_ ?_;refine pz 8 30 HT_ ?_;refine pz 9 31 HT_ ?_;refine pz 13 35 HT_ ?_;refine tk 4 26 HT_ HW_ hHeld ?_
        refine tk 10 32 HT_ HW_ hHeld ?_;refine pz 11 33 HT_ ?_;refine pz 12 34 HT_ ?_;refine pz 14 36 HT_ ?_
        refine on 15 (some 37) HT_ fun K hK=>?_
        refine qfo (w1:=?_) (v:=?_) (by rfl) rfl ?_ ?_
        rotate_left 2
        ·go_simp
         constructor
         ·rfl
         ·rfl
        refine hK.out _ _ ⟨(World.cell?_alloc_lt _ _ _ (World.block_lt_of_cell? _ _ ((wcl HB hw734_0)))).trans ((wcl HB hw734_0)),(World.cell?_alloc_lt _ _ _ (World.block_lt_of_cell? _ _ ((wcl HB hw735_0)))).trans ((wcl HB hw735_0))⟩ fun hHeld=>nz ?_
        clear hK K
        refine on 16 (some 38) HT_ fun K hK=>?_
        refine Kd.R_append_step (Kd.int .i64) (w0:=w) w.heap.size (by rfl) (.tmp 22) (.tmp 37) 23 3 (.int .i64 0) 8 rfl Try.underlying23 Q1 rfl (by decide) (by omega) u7 x7_2 (Int.tmod (wrap64 ((rd l1 x19_2)+(wrap64 (x15_1*(rd l1 (ji18)))))) a0) [.int .i64 (Int.tmod (wrap64 ((rd l1 x19_2)+(wrap64 (x15_1*(rd l1 (ji18)))))) a0)] (fun k_=>(w.heap.size≤k_)) (fun _=>False) rfl rfl ?aP (fun _ hk=>hk.elim) ?aF ?aO ?aB ?aS ?aL ?_
        (case aP=>exact rfl)
        (case aB=>exact(bw HB))
        (case aF=>exact(fun k_ hk=>(Nat.le_trans (bz HB) hk)))
        (case aO=>exact(wR HO_7))
        (case aS=>exact(bz HB))
        (case aL=>have:=LMc22.out;omega)
        intro v737 w24 ho hb hg hat
        rw[← Ny736.out]at ho
        replace HO_5:=am (Kd.N_afterv (ok:=(fun k_=>(w.heap.size≤k_))) (wN HO_5) hg hat)
        replace HB:=am (hb)
        have HO738:=am (ho)
        clear HO_7;clear ho hb hg hat
        refine hK.out _ _ ⟨(wcl HB hw734_0),(wcl HB hw735_0)⟩ fun hHeld=>nz ?_
        clear hK K;refine pz 17 7 HT_ ?_
        refine Zo (Qz HT_.out (by kernel_rfl)) ?_
        try go_wp2
        go_roundg k2
        case measure=>have:=HK1.out;have:=HK2.out;omega
        case rel=>exact⟨(y736),(wrap64 (x19_2+1)),fr,H',⟨by have:=HK1.out;have:=HK2.out;omega⟩,⟨wN HO_5⟩,⟨wR HO738⟩,⟨bw HB⟩⟩
       ·rw[if_neg c15]at H
        have c15b0:=decide_eq_false c15;clear c15;replace H:=ifn H;obtain⟨c25,H⟩:=H;have LMc25:=am c25;clear c25
        generalize hy739:(x5_1++[x7_2]:List (List Int))=y739 at H
        have Ny739:=am hy739.symm;clear hy739;have H':=am H;clear H
        obtain⟨Ao27,co27,eo27⟩:=Kd.R_slice HO_7.out
        subst eo27
        go_wp2_with (first | ((with_reducible refine ji (b:=.append) (xs:=#[.tmp 40,.tmp 42]) rfl ?_);at_builtin;refine Kd.N_append (Kd.slice 3 (Kd.int .i64)) (w0:=w) w.heap.size rfl (.tmp 40) (.tmp 42) 47 23 (.slice none 0 0) 24 rfl Try.underlying47 Jj rfl (by decide) (by omega) u5 x5_1 x7_2 [.slice Ao27 x7_2.length co27] (fun k_=>(w.heap.size≤k_)) (fun k_=>((fun k_=>(w.heap.size≤k_))) k_∧some k_≠(u5:Value).ownBlock) rfl rfl ?aP (fun _ hk=>hk) ?aF ?aO ?aB ?aS ?aL ?_;(case aP=>exact(Kd.FK_slice_mk (Kd.R_reads' (Kd.R_mono (ok':=(fun k_=>((fun k_=>(w.heap.size≤k_))) k_∧some k_≠(u5:Value).ownBlock)) (Kd.R_apart' (HO_7.out) (Kd.N_typed HO_5.out) (by decide)) (fun k_ hk=>⟨hk.1,hk.2⟩))).2.1 (Kd.R_F (Kd.R_mono (ok':=(fun k_=>((fun k_=>(w.heap.size≤k_))) k_∧some k_≠(u5:Value).ownBlock)) (Kd.R_apart' (HO_7.out) (Kd.N_typed HO_5.out) (by decide)) (fun k_ hk=>⟨hk.1,hk.2⟩)))));(case aB=>exact(bw HB));(case aF=>exact(fun k_ hk=>(Nat.le_trans (bz HB) hk)));(case aO=>exact(oN_ HO_5 (fun _ hk=>hk.1)));(case aS=>exact(bz HB));(case aL=>have:=LMc25.out;omega);intro v740 w26 ho hb hg hat;rw[← Ny739.out]at ho;replace HB:=am (hb);have HO741:=am (ho);clear HO_5 HO_7;clear ho hb hg hat))
        go_roundg k2
        case measure=>have:=HK1.out;have:=HK2.out;omega
        case rel=>exact⟨(y739),(wrap64 (x15_1+1)),fr,H',⟨by have:=HK1.out;have:=HK2.out;omega⟩,⟨wN HO741⟩,⟨bw HB⟩⟩
    ·rw[if_neg c12]at H
     have c12b0:=decide_eq_false c12;clear c12;obtain rfl:=Option.some.inj H;go_wp2;go_ret
     exact⟨_,fq,wN HO_5,bw HB⟩
 ·rw[if_neg c3]at H
  exact absurd H (by simp)
mutual
def qo.j0 :Nat→Int→List Int→List Int→Bool→Option (Bool)
 | 0,_,_,_,_=>none
 | k+1,x0,x1,x2,x18=>if x18=true then (some false) else ((qt.f k x0 x2).bind fun t744=>(qo.l0 k x0 x1 t744 (t744.length:Int) 0))
def qo.l0 :Nat→Int→List Int→List (List Int)→Int→Int→Option (Bool)
 | 0,_,_,_,_,_=>none
 | k+1,x0,x1,x21,x22,x23=>if x23 < x22 then (if 0≤x23 then (if x23 < (x21.length:Int) then ((qp.f k x0 x1 (jk x21 x23)).bind fun t748=>(if t748=0 then (qo.l0 k x0 x1 x21 x22 (wrap64 (x23+1))) else (some false))) else (none)) else (none)) else (some true)
end
def qo.f (k:Nat) (a0:Int) (l1:List Int) (l2:List Int):Option (Bool):=(ja.f a0 l1 20).bind fun t742=>(if t742=true then ((ju.f k a0 l2).bind fun t743=>(qo.j0 k a0 l1 l2 (!t743))) else (qo.j0 k a0 l1 l2 true))
theorem qo.mono_l :∀ k,(∀ y0 y1 y2 y3,LeO (qo.j0 k y0 y1 y2 y3) (qo.j0 (k+1) y0 y1 y2 y3))∧(∀ y0 y1 y2 y3 y4,LeO (qo.l0 k y0 y1 y2 y3 y4) (qo.l0 (k+1) y0 y1 y2 y3 y4))
 | 0=>⟨fun _ _ _ _ r h=>by simp[qo.j0]at h,fun _ _ _ _ _ r h=>by simp[qo.l0]at h⟩
 | k+1=>by
  obtain⟨ih0,ih1⟩:=qo.mono_l k
  refine⟨?_,?_⟩
  ·intro y0 y1 y2 y3
   unfold qo.j0
   repeat' first | (with_reducible first | apply ih0 | apply ih1 | apply ju.mono | apply qt.mono | apply qp.mono | exact LeO.refl _ | exact LeO.none _ | refine LeO.ite ?_ ?_ | refine LeO.bind ?_ (fun _=>?_)) | (first | apply ih0 | apply ih1 | apply ju.mono | apply qt.mono | apply qp.mono | exact LeO.none _ | refine LeO.ite ?_ ?_ | refine LeO.bind ?_ (fun _=>?_))
  ·intro y0 y1 y2 y3 y4
   unfold qo.l0
   repeat' first | (with_reducible first | apply ih0 | apply ih1 | apply ju.mono | apply qt.mono | apply qp.mono | exact LeO.refl _ | exact LeO.none _ | refine LeO.ite ?_ ?_ | refine LeO.bind ?_ (fun _=>?_)) | (first | apply ih0 | apply ih1 | apply ju.mono | apply qt.mono | apply qp.mono | exact LeO.none _ | refine LeO.ite ?_ ?_ | refine LeO.bind ?_ (fun _=>?_))
theorem qo.mono :∀ a0 a1 a2 k,LeO (qo.f k a0 a1 a2) (qo.f (k+1) a0 a1 a2):=by
 intro a0 a1 a2 k
 obtain⟨ih0,ih1⟩:=qo.mono_l k
 unfold qo.f
 repeat' first | (with_reducible first | apply ih0 | apply ih1 | apply ju.mono | apply qt.mono | apply qp.mono | exact LeO.refl _ | exact LeO.none _ | refine LeO.ite ?_ ?_ | refine LeO.bind ?_ (fun _=>?_)) | (first | apply ih0 | apply ih1 | apply ju.mono | apply qt.mono | apply qp.mono | exact LeO.none _ | refine LeO.ite ?_ ?_ | refine LeO.bind ?_ (fun _=>?_))
theorem qo.calls (k:Nat) (a0:Int) (A1:Option Addr) (c1:Nat) (l1:List Int) (A2:Option Addr) (c2:Nat) (l2:List Int) (r:Bool) (w:World) (hr1:Kd.C (Kd.int .i64) w A1 l1.length l1) (hc1:l1.length≤c1) (hr2:Kd.C (Kd.int .i64) w A2 l2.length l2) (hc2:l2.length≤c2) (h:qo.f k a0 l1 l2=some r):
  Calls Try.prog 45 #[.int .i64 a0,.slice A1 l1.length c1,.slice A2 l2.length c2] w fun e w'=>e=.returned (.bool r)∧Below w.heap.size w w':=by
 have HR1:=am hr1
 have HC1:=am hc1
 clear hr1 hc1
 have HR2:=am hr2
 have HC2:=am hc2
 clear hr2 hc2
 have HB:=am (Below.refl w.heap.size w)
 have H:((ja.f a0 l1 20).bind fun t742=>(if t742=true then ((ju.f k a0 l2).bind fun t743=>(qo.j0 k a0 l1 l2 (!t743))) else (qo.j0 k a0 l1 l2 true)))=some r:=h
 clear h
 have HC4:=am H
 clear H
 go_enter Try.func45,Try.ntmps45
 go_upto_region 1 with (fail)
 go_cut [18] (fun v18 wc=>∃ (kq:Nat) (x18_3:Bool),v18=.bool x18_3∧qa (qo.j0 kq a0 l1 l2 x18_3=some r)∧qa (kq≤k)∧qa (Below w.heap.size w wc))
 case first=>
  have H:=HC4.out
  clear HC4;replace H:=bs H;obtain⟨t742,A5,H⟩:=H
  by_cases c6:t742=true
  ·subst c6
   rw[if_pos rfl]at H
   replace H:=bs H;obtain⟨t743,A7,H⟩:=H;have H':=am H;clear H
   go_wp2_with (first | ((with_reducible refine qe (f:=52) rfl ?_);refine gl 11 Try.func52 #[.int .i64 a0,.slice A1 l1.length c1,.int .i64 20] ?_;(with_reducible refine(ja.calls a0 _ _ l1 20 true _ ?_ ?_ A5.out).mono ?_);exact Kd.C_below HR1.out (bw HB);exact HC1.out;rintro e w8 ⟨rfl,hb⟩;refine⟨_,rfl,?_⟩;replace HB:=bq HB hb;(try clear hb)) | (go_at_call 93;(with_reducible refine(ju.calls k a0 _ _ l2 t743 _ ?_ ?_ A7.out).mono ?_);exact Kd.C_below HR2.out (bw HB);exact HC2.out;rintro e w9 ⟨rfl,hb⟩;replace HB:=bq HB hb;(try clear hb)))
   go_meet
   case rel=>exact⟨_,(!t743),fr,H',⟨by first | omega | exact Nat.le_refl _⟩,⟨bw HB⟩⟩
  ·replace c6:=Bool.eq_false_iff.mpr c6
   subst c6
   rw[if_neg (show ¬ (false=true) by decide)]at H
   have H':=am H;clear H
   go_wp2_with (first | ((with_reducible refine qe (f:=52) rfl ?_);refine gl 11 Try.func52 #[.int .i64 a0,.slice A1 l1.length c1,.int .i64 20] ?_;(with_reducible refine(ja.calls a0 _ _ l1 20 false _ ?_ ?_ A5.out).mono ?_);exact Kd.C_below HR1.out (bw HB);exact HC1.out;rintro e w10 ⟨rfl,hb⟩;refine⟨_,rfl,?_⟩;replace HB:=bq HB hb;(try clear hb)))
   go_meet
   case rel=>exact⟨_,(true),fr,H',⟨by first | omega | exact Nat.le_refl _⟩,⟨bw HB⟩⟩
 case rest=>
  clear HC4;try clear c1;try clear c2;try clear p2;try clear c4;try clear c5;try clear c6
  obtain⟨kq,x18_3,rfl,HA,HJ3,HB⟩:=hcut
  cases kq with
  | zero=>exact absurd HA.out (by simp[qo.j0])
  | succ kj3=>
   have H:=HA.out;clear HA
   simp only[qo.j0]at H
   by_cases c11:x18_3=true
   ·subst c11
    rw[if_pos rfl]at H
    obtain rfl:=Option.some.inj H;go_wp2;go_ret
    exact⟨fq,bw HB⟩
   ·replace c11:=Bool.eq_false_iff.mpr c11
    subst c11
    rw[if_neg (show ¬ (false=true) by decide)]at H
    replace H:=bs H;obtain⟨t744,A12,H⟩:=H;have H':=am H;clear H
    go_wp2_with (first | ((with_reducible refine qe (f:=94) rfl ?_);refine gl 21 Try.func94 #[.int .i64 a0,.slice A2 l2.length c2] ?_;(with_reducible refine(qt.calls kj3 a0 _ _ l2 t744 _ ?_ ?_ A12.out).mono ?_);exact Kd.C_below HR2.out (bw HB);exact HC2.out;rintro e w13 ⟨v745,rfl,ho0,hb⟩;refine⟨_,rfl,?_⟩;have HO746:=am (Kd.N_lower (Kd.N_mono (ok':=fun k_=>True) ho0 (fun k_ hk_=>trivial)) (bz HB));replace HB:=bq HB hb;(try clear hb);(try clear ho0);obtain⟨Ao14,co14,eo14⟩:=Kd.N_slice HO746.out;subst eo14))
    go_loopg [23] kj3 (fun kq v23 w'=>∃ (x23_2:Int),v23=.int .i64 x23_2∧qa (qo.l0 kq a0 l1 t744 (t744.length:Int) x23_2=some r)∧qa (kq≤kj3)∧qa (Kd.N (Kd.slice 3 (Kd.int .i64)) 23 w' w.heap.size (fun _=>True) (.slice Ao14 t744.length co14) t744)∧qa (Below w.heap.size w w'))
    case atStart=>exact⟨(0),fr,H',⟨Nat.le_refl _⟩,⟨wN HO746⟩,⟨bw HB⟩⟩
    case round=>
     clear H';try clear c1;try clear c2;try clear p2;try clear c4;try clear c5;try clear c6;try clear c9;try clear c11;try clear p2
     obtain⟨x23_2,rfl,HA,HK2,HO_21,HB⟩:=hrel
     cases gk with
     | zero=>exact absurd HA.out (by simp[qo.l0])
     | succ k2=>
      have H:=HA.out;clear HA
      simp only[qo.l0]at H
      by_cases c15:x23_2 < (t744.length:Int)
      ·rw[if_pos c15]at H
       have c15b0:=decide_eq_true c15;clear c15;replace H:=ifn H;obtain⟨c16,H⟩:=H;have c16b0:=decide_eq_true c16;clear c16;replace H:=ifn H;obtain⟨c17,H⟩:=H;have c17b0:=decide_eq_true c17;clear c17;replace H:=bs H;obtain⟨t748,A18,H⟩:=H
       by_cases c19:t748=0
       ·rw[if_pos c19]at H
        have c19b0:=beq_iff_eq.mpr c19;have c19b1:=bne_eq_false_iff_eq.mpr c19;clear c19;have H':=am H;clear H
        have p747:0≤(x23_2:Int):=od
        have q747:x23_2 < (t744.length:Int):=od
        obtain⟨ad747,A747_0,c747_0,e747,hx747_0,hl747_0,hi747_0⟩:=J5 (Kd.N_reads' HO_21.out).2.2 x23_2 p747 q747
        cases e747
        obtain⟨ce747,hce747,hMe747,hcc747⟩:=Kd.N_get HO_21.out [] x23_2 p747 (by first | exact q747 | exact od | (have e_:=(Kd.N_reads' HO_21.out).1;omega))
        obtain⟨ua747_0,uc747_0,rfl,ul747_0,ge747_0⟩:=Kd.FK_slice_open hMe747
        have hv747_0:=hcc747 0 _ rfl
        rw[Nat.add_zero,show ((Kd.slice 3 (Kd.int .i64))).sz=1 from rfl,Nat.mul_one]at hv747_0
        replace hv747_0:=Option.some.inj (hv747_0.symm.trans hx747_0)
        injection hv747_0 with hva_ hvn_ hvc_
        rw[hva_]at ge747_0
        rw[hvc_]at ul747_0
        have HL747_0:=am (show Kd.V (Kd.int .i64) 3 _ w.heap.size _ _ (jk t744 x23_2) from Kd.V_mk ul747_0 ge747_0)
        clear hva_ hvn_ hvc_ ge747_0 ul747_0;clear hcc747 hce747
        have HR747_0:=am hi747_0
        have HC747_0:=am hl747_0
        clear hi747_0 hl747_0;replace p747:=eq_true p747;replace q747:=eq_true q747
        go_wp2_with (first | ((with_reducible refine qe (f:=55) rfl ?_);refine gl 30 Try.func55 #[.int .i64 a0,.slice A1 l1.length c1,.slice A747_0 (jk t744 x23_2).length c747_0] ?_;(with_reducible refine(qp.calls k2 a0 _ _ l1 _ _ (jk t744 x23_2) t748 _ ?_ ?_ ?_ ?_ A18.out).mono ?_);exact Kd.C_below HR1.out (bw HB);exact HC1.out;exact wC HR747_0;exact HC747_0.out;rintro e w' ⟨rfl,⟨nd,rfl⟩⟩;refine⟨_,rfl,?_⟩))
        go_roundg k2
        case measure=>have:=HJ3.out;have:=HK2.out;omega
        case rel=>exact⟨(wrap64 (x23_2+1)),fr,H',⟨by have:=HJ3.out;have:=HK2.out;omega⟩,⟨wN HO_21⟩,⟨bw HB⟩⟩
       ·rw[if_neg c19]at H
        have c19b0:=beq_eq_false_iff_ne.mpr c19;have c19b1:=bne_iff_ne.mpr c19;obtain rfl:=Option.some.inj H
        have p747:0≤(x23_2:Int):=od
        have q747:x23_2 < (t744.length:Int):=od
        obtain⟨ad747,A747_0,c747_0,e747,hx747_0,hl747_0,hi747_0⟩:=J5 (Kd.N_reads' HO_21.out).2.2 x23_2 p747 q747
        cases e747
        obtain⟨ce747,hce747,hMe747,hcc747⟩:=Kd.N_get HO_21.out [] x23_2 p747 (by first | exact q747 | exact od | (have e_:=(Kd.N_reads' HO_21.out).1;omega))
        obtain⟨ua747_0,uc747_0,rfl,ul747_0,ge747_0⟩:=Kd.FK_slice_open hMe747
        have hv747_0:=hcc747 0 _ rfl
        rw[Nat.add_zero,show ((Kd.slice 3 (Kd.int .i64))).sz=1 from rfl,Nat.mul_one]at hv747_0
        replace hv747_0:=Option.some.inj (hv747_0.symm.trans hx747_0)
        injection hv747_0 with hva_ hvn_ hvc_
        rw[hva_]at ge747_0
        rw[hvc_]at ul747_0
        have HL747_0:=am (show Kd.V (Kd.int .i64) 3 _ w.heap.size _ _ (jk t744 x23_2) from Kd.V_mk ul747_0 ge747_0)
        clear hva_ hvn_ hvc_ ge747_0 ul747_0;clear hcc747 hce747
        have HR747_0:=am hi747_0
        have HC747_0:=am hl747_0
        clear hi747_0 hl747_0;replace p747:=eq_true p747;replace q747:=eq_true q747
        go_wp2_with (first | ((with_reducible refine qe (f:=55) rfl ?_);refine gl 30 Try.func55 #[.int .i64 a0,.slice A1 l1.length c1,.slice A747_0 (jk t744 x23_2).length c747_0] ?_;(with_reducible refine(qp.calls k2 a0 _ _ l1 _ _ (jk t744 x23_2) t748 _ ?_ ?_ ?_ ?_ A18.out).mono ?_);exact Kd.C_below HR1.out (bw HB);exact HC1.out;exact wC HR747_0;exact HC747_0.out;rintro e w' ⟨rfl,⟨nd,rfl⟩⟩;refine⟨_,rfl,?_⟩))
        go_ret
        exact⟨fq,bw HB⟩
      ·rw[if_neg c15]at H
       have c15b0:=decide_eq_false c15;clear c15;obtain rfl:=Option.some.inj H;go_wp2;go_ret
       exact⟨fq,bw HB⟩
def zv.l0 :Nat→Int→List Int→Int→Option (Bool)
 | 0,_,_,_=>none
 | k+1,x0,x1,x5=>if x5 < (x1.length:Int) then (if 0≤x5 then ((zq.f (rd x1 x5) 0 (wrap64 (x0 - 1))).bind fun t750=>(if t750=true then (zv.l0 k x0 x1 (wrap64 (x5+1))) else (some false))) else (none)) else ((jd.f x0).bind fun t751=>(if t751=true then (some ((x1.length:Int) == 20)) else (some false)))
def zv.f (k:Nat) (a0:Int) (l1:List Int):Option (Bool):=zv.l0 k a0 l1 0
theorem zv.mono_l :∀ k,(∀ y0 y1 y2,LeO (zv.l0 k y0 y1 y2) (zv.l0 (k+1) y0 y1 y2))
 | 0=>fun _ _ _ r h=>by simp[zv.l0]at h
 | k+1=>by
  have ih0:=zv.mono_l k
  ·intro y0 y1 y2
   unfold zv.l0
   repeat' first | (with_reducible first | apply ih0 | exact LeO.refl _ | exact LeO.none _ | refine LeO.ite ?_ ?_ | refine LeO.bind ?_ (fun _=>?_)) | (first | apply ih0 | exact LeO.none _ | refine LeO.ite ?_ ?_ | refine LeO.bind ?_ (fun _=>?_))
theorem zv.mono :∀ a0 a1 k,LeO (zv.f k a0 a1) (zv.f (k+1) a0 a1):=by
 intro a0 a1 k
 have ih0:=zv.mono_l k
 unfold zv.f
 repeat' first | (with_reducible first | apply ih0 | exact LeO.refl _ | exact LeO.none _ | refine LeO.ite ?_ ?_ | refine LeO.bind ?_ (fun _=>?_)) | (first | apply ih0 | exact LeO.none _ | refine LeO.ite ?_ ?_ | refine LeO.bind ?_ (fun _=>?_))
theorem zv.calls (k:Nat) (a0:Int) (A1:Option Addr) (c1:Nat) (l1:List Int) (r:Bool) (w:World) (hr1:Kd.C (Kd.int .i64) w A1 l1.length l1) (hc1:l1.length≤c1) (h:zv.f k a0 l1=some r):
  Calls Try.prog 56 #[.int .i64 a0,.slice A1 l1.length c1] w fun e w'=>e=.returned (.bool r)∧Drawn0 w w':=by
 have HR1:=am hr1
 have HC1:=am hc1
 clear hr1 hc1
 have H:(zv.l0 k a0 l1 0)=some r:=h
 clear h;have H':=am H;clear H
 go_enter Try.func56,Try.ntmps56
 go_wp2
 go_loopg [5] k (fun kq v5 w'=>∃ (x5_1:Int),v5=.int .i64 x5_1∧qa (zv.l0 kq a0 l1 x5_1=some r)∧qa (kq≤k)∧Drawn0 w w')
 case atStart=>exact⟨(0),fr,H',⟨Nat.le_refl _⟩,df⟩
 case round=>
  clear H';try clear c1;try clear p2
  obtain⟨x5_1,rfl,HA,HK1,⟨m1,rfl⟩⟩:=hrel
  cases gk with
  | zero=>exact absurd HA.out (by simp[zv.l0])
  | succ k1=>
   have H:=HA.out;clear HA
   simp only[zv.l0]at H
   by_cases c3:x5_1 < (l1.length:Int)
   ·rw[if_pos c3]at H
    have c3b0:=decide_eq_true c3;clear c3;replace H:=ifn H;obtain⟨c4,H⟩:=H;have c4b0:=decide_eq_true c4;clear c4;replace H:=bs H;obtain⟨t750,A5,H⟩:=H
    by_cases c6:t750=true
    ·subst c6
     rw[if_pos rfl]at H
     have H':=am H;clear H
     have p749:0≤(x5_1:Int):=od
     have q749:x5_1 < (l1.length:Int):=od
     obtain⟨ad749,e749,hx749_0⟩:=Kd.at_int HR1.out x5_1 p749 q749
     cases e749;replace p749:=eq_true p749;replace q749:=eq_true q749
     go_wp2_with (first | ((with_reducible refine qe (f:=87) rfl ?_);refine gl 18 Try.func87 #[.int .i64 (rd l1 x5_1),.int .i64 0,.int .i64 (wrap64 (a0 - 1))] ?_;(with_reducible refine(zq.calls (rd l1 x5_1) 0 (wrap64 (a0 - 1)) true _ A5.out).mono ?_);rintro e w' ⟨rfl,⟨nd,rfl⟩⟩;refine⟨_,rfl,?_⟩))
     go_roundg k1
     case measure=>have:=HK1.out;omega
     case rel=>exact⟨(wrap64 (x5_1+1)),fr,H',⟨by have:=HK1.out;omega⟩,df⟩
    ·replace c6:=Bool.eq_false_iff.mpr c6
     subst c6
     rw[if_neg (show ¬ (false=true) by decide)]at H
     obtain rfl:=Option.some.inj H
     have p749:0≤(x5_1:Int):=od
     have q749:x5_1 < (l1.length:Int):=od
     obtain⟨ad749,e749,hx749_0⟩:=Kd.at_int HR1.out x5_1 p749 q749
     cases e749;replace p749:=eq_true p749;replace q749:=eq_true q749
     go_wp2_with (first | ((with_reducible refine qe (f:=87) rfl ?_);refine gl 18 Try.func87 #[.int .i64 (rd l1 x5_1),.int .i64 0,.int .i64 (wrap64 (a0 - 1))] ?_;(with_reducible refine(zq.calls (rd l1 x5_1) 0 (wrap64 (a0 - 1)) false _ A5.out).mono ?_);rintro e w' ⟨rfl,⟨nd,rfl⟩⟩;refine⟨_,rfl,?_⟩))
     go_ret
     exact⟨fr,df⟩
   ·rw[if_neg c3]at H
    have c3b0:=decide_eq_false c3;clear c3;replace H:=bs H;obtain⟨t751,A7,H⟩:=H
    by_cases c8:t751=true
    ·subst c8
     rw[if_pos rfl]at H
     obtain rfl:=Option.some.inj H
     go_wp2_with (first | ((with_reducible refine qe (f:=103) rfl ?_);refine gl 21 Try.func103 #[.int .i64 a0] ?_;(with_reducible refine(jd.calls a0 true _ A7.out).mono ?_);rintro e w' ⟨rfl,⟨nd,rfl⟩⟩;refine⟨_,rfl,?_⟩))
     go_ret
     exact⟨fr,df⟩
    ·replace c8:=Bool.eq_false_iff.mpr c8
     subst c8
     rw[if_neg (show ¬ (false=true) by decide)]at H
     obtain rfl:=Option.some.inj H
     go_wp2_with (first | ((with_reducible refine qe (f:=103) rfl ?_);refine gl 21 Try.func103 #[.int .i64 a0] ?_;(with_reducible refine(jd.calls a0 false _ A7.out).mono ?_);rintro e w' ⟨rfl,⟨nd,rfl⟩⟩;refine⟨_,rfl,?_⟩))
     go_ret
     exact⟨fr,df⟩
end Go.Proofs.Ytmgbpmihbljngaa.PA
