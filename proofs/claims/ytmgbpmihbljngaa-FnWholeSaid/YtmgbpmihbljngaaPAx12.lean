-- Written by xprint.py, a program of this claim's own (over the kit's print.py)
import Derived.Test.YtmgbpmihbljngaaPAx10
import Derived.Test.YtmgbpmihbljngaaPAx11
namespace Go.Proofs.Ytmgbpmihbljngaa.PA
open Go.RowKit Go.Proofs.YtmgbpmihbljngaaW.PrintWords Go.Proofs.YtmgbpmihbljngaaW.PrintLast Go.Proofs.YtmgbpmihbljngaaW.PrintMore
attribute [local go_sem] Qg Qj Qp Qo j4 j3 Qh Qf
set_option linter.unusedVariables false
set_option linter.unusedSimpArgs false
mutual
def qk.l0 :Nat→Int→List (List Int)→List (List Int)→Int→Option (List Int)
 | 0,_,_,_,_=>none
 | k+1,x0,x5,x6,x7=>if x7 < 4 then (if 0≤x7 then (if x7 < (x5.length:Int) then ((qx.f k (jk x5 x7)).bind fun t306=>(if x6.length < 5864062014805 then (qk.l0 k x0 x5 (x6++[t306]) (wrap64 (x7+1))) else (none))) else (none)) else (none)) else (qk.l1 k x0 x6 (([]:List (List Int))) 0)
def qk.l1 :Nat→Int→List (List Int)→List (List Int)→Int→Option (List Int)
 | 0,_,_,_,_=>none
 | k+1,x0,x6,x8,x9=>if x9 < 4 then (qk.l2 k x0 x6 x8 x9 x9) else (qk.l4 k x0 x8 (([]:List (List Int))) 0)
def qk.l2 :Nat→Int→List (List Int)→List (List Int)→Int→Int→Option (List Int)
 | 0,_,_,_,_,_=>none
 | k+1,x0,x6,x8,x9,x10=>if x10 < 4 then (if 0≤x9 then (if x9 < (x6.length:Int) then (if 0≤x10 then (if x10 < (x6.length:Int) then ((qn.f k x0 (jk x6 x9) (jk x6 x10)).bind fun t317=>(qk.l3 k x0 x6 x8 x9 x10 t317 x10)) else (none)) else (none)) else (none)) else (none)) else (qk.l1 k x0 x6 x8 (wrap64 (x9+1)))
def qk.l3 :Nat→Int→List (List Int)→List (List Int)→Int→Int→List Int→Int→Option (List Int)
 | 0,_,_,_,_,_,_,_=>none
 | k+1,x0,x6,x8,x9,x10,x11,x12=>if x12 < 4 then (if 0≤x12 then (if x12 < (x6.length:Int) then ((qn.f k x0 x11 (jk x6 x12)).bind fun t321=>(if x8.length < 5864062014805 then (qk.l3 k x0 x6 (x8++[t321]) x9 x10 x11 (wrap64 (x12+1))) else (none))) else (none)) else (none)) else (qk.l2 k x0 x6 x8 x9 (wrap64 (x10+1)))
def qk.l4 :Nat→Int→List (List Int)→List (List Int)→Int→Option (List Int)
 | 0,_,_,_,_=>none
 | k+1,x0,x8,x13,x14=>if x14 < 100 then (qk.l5 k x0 x8 x13 x14 (([]:List Int)) 0) else ((qm.f k x0 x13 20).bind fun t330=>(if 0 < (t330.length:Int) then (some (jk t330 0)) else (none)))
def qk.l5 :Nat→Int→List (List Int)→List (List Int)→Int→List Int→Int→Option (List Int)
 | 0,_,_,_,_,_,_=>none
 | k+1,x0,x8,x13,x14,x15,x16=>if x16 < 20 then (if 0≤x16 then (if x16 < (x8.length:Int) then (if 0≤x14 then (if x14 < ((jk x8 x16).length:Int) then (if x15.length < 17592186044416 then (qk.l5 k x0 x8 x13 x14 (x15++[rd (jk x8 x16) x14]) (wrap64 (x16+1))) else (none)) else (none)) else (none)) else (none)) else (none)) else (if x13.length < 5864062014805 then (qk.l4 k x0 x8 (x13++[x15]) (wrap64 (x14+1))) else (none))
end
def qk.f (k:Nat) (a0:Int) (l1:List (S43)):Option (List Int):=(zl.f k a0 l1).bind fun t299=>(qk.l0 k a0 t299 (([]:List (List Int))) 0)
theorem qk.mono_l :∀ k,(∀ y0 y1 y2 y3,LeO (qk.l0 k y0 y1 y2 y3) (qk.l0 (k+1) y0 y1 y2 y3))∧(∀ y0 y1 y2 y3,LeO (qk.l1 k y0 y1 y2 y3) (qk.l1 (k+1) y0 y1 y2 y3))∧(∀ y0 y1 y2 y3 y4,LeO (qk.l2 k y0 y1 y2 y3 y4) (qk.l2 (k+1) y0 y1 y2 y3 y4))∧(∀ y0 y1 y2 y3 y4 y5 y6,LeO (qk.l3 k y0 y1 y2 y3 y4 y5 y6) (qk.l3 (k+1) y0 y1 y2 y3 y4 y5 y6))∧(∀ y0 y1 y2 y3,LeO (qk.l4 k y0 y1 y2 y3) (qk.l4 (k+1) y0 y1 y2 y3))∧(∀ y0 y1 y2 y3 y4 y5,LeO (qk.l5 k y0 y1 y2 y3 y4 y5) (qk.l5 (k+1) y0 y1 y2 y3 y4 y5))
 | 0=>⟨fun _ _ _ _ r h=>by simp[qk.l0]at h,fun _ _ _ _ r h=>by simp[qk.l1]at h,fun _ _ _ _ _ r h=>by simp[qk.l2]at h,fun _ _ _ _ _ _ _ r h=>by simp[qk.l3]at h,fun _ _ _ _ r h=>by simp[qk.l4]at h,fun _ _ _ _ _ _ r h=>by simp[qk.l5]at h⟩
 | k+1=>by
  obtain⟨ih0,ih1,ih2,ih3,ih4,ih5⟩:=qk.mono_l k
  refine⟨?_,?_,?_,?_,?_,?_⟩
  ·intro y0 y1 y2 y3
   unfold qk.l0
   repeat' first | (with_reducible first | apply ih0 | apply ih1 | apply ih2 | apply ih3 | apply ih4 | apply ih5 | apply qm.mono | apply zl.mono | apply qx.mono | apply qn.mono | exact LeO.refl _ | exact LeO.none _ | refine LeO.ite ?_ ?_ | refine LeO.bind ?_ (fun _=>?_)) | (first | apply ih0 | apply ih1 | apply ih2 | apply ih3 | apply ih4 | apply ih5 | apply qm.mono | apply zl.mono | apply qx.mono | apply qn.mono | exact LeO.none _ | refine LeO.ite ?_ ?_ | refine LeO.bind ?_ (fun _=>?_))
  ·intro y0 y1 y2 y3
   unfold qk.l1
   repeat' first | (with_reducible first | apply ih0 | apply ih1 | apply ih2 | apply ih3 | apply ih4 | apply ih5 | apply qm.mono | apply zl.mono | apply qx.mono | apply qn.mono | exact LeO.refl _ | exact LeO.none _ | refine LeO.ite ?_ ?_ | refine LeO.bind ?_ (fun _=>?_)) | (first | apply ih0 | apply ih1 | apply ih2 | apply ih3 | apply ih4 | apply ih5 | apply qm.mono | apply zl.mono | apply qx.mono | apply qn.mono | exact LeO.none _ | refine LeO.ite ?_ ?_ | refine LeO.bind ?_ (fun _=>?_))
  ·intro y0 y1 y2 y3 y4
   unfold qk.l2
   repeat' first | (with_reducible first | apply ih0 | apply ih1 | apply ih2 | apply ih3 | apply ih4 | apply ih5 | apply qm.mono | apply zl.mono | apply qx.mono | apply qn.mono | exact LeO.refl _ | exact LeO.none _ | refine LeO.ite ?_ ?_ | refine LeO.bind ?_ (fun _=>?_)) | (first | apply ih0 | apply ih1 | apply ih2 | apply ih3 | apply ih4 | apply ih5 | apply qm.mono | apply zl.mono | apply qx.mono | apply qn.mono | exact LeO.none _ | refine LeO.ite ?_ ?_ | refine LeO.bind ?_ (fun _=>?_))
  ·intro y0 y1 y2 y3 y4 y5 y6
   unfold qk.l3
   repeat' first | (with_reducible first | apply ih0 | apply ih1 | apply ih2 | apply ih3 | apply ih4 | apply ih5 | apply qm.mono | apply zl.mono | apply qx.mono | apply qn.mono | exact LeO.refl _ | exact LeO.none _ | refine LeO.ite ?_ ?_ | refine LeO.bind ?_ (fun _=>?_)) | (first | apply ih0 | apply ih1 | apply ih2 | apply ih3 | apply ih4 | apply ih5 | apply qm.mono | apply zl.mono | apply qx.mono | apply qn.mono | exact LeO.none _ | refine LeO.ite ?_ ?_ | refine LeO.bind ?_ (fun _=>?_))
  ·intro y0 y1 y2 y3
   unfold qk.l4
   repeat' first | (with_reducible first | apply ih0 | apply ih1 | apply ih2 | apply ih3 | apply ih4 | apply ih5 | apply qm.mono | apply zl.mono | apply qx.mono | apply qn.mono | exact LeO.refl _ | exact LeO.none _ | refine LeO.ite ?_ ?_ | refine LeO.bind ?_ (fun _=>?_)) | (first | apply ih0 | apply ih1 | apply ih2 | apply ih3 | apply ih4 | apply ih5 | apply qm.mono | apply zl.mono | apply qx.mono | apply qn.mono | exact LeO.none _ | refine LeO.ite ?_ ?_ | refine LeO.bind ?_ (fun _=>?_))
  ·intro y0 y1 y2 y3 y4 y5
   unfold qk.l5
   repeat' first | (with_reducible first | apply ih0 | apply ih1 | apply ih2 | apply ih3 | apply ih4 | apply ih5 | apply qm.mono | apply zl.mono | apply qx.mono | apply qn.mono | exact LeO.refl _ | exact LeO.none _ | refine LeO.ite ?_ ?_ | refine LeO.bind ?_ (fun _=>?_)) | (first | apply ih0 | apply ih1 | apply ih2 | apply ih3 | apply ih4 | apply ih5 | apply qm.mono | apply zl.mono | apply qx.mono | apply qn.mono | exact LeO.none _ | refine LeO.ite ?_ ?_ | refine LeO.bind ?_ (fun _=>?_))
theorem qk.mono :∀ a0 a1 k,LeO (qk.f k a0 a1) (qk.f (k+1) a0 a1):=by
 intro a0 a1 k
 obtain⟨ih0,ih1,ih2,ih3,ih4,ih5⟩:=qk.mono_l k
 unfold qk.f
 repeat' first | (with_reducible first | apply ih0 | apply ih1 | apply ih2 | apply ih3 | apply ih4 | apply ih5 | apply qm.mono | apply zl.mono | apply qx.mono | apply qn.mono | exact LeO.refl _ | exact LeO.none _ | refine LeO.ite ?_ ?_ | refine LeO.bind ?_ (fun _=>?_)) | (first | apply ih0 | apply ih1 | apply ih2 | apply ih3 | apply ih4 | apply ih5 | apply qm.mono | apply zl.mono | apply qx.mono | apply qn.mono | exact LeO.none _ | refine LeO.ite ?_ ?_ | refine LeO.bind ?_ (fun _=>?_))
def qk.T14 :Bool×List (List Nat×List Nat):=(true,[([],[]),([],[]),([],[]),([1,2],[1,2]),([3],[3]),([],[]),([],[]),([5,6],[5,6]),([7],[7]),([0,4,8],[0,4,8]),([9,9,0,1,2,3,4,5,6,7,8,9],[9])])
def qk.B14 :List Nat:=[0,0,0,6,14,0,0,96,224,511,1023]
theorem qk.tab14 :rtab .any (Ju Try.f63 14)=qk.T14:=by kernel_rfl
theorem qk.bits14 :Qt qk.T14.2 qk.B14=true:=by kernel_rfl
set_option maxHeartbeats 8000000 in
set_option maxRecDepth 100000 in
theorem qk.calls (k:Nat) (a0:Int) (A1:Option Addr) (c1:Nat) (l1:List (S43)) (r:List Int) (w:World) (hr1:Kd.C k43 w A1 l1.length l1) (hc1:l1.length≤c1) (h:qk.f k a0 l1=some r):
  Calls Try.prog 63 #[.int .i64 a0,.slice A1 l1.length c1] w fun e w'=>∃ v0_:Value,e=.returned (v0_)∧Kd.V (Kd.int .i64) 3 w' w.heap.size (fun k_=>(w.heap.size≤k_)) v0_ r∧Below w.heap.size w w':=by
 have HR1:=am hr1
 have HC1:=am hc1
 clear hr1 hc1
 have HB:=am (Below.refl w.heap.size w)
 have H:((zl.f k a0 l1).bind fun t299=>(qk.l0 k a0 t299 (([]:List (List Int))) 0))=some r:=h
 clear h;replace H:=bs H;obtain⟨t299,A3,H⟩:=H
 generalize hy302:(([]:List (List Int)))=y302 at H
 have Ny302:=am hy302.symm;clear hy302;have H':=am H;clear H
 go_enter Try.func63,Try.ntmps63
 go_wp2_with (first | ((with_reducible refine qe (f:=78) rfl ?_);refine gl 19 Try.func78 #[.int .i64 a0,.slice A1 l1.length c1] ?_;(with_reducible refine(zl.calls k a0 _ _ l1 t299 _ ?_ ?_ A3.out).mono ?_);exact wC HR1;exact HC1.out;rintro e w4 ⟨v300,rfl,ho0,hb⟩;refine⟨_,rfl,?_⟩;have HO301:=am (Kd.N_lower (Kd.N_mono (ok':=fun k_=>(w.heap.size≤k_)) ho0 (fun k_ hk_=>(Nat.le_trans (bz HB) hk_))) (bz HB));replace HB:=bq HB hb;(try clear hb);(try clear ho0)) | ((with_reducible refine q7 (N:=20) rfl ?_);refine Kd.N_lit (Kd.slice 3 (Kd.int .i64)) _ 23 ?hg (N':=20) ?hd (xs:=([]:List (List Int))) (inner:=[]) (ok:=(fun k_=>(w.heap.size≤k_)∧some k_≠(v300:Value).ownBlock)) (okp:=(fun k_=>(w.heap.size≤k_)∧some k_≠(v300:Value).ownBlock)) ?hr ?hp (fun _ hk=>hk) ((show ∀ k_,w4.heap.size≤k_→(fun k_=>(w.heap.size≤k_)∧some k_≠(v300:Value).ownBlock) k_ from fun k_ hk=>⟨(Nat.le_trans (bz HB) hk),Kd.fresh' (Kd.N_lt (wN HO301)) k_ hk⟩) _ (Nat.le_refl _)) (Below.refl _ _) (Nat.le_refl _) (by simp) ?_;(case hd=>rfl);(case hg=>rfl);(case hr=>first | (go_simp;done) | (go_simp;rfl));(case hp=>exact(Reps.none _ _));intro v303 w5 ho6 hb hg_ hnew_;clear hg_ hnew_;(first | rw[← Ny302.out]at ho6 | (simp only[Int.reduceToNat]at ho6;rw[← Ny302.out]at ho6));replace HO301:=eN HO301 (Kd.N_base ho6) hb;have HO304:=am (Kd.N_lower ho6 (bz HB));replace HB:=bq HB hb;clear hb ho6))
 go_loopg [6,7] k (fun kq v6 v7 w'=>∃ (x6_1:List (List Int)) (x7_1:Int),v7=.int .i64 x7_1∧qa (qk.l0 kq a0 t299 x6_1 x7_1=some r)∧qa (kq≤k)∧qa (Kd.N (Kd.slice 3 (Kd.int .i64)) 23 w' w.heap.size (fun k_=>(w.heap.size≤k_)∧some k_≠(v6:Value).ownBlock) v300 t299)∧qa (Kd.N (Kd.slice 3 (Kd.int .i64)) 23 w' w.heap.size (fun k_=>(w.heap.size≤k_)∧some k_≠(v300:Value).ownBlock) v6 x6_1)∧qa (Below w.heap.size w w'))
 case atStart=>exact⟨(y302),(0),fr,H',⟨Nat.le_refl _⟩,⟨wN HO301⟩,⟨wN HO304⟩,⟨bw HB⟩⟩
 case round =>
  clear H';try clear c1;try clear p2;try clear c6
  obtain⟨x6_1,x7_1,rfl,HA,HK1,HO_5,HO_6,HB⟩:=hrel
  cases gk with
  | zero=>exact absurd HA.out (by simp[qk.l0])
  | succ k1 =>
   have H:=HA.out;clear HA
   simp only[qk.l0]at H
   by_cases c7:x7_1 < 4
   ·rw[if_pos c7]at H
    have c7b0:=decide_eq_true c7;clear c7;replace H:=ifn H;obtain⟨c8,H⟩:=H;have c8b0:=decide_eq_true c8;clear c8;replace H:=ifn H;obtain⟨c9,H⟩:=H;have c9b0:=decide_eq_true c9;clear c9;replace H:=bs H;obtain⟨t306,A10,H⟩:=H
    replace H:=ifn H;obtain⟨c11,H⟩:=H;have LMc11:=am c11;clear c11
    generalize hy309:(x6_1++[t306]:List (List Int))=y309 at H
    have Ny309:=am hy309.symm;clear hy309;have H':=am H;clear H
    obtain⟨Ao12,co12,eo12⟩:=Kd.N_slice HO_5.out
    subst eo12
    have p305:0≤(x7_1:Int):=od
    have q305:x7_1 < (t299.length:Int):=od
    obtain⟨ad305,A305_0,c305_0,e305,hx305_0,hl305_0,hi305_0⟩:=J5 (Kd.N_reads' HO_5.out).2.2 x7_1 p305 q305
    cases e305
    obtain⟨ce305,hce305,hMe305,hcc305⟩:=Kd.N_get HO_5.out [] x7_1 p305 (by first | exact q305 | exact od | (have e_:=(Kd.N_reads' HO_5.out).1;omega))
    obtain⟨ua305_0,uc305_0,rfl,ul305_0,ge305_0⟩:=Kd.FK_slice_open hMe305
    have hv305_0:=hcc305 0 _ rfl
    rw[Nat.add_zero,show ((Kd.slice 3 (Kd.int .i64))).sz=1 from rfl,Nat.mul_one]at hv305_0
    replace hv305_0:=Option.some.inj (hv305_0.symm.trans hx305_0)
    injection hv305_0 with hva_ hvn_ hvc_
    rw[hva_]at ge305_0
    rw[hvc_]at ul305_0
    have HL305_0:=am (show Kd.V (Kd.int .i64) 3 _ w.heap.size _ _ (jk t299 x7_1) from Kd.V_mk ul305_0 ge305_0)
    clear hva_ hvn_ hvc_ ge305_0 ul305_0;clear hcc305 hce305
    have HR305_0:=am hi305_0
    have HC305_0:=am hl305_0
    clear hi305_0 hl305_0;replace p305:=eq_true p305;replace q305:=eq_true q305
    go_wp2_with (first | ((with_reducible refine qe (f:=107) rfl ?_);refine gl 30 Try.func107 #[.slice A305_0 (jk t299 x7_1).length c305_0] ?_;(with_reducible refine(qx.calls k1 _ _ (jk t299 x7_1) t306 _ ?_ ?_ A10.out).mono ?_);exact wC HR305_0;exact HC305_0.out;rintro e w13 ⟨v307,rfl,ho0,hb⟩;refine⟨_,rfl,?_⟩;replace HO_5:=eN HO_5 (Kd.R_base ho0) hb;replace HO_6:=eN HO_6 (Kd.R_base ho0) hb;replace HL305_0:=eV HL305_0 (Kd.R_base ho0) hb;have HO308:=am (mR ho0 HB);replace HR305_0:=am (Kd.C_below (wC HR305_0) hb);replace HB:=bq HB hb;(try clear hb);(try clear ho0);obtain⟨Ao15,co15,eo15⟩:=Kd.R_slice HO308.out;subst eo15) | ((with_reducible refine ji (b:=.append) (xs:=#[.tmp 25,.tmp 31]) rfl ?_);at_builtin;refine Kd.N_append (Kd.slice 3 (Kd.int .i64)) (w0:=w) w.heap.size rfl (.tmp 25) (.tmp 31) 47 23 (.slice none 0 0) 24 rfl Try.underlying47 Jj rfl (by decide) (by omega) u6 x6_1 t306 [.slice Ao15 t306.length co15] (fun k_=>(w.heap.size≤k_)∧some k_≠(.slice (some ad305) t299.length co12:Value).ownBlock) (fun k_=>((fun k_=>(w.heap.size≤k_)∧some k_≠(.slice (some ad305) t299.length co12:Value).ownBlock)) k_∧some k_≠(u6:Value).ownBlock) rfl rfl ?aP (fun _ hk=>hk) ?aF ?aO ?aB ?aS ?aL ?_;(case aP=>exact(Kd.FK_slice_mk (Kd.R_reads' (Kd.R_mono (ok':=(fun k_=>((fun k_=>(w.heap.size≤k_)∧some k_≠(.slice (some ad305) t299.length co12:Value).ownBlock)) k_∧some k_≠(u6:Value).ownBlock)) (Kd.R_apart' (Kd.R_apart' (HO308.out) (Kd.N_typed HO_5.out) (by decide)) (Kd.N_typed HO_6.out) (by decide)) (fun k_ hk=>⟨⟨hk.1.1.1,hk.1.2⟩,hk.2⟩))).2.1 (Kd.R_F (Kd.R_mono (ok':=(fun k_=>((fun k_=>(w.heap.size≤k_)∧some k_≠(.slice (some ad305) t299.length co12:Value).ownBlock)) k_∧some k_≠(u6:Value).ownBlock)) (Kd.R_apart' (Kd.R_apart' (HO308.out) (Kd.N_typed HO_5.out) (by decide)) (Kd.N_typed HO_6.out) (by decide)) (fun k_ hk=>⟨⟨hk.1.1.1,hk.1.2⟩,hk.2⟩)))));(case aB=>exact(bw HB));(case aF=>exact(fun k_ hk=>⟨(Nat.le_trans (bz HB) hk),Kd.fresh' (Kd.N_lt (wN HO_5)) k_ hk⟩));(case aO=>exact(oN_ HO_6 (fun _ hk=>⟨hk.1.1,hk.1.2⟩)));(case aS=>exact(bz HB));(case aL=>have:=LMc11.out;omega);intro v310 w14 ho hb hg hat;rw[← Ny309.out]at ho;replace HO_5:=am (Kd.N_afterv (ok:=(fun k_=>(w.heap.size≤k_)∧some k_≠(.slice Ao15 t306.length co15:Value).ownBlock)) (oN_ HO_5 (fun _ hk=>⟨⟨hk.1.1,hk.2⟩,hk.1.2⟩)) hg hat);replace HL305_0:=am (Kd.V_afterv (ok:=(fun k_=>(w.heap.size≤k_)∧some k_≠(.slice (some ad305) t299.length co12:Value).ownBlock∧some k_≠(.slice Ao15 t306.length co15:Value).ownBlock)) (oV_ HL305_0 (fun _ hk=>⟨⟨hk.1.1.1,⟨hk.1.2,hk.2⟩⟩,hk.1.1.2⟩)) hg hat);replace HB:=am (hb);have HO311:=am (ho);clear HO_6 HO308;clear ho hb hg hat))
    go_roundg k1
    case measure=>have:=HK1.out;omega
    case rel=>exact⟨(y309),(wrap64 (x7_1+1)),fr,H',⟨by have:=HK1.out;omega⟩,⟨Kd.N_below (Kd.N_mono HO_5.out (fun _ hk=>⟨hk.1.1,hk.2⟩)) gs⟩,⟨wN HO311⟩,⟨bw HB⟩⟩
   ·rw [if_neg c7] at H
    have c7b0:=decide_eq_false c7;clear c7
    generalize hy312:(([]:List (List Int)))=y312 at H
    have Ny312:=am hy312.symm;clear hy312;have H':=am H;clear H
    go_wp2_with (first | ((with_reducible refine q7 (N:=33) rfl ?_);refine Kd.N_lit (Kd.slice 3 (Kd.int .i64)) _ 23 ?hg (N':=33) ?hd (xs:=([]:List (List Int))) (inner:=[]) (ok:=(fun k_=>(w.heap.size≤k_)∧some k_≠(v300:Value).ownBlock∧some k_≠(u6:Value).ownBlock)) (okp:=(fun k_=>(w.heap.size≤k_)∧some k_≠(v300:Value).ownBlock∧some k_≠(u6:Value).ownBlock)) ?hr ?hp (fun _ hk=>hk) ((show ∀ k_,wr.heap.size≤k_→(fun k_=>(w.heap.size≤k_)∧some k_≠(v300:Value).ownBlock∧some k_≠(u6:Value).ownBlock) k_ from fun k_ hk=>⟨(Nat.le_trans (bz HB) hk),Kd.fresh' (Kd.N_lt (wN HO_5)) k_ hk,Kd.fresh' (Kd.N_lt (wN HO_6)) k_ hk⟩) _ (Nat.le_refl _)) (Below.refl _ _) (Nat.le_refl _) (by simp) ?_;(case hd=>rfl);(case hg=>rfl);(case hr=>first | (go_simp;done) | (go_simp;rfl));(case hp=>exact(Reps.none _ _));intro v313 w16 ho17 hb hg_ hnew_;clear hg_ hnew_;(first | rw[← Ny312.out]at ho17 | (simp only[Int.reduceToNat]at ho17;rw[← Ny312.out]at ho17));replace HO_5:=eN HO_5 (Kd.N_base ho17) hb;replace HO_6:=eN HO_6 (Kd.N_base ho17) hb;have HO314:=am (Kd.N_lower ho17 (bz HB));replace HB:=bq HB hb;clear hb ho17))
    go_loopg [8,9] k1 (fun kq v8 v9 w'=>∃ (x8_2:List (List Int)) (x9_2:Int),v9=.int .i64 x9_2∧qa (qk.l1 kq a0 x6_1 x8_2 x9_2=some r)∧qa (kq≤k1)∧qa (Kd.N (Kd.slice 3 (Kd.int .i64)) 23 w' w.heap.size (fun k_=>(w.heap.size≤k_)∧some k_≠(v8:Value).ownBlock) u6 x6_1)∧qa (Kd.N (Kd.slice 3 (Kd.int .i64)) 23 w' w.heap.size (fun k_=>(w.heap.size≤k_)∧some k_≠(u6:Value).ownBlock) v8 x8_2)∧qa (Below w.heap.size w w'))
    case atStart=>exact⟨(y312),(0),fr,H',⟨Nat.le_refl _⟩,⟨Kd.N_below (Kd.N_mono HO_6.out (fun _ hk=>⟨hk.1.1,hk.2⟩)) gs⟩,⟨Kd.N_below (Kd.N_mono HO314.out (fun _ hk=>⟨hk.1,hk.2.2⟩)) gs⟩,⟨bw HB⟩⟩
    case round=>
     clear H';try clear c1;try clear p2;try clear c3;try clear p3;try clear q3;try clear hx3;try clear c6;try clear p6;try clear c7;try clear c7b0;try clear c8;try clear c8b0;try clear c9;try clear c9b0;try clear c10;try clear c11
     try clear hx305_0;try clear p2;try clear p305;try clear q305
     obtain⟨x8_2,x9_2,rfl,HA,HK2,HO_6,HO_8,HB⟩:=hrel
     cases gk with
     | zero=>exact absurd HA.out (by simp[qk.l1])
     | succ k2=>
      have H:=HA.out;clear HA
      simp only[qk.l1]at H
      by_cases c18:x9_2 < 4
      ·rw [if_pos c18] at H
       have c18b0:=decide_eq_true c18;clear c18;have H':=am H;clear H;go_wp2
       go_loopg [8,10] k2 (fun kq v8 v10 w'=>∃ (x8_3:List (List Int)) (x10_3:Int),v10=.int .i64 x10_3∧qa (qk.l2 kq a0 x6_1 x8_3 x9_2 x10_3=some r)∧qa (kq≤k2)∧qa (Kd.N (Kd.slice 3 (Kd.int .i64)) 23 w' w.heap.size (fun k_=>(w.heap.size≤k_)∧some k_≠(v8:Value).ownBlock) u6 x6_1)∧qa (Kd.N (Kd.slice 3 (Kd.int .i64)) 23 w' w.heap.size (fun k_=>(w.heap.size≤k_)∧some k_≠(u6:Value).ownBlock) v8 x8_3)∧qa (Below w.heap.size w w'))
       case atStart=>exact⟨(x8_2),(x9_2),fr,H',⟨Nat.le_refl _⟩,⟨wN HO_6⟩,⟨wN HO_8⟩,⟨bw HB⟩⟩
       case round=>
        clear H';try clear c1;try clear p2;try clear c3;try clear p3;try clear q3;try clear hx3;try clear c6;try clear p6;try clear c7;try clear c7b0;try clear c8;try clear c8b0;try clear c9;try clear c9b0;try clear c10;try clear c11
        try clear c18;try clear c18b0;try clear hx305_0;try clear p2;try clear p3;try clear p305;try clear p6;try clear q3;try clear q305
        obtain⟨x8_3,x10_3,rfl,HA,HK3,HO_6,HO_8,HB⟩:=hrel
        cases gk with
        | zero=>exact absurd HA.out (by simp[qk.l2])
        | succ k3=>
         have H:=HA.out;clear HA
         simp only[qk.l2]at H
         by_cases c19:x10_3 < 4
         ·rw [if_pos c19] at H
          have c19b0:=decide_eq_true c19;clear c19;replace H:=ifn H;obtain⟨c20,H⟩:=H;have c20b0:=decide_eq_true c20;clear c20;replace H:=ifn H;obtain⟨c21,H⟩:=H;have c21b0:=decide_eq_true c21;clear c21;replace H:=ifn H;obtain⟨c22,H⟩:=H
          have c22b0:=decide_eq_true c22;clear c22;replace H:=ifn H;obtain⟨c23,H⟩:=H;have c23b0:=decide_eq_true c23;clear c23;replace H:=bs H;obtain⟨t317,A24,H⟩:=H;have H':=am H;clear H
          try go_wp2
          replace HO_6:=am (Kd.N_drew HO_6.out)
          replace HO_8:=am (Kd.N_drew HO_8.out)
          replace HB:=am (qv HB.out)
          obtain⟨Ao26,co26,eo26⟩:=Kd.N_slice HO_6.out
          (first | subst eo26 | (injection eo26 with f1_ f2_ f3_;have f4_:=f1_.symm;have f5_:=f3_.symm;clear f1_ f2_ f3_;subst f4_;subst f5_))
          have p315:0≤(x9_2:Int):=od
          have q315:x9_2 < (x6_1.length:Int):=od
          obtain⟨ad315,A315_0,c315_0,e315,hx315_0,hl315_0,hi315_0⟩:=J5 (Kd.N_reads' HO_6.out).2.2 x9_2 p315 q315
          cases e315
          obtain⟨ce315,hce315,hMe315,hcc315⟩:=Kd.N_get HO_6.out [] x9_2 p315 (by first | exact q315 | exact od | (have e_:=(Kd.N_reads' HO_6.out).1;omega))
          obtain⟨ua315_0,uc315_0,rfl,ul315_0,ge315_0⟩:=Kd.FK_slice_open hMe315
          have hv315_0:=hcc315 0 _ rfl
          rw[Nat.add_zero,show ((Kd.slice 3 (Kd.int .i64))).sz=1 from rfl,Nat.mul_one]at hv315_0
          replace hv315_0:=Option.some.inj (hv315_0.symm.trans hx315_0)
          injection hv315_0 with hva_ hvn_ hvc_
          rw[hva_]at ge315_0
          rw[hvc_]at ul315_0
          have HL315_0:=am (show Kd.V (Kd.int .i64) 3 _ w.heap.size _ _ (jk x6_1 x9_2) from Kd.V_mk ul315_0 ge315_0)
          clear hva_ hvn_ hvc_ ge315_0 ul315_0;clear hcc315 hce315
          have HR315_0:=am hi315_0
          have HC315_0:=am hl315_0
          clear hi315_0 hl315_0;replace p315:=eq_true p315;replace q315:=eq_true q315
          have p316:0≤(x10_3:Int):=od
          have q316:x10_3 < (x6_1.length:Int):=od
          obtain⟨ad316,A316_0,c316_0,e316,hx316_0,hl316_0,hi316_0⟩:=J5 (Kd.N_reads' HO_6.out).2.2 x10_3 p316 q316
          obtain rfl:ad315=ad316:=(by injection e316)
          obtain⟨ce316,hce316,hMe316,hcc316⟩:=Kd.N_get HO_6.out [] x10_3 p316 (by first | exact q316 | exact od | (have e_:=(Kd.N_reads' HO_6.out).1;omega))
          obtain⟨ua316_0,uc316_0,rfl,ul316_0,ge316_0⟩:=Kd.FK_slice_open hMe316
          have hv316_0:=hcc316 0 _ rfl
          rw[Nat.add_zero,show ((Kd.slice 3 (Kd.int .i64))).sz=1 from rfl,Nat.mul_one]at hv316_0
          replace hv316_0:=Option.some.inj (hv316_0.symm.trans hx316_0)
          injection hv316_0 with hva_ hvn_ hvc_
          rw[hva_]at ge316_0
          rw[hvc_]at ul316_0
          have HL316_0:=am (show Kd.V (Kd.int .i64) 3 _ w.heap.size _ _ (jk x6_1 x10_3) from Kd.V_mk ul316_0 ge316_0)
          clear hva_ hvn_ hvc_ ge316_0 ul316_0;clear hcc316 hce316
          have HR316_0:=am hi316_0
          have HC316_0:=am hl316_0
          clear hi316_0 hl316_0;replace p316:=eq_true p316;replace q316:=eq_true q316
          refine st 11 (fun w'=>w'.cell? (ad315.add (x9_2).toNat)=some (.slice A315_0 (jk x6_1 x9_2).length c315_0)∧w'.cell? (ad315.add (x10_3).toNat)=some (.slice A316_0 (jk x6_1 x10_3).length c316_0)) [] qk.tab14 qk.bits14 (⟨hx315_0,hx316_0⟩) fun hHeld HT_ HW_=>?_
          generalize wr.drew=w25 at HO_6 HO_8 HB HL315_0 HL316_0 HR315_0 HR316_0 hx315_0 hx316_0 hHeld ⊢
          refine pz 0 43 HT_ ?_;refine pz 1 44 HT_ ?_;refine pz 2 45 HT_ ?_;refine pz 3 46 HT_ ?_;refine pz 5 48 HT_ ?_;refine pz 6 49 HT_ ?_;refine pz 7 50 HT_ ?_;refine tk 4 47 HT_ HW_ hHeld ?_;refine tk 8 51 HT_ HW_ hHeld ?_
          refine on 9 (some 52) HT_ fun K hK=>?_
          refine gs_ Try.func108 #[.int .i64 a0,.slice A315_0 (jk x6_1 x9_2).length c315_0,.slice A316_0 (jk x6_1 x10_3).length c316_0] ?_
          with_reducible refine(qn.calls k3 a0 _ _ (jk x6_1 x9_2) _ _ (jk x6_1 x10_3) t317 _ ?side1 ?side2 ?side3 ?side4 A24.out).mono ?_
          (case side1=>exact wC HR315_0)
          (case side2=>exact HC315_0.out)
          (case side3=>exact wC HR316_0)
          (case side4=>exact HC316_0.out)
          rintro e w27 ⟨v318,rfl,ho0,hb⟩
          have HS0_:=(hb.cell (World.block_lt_of_cell? _ _ (hHeld.1))).trans (hHeld.1)
          have HS1_:=(hb.cell (World.block_lt_of_cell? _ _ (hHeld.2))).trans (hHeld.2)
          refine⟨_,rfl,?_⟩
          replace HO_6:=eN HO_6 (Kd.R_base ho0) hb
          replace HO_8:=eN HO_8 (Kd.R_base ho0) hb
          replace HL315_0:=eV HL315_0 (Kd.R_base ho0) hb
          replace HL316_0:=eV HL316_0 (Kd.R_base ho0) hb
          have HO319:=am (mR ho0 HB)
          replace HR315_0:=am (Kd.C_below (wC HR315_0) hb)
          replace HR316_0:=am (Kd.C_below (wC HR316_0) hb)
          replace HB:=bq HB hb
          (try clear hb)
          (try clear hb2)
          (try clear hk)
          (try clear hi)
          (try clear ho0)
          refine hK.out _ _ ⟨HS0_,HS1_⟩ fun hHeld=>nz ?_
          clear hK K;refine pz 10 11 HT_ ?_
          refine Zo (Qz HT_.out (by kernel_rfl)) ?_
          try go_wp2
          go_loopg [8,12] k3 (fun kq v8 v12 w'=>∃ (x8_4:List (List Int)) (x12_4:Int),v12=.int .i64 x12_4∧qa (qk.l3 kq a0 x6_1 x8_4 x9_2 x10_3 t317 x12_4=some r)∧qa (kq≤k3)∧qa (Kd.N (Kd.slice 3 (Kd.int .i64)) 23 w' w.heap.size (fun k_=>(w.heap.size≤k_)∧some k_≠(v8:Value).ownBlock∧some k_≠(v318:Value).ownBlock) (.slice (some ad315) x6_1.length co26) x6_1)∧qa (Kd.N (Kd.slice 3 (Kd.int .i64)) 23 w' w.heap.size (fun k_=>(w.heap.size≤k_)∧some k_≠((.slice (some ad315) x6_1.length co26):Value).ownBlock∧some k_≠(v318:Value).ownBlock) v8 x8_4)∧qa (Kd.R (Kd.int .i64) 3 w' w.heap.size (fun k_=>(w.heap.size≤k_)) v318 t317)∧qa (Below w.heap.size w w'))
          case atStart=>exact⟨(x8_3),(x10_3),fr,H',⟨Nat.le_refl _⟩,⟨Kd.N_below (Kd.N_mono HO_6.out (fun _ hk=>⟨hk.1.1,⟨hk.1.2,hk.2⟩⟩)) gs⟩,⟨Kd.N_below (Kd.N_mono HO_8.out (fun _ hk=>⟨hk.1.1,⟨hk.1.2,hk.2⟩⟩)) gs⟩,⟨Kd.R_below (Kd.R_mono HO319.out (fun _ hk=>hk.1)) gs⟩,⟨bw HB⟩⟩
          case round=>
           clear H';try clear c1;try clear c2;try clear p2;try clear c3;try clear p3;try clear q3;try clear hx3;try clear c6;try clear p6;try clear c7;try clear c7b0;try clear c8;try clear c8b0;try clear c9;try clear c9b0;try clear c10
           try clear c11;try clear c18;try clear c18b0;try clear c19;try clear c19b0;try clear c20;try clear c20b0;try clear c21;try clear c21b0;try clear c22;try clear c22b0;try clear c23;try clear c23b0;try clear hx305_0;try clear hx315_0
           try clear hx316_0;try clear p2;try clear p3;try clear p305;try clear p315;try clear p316;try clear p6;try clear q3;try clear q305;try clear q315;try clear q316
           obtain⟨x8_4,x12_4,rfl,HA,HK4,HO_6,HO_8,HO_11,HB⟩:=hrel
           cases gk with
           | zero=>exact absurd HA.out (by simp[qk.l3])
           | succ k4=>
            have H:=HA.out;clear HA
            simp only[qk.l3]at H
            by_cases c28:x12_4 < 4
            ·rw[if_pos c28]at H
             have c28b0:=decide_eq_true c28;clear c28;replace H:=ifn H;obtain⟨c29,H⟩:=H;have c29b0:=decide_eq_true c29;clear c29;replace H:=ifn H;obtain⟨c30,H⟩:=H;have c30b0:=decide_eq_true c30;clear c30;replace H:=bs H;obtain⟨t321,A31,H⟩:=H
             replace H:=ifn H;obtain⟨c32,H⟩:=H;have LMc32:=am c32;clear c32
             generalize hy324:(x8_4++[t321]:List (List Int))=y324 at H
             have Ny324:=am hy324.symm;clear hy324;have H':=am H;clear H
             have p320:0≤(x12_4:Int):=od
             have q320:x12_4 < (x6_1.length:Int):=od
             obtain⟨ad320,A320_0,c320_0,e320,hx320_0,hl320_0,hi320_0⟩:=J5 (Kd.N_reads' HO_6.out).2.2 x12_4 p320 q320
             obtain rfl:ad315=ad320:=(by injection e320)
             obtain⟨ce320,hce320,hMe320,hcc320⟩:=Kd.N_get HO_6.out [] x12_4 p320 (by first | exact q320 | exact od | (have e_:=(Kd.N_reads' HO_6.out).1;omega))
             obtain⟨ua320_0,uc320_0,rfl,ul320_0,ge320_0⟩:=Kd.FK_slice_open hMe320
             have hv320_0:=hcc320 0 _ rfl
             rw[Nat.add_zero,show ((Kd.slice 3 (Kd.int .i64))).sz=1 from rfl,Nat.mul_one]at hv320_0
             replace hv320_0:=Option.some.inj (hv320_0.symm.trans hx320_0)
             injection hv320_0 with hva_ hvn_ hvc_
             rw[hva_]at ge320_0
             rw[hvc_]at ul320_0
             have HL320_0:=am (show Kd.V (Kd.int .i64) 3 _ w.heap.size _ _ (jk x6_1 x12_4) from Kd.V_mk ul320_0 ge320_0)
             clear hva_ hvn_ hvc_ ge320_0 ul320_0;clear hcc320 hce320
             have HR320_0:=am hi320_0
             have HC320_0:=am hl320_0
             clear hi320_0 hl320_0;replace p320:=eq_true p320;replace q320:=eq_true q320
             obtain⟨Ao33,co33,eo33⟩:=Kd.R_slice HO_11.out
             subst eo33
             go_wp2_with (first | ((with_reducible refine qe (f:=108) rfl ?_);refine gl 65 Try.func108 #[.int .i64 a0,.slice Ao33 t317.length co33,.slice A320_0 (jk x6_1 x12_4).length c320_0] ?_;(with_reducible refine(qn.calls k4 a0 _ _ t317 _ _ (jk x6_1 x12_4) t321 _ ?_ ?_ ?_ ?_ A31.out).mono ?_);exact Kd.C_below (Kd.R_reads' HO_11.out).2.2 gs;exact(Kd.R_reads' HO_11.out).2.1;exact wC HR320_0;exact HC320_0.out;rintro e w34 ⟨v322,rfl,ho0,hb⟩;refine⟨_,rfl,?_⟩;replace HO_6:=eN HO_6 (Kd.R_base ho0) hb;replace HO_8:=eN HO_8 (Kd.R_base ho0) hb;replace HL320_0:=eV HL320_0 (Kd.R_base ho0) hb;have HO323:=am (Kd.R_lower (Kd.R_new' (Kd.R_newM (M:=fun k_=>(w.heap.size≤k_)) ho0 (bz HB) (fun k_ h_=>h_)) (Kd.R_lt (wR HO_11))) (bz HB));replace HO_11:=eR HO_11 (Kd.R_base ho0) hb;replace HR320_0:=am (Kd.C_below (wC HR320_0) hb);replace HB:=bq HB hb;(try clear hb);(try clear ho0);obtain⟨Ao36,co36,eo36⟩:=Kd.R_slice HO323.out;subst eo36) | ((with_reducible refine ji (b:=.append) (xs:=#[.tmp 58,.tmp 66]) rfl ?_);at_builtin;refine Kd.N_append (Kd.slice 3 (Kd.int .i64)) (w0:=w) w.heap.size rfl (.tmp 58) (.tmp 66) 47 23 (.slice none 0 0) 24 rfl Try.underlying47 Jj rfl (by decide) (by omega) u8 x8_4 t321 [.slice Ao36 t321.length co36] (fun k_=>(w.heap.size≤k_)∧some k_≠(.slice (some ad315) x6_1.length co26:Value).ownBlock∧some k_≠(.slice Ao33 t317.length co33:Value).ownBlock) (fun k_=>((fun k_=>(w.heap.size≤k_)∧some k_≠(.slice (some ad315) x6_1.length co26:Value).ownBlock∧some k_≠(.slice Ao33 t317.length co33:Value).ownBlock)) k_∧some k_≠(u8:Value).ownBlock) rfl rfl ?aP (fun _ hk=>hk) ?aF ?aO ?aB ?aS ?aL ?_;(case aP=>exact(Kd.FK_slice_mk (Kd.R_reads' (Kd.R_mono (ok':=(fun k_=>((fun k_=>(w.heap.size≤k_)∧some k_≠(.slice (some ad315) x6_1.length co26:Value).ownBlock∧some k_≠(.slice Ao33 t317.length co33:Value).ownBlock)) k_∧some k_≠(u8:Value).ownBlock)) (Kd.R_apart' (Kd.R_apart' (HO323.out) (Kd.N_typed HO_6.out) (by decide)) (Kd.N_typed HO_8.out) (by decide)) (fun k_ hk=>⟨⟨hk.1.1.1.1,⟨hk.1.2,hk.1.1.2⟩⟩,hk.2⟩))).2.1 (Kd.R_F (Kd.R_mono (ok':=(fun k_=>((fun k_=>(w.heap.size≤k_)∧some k_≠(.slice (some ad315) x6_1.length co26:Value).ownBlock∧some k_≠(.slice Ao33 t317.length co33:Value).ownBlock)) k_∧some k_≠(u8:Value).ownBlock)) (Kd.R_apart' (Kd.R_apart' (HO323.out) (Kd.N_typed HO_6.out) (by decide)) (Kd.N_typed HO_8.out) (by decide)) (fun k_ hk=>⟨⟨hk.1.1.1.1,⟨hk.1.2,hk.1.1.2⟩⟩,hk.2⟩)))));(case aB=>exact(bw HB));(case aF=>exact(fun k_ hk=>⟨(Nat.le_trans (bz HB) hk),Kd.fresh' (Kd.N_lt (wN HO_6)) k_ hk,Kd.fresh' (Kd.R_lt (wR HO_11)) k_ hk⟩));(case aO=>exact(oN_ HO_8 (fun _ hk=>⟨hk.1.1,⟨hk.1.2.1,hk.1.2.2⟩⟩)));(case aS=>exact(bz HB));(case aL=>have:=LMc32.out;omega);intro v325 w35 ho hb hg hat;rw[← Ny324.out]at ho;replace HO_6:=am (Kd.N_afterv (ok:=(fun k_=>(w.heap.size≤k_)∧some k_≠(.slice Ao33 t317.length co33:Value).ownBlock∧some k_≠(.slice Ao36 t321.length co36:Value).ownBlock)) (oN_ HO_6 (fun _ hk=>⟨⟨hk.1.1,⟨hk.1.2.2,hk.2⟩⟩,hk.1.2.1⟩)) hg hat);replace HO_11:=am (Kd.R_over' (wR HO_11) (Kd.N_typed (wN HO_8)) (by decide) hg);replace HL320_0:=am (Kd.V_afterv (ok:=(fun k_=>(w.heap.size≤k_)∧some k_≠(.slice (some ad315) x6_1.length co26:Value).ownBlock∧some k_≠(.slice Ao33 t317.length co33:Value).ownBlock∧some k_≠(.slice Ao36 t321.length co36:Value).ownBlock)) (oV_ HL320_0 (fun _ hk=>⟨⟨hk.1.1.1,⟨hk.1.2,⟨hk.1.1.2.2,hk.2⟩⟩⟩,hk.1.1.2.1⟩)) hg hat);replace HB:=am (hb);have HO326:=am (ho);clear HO_8 HO323;clear ho hb hg hat))
             go_roundg k4
             case measure=>have:=HK1.out;have:=HK2.out;have:=HK3.out;have:=HK4.out;omega
             case rel=>exact⟨(y324),(wrap64 (x12_4+1)),fr,H',⟨by have:=HK1.out;have:=HK2.out;have:=HK3.out;have:=HK4.out;omega⟩,⟨Kd.N_below (Kd.N_mono HO_6.out (fun _ hk=>⟨hk.1.1,⟨hk.2,hk.1.2.1⟩⟩)) gs⟩,⟨wN HO326⟩,⟨Kd.R_below (Kd.R_mono HO_11.out (fun _ hk=>hk.1)) gs⟩,⟨bw HB⟩⟩
            ·rw[if_neg c28]at H
             have c28b0:=decide_eq_false c28;clear c28;have H':=am H;clear H;go_wp2
             go_roundg k4
             case measure=>have:=HK1.out;have:=HK2.out;have:=HK3.out;have:=HK4.out;omega
             case rel=>exact⟨(x8_4),(wrap64 (x10_3+1)),fr,H',⟨by have:=HK1.out;have:=HK2.out;have:=HK3.out;have:=HK4.out;omega⟩,⟨Kd.N_below (Kd.N_mono HO_6.out (fun _ hk=>⟨hk.1,hk.2.1⟩)) gs⟩,⟨Kd.N_below (Kd.N_mono HO_8.out (fun _ hk=>⟨hk.1,hk.2.1⟩)) gs⟩,⟨bw HB⟩⟩
         ·rw[if_neg c19]at H
          have c19b0:=decide_eq_false c19;clear c19;have H':=am H;clear H;go_wp2
          go_roundg k3
          case measure=>have:=HK1.out;have:=HK2.out;have:=HK3.out;omega
          case rel=>exact⟨(x8_3),(wrap64 (x9_2+1)),fr,H',⟨by have:=HK1.out;have:=HK2.out;have:=HK3.out;omega⟩,⟨wN HO_6⟩,⟨wN HO_8⟩,⟨bw HB⟩⟩
      ·rw [if_neg c18] at H
       have c18b0:=decide_eq_false c18;clear c18
       generalize hy327:(([]:List (List Int)))=y327 at H
       have Ny327:=am hy327.symm;clear hy327;have H':=am H;clear H
       go_wp2_with (first | ((with_reducible refine q7 (N:=68) rfl ?_);refine Kd.N_lit (Kd.slice 3 (Kd.int .i64)) _ 23 ?hg (N':=68) ?hd (xs:=([]:List (List Int))) (inner:=[]) (ok:=(fun k_=>(w.heap.size≤k_)∧some k_≠(u6:Value).ownBlock∧some k_≠(u8:Value).ownBlock)) (okp:=(fun k_=>(w.heap.size≤k_)∧some k_≠(u6:Value).ownBlock∧some k_≠(u8:Value).ownBlock)) ?hr ?hp (fun _ hk=>hk) ((show ∀ k_,wr.heap.size≤k_→(fun k_=>(w.heap.size≤k_)∧some k_≠(u6:Value).ownBlock∧some k_≠(u8:Value).ownBlock) k_ from fun k_ hk=>⟨(Nat.le_trans (bz HB) hk),Kd.fresh' (Kd.N_lt (wN HO_6)) k_ hk,Kd.fresh' (Kd.N_lt (wN HO_8)) k_ hk⟩) _ (Nat.le_refl _)) (Below.refl _ _) (Nat.le_refl _) (by simp) ?_;(case hd=>rfl);(case hg=>rfl);(case hr=>first | (go_simp;done) | (go_simp;rfl));(case hp=>exact(Reps.none _ _));intro v328 w37 ho38 hb hg_ hnew_;clear hg_ hnew_;(first | rw[← Ny327.out]at ho38 | (simp only[Int.reduceToNat]at ho38;rw[← Ny327.out]at ho38));replace HO_6:=eN HO_6 (Kd.N_base ho38) hb;replace HO_8:=eN HO_8 (Kd.N_base ho38) hb;have HO329:=am (Kd.N_lower ho38 (bz HB));replace HB:=bq HB hb;clear hb ho38))
       go_loopg [13,14] k2 (fun kq v13 v14 w'=>∃ (x13_3:List (List Int)) (x14_3:Int),v14=.int .i64 x14_3∧qa (qk.l4 kq a0 x8_2 x13_3 x14_3=some r)∧qa (kq≤k2)∧qa (Kd.N (Kd.slice 3 (Kd.int .i64)) 23 w' w.heap.size (fun k_=>(w.heap.size≤k_)∧some k_≠(v13:Value).ownBlock) u8 x8_2)∧qa (Kd.N (Kd.slice 3 (Kd.int .i64)) 23 w' w.heap.size (fun k_=>(w.heap.size≤k_)∧some k_≠(u8:Value).ownBlock) v13 x13_3)∧qa (Below w.heap.size w w'))
       case atStart=>exact⟨(y327),(0),fr,H',⟨Nat.le_refl _⟩,⟨Kd.N_below (Kd.N_mono HO_8.out (fun _ hk=>⟨hk.1.1,hk.2⟩)) gs⟩,⟨Kd.N_below (Kd.N_mono HO329.out (fun _ hk=>⟨hk.1,hk.2.2⟩)) gs⟩,⟨bw HB⟩⟩
       case round=>
        clear H';try clear c1;try clear c2;try clear p2;try clear c3;try clear p3;try clear q3;try clear hx3;try clear c6;try clear p6;try clear c7;try clear c7b0;try clear c8;try clear c8b0;try clear c9;try clear c9b0;try clear c10
        try clear c11;try clear c18;try clear c18b0;try clear c19;try clear c19b0;try clear c20;try clear c20b0;try clear c21;try clear c21b0;try clear c22;try clear c22b0;try clear c23;try clear c23b0;try clear c28;try clear c28b0;try clear c29
        try clear c29b0;try clear c30;try clear c30b0;try clear p30;try clear q30;try clear hx30;try clear c31;try clear p31;try clear q31;try clear hx31;try clear c32;try clear p32;try clear q32;try clear hx32;try clear hx305_0;try clear hx315_0
        try clear hx316_0;try clear hx320_0;try clear p2;try clear p3;try clear p305;try clear p315;try clear p316;try clear p320;try clear p6;try clear q3;try clear q305;try clear q315;try clear q316;try clear q320
        obtain⟨x13_3,x14_3,rfl,HA,HK3,HO_8,HO_13,HB⟩:=hrel
        cases gk with
        | zero=>exact absurd HA.out (by simp[qk.l4])
        | succ k3=>
         have H:=HA.out;clear HA
         simp only[qk.l4]at H
         by_cases c39:x14_3 < 100
         ·rw [if_pos c39] at H
          have c39b0:=decide_eq_true c39;clear c39
          generalize hy334:(([]:List Int))=y334 at H
          have Ny334:=am hy334.symm;clear hy334;have H':=am H;clear H
          go_wp2_with (first | ((with_reducible refine q7 (N:=73) rfl ?_);refine li 3 ([]:List Int) ?_;intro v335 w40 ho41 hb;(first | rw[← Ny334.out]at ho41 | (simp only[Int.reduceToNat]at ho41;rw[← Ny334.out]at ho41));replace HO_8:=eN HO_8 (Kd.R_base ho41) hb;replace HO_13:=eN HO_13 (Kd.R_base ho41) hb;have HO336:=am (mR ho41 HB);replace HB:=bq HB hb;clear hb ho41))
          go_loopg [15,16] k3 (fun kq v15 v16 w'=>∃ (x15_4:List Int) (x16_4:Int),v16=.int .i64 x16_4∧qa (qk.l5 kq a0 x8_2 x13_3 x14_3 x15_4 x16_4=some r)∧qa (kq≤k3)∧qa (Kd.N (Kd.slice 3 (Kd.int .i64)) 23 w' w.heap.size (fun k_=>(w.heap.size≤k_)∧some k_≠(u13:Value).ownBlock∧some k_≠(v15:Value).ownBlock) u8 x8_2)∧qa (Kd.N (Kd.slice 3 (Kd.int .i64)) 23 w' w.heap.size (fun k_=>(w.heap.size≤k_)∧some k_≠(u8:Value).ownBlock∧some k_≠(v15:Value).ownBlock) u13 x13_3)∧qa (Kd.R (Kd.int .i64) 3 w' w.heap.size (fun k_=>(w.heap.size≤k_)) v15 x15_4)∧qa (Below w.heap.size w w'))
          case atStart=>exact⟨(y334),(0),fr,H',⟨Nat.le_refl _⟩,⟨Kd.N_below (Kd.N_mono HO_8.out (fun _ hk=>⟨hk.1.1,⟨hk.1.2,hk.2⟩⟩)) gs⟩,⟨Kd.N_below (Kd.N_mono HO_13.out (fun _ hk=>⟨hk.1.1,⟨hk.1.2,hk.2⟩⟩)) gs⟩,⟨Kd.R_below (Kd.R_mono HO336.out (fun _ hk=>hk.1)) gs⟩,⟨bw HB⟩⟩
          case round=>
           clear H';try clear c1;try clear c2;try clear p2;try clear c3;try clear p3;try clear q3;try clear hx3;try clear c6;try clear p6;try clear c7;try clear c7b0;try clear c8;try clear c8b0;try clear c9;try clear c9b0;try clear c10
           try clear c11;try clear c18;try clear c18b0;try clear c19;try clear c19b0;try clear c20;try clear c20b0;try clear c21;try clear c21b0;try clear c22;try clear c22b0;try clear c23;try clear c23b0;try clear c28;try clear c28b0;try clear c29
           try clear c29b0;try clear c30;try clear c30b0;try clear p30;try clear q30;try clear hx30;try clear c31;try clear p31;try clear q31;try clear hx31;try clear c32;try clear p32;try clear q32;try clear hx32;try clear c39;try clear c39b0
           try clear hx305_0;try clear hx315_0;try clear hx316_0;try clear hx320_0;try clear p2;try clear p3;try clear p30;try clear p305;try clear p31;try clear p315;try clear p316;try clear p32;try clear p320;try clear p6;try clear q3;try clear q30
           try clear q305;try clear q31;try clear q315;try clear q316;try clear q32;try clear q320
           obtain⟨x15_4,x16_4,rfl,HA,HK4,HO_8,HO_13,HO_15,HB⟩:=hrel
           cases gk with
           | zero=>exact absurd HA.out (by simp[qk.l5])
           | succ k4=>
            have H:=HA.out;clear HA
            simp only[qk.l5]at H
            by_cases c42:x16_4 < 20
            ·rw[if_pos c42]at H
             have c42b0:=decide_eq_true c42;clear c42;replace H:=ifn H;obtain⟨c43,H⟩:=H;have c43b0:=decide_eq_true c43;clear c43;replace H:=ifn H;obtain⟨c44,H⟩:=H;have c44b0:=decide_eq_true c44;clear c44;replace H:=ifn H;obtain⟨c45,H⟩:=H
             have c45b0:=decide_eq_true c45;clear c45;replace H:=ifn H;obtain⟨c46,H⟩:=H;have c46b0:=decide_eq_true c46;clear c46;replace H:=ifn H;obtain⟨c47,H⟩:=H;have LMc47:=am c47;clear c47
             generalize hy339:(x15_4++[rd (jk x8_2 x16_4) x14_3]:List Int)=y339 at H
             have Ny339:=am hy339.symm;clear hy339;have H':=am H;clear H
             obtain⟨Ao48,co48,eo48⟩:=Kd.N_slice HO_8.out
             subst eo48
             have p337:0≤(x16_4:Int):=od
             have q337:x16_4 < (x8_2.length:Int):=od
             obtain⟨ad337,A337_0,c337_0,e337,hx337_0,hl337_0,hi337_0⟩:=J5 (Kd.N_reads' HO_8.out).2.2 x16_4 p337 q337
             cases e337
             obtain⟨ce337,hce337,hMe337,hcc337⟩:=Kd.N_get HO_8.out [] x16_4 p337 (by first | exact q337 | exact od | (have e_:=(Kd.N_reads' HO_8.out).1;omega))
             obtain⟨ua337_0,uc337_0,rfl,ul337_0,ge337_0⟩:=Kd.FK_slice_open hMe337
             have hv337_0:=hcc337 0 _ rfl
             rw[Nat.add_zero,show ((Kd.slice 3 (Kd.int .i64))).sz=1 from rfl,Nat.mul_one]at hv337_0
             replace hv337_0:=Option.some.inj (hv337_0.symm.trans hx337_0)
             injection hv337_0 with hva_ hvn_ hvc_
             rw[hva_]at ge337_0
             rw[hvc_]at ul337_0
             have HL337_0:=am (show Kd.V (Kd.int .i64) 3 _ w.heap.size _ _ (jk x8_2 x16_4) from Kd.V_mk ul337_0 ge337_0)
             clear hva_ hvn_ hvc_ ge337_0 ul337_0;clear hcc337 hce337
             have HR337_0:=am hi337_0
             have HC337_0:=am hl337_0
             clear hi337_0 hl337_0;replace p337:=eq_true p337;replace q337:=eq_true q337
             have p338:0≤(x14_3:Int):=od
             have q338:x14_3 < ((jk x8_2 x16_4).length:Int):=od
             obtain⟨ad338,e338,hx338_0⟩:=Kd.at_int HR337_0.out x14_3 p338 q338
             cases e338;replace p338:=eq_true p338;replace q338:=eq_true q338
             go_wp2_with (first | ((with_reducible refine ji (b:=.append) (xs:=#[.tmp 78,.tmp 86]) rfl ?_);at_builtin;refine Kd.R_append (Kd.int .i64) (w0:=w) w.heap.size rfl (.tmp 78) (.tmp 86) 23 3 (.int .i64 0) 8 rfl Try.underlying23 Q1 rfl (by decide) (by omega) u15 x15_4 (rd (jk x8_2 x16_4) x14_3) [.int .i64 (rd (jk x8_2 x16_4) x14_3)] (fun k_=>(w.heap.size≤k_)) (fun _=>False) rfl rfl ?aP (fun _ hk=>hk.elim) ?aF ?aO ?aB ?aS ?aL ?_;(case aP=>exact rfl);(case aB=>exact(bw HB));(case aF=>exact(fun k_ hk=>(Nat.le_trans (bz HB) hk)));(case aO=>exact(wR HO_15));(case aS=>exact(bz HB));(case aL=>have:=LMc47.out;omega);intro v340 w49 ho hb hg hat;rw[← Ny339.out]at ho;replace HO_8:=am (Kd.N_afterv (ok:=(fun k_=>(w.heap.size≤k_)∧some k_≠(u13:Value).ownBlock)) (oN_ HO_8 (fun _ hk=>⟨⟨hk.1,hk.2.1⟩,hk.2.2⟩)) hg hat);replace HO_13:=am (Kd.N_afterv (ok:=(fun k_=>(w.heap.size≤k_)∧some k_≠(.slice (some ad337) x8_2.length co48:Value).ownBlock)) (oN_ HO_13 (fun _ hk=>⟨⟨hk.1,hk.2.1⟩,hk.2.2⟩)) hg hat);replace HL337_0:=am (Kd.V_afterv (ok:=(fun k_=>(w.heap.size≤k_)∧some k_≠(.slice (some ad337) x8_2.length co48:Value).ownBlock∧some k_≠(u13:Value).ownBlock)) (oV_ HL337_0 (fun _ hk=>⟨⟨hk.1.1,⟨hk.2,hk.1.2.1⟩⟩,hk.1.2.2⟩)) hg hat);replace HB:=am (hb);have HO341:=am (ho);clear HO_15;clear ho hb hg hat))
             go_roundg k4
             case measure=>have:=HK1.out;have:=HK2.out;have:=HK3.out;have:=HK4.out;omega
             case rel=>exact⟨(y339),(wrap64 (x16_4+1)),fr,H',⟨by have:=HK1.out;have:=HK2.out;have:=HK3.out;have:=HK4.out;omega⟩,⟨Kd.N_below (Kd.N_mono HO_8.out (fun _ hk=>⟨hk.1.1,⟨hk.1.2,hk.2⟩⟩)) gs⟩,⟨Kd.N_below (Kd.N_mono HO_13.out (fun _ hk=>⟨hk.1.1,⟨hk.1.2,hk.2⟩⟩)) gs⟩,⟨wR HO341⟩,⟨bw HB⟩⟩
            ·rw[if_neg c42]at H
             have c42b0:=decide_eq_false c42;clear c42;replace H:=ifn H;obtain⟨c50,H⟩:=H;have LMc50:=am c50;clear c50
             generalize hy342:(x13_3++[x15_4]:List (List Int))=y342 at H
             have Ny342:=am hy342.symm;clear hy342;have H':=am H;clear H
             obtain⟨Ao52,co52,eo52⟩:=Kd.R_slice HO_15.out
             subst eo52
             go_wp2_with (first | ((with_reducible refine ji (b:=.append) (xs:=#[.tmp 88,.tmp 90]) rfl ?_);at_builtin;refine Kd.N_append (Kd.slice 3 (Kd.int .i64)) (w0:=w) w.heap.size rfl (.tmp 88) (.tmp 90) 47 23 (.slice none 0 0) 24 rfl Try.underlying47 Jj rfl (by decide) (by omega) u13 x13_3 x15_4 [.slice Ao52 x15_4.length co52] (fun k_=>(w.heap.size≤k_)∧some k_≠(u8:Value).ownBlock) (fun k_=>((fun k_=>(w.heap.size≤k_)∧some k_≠(u8:Value).ownBlock)) k_∧some k_≠(u13:Value).ownBlock) rfl rfl ?aP (fun _ hk=>hk) ?aF ?aO ?aB ?aS ?aL ?_;(case aP=>exact(Kd.FK_slice_mk (Kd.R_reads' (Kd.R_mono (ok':=(fun k_=>((fun k_=>(w.heap.size≤k_)∧some k_≠(u8:Value).ownBlock)) k_∧some k_≠(u13:Value).ownBlock)) (Kd.R_apart' (Kd.R_apart' (HO_15.out) (Kd.N_typed HO_8.out) (by decide)) (Kd.N_typed HO_13.out) (by decide)) (fun k_ hk=>⟨⟨hk.1.1,hk.1.2⟩,hk.2⟩))).2.1 (Kd.R_F (Kd.R_mono (ok':=(fun k_=>((fun k_=>(w.heap.size≤k_)∧some k_≠(u8:Value).ownBlock)) k_∧some k_≠(u13:Value).ownBlock)) (Kd.R_apart' (Kd.R_apart' (HO_15.out) (Kd.N_typed HO_8.out) (by decide)) (Kd.N_typed HO_13.out) (by decide)) (fun k_ hk=>⟨⟨hk.1.1,hk.1.2⟩,hk.2⟩)))));(case aB=>exact(bw HB));(case aF=>exact(fun k_ hk=>⟨(Nat.le_trans (bz HB) hk),Kd.fresh' (Kd.N_lt (wN HO_8)) k_ hk⟩));(case aO=>exact(oN_ HO_13 (fun _ hk=>⟨hk.1,hk.2.1⟩)));(case aS=>exact(bz HB));(case aL=>have:=LMc50.out;omega);intro v343 w51 ho hb hg hat;rw[← Ny342.out]at ho;replace HO_8:=am (Kd.N_afterv (ok:=(fun k_=>(w.heap.size≤k_)∧some k_≠(.slice Ao52 x15_4.length co52:Value).ownBlock)) (oN_ HO_8 (fun _ hk=>⟨⟨hk.1,hk.2.2⟩,hk.2.1⟩)) hg hat);replace HB:=am (hb);have HO344:=am (ho);clear HO_13 HO_15;clear ho hb hg hat))
             go_roundg k4
             case measure=>have:=HK1.out;have:=HK2.out;have:=HK3.out;have:=HK4.out;omega
             case rel=>exact⟨(y342),(wrap64 (x14_3+1)),fr,H',⟨by have:=HK1.out;have:=HK2.out;have:=HK3.out;have:=HK4.out;omega⟩,⟨Kd.N_below (Kd.N_mono HO_8.out (fun _ hk=>⟨hk.1.1,hk.2⟩)) gs⟩,⟨wN HO344⟩,⟨bw HB⟩⟩
         ·rw[if_neg c39]at H
          have c39b0:=decide_eq_false c39;clear c39;replace H:=bs H;obtain⟨t330,A53,H⟩:=H
          by_cases c54:0 < (t330.length:Int)
          ·rw[if_pos c54]at H
           have c54b0:=decide_eq_true c54
           have c54b1:decide (0 < t330.length)=true:=decide_eq_true (by omega)
           clear c54;obtain rfl:=Option.some.inj H
           obtain⟨Ao55,co55,eo55⟩:=Kd.N_slice HO_13.out
           subst eo55
           go_wp2_with (first | ((with_reducible refine qe (f:=109) rfl ?_);refine gl 94 Try.func109 #[.int .i64 a0,.slice Ao55 x13_3.length co55,.int .i64 20] ?_;(with_reducible refine(qm.calls k3 a0 (fun k_=>((w.heap.size≤k_)∧some k_≠(u8:Value).ownBlock)) _ _ x13_3 20 t330 _ ?_ A53.out).mono ?_);exact Kd.N_V (HO_13.out);rintro e w56 ⟨v331,rfl,ho0,hb⟩;refine⟨_,rfl,?_⟩;replace HO_13:=eN HO_13 (Kd.N_base ho0) hb;have HO332:=am (Kd.N_lower (Kd.N_mono (ok':=fun k_=>(w.heap.size≤k_)∧some k_≠(u8:Value).ownBlock) ho0 (fun k_ hk_=>⟨Or.elim hk_ (fun hs_=>hs_.1) (fun hn_=>(Nat.le_trans (bz HB) hn_)),Or.elim hk_ (fun hs_=>hs_.2) (fun hn_=>(Kd.fresh' (Kd.N_lt (wN HO_8)) k_ hn_))⟩)) (bz HB));replace HO_8:=eN HO_8 (Kd.N_base ho0) hb;replace HB:=bq HB hb;(try clear hb);(try clear ho0);obtain⟨Ao57,co57,eo57⟩:=Kd.N_slice HO332.out;subst eo57;have p333:0≤(0:Int):=(by omega);have q333:0 < (t330.length:Int):=od;obtain⟨ad333,A333_0,c333_0,e333,hx333_0,hl333_0,hi333_0⟩:=J5 (Kd.N_reads' HO332.out).2.2 0 p333 q333;cases e333;obtain⟨ce333,hce333,hMe333,hcc333⟩:=Kd.N_get HO332.out [] 0 p333 (by first | exact q333 | exact od | (have e_:=(Kd.N_reads' HO332.out).1;omega));obtain⟨ua333_0,uc333_0,rfl,ul333_0,ge333_0⟩:=Kd.FK_slice_open hMe333;have hv333_0:=hcc333 0 _ rfl;rw[Nat.add_zero,show ((Kd.slice 3 (Kd.int .i64))).sz=1 from rfl,Nat.mul_one]at hv333_0;replace hv333_0:=Option.some.inj (hv333_0.symm.trans hx333_0);injection hv333_0 with hva_ hvn_ hvc_;rw[hva_]at ge333_0;rw[hvc_]at ul333_0;have HL333_0:=am (show Kd.V (Kd.int .i64) 3 _ w.heap.size _ _ (jk t330 0) from Kd.V_mk ul333_0 ge333_0);clear hva_ hvn_ hvc_ ge333_0 ul333_0;clear hcc333 hce333;have qi333:(0 < t330.length)=True:=eq_true (by omega);(try rw[show ((0:Int)).toNat=0 from rfl]at hx333_0);(try rw[Addr.add_zero']at hx333_0);have HR333_0:=am hi333_0;have HC333_0:=am hl333_0;clear hi333_0 hl333_0;replace p333:=eq_true p333;replace q333:=eq_true q333))
           go_ret
           exact⟨_,fq,Kd.V_below (Kd.V_mono HL333_0.out (fun _ hk=>hk.1.1)) gs,bw HB⟩
          ·rw[if_neg c54]at H
           exact absurd H (by simp)
end Go.Proofs.Ytmgbpmihbljngaa.PA
