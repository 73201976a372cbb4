-- Written by xprint.py, a program of this claim's own (over the kit's print.py)
import Derived.Test.YtmgbpmihbljngaaPAx3
namespace Go.Proofs.Ytmgbpmihbljngaa.PA
open Go.RowKit Go.Proofs.YtmgbpmihbljngaaW.PrintWords Go.Proofs.YtmgbpmihbljngaaW.PrintLast Go.Proofs.YtmgbpmihbljngaaW.PrintMore
attribute [local go_sem] Qs Qr Qx Qw Qf Qe Qq Qp
set_option linter.unusedVariables false
set_option linter.unusedSimpArgs false
def za.l0 :Nat→Int→List Int→Int→List Int→List Int→Int→Option (List Int)
 | 0,_,_,_,_,_,_=>none
 | k+1,x0,x1,x2,x3,x9,x10=>if x10 < (x1.length:Int) then (if 0≤x10 then (if x10 < (x3.length:Int) then ((Qn.f x0 (wrap64 ((rd x1 x10) - (wrap64 (x2*(rd x3 x10)))))).bind fun t168=>(if x9.length < 17592186044416 then (za.l0 k x0 x1 x2 x3 (x9++[t168]) (wrap64 (x10+1))) else (none))) else (none)) else (none)) else (some x9)
def za.f (k:Nat) (a0:Int) (l1:List Int) (a2:Int) (l3:List Int):Option (List Int):=za.l0 k a0 l1 a2 l3 (([]:List Int)) 0
theorem za.mono_l :∀ k,(∀ y0 y1 y2 y3 y4 y5,LeO (za.l0 k y0 y1 y2 y3 y4 y5) (za.l0 (k+1) y0 y1 y2 y3 y4 y5))
 | 0=>fun _ _ _ _ _ _ r h=>by simp[za.l0]at h
 | k+1=>by
  have ih0:=za.mono_l k
  ·intro y0 y1 y2 y3 y4 y5
   unfold za.l0
   repeat' first | (with_reducible first | apply ih0 | exact LeO.refl _ | exact LeO.none _ | refine LeO.ite ?_ ?_ | refine LeO.bind ?_ (fun _=>?_)) | (first | apply ih0 | exact LeO.none _ | refine LeO.ite ?_ ?_ | refine LeO.bind ?_ (fun _=>?_))
theorem za.mono :∀ a0 a1 a2 a3 k,LeO (za.f k a0 a1 a2 a3) (za.f (k+1) a0 a1 a2 a3):=by
 intro a0 a1 a2 a3 k
 have ih0:=za.mono_l k
 unfold za.f
 repeat' first | (with_reducible first | apply ih0 | exact LeO.refl _ | exact LeO.none _ | refine LeO.ite ?_ ?_ | refine LeO.bind ?_ (fun _=>?_)) | (first | apply ih0 | exact LeO.none _ | refine LeO.ite ?_ ?_ | refine LeO.bind ?_ (fun _=>?_))
def za.T5 :Bool×List (List Nat×List Nat):=(true,[([],[]),([],[]),([],[]),([],[]),([2,3],[2,3]),([4],[4]),([],[]),([],[]),([],[]),([7,8],[7,8]),([9],[9]),([6,10],[6,10]),([5,11],[5,11]),([1,12],[1,12]),([13],[13]),([0,14,13],[0,14]),([15,15,0,1,2,3,4,5,6,7,8,9,10,11,12,13,14,15],[0,15])])
def za.B5 :List Nat:=[0,0,0,0,12,28,0,0,0,384,896,1984,4092,8190,16382,32767,65535]
theorem za.tab5 :rtab .any (Z0 Try.f165 5)=za.T5:=by kernel_rfl
theorem za.bits5 :Qj za.T5.2 za.B5=true:=by kernel_rfl
set_option maxHeartbeats 8000000 in
set_option maxRecDepth 100000 in
theorem za.calls (k:Nat) (a0:Int) (A1:Option Addr) (c1:Nat) (l1:List Int) (a2:Int) (A3:Option Addr) (c3:Nat) (l3:List Int) (r:List Int) (w:World) (hr1:Kd.C (Kd.int .i64) w A1 l1.length l1) (hc1:l1.length≤c1) (hr3:Kd.C (Kd.int .i64) w A3 l3.length l3) (hc3:l3.length≤c3) (h:za.f k a0 l1 a2 l3=some r):
  Calls Try.prog 165 #[.int .i64 a0,.slice A1 l1.length c1,.int .i64 a2,.slice A3 l3.length c3] w fun e w'=>∃ v0_:Value,e=.returned (v0_)∧Kd.R (Kd.int .i64) 3 w' w.heap.size (fun _=>True) v0_ r∧Below w.heap.size w w':=by
 have HR1:=am hr1
 have HC1:=am hc1
 clear hr1 hc1
 have HR3:=am hr3
 have HC3:=am hc3
 clear hr3 hc3
 have HB:=am (Below.refl w.heap.size w)
 have H:(za.l0 k a0 l1 a2 l3 (([]:List Int)) 0)=some r:=h
 clear h
 generalize hy163:(([]:List Int))=y163 at H
 have Ny163:=am hy163.symm;clear hy163;have H':=am H;clear H
 go_enter Try.func165,Try.ntmps165
 go_wp2_with (first | ((with_reducible refine zb (N:=11) rfl ?_);refine li 3 ([]:List Int) ?_;intro v164 w5 ho6 hb;(first | rw[← Ny163.out]at ho6 | (simp only[Int.reduceToNat]at ho6;rw[← Ny163.out]at ho6));have HO165:=am (Kd.R_lower ho6 (bz HB));replace HB:=bq HB hb;clear hb ho6))
 go_loopg [9,10] k (fun kq v9 v10 w'=>∃ (x9_1:List Int) (x10_1:Int),v10=.int .i64 x10_1∧qf (za.l0 kq a0 l1 a2 l3 x9_1 x10_1=some r)∧qf (kq≤k)∧qf (Kd.R (Kd.int .i64) 3 w' w.heap.size (fun _=>True) v9 x9_1)∧qf (Below w.heap.size w w'))
 case atStart=>exact⟨(y163),(0),fr,H',⟨Nat.le_refl _⟩,⟨wR HO165⟩,⟨bw HB⟩⟩
 case round=>
  clear H';try clear c1;try clear p2;try clear c3
  obtain⟨x9_1,x10_1,rfl,HA,HK1,HO_9,HB⟩:=hrel
  cases gk with
  | zero=>exact absurd HA.out (by simp[za.l0])
  | succ k1=>
   have H:=HA.out;clear HA
   simp only[za.l0]at H
   by_cases c7:x10_1 < (l1.length:Int)
   ·rw[if_pos c7]at H
    have c7b0:=decide_eq_true c7;clear c7;replace H:=ifn H;obtain⟨c8,H⟩:=H;have c8b0:=decide_eq_true c8;clear c8;replace H:=ifn H;obtain⟨c9,H⟩:=H;have c9b0:=decide_eq_true c9;clear c9;replace H:=bs H;obtain⟨t168,A10,H⟩:=H
    replace H:=ifn H;obtain⟨c11,H⟩:=H;have LMc11:=am c11;clear c11
    generalize hy169:(x9_1++[t168]:List Int)=y169 at H
    have Ny169:=am hy169.symm;clear hy169;have H':=am H;clear H
    try go_wp2
    replace HO_9:=am (Kd.R_drew HO_9.out)
    replace HB:=am (Qg HB.out)
    have p166:0≤(x10_1:Int):=od
    have q166:x10_1 < (l1.length:Int):=od
    obtain⟨ad166,e166,hx166_0⟩:=Kd.at_int HR1.out x10_1 p166 q166
    have hw166_0:=hx166_0
    cases e166
    replace hx166_0:=wcl HB hx166_0
    replace p166:=eq_true p166;replace q166:=eq_true q166
    have p167:0≤(x10_1:Int):=od
    have q167:x10_1 < (l3.length:Int):=od
    obtain⟨ad167,e167,hx167_0⟩:=Kd.at_int HR3.out x10_1 p167 q167
    have hw167_0:=hx167_0
    cases e167
    replace hx167_0:=wcl HB hx167_0
    replace p167:=eq_true p167;replace q167:=eq_true q167
    refine st 17 (fun w'=>w'.cell? (ad166.add (x10_1).toNat)=some (.int .i64 (rd l1 x10_1))∧w'.cell? (ad167.add (x10_1).toNat)=some (.int .i64 (rd l3 x10_1))) [] za.tab5 za.bits5 (⟨(wcl HB hw166_0),(wcl HB hw167_0)⟩) fun hHeld HT_ HW_=>?_
    generalize wr.drew=w12 at HO_9 HB hx166_0 hx167_0 hHeld ⊢
    refine pz 0 18 HT_ ?_;refine pz 1 19 HT_ ?_;refine pz 2 20 HT_ ?_;refine pz 3 21 HT_ ?_;refine pz 4 22 HT_ ?_;refine pz 6 24 HT_ ?_;refine pz 7 25 HT_ ?_;refine pz 8 26 HT_ ?_;refine pz 9 27 HT_ ?_;refine tk 5 23 HT_ HW_ hHeld ?_;refine tk 10 28 HT_ HW_ hHeld ?_
    refine pz 11 29 HT_ ?_;refine pz 12 30 HT_ ?_
    refine on 13 (some 31) HT_ fun K hK=>?_
    refine gs_ Try.func158 #[.int .i64 a0,.int .i64 (wrap64 ((rd l1 x10_1) - (wrap64 (a2*(rd l3 x10_1)))))] ?_
    with_reducible refine(Qn.calls a0 (wrap64 ((rd l1 x10_1) - (wrap64 (a2*(rd l3 x10_1))))) t168 _ A10.out).mono ?_
    rintro e w' ⟨rfl,⟨nd,rfl⟩⟩
    refine⟨_,rfl,?_⟩
    refine hK.out _ _ ⟨(wcl HB hw166_0),(wcl HB hw167_0)⟩ fun hHeld=>nz ?_
    clear hK K
    refine on 14 (some 32) HT_ fun K hK=>?_
    refine qbm (w1:=?_) (v:=?_) (by rfl) rfl ?_ ?_
    rotate_left 2
    ·go_simp
     constructor
     ·rfl
     ·rfl
    refine hK.out _ _ ⟨(World.cell?_alloc_lt _ _ _ (World.block_lt_of_cell? _ _ ((wcl HB hw166_0)))).trans ((wcl HB hw166_0)),(World.cell?_alloc_lt _ _ _ (World.block_lt_of_cell? _ _ ((wcl HB hw167_0)))).trans ((wcl HB hw167_0))⟩ fun hHeld=>nz ?_
    clear hK K
    refine on 15 (some 33) HT_ fun K hK=>?_
    refine Kd.R_append_step (Kd.int .i64) (w0:=w) w.heap.size (by rfl) (.tmp 18) (.tmp 32) 23 3 (.int .i64 0) 8 rfl Try.underlying23 Jm rfl (by decide) (by omega) u9 x9_1 t168 [.int .i64 t168] (fun _=>True) (fun _=>False) rfl rfl ?aP (fun _ hk=>hk.elim) ?aF ?aO ?aB ?aS ?aL ?_
    (case aP=>exact rfl)
    (case aB=>exact(bw HB))
    (case aF=>exact(fun _ _=>trivial))
    (case aO=>exact(wR HO_9))
    (case aS=>exact(bz HB))
    (case aL=>have:=LMc11.out;omega)
    intro v170 w13 ho hb hg hat
    rw[← Ny169.out]at ho
    replace HB:=am (hb)
    have HO171:=am (ho)
    clear HO_9;clear ho hb hg hat
    refine hK.out _ _ ⟨(wcl HB hw166_0),(wcl HB hw167_0)⟩ fun hHeld=>nz ?_
    clear hK K;refine pz 16 9 HT_ ?_
    refine Q3 (Qa HT_.out (by kernel_rfl)) ?_
    try go_wp2
    go_roundg k1
    case measure=>have:=HK1.out;omega
    case rel=>exact⟨(y169),(wrap64 (x10_1+1)),fr,H',⟨by have:=HK1.out;omega⟩,⟨wR HO171⟩,⟨bw HB⟩⟩
   ·rw[if_neg c7]at H
    have c7b0:=decide_eq_false c7;clear c7;obtain rfl:=Option.some.inj H;go_wp2;go_ret
    exact⟨_,fq,wR HO_9,bw HB⟩
end Go.Proofs.Ytmgbpmihbljngaa.PA
