-- Written by xprint.py, a program of this claim's own (over the kit's print.py)
import Derived.Test.YtmgbpmihbljngaaPAx19
namespace Go.Proofs.Ytmgbpmihbljngaa.PA
set_option maxHeartbeats 8000000
set_option maxRecDepth 1000000
open Go.RowKit Go.Proofs.YtmgbpmihbljngaaW.PrintWords Go.Proofs.YtmgbpmihbljngaaW.PrintLast Go.Proofs.YtmgbpmihbljngaaW.PrintMore
attribute [local go_sem] Qs Qr Qx Qw Qf Qe Qq Qp
set_option linter.unusedVariables false
set_option linter.unusedSimpArgs false
def Qt.f (k:Nat) (l0:List (S43)) (a1_0:Int) (a1_1:Int) (a1_2:Int):Option (Bool):=(zp.f k l0 a1_0 a1_1 a1_2).bind fun t436=>(some (decide (t436≥0)))
theorem Qt.mono :∀ a0 a1 a2 a3 k,LeO (Qt.f k a0 a1 a2 a3) (Qt.f (k+1) a0 a1 a2 a3):=by
 intro a0 a1 a2 a3 k
 unfold Qt.f
 repeat' first | (with_reducible first | apply zp.mono | exact LeO.refl _ | exact LeO.none _ | refine LeO.ite ?_ ?_ | refine LeO.bind ?_ (fun _=>?_)) | (first | apply zp.mono | exact LeO.none _ | refine LeO.ite ?_ ?_ | refine LeO.bind ?_ (fun _=>?_))
theorem Qt.calls (k:Nat) (A0:Option Addr) (c0:Nat) (l0:List (S43)) (a1_0:Int) (a1_1:Int) (a1_2:Int) (r:Bool) (w:World) (hr0:Kd.C k43 w A0 l0.length l0) (hc0:l0.length≤c0) (h:Qt.f k l0 a1_0 a1_1 a1_2=some r):
  Calls Try.prog 74 #[.slice A0 l0.length c0,.agg #[.int .i64 a1_0,.int .i64 a1_1,.int .i64 a1_2]] w fun e w'=>e=.returned (.bool r)∧Below w.heap.size w w':=by
 have hu43:=Try.underlying43
 have HR0:=am hr0
 have HC0:=am hc0
 clear hr0 hc0
 have HB:=am (Below.refl w.heap.size w)
 have H:((zp.f k l0 a1_0 a1_1 a1_2).bind fun t436=>(some (decide (t436≥0))))=some r:=h
 clear h;replace H:=bs H;obtain⟨t436,A3,H⟩:=H;obtain rfl:=Option.some.inj H
 go_enter Try.func74,Try.ntmps74
 go_wp2_with (first | ((with_reducible refine zb (N:=3) rfl ?_);refine xe_ 3 43 #[.int .i64 a1_0,.int .i64 a1_1,.int .i64 a1_2] ?_;intro gb435 hg w4 hbox hb;have BK435:=am (hbox);have GW435:=am ((by rw[hg];exact(bz HB):w.heap.size≤gb435));have GE435:=am ((by rw[hg];exact(bz HB):w.heap.size≤gb435));replace HB:=bq HB hb;clear hb hbox hg;have hcz5_0:w4.cell? ⟨gb435,0,none⟩=some (.int .i64 a1_0):=(qe BK435.out 0).trans rfl;have hcz5_1:w4.cell? ⟨gb435,1,none⟩=some (.int .i64 a1_1):=(qe BK435.out 1).trans rfl;have hcz5_2:w4.cell? ⟨gb435,2,none⟩=some (.int .i64 a1_2):=(qe BK435.out 2).trans rfl;have hfz5_0:=ql BK435.out 0;have hfz5_1:=ql BK435.out 1;have hfz5_2:=ql BK435.out 2) | ((with_reducible refine qt (f:=120) rfl ?_);refine gl 7 Try.func120 #[.slice A0 l0.length c0,.agg #[.int .i64 a1_0,.int .i64 a1_1,.int .i64 a1_2]] ?_;(with_reducible refine(zp.calls k _ _ l0 a1_0 a1_1 a1_2 t436 _ ?_ ?_ A3.out).mono ?_);exact Kd.C_below HR0.out (bw HB);exact HC0.out;rintro e w6 ⟨rfl,hb⟩;refine⟨_,rfl,?_⟩;replace BK435:=am (qv (g:=gb435) (o:=.cells #[.int .i64 a1_0,.int .i64 a1_1,.int .i64 a1_2] 43 (0,0)) (pk_ BK435) hb);replace HB:=am (jg (bx_ HB) hb);(try clear hb)))
 go_ret
 exact⟨fq,bx_ HB⟩
theorem qhd {w:World} {A:Option Addr} {n:Nat} {rows:List (List Int)} (h:Kd.C (Kd.slice 3 (Kd.int .i64)) w A n rows) (j:Nat) (hj:j < rows.length):∃ ad B c,A=some ad∧w.cell? (ad.add j)=some (.slice B (rows[j]).length c)∧(rows[j]).length≤c∧Kd.C (Kd.int .i64) w B (rows[j]).length rows[j]:=by
 obtain⟨hl,hm,hr⟩:=h
 obtain⟨ad,rfl,hc⟩:=hr (by omega)
 obtain⟨cs,_,⟨B,c,rfl,h1,h2⟩,hcell⟩:=hc j _ (List.getElem?_eq_getElem hj)
 refine⟨ad,B,c,rfl,?_,h1,h2⟩
 have:=hcell 0 (.slice B (rows[j]).length c) rfl
 simpa [Kd.slice] using this
theorem qk6 {w:World} {A:Option Addr} {ca:Nat} {x:List Int} (hx:Kd.C (Kd.int .i64) w A x.length x) (hca:x.length≤ca):
  Kd.C (Kd.slice 3 (Kd.int .i64)) (w.alloc (.cells #[.slice A x.length ca] 23)) (some ⟨w.heap.size,0,none⟩) 1 [x]:=by
 refine⟨rfl,by omega,fun _=>⟨⟨w.heap.size,0,none⟩,rfl,fun j p hj=>?_⟩⟩
 have hb:=qcy w (.cells #[.slice A x.length ca] 23)
 match j,hj with
 | 0,hj=>
  simp at hj
  subst hj
  refine⟨[.slice A x.length ca],rfl,⟨A,ca,rfl,hca,Kd.C_alloc hx _⟩,fun i u hu=>?_⟩
  match i,hu with
  | 0,hu=>simp at hu;subst hu;rw[Jw];exact(qe hb _).trans rfl
def Q0.f (k:Nat) (a0:Int) (l1:List Int):Option (List Int):=(zy.f k a0 [l1]).bind fun t=>some (t.headD [])
theorem Q0.mono :∀ a0 a1 k,LeO (Q0.f k a0 a1) (Q0.f (k+1) a0 a1):=by
 intro a0 a1 k
 unfold Q0.f
 exact LeO.bind (zy.mono _ _ _) fun _=>LeO.refl _
theorem Q0.calls (k:Nat) (a0:Int) (A1:Option Addr) (c1:Nat) (l1:List Int) (r:List Int) (w:World) (hr1:Kd.C (Kd.int .i64) w A1 l1.length l1) (hc1:l1.length≤c1) (h:Q0.f k a0 l1=some r):
  Calls Try.prog 121 #[.int .i64 a0,.slice A1 l1.length c1] w fun e w'=>∃ v0:Value,e=.returned v0∧Kd.R (Kd.int .i64) 3 w' w.heap.size (fun _=>True) v0 r∧Below w.heap.size w w':=by
 obtain⟨t,hred,h'⟩:=Option.bind_eq_some_iff.1 h
 clear h
 have HRED:=Lib.hid hred
 have HL1:=Lib.hid (qk6 hr1 hc1)
 have H:=Lib.hid h'
 clear hred hr1 hc1 h'
 go_enter Try.func121,Try.ntmps121
 go_wp2_with fail
 refine(zy.calls k a0 _ 1 [l1] t _ HL1.out (Nat.le_refl _) HRED.out).mono ?_
 rintro e w2 ⟨v0,rfl,hS,hb⟩
 have HB:Hid (Below w.heap.size w w2):=Lib.hid (jg (jx (Below.refl _ _) _) hb)
 have HS:=Lib.hid (Kd.S_lower hS (show w.heap.size≤_ by simp))
 clear hS hb
 obtain⟨Ao,co,eo⟩:=Kd.S_slice HS.out
 subst eo
 by_cases hz:t.length=0
 ·have e0:t=[]:=List.eq_nil_of_length_eq_zero hz
  subst e0
  obtain rfl:r=[]:=by have h:=H.out;simpa using h.symm
  clear hz
  have z1:(([]:List (List Int)).length)=0:=rfl
  rw[z1]
  go_wp2;go_ret
  exact⟨_,rfl,Kd.R_nil _ _ _ _ _,HB.out⟩
 ·have hpos:0 < t.length:=by omega
  obtain⟨ad,B,c,e,hx,hlc,hC⟩:=qhd (Kd.S_reads' HS.out).2.2 0 hpos
  subst e
  obtain⟨ce,hce,hMe,hcc⟩:=Kd.S_get HS.out [] 0 (by omega) (by omega)
  obtain⟨ve,rfl,ge⟩:=hMe
  have hv:=hcc 0 _ rfl
  rw[Nat.add_zero,show ((Kd.slice 3 (Kd.int .i64))).sz=1 from rfl,Nat.mul_one]at hv
  replace hv:=Option.some.inj (hv.symm.trans hx)
  rw[hv]at ge
  have er:t.getD 0 []=r:=by
   have h:=H.out
   match t,hpos with
   | x :: t,_=>simpa using h
  have HR:Hid (Kd.R (Kd.int .i64) 3 w2 w.heap.size (fun _=>True) (.slice B (t[0]).length c) r):=Lib.hid (by
   have g:=Kd.R_mono (ok':=fun _=>True) ge (fun _ _=>trivial)
   rw[← er];exact g)
  have hz1:((t.length:Int) == 0)=false:=by simpa using hz
  have hz2:decide (0 < t.length)=true:=decide_eq_true hpos
  have hz3:(0 < t.length)=True:=eq_true hpos
  rw[Addr.add_zero']at hx
  clear hcc hce hv ge hC hlc hz er;go_wp2;go_ret
  exact⟨_,rfl,HR.out,HB.out⟩
def jl.l0 :Nat→Int→List Int→List (List Int)→Int→Int→Int→Int→Int→Option (List Int)
 | 0,_,_,_,_,_,_,_,_=>none
 | k+1,x0,x7,x11,x12,x13,x438000,x438001,x438002=>if x13 < x12 then (if 0≤x13 then (if x13 < (x11.length:Int) then ((zv.f k x438000 x438001 x438002).bind fun t442=>((jh.f k x0 (ju x11 x13) t442).bind fun t445=>(if x7.length < 17592186044416 then (jl.l0 k x0 (x7++[t445]) x11 x12 (wrap64 (x13+1)) x438000 x438001 x438002) else (none)))) else (none)) else (none)) else ((Q0.f k x0 x7).bind fun t449=>(some t449))
def jl.f (k:Nat) (a0:Int) (l1:List (List Int)) (a2_0:Int) (a2_1:Int) (a2_2:Int):Option (List Int):=jl.l0 k a0 (([]:List Int)) l1 (l1.length:Int) 0 a2_0 a2_1 a2_2
theorem jl.mono_l :∀ k,(∀ y0 y1 y2 y3 y4 y5 y6 y7,LeO (jl.l0 k y0 y1 y2 y3 y4 y5 y6 y7) (jl.l0 (k+1) y0 y1 y2 y3 y4 y5 y6 y7))
 | 0=>fun _ _ _ _ _ _ _ _ r h=>by simp[jl.l0]at h
 | k+1=>by
  have ih0:=jl.mono_l k
  ·intro y0 y1 y2 y3 y4 y5 y6 y7
   unfold jl.l0
   repeat' first | (with_reducible first | apply ih0 | apply zv.mono | apply jh.mono | apply Q0.mono | exact LeO.refl _ | exact LeO.none _ | refine LeO.ite ?_ ?_ | refine LeO.bind ?_ (fun _=>?_)) | (first | apply ih0 | apply zv.mono | apply jh.mono | apply Q0.mono | exact LeO.none _ | refine LeO.ite ?_ ?_ | refine LeO.bind ?_ (fun _=>?_))
theorem jl.mono :∀ a0 a1 a2 a3 a4 k,LeO (jl.f k a0 a1 a2 a3 a4) (jl.f (k+1) a0 a1 a2 a3 a4):=by
 intro a0 a1 a2 a3 a4 k
 have ih0:=jl.mono_l k
 unfold jl.f
 repeat' first | (with_reducible first | apply ih0 | apply zv.mono | apply jh.mono | apply Q0.mono | exact LeO.refl _ | exact LeO.none _ | refine LeO.ite ?_ ?_ | refine LeO.bind ?_ (fun _=>?_)) | (first | apply ih0 | apply zv.mono | apply jh.mono | apply Q0.mono | exact LeO.none _ | refine LeO.ite ?_ ?_ | refine LeO.bind ?_ (fun _=>?_))
theorem jl.calls (k:Nat) (a0:Int) (A1:Option Addr) (c1:Nat) (l1:List (List Int)) (a2_0:Int) (a2_1:Int) (a2_2:Int) (r:List Int) (w:World) (hr1:Kd.C (Kd.slice 3 (Kd.int .i64)) w A1 l1.length l1) (hc1:l1.length≤c1) (h:jl.f k a0 l1 a2_0 a2_1 a2_2=some r):
  Calls Try.prog 75 #[.int .i64 a0,.slice A1 l1.length c1,.agg #[.int .i64 a2_0,.int .i64 a2_1,.int .i64 a2_2]] w fun e w'=>∃ v0_:Value,e=.returned (v0_)∧Kd.R (Kd.int .i64) 3 w' w.heap.size (fun _=>True) v0_ r∧Below w.heap.size w w':=by
 have hu43:=Try.underlying43
 have HR1:=am hr1
 have HC1:=am hc1
 clear hr1 hc1
 have HB:=am (Below.refl w.heap.size w)
 have H:(jl.l0 k a0 (([]:List Int)) l1 (l1.length:Int) 0 a2_0 a2_1 a2_2)=some r:=h
 clear h
 generalize hy438:(([]:List Int))=y438 at H
 have Ny438:=am hy438.symm;clear hy438;have H':=am H;clear H
 go_enter Try.func75,Try.ntmps75
 go_wp2_with (first | ((with_reducible refine zb (N:=5) rfl ?_);refine xe_ 5 43 #[.int .i64 a2_0,.int .i64 a2_1,.int .i64 a2_2] ?_;intro gb437 hg w4 hbox hb;have BK437:=am (hbox);have GW437:=am ((by rw[hg];exact(bz HB):w.heap.size≤gb437));have GE437:=am ((by rw[hg];exact(bz HB):w.heap.size≤gb437));replace HB:=bq HB hb;clear hb hbox hg) | ((with_reducible refine zb (N:=10) rfl ?_);refine li 3 ([]:List Int) ?_;intro v439 w5 ho6 hb;(first | rw[← Ny438.out]at ho6 | (simp only[Int.reduceToNat]at ho6;rw[← Ny438.out]at ho6));have HO440:=am (Kd.R_lower ho6 (zo (bx_ HB)));replace BK437:=am (qv (g:=gb437) (o:=.cells #[.int .i64 a2_0,.int .i64 a2_1,.int .i64 a2_2] 43 (0,0)) (pk_ BK437) hb);replace HB:=am (jg (bx_ HB) hb);clear hb ho6))
 go_loopg [7,13] k (fun kq v7 v13 w'=>∃ (x7_1:List Int) (x13_1:Int),v13=.int .i64 x13_1∧qf (jl.l0 kq a0 x7_1 l1 (l1.length:Int) x13_1 a2_0 a2_1 a2_2=some r)∧qf (kq≤k)∧qf (Kd.R (Kd.int .i64) 3 w' w.heap.size (fun _=>True) v7 x7_1)∧qf (w'.heap[gb437]? =some (.cells #[.int .i64 a2_0,.int .i64 a2_1,.int .i64 a2_2] 43 (0,0)))∧qf (Below w.heap.size w w'))
 case atStart=>exact⟨(y438),(0),fr,H',⟨Nat.le_refl _⟩,⟨wR HO440⟩,⟨by (with_reducible repeat (first | refine qx ?_ _ | refine qw ?_ | refine qq ?_ _));exact BK437.out⟩,⟨bx_ HB⟩⟩
 case round=>
  clear H';try clear c1;try clear p2
  obtain⟨x7_1,x13_1,rfl,HA,HK1,HO_7,BK437,HB⟩:=hrel
  cases gk with
  | zero=>exact absurd HA.out (by simp[jl.l0])
  | succ k1=>
   have H:=HA.out;clear HA
   simp only[jl.l0]at H
   by_cases c7:x13_1 < (l1.length:Int)
   ·rw[if_pos c7]at H
    have c7b0:=decide_eq_true c7;clear c7;replace H:=ifn H;obtain⟨c8,H⟩:=H;have c8b0:=decide_eq_true c8;clear c8;replace H:=ifn H;obtain⟨c9,H⟩:=H;have c9b0:=decide_eq_true c9;clear c9;replace H:=bs H;obtain⟨t442,A10,H⟩:=H
    replace H:=bs H;obtain⟨t445,A11,H⟩:=H;replace H:=ifn H;obtain⟨c12,H⟩:=H;have LMc12:=am c12;clear c12
    generalize hy446:(x7_1++[t445]:List Int)=y446 at H
    have Ny446:=am hy446.symm;clear hy446;have H':=am H;clear H
    have p441:0≤(x13_1:Int):=od
    have q441:x13_1 < (l1.length:Int):=od
    obtain⟨ad441,A441_0,c441_0,e441,hx441_0,hl441_0,hi441_0⟩:=qak HR1.out x13_1 p441 q441
    cases e441
    replace hx441_0:=wcl HB hx441_0
    have HR441_0:=am hi441_0
    have HC441_0:=am hl441_0
    clear hi441_0 hl441_0;replace p441:=eq_true p441;replace q441:=eq_true q441
    have hcz13_0:wr.cell? ⟨gb437,0,none⟩=some (.int .i64 a2_0):=(qe BK437.out 0).trans rfl
    have hcz13_1:wr.cell? ⟨gb437,1,none⟩=some (.int .i64 a2_1):=(qe BK437.out 1).trans rfl
    have hcz13_2:wr.cell? ⟨gb437,2,none⟩=some (.int .i64 a2_2):=(qe BK437.out 2).trans rfl
    have hfz13_0:=ql BK437.out 0
    have hfz13_1:=ql BK437.out 1
    have hfz13_2:=ql BK437.out 2
    go_wp2_with (first | ((with_reducible refine qt (f:=82) rfl ?_);refine gl 21 Try.func82 #[.agg #[.int .i64 a2_0,.int .i64 a2_1,.int .i64 a2_2]] ?_;(with_reducible refine(zv.calls k1 a2_0 a2_1 a2_2 t442 _ A10.out).mono ?_);rintro e w14 ⟨v443,rfl,ho0,hb⟩;refine⟨_,rfl,?_⟩;have HO444:=am (Kd.R_lower (Kd.R_new' ho0 (Kd.R_lt (wR HO_7))) (zo (bx_ HB)));replace HO_7:=eR HO_7 (Kd.R_base ho0) hb;replace BK437:=am (qv (g:=gb437) (o:=.cells #[.int .i64 a2_0,.int .i64 a2_1,.int .i64 a2_2] 43 (0,0)) (pk_ BK437) hb);replace HB:=am (jg (bx_ HB) hb);(try clear hb);(try clear ho0);obtain⟨Ao15,co15,eo15⟩:=Kd.R_slice HO444.out;subst eo15) | ((with_reducible refine qt (f:=81) rfl ?_);refine gl 22 Try.func81 #[.int .i64 a0,.slice A441_0 (ju l1 x13_1).length c441_0,.slice Ao15 t442.length co15] ?_;(with_reducible refine(jh.calls k1 a0 _ _ (ju l1 x13_1) _ _ t442 t445 _ ?_ ?_ ?_ ?_ A11.out).mono ?_);exact Kd.C_below (Kd.C_below HR441_0.out HB.out) gs;exact HC441_0.out;exact Kd.C_below (Kd.R_reads' HO444.out).2.2 gs;exact(Kd.R_reads' HO444.out).2.1;rintro e w' ⟨rfl,⟨nd,rfl⟩⟩;refine⟨_,rfl,?_⟩) | ((with_reducible refine jr (b:=.append) (xs:=#[.tmp 17,.tmp 23]) rfl ?_);at_builtin;refine Kd.R_append (Kd.int .i64) (w0:=w) w.heap.size rfl (.tmp 17) (.tmp 23) 23 3 (.int .i64 0) 8 rfl Try.underlying23 Jm rfl (by decide) (by omega) u7 x7_1 t445 [.int .i64 t445] (fun k_=>some k_≠(.slice Ao15 t442.length co15:Value).ownBlock) (fun _=>False) rfl rfl ?aP (fun _ hk=>hk.elim) ?aF ?aO ?aB ?aS ?aL ?_;(case aP=>exact rfl);(case aB=>exact(bx_ HB));(case aF=>exact(fun k_ hk=>Kd.fresh' (Kd.R_lt (wR HO444)) k_ hk));(case aO=>exact(oR_ HO_7 (fun _ hk=>hk.2)));(case aS=>exact(zo (bx_ HB)));(case aL=>have:=LMc12.out;omega);intro v447 w16 ho hb hg hat;rw[← Ny446.out]at ho;replace BK437:=am (Q2 (g:=gb437) (o:=.cells #[.int .i64 a2_0,.int .i64 a2_1,.int .i64 a2_2] 43 (0,0)) (pk_ BK437) hg (Kd.R_ne HO_7.out BK437.out (by decide)));replace HO444:=am (Kd.R_after (ok:=(fun _=>True)) (wR HO444) hg hat);replace HB:=am (hb);have HO448:=am (ho);clear HO_7;clear ho hb hg hat))
    go_roundg k1
    case measure=>have:=HK1.out;omega
    case rel=>exact⟨(y446),(wrap64 (x13_1+1)),fr,H',⟨by have:=HK1.out;omega⟩,⟨Kd.R_below (Kd.R_mono HO448.out (fun _ hk=>trivial)) gs⟩,⟨by (with_reducible repeat (first | refine qx ?_ _ | refine qw ?_ | refine qq ?_ _));exact BK437.out⟩,⟨bx_ HB⟩⟩
   ·rw[if_neg c7]at H
    have c7b0:=decide_eq_false c7;clear c7;replace H:=bs H;obtain⟨t449,A17,H⟩:=H;obtain rfl:=Option.some.inj H
    obtain⟨Ao18,co18,eo18⟩:=Kd.R_slice HO_7.out
    subst eo18
    go_wp2_with (first | ((with_reducible refine qt (f:=121) rfl ?_);refine gl 28 Try.func121 #[.int .i64 a0,.slice Ao18 x7_1.length co18] ?_;(with_reducible refine(Q0.calls k1 a0 _ _ x7_1 t449 _ ?_ ?_ A17.out).mono ?_);exact Kd.C_below (Kd.R_reads' HO_7.out).2.2 gs;exact(Kd.R_reads' HO_7.out).2.1;rintro e w19 ⟨v450,rfl,ho0,hb⟩;refine⟨_,rfl,?_⟩;have HO451:=am (Kd.R_lower (Kd.R_new' ho0 (Kd.R_lt (wR HO_7))) (zo (bx_ HB)));replace HO_7:=eR HO_7 (Kd.R_base ho0) hb;replace BK437:=am (qv (g:=gb437) (o:=.cells #[.int .i64 a2_0,.int .i64 a2_1,.int .i64 a2_2] 43 (0,0)) (pk_ BK437) hb);replace HB:=am (jg (bx_ HB) hb);(try clear hb);(try clear ho0)))
    go_ret
    exact⟨_,fq,Kd.R_below (Kd.R_mono HO451.out (fun _ hk=>trivial)) gs,bx_ HB⟩
def isE (e0 e1 e2:Int) (j:Nat):Int:=if j=0 then e0 else if j=1 then e1 else e2
def isL (e:Int) (i j:Nat):Int:=if i=j then wrap64 (e - 1) else e
def isT (k:Nat) (ai t x0 x1 x2 e0 e1 e2:Int):Option Int:=(z8.f k x0 e0).bind fun q0=>(z8.f k x1 e1).bind fun q1=>(z8.f k x2 e2).bind fun q2=>some (wrap64 (wrap64 (wrap64 (wrap64 (ai*t)*q0)*q1)*q2))
def isI (k:Nat) (a:List Int) (x0 x1 x2:Int) (j:Nat) (L:List S41):Nat→Nat→Int→Option Int
 | 0,_,n=>some n
 | d+1,i,n=>if isE (zg L (i:Int)).f0 (zg L (i:Int)).f1 (zg L (i:Int)).f2 j=0 then isI k a x0 x1 x2 j L d (i+1) n else if i < a.length then (isT k (rd a (i:Int)) (isE (zg L (i:Int)).f0 (zg L (i:Int)).f1 (zg L (i:Int)).f2 j) x0 x1 x2 (isL (zg L (i:Int)).f0 0 j) (isL (zg L (i:Int)).f1 1 j) (isL (zg L (i:Int)).f2 2 j)).bind fun t=>isI k a x0 x1 x2 j L d (i+1) (wrap64 (n+t)) else none
def isD (k:Nat) (p:Int) (a:List Int) (x0 x1 x2:Int):Nat→Nat→List Int→Option (List Int)
 | 0,_,acc=>some acc
 | d+1,j,acc=>(q9.f k).bind fun L=>if L.length≤1000 then (isI k a x0 x1 x2 j L L.length 0 0).bind fun s=>(Z1.f s p).bind fun m=>isD k p a x0 x1 x2 d (j+1) (acc++[m]) else none
def Qc.f (k:Nat) (p:Int) (a:List Int) (x0 x1 x2:Int):Option (List Int):=isD k p a x0 x1 x2 3 0 []
theorem qpg (k:Nat) (ai t x0 x1 x2 e0 e1 e2:Int):LeO (isT k ai t x0 x1 x2 e0 e1 e2) (isT (k+1) ai t x0 x1 x2 e0 e1 e2):=
 LeO.bind (z8.mono _ _ _) fun _=>LeO.bind (z8.mono _ _ _) fun _=>LeO.bind (z8.mono _ _ _) fun _=>LeO.refl _
theorem qfo (k:Nat) (a:List Int) (x0 x1 x2:Int) (j:Nat) (L:List S41):∀ d i n,LeO (isI k a x0 x1 x2 j L d i n) (isI (k+1) a x0 x1 x2 j L d i n)
 | 0,_,_=>LeO.refl _
 | d+1,i,n=>by rw[isI,isI];exact LeO.ite (qfo k a x0 x1 x2 j L d _ _) (LeO.ite (LeO.bind (qpg _ _ _ _ _ _ _ _ _) fun _=>qfo k a x0 x1 x2 j L d _ _) (LeO.refl _))
theorem qji (k:Nat) (p:Int) (a:List Int) (x0 x1 x2:Int):∀ d j acc,LeO (isD k p a x0 x1 x2 d j acc) (isD (k+1) p a x0 x1 x2 d j acc)
 | 0,_,_=>LeO.refl _
 | d+1,j,acc=>by rw[isD,isD];exact LeO.bind (q9.mono _) fun _=>LeO.ite (LeO.bind (qfo _ _ _ _ _ _ _ _ _ _) fun _=>LeO.bind (LeO.refl _) fun _=>qji k p a x0 x1 x2 d _ _) (LeO.refl _)
theorem Qc.mono :∀ a0 a1 a2 a3 a4 k,LeO (Qc.f k a0 a1 a2 a3 a4) (Qc.f (k+1) a0 a1 a2 a3 a4):=fun a0 a1 a2 a3 a4 k=>qji k a0 a1 a2 a3 a4 3 0 []
def Qc.T12 :Bool×List (List Nat×List Nat):=(true,[([],[]),([],[]),([],[]),([1,2],[1,2]),([3],[3]),([],[]),([4,5],[4,5]),([],[]),([7],[7]),([8],[8]),([],[]),([10],[10]),([9,11],[9,11]),([6,12],[6,12]),([],[]),([14],[14]),([15],[15]),([],[]),([17],[17]),([16,18,12],[16,18]),([13,19],[13,19]),([],[]),([21],[21]),([22],[22]),([],[]),([24],[24]),([23,25,19],[23,25]),([20,26],[20,26]),([0,27],[0,27]),([28,26,0,1,2,3,4,5,6,7,8,9,10,11,12,13,14,15,16,17,18,19,20,21,22,23,24,25,26,27,28],[0,28])])
def Qc.B12 :List Nat:=[0,0,0,6,14,0,62,0,128,384,0,1024,3968,8190,0,16384,49152,0,131072,515968,1048574,0,2097152,6291456,0,16777216,66051968,134217726,268435455,536870911]
theorem Qc.tab12 :rtab .any (Z0 Try.f135 12)=Qc.T12:=by kernel_rfl
theorem Qc.bits12 :Qj Qc.T12.2 Qc.B12=true:=by kernel_rfl
theorem qi5 {w:World} {g:Nat} {t:TypeId} {e0 e1 e2:Int} (h:w.heap[g]? =some (.cells #[.int .i64 e0,.int .i64 e1,.int .i64 e2] t (0,0))) {j:Nat} (hj:j < 3):w.cell? ⟨g,j,none⟩=some (.int .i64 (isE e0 e1 e2 j)):=by
 rcases (show j=0∨j=1∨j=2 by omega) with rfl | rfl | rfl<;>exact qe h _
theorem qm8 {w:World} {g:Nat} {t:TypeId} {e0 e1 e2:Int} (h:w.heap[g]? =some (.cells #[.int .i64 e0,.int .i64 e1,.int .i64 e2] t (0,0))) {j:Nat} (hj:j < 3):(w.setCell ⟨g,j,none⟩ (.int .i64 (wrap64 (isE e0 e1 e2 j - 1)))).heap[g]? =some (.cells #[.int .i64 (isL e0 0 j),.int .i64 (isL e1 1 j),.int .i64 (isL e2 2 j)] t (0,0)):=by
 rcases (show j=0∨j=1∨j=2 by omega) with rfl | rfl | rfl<;>exact Zw h _ _
theorem qhc {i d n:Nat} (h:i+(d+1)=n):n - (((i+1:Nat):Int)).toNat < n - ((i:Int)).toNat:=by omega
theorem Qc.calls (k:Nat) (a0:Int) (A1:Option Addr) (c1:Nat) (l1:List Int) (x0 x1 x2:Int) (r:List Int) (w:World) (hr1:Kd.C (Kd.int .i64) w A1 l1.length l1) (hc1:l1.length≤c1) (h:Qc.f k a0 l1 x0 x1 x2=some r):
  Calls Try.prog 135 #[.int .i64 a0,.slice A1 l1.length c1,.agg #[.int .i64 x0,.int .i64 x1,.int .i64 x2]] w fun e w'=>∃ v0_:Value,e=.returned (v0_)∧Kd.R (Kd.int .i64) 3 w' w.heap.size (fun _=>True) v0_ r∧Below w.heap.size w w':=by
 have hu43:=Try.underlying43
 have hu41:=Try.underlying41
 have HR1:=am hr1
 have HC1:=am hc1
 have HB:=am (Below.refl w.heap.size w)
 unfold Qc.f at h
 have H:=am h
 clear hr1 hc1 h
 go_enter Try.func135,Try.ntmps135
 go_wp2_with (first
  | ((with_reducible refine zb (N:=5) rfl ?_);refine xe_ 5 43 #[.int .i64 x0,.int .i64 x1,.int .i64 x2] ?_;intro gX hg w3 hbox hb;have HX:=am hbox;have GX:=am (show w.heap.size≤gX by rw[hg];exact bz HB);replace HB:=bq HB hb;clear hb hbox hg)
  | ((with_reducible refine zb (N:=13) rfl ?_);refine li 3 ([]:List Int) ?_;intro v7' w4 ho5 hb;have HR7:=am (Kd.R_lower ho5 (bz HB));replace HX:=am (qv (pk_ HX) hb);replace HB:=bq HB hb;clear hb ho5))
 go_loopw [7,14] (fun v7 v14 w'=>∃ (d j:Nat) (acc:List Int),v14=.int .i64 (j:Int)∧qf (j+d=3)∧qf (acc.length=j)∧qf (isD k a0 l1 x0 x1 x2 d j acc=some r)∧qf (Kd.R (Kd.int .i64) 3 w' w.heap.size (fun _=>True) v7 acc)∧qf (w'.heap[gX]? =some (.cells #[.int .i64 x0,.int .i64 x1,.int .i64 x2] 43 (0,0)))∧qf (Below w.heap.size w w')) (fun _ v14 _=>3 - (intOf v14).toNat)
 case atStart=>exact⟨3,0,[],rfl,⟨by omega⟩,⟨rfl⟩,H,⟨wR HR7⟩,⟨pk_ HX⟩,⟨bw HB⟩⟩
 case round=>
  clear H HR7 HX HB
  obtain⟨d,j,acc,rfl,HD,HAL,H,HR7,HX,HB⟩:=hrel
  cases d with
  | zero=>
   have hlt:decide ((j:Int) < 3)=false:=decide_eq_false (by have:=HD.out;omega)
   have hr:=H.out
   rw[isD]at hr
   obtain rfl:=Option.some.inj hr
   clear hr;go_wp2;go_ret
   exact⟨_,fq,wR HR7,bw HB⟩
  | succ d=>
   have hlt:decide ((j:Int) < 3)=true:=decide_eq_true (by have:=HD.out;omega)
   have h2:=H.out
   rw[isD]at h2
   obtain⟨L,hL,h2⟩:=Option.bind_eq_some_iff.1 h2
   by_cases hl:L.length≤1000
   rotate_left
   ·rw[if_neg hl]at h2;cases h2
   rw[if_pos hl]at h2
   obtain⟨s,hs,h2⟩:=Option.bind_eq_some_iff.1 h2
   obtain⟨m,hm,hn⟩:=Option.bind_eq_some_iff.1 h2
   have HL:=am hL
   have HLL:=am hl
   have HS:=am hs
   have HM:=am hm
   have HN:=am hn
   clear H h2 hL hl hs hm hn
   go_wp2_with fail
   refine(q9.calls k L _ HL.out).mono ?_
   rintro e w1 ⟨u,rfl,hv,hb⟩
   obtain⟨AL,cL,e1⟩:=Kd.R_slice hv
   subst e1
   have HR8:=am (Kd.R_below (wR HR7) hb)
   have HX8:=am (qv (pk_ HX) hb)
   have HB1:=bq HB hb
   have HC:=am (Kd.R_reads' hv).2.2
   have HCL:=am (Kd.R_reads' hv).2.1
   have HBR:=am (Below.refl w1.heap.size w1)
   clear hv hb HB HR7 HX;go_wp2
   go_loopw [9,19] (fun v9 v19 w'=>∃ (d2 i:Nat) (n:Int),v9=.int .i64 n∧v19=.int .i64 (i:Int)∧qf (i+d2=L.length)∧qf (isI k l1 x0 x1 x2 j L d2 i n=some s)∧qf (Below w1.heap.size w1 w')) (fun _ v19 _=>L.length - (intOf v19).toNat)
   case atStart=>exact⟨L.length,0,0,rfl,rfl,⟨by omega⟩,HS,⟨bw HBR⟩⟩
   case round=>
    clear HS HBR
    obtain⟨d2,i,n,rfl,rfl,HD2,HI,HBR⟩:=hrel
    cases d2 with
    | zero=>
     have hlt2:decide ((i:Int) < (L.length:Int))=false:=decide_eq_false (by have:=HD2.out;omega)
     have nlt:(i < L.length)=False:=eq_false (by have:=HD2.out;omega)
     have hr:=HI.out
     rw[isI]at hr
     obtain rfl:=Option.some.inj hr
     clear hr
     have HR9:=am (Kd.R_below HR8.out HBR.out)
     have HX9:=am (qv HX8.out HBR.out)
     have HB9:=bq HB1 HBR.out
     have hw1:wrap64 ((j:Int)+1)=((j+1:Nat):Int):=by have:=HD.out;unfold wrap64;omega
     have HW1:=am hw1
     clear hw1 HR8 HX8 HB1 HBR
     go_wp2_with (first
      | ((with_reducible refine qt (f:=126) rfl ?_);refine gl 67 Try.func126 #[.int .i64 n,.int .i64 a0] ?_;refine(Z1.calls n a0 m _ HM.out).mono ?_;rintro e w5 ⟨rfl,⟨nd,rfl⟩⟩;refine⟨_,rfl,?_⟩)
      | ((with_reducible refine jr (b:=.append) (xs:=#[.tmp 64,.tmp 68]) rfl ?_);at_builtin;refine Kd.R_append (Kd.int .i64) (w0:=w) w.heap.size rfl (.tmp 64) (.tmp 68) 23 3 (.int .i64 0) 8 rfl Try.underlying23 Jm rfl (by decide) (by omega) u7 acc m [.int .i64 m] (fun _=>True) (fun _=>False) rfl rfl ?aP (fun _ hk=>hk.elim) ?aF ?aO ?aB ?aS ?aL ?_;(case aP=>exact rfl);(case aB=>exact(bw HB9));(case aF=>exact(fun _ _=>trivial));(case aO=>exact(wR HR9));(case aS=>exact(bz HB9));(case aL=>have:=HAL.out;have:=HD.out;omega);intro v8' w6 ho hb hg hat;have HX10:=am (Q2 (pk_ HX9) hg (Kd.R_ne HR9.out HX9.out (by decide)));have HR10:=am ho;have HB10:=am hb;clear ho hb hg hat HR9 HX9 HB9))
     go_roundw
     case measure=>rw[HW1.out];exact qhc HD.out
     case rel=>exact⟨d,j+1,acc++[m],by rw[HW1.out],⟨by have:=HD.out;omega⟩,⟨by rw[List.length_append,HAL.out];rfl⟩,HN,⟨wR HR10⟩,⟨pk_ HX10⟩,⟨bw HB10⟩⟩
    | succ d2=>
     have hlt2:decide ((i:Int) < (L.length:Int))=true:=decide_eq_true (by have:=HD2.out;omega)
     obtain⟨ad,e1,y0,y1,y2⟩:=qh2 HC.out (i:Int) (by omega) (by have:=HD2.out;omega)
     subst e1
     rw[Int.toNat_natCast]at y0 y1 y2
     have h2:=HI.out
     rw[isI]at h2
     generalize hY:zg L (i:Int)=Y at y0 y1 y2 h2
     have z0:=wcl HBR y0
     have z1:=wcl HBR y1
     have z2:=wcl HBR y2
     clear y0 y1 y2 hY HI
     have p1:(0≤(i:Int))=True:=eq_true (by omega)
     have q1:((i:Int) < L.length)=True:=eq_true (by have:=HD2.out;omega)
     have q2:(i < L.length)=True:=eq_true (by have:=HD2.out;omega)
     have H2:=am h2
     clear h2
     go_upto_region 9 with fail
     clear z0 z1 z2 p1 q1 q2
     have HE:=am (heap_alloc_last wr (.cells #[.int .i64 Y.f0,.int .i64 Y.f1,.int .i64 Y.f2] 41))
     have HB2:=am (show Below w1.heap.size w1 (wr.alloc (.cells #[.int .i64 Y.f0,.int .i64 Y.f1,.int .i64 Y.f2] 41)) from bw HBR)
     have HG:=am (show w1.heap.size≤wr.heap.size from HBR.out.size)
     clear HBR
     generalize wr.alloc (.cells #[.int .i64 Y.f0,.int .i64 Y.f1,.int .i64 Y.f2] 41)=w2 at HE HB2 ⊢
     generalize wr.heap.size=gE at HE HG ⊢
     have hj3:j < 3:=by have:=HD.out;omega
     have p2:(0≤(j:Int))=True:=eq_true (by omega)
     have q2:((j:Int) < 3)=True:=eq_true (by omega)
     have yj:=qi5 HE.out hj3
     have HJ3:=am hj3
     clear hj3
     have hw1:wrap64 ((i:Int)+1)=((i+1:Nat):Int):=by have:=HD2.out;have:=HLL.out;unfold wrap64;omega
     have HW1:=am hw1
     clear hw1
     have h2:=H2.out
     clear H2
     by_cases hz:isE Y.f0 Y.f1 Y.f2 j=0
     ·rw[if_pos hz]at h2
      have HJ2:=am h2
      have bz:(isE Y.f0 Y.f1 Y.f2 j == 0)=true:=beq_iff_eq.mpr hz
      clear h2 hz
      go_wp2_with fail
      go_roundw
      case measure=>rw[HW1.out];exact qhc HD2.out
      case rel=>exact⟨d2,i+1,n,rfl,by rw[HW1.out],⟨by have:=HD2.out;omega⟩,HJ2,⟨bw HB2⟩⟩
     ·rw[if_neg hz]at h2
      by_cases hi:i < l1.length
      rotate_left
      ·rw[if_neg hi]at h2;cases h2
      rw[if_pos hi]at h2
      obtain⟨tt,ht,hn⟩:=Option.bind_eq_some_iff.1 h2
      unfold isT at ht
      obtain⟨q0,h0,ht⟩:=Option.bind_eq_some_iff.1 ht
      obtain⟨q1,h1,ht⟩:=Option.bind_eq_some_iff.1 ht
      obtain⟨q2',h2',ht⟩:=Option.bind_eq_some_iff.1 ht
      obtain rfl:=Option.some.inj ht
      have bz:(isE Y.f0 Y.f1 Y.f2 j == 0)=false:=beq_eq_false_iff_ne.mpr hz
      have P0:=am h0
      have P1:=am h1
      have P2:=am h2'
      have HJN:=am hn
      have HI:=am hi
      clear h2 hz h0 h1 h2' hn ht
      go_upto_region 11 with fail
      have yj:=qi5 HE.out HJ3.out
      have fz:=ql HE.out j
      go_upto_region 12 with fail
      have HE3:=am (qm8 HE.out HJ3.out)
      have HB3:=am (Qi HB2.out HG.out (j:=j) (v:=.int .i64 (wrap64 (isE Y.f0 Y.f1 Y.f2 j - 1))))
      clear yj fz HE HB2 p2 q2 bz
      generalize w2.setCell ⟨gE,j,none⟩ (.int .i64 (wrap64 (isE Y.f0 Y.f1 Y.f2 j - 1)))=w3' at HE3 HB3 ⊢
      obtain⟨ad2,e2,zz⟩:=Kd.at_int HR1.out (i:Int) (by omega) (by omega)
      subst e2
      rw[Int.toNat_natCast]at zz
      have zz:=wcl HB1 zz
      have zz:=wcl HB3 zz
      have p1:(0≤(i:Int))=True:=eq_true (by omega)
      have qi:(i < l1.length)=True:=eq_true HI.out
      have qi2:((i:Int) < l1.length)=True:=eq_true (by have:=HI.out;omega)
      have xg:=qv HX8.out HB3.out
      have x0':w3'.drew.cell? ⟨gX,0,none⟩=some (.int .i64 x0):=(qe (qw xg) 0).trans rfl
      have x1':w3'.drew.cell? ⟨gX,1,none⟩=some (.int .i64 x1):=(qe (qw xg) 1).trans rfl
      have x2':w3'.drew.cell? ⟨gX,2,none⟩=some (.int .i64 x2):=(qe (qw xg) 2).trans rfl
      have e0':w3'.drew.cell? ⟨gE,0,none⟩=some (.int .i64 (isL Y.f0 0 j)):=(qe (qw HE3.out) 0).trans rfl
      have e1':w3'.drew.cell? ⟨gE,1,none⟩=some (.int .i64 (isL Y.f1 1 j)):=(qe (qw HE3.out) 1).trans rfl
      have e2':w3'.drew.cell? ⟨gE,2,none⟩=some (.int .i64 (isL Y.f2 2 j)):=(qe (qw HE3.out) 2).trans rfl
      have hS:(fun w':World=>w'.cell? (ad2.add i)=some (.int .i64 (rd l1 (i:Int)))∧w'.cell? ⟨gX,0,none⟩=some (.int .i64 x0)∧w'.cell? ⟨gX,1,none⟩=some (.int .i64 x1)∧w'.cell? ⟨gX,2,none⟩=some (.int .i64 x2)∧w'.cell? ⟨gE,0,none⟩=some (.int .i64 (isL Y.f0 0 j))∧w'.cell? ⟨gE,1,none⟩=some (.int .i64 (isL Y.f1 1 j))∧w'.cell? ⟨gE,2,none⟩=some (.int .i64 (isL Y.f2 2 j))) w3'.drew:=⟨zz,x0',x1',x2',e0',e1',e2'⟩
      refine st 30 (fun w':World=>w'.cell? (ad2.add i)=some (.int .i64 (rd l1 (i:Int)))∧w'.cell? ⟨gX,0,none⟩=some (.int .i64 x0)∧w'.cell? ⟨gX,1,none⟩=some (.int .i64 x1)∧w'.cell? ⟨gX,2,none⟩=some (.int .i64 x2)∧w'.cell? ⟨gE,0,none⟩=some (.int .i64 (isL Y.f0 0 j))∧w'.cell? ⟨gE,1,none⟩=some (.int .i64 (isL Y.f1 1 j))∧w'.cell? ⟨gE,2,none⟩=some (.int .i64 (isL Y.f2 2 j))) [] Qc.tab12 Qc.bits12 hS fun hHeld HT_ HW_=>?_
      clear hS zz xg x0' x1' x2' e0' e1' e2'
      refine pz 0 34 HT_ ?_;refine pz 1 35 HT_ ?_;refine pz 2 36 HT_ ?_;refine pz 3 37 HT_ ?_;refine pz 5 39 HT_ ?_;refine pz 7 41 HT_ ?_;refine pz 8 42 HT_ ?_;refine pz 10 44 HT_ ?_;refine pz 14 48 HT_ ?_;refine pz 15 49 HT_ ?_;refine pz 17 51 HT_ ?_;refine pz 21 55 HT_ ?_;refine pz 22 56 HT_ ?_;refine pz 24 58 HT_ ?_
      refine tk 4 38 HT_ HW_ hHeld ?_;refine tk 9 43 HT_ HW_ hHeld ?_;refine tk 11 45 HT_ HW_ hHeld ?_;refine tk 16 50 HT_ HW_ hHeld ?_;refine tk 18 52 HT_ HW_ hHeld ?_;refine tk 23 57 HT_ HW_ hHeld ?_;refine tk 25 59 HT_ HW_ hHeld ?_
      refine pz 6 40 HT_ ?_
      refine on 12 (some 46) HT_ fun K hK=>?_
      refine gs_ Try.func102 #[.int .i64 x0,.int .i64 (isL Y.f0 0 j)] ?_
      with_reducible refine(z8.calls k x0 (isL Y.f0 0 j) q0 _ P0.out).mono ?_
      rintro e w' ⟨rfl,⟨nd,rfl⟩⟩
      refine⟨_,rfl,?_⟩
      refine hK.out _ _ hHeld fun hHeld=>nz ?_
      clear hK K;refine pz 13 47 HT_ ?_
      refine on 19 (some 53) HT_ fun K hK=>?_
      refine gs_ Try.func102 #[.int .i64 x1,.int .i64 (isL Y.f1 1 j)] ?_
      with_reducible refine(z8.calls k x1 (isL Y.f1 1 j) q1 _ P1.out).mono ?_
      rintro e w' ⟨rfl,⟨nd,rfl⟩⟩
      refine⟨_,rfl,?_⟩
      refine hK.out _ _ hHeld fun hHeld=>nz ?_
      clear hK K;refine pz 20 54 HT_ ?_
      refine on 26 (some 60) HT_ fun K hK=>?_
      refine gs_ Try.func102 #[.int .i64 x2,.int .i64 (isL Y.f2 2 j)] ?_
      with_reducible refine(z8.calls k x2 (isL Y.f2 2 j) q2' _ P2.out).mono ?_
      rintro e w' ⟨rfl,⟨nd,rfl⟩⟩
      refine⟨_,rfl,?_⟩
      refine hK.out _ _ hHeld fun hHeld=>nz ?_
      clear hK K;refine pz 27 61 HT_ ?_;refine pz 28 62 HT_ ?_;refine pz 29 9 HT_ ?_
      refine Q3 (Qa HT_.out (by kernel_rfl)) ?_
      clear HT_ HW_ hHeld;go_wp2
      go_roundw
      case measure=>rw[HW1.out];exact qhc HD2.out
      case rel=>exact⟨d2,i+1,_,rfl,by rw[HW1.out],⟨by have:=HD2.out;omega⟩,HJN,⟨bw HB3⟩⟩
def jk.l0 :Nat→List Int→List (List Int)→Int→Int→Option (List Int)
 | 0,_,_,_,_=>none
 | k+1,x5,x11,x12,x13=>if x13 < x12 then (if 0≤x13 then (if x13 < (x11.length:Int) then (if x5.length+(ju x11 x13).length < 17592186044416 then (jk.l0 k (x5++(ju x11 x13)) x11 x12 (wrap64 (x13+1))) else (none)) else (none)) else (none)) else (some x5)
def jk.f (k:Nat) (a0:Int) (l1:List (List Int)):Option (List Int):=(zy.f k a0 l1).bind fun t455=>(jk.l0 k (([]:List Int)) t455 (t455.length:Int) 0)
theorem jk.mono_l :∀ k,(∀ y0 y1 y2 y3,LeO (jk.l0 k y0 y1 y2 y3) (jk.l0 (k+1) y0 y1 y2 y3))
 | 0=>fun _ _ _ _ r h=>by simp[jk.l0]at h
 | k+1=>by
  have ih0:=jk.mono_l k
  ·intro y0 y1 y2 y3
   unfold jk.l0
   repeat' first | (with_reducible first | apply ih0 | apply zy.mono | exact LeO.refl _ | exact LeO.none _ | refine LeO.ite ?_ ?_ | refine LeO.bind ?_ (fun _=>?_)) | (first | apply ih0 | apply zy.mono | exact LeO.none _ | refine LeO.ite ?_ ?_ | refine LeO.bind ?_ (fun _=>?_))
theorem jk.mono :∀ a0 a1 k,LeO (jk.f k a0 a1) (jk.f (k+1) a0 a1):=by
 intro a0 a1 k
 have ih0:=jk.mono_l k
 unfold jk.f
 repeat' first | (with_reducible first | apply ih0 | apply zy.mono | exact LeO.refl _ | exact LeO.none _ | refine LeO.ite ?_ ?_ | refine LeO.bind ?_ (fun _=>?_)) | (first | apply ih0 | apply zy.mono | exact LeO.none _ | refine LeO.ite ?_ ?_ | refine LeO.bind ?_ (fun _=>?_))
theorem jk.calls (k:Nat) (a0:Int) (A1:Option Addr) (c1:Nat) (l1:List (List Int)) (r:List Int) (w:World) (hr1:Kd.C (Kd.slice 3 (Kd.int .i64)) w A1 l1.length l1) (hc1:l1.length≤c1) (h:jk.f k a0 l1=some r):
  Calls Try.prog 136 #[.int .i64 a0,.slice A1 l1.length c1] w fun e w'=>∃ v0_:Value,e=.returned (v0_)∧Kd.R (Kd.int .i64) 3 w' w.heap.size (fun _=>True) v0_ r∧Below w.heap.size w w':=by
 have HR1:=am hr1
 have HC1:=am hc1
 clear hr1 hc1
 have HB:=am (Below.refl w.heap.size w)
 have H:((zy.f k a0 l1).bind fun t455=>(jk.l0 k (([]:List Int)) t455 (t455.length:Int) 0))=some r:=h
 clear h
 generalize hy452:(([]:List Int))=y452 at H
 have Ny452:=am hy452.symm;clear hy452;replace H:=bs H;obtain⟨t455,A3,H⟩:=H;have H':=am H;clear H
 go_enter Try.func136,Try.ntmps136
 go_wp2_with (first | ((with_reducible refine zb (N:=8) rfl ?_);refine li 3 ([]:List Int) ?_;intro v453 w4 ho5 hb;(first | rw[← Ny452.out]at ho5 | (simp only[Int.reduceToNat]at ho5;rw[← Ny452.out]at ho5));have HO454:=am (Kd.R_lower ho5 (bz HB));replace HB:=bq HB hb;clear hb ho5) | ((with_reducible refine qt (f:=152) rfl ?_);refine gl 11 Try.func152 #[.int .i64 a0,.slice A1 l1.length c1] ?_;(with_reducible refine(zy.calls k a0 _ _ l1 t455 _ ?_ ?_ A3.out).mono ?_);exact Kd.C_below HR1.out (bw HB);exact HC1.out;rintro e w6 ⟨v456,rfl,ho0,hb⟩;refine⟨_,rfl,?_⟩;have HO457:=am (Kd.S_lower (Kd.S_new' ho0 (Kd.R_lt (wR HO454))) (bz HB));replace HO454:=am (Kd.R_below (wR HO454) hb);replace HB:=bq HB hb;(try clear hb);(try clear ho0);obtain⟨Ao7,co7,eo7⟩:=Kd.S_slice HO457.out;subst eo7))
 go_loopg [5,13] k (fun kq v5 v13 w'=>∃ (x5_1:List Int) (x13_1:Int),v13=.int .i64 x13_1∧qf (jk.l0 kq x5_1 t455 (t455.length:Int) x13_1=some r)∧qf (kq≤k)∧qf (Kd.R (Kd.int .i64) 3 w' w.heap.size (fun _=>True) v5 x5_1)∧qf (Kd.S (Kd.slice 3 (Kd.int .i64)) 23 w' w.heap.size (fun k_=>some k_≠(v5:Value).ownBlock) (.slice Ao7 t455.length co7) t455)∧qf (Below w.heap.size w w'))
 case atStart=>exact⟨(y452),(0),fr,H',⟨Nat.le_refl _⟩,⟨wR HO454⟩,⟨Kd.S_below (Kd.S_mono HO457.out (fun _ hk=>hk.2)) gs⟩,⟨bw HB⟩⟩
 case round=>
  clear H';try clear c1;try clear p2
  obtain⟨x5_1,x13_1,rfl,HA,HK1,HO_5,HO_11,HB⟩:=hrel
  cases gk with
  | zero=>exact absurd HA.out (by simp[jk.l0])
  | succ k1=>
   have H:=HA.out;clear HA
   simp only[jk.l0]at H
   by_cases c8:x13_1 < (t455.length:Int)
   ·rw[if_pos c8]at H
    have c8b0:=decide_eq_true c8;clear c8;replace H:=ifn H;obtain⟨c9,H⟩:=H;have c9b0:=decide_eq_true c9;clear c9;replace H:=ifn H;obtain⟨c10,H⟩:=H;have c10b0:=decide_eq_true c10;clear c10;replace H:=ifn H;obtain⟨c11,H⟩:=H
    have LMc11:=am c11;clear c11
    generalize hy459:(x5_1++(ju t455 x13_1):List Int)=y459 at H
    have Ny459:=am hy459.symm;clear hy459;have H':=am H;clear H
    have p458:0≤(x13_1:Int):=od
    have q458:x13_1 < (t455.length:Int):=od
    obtain⟨ad458,A458_0,c458_0,e458,hx458_0,hl458_0,hi458_0⟩:=qak (Kd.S_reads' HO_11.out).2.2 x13_1 p458 q458
    cases e458
    obtain⟨ce458,hce458,hMe458,hcc458⟩:=Kd.S_get HO_11.out [] x13_1 p458 (by first | exact q458 | exact od | (have e_:=(Kd.S_reads' HO_11.out).1;omega))
    obtain⟨ve458_0,rfl,ge458_0⟩:=hMe458
    have hv458_0:=hcc458 0 _ rfl
    rw[Nat.add_zero,show ((Kd.slice 3 (Kd.int .i64))).sz=1 from rfl,Nat.mul_one]at hv458_0
    replace hv458_0:=Option.some.inj (hv458_0.symm.trans hx458_0)
    rw[hv458_0]at ge458_0
    have HL458_0:=am (show Kd.R (Kd.int .i64) 3 _ _ _ _ (ju t455 x13_1) from ge458_0)
    clear hv458_0 ge458_0;clear hcc458 hce458
    have HR458_0:=am hi458_0
    have HC458_0:=am hl458_0
    clear hi458_0 hl458_0;replace p458:=eq_true p458;replace q458:=eq_true q458
    go_wp2_with (first | ((with_reducible refine jr (b:=.append) (xs:=#[.tmp 17,.tmp 18]) rfl ?_);at_builtin;refine Kd.R_append_rows (Kd.int .i64) (w0:=w) w.heap.size rfl (.tmp 17) (.tmp 18) 23 3 (.int .i64 0) 8 rfl Try.underlying23 Jm rfl (by decide) (by omega) u5 x5_1 (ju t455 x13_1) _ _ _ (fun _=>True) (fun _=>False) rfl rfl ?aO ?aR (fun _ _ h=>h) (fun _ h=>h.elim) ?aF ?aB ?aS ?aL ?_;(case aR=>exact wC HR458_0);(case aB=>exact(bw HB));(case aF=>exact(fun _ _=>trivial));(case aO=>exact(wR HO_5));(case aS=>exact(bz HB));(case aL=>have:=LMc11.out;omega);intro v460 w12 ho hb hg hat;rw[← Ny459.out]at ho;replace HO_11:=am (Kd.S_after (ok:=(fun _=>True)) (oS_ HO_11 (fun _ hk=>⟨trivial,hk⟩)) hg hat);replace HL458_0:=am (Kd.R_after (ok:=(fun k_=>some k_≠(.slice (some ad458) t455.length co7:Value).ownBlock)) (oR_ HL458_0 (fun _ hk=>⟨hk.2,hk.1⟩)) hg hat);replace HB:=am (hb);have HO461:=am (ho);clear HO_5;clear ho hb hg hat))
    go_roundg k1
    case measure=>have:=HK1.out;omega
    case rel=>exact⟨(y459),(wrap64 (x13_1+1)),fr,H',⟨by have:=HK1.out;omega⟩,⟨wR HO461⟩,⟨Kd.S_below (Kd.S_mono HO_11.out (fun _ hk=>hk.2)) gs⟩,⟨bw HB⟩⟩
   ·rw[if_neg c8]at H
    have c8b0:=decide_eq_false c8;clear c8;obtain rfl:=Option.some.inj H;go_wp2;go_ret
    exact⟨_,fq,wR HO_5,bw HB⟩
def jw.l0 :Nat→Int→Int→Option (Int×Int)
 | 0,_,_=>none
 | k+1,x0,x4=>if x0≥(wrap64 (5 - x4)) then (jw.l0 k (wrap64 (x0 - (wrap64 (5 - x4)))) (wrap64 (x4+1))) else (some (x4,wrap64 ((wrap64 (x4+1))+x0)))
def jw.f (k:Nat) (a0:Int):Option (Int×Int):=jw.l0 k a0 0
theorem jw.mono_l :∀ k,(∀ y0 y1,LeO (jw.l0 k y0 y1) (jw.l0 (k+1) y0 y1))
 | 0=>fun _ _ r h=>by simp[jw.l0]at h
 | k+1=>by
  have ih0:=jw.mono_l k
  ·intro y0 y1
   unfold jw.l0
   repeat' first | (with_reducible first | apply ih0 | exact LeO.refl _ | exact LeO.none _ | refine LeO.ite ?_ ?_ | refine LeO.bind ?_ (fun _=>?_)) | (first | apply ih0 | exact LeO.none _ | refine LeO.ite ?_ ?_ | refine LeO.bind ?_ (fun _=>?_))
theorem jw.mono :∀ a0 k,LeO (jw.f k a0) (jw.f (k+1) a0):=by
 intro a0 k
 have ih0:=jw.mono_l k
 unfold jw.f
 repeat' first | (with_reducible first | apply ih0 | exact LeO.refl _ | exact LeO.none _ | refine LeO.ite ?_ ?_ | refine LeO.bind ?_ (fun _=>?_)) | (first | apply ih0 | exact LeO.none _ | refine LeO.ite ?_ ?_ | refine LeO.bind ?_ (fun _=>?_))
theorem jw.calls (k:Nat) (a0:Int) (r1:Int) (r2:Int) (w:World) (h:jw.f k a0=some (r1,r2)):
  Calls Try.prog 138 #[.int .i64 a0] w fun e w'=>e=.returned (.tuple #[.int .i64 r1,.int .i64 r2])∧Drawn0 w w':=by
 have H:(jw.l0 k a0 0)=some (r1,r2):=h
 clear h;have H':=am H;clear H
 go_enter Try.func138,Try.ntmps138
 go_wp2
 go_loopg [0,4] k (fun kq v0 v4 w'=>∃ (x0_1:Int) (x4_1:Int),v0=.int .i64 x0_1∧v4=.int .i64 x4_1∧qf (jw.l0 kq x0_1 x4_1=some (r1,r2))∧qf (kq≤k)∧Drawn0 w w')
 case atStart=>exact⟨(a0),(0),fr,fr,H',⟨Nat.le_refl _⟩,df⟩
 case round=>
  clear H';try clear c1
  obtain⟨x0_1,x4_1,rfl,rfl,HA,HK1,⟨m1,rfl⟩⟩:=hrel
  cases gk with
  | zero=>exact absurd HA.out (by simp[jw.l0])
  | succ k1=>
   have H:=HA.out;clear HA
   simp only[jw.l0]at H
   by_cases c2:x0_1≥(wrap64 (5 - x4_1))
   ·rw[if_pos c2]at H
    have c2b0:=decide_eq_true c2;clear c2;have H':=am H;clear H;go_wp2
    go_roundg k1
    case measure=>have:=HK1.out;omega
    case rel=>exact⟨(wrap64 (x0_1 - (wrap64 (5 - x4_1)))),(wrap64 (x4_1+1)),fr,fr,H',⟨by have:=HK1.out;omega⟩,df⟩
   ·rw[if_neg c2]at H
    have c2b0:=decide_eq_false c2;clear c2
    simp only[Option.some.injEq,Prod.mk.injEq]at H
    obtain⟨rfl,rfl⟩:=H;go_wp2
    go_ret2
    exact⟨fr,df⟩
theorem qh5 (w:World) (ty:TypeId) (g o c:Nat) (hc:∀ j,j < 3→(w.cell? ⟨g,o+j,none⟩).isSome=true) (hf:∀ j,j < 3→w.frozen? ⟨g,o+j,none⟩=false):
  (Builtin.clear_ #[34] ty #[.slice (some ⟨g,o,none⟩) 1 c]).run Try.prog w=.ok (.tuple #[]) (w.setCells g o [.int .i64 0,.int .i64 0,.int .i64 0]):=by
 have hv:∀ w,(zeroValue 43).run Try.prog w=.ok (.agg #[.int .i64 0,.int .i64 0,.int .i64 0]) w:=Try.zeroValue43
 have hst:=run_storeCells_cells (P:=Try.prog) g o [.int .i64 0,.int .i64 0,.int .i64 0] 0 w (by simpa using hc) (by simpa using hf) (by intro v hv';simp at hv';rw[hv'];rfl)
 simp only[Nat.add_zero]at hst
 have hz:(Builtin.zeroCells (Value.agg #[.int .i64 0,.int .i64 0,.int .i64 0]).cells 1).toList=[.int .i64 0,.int .i64 0,.int .i64 0]:=by
  rw[show (Value.agg #[.int .i64 0,.int .i64 0,.int .i64 0]).cells=#[.int .i64 0,.int .i64 0,.int .i64 0] from rfl]
  simp[Builtin.zeroCells,Array.toList_range,List.range,List.range.loop]
 simp[Builtin.clear_,run_underlying Try.underlying34,hv,hz,hst]
theorem delPt.calls (w:World) (g n cap i:Nat) (cs:List Value) (hl:cs.length=n*3) (hc:∀ j u,cs[j]? =some u→w.cell? ⟨g,j,none⟩=some u) (h1:∀ u∈cs,u.oneCell'=true) (hf:∀ j,j < n*3→w.frozen? ⟨g,j,none⟩=false) (hn:n≤cap) (hm:cap≤9223372036854775807) (hi:i < n):
  Calls Try.prog 141 #[.slice (some ⟨g,0,none⟩) n cap,.int .i64 i,.int .i64 ((i:Int)+1)] w fun e w'=>e=.returned (.slice (some ⟨g,0,none⟩) (n - 1) cap)∧w'=(w.drew.setCells g (i*3) (cs.drop ((i+1)*3))).setCells g ((n - 1)*3) [.int .i64 0,.int .i64 0,.int .i64 0]:=by
 have mixed:Try.prog.follows Departure.mixedOrders=true:=by kernel_rfl
 have hu34:=Try.underlying34
 have hu43:=Try.underlying43
 obtain⟨i0,hi0,hz3⟩:∃ i0,Try.prog.info? 43=some i0∧i0.size=3:=by
  have:=J4
  cases h:Try.prog.info? 43 with
  | none=>rw[h]at this;simp at this
  | some i=>rw[h]at this;refine⟨i,rfl,?_⟩;simp at this;exact this.2.1
 obtain⟨news,hnews⟩:∃ news,news=cs.drop ((i+1)*3):=⟨_,rfl⟩
 have hlen:news.length=(n - (i+1))*3:=by rw[hnews,List.length_drop,hl];omega
 have hget:∀ t u,news[t]? =some u→w.cell? ⟨g,(i+1)*3+t,none⟩=some u:=fun t u hu=>by
  rw[hnews,List.getElem?_drop]at hu
  exact hc _ _ hu
 have hall:∀ j,j < n*3→(w.cell? ⟨g,j,none⟩).isSome=true:=fun j hj=>by
  rw[hc j _ (List.getElem?_eq_getElem (by omega))];rfl
 obtain⟨A,hA,hsrc⟩:∃ A:Addr,(if cap=i+1 then some (⟨g,0,none⟩:Addr) else some ⟨g,(i+1)*3,none⟩)=some A∧Hid (∀ t u,news[t]? =some u→w.drew.cell? (A.add t)=some u):=by
  by_cases h:cap=i+1
  ·refine⟨⟨g,0,none⟩,by simp[h],fun t u hu=>?_⟩
   have h0:news.length=0:=by rw[hlen];omega
   rw[List.length_eq_zero_iff.1 h0]at hu
   simp at hu
  ·refine⟨⟨g,(i+1)*3,none⟩,by simp[h],fun t u hu=>?_⟩
   rw[Addr.add_lit]
   exact hget t u hu
 have s1:Hid (news.length=(n - (i+1))*3):=hlen
 have s2:Hid (∀ u∈news,u.oneCell'=true):=fun u hu=>h1 u (by rw[hnews]at hu;exact List.mem_of_mem_drop hu)
 have s3:Hid (∀ t,t < news.length→(w.drew.cell? ⟨g,0+i*3+t,none⟩).isSome=true∧w.drew.frozen? ⟨g,0+i*3+t,none⟩=false):=fun t ht=>by
  rw[hlen]at ht
  exact⟨hall _ (by omega),hf _ (by omega)⟩
 obtain⟨W1,hW1⟩:∃ W1,W1=w.drew.setCells g (0+i*3) news:=⟨_,rfl⟩
 have hcl:∀ ty,(Builtin.clear_ #[34] ty #[.slice (some ⟨g,(i+(n - (i+1)))*3,none⟩) (n - (i+(n - (i+1)))) (cap - (i+(n - (i+1))))]).run Try.prog W1=.ok (.tuple #[]) (W1.setCells g ((n - 1)*3) [.int .i64 0,.int .i64 0,.int .i64 0]):=fun ty=>by
  rw[show i+(n - (i+1))=n - 1 by omega,show n - (n - 1)=1 by omega]
  refine qh5 W1 ty g _ _ (fun j hj=>?_) fun j hj=>?_
  ·rw[hW1]
   exact World.isSome_setCells g news _ _ _ (hall _ (by omega))
  ·rw[hW1,World.frozen?_setCells]
   exact hf _ (by omega)
 have hW:Hid (W1=w.drew.setCells g (0+i*3) news):=hW1
 have e1:(i:Int)+1=((i+1:Nat):Int):=by omega
 rw[e1]
 have hN:Hid (news=cs.drop ((i+1)*3)):=hnews
 have hij:i < i+1:=by omega
 have hj:i+1≤n:=by omega
 have hne:i≠i+1:=by omega
 have h0:Hid (n - (i+1)+i=n - 1):=by show _=_;omega
 have h5:n - 1≤n:=by omega
 have h6:Hid (n - (n - 1)=1):=by show _=_;omega
 generalize hJ:i+1=j at*
 have hJ':Hid (j=i+1):=hJ.symm
 have hic:i≤cap:=by omega
 have hjc:j≤cap:=by omega
 have hle:i≤j:=by omega
 clear hl hc h1 hf hget hall hlen hW1 hnews e1 hJ
 go_enter Try.func141,Try.ntmps141
 go_wp2_with fail
 go_region_law_o (refine step_append_room rfl (.tmp 22) (.tmp 25) 34 rfl 43 i0 3 hu34 hi0 hz3 g 0 i cap (by simp[Act.eval,Act.put]) A (n - j) (cap - j) news (by simp[Act.eval,Act.put]) s1.out hsrc.out s2.out (by omega) s3.out ?_;rw[← hW.out])
 go_wp2_with fail
 go_ret
 refine⟨?_,?_⟩
 ·have:=h0.out
  rw[show i+(n - j)=n - 1 by omega]
  rfl
 ·rw[hW.out,hN.out,Nat.zero_add]
theorem delPt.below {B:Nat} {a:World} (g:Nat) (hb:B≤g):∀ (vs:List Value) (o:Nat) {w:World},Below B a w→Below B a (w.setCells g o vs)
 | [],_,_,h=>h
 | v :: r,o,_,h=>delPt.below g hb r (o+1) (h.setCell (p:=⟨g,o,none⟩) hb v)
theorem delPt.row {w:World} {base:Nat} {ok:Nat→Prop} {v:Value} {xs:List S43} (h:Kd.R k43 43 w base ok v xs) (i:Nat) (hi:i < xs.length) (hx:xs.length≤1000):∃ g cap,v=.slice (some ⟨g,0,none⟩) xs.length cap∧base≤g∧xs.length≤cap∧
  Calls Try.prog 141 #[v,.int .i64 i,.int .i64 ((i:Int)+1)] w fun e w'=>e=.returned (.slice (some ⟨g,0,none⟩) (xs.length - 1) cap)∧Kd.C k43 w' (some ⟨g,0,none⟩) (xs.length - 1) (xs.take i++xs.drop (i+1))∧∀ B a,B≤g→Below B a w→Below B a w':=by
 obtain⟨_,inner,⟨hl,ho⟩,hr⟩:=h
 replace hl:inner.length=xs.length*3:=hl
 rcases ho with ⟨_,hn⟩ | ⟨g,cap,cur,rfl,hg,hh,hn,hm,hcs,htk⟩
 ·omega
 replace htk:cur.toList.take (xs.length*3)=inner:=htk
 refine⟨g,cap,rfl,hg,hn,?_⟩
 have hc:∀ j u,inner[j]? =some u→w.cell? ⟨g,j,none⟩=some u:=fun j u hu=>by
  rw[← htk,List.getElem?_take]at hu
  split at hu
  ·rw[qe hh j,← hu,Array.getElem?_toList]
  ·cases hu
 have hseg:∀ j p,xs[j]? =some p→(inner.drop (j*3)).take 3=[.int .i64 p.f0.f0,.int .i64 p.f0.f1,.int .i64 p.f0.f2]:=fun j p hj=>qdj (hr.2 j p hj)
 have hat:∀ j p,xs[j]? =some p→∀ ii u,([.int .i64 p.f0.f0,.int .i64 p.f0.f1,.int .i64 p.f0.f2]:List Value)[ii]? =some u→ii < 3∧inner[j*3+ii]? =some u:=fun j p hj ii u hu=>by
  have h3:ii < 3:=by have:=(List.getElem?_eq_some_iff.1 hu).1;simpa using this
  refine⟨h3,?_⟩
  rw[← hseg j p hj,List.getElem?_take,if_pos h3,List.getElem?_drop]at hu
  exact hu
 have h1:∀ u∈inner,u.oneCell'=true:=fun u hu=>by
  obtain⟨q,hq,rfl⟩:=List.mem_iff_getElem.1 hu
  have hj:q / 3 < xs.length:=by omega
  have e:=hseg (q / 3) _ (List.getElem?_eq_getElem hj)
  have e2:((inner.drop (q / 3*3)).take 3)[q % 3]? =some inner[q]:=by
   rw[List.getElem?_take,if_pos (by omega),List.getElem?_drop,show q / 3*3+q % 3=q by omega]
   exact List.getElem?_eq_getElem hq
  rw[e]at e2
  rcases (show q % 3=0∨q % 3=1∨q % 3=2 by omega) with h | h | h<;>rw[h]at e2<;>(obtain e2:=Option.some.inj e2;rw[← e2];rfl)
 refine(delPt.calls w g xs.length cap i inner hl hc h1 (fun j _=>ql hh j) hn hm hi).mono ?_
 rintro e w' ⟨rfl,rfl⟩
 refine⟨rfl,⟨by simp only[List.length_append,List.length_take,List.length_drop];omega,by omega,fun hp=>⟨⟨g,0,none⟩,rfl,fun j p hj=>?_⟩⟩,fun B a hB hb=>delPt.below g hB _ _ (delPt.below g hB _ _ (Za hb))⟩
 have hjl:j < xs.length - 1:=by
  have:=(List.getElem?_eq_some_iff.1 hj).1
  simp only[List.length_append,List.length_take,List.length_drop]at this
  omega
 have hsome:∀ q,q < xs.length*3→(w.drew.cell? ⟨g,q,none⟩).isSome=true:=fun q hq=>by
  show (w.cell? _).isSome=true
  rw[hc q _ (List.getElem?_eq_getElem (by omega))];rfl
 refine⟨[.int .i64 p.f0.f0,.int .i64 p.f0.f1,.int .i64 p.f0.f2],rfl,k43_mk _ p,fun ii u hu=>?_⟩
 rw[Addr.add_lit,Nat.zero_add]
 show World.cell? _ ⟨g,j*3+ii,none⟩=some u
 by_cases hji:j < i
 ·rw[List.getElem?_append_left (by rw[List.length_take];omega),List.getElem?_take,if_pos hji]at hj
  obtain⟨h3,h4⟩:=hat j p hj ii u hu
  rw[World.cell?_setCells_out g _ _ _ _ (fun _ _=>.inl (show j*3+ii < (xs.length - 1)*3 by omega)),World.cell?_setCells_out g _ _ _ _ (fun _ _=>.inl (show j*3+ii < i*3 by omega))]
  exact hc _ _ h4
 ·rw[List.getElem?_append_right (by rw[List.length_take];omega),List.length_take,List.getElem?_drop,show i+1+(j - min i xs.length)=j+1 by omega]at hj
  obtain⟨h3,h4⟩:=hat (j+1) p hj ii u hu
  rw[World.cell?_setCells_out g _ _ _ _ (fun _ _=>.inl (show j*3+ii < (xs.length - 1)*3 by omega))]
  have hin:=World.cell?_setCells_in g (inner.drop ((i+1)*3)) (i*3) w.drew (fun q hq=>hsome _ (by rw[List.length_drop]at hq;omega)) (j*3+ii - i*3) (by rw[List.length_drop];omega)
  rw[show i*3+(j*3+ii - i*3)=j*3+ii by omega]at hin
  rw[hin,← h4,List.getElem_drop,← List.getElem?_eq_getElem]
  congr 1
  omega
def Qz.f (k:Nat) (a0:Int) (l1:List (S43)):Option (List Int):=(zn.f k l1).bind fun t462=>((qh.f k a0 t462 6).bind fun t465=>(if 0 < (t465.length:Int) then (some (ju t465 0)) else (none)))
theorem Qz.mono :∀ a0 a1 k,LeO (Qz.f k a0 a1) (Qz.f (k+1) a0 a1):=by
 intro a0 a1 k
 unfold Qz.f
 repeat' first | (with_reducible first | apply qh.mono | apply zn.mono | exact LeO.refl _ | exact LeO.none _ | refine LeO.ite ?_ ?_ | refine LeO.bind ?_ (fun _=>?_)) | (first | apply qh.mono | apply zn.mono | exact LeO.none _ | refine LeO.ite ?_ ?_ | refine LeO.bind ?_ (fun _=>?_))
theorem Qz.calls (k:Nat) (a0:Int) (A1:Option Addr) (c1:Nat) (l1:List (S43)) (r:List Int) (w:World) (hr1:Kd.C k43 w A1 l1.length l1) (hc1:l1.length≤c1) (h:Qz.f k a0 l1=some r):
  Calls Try.prog 142 #[.int .i64 a0,.slice A1 l1.length c1] w fun e w'=>∃ v0_:Value,e=.returned (v0_)∧Kd.R (Kd.int .i64) 3 w' w.heap.size (fun _=>True) v0_ r∧Below w.heap.size w w':=by
 have HR1:=am hr1
 have HC1:=am hc1
 clear hr1 hc1
 have HB:=am (Below.refl w.heap.size w)
 have H:((zn.f k l1).bind fun t462=>((qh.f k a0 t462 6).bind fun t465=>(if 0 < (t465.length:Int) then (some (ju t465 0)) else (none))))=some r:=h
 clear h;replace H:=bs H;obtain⟨t462,A3,H⟩:=H;replace H:=bs H;obtain⟨t465,A4,H⟩:=H
 by_cases c5:0 < (t465.length:Int)
 ·rw[if_pos c5]at H
  have c5b0:=decide_eq_true c5
  have c5b1:decide (0 < t465.length)=true:=decide_eq_true (by omega)
  clear c5;obtain rfl:=Option.some.inj H
  go_enter Try.func142,Try.ntmps142
  go_wp2_with (first | ((with_reducible refine qt (f:=113) rfl ?_);refine gl 7 Try.func113 #[.slice A1 l1.length c1] ?_;(with_reducible refine(zn.calls k _ _ l1 t462 _ ?_ ?_ A3.out).mono ?_);exact wC HR1;exact HC1.out;rintro e w6 ⟨v463,rfl,ho0,hb⟩;refine⟨_,rfl,?_⟩;have HO464:=am (Kd.S_lower ho0 (bz HB));replace HB:=bq HB hb;(try clear hb);(try clear ho0);obtain⟨Ao7,co7,eo7⟩:=Kd.S_slice HO464.out;subst eo7) | ((with_reducible refine qt (f:=112) rfl ?_);refine gl 8 Try.func112 #[.int .i64 a0,.slice Ao7 t462.length co7,.int .i64 6] ?_;(with_reducible refine(qh.calls k a0 _ _ t462 6 t465 _ ?_ ?_ A4.out).mono ?_);exact Kd.C_below (Kd.S_reads' HO464.out).2.2 gs;exact(Kd.S_reads' HO464.out).2.1;rintro e w8 ⟨v466,rfl,ho0,hb⟩;refine⟨_,rfl,?_⟩;have HO467:=am (Kd.S_lower (Kd.S_new' ho0 (Kd.S_lt (wS HO464))) (bz HB));replace HO464:=eS HO464 (Kd.S_base ho0) hb;replace HB:=bq HB hb;(try clear hb);(try clear ho0);obtain⟨Ao9,co9,eo9⟩:=Kd.S_slice HO467.out;subst eo9;have p468:0≤(0:Int):=(by omega);have q468:0 < (t465.length:Int):=od;obtain⟨ad468,A468_0,c468_0,e468,hx468_0,hl468_0,hi468_0⟩:=qak (Kd.S_reads' HO467.out).2.2 0 p468 q468;cases e468;obtain⟨ce468,hce468,hMe468,hcc468⟩:=Kd.S_get HO467.out [] 0 p468 (by first | exact q468 | exact od | (have e_:=(Kd.S_reads' HO467.out).1;omega));obtain⟨ve468_0,rfl,ge468_0⟩:=hMe468;have hv468_0:=hcc468 0 _ rfl;rw[Nat.add_zero,show ((Kd.slice 3 (Kd.int .i64))).sz=1 from rfl,Nat.mul_one]at hv468_0;replace hv468_0:=Option.some.inj (hv468_0.symm.trans hx468_0);rw[hv468_0]at ge468_0;have HL468_0:=am (show Kd.R (Kd.int .i64) 3 _ _ _ _ (ju t465 0) from ge468_0);clear hv468_0 ge468_0;clear hcc468 hce468;have qi468:(0 < t465.length)=True:=eq_true (by omega);(try rw[show ((0:Int)).toNat=0 from rfl]at hx468_0);(try rw[Addr.add_zero']at hx468_0);have HR468_0:=am hi468_0;have HC468_0:=am hl468_0;clear hi468_0 hl468_0;replace p468:=eq_true p468;replace q468:=eq_true q468))
  go_ret
  exact⟨_,fq,Kd.R_below (Kd.R_mono HL468_0.out (fun _ hk=>trivial)) gs,bw HB⟩
 ·rw[if_neg c5]at H
  exact absurd H (by simp)
end Go.Proofs.Ytmgbpmihbljngaa.PA
