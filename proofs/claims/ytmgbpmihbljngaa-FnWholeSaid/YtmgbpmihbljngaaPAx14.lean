-- Written by xprint.py, a program of this claim's own (over the kit's print.py)
import Derived.Test.YtmgbpmihbljngaaPAx13
namespace Go.Proofs.Ytmgbpmihbljngaa.PA
set_option maxHeartbeats 8000000
set_option maxRecDepth 100000
open Go.RowKit Go.Proofs.YtmgbpmihbljngaaW.PrintWords Go.Proofs.YtmgbpmihbljngaaW.PrintLast Go.Proofs.YtmgbpmihbljngaaW.PrintMore
attribute [local go_sem] Qg Qj Qp Qo j4 j3 Qh Qf
set_option linter.unusedVariables false
set_option linter.unusedSimpArgs false
def jf.l0 :Nat→Int→List (List Int)→List Int→List Int→Int→Option (List Int)
 | 0,_,_,_,_,_=>none
 | k+1,x0,x1,x7,x8,x9=>if x9 < (x1.length:Int) then (if 0≤x9 then ((jh.f k x0 (jk x1 x9) x8).bind fun t371=>(if x7.length < 17592186044416 then (jf.l0 k x0 x1 (x7++[t371]) x8 (wrap64 (x9+1))) else (none))) else (none)) else (some x7)
def jf.f (k:Nat) (a0:Int) (l1:List (List Int)) (a2_0:Int) (a2_1:Int) (a2_2:Int):Option (List Int):=(qw.f k a0 a2_0 a2_1 a2_2).bind fun t367=>(jf.l0 k a0 l1 (([]:List Int)) t367 0)
theorem jf.mono_l :∀ k,(∀ y0 y1 y2 y3 y4,LeO (jf.l0 k y0 y1 y2 y3 y4) (jf.l0 (k+1) y0 y1 y2 y3 y4))
 | 0=>fun _ _ _ _ _ r h=>by simp[jf.l0]at h
 | k+1=>by
  have ih0:=jf.mono_l k
  ·intro y0 y1 y2 y3 y4
   unfold jf.l0
   repeat' first | (with_reducible first | apply ih0 | apply jh.mono | apply qw.mono | exact LeO.refl _ | exact LeO.none _ | refine LeO.ite ?_ ?_ | refine LeO.bind ?_ (fun _=>?_)) | (first | apply ih0 | apply jh.mono | apply qw.mono | exact LeO.none _ | refine LeO.ite ?_ ?_ | refine LeO.bind ?_ (fun _=>?_))
theorem jf.mono :∀ a0 a1 a2 a3 a4 k,LeO (jf.f k a0 a1 a2 a3 a4) (jf.f (k+1) a0 a1 a2 a3 a4):=by
 intro a0 a1 a2 a3 a4 k
 have ih0:=jf.mono_l k
 unfold jf.f
 repeat' first | (with_reducible first | apply ih0 | apply jh.mono | apply qw.mono | exact LeO.refl _ | exact LeO.none _ | refine LeO.ite ?_ ?_ | refine LeO.bind ?_ (fun _=>?_)) | (first | apply ih0 | apply jh.mono | apply qw.mono | exact LeO.none _ | refine LeO.ite ?_ ?_ | refine LeO.bind ?_ (fun _=>?_))
theorem jf.calls (k:Nat) (a0:Int) (A1:Option Addr) (c1:Nat) (l1:List (List Int)) (a2_0:Int) (a2_1:Int) (a2_2:Int) (r:List Int) (w:World) (hr1:Kd.C (Kd.slice 3 (Kd.int .i64)) w A1 l1.length l1) (hc1:l1.length≤c1) (h:jf.f k a0 l1 a2_0 a2_1 a2_2=some r):
  Calls Try.prog 77 #[.int .i64 a0,.slice A1 l1.length c1,.agg #[.int .i64 a2_0,.int .i64 a2_1,.int .i64 a2_2]] w fun e w'=>∃ v0_:Value,e=.returned (v0_)∧Kd.R (Kd.int .i64) 3 w' w.heap.size (fun _=>True) v0_ r∧Below w.heap.size w w':=by
 have hu43:=Try.underlying43
 have HR1:=am hr1
 have HC1:=am hc1
 clear hr1 hc1
 have HB:=am (Below.refl w.heap.size w)
 have H:((qw.f k a0 a2_0 a2_1 a2_2).bind fun t367=>(jf.l0 k a0 l1 (([]:List Int)) t367 0))=some r:=h
 clear h
 generalize hy364:(([]:List Int))=y364 at H
 have Ny364:=am hy364.symm;clear hy364;replace H:=bs H;obtain⟨t367,A4,H⟩:=H;have H':=am H;clear H
 go_enter Try.func77,Try.ntmps77
 go_wp2_with (first | ((with_reducible refine q7 (N:=5) rfl ?_);refine xe_ 5 43 #[.int .i64 a2_0,.int .i64 a2_1,.int .i64 a2_2] ?_;intro gb363 hg w5 hbox hb;have BK363:=am (hbox);have GW363:=am ((by rw[hg];exact(bz HB):w.heap.size≤gb363));have GE363:=am ((by rw[hg];exact(bz HB):w.heap.size≤gb363));replace HB:=bq HB hb;clear hb hbox hg) | ((with_reducible refine q7 (N:=10) rfl ?_);refine li 3 ([]:List Int) ?_;intro v365 w6 ho7 hb;(first | rw[← Ny364.out]at ho7 | (simp only[Int.reduceToNat]at ho7;rw[← Ny364.out]at ho7));have HO366:=am (Kd.R_lower ho7 (jv (bx_ HB)));replace BK363:=am (jx (g:=gb363) (o:=.cells #[.int .i64 a2_0,.int .i64 a2_1,.int .i64 a2_2] 43 (0,0)) (pk_ BK363) hb);replace HB:=am (zp (bx_ HB) hb);clear hb ho7;have hcz8_0:w6.cell? ⟨gb363,0,none⟩=some (.int .i64 a2_0):=(qf BK363.out 0).trans rfl;have hcz8_1:w6.cell? ⟨gb363,1,none⟩=some (.int .i64 a2_1):=(qf BK363.out 1).trans rfl;have hcz8_2:w6.cell? ⟨gb363,2,none⟩=some (.int .i64 a2_2):=(qf BK363.out 2).trans rfl;have hfz8_0:=qz BK363.out 0;have hfz8_1:=qz BK363.out 1;have hfz8_2:=qz BK363.out 2) | ((with_reducible refine qe (f:=123) rfl ?_);refine gl 13 Try.func123 #[.int .i64 a0,.agg #[.int .i64 a2_0,.int .i64 a2_1,.int .i64 a2_2]] ?_;(with_reducible refine(qw.calls k a0 a2_0 a2_1 a2_2 t367 _ A4.out).mono ?_);rintro e w9 ⟨v368,rfl,ho0,hb⟩;refine⟨_,rfl,?_⟩;have HO369:=am (Kd.R_lower (Kd.R_new' ho0 (Kd.R_lt (wR HO366))) (jv (bx_ HB)));replace HO366:=eR HO366 (Kd.R_base ho0) hb;replace BK363:=am (jx (g:=gb363) (o:=.cells #[.int .i64 a2_0,.int .i64 a2_1,.int .i64 a2_2] 43 (0,0)) (pk_ BK363) hb);replace HB:=am (zp (bx_ HB) hb);(try clear hb);(try clear ho0)))
 go_loopg [7,9] k (fun kq v7 v9 w'=>∃ (x7_1:List Int) (x9_1:Int),v9=.int .i64 x9_1∧qa (jf.l0 kq a0 l1 x7_1 t367 x9_1=some r)∧qa (kq≤k)∧qa (Kd.R (Kd.int .i64) 3 w' w.heap.size (fun k_=>some k_≠(v368:Value).ownBlock) v7 x7_1)∧qa (Kd.R (Kd.int .i64) 3 w' w.heap.size (fun k_=>some k_≠(v7:Value).ownBlock) v368 t367)∧qa (w'.heap[gb363]? =some (.cells #[.int .i64 a2_0,.int .i64 a2_1,.int .i64 a2_2] 43 (0,0)))∧qa (Below w.heap.size w w'))
 case atStart=>exact⟨(y364),(0),fr,H',⟨Nat.le_refl _⟩,⟨Kd.R_below (Kd.R_mono HO366.out (fun _ hk=>hk.2)) gs⟩,⟨Kd.R_below (Kd.R_mono HO369.out (fun _ hk=>hk.2)) gs⟩,⟨by (with_reducible repeat (first | refine zc ?_ _ | refine ze ?_ | refine za ?_ _));exact BK363.out⟩,⟨bx_ HB⟩⟩
 case round=>
  clear H';try clear c1;try clear p2;try clear c7;try clear hcz8_0;try clear hcz8_1;try clear hcz8_2;try clear hfz8_0;try clear hfz8_1;try clear hfz8_2
  obtain⟨x7_1,x9_1,rfl,HA,HK1,HO_7,HO_8,BK363,HB⟩:=hrel
  cases gk with
  | zero=>exact absurd HA.out (by simp[jf.l0])
  | succ k1=>
   have H:=HA.out;clear HA
   simp only[jf.l0]at H
   by_cases c10:x9_1 < (l1.length:Int)
   ·rw[if_pos c10]at H
    have c10b0:=decide_eq_true c10;clear c10;replace H:=ifn H;obtain⟨c11,H⟩:=H;have c11b0:=decide_eq_true c11;clear c11;replace H:=bs H;obtain⟨t371,A12,H⟩:=H;replace H:=ifn H;obtain⟨c13,H⟩:=H;have LMc13:=am c13
    clear c13
    generalize hy372:(x7_1++[t371]:List Int)=y372 at H
    have Ny372:=am hy372.symm;clear hy372;have H':=am H;clear H
    have p370:0≤(x9_1:Int):=od
    have q370:x9_1 < (l1.length:Int):=od
    obtain⟨ad370,A370_0,c370_0,e370,hx370_0,hl370_0,hi370_0⟩:=J5 HR1.out x9_1 p370 q370
    cases e370
    replace hx370_0:=wcl HB hx370_0
    have HR370_0:=am hi370_0
    have HC370_0:=am hl370_0
    clear hi370_0 hl370_0;replace p370:=eq_true p370;replace q370:=eq_true q370
    obtain⟨Ao14,co14,eo14⟩:=Kd.R_slice HO_8.out
    subst eo14
    go_wp2_with (first | ((with_reducible refine qe (f:=124) rfl ?_);refine gl 27 Try.func124 #[.int .i64 a0,.slice A370_0 (jk l1 x9_1).length c370_0,.slice Ao14 t367.length co14] ?_;(with_reducible refine(jh.calls k1 a0 _ _ (jk l1 x9_1) _ _ t367 t371 _ ?_ ?_ ?_ ?_ A12.out).mono ?_);exact Kd.C_below (Kd.C_below HR370_0.out HB.out) gs;exact HC370_0.out;exact Kd.C_below (Kd.R_reads' HO_8.out).2.2 gs;exact(Kd.R_reads' HO_8.out).2.1;rintro e w' ⟨rfl,⟨nd,rfl⟩⟩;refine⟨_,rfl,?_⟩) | ((with_reducible refine ji (b:=.append) (xs:=#[.tmp 20,.tmp 28]) rfl ?_);at_builtin;refine Kd.R_append (Kd.int .i64) (w0:=w) w.heap.size rfl (.tmp 20) (.tmp 28) 23 3 (.int .i64 0) 8 rfl Try.underlying23 Q1 rfl (by decide) (by omega) u7 x7_1 t371 [.int .i64 t371] (fun k_=>some k_≠(.slice Ao14 t367.length co14:Value).ownBlock) (fun _=>False) rfl rfl ?aP (fun _ hk=>hk.elim) ?aF ?aO ?aB ?aS ?aL ?_;(case aP=>exact rfl);(case aB=>exact(bx_ HB));(case aF=>exact(fun k_ hk=>Kd.fresh' (Kd.R_lt (wR HO_8)) k_ hk));(case aO=>exact(wR HO_7));(case aS=>exact(jv (bx_ HB)));(case aL=>have:=LMc13.out;omega);intro v373 w15 ho hb hg hat;rw[← Ny372.out]at ho;replace HO_8:=am (Kd.R_after (ok:=(fun _=>True)) (oR_ HO_8 (fun _ hk=>⟨trivial,hk⟩)) hg hat);replace BK363:=am (Zg (g:=gb363) (o:=.cells #[.int .i64 a2_0,.int .i64 a2_1,.int .i64 a2_2] 43 (0,0)) (pk_ BK363) hg (Kd.R_ne HO_7.out BK363.out (by decide)));replace HB:=am (hb);have HO374:=am (ho);clear HO_7;clear ho hb hg hat))
    go_roundg k1
    case measure=>have:=HK1.out;omega
    case rel=>exact⟨(y372),(wrap64 (x9_1+1)),fr,H',⟨by have:=HK1.out;omega⟩,⟨wR HO374⟩,⟨Kd.R_below (Kd.R_mono HO_8.out (fun _ hk=>hk.2)) gs⟩,⟨by (with_reducible repeat (first | refine zc ?_ _ | refine ze ?_ | refine za ?_ _));exact BK363.out⟩,⟨bx_ HB⟩⟩
   ·rw[if_neg c10]at H
    have c10b0:=decide_eq_false c10;clear c10;obtain rfl:=Option.some.inj H;go_wp2;go_ret
    exact⟨_,fq,Kd.R_below (Kd.R_mono HO_7.out (fun _ hk=>trivial)) gs,bx_ HB⟩
def jc.l0 :Nat→Int→List (List Int)→List (S43)→List (List Int)→Int→Option ((List (List Int)))
 | 0,_,_,_,_,_=>none
 | k+1,x0,x2,x3,x9,x10=>if x10 < (x3.length:Int) then (if 0≤x10 then ((jf.f k x0 x2 ((q4 x3 x10).f0.f0) ((q4 x3 x10).f0.f1) ((q4 x3 x10).f0.f2)).bind fun t379=>((zb.f k t379).bind fun t382=>(if t382=true then (jc.l0 k x0 x2 x3 x9 (wrap64 (x10+1))) else (if x9.length < 5864062014805 then (jc.l0 k x0 x2 x3 (x9++[t379]) (wrap64 (x10+1))) else (none))))) else (none)) else (some x9)
def jc.f (k:Nat) (a0:Int) (l1:List (S43)) (l2:List (List Int)) (l3:List (S43)):Option ((List (List Int))):=jc.l0 k a0 l2 l3 (([]:List (List Int))) 0
theorem jc.mono_l :∀ k,(∀ y0 y1 y2 y3 y4,LeO (jc.l0 k y0 y1 y2 y3 y4) (jc.l0 (k+1) y0 y1 y2 y3 y4))
 | 0=>fun _ _ _ _ _ r h=>by simp[jc.l0]at h
 | k+1=>by
  have ih0:=jc.mono_l k
  ·intro y0 y1 y2 y3 y4
   unfold jc.l0
   repeat' first | (with_reducible first | apply ih0 | apply zb.mono | apply jf.mono | exact LeO.refl _ | exact LeO.none _ | refine LeO.ite ?_ ?_ | refine LeO.bind ?_ (fun _=>?_)) | (first | apply ih0 | apply zb.mono | apply jf.mono | exact LeO.none _ | refine LeO.ite ?_ ?_ | refine LeO.bind ?_ (fun _=>?_))
theorem jc.mono :∀ a0 a1 a2 a3 k,LeO (jc.f k a0 a1 a2 a3) (jc.f (k+1) a0 a1 a2 a3):=by
 intro a0 a1 a2 a3 k
 have ih0:=jc.mono_l k
 unfold jc.f
 repeat' first | (with_reducible first | apply ih0 | apply zb.mono | apply jf.mono | exact LeO.refl _ | exact LeO.none _ | refine LeO.ite ?_ ?_ | refine LeO.bind ?_ (fun _=>?_)) | (first | apply ih0 | apply zb.mono | apply jf.mono | exact LeO.none _ | refine LeO.ite ?_ ?_ | refine LeO.bind ?_ (fun _=>?_))
theorem jc.calls (k:Nat) (a0:Int) (A1:Option Addr) (c1:Nat) (l1:List (S43)) (A2:Option Addr) (c2:Nat) (l2:List (List Int)) (A3:Option Addr) (c3:Nat) (l3:List (S43)) (r:List (List Int)) (w:World) (hr1:Kd.C k43 w A1 l1.length l1) (hc1:l1.length≤c1) (hr2:Kd.C (Kd.slice 3 (Kd.int .i64)) w A2 l2.length l2) (hc2:l2.length≤c2) (hr3:Kd.C k43 w A3 l3.length l3) (hc3:l3.length≤c3) (h:jc.f k a0 l1 l2 l3=some r):
  Calls Try.prog 132 #[.int .i64 a0,.slice A1 l1.length c1,.slice A2 l2.length c2,.slice A3 l3.length c3] w fun e w'=>∃ v0_:Value,e=.returned (v0_)∧Kd.S (Kd.slice 3 (Kd.int .i64)) 23 w' w.heap.size (fun _=>True) v0_ r∧Below w.heap.size w w':=by
 have hu43:=Try.underlying43
 have HR1:=am hr1
 have HC1:=am hc1
 clear hr1 hc1
 have HR2:=am hr2
 have HC2:=am hc2
 clear hr2 hc2
 have HR3:=am hr3
 have HC3:=am hc3
 clear hr3 hc3
 have HB:=am (Below.refl w.heap.size w)
 have H:(jc.l0 k a0 l2 l3 (([]:List (List Int))) 0)=some r:=h
 clear h
 generalize hy375:(([]:List (List Int)))=y375 at H
 have Ny375:=am hy375.symm;clear hy375;have H':=am H;clear H
 go_enter Try.func132,Try.ntmps132
 go_wp2_with (first | ((with_reducible refine q7 (N:=12) rfl ?_);refine Kd.S_lit (Kd.slice 3 (Kd.int .i64)) _ 23 ?hg (N:=12) ?hd (xs:=([]:List (List Int))) (inner:=[]) (ok:=fun _=>True) (okp:=fun _=>True) ?hr ?hp (fun _ hk=>hk) trivial (Below.refl _ _) (Nat.le_refl _) (by simp) ?_;(case hd=>rfl);(case hg=>rfl);(case hr=>first | (go_simp;done) | (go_simp;rfl));(case hp=>exact(Reps.none _ _));intro v376 w5 ho6 hb hg_ hnew_;clear hg_ hnew_;(first | rw[← Ny375.out]at ho6 | (simp only[Int.reduceToNat]at ho6;rw[← Ny375.out]at ho6));have HO377:=am (Kd.S_lower ho6 (bz HB));replace HB:=bq HB hb;clear hb ho6))
 go_loopg [9,10] k (fun kq v9 v10 w'=>∃ (x9_1:List (List Int)) (x10_1:Int),v10=.int .i64 x10_1∧qa (jc.l0 kq a0 l2 l3 x9_1 x10_1=some r)∧qa (kq≤k)∧qa (Kd.S (Kd.slice 3 (Kd.int .i64)) 23 w' w.heap.size (fun _=>True) v9 x9_1)∧qa (Below w.heap.size w w'))
 case atStart=>exact⟨(y375),(0),fr,H',⟨Nat.le_refl _⟩,⟨wS HO377⟩,⟨bw HB⟩⟩
 case round=>
  clear H';try clear c1;try clear c2;try clear p2;try clear c3
  obtain⟨x9_1,x10_1,rfl,HA,HK1,HO_9,HB⟩:=hrel
  cases gk with
  | zero=>exact absurd HA.out (by simp[jc.l0])
  | succ k1=>
   have H:=HA.out;clear HA
   simp only[jc.l0]at H
   by_cases c7:x10_1 < (l3.length:Int)
   ·rw[if_pos c7]at H
    have c7b0:=decide_eq_true c7;clear c7;replace H:=ifn H;obtain⟨c8,H⟩:=H;have c8b0:=decide_eq_true c8;clear c8;replace H:=bs H;obtain⟨t379,A9,H⟩:=H;replace H:=bs H;obtain⟨t382,A10,H⟩:=H
    by_cases c11:t382=true
    ·subst c11
     rw[if_pos rfl]at H
     have H':=am H;clear H
     have p378:0≤(x10_1:Int):=od
     have q378:x10_1 < (l3.length:Int):=od
     obtain⟨ad378,e378,hx378_0,hx378_1,hx378_2⟩:=Zw HR3.out x10_1 p378 q378
     cases e378
     replace hx378_0:=wcl HB hx378_0
     replace hx378_1:=wcl HB hx378_1
     replace hx378_2:=wcl HB hx378_2
     replace p378:=eq_true p378;replace q378:=eq_true q378
     go_wp2_with (first | ((with_reducible refine qe (f:=77) rfl ?_);refine gl 25 Try.func77 #[.int .i64 a0,.slice A2 l2.length c2,.agg #[.int .i64 ((q4 l3 x10_1).f0.f0),.int .i64 ((q4 l3 x10_1).f0.f1),.int .i64 ((q4 l3 x10_1).f0.f2)]] ?_;(with_reducible refine(jf.calls k1 a0 _ _ l2 ((q4 l3 x10_1).f0.f0) ((q4 l3 x10_1).f0.f1) ((q4 l3 x10_1).f0.f2) t379 _ ?_ ?_ A9.out).mono ?_);exact Kd.C_below HR2.out (bw HB);exact HC2.out;rintro e w12 ⟨v380,rfl,ho0,hb⟩;refine⟨_,rfl,?_⟩;replace HO_9:=eS HO_9 (Kd.R_base ho0) hb;have HO381:=am (Kd.R_lower ho0 (bz HB));replace HB:=bq HB hb;(try clear hb);(try clear ho0);obtain⟨Ao13,co13,eo13⟩:=Kd.R_slice HO381.out;subst eo13) | ((with_reducible refine qe (f:=79) rfl ?_);refine gl 27 Try.func79 #[.slice Ao13 t379.length co13] ?_;(with_reducible refine(zb.calls k1 _ _ t379 true _ ?_ ?_ A10.out).mono ?_);exact Kd.C_below (Kd.R_reads' HO381.out).2.2 gs;exact(Kd.R_reads' HO381.out).2.1;rintro e w' ⟨rfl,⟨nd,rfl⟩⟩;refine⟨_,rfl,?_⟩))
     go_roundg k1
     case measure=>have:=HK1.out;omega
     case rel=>exact⟨(x9_1),(wrap64 (x10_1+1)),fr,H',⟨by have:=HK1.out;omega⟩,⟨Kd.S_below (Kd.S_mono HO_9.out (fun _ hk=>trivial)) gs⟩,⟨bw HB⟩⟩
    ·replace c11:=Bool.eq_false_iff.mpr c11
     subst c11
     rw[if_neg (show ¬ (false=true) by decide)]at H
     replace H:=ifn H;obtain⟨c14,H⟩:=H;have LMc14:=am c14;clear c14
     generalize hy383:(x9_1++[t379]:List (List Int))=y383 at H
     have Ny383:=am hy383.symm;clear hy383;have H':=am H;clear H
     have p378:0≤(x10_1:Int):=od
     have q378:x10_1 < (l3.length:Int):=od
     obtain⟨ad378,e378,hx378_0,hx378_1,hx378_2⟩:=Zw HR3.out x10_1 p378 q378
     cases e378
     replace hx378_0:=wcl HB hx378_0
     replace hx378_1:=wcl HB hx378_1
     replace hx378_2:=wcl HB hx378_2
     replace p378:=eq_true p378;replace q378:=eq_true q378
     go_wp2_with (first | ((with_reducible refine qe (f:=77) rfl ?_);refine gl 25 Try.func77 #[.int .i64 a0,.slice A2 l2.length c2,.agg #[.int .i64 ((q4 l3 x10_1).f0.f0),.int .i64 ((q4 l3 x10_1).f0.f1),.int .i64 ((q4 l3 x10_1).f0.f2)]] ?_;(with_reducible refine(jf.calls k1 a0 _ _ l2 ((q4 l3 x10_1).f0.f0) ((q4 l3 x10_1).f0.f1) ((q4 l3 x10_1).f0.f2) t379 _ ?_ ?_ A9.out).mono ?_);exact Kd.C_below HR2.out (bw HB);exact HC2.out;rintro e w15 ⟨v380,rfl,ho0,hb⟩;refine⟨_,rfl,?_⟩;replace HO_9:=eS HO_9 (Kd.R_base ho0) hb;have HO381:=am (Kd.R_lower ho0 (bz HB));replace HB:=bq HB hb;(try clear hb);(try clear ho0);obtain⟨Ao16,co16,eo16⟩:=Kd.R_slice HO381.out;subst eo16) | ((with_reducible refine qe (f:=79) rfl ?_);refine gl 27 Try.func79 #[.slice Ao16 t379.length co16] ?_;(with_reducible refine(zb.calls k1 _ _ t379 false _ ?_ ?_ A10.out).mono ?_);exact Kd.C_below (Kd.R_reads' HO381.out).2.2 gs;exact(Kd.R_reads' HO381.out).2.1;rintro e w' ⟨rfl,⟨nd,rfl⟩⟩;refine⟨_,rfl,?_⟩) | ((with_reducible refine ji (b:=.append) (xs:=#[.tmp 29,.tmp 31]) rfl ?_);at_builtin;refine Kd.S_append (Kd.slice 3 (Kd.int .i64)) (w0:=w) w.heap.size rfl (.tmp 29) (.tmp 31) 47 23 (.slice none 0 0) 24 rfl Try.underlying47 Jj rfl (by decide) (by omega) u9 x9_1 t379 [.slice Ao16 t379.length co16] (fun _=>True) (fun k_=>some k_=(.slice Ao16 t379.length co16:Value).ownBlock) rfl rfl ?aP (fun k_ hk_=>((Kd.R_mono (ok':=fun k_=>((fun _=>True)) k_∧some k_≠(u9:Value).ownBlock) (Kd.R_apart' (HO381.out) (Kd.S_typed HO_9.out) (by decide)) (fun k_ hk=>⟨trivial,hk.2⟩))).1 k_ hk_.symm) ?aF ?aO ?aB ?aS ?aL ?_;(case aP=>exact Kd.M_row (Kd.R_mono (Kd.R_tight rfl (Kd.R_mono (ok':=fun k_=>((fun _=>True)) k_∧some k_≠(u9:Value).ownBlock) (Kd.R_apart' (HO381.out) (Kd.S_typed HO_9.out) (by decide)) (fun k_ hk=>⟨trivial,hk.2⟩))) (fun _ h_=>h_)));(case aB=>exact(bw HB));(case aF=>exact(fun _ _=>trivial));(case aO=>exact(oS_ HO_9 (fun k_ hk=>⟨trivial,fun e_=>hk.2 e_⟩)));(case aS=>exact(bz HB));(case aL=>have:=LMc14.out;omega);intro v384 w17 ho hb hg hat;rw[← Ny383.out]at ho;replace HB:=am (hb);have HO385:=am (ho);clear HO_9 HO381;clear ho hb hg hat))
     go_roundg k1
     case measure=>have:=HK1.out;omega
     case rel=>exact⟨(y383),(wrap64 (x10_1+1)),fr,H',⟨by have:=HK1.out;omega⟩,⟨wS HO385⟩,⟨bw HB⟩⟩
   ·rw[if_neg c7]at H
    have c7b0:=decide_eq_false c7;clear c7;obtain rfl:=Option.some.inj H;go_wp2;go_ret
    exact⟨_,fq,wS HO_9,bw HB⟩
theorem qeb (w:World) (e:Nat) (base:Nat) (hb:base≤w.heap.size):(w.alloc (.cells #[] e)).ownsRow base e 1 (.slice (some ⟨w.heap.size,0,none⟩) 0 0) 0 []:=
 ⟨rfl,.inr ⟨w.heap.size,0,#[],rfl,hb,(by show (w.heap.push _)[w.heap.size]? =_;simp),Nat.le_refl _,Nat.zero_le _,rfl,rfl⟩⟩
theorem qcy {w:World} {A:Option Addr} {n:Nat} {rows:List (List Int)} (h:Kd.C (Kd.slice 3 (Kd.int .i64)) w A n rows) (j:Nat) (hj:j < rows.length):∃ ad B c,A=some ad∧w.cell? (ad.add j)=some (.slice B (rows[j]).length c)∧(rows[j]).length≤c∧Kd.C (Kd.int .i64) w B (rows[j]).length rows[j]:=by
 obtain⟨hl,hm,hr⟩:=h
 obtain⟨ad,rfl,hc⟩:=hr (by omega)
 obtain⟨cs,_,⟨B,c,rfl,h1,h2⟩,hcell⟩:=hc j _ (List.getElem?_eq_getElem hj)
 refine⟨ad,B,c,rfl,?_,h1,h2⟩
 have:=hcell 0 (.slice B (rows[j]).length c) rfl
 simpa [Kd.slice] using this
theorem qak {w1 w2:World} {g o:Nat} {v:Value} (hlt:g < w1.heap.size) (hb:Below w1.heap.size w1 w2) (hx:w1.cell? ⟨g,o,none⟩=some v):w2.cell? ⟨g,o,none⟩=some v:=
 (World.cell?_of_block (a:=⟨g,o,none⟩) (hb.block g hlt)).trans hx
def Qa.f (k:Nat) (a0:Int) (l1:List (List Int)):Option (List Int×Bool):=(qd.f k a0 l1 4).bind fun t=>
 if t.1.length=2 then (if (t.1.getD 0 []).length < 1000000∧(t.1.getD 1 []).length < 1000000 then some (t.1.getD 0 []++t.1.getD 1 [],true) else none) else some ([],false)
theorem Qa.mono :∀ a0 a1 k,LeO (Qa.f k a0 a1) (Qa.f (k+1) a0 a1):=by
 intro a0 a1 k
 unfold Qa.f
 exact LeO.bind (qd.mono _ _ _ _) fun _=>LeO.refl _
theorem Qa.calls (k:Nat) (a0:Int) (A1:Option Addr) (c1:Nat) (l1:List (List Int)) (r1:List Int) (r2:Bool) (w:World) (hr1:Kd.C (Kd.slice 3 (Kd.int .i64)) w A1 l1.length l1) (hc1:l1.length≤c1) (h:Qa.f k a0 l1=some (r1,r2)):
  Calls Try.prog 134 #[.int .i64 a0,.slice A1 l1.length c1] w fun e w'=>∃ v0_:Value,e=.returned (.tuple #[v0_,.bool r2])∧Kd.R (Kd.int .i64) 3 w' w.heap.size (fun _=>True) v0_ r1∧Below w.heap.size w w':=by
 obtain⟨⟨L,hs⟩,hred,h'⟩:=Option.bind_eq_some_iff.1 h
 clear h
 have HRED:=Lib.hid hred
 have H:=Lib.hid h'
 have HV:Hid (Kd.V (Kd.slice 3 (Kd.int .i64)) 23 w w.heap.size (fun k_=>k_ < w.heap.size) (.slice A1 l1.length c1) l1):=Lib.hid (Kd.V_mk hc1 (Kd.C_F (Kd.heap_slice 3 (Kd.heap_int .i64)) hr1))
 clear h' hred hr1 hc1
 go_enter Try.func134,Try.ntmps134
 go_wp2_with fail
 refine(qd.calls k a0 (fun k_=>k_ < w.heap.size) A1 c1 l1 4 L hs w HV.out HRED.out).mono ?_
 rintro e w1 ⟨v0,v1,rfl,ho0,_,hb⟩
 have HB:=Lib.hid hb
 by_cases h2:L.length=2
 ·obtain⟨x,y,rfl⟩:∃ x y,L=[x,y]:=by
   match L,h2 with
   | [x,y],_=>exact⟨x,y,rfl⟩
  obtain⟨g,c0,rfl,_,hgl,_⟩:=Kd.N_form ho0 (by simp)
  have HGL:=Lib.hid hgl
  clear hgl
  obtain⟨ad,B0,k0,e0,hx0,hb0,hC0⟩:=qcy (Kd.F_now (Kd.N_F ho0)) 0 (by simp)
  obtain⟨_,B1,k1,e1,hx1,hb1,hC1⟩:=qcy (Kd.F_now (Kd.N_F ho0)) 1 (by simp)
  injection e0 with e0
  subst e0
  injection e1 with e1
  subst e1
  rw[Zv]at hx0 hx1
  simp only[List.getElem_cons_zero,List.getElem_cons_succ]at hx0 hb0 hC0 hx1 hb1 hC1
  clear ho0 hb HV
  have HC0:=Lib.hid hC0
  have HC1:=Lib.hid hC1
  have HBN:Hid (x.length < 1000000∧y.length < 1000000∧r1=x++y∧r2=true):=Lib.hid (by
   have h:=H.out
   simp only[List.length_cons,List.length_nil,if_true,List.getD_cons_zero,List.getD_cons_succ]at h
   split at h
   ·next hh=>simp at h;exact⟨hh.1,hh.2,h.1.symm,h.2⟩
   ·simp at h)
  clear H hC0 hC1 hb0 hb1 h2
  go_wp2_with fail
  go_region_held3 (fun w'=>w'.cell? ⟨g,0,none⟩=some (.slice B0 x.length k0)∧w'.cell? ⟨g,1,none⟩=some (.slice B1 y.length k1)) (first | exact⟨qak HGL.out hb2 hx0,qak HGL.out hb2 hx1⟩ | exact⟨qak HGL.out hb1 hx0,qak HGL.out hb1 hx1⟩ | go_keep)
   (first
    | ((refine Kd.R_append_rows_step (Kd.int .i64) (Rr:=fun x c=>c=[Value.int .i64 x]) (w0:=w1) w1.heap.size (by rfl) (.tmp 18) (.tmp 21) 23 3 (.int .i64 0) 8 (by rfl) Try.underlying23 Q1 rfl (by decide) (by decide) (.slice (some ⟨w1.heap.size,0,none⟩) 0 0) [] x B0 x.length k0 (fun _=>True) (fun _=>False) (by rfl) (by rfl) ⟨fun _ _=>trivial,[],qeb _ 3 _ (Nat.le_refl _),Reps.none _ _⟩ (Kd.C_alloc (Kd.C_drew HC0.out) _) (fun _ _ h=>h) (fun _ h=>h.elim) (fun _ _=>trivial) (((Below.refl _ _).drew).alloc (Nat.le_refl _) _) (by simp) (by have:=HBN.out.1;simp;omega) ?_;intro v2 w2 hown1 hb1 hg1 hat1))
    | ((refine Kd.R_append_rows_step (Kd.int .i64) (Rr:=fun x c=>c=[Value.int .i64 x]) (w0:=w1) w1.heap.size (by rfl) (.tmp 22) (.tmp 25) 23 3 (.int .i64 0) 8 (by rfl) Try.underlying23 Q1 rfl (by decide) (by decide) v2 ([]++x) y B1 y.length k1 (fun _=>True) (fun _=>False) (by rfl) (by rfl) hown1 (Kd.C_below HC1.out hb1) (fun _ _ h=>h) (fun _ h=>h.elim) (fun _ _=>trivial) hb1 hb1.size (by have:=HBN.out.1;have:=HBN.out.2.1;simp;omega) ?_;intro v3 w3 hown2 hb2 hg2 hat2)))
  obtain⟨_,_,rfl,rfl⟩:=HBN.out
  go_wp2
  go_ret2
  exact⟨v3,rfl,Kd.R_lower hown2 HB.out.size,HB.out.trans (hb2.mono HB.out.size)⟩
 ·obtain⟨A0,c0,rfl⟩:=Kd.N_slice ho0
  have HR:Hid (r1=[]∧r2=false):=Lib.hid (by
   have h:=H.out
   rw[if_neg h2]at h
   simp at h
   exact h)
  have h3:((L.length:Int) == 2)=false:=beq_eq_false_iff_ne.mpr (by omega)
  have h4:((L.length:Int) !=2)=true:=bne_iff_ne.mpr (by omega)
  clear ho0 hb HV H h2
  obtain⟨rfl,rfl⟩:=HR.out
  go_wp2
  go_ret2
  exact⟨_,rfl,Kd.R_lower ⟨fun _ _=>trivial,[],qeb w1 3 _ (Nat.le_refl _),Reps.none _ _⟩ HB.out.size,HB.out.trans ((Below.refl _ _).alloc HB.out.size _)⟩
end Go.Proofs.Ytmgbpmihbljngaa.PA
