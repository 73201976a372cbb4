-- Written by xprint.py, a program of this claim's own (over the kit's print.py)
import Derived.Test.YtmgbpmihbljngaaPAx0
namespace Go.Proofs.Ytmgbpmihbljngaa.PA
set_option maxHeartbeats 8000000
set_option maxRecDepth 100000
open Go.RowKit Go.Proofs.YtmgbpmihbljngaaW.PrintWords Go.Proofs.YtmgbpmihbljngaaW.PrintLast Go.Proofs.YtmgbpmihbljngaaW.PrintMore
attribute [local go_sem] Qs Qr Qx Qw Qf Qe Qq Qp
set_option linter.unusedVariables false
set_option linter.unusedSimpArgs false
def Zg.f (l0:List (S76)) (a1:Int):Option (Int):=if (wrap64 (a1 - (l0.length:Int))) < 0 then (some (-1)) else (some (wrap64 (a1 - (l0.length:Int))))
theorem Zg.calls (A0:Option Addr) (c0:Nat) (l0:List (S76)) (a1:Int) (r:Int) (w:World) (hr0:Kd.C k76 w A0 l0.length l0) (hc0:l0.length≤c0) (h:Zg.f l0 a1=some r):
  Calls Try.prog 19 #[.slice A0 l0.length c0,.int .i64 a1] w fun e w'=>e=.returned (.int .i64 r)∧Drawn0 w w':=by
 have HR0:=am hr0
 have HC0:=am hc0
 clear hr0 hc0
 have H:(if (wrap64 (a1 - (l0.length:Int))) < 0 then (some (-1)) else (some (wrap64 (a1 - (l0.length:Int)))))=some r:=h
 clear h
 by_cases c3:(wrap64 (a1 - (l0.length:Int))) < 0
 ·rw[if_pos c3]at H
  have c3b0:=decide_eq_true c3;clear c3;obtain rfl:=Option.some.inj H
  go_enter Try.func19,Try.ntmps19
  go_wp2;go_ret
  exact⟨fr,df⟩
 ·rw[if_neg c3]at H
  have c3b0:=decide_eq_false c3;clear c3;obtain rfl:=Option.some.inj H
  go_enter Try.func19,Try.ntmps19
  go_wp2;go_ret
  exact⟨fr,df⟩
theorem ta_mid (w:World) (A B C:Obj):(((w.alloc A).alloc B).alloc C).heap[w.heap.size+1]? =some B:=by
 show (((w.heap.push A).push B).push C)[w.heap.size+1]? =some B
 rw[Array.getElem?_push,if_neg (by simp),Array.getElem?_push,if_pos (by simp)]
def Jo.f (a0_0 a0_1 a0_2:Int):Option (Int×Int×Int):=some (a0_0,a0_1,a0_2)
theorem Jo.calls (a0_0 a0_1 a0_2:Int) (r1 r2 r3:Int) (w:World) (h:Jo.f a0_0 a0_1 a0_2=some (r1,r2,r3)):
  Calls Try.prog 110 #[.agg #[.int .i64 a0_0,.int .i64 a0_1,.int .i64 a0_2]] w fun e w'=>e=.returned (.agg #[.int .i64 r1,.int .i64 r2,.int .i64 r3])∧Below w.heap.size w w':=by
 have hu41:=Try.underlying41
 have HB:=am (Below.refl w.heap.size w)
 have e:=Option.some.inj h
 simp only[Prod.mk.injEq]at e
 obtain⟨rfl,rfl,rfl⟩:=e
 clear h
 go_enter Try.func110,Try.ntmps110
 go_wp2_with fail
 refine wp_loop_rounds 4 ?_
 rw[rounds_succ]
 go_wp2_with fail
 rw[rounds_succ]
 go_wp2_with fail
 rw[rounds_succ]
 go_wp2_with fail
 rw[rounds_succ]
 go_wp2_with fail
 (try simp only[Exit.inBlock,Exit.then])
 refine bodyPost_ret (results_cell_row (P:=Try.prog) rfl _ _ (w.heap.size+1) 41 #[.int .i64 a0_0,.int .i64 a0_1,.int .i64 a0_2] (0,0) (.array 3 3) rfl (ta_mid w _ _ _) hu41 rfl (by kernel_rfl)) rfl ?_
 exact⟨rfl,bw HB⟩
def Ju.f (a0_0:Int) (a0_1:Int) (a0_2:Int):Option (Int×Int×Int):=(Jo.f a0_0 a0_1 a0_2).bind fun bt104=>(some (bt104.1,bt104.2.1,bt104.2.2))
theorem Ju.calls (a0_0:Int) (a0_1:Int) (a0_2:Int) (r1:Int) (r2:Int) (r3:Int) (w:World) (h:Ju.f a0_0 a0_1 a0_2=some (r1,r2,r3)):
  Calls Try.prog 64 #[.agg #[.int .i64 a0_0,.int .i64 a0_1,.int .i64 a0_2]] w fun e w'=>e=.returned (.agg #[.int .i64 r1,.int .i64 r2,.int .i64 r3])∧Below w.heap.size w w':=by
 have hu76:=Try.underlying76
 have hu43:=Try.underlying43
 have hu41:=Try.underlying41
 have HB:=am (Below.refl w.heap.size w)
 have H:((Jo.f a0_0 a0_1 a0_2).bind fun bt104=>(some (bt104.1,bt104.2.1,bt104.2.2)))=some (r1,r2,r3):=h
 clear h;replace H:=bs H
 obtain⟨⟨t104,t105,t106⟩,A2,H⟩:=H
 dsimp only at H
 simp only[Option.some.injEq,Prod.mk.injEq]at H
 obtain⟨rfl,rfl,rfl⟩:=H
 go_enter Try.func64,Try.ntmps64
 go_wp2_with (first | ((with_reducible refine zb (N:=1) rfl ?_);refine xe_ 1 76 #[.int .i64 a0_0,.int .i64 a0_1,.int .i64 a0_2] ?_;intro gb101 hg w3 hbox hb;have BK101:=am (hbox);have GW101:=am ((by rw[hg];exact(bz HB):w.heap.size≤gb101));have GE101:=am ((by rw[hg];exact(bz HB):w.heap.size≤gb101));replace HB:=bq HB hb;clear hb hbox hg) | ((with_reducible refine zb (N:=2) rfl ?_);refine xe_ 2 43 #[.int .i64 0,.int .i64 0,.int .i64 0] ?_;intro gb102 hg w4 hbox hb;have BK102:=am (hbox);have GW102:=am ((by rw[hg];exact(zo (bx_ HB)):w.heap.size≤gb102));have GE102:=am ((by rw[hg];exact(zo (bx_ HB)):w.heap.size≤gb102));replace HB:=am (jg (bx_ HB) hb);have NB101_102:=am ((by rw[hg];exact Nat.ne_of_lt (jy (g:=gb101) (o:=.cells #[.int .i64 a0_0,.int .i64 a0_1,.int .i64 a0_2] 76 (0,0)) (pk_ BK101)):gb101≠gb102));have NB102_101:=am ((by rw[hg];exact Nat.ne_of_gt (jy (g:=gb101) (o:=.cells #[.int .i64 a0_0,.int .i64 a0_1,.int .i64 a0_2] 76 (0,0)) (pk_ BK101)):gb102≠gb101));replace BK101:=am (qv (g:=gb101) (o:=.cells #[.int .i64 a0_0,.int .i64 a0_1,.int .i64 a0_2] 76 (0,0)) (pk_ BK101) hb);clear hb hbox hg) | ((with_reducible refine zb (N:=3) rfl ?_);refine xe_ 3 43 #[.int .i64 0,.int .i64 0,.int .i64 0] ?_;intro gb103 hg w5 hbox hb;have BK103:=am (hbox);have GW103:=am ((by rw[hg];exact(zo (bx_ HB)):w.heap.size≤gb103));have GE103:=am ((by rw[hg];exact(zo (bx_ HB)):w.heap.size≤gb103));replace HB:=am (jg (bx_ HB) hb);have NB101_103:=am ((by rw[hg];exact Nat.ne_of_lt (jy (g:=gb101) (o:=.cells #[.int .i64 a0_0,.int .i64 a0_1,.int .i64 a0_2] 76 (0,0)) (pk_ BK101)):gb101≠gb103));have NB103_101:=am ((by rw[hg];exact Nat.ne_of_gt (jy (g:=gb101) (o:=.cells #[.int .i64 a0_0,.int .i64 a0_1,.int .i64 a0_2] 76 (0,0)) (pk_ BK101)):gb103≠gb101));replace BK101:=am (qv (g:=gb101) (o:=.cells #[.int .i64 a0_0,.int .i64 a0_1,.int .i64 a0_2] 76 (0,0)) (pk_ BK101) hb);have NB102_103:=am ((by rw[hg];exact Nat.ne_of_lt (jy (g:=gb102) (o:=.cells #[.int .i64 0,.int .i64 0,.int .i64 0] 43 (0,0)) (pk_ BK102)):gb102≠gb103));have NB103_102:=am ((by rw[hg];exact Nat.ne_of_gt (jy (g:=gb102) (o:=.cells #[.int .i64 0,.int .i64 0,.int .i64 0] 43 (0,0)) (pk_ BK102)):gb103≠gb102));replace BK102:=am (qv (g:=gb102) (o:=.cells #[.int .i64 0,.int .i64 0,.int .i64 0] 43 (0,0)) (pk_ BK102) hb);clear hb hbox hg;have hnb6:=NB101_102.out;have hnc6:=NB102_101.out;have hnb7:=NB101_103.out;have hnc7:=NB103_101.out;have hcz8_0:w5.cell? ⟨gb101,0,none⟩=some (.int .i64 a0_0):=(qe BK101.out 0).trans rfl;have hcz8_1:w5.cell? ⟨gb101,1,none⟩=some (.int .i64 a0_1):=(qe BK101.out 1).trans rfl;have hcz8_2:w5.cell? ⟨gb101,2,none⟩=some (.int .i64 a0_2):=(qe BK101.out 2).trans rfl;have hfz8_0:=ql BK101.out 0;have hfz8_1:=ql BK101.out 1;have hfz8_2:=ql BK101.out 2) | ((with_reducible refine qt (f:=110) rfl ?_);refine gl 6 Try.func110 #[.agg #[.int .i64 a0_0,.int .i64 a0_1,.int .i64 a0_2]] ?_;(with_reducible refine(Jo.calls a0_0 a0_1 a0_2 t104 t105 t106 _ A2.out).mono ?_);rintro e w9 ⟨rfl,hb⟩;refine⟨_,rfl,?_⟩;replace BK101:=am (qv (g:=gb101) (o:=.cells #[.int .i64 a0_0,.int .i64 a0_1,.int .i64 a0_2] 76 (0,0)) (pk_ BK101) hb);replace BK102:=am (qv (g:=gb102) (o:=.cells #[.int .i64 0,.int .i64 0,.int .i64 0] 43 (0,0)) (pk_ BK102) hb);replace BK103:=am (qv (g:=gb103) (o:=.cells #[.int .i64 0,.int .i64 0,.int .i64 0] 43 (0,0)) (pk_ BK103) hb);replace HB:=am (jg (bx_ HB) hb);(try clear hb);have hnb10:=NB103_102.out;have hnc10:=NB102_103.out;have hcz11_0:w9.cell? ⟨gb103,0,none⟩=some (.int .i64 0):=(qe BK103.out 0).trans rfl;have hcz11_1:w9.cell? ⟨gb103,1,none⟩=some (.int .i64 0):=(qe BK103.out 1).trans rfl;have hcz11_2:w9.cell? ⟨gb103,2,none⟩=some (.int .i64 0):=(qe BK103.out 2).trans rfl;have hfz11_0:=ql BK103.out 0;have hfz11_1:=ql BK103.out 1;have hfz11_2:=ql BK103.out 2;have hcz12_0:w9.cell? ⟨gb102,0,none⟩=some (.int .i64 0):=(qe BK102.out 0).trans rfl;have hcz12_1:w9.cell? ⟨gb102,1,none⟩=some (.int .i64 0):=(qe BK102.out 1).trans rfl;have hcz12_2:w9.cell? ⟨gb102,2,none⟩=some (.int .i64 0):=(qe BK102.out 2).trans rfl;have hfz12_0:=ql BK102.out 0;have hfz12_1:=ql BK102.out 1;have hfz12_2:=ql BK102.out 2))
 refine bodyPost_ret (results_cell_row rfl _ _ gb102 43 #[.int .i64 t104,.int .i64 t105,.int .i64 t106] (0,0) _ rfl (by (with_reducible repeat (first | refine qx ?_ _ | refine qw ?_ | refine qq ?_ _));refine Qu (cs:=#[.int .i64 t104,.int .i64 t105,.int .i64 0]) ?_ 2 _ rfl;(with_reducible repeat (first | refine qx ?_ _ | refine qw ?_ | refine qq ?_ _));refine Qu (cs:=#[.int .i64 t104,.int .i64 0,.int .i64 0]) ?_ 1 _ rfl;(with_reducible repeat (first | refine qx ?_ _ | refine qw ?_ | refine qq ?_ _));refine Qu (cs:=#[.int .i64 0,.int .i64 0,.int .i64 0]) ?_ 0 _ rfl;(with_reducible repeat (first | refine qx ?_ _ | refine qw ?_ | refine qq ?_ _));refine Qk ?_ NB102_103.out _;(with_reducible repeat (first | refine qx ?_ _ | refine qw ?_ | refine qq ?_ _));refine Qk ?_ NB102_103.out _;(with_reducible repeat (first | refine qx ?_ _ | refine qw ?_ | refine qq ?_ _));refine Qk ?_ NB102_103.out _;(with_reducible repeat (first | refine qx ?_ _ | refine qw ?_ | refine qq ?_ _));exact BK102.out) Try.underlying43 rfl (by kernel_rfl)) rfl ?_
 exact⟨fq,bx_ HB⟩
def zc.l0 :Nat→List (S76)→List (S43)→Int→Option ((List (S43)))
 | 0,_,_,_=>none
 | k+1,x0,x3,x4=>if x4 < (x0.length:Int) then (if 0≤x4 then ((Ju.f ((Zv x0 x4).f0.f0) ((Zv x0 x4).f0.f1) ((Zv x0 x4).f0.f2)).bind fun bt111=>(if x4 < (x3.length:Int) then (zc.l0 k x0 (x3.set (x4:Int).toNat (⟨(⟨bt111.1,bt111.2.1,bt111.2.2⟩:S41)⟩:S43)) (wrap64 (x4+1))) else (none))) else (none)) else (some x3)
def zc.f (k:Nat) (l0:List (S76)):Option ((List (S43))):=if 0≤(l0.length:Int) then (if ((l0.length:Int):Int).toNat≤11728124029610 then (zc.l0 k l0 (List.replicate ((l0.length:Int):Int).toNat z43) 0) else (none)) else (none)
theorem zc.mono_l :∀ k,(∀ y0 y1 y2,LeO (zc.l0 k y0 y1 y2) (zc.l0 (k+1) y0 y1 y2))
 | 0=>fun _ _ _ r h=>by simp[zc.l0]at h
 | k+1=>by
  have ih0:=zc.mono_l k
  ·intro y0 y1 y2
   unfold zc.l0
   repeat' first | (with_reducible first | apply ih0 | exact LeO.refl _ | exact LeO.none _ | refine LeO.ite ?_ ?_ | refine LeO.bind ?_ (fun _=>?_)) | (first | apply ih0 | exact LeO.none _ | refine LeO.ite ?_ ?_ | refine LeO.bind ?_ (fun _=>?_))
theorem zc.mono :∀ a0 k,LeO (zc.f k a0) (zc.f (k+1) a0):=by
 intro a0 k
 have ih0:=zc.mono_l k
 unfold zc.f
 repeat' first | (with_reducible first | apply ih0 | exact LeO.refl _ | exact LeO.none _ | refine LeO.ite ?_ ?_ | refine LeO.bind ?_ (fun _=>?_)) | (first | apply ih0 | exact LeO.none _ | refine LeO.ite ?_ ?_ | refine LeO.bind ?_ (fun _=>?_))
theorem zc.calls (k:Nat) (A0:Option Addr) (c0:Nat) (l0:List (S76)) (r:List (S43)) (w:World) (hr0:Kd.C k76 w A0 l0.length l0) (hc0:l0.length≤c0) (h:zc.f k l0=some r):
  Calls Try.prog 21 #[.slice A0 l0.length c0] w fun e w'=>∃ v0_:Value,e=.returned (v0_)∧Kd.R k43 43 w' w.heap.size (fun _=>True) v0_ r∧Below w.heap.size w w':=by
 have hu76:=Try.underlying76
 have hu43:=Try.underlying43
 have HR0:=am hr0
 have HC0:=am hc0
 clear hr0 hc0
 have HB:=am (Below.refl w.heap.size w)
 have H:(if 0≤(l0.length:Int) then (if ((l0.length:Int):Int).toNat≤11728124029610 then (zc.l0 k l0 (List.replicate ((l0.length:Int):Int).toNat z43) 0) else (none)) else (none))=some r:=h
 clear h
 by_cases c2:0≤(l0.length:Int)
 ·rw [if_pos c2] at H
  have c2b0:=eq_true c2;have c2b1:=decide_eq_true c2;clear c2;replace H:=ifn H;obtain⟨c3,H⟩:=H;have c3b0:=eq_true c3;have c3b1:=decide_eq_true c3;clear c3
  generalize hy107:(List.replicate ((l0.length:Int):Int).toNat z43:List (S43))=y107 at H
  have Ny107:=am hy107.symm;clear hy107;have H':=am H;clear H
  go_enter Try.func21,Try.ntmps21
  go_wp2_with (first | ((with_reducible refine zb (N:=7) rfl ?_);refine Kd.R_make k43 _ 43 rfl (N:=7) rfl 34 _ _ rfl (l0.length:Int) rfl rfl Try.underlying34 (.agg #[(.int .i64 0),(.int .i64 0),(.int .i64 0)]) 24 J4 rfl (by decide) (by omega) z43 (ok:=fun _=>True) (okp:=fun _=>True) (Jb _ _ _ z43 ) (fun _ hk=>hk) trivial (od) (Nat.le_trans (Nat.mul_le_mul_right _ (od:(l0.length:Int).toNat≤11728124029610)) (by omega)) (Below.refl _ _) (Nat.le_refl _) ?_;intro v108 w4 ho5 hb hg_ hnew_;clear hg_ hnew_;(first | rw[← Ny107.out]at ho5 | (simp only[Int.reduceToNat]at ho5;rw[← Ny107.out]at ho5));have HO109:=am (Kd.R_lower ho5 (bz HB));replace HB:=bq HB hb;clear hb ho5))
  go_loopg [4] k (fun kq v4 w'=>∃ (x3_1:List (S43)) (x4_1:Int),v4=.int .i64 x4_1∧qf (zc.l0 kq l0 x3_1 x4_1=some r)∧qf (kq≤k)∧qf (Kd.R k43 43 w' w.heap.size (fun _=>True) v108 x3_1)∧qf (Below w.heap.size w w'))
  case atStart=>exact⟨(y107),(0),fr,H',⟨Nat.le_refl _⟩,⟨wR HO109⟩,⟨bw HB⟩⟩
  case round=>
   clear H';try clear c2;try clear c2b0;try clear c2b1;try clear p2;try clear c3;try clear c3b0;try clear c3b1
   obtain⟨x3_1,x4_1,rfl,HA,HK1,HO_3,HB⟩:=hrel
   cases gk with
   | zero=>exact absurd HA.out (by simp[zc.l0])
   | succ k1=>
    have H:=HA.out;clear HA
    simp only[zc.l0]at H
    by_cases c6:x4_1 < (l0.length:Int)
    ·rw[if_pos c6]at H
     have c6b0:=decide_eq_true c6;clear c6;replace H:=ifn H;obtain⟨c7,H⟩:=H;have c7b0:=decide_eq_true c7;clear c7;replace H:=bs H
     obtain⟨⟨t111,t112,t113⟩,A8,H⟩:=H
     dsimp only at H
     replace H:=ifn H;obtain⟨c9,H⟩:=H;have c9b0:=decide_eq_true c9;clear c9
     generalize hy114:(x3_1.set (x4_1:Int).toNat (⟨(⟨t111,t112,t113⟩:S41)⟩:S43):List (S43))=y114 at H
     have Ny114:=am hy114.symm;clear hy114;have H':=am H;clear H
     have p110:0≤(x4_1:Int):=od
     have q110:x4_1 < (l0.length:Int):=od
     obtain⟨ad110,e110,hx110_0,hx110_1,hx110_2⟩:=at_T76 HR0.out x4_1 p110 q110
     cases e110
     replace hx110_0:=wcl HB hx110_0
     replace hx110_1:=wcl HB hx110_1
     replace hx110_2:=wcl HB hx110_2
     replace p110:=eq_true p110;replace q110:=eq_true q110
     go_wp2_with (first | ((with_reducible refine qt (f:=64) rfl ?_);refine gl 20 Try.func64 #[.agg #[.int .i64 ((Zv l0 x4_1).f0.f0),.int .i64 ((Zv l0 x4_1).f0.f1),.int .i64 ((Zv l0 x4_1).f0.f2)]] ?_;(with_reducible refine(Ju.calls ((Zv l0 x4_1).f0.f0) ((Zv l0 x4_1).f0.f1) ((Zv l0 x4_1).f0.f2) t111 t112 t113 _ A8.out).mono ?_);rintro e w11 ⟨rfl,hb⟩;refine⟨_,rfl,?_⟩;replace HO_3:=am (Kd.R_below (wR HO_3) hb);replace HB:=bq HB hb;(try clear hb);have p10:0≤(x4_1:Int):=od;have q10:(x4_1:Int) < ((x3_1.length:Int):Int):=od;obtain⟨go10,co10,eo10,gb10,gl10,cl10,HG10⟩:=Kd.R_form HO_3.out (by omega);(first | cases eo10 | (injection eo10 with ea_ en_ ec_;(first | subst ea_ | (injection ea_ with ea_;subst ea_));subst ec_;clear en_));have GB10:=am gb10;have GG10:=am HG10;clear gb10 gl10 HG10;obtain⟨ce10,hcl10,hM10,hcc10,hfr10⟩:=Kd.R_elem HO_3.out z43 (x4_1:Int) p10 q10;obtain rfl:=qdj hM10;have hx10_0:w11.cell? ⟨go10,(x4_1:Int).toNat*3,none⟩=some (.int .i64 ((qd x3_1 x4_1).f0.f0)):=hcc10 0 _ rfl;have hx10_1:w11.cell? ⟨go10,(x4_1:Int).toNat*3+1,none⟩=some (.int .i64 ((qd x3_1 x4_1).f0.f1)):=hcc10 1 _ rfl;have hx10_2:w11.cell? ⟨go10,(x4_1:Int).toNat*3+2,none⟩=some (.int .i64 ((qd x3_1 x4_1).f0.f2)):=hcc10 2 _ rfl;have hf10_0:w11.frozen? ⟨go10,(x4_1:Int).toNat*3,none⟩=false:=hfr10 0;have hf10_1:w11.frozen? ⟨go10,(x4_1:Int).toNat*3+1,none⟩=false:=hfr10 1;have hf10_2:w11.frozen? ⟨go10,(x4_1:Int).toNat*3+2,none⟩=false:=hfr10 2;clear hcl10 hcc10 hfr10 hM10;replace p10:=eq_true p10;replace q10:=eq_true q10;have HX12:=am (show Kd.R k43 43 w11 w.heap.size (fun _=>True) (.slice (some ⟨go10,0,none⟩) x3_1.length co10) x3_1 from (wR HO_3));obtain⟨ce12,hcl12,hM12,hcc12,hfr12⟩:=Kd.R_elem HX12.out z43 (x4_1:Int) (od) (by have h_:(x4_1:Int) < ((x3_1.length:Int):Int):=od;first | exact h_ | (have e_:=(Kd.R_reads' HO_3.out).1;omega) | simpa using h_);obtain rfl:=qdj hM12;have HP12:=Kd.R_seg HX12.out (x4_1:Int) (od) (by have h_:(x4_1:Int) < ((x3_1.length:Int):Int):=od;first | exact h_ | (have e_:=(Kd.R_reads' HO_3.out).1;omega) | simpa using h_) (seg:=[.int .i64 t111,.int .i64 t112,.int .i64 t113]) (j:=0) hcl12 hcc12 (show 3≤3 from by decide) (x':=(⟨(⟨t111,t112,t113⟩:S41)⟩:S43)) (Jb _ _ _ (⟨(⟨t111,t112,t113⟩:S41)⟩:S43) ) (fun _ hk=>hk);have hx12_0:=hcc12 0 _ rfl;(try simp only[show (k43).sz=3 from rfl,Nat.mul_one,Nat.add_zero]at hx12_0);have hf12_0:=hfr12 0;(try simp only[show (k43).sz=3 from rfl,Nat.mul_one,Nat.add_zero]at hf12_0);have hx12_1:=hcc12 1 _ rfl;(try simp only[show (k43).sz=3 from rfl,Nat.mul_one,Nat.add_zero]at hx12_1);have hf12_1:=hfr12 1;(try simp only[show (k43).sz=3 from rfl,Nat.mul_one,Nat.add_zero]at hf12_1);have hx12_2:=hcc12 2 _ rfl;(try simp only[show (k43).sz=3 from rfl,Nat.mul_one,Nat.add_zero]at hx12_2);have hf12_2:=hfr12 2;(try simp only[show (k43).sz=3 from rfl,Nat.mul_one,Nat.add_zero]at hf12_2);clear hcl12 hcc12 hfr12 hM12) | ((with_reducible refine qff (t:=43) (p:=21) rfl ?_);refine qd9 (t:=43) (p:=21) (v:=?vo_w13) (w1:=(((w11.setCell ⟨go10,(x4_1:Int).toNat*3,none⟩ (.int .i64 t111)).setCell ⟨go10,(x4_1:Int).toNat*3+1,none⟩ (.int .i64 t112)).setCell ⟨go10,(x4_1:Int).toNat*3+2,none⟩ (.int .i64 t113))) ?hg ?ho ?hn ?hr ?_;(case ho=>rfl);(case hg=>rfl);(case hn=>rfl);(case hr=>first | (go_simp;done) | (go_simp;rfl));intro w13 hw;have hg:w11.grownBy w13 (some go10):=(by rw[hw];exact HP12.2);have hp_:Kd.R k43 43 w13 w.heap.size (fun _=>True) (.slice (some ⟨go10,0,none⟩) x3_1.length co10) y114:=(by rw[hw,Ny114.out];exact HP12.1);clear HP12;replace HO_3:=am (hp_);replace HB:=am ((by rw[hw];exact Qi (Qi (Qi (HB.out) GB10.out) GB10.out) GB10.out:Below w.heap.size w w13));clear hg hw hp_))
     go_roundg k1
     case measure=>have:=HK1.out;omega
     case rel=>exact⟨(y114),(wrap64 (x4_1+1)),fr,H',⟨by have:=HK1.out;omega⟩,⟨wR HO_3⟩,⟨bw HB⟩⟩
    ·rw[if_neg c6]at H
     have c6b0:=decide_eq_false c6;clear c6;obtain rfl:=Option.some.inj H;go_wp2;go_ret
     exact⟨_,fq,wR HO_3,bw HB⟩
 ·rw[if_neg c2]at H
  exact absurd H (by simp)
def zk.l0 :Nat→List Int→List Int→Int→Option (Bool)
 | 0,_,_,_=>none
 | k+1,x0,x1,x5=>if x5 < (x0.length:Int) then (if 0≤x5 then (if x5 < (x1.length:Int) then (if (rd x0 x5)=(rd x1 x5) then (zk.l0 k x0 x1 (wrap64 (x5+1))) else (some false)) else (none)) else (none)) else (some true)
def zk.f (k:Nat) (l0:List Int) (l1:List Int):Option (Bool):=if (l0.length:Int)=(l1.length:Int) then (zk.l0 k l0 l1 0) else (some false)
theorem zk.mono_l :∀ k,(∀ y0 y1 y2,LeO (zk.l0 k y0 y1 y2) (zk.l0 (k+1) y0 y1 y2))
 | 0=>fun _ _ _ r h=>by simp[zk.l0]at h
 | k+1=>by
  have ih0:=zk.mono_l k
  ·intro y0 y1 y2
   unfold zk.l0
   repeat' first | (with_reducible first | apply ih0 | exact LeO.refl _ | exact LeO.none _ | refine LeO.ite ?_ ?_ | refine LeO.bind ?_ (fun _=>?_)) | (first | apply ih0 | exact LeO.none _ | refine LeO.ite ?_ ?_ | refine LeO.bind ?_ (fun _=>?_))
theorem zk.mono :∀ a0 a1 k,LeO (zk.f k a0 a1) (zk.f (k+1) a0 a1):=by
 intro a0 a1 k
 have ih0:=zk.mono_l k
 unfold zk.f
 repeat' first | (with_reducible first | apply ih0 | exact LeO.refl _ | exact LeO.none _ | refine LeO.ite ?_ ?_ | refine LeO.bind ?_ (fun _=>?_)) | (first | apply ih0 | exact LeO.none _ | refine LeO.ite ?_ ?_ | refine LeO.bind ?_ (fun _=>?_))
theorem zk.calls (k:Nat) (A0:Option Addr) (c0:Nat) (l0:List Int) (A1:Option Addr) (c1:Nat) (l1:List Int) (r:Bool) (w:World) (hr0:Kd.C (Kd.int .i64) w A0 l0.length l0) (hc0:l0.length≤c0) (hr1:Kd.C (Kd.int .i64) w A1 l1.length l1) (hc1:l1.length≤c1) (h:zk.f k l0 l1=some r):
  Calls Try.prog 23 #[.slice A0 l0.length c0,.slice A1 l1.length c1] w fun e w'=>e=.returned (.bool r)∧Drawn0 w w':=by
 have HR0:=am hr0
 have HC0:=am hc0
 clear hr0 hc0
 have HR1:=am hr1
 have HC1:=am hc1
 clear hr1 hc1
 have H:(if (l0.length:Int)=(l1.length:Int) then (zk.l0 k l0 l1 0) else (some false))=some r:=h
 clear h
 by_cases c3:(l0.length:Int)=(l1.length:Int)
 ·rw [if_pos c3] at H
  have c3b0:=beq_iff_eq.mpr c3;have c3b1:=bne_eq_false_iff_eq.mpr c3
  have c3b2:(l0.length == l1.length)=true:=by first | simpa using c3 | (simp at c3 ⊢;omega)
  clear c3;have H':=am H;clear H
  go_enter Try.func23,Try.ntmps23
  go_wp2
  repeat (go_quiet (fail);try go_wp2)
  go_loopg [5] k (fun kq v5 w'=>∃ (x5_1:Int),v5=.int .i64 x5_1∧qf (zk.l0 kq l0 l1 x5_1=some r)∧qf (kq≤k)∧Drawn0 w w')
  case atStart=>exact⟨(0),fr,H',⟨Nat.le_refl _⟩,df⟩
  case round=>
   clear H';try clear c1;try clear c2;try clear p2;try clear c3;try clear c3b0;try clear c3b1;try clear c3b2
   obtain⟨x5_1,rfl,HA,HK1,⟨m1,rfl⟩⟩:=hrel
   cases gk with
   | zero=>exact absurd HA.out (by simp[zk.l0])
   | succ k1=>
    have H:=HA.out;clear HA
    simp only[zk.l0]at H
    by_cases c4:x5_1 < (l0.length:Int)
    ·rw[if_pos c4]at H
     have c4b0:=decide_eq_true c4;clear c4;replace H:=ifn H;obtain⟨c5,H⟩:=H;have c5b0:=decide_eq_true c5;clear c5;replace H:=ifn H;obtain⟨c6,H⟩:=H;have c6b0:=decide_eq_true c6;clear c6
     by_cases c7:(rd l0 x5_1)=(rd l1 x5_1)
     ·rw[if_pos c7]at H
      have c7b0:=beq_iff_eq.mpr c7;have c7b1:=bne_eq_false_iff_eq.mpr c7;clear c7;have H':=am H;clear H
      have p115:0≤(x5_1:Int):=od
      have q115:x5_1 < (l0.length:Int):=od
      obtain⟨ad115,e115,hx115_0⟩:=Kd.at_int HR0.out x5_1 p115 q115
      cases e115;replace p115:=eq_true p115;replace q115:=eq_true q115
      have p116:0≤(x5_1:Int):=od
      have q116:x5_1 < (l1.length:Int):=od
      obtain⟨ad116,e116,hx116_0⟩:=Kd.at_int HR1.out x5_1 p116 q116
      cases e116;replace p116:=eq_true p116;replace q116:=eq_true q116;go_wp2
      repeat (go_quiet (fail);try go_wp2)
      go_roundg k1
      case measure=>have:=HK1.out;omega
      case rel=>exact⟨(wrap64 (x5_1+1)),fr,H',⟨by have:=HK1.out;omega⟩,df⟩
     ·rw[if_neg c7]at H
      have c7b0:=beq_eq_false_iff_ne.mpr c7;have c7b1:=bne_iff_ne.mpr c7;obtain rfl:=Option.some.inj H
      have p115:0≤(x5_1:Int):=od
      have q115:x5_1 < (l0.length:Int):=od
      obtain⟨ad115,e115,hx115_0⟩:=Kd.at_int HR0.out x5_1 p115 q115
      cases e115;replace p115:=eq_true p115;replace q115:=eq_true q115
      have p116:0≤(x5_1:Int):=od
      have q116:x5_1 < (l1.length:Int):=od
      obtain⟨ad116,e116,hx116_0⟩:=Kd.at_int HR1.out x5_1 p116 q116
      cases e116;replace p116:=eq_true p116;replace q116:=eq_true q116;go_wp2
      repeat (go_quiet (fail);try go_wp2)
      go_ret
      exact⟨fr,df⟩
    ·rw[if_neg c4]at H
     have c4b0:=decide_eq_false c4;clear c4;obtain rfl:=Option.some.inj H;go_wp2
     repeat (go_quiet (fail);try go_wp2)
     go_ret
     exact⟨fr,df⟩
 ·rw[if_neg c3]at H
  have c3b0:=beq_eq_false_iff_ne.mpr c3;have c3b1:=bne_iff_ne.mpr c3
  have c3b2:(l0.length == l1.length)=false:=by first | simpa using c3 | (simp at c3 ⊢;omega)
  obtain rfl:=Option.some.inj H
  go_enter Try.func23,Try.ntmps23
  go_wp2
  repeat (go_quiet (fail);try go_wp2)
  go_ret
  exact⟨fr,df⟩
def zj.f (a0_0 a0_1 a0_2 a1_0 a1_1 a1_2:Int):Option Bool:=if (a0_0 !=a1_0)=true then some false else if (a0_1 !=a1_1)=true then some false else some (!(a0_2 !=a1_2))
def zj.T4 :Bool×List (List Nat×List Nat):=(true,[([],[]),([0],[0]),([1],[1]),([],[]),([3],[3]),([4],[4]),([2,5],[2,5])])
def zj.B4 :List Nat:=[0,1,3,0,8,24,63]
theorem zj.tab4 :rtab .any (Z0 Try.f116 4)=zj.T4:=by kernel_rfl
theorem zj.bits4 :Qj zj.T4.2 zj.B4=true:=by kernel_rfl
theorem zj.n0 (x0 x1 x2 y0 y1 y2:Int) (w:World) (c0:(x0 !=y0)=true):
  Calls Try.prog 116 #[.agg #[.int .i64 x0,.int .i64 x1,.int .i64 x2],.agg #[.int .i64 y0,.int .i64 y1,.int .i64 y2]] w fun e w'=>e=.returned (.bool false)∧Below w.heap.size w w':=by
 have hu41:=Try.underlying41
 have HB:=am (Below.refl w.heap.size w)
 have hS:(fun w':World=>w'.cell? ⟨w.heap.size,0,none⟩=some (.int .i64 x0)∧w'.cell? ⟨w.heap.size,1,none⟩=some (.int .i64 x1)∧w'.cell? ⟨w.heap.size,2,none⟩=some (.int .i64 x2)∧w'.cell? ⟨w.heap.size+1,0,none⟩=some (.int .i64 y0)∧w'.cell? ⟨w.heap.size+1,1,none⟩=some (.int .i64 y1)∧w'.cell? ⟨w.heap.size+1,2,none⟩=some (.int .i64 y2)) ((w.alloc (.cells #[.int .i64 x0,.int .i64 x1,.int .i64 x2] 41)).alloc (.cells #[.int .i64 y0,.int .i64 y1,.int .i64 y2] 41)):=by
  have h1:=heap_alloc2_old w (.cells #[.int .i64 x0,.int .i64 x1,.int .i64 x2] 41) (.cells #[.int .i64 y0,.int .i64 y1,.int .i64 y2] 41)
  have h2:=heap_alloc2_new w (.cells #[.int .i64 x0,.int .i64 x1,.int .i64 x2] 41) (.cells #[.int .i64 y0,.int .i64 y1,.int .i64 y2] 41)
  exact⟨cell_of_row _ _ 0 _ _ _ h1,cell_of_row _ _ 1 _ _ _ h1,cell_of_row _ _ 2 _ _ _ h1,cell_of_row _ _ 0 _ _ _ h2,cell_of_row _ _ 1 _ _ _ h2,cell_of_row _ _ 2 _ _ _ h2⟩
 have HS:=am hS
 clear hS
 go_enter Try.func116,Try.ntmps116
 go_wp2_with fail
 refine wp_loop_rounds 4 ?_
 rw[rounds_succ]
 go_wp2_with fail
 refine st 7 (fun w':World=>w'.cell? ⟨w.heap.size,0,none⟩=some (.int .i64 x0)∧w'.cell? ⟨w.heap.size,1,none⟩=some (.int .i64 x1)∧w'.cell? ⟨w.heap.size,2,none⟩=some (.int .i64 x2)∧w'.cell? ⟨w.heap.size+1,0,none⟩=some (.int .i64 y0)∧w'.cell? ⟨w.heap.size+1,1,none⟩=some (.int .i64 y1)∧w'.cell? ⟨w.heap.size+1,2,none⟩=some (.int .i64 y2)) [] zj.tab4 zj.bits4 HS.out fun hHeld HT_ HW_=>?_
 refine pz 0 10 HT_ ?_;refine pz 1 11 HT_ ?_;refine tk 2 12 HT_ HW_ hHeld ?_;refine pz 3 13 HT_ ?_;refine pz 4 14 HT_ ?_;refine tk 5 15 HT_ HW_ hHeld ?_;refine pz 6 16 HT_ ?_
 refine Q3 (Qa HT_.out (by kernel_rfl)) ?_
 clear HT_ HW_ hHeld
 go_wp2_with fail
 go_ret
 exact⟨rfl,bw HB⟩
theorem zj.n1 (x0 x1 x2 y0 y1 y2:Int) (w:World) (c0:(x0 !=y0)=false) (c1:(x1 !=y1)=true):
  Calls Try.prog 116 #[.agg #[.int .i64 x0,.int .i64 x1,.int .i64 x2],.agg #[.int .i64 y0,.int .i64 y1,.int .i64 y2]] w fun e w'=>e=.returned (.bool false)∧Below w.heap.size w w':=by
 have hu41:=Try.underlying41
 have HB:=am (Below.refl w.heap.size w)
 have hS:(fun w':World=>w'.cell? ⟨w.heap.size,0,none⟩=some (.int .i64 x0)∧w'.cell? ⟨w.heap.size,1,none⟩=some (.int .i64 x1)∧w'.cell? ⟨w.heap.size,2,none⟩=some (.int .i64 x2)∧w'.cell? ⟨w.heap.size+1,0,none⟩=some (.int .i64 y0)∧w'.cell? ⟨w.heap.size+1,1,none⟩=some (.int .i64 y1)∧w'.cell? ⟨w.heap.size+1,2,none⟩=some (.int .i64 y2)) ((w.alloc (.cells #[.int .i64 x0,.int .i64 x1,.int .i64 x2] 41)).alloc (.cells #[.int .i64 y0,.int .i64 y1,.int .i64 y2] 41)):=by
  have h1:=heap_alloc2_old w (.cells #[.int .i64 x0,.int .i64 x1,.int .i64 x2] 41) (.cells #[.int .i64 y0,.int .i64 y1,.int .i64 y2] 41)
  have h2:=heap_alloc2_new w (.cells #[.int .i64 x0,.int .i64 x1,.int .i64 x2] 41) (.cells #[.int .i64 y0,.int .i64 y1,.int .i64 y2] 41)
  exact⟨cell_of_row _ _ 0 _ _ _ h1,cell_of_row _ _ 1 _ _ _ h1,cell_of_row _ _ 2 _ _ _ h1,cell_of_row _ _ 0 _ _ _ h2,cell_of_row _ _ 1 _ _ _ h2,cell_of_row _ _ 2 _ _ _ h2⟩
 have HS:=am hS
 clear hS
 go_enter Try.func116,Try.ntmps116
 go_wp2_with fail
 refine wp_loop_rounds 4 ?_
 rw[rounds_succ]
 go_wp2_with fail
 refine st 7 (fun w':World=>w'.cell? ⟨w.heap.size,0,none⟩=some (.int .i64 x0)∧w'.cell? ⟨w.heap.size,1,none⟩=some (.int .i64 x1)∧w'.cell? ⟨w.heap.size,2,none⟩=some (.int .i64 x2)∧w'.cell? ⟨w.heap.size+1,0,none⟩=some (.int .i64 y0)∧w'.cell? ⟨w.heap.size+1,1,none⟩=some (.int .i64 y1)∧w'.cell? ⟨w.heap.size+1,2,none⟩=some (.int .i64 y2)) [] zj.tab4 zj.bits4 HS.out fun hHeld HT_ HW_=>?_
 refine pz 0 10 HT_ ?_;refine pz 1 11 HT_ ?_;refine tk 2 12 HT_ HW_ hHeld ?_;refine pz 3 13 HT_ ?_;refine pz 4 14 HT_ ?_;refine tk 5 15 HT_ HW_ hHeld ?_;refine pz 6 16 HT_ ?_
 refine Q3 (Qa HT_.out (by kernel_rfl)) ?_
 clear HT_ HW_ hHeld
 go_wp2_with fail
 rw[rounds_succ]
 go_wp2_with fail
 refine st 7 (fun w':World=>w'.cell? ⟨w.heap.size,0,none⟩=some (.int .i64 x0)∧w'.cell? ⟨w.heap.size,1,none⟩=some (.int .i64 x1)∧w'.cell? ⟨w.heap.size,2,none⟩=some (.int .i64 x2)∧w'.cell? ⟨w.heap.size+1,0,none⟩=some (.int .i64 y0)∧w'.cell? ⟨w.heap.size+1,1,none⟩=some (.int .i64 y1)∧w'.cell? ⟨w.heap.size+1,2,none⟩=some (.int .i64 y2)) [] zj.tab4 zj.bits4 HS.out fun hHeld HT_ HW_=>?_
 refine pz 0 10 HT_ ?_;refine pz 1 11 HT_ ?_;refine tk 2 12 HT_ HW_ hHeld ?_;refine pz 3 13 HT_ ?_;refine pz 4 14 HT_ ?_;refine tk 5 15 HT_ HW_ hHeld ?_;refine pz 6 16 HT_ ?_
 refine Q3 (Qa HT_.out (by kernel_rfl)) ?_
 clear HT_ HW_ hHeld
 go_wp2_with fail
 go_ret
 exact⟨rfl,bw HB⟩
theorem zj.n2 (x0 x1 x2 y0 y1 y2:Int) (w:World) (c0:(x0 !=y0)=false) (c1:(x1 !=y1)=false) (c2:(x2 !=y2)=true):
  Calls Try.prog 116 #[.agg #[.int .i64 x0,.int .i64 x1,.int .i64 x2],.agg #[.int .i64 y0,.int .i64 y1,.int .i64 y2]] w fun e w'=>e=.returned (.bool false)∧Below w.heap.size w w':=by
 have hu41:=Try.underlying41
 have HB:=am (Below.refl w.heap.size w)
 have hS:(fun w':World=>w'.cell? ⟨w.heap.size,0,none⟩=some (.int .i64 x0)∧w'.cell? ⟨w.heap.size,1,none⟩=some (.int .i64 x1)∧w'.cell? ⟨w.heap.size,2,none⟩=some (.int .i64 x2)∧w'.cell? ⟨w.heap.size+1,0,none⟩=some (.int .i64 y0)∧w'.cell? ⟨w.heap.size+1,1,none⟩=some (.int .i64 y1)∧w'.cell? ⟨w.heap.size+1,2,none⟩=some (.int .i64 y2)) ((w.alloc (.cells #[.int .i64 x0,.int .i64 x1,.int .i64 x2] 41)).alloc (.cells #[.int .i64 y0,.int .i64 y1,.int .i64 y2] 41)):=by
  have h1:=heap_alloc2_old w (.cells #[.int .i64 x0,.int .i64 x1,.int .i64 x2] 41) (.cells #[.int .i64 y0,.int .i64 y1,.int .i64 y2] 41)
  have h2:=heap_alloc2_new w (.cells #[.int .i64 x0,.int .i64 x1,.int .i64 x2] 41) (.cells #[.int .i64 y0,.int .i64 y1,.int .i64 y2] 41)
  exact⟨cell_of_row _ _ 0 _ _ _ h1,cell_of_row _ _ 1 _ _ _ h1,cell_of_row _ _ 2 _ _ _ h1,cell_of_row _ _ 0 _ _ _ h2,cell_of_row _ _ 1 _ _ _ h2,cell_of_row _ _ 2 _ _ _ h2⟩
 have HS:=am hS
 clear hS
 go_enter Try.func116,Try.ntmps116
 go_wp2_with fail
 refine wp_loop_rounds 4 ?_
 rw[rounds_succ]
 go_wp2_with fail
 refine st 7 (fun w':World=>w'.cell? ⟨w.heap.size,0,none⟩=some (.int .i64 x0)∧w'.cell? ⟨w.heap.size,1,none⟩=some (.int .i64 x1)∧w'.cell? ⟨w.heap.size,2,none⟩=some (.int .i64 x2)∧w'.cell? ⟨w.heap.size+1,0,none⟩=some (.int .i64 y0)∧w'.cell? ⟨w.heap.size+1,1,none⟩=some (.int .i64 y1)∧w'.cell? ⟨w.heap.size+1,2,none⟩=some (.int .i64 y2)) [] zj.tab4 zj.bits4 HS.out fun hHeld HT_ HW_=>?_
 refine pz 0 10 HT_ ?_;refine pz 1 11 HT_ ?_;refine tk 2 12 HT_ HW_ hHeld ?_;refine pz 3 13 HT_ ?_;refine pz 4 14 HT_ ?_;refine tk 5 15 HT_ HW_ hHeld ?_;refine pz 6 16 HT_ ?_
 refine Q3 (Qa HT_.out (by kernel_rfl)) ?_
 clear HT_ HW_ hHeld
 go_wp2_with fail
 rw[rounds_succ]
 go_wp2_with fail
 refine st 7 (fun w':World=>w'.cell? ⟨w.heap.size,0,none⟩=some (.int .i64 x0)∧w'.cell? ⟨w.heap.size,1,none⟩=some (.int .i64 x1)∧w'.cell? ⟨w.heap.size,2,none⟩=some (.int .i64 x2)∧w'.cell? ⟨w.heap.size+1,0,none⟩=some (.int .i64 y0)∧w'.cell? ⟨w.heap.size+1,1,none⟩=some (.int .i64 y1)∧w'.cell? ⟨w.heap.size+1,2,none⟩=some (.int .i64 y2)) [] zj.tab4 zj.bits4 HS.out fun hHeld HT_ HW_=>?_
 refine pz 0 10 HT_ ?_;refine pz 1 11 HT_ ?_;refine tk 2 12 HT_ HW_ hHeld ?_;refine pz 3 13 HT_ ?_;refine pz 4 14 HT_ ?_;refine tk 5 15 HT_ HW_ hHeld ?_;refine pz 6 16 HT_ ?_
 refine Q3 (Qa HT_.out (by kernel_rfl)) ?_
 clear HT_ HW_ hHeld
 go_wp2_with fail
 rw[rounds_succ]
 go_wp2_with fail
 refine st 7 (fun w':World=>w'.cell? ⟨w.heap.size,0,none⟩=some (.int .i64 x0)∧w'.cell? ⟨w.heap.size,1,none⟩=some (.int .i64 x1)∧w'.cell? ⟨w.heap.size,2,none⟩=some (.int .i64 x2)∧w'.cell? ⟨w.heap.size+1,0,none⟩=some (.int .i64 y0)∧w'.cell? ⟨w.heap.size+1,1,none⟩=some (.int .i64 y1)∧w'.cell? ⟨w.heap.size+1,2,none⟩=some (.int .i64 y2)) [] zj.tab4 zj.bits4 HS.out fun hHeld HT_ HW_=>?_
 refine pz 0 10 HT_ ?_;refine pz 1 11 HT_ ?_;refine tk 2 12 HT_ HW_ hHeld ?_;refine pz 3 13 HT_ ?_;refine pz 4 14 HT_ ?_;refine tk 5 15 HT_ HW_ hHeld ?_;refine pz 6 16 HT_ ?_
 refine Q3 (Qa HT_.out (by kernel_rfl)) ?_
 clear HT_ HW_ hHeld
 go_wp2_with fail
 go_ret
 exact⟨rfl,bw HB⟩
theorem zj.yes (x0 x1 x2 y0 y1 y2:Int) (w:World) (c0:(x0 !=y0)=false) (c1:(x1 !=y1)=false) (c2:(x2 !=y2)=false):
  Calls Try.prog 116 #[.agg #[.int .i64 x0,.int .i64 x1,.int .i64 x2],.agg #[.int .i64 y0,.int .i64 y1,.int .i64 y2]] w fun e w'=>e=.returned (.bool true)∧Below w.heap.size w w':=by
 have hu41:=Try.underlying41
 have HB:=am (Below.refl w.heap.size w)
 have hS:(fun w':World=>w'.cell? ⟨w.heap.size,0,none⟩=some (.int .i64 x0)∧w'.cell? ⟨w.heap.size,1,none⟩=some (.int .i64 x1)∧w'.cell? ⟨w.heap.size,2,none⟩=some (.int .i64 x2)∧w'.cell? ⟨w.heap.size+1,0,none⟩=some (.int .i64 y0)∧w'.cell? ⟨w.heap.size+1,1,none⟩=some (.int .i64 y1)∧w'.cell? ⟨w.heap.size+1,2,none⟩=some (.int .i64 y2)) ((w.alloc (.cells #[.int .i64 x0,.int .i64 x1,.int .i64 x2] 41)).alloc (.cells #[.int .i64 y0,.int .i64 y1,.int .i64 y2] 41)):=by
  have h1:=heap_alloc2_old w (.cells #[.int .i64 x0,.int .i64 x1,.int .i64 x2] 41) (.cells #[.int .i64 y0,.int .i64 y1,.int .i64 y2] 41)
  have h2:=heap_alloc2_new w (.cells #[.int .i64 x0,.int .i64 x1,.int .i64 x2] 41) (.cells #[.int .i64 y0,.int .i64 y1,.int .i64 y2] 41)
  exact⟨cell_of_row _ _ 0 _ _ _ h1,cell_of_row _ _ 1 _ _ _ h1,cell_of_row _ _ 2 _ _ _ h1,cell_of_row _ _ 0 _ _ _ h2,cell_of_row _ _ 1 _ _ _ h2,cell_of_row _ _ 2 _ _ _ h2⟩
 have HS:=am hS
 clear hS
 go_enter Try.func116,Try.ntmps116
 go_wp2_with fail
 refine wp_loop_rounds 4 ?_
 rw[rounds_succ]
 go_wp2_with fail
 refine st 7 (fun w':World=>w'.cell? ⟨w.heap.size,0,none⟩=some (.int .i64 x0)∧w'.cell? ⟨w.heap.size,1,none⟩=some (.int .i64 x1)∧w'.cell? ⟨w.heap.size,2,none⟩=some (.int .i64 x2)∧w'.cell? ⟨w.heap.size+1,0,none⟩=some (.int .i64 y0)∧w'.cell? ⟨w.heap.size+1,1,none⟩=some (.int .i64 y1)∧w'.cell? ⟨w.heap.size+1,2,none⟩=some (.int .i64 y2)) [] zj.tab4 zj.bits4 HS.out fun hHeld HT_ HW_=>?_
 refine pz 0 10 HT_ ?_;refine pz 1 11 HT_ ?_;refine tk 2 12 HT_ HW_ hHeld ?_;refine pz 3 13 HT_ ?_;refine pz 4 14 HT_ ?_;refine tk 5 15 HT_ HW_ hHeld ?_;refine pz 6 16 HT_ ?_
 refine Q3 (Qa HT_.out (by kernel_rfl)) ?_
 clear HT_ HW_ hHeld
 go_wp2_with fail
 rw[rounds_succ]
 go_wp2_with fail
 refine st 7 (fun w':World=>w'.cell? ⟨w.heap.size,0,none⟩=some (.int .i64 x0)∧w'.cell? ⟨w.heap.size,1,none⟩=some (.int .i64 x1)∧w'.cell? ⟨w.heap.size,2,none⟩=some (.int .i64 x2)∧w'.cell? ⟨w.heap.size+1,0,none⟩=some (.int .i64 y0)∧w'.cell? ⟨w.heap.size+1,1,none⟩=some (.int .i64 y1)∧w'.cell? ⟨w.heap.size+1,2,none⟩=some (.int .i64 y2)) [] zj.tab4 zj.bits4 HS.out fun hHeld HT_ HW_=>?_
 refine pz 0 10 HT_ ?_;refine pz 1 11 HT_ ?_;refine tk 2 12 HT_ HW_ hHeld ?_;refine pz 3 13 HT_ ?_;refine pz 4 14 HT_ ?_;refine tk 5 15 HT_ HW_ hHeld ?_;refine pz 6 16 HT_ ?_
 refine Q3 (Qa HT_.out (by kernel_rfl)) ?_
 clear HT_ HW_ hHeld
 go_wp2_with fail
 rw[rounds_succ]
 go_wp2_with fail
 refine st 7 (fun w':World=>w'.cell? ⟨w.heap.size,0,none⟩=some (.int .i64 x0)∧w'.cell? ⟨w.heap.size,1,none⟩=some (.int .i64 x1)∧w'.cell? ⟨w.heap.size,2,none⟩=some (.int .i64 x2)∧w'.cell? ⟨w.heap.size+1,0,none⟩=some (.int .i64 y0)∧w'.cell? ⟨w.heap.size+1,1,none⟩=some (.int .i64 y1)∧w'.cell? ⟨w.heap.size+1,2,none⟩=some (.int .i64 y2)) [] zj.tab4 zj.bits4 HS.out fun hHeld HT_ HW_=>?_
 refine pz 0 10 HT_ ?_;refine pz 1 11 HT_ ?_;refine tk 2 12 HT_ HW_ hHeld ?_;refine pz 3 13 HT_ ?_;refine pz 4 14 HT_ ?_;refine tk 5 15 HT_ HW_ hHeld ?_;refine pz 6 16 HT_ ?_
 refine Q3 (Qa HT_.out (by kernel_rfl)) ?_
 clear HT_ HW_ hHeld
 go_wp2_with fail
 rw[rounds_succ]
 go_wp2_with fail
 go_ret
 exact⟨rfl,bw HB⟩
theorem zj.calls (a0_0 a0_1 a0_2 a1_0 a1_1 a1_2:Int) (r:Bool) (w:World) (h:zj.f a0_0 a0_1 a0_2 a1_0 a1_1 a1_2=some r):
  Calls Try.prog 116 #[.agg #[.int .i64 a0_0,.int .i64 a0_1,.int .i64 a0_2],.agg #[.int .i64 a1_0,.int .i64 a1_1,.int .i64 a1_2]] w fun e w'=>e=.returned (.bool r)∧Below w.heap.size w w':=by
 unfold zj.f at h
 cases c0:(a0_0 !=a1_0) with
 | true=>rw[c0]at h;obtain rfl:=Option.some.inj h;exact zj.n0 _ _ _ _ _ _ w c0
 | false=>
  cases c1:(a0_1 !=a1_1) with
  | true=>rw[c0,c1]at h;obtain rfl:=Option.some.inj h;exact zj.n1 _ _ _ _ _ _ w c0 c1
  | false=>
   rw[c0,c1]at h
   cases c2:(a0_2 !=a1_2) with
   | true=>rw[c2]at h;obtain rfl:=Option.some.inj h;exact zj.n2 _ _ _ _ _ _ w c0 c1 c2
   | false=>rw[c2]at h;obtain rfl:=Option.some.inj h;exact zj.yes _ _ _ _ _ _ w c0 c1 c2
def Zx.f (a0_0:Int) (a0_1:Int) (a0_2:Int) (a1_0:Int) (a1_1:Int) (a1_2:Int):Option (Bool):=(zj.f a0_0 a0_1 a0_2 a1_0 a1_1 a1_2).bind fun t119=>(if t119=true then (some true) else (some false))
theorem Zx.calls (a0_0:Int) (a0_1:Int) (a0_2:Int) (a1_0:Int) (a1_1:Int) (a1_2:Int) (r:Bool) (w:World) (h:Zx.f a0_0 a0_1 a0_2 a1_0 a1_1 a1_2=some r):
  Calls Try.prog 68 #[.agg #[.int .i64 a0_0,.int .i64 a0_1,.int .i64 a0_2],.agg #[.int .i64 a1_0,.int .i64 a1_1,.int .i64 a1_2]] w fun e w'=>e=.returned (.bool r)∧Below w.heap.size w w':=by
 have hu43:=Try.underlying43
 have hu41:=Try.underlying41
 have HB:=am (Below.refl w.heap.size w)
 have H:((zj.f a0_0 a0_1 a0_2 a1_0 a1_1 a1_2).bind fun t119=>(if t119=true then (some true) else (some false)))=some r:=h
 clear h;replace H:=bs H;obtain⟨t119,A3,H⟩:=H
 by_cases c4:t119=true
 ·subst c4
  rw[if_pos rfl]at H
  obtain rfl:=Option.some.inj H
  go_enter Try.func68,Try.ntmps68
  go_wp2_with (first | ((with_reducible refine zb (N:=2) rfl ?_);refine xe_ 2 43 #[.int .i64 a0_0,.int .i64 a0_1,.int .i64 a0_2] ?_;intro gb117 hg w5 hbox hb;have BK117:=am (hbox);have GW117:=am ((by rw[hg];exact(bz HB):w.heap.size≤gb117));have GE117:=am ((by rw[hg];exact(bz HB):w.heap.size≤gb117));replace HB:=bq HB hb;clear hb hbox hg) | ((with_reducible refine zb (N:=3) rfl ?_);refine xe_ 3 43 #[.int .i64 a1_0,.int .i64 a1_1,.int .i64 a1_2] ?_;intro gb118 hg w6 hbox hb;have BK118:=am (hbox);have GW118:=am ((by rw[hg];exact(zo (bx_ HB)):w.heap.size≤gb118));have GE118:=am ((by rw[hg];exact(zo (bx_ HB)):w.heap.size≤gb118));replace HB:=am (jg (bx_ HB) hb);have NB117_118:=am ((by rw[hg];exact Nat.ne_of_lt (jy (g:=gb117) (o:=.cells #[.int .i64 a0_0,.int .i64 a0_1,.int .i64 a0_2] 43 (0,0)) (pk_ BK117)):gb117≠gb118));have NB118_117:=am ((by rw[hg];exact Nat.ne_of_gt (jy (g:=gb117) (o:=.cells #[.int .i64 a0_0,.int .i64 a0_1,.int .i64 a0_2] 43 (0,0)) (pk_ BK117)):gb118≠gb117));replace BK117:=am (qv (g:=gb117) (o:=.cells #[.int .i64 a0_0,.int .i64 a0_1,.int .i64 a0_2] 43 (0,0)) (pk_ BK117) hb);clear hb hbox hg;have hnb7:=NB117_118.out;have hnc7:=NB118_117.out;have hcz8_0:w6.cell? ⟨gb117,0,none⟩=some (.int .i64 a0_0):=(qe BK117.out 0).trans rfl;have hcz8_1:w6.cell? ⟨gb117,1,none⟩=some (.int .i64 a0_1):=(qe BK117.out 1).trans rfl;have hcz8_2:w6.cell? ⟨gb117,2,none⟩=some (.int .i64 a0_2):=(qe BK117.out 2).trans rfl;have hfz8_0:=ql BK117.out 0;have hfz8_1:=ql BK117.out 1;have hfz8_2:=ql BK117.out 2;have hcz9_0:w6.cell? ⟨gb118,0,none⟩=some (.int .i64 a1_0):=(qe BK118.out 0).trans rfl;have hcz9_1:w6.cell? ⟨gb118,1,none⟩=some (.int .i64 a1_1):=(qe BK118.out 1).trans rfl;have hcz9_2:w6.cell? ⟨gb118,2,none⟩=some (.int .i64 a1_2):=(qe BK118.out 2).trans rfl;have hfz9_0:=ql BK118.out 0;have hfz9_1:=ql BK118.out 1;have hfz9_2:=ql BK118.out 2) | ((with_reducible refine qt (f:=116) rfl ?_);refine gl 9 Try.func116 #[.agg #[.int .i64 a0_0,.int .i64 a0_1,.int .i64 a0_2],.agg #[.int .i64 a1_0,.int .i64 a1_1,.int .i64 a1_2]] ?_;(with_reducible refine(zj.calls a0_0 a0_1 a0_2 a1_0 a1_1 a1_2 true _ A3.out).mono ?_);rintro e w10 ⟨rfl,hb⟩;refine⟨_,rfl,?_⟩;replace BK117:=am (qv (g:=gb117) (o:=.cells #[.int .i64 a0_0,.int .i64 a0_1,.int .i64 a0_2] 43 (0,0)) (pk_ BK117) hb);replace BK118:=am (qv (g:=gb118) (o:=.cells #[.int .i64 a1_0,.int .i64 a1_1,.int .i64 a1_2] 43 (0,0)) (pk_ BK118) hb);replace HB:=am (jg (bx_ HB) hb);(try clear hb)))
  go_ret
  exact⟨fq,bx_ HB⟩
 ·replace c4:=Bool.eq_false_iff.mpr c4
  subst c4
  rw[if_neg (show ¬ (false=true) by decide)]at H
  obtain rfl:=Option.some.inj H
  go_enter Try.func68,Try.ntmps68
  go_wp2_with (first | ((with_reducible refine zb (N:=2) rfl ?_);refine xe_ 2 43 #[.int .i64 a0_0,.int .i64 a0_1,.int .i64 a0_2] ?_;intro gb117 hg w11 hbox hb;have BK117:=am (hbox);have GW117:=am ((by rw[hg];exact(bz HB):w.heap.size≤gb117));have GE117:=am ((by rw[hg];exact(bz HB):w.heap.size≤gb117));replace HB:=bq HB hb;clear hb hbox hg) | ((with_reducible refine zb (N:=3) rfl ?_);refine xe_ 3 43 #[.int .i64 a1_0,.int .i64 a1_1,.int .i64 a1_2] ?_;intro gb118 hg w12 hbox hb;have BK118:=am (hbox);have GW118:=am ((by rw[hg];exact(zo (bx_ HB)):w.heap.size≤gb118));have GE118:=am ((by rw[hg];exact(zo (bx_ HB)):w.heap.size≤gb118));replace HB:=am (jg (bx_ HB) hb);have NB117_118:=am ((by rw[hg];exact Nat.ne_of_lt (jy (g:=gb117) (o:=.cells #[.int .i64 a0_0,.int .i64 a0_1,.int .i64 a0_2] 43 (0,0)) (pk_ BK117)):gb117≠gb118));have NB118_117:=am ((by rw[hg];exact Nat.ne_of_gt (jy (g:=gb117) (o:=.cells #[.int .i64 a0_0,.int .i64 a0_1,.int .i64 a0_2] 43 (0,0)) (pk_ BK117)):gb118≠gb117));replace BK117:=am (qv (g:=gb117) (o:=.cells #[.int .i64 a0_0,.int .i64 a0_1,.int .i64 a0_2] 43 (0,0)) (pk_ BK117) hb);clear hb hbox hg;have hnb13:=NB117_118.out;have hnc13:=NB118_117.out;have hcz14_0:w12.cell? ⟨gb117,0,none⟩=some (.int .i64 a0_0):=(qe BK117.out 0).trans rfl;have hcz14_1:w12.cell? ⟨gb117,1,none⟩=some (.int .i64 a0_1):=(qe BK117.out 1).trans rfl;have hcz14_2:w12.cell? ⟨gb117,2,none⟩=some (.int .i64 a0_2):=(qe BK117.out 2).trans rfl;have hfz14_0:=ql BK117.out 0;have hfz14_1:=ql BK117.out 1;have hfz14_2:=ql BK117.out 2;have hcz15_0:w12.cell? ⟨gb118,0,none⟩=some (.int .i64 a1_0):=(qe BK118.out 0).trans rfl;have hcz15_1:w12.cell? ⟨gb118,1,none⟩=some (.int .i64 a1_1):=(qe BK118.out 1).trans rfl;have hcz15_2:w12.cell? ⟨gb118,2,none⟩=some (.int .i64 a1_2):=(qe BK118.out 2).trans rfl;have hfz15_0:=ql BK118.out 0;have hfz15_1:=ql BK118.out 1;have hfz15_2:=ql BK118.out 2) | ((with_reducible refine qt (f:=116) rfl ?_);refine gl 9 Try.func116 #[.agg #[.int .i64 a0_0,.int .i64 a0_1,.int .i64 a0_2],.agg #[.int .i64 a1_0,.int .i64 a1_1,.int .i64 a1_2]] ?_;(with_reducible refine(zj.calls a0_0 a0_1 a0_2 a1_0 a1_1 a1_2 false _ A3.out).mono ?_);rintro e w16 ⟨rfl,hb⟩;refine⟨_,rfl,?_⟩;replace BK117:=am (qv (g:=gb117) (o:=.cells #[.int .i64 a0_0,.int .i64 a0_1,.int .i64 a0_2] 43 (0,0)) (pk_ BK117) hb);replace BK118:=am (qv (g:=gb118) (o:=.cells #[.int .i64 a1_0,.int .i64 a1_1,.int .i64 a1_2] 43 (0,0)) (pk_ BK118) hb);replace HB:=am (jg (bx_ HB) hb);(try clear hb)))
  go_ret
  exact⟨fq,bx_ HB⟩
end Go.Proofs.Ytmgbpmihbljngaa.PA
