-- Written by xprint.py, a program of this claim's own (over the kit's print.py)
import Derived.Test.YtmgbpmihbljngaaPAx25
namespace Go.Proofs.Ytmgbpmihbljngaa.PA
set_option maxHeartbeats 8000000
set_option maxRecDepth 100000
open Go.RowKit Go.Proofs.YtmgbpmihbljngaaW.PrintWords Go.Proofs.YtmgbpmihbljngaaW.PrintLast Go.Proofs.YtmgbpmihbljngaaW.PrintMore
attribute [local go_sem] Qg Qj Qp Qo j4 j3 Qh Qf
set_option linter.unusedVariables false
set_option linter.unusedSimpArgs false
def jn.l0 :Nat→List Int→List (List Int)→Int→Int→Option (List Int)
 | 0,_,_,_,_=>none
 | k+1,x5,x11,x12,x13=>if x13 < x12 then (if 0≤x13 then (if x13 < (x11.length:Int) then (if x5.length+(jk x11 x13).length < 17592186044416 then (jn.l0 k (x5++(jk x11 x13)) x11 x12 (wrap64 (x13+1))) else (none)) else (none)) else (none)) else (some x5)
def jn.f (k:Nat) (a0:Int) (l1:List (List Int)):Option (List Int):=(Qc.f k a0 l1).bind fun t691=>(jn.l0 k (([]:List Int)) t691 (t691.length:Int) 0)
theorem jn.mono_l :∀ k,(∀ y0 y1 y2 y3,LeO (jn.l0 k y0 y1 y2 y3) (jn.l0 (k+1) y0 y1 y2 y3))
 | 0=>fun _ _ _ _ r h=>by simp[jn.l0]at h
 | k+1=>by
  have ih0:=jn.mono_l k
  ·intro y0 y1 y2 y3
   unfold jn.l0
   repeat' first | (with_reducible first | apply ih0 | apply Qc.mono | exact LeO.refl _ | exact LeO.none _ | refine LeO.ite ?_ ?_ | refine LeO.bind ?_ (fun _=>?_)) | (first | apply ih0 | apply Qc.mono | exact LeO.none _ | refine LeO.ite ?_ ?_ | refine LeO.bind ?_ (fun _=>?_))
theorem jn.mono :∀ a0 a1 k,LeO (jn.f k a0 a1) (jn.f (k+1) a0 a1):=by
 intro a0 a1 k
 have ih0:=jn.mono_l k
 unfold jn.f
 repeat' first | (with_reducible first | apply ih0 | apply Qc.mono | exact LeO.refl _ | exact LeO.none _ | refine LeO.ite ?_ ?_ | refine LeO.bind ?_ (fun _=>?_)) | (first | apply ih0 | apply Qc.mono | exact LeO.none _ | refine LeO.ite ?_ ?_ | refine LeO.bind ?_ (fun _=>?_))
theorem jn.calls (k:Nat) (a0:Int) (A1:Option Addr) (c1:Nat) (l1:List (List Int)) (r:List Int) (w:World) (hr1:Kd.C (Kd.slice 3 (Kd.int .i64)) w A1 l1.length l1) (hc1:l1.length≤c1) (h:jn.f k a0 l1=some r):
  Calls Try.prog 136 #[.int .i64 a0,.slice A1 l1.length c1] w fun e w'=>∃ v0_:Value,e=.returned (v0_)∧Kd.R (Kd.int .i64) 3 w' w.heap.size (fun _=>True) v0_ r∧Below w.heap.size w w':=by
 have HR1:=am hr1
 have HC1:=am hc1
 clear hr1 hc1
 have HB:=am (Below.refl w.heap.size w)
 have H:((Qc.f k a0 l1).bind fun t691=>(jn.l0 k (([]:List Int)) t691 (t691.length:Int) 0))=some r:=h
 clear h
 generalize hy688:(([]:List Int))=y688 at H
 have Ny688:=am hy688.symm;clear hy688;replace H:=bs H;obtain⟨t691,A3,H⟩:=H;have H':=am H;clear H
 go_enter Try.func136,Try.ntmps136
 go_wp2_with (first | ((with_reducible refine q7 (N:=8) rfl ?_);refine li 3 ([]:List Int) ?_;intro v689 w4 ho5 hb;(first | rw[← Ny688.out]at ho5 | (simp only[Int.reduceToNat]at ho5;rw[← Ny688.out]at ho5));have HO690:=am (Kd.R_lower ho5 (bz HB));replace HB:=bq HB hb;clear hb ho5) | ((with_reducible refine qe (f:=152) rfl ?_);refine gl 11 Try.func152 #[.int .i64 a0,.slice A1 l1.length c1] ?_;(with_reducible refine(Qc.calls k a0 _ _ l1 t691 _ ?_ ?_ A3.out).mono ?_);exact Kd.C_below HR1.out (bw HB);exact HC1.out;rintro e w6 ⟨v692,rfl,ho0,hb⟩;refine⟨_,rfl,?_⟩;have HO693:=am (Kd.S_lower (Kd.S_new' ho0 (Kd.R_lt (wR HO690))) (bz HB));replace HO690:=am (Kd.R_below (wR HO690) hb);replace HB:=bq HB hb;(try clear hb);(try clear ho0);obtain⟨Ao7,co7,eo7⟩:=Kd.S_slice HO693.out;subst eo7))
 go_loopg [5,13] k (fun kq v5 v13 w'=>∃ (x5_1:List Int) (x13_1:Int),v13=.int .i64 x13_1∧qa (jn.l0 kq x5_1 t691 (t691.length:Int) x13_1=some r)∧qa (kq≤k)∧qa (Kd.R (Kd.int .i64) 3 w' w.heap.size (fun _=>True) v5 x5_1)∧qa (Kd.S (Kd.slice 3 (Kd.int .i64)) 23 w' w.heap.size (fun k_=>some k_≠(v5:Value).ownBlock) (.slice Ao7 t691.length co7) t691)∧qa (Below w.heap.size w w'))
 case atStart=>exact⟨(y688),(0),fr,H',⟨Nat.le_refl _⟩,⟨wR HO690⟩,⟨Kd.S_below (Kd.S_mono HO693.out (fun _ hk=>hk.2)) gs⟩,⟨bw HB⟩⟩
 case round=>
  clear H';try clear c1;try clear p2
  obtain⟨x5_1,x13_1,rfl,HA,HK1,HO_5,HO_11,HB⟩:=hrel
  cases gk with
  | zero=>exact absurd HA.out (by simp[jn.l0])
  | succ k1=>
   have H:=HA.out;clear HA
   simp only[jn.l0]at H
   by_cases c8:x13_1 < (t691.length:Int)
   ·rw[if_pos c8]at H
    have c8b0:=decide_eq_true c8;clear c8;replace H:=ifn H;obtain⟨c9,H⟩:=H;have c9b0:=decide_eq_true c9;clear c9;replace H:=ifn H;obtain⟨c10,H⟩:=H;have c10b0:=decide_eq_true c10;clear c10;replace H:=ifn H;obtain⟨c11,H⟩:=H
    have LMc11:=am c11;clear c11
    generalize hy695:(x5_1++(jk t691 x13_1):List Int)=y695 at H
    have Ny695:=am hy695.symm;clear hy695;have H':=am H;clear H
    have p694:0≤(x13_1:Int):=od
    have q694:x13_1 < (t691.length:Int):=od
    obtain⟨ad694,A694_0,c694_0,e694,hx694_0,hl694_0,hi694_0⟩:=J5 (Kd.S_reads' HO_11.out).2.2 x13_1 p694 q694
    cases e694
    obtain⟨ce694,hce694,hMe694,hcc694⟩:=Kd.S_get HO_11.out [] x13_1 p694 (by first | exact q694 | exact od | (have e_:=(Kd.S_reads' HO_11.out).1;omega))
    obtain⟨ve694_0,rfl,ge694_0⟩:=hMe694
    have hv694_0:=hcc694 0 _ rfl
    rw[Nat.add_zero,show ((Kd.slice 3 (Kd.int .i64))).sz=1 from rfl,Nat.mul_one]at hv694_0
    replace hv694_0:=Option.some.inj (hv694_0.symm.trans hx694_0)
    rw[hv694_0]at ge694_0
    have HL694_0:=am (show Kd.R (Kd.int .i64) 3 _ _ _ _ (jk t691 x13_1) from ge694_0)
    clear hv694_0 ge694_0;clear hcc694 hce694
    have HR694_0:=am hi694_0
    have HC694_0:=am hl694_0
    clear hi694_0 hl694_0;replace p694:=eq_true p694;replace q694:=eq_true q694
    go_wp2_with (first | ((with_reducible refine ji (b:=.append) (xs:=#[.tmp 17,.tmp 18]) rfl ?_);at_builtin;refine Kd.R_append_rows (Kd.int .i64) (w0:=w) w.heap.size rfl (.tmp 17) (.tmp 18) 23 3 (.int .i64 0) 8 rfl Try.underlying23 Q1 rfl (by decide) (by omega) u5 x5_1 (jk t691 x13_1) _ _ _ (fun _=>True) (fun _=>False) rfl rfl ?aO ?aR (fun _ _ h=>h) (fun _ h=>h.elim) ?aF ?aB ?aS ?aL ?_;(case aR=>exact wC HR694_0);(case aB=>exact(bw HB));(case aF=>exact(fun _ _=>trivial));(case aO=>exact(wR HO_5));(case aS=>exact(bz HB));(case aL=>have:=LMc11.out;omega);intro v696 w12 ho hb hg hat;rw[← Ny695.out]at ho;replace HO_11:=am (Kd.S_after (ok:=(fun _=>True)) (oS_ HO_11 (fun _ hk=>⟨trivial,hk⟩)) hg hat);replace HL694_0:=am (Kd.R_after (ok:=(fun k_=>some k_≠(.slice (some ad694) t691.length co7:Value).ownBlock)) (oR_ HL694_0 (fun _ hk=>⟨hk.2,hk.1⟩)) hg hat);replace HB:=am (hb);have HO697:=am (ho);clear HO_5;clear ho hb hg hat))
    go_roundg k1
    case measure=>have:=HK1.out;omega
    case rel=>exact⟨(y695),(wrap64 (x13_1+1)),fr,H',⟨by have:=HK1.out;omega⟩,⟨wR HO697⟩,⟨Kd.S_below (Kd.S_mono HO_11.out (fun _ hk=>hk.2)) gs⟩,⟨bw HB⟩⟩
   ·rw[if_neg c8]at H
    have c8b0:=decide_eq_false c8;clear c8;obtain rfl:=Option.some.inj H;go_wp2;go_ret
    exact⟨_,fq,wR HO_5,bw HB⟩
def q9.l0 :Nat→List Int→List Int→Int→Int→Option (Bool)
 | 0,_,_,_,_=>none
 | k+1,x0,x1,x12,x13=>if x13 < x12 then (if 0≤x13 then (if x13 < (x0.length:Int) then (if x13 < (x1.length:Int) then (if (rd x0 x13)=(rd x1 x13) then (q9.l0 k x0 x1 x12 (wrap64 (x13+1))) else (some false)) else (none)) else (none)) else (none)) else (some true)
def q9.f (k:Nat) (l0:List Int) (l1:List Int):Option (Bool):=if (l0.length:Int)=(l1.length:Int) then (q9.l0 k l0 l1 (l0.length:Int) 0) else (some false)
theorem q9.mono_l :∀ k,(∀ y0 y1 y2 y3,LeO (q9.l0 k y0 y1 y2 y3) (q9.l0 (k+1) y0 y1 y2 y3))
 | 0=>fun _ _ _ _ r h=>by simp[q9.l0]at h
 | k+1=>by
  have ih0:=q9.mono_l k
  ·intro y0 y1 y2 y3
   unfold q9.l0
   repeat' first | (with_reducible first | apply ih0 | exact LeO.refl _ | exact LeO.none _ | refine LeO.ite ?_ ?_ | refine LeO.bind ?_ (fun _=>?_)) | (first | apply ih0 | exact LeO.none _ | refine LeO.ite ?_ ?_ | refine LeO.bind ?_ (fun _=>?_))
theorem q9.mono :∀ a0 a1 k,LeO (q9.f k a0 a1) (q9.f (k+1) a0 a1):=by
 intro a0 a1 k
 have ih0:=q9.mono_l k
 unfold q9.f
 repeat' first | (with_reducible first | apply ih0 | exact LeO.refl _ | exact LeO.none _ | refine LeO.ite ?_ ?_ | refine LeO.bind ?_ (fun _=>?_)) | (first | apply ih0 | exact LeO.none _ | refine LeO.ite ?_ ?_ | refine LeO.bind ?_ (fun _=>?_))
theorem q9.calls (k:Nat) (A0:Option Addr) (c0:Nat) (l0:List Int) (A1:Option Addr) (c1:Nat) (l1:List Int) (r:Bool) (w:World) (hr0:Kd.C (Kd.int .i64) w A0 l0.length l0) (hc0:l0.length≤c0) (hr1:Kd.C (Kd.int .i64) w A1 l1.length l1) (hc1:l1.length≤c1) (h:q9.f k l0 l1=some r):
  Calls Try.prog 148 #[.slice A0 l0.length c0,.slice A1 l1.length c1] w fun e w'=>e=.returned (.bool r)∧Drawn0 w w':=by
 have HR0:=am hr0
 have HC0:=am hc0
 clear hr0 hc0
 have HR1:=am hr1
 have HC1:=am hc1
 clear hr1 hc1
 have H:(if (l0.length:Int)=(l1.length:Int) then (q9.l0 k l0 l1 (l0.length:Int) 0) else (some false))=some r:=h
 clear h
 by_cases c3:(l0.length:Int)=(l1.length:Int)
 ·rw [if_pos c3] at H
  have c3b0:=beq_iff_eq.mpr c3;have c3b1:=bne_eq_false_iff_eq.mpr c3
  have c3b2:(l0.length == l1.length)=true:=by first | simpa using c3 | (simp at c3 ⊢;omega)
  clear c3;have H':=am H;clear H
  go_enter Try.func148,Try.ntmps148
  go_wp2
  repeat (go_quiet (fail);try go_wp2)
  go_loopg [13] k (fun kq v13 w'=>∃ (x13_1:Int),v13=.int .i64 x13_1∧qa (q9.l0 kq l0 l1 (l0.length:Int) x13_1=some r)∧qa (kq≤k)∧Drawn0 w w')
  case atStart=>exact⟨(0),fr,H',⟨Nat.le_refl _⟩,df⟩
  case round=>
   clear H';try clear c1;try clear p2;try clear c3;try clear c3b0;try clear c3b1;try clear c3b2
   obtain⟨x13_1,rfl,HA,HK1,⟨m1,rfl⟩⟩:=hrel
   cases gk with
   | zero=>exact absurd HA.out (by simp[q9.l0])
   | succ k1=>
    have H:=HA.out;clear HA
    simp only[q9.l0]at H
    by_cases c4:x13_1 < (l0.length:Int)
    ·rw[if_pos c4]at H
     have c4b0:=decide_eq_true c4;clear c4;replace H:=ifn H;obtain⟨c5,H⟩:=H;have c5b0:=decide_eq_true c5;clear c5;replace H:=ifn H;obtain⟨c6,H⟩:=H;have c6b0:=decide_eq_true c6;clear c6;replace H:=ifn H;obtain⟨c7,H⟩:=H
     have c7b0:=decide_eq_true c7;clear c7
     by_cases c8:(rd l0 x13_1)=(rd l1 x13_1)
     ·rw[if_pos c8]at H
      have c8b0:=beq_iff_eq.mpr c8;have c8b1:=bne_eq_false_iff_eq.mpr c8;clear c8;have H':=am H;clear H
      have p698:0≤(x13_1:Int):=od
      have q698:x13_1 < (l0.length:Int):=od
      obtain⟨ad698,e698,hx698_0⟩:=Kd.at_int HR0.out x13_1 p698 q698
      cases e698;replace p698:=eq_true p698;replace q698:=eq_true q698
      have p699:0≤(x13_1:Int):=od
      have q699:x13_1 < (l1.length:Int):=od
      obtain⟨ad699,e699,hx699_0⟩:=Kd.at_int HR1.out x13_1 p699 q699
      cases e699;replace p699:=eq_true p699;replace q699:=eq_true q699;go_wp2
      repeat (go_quiet (fail);try go_wp2)
      go_roundg k1
      case measure=>have:=HK1.out;omega
      case rel=>exact⟨(wrap64 (x13_1+1)),fr,H',⟨by have:=HK1.out;omega⟩,df⟩
     ·rw[if_neg c8]at H
      have c8b0:=beq_eq_false_iff_ne.mpr c8;have c8b1:=bne_iff_ne.mpr c8;obtain rfl:=Option.some.inj H
      have p698:0≤(x13_1:Int):=od
      have q698:x13_1 < (l0.length:Int):=od
      obtain⟨ad698,e698,hx698_0⟩:=Kd.at_int HR0.out x13_1 p698 q698
      cases e698;replace p698:=eq_true p698;replace q698:=eq_true q698
      have p699:0≤(x13_1:Int):=od
      have q699:x13_1 < (l1.length:Int):=od
      obtain⟨ad699,e699,hx699_0⟩:=Kd.at_int HR1.out x13_1 p699 q699
      cases e699;replace p699:=eq_true p699;replace q699:=eq_true q699;go_wp2
      repeat (go_quiet (fail);try go_wp2)
      go_ret
      exact⟨fr,df⟩
    ·rw[if_neg c4]at H
     have c4b0:=decide_eq_false c4;clear c4;obtain rfl:=Option.some.inj H;go_wp2
     repeat (go_quiet (fail);try go_wp2)
     go_ret
     exact⟨fr,df⟩
 ·rw[if_neg c3]at H
  have c3b0:=beq_eq_false_iff_ne.mpr c3;have c3b1:=bne_iff_ne.mpr c3
  have c3b2:(l0.length == l1.length)=false:=by first | simpa using c3 | (simp at c3 ⊢;omega)
  obtain rfl:=Option.some.inj H
  go_enter Try.func148,Try.ntmps148
  go_wp2
  repeat (go_quiet (fail);try go_wp2)
  go_ret
  exact⟨fr,df⟩
def Z1.f (l0:List Int):Option ((List (List Int))):=if 4≤(l0.length:Int) then (some (([(l0.take 4),(l0.drop 4)]:List (List Int)))) else (none)
theorem Z1.calls (P0_:Nat→Prop) (A0:Option Addr) (c0:Nat) (l0:List Int) (r:List (List Int)) (w:World) (hs0:Kd.V (Kd.int .i64) 3 w w.heap.size (fun k_=>P0_ k_) (.slice A0 l0.length c0) l0) (h:Z1.f l0=some r):
  Calls Try.prog 149 #[.slice A0 l0.length c0] w fun e w'=>∃ v0_:Value,e=.returned (v0_)∧Kd.N (Kd.slice 3 (Kd.int .i64)) 23 w' w.heap.size (fun k_=>(P0_ k_∨w.heap.size≤k_)) v0_ r∧Below w.heap.size w w':=by
 have HO0:=am (show Kd.V (Kd.int .i64) 3 w w.heap.size (fun k_=>(P0_ k_∨w.heap.size≤k_)) (.slice A0 l0.length c0) l0 from Kd.V_mono hs0 (fun k_ hk=>.inl hk))
 have HB:=am (Below.refl w.heap.size w)
 have H:(if 4≤(l0.length:Int) then (some (([(l0.take 4),(l0.drop 4)]:List (List Int)))) else (none))=some r:=h
 clear h
 by_cases c2:4≤(l0.length:Int)
 ·rw[if_pos c2]at H
  have c2b0:=eq_true c2;have c2b1:=decide_eq_true c2;clear c2
  generalize hy700:(l0.take 4:List Int)=y700 at H
  have Ny700:=am hy700.symm;clear hy700
  have c3b0:=eq_true (od:4≤(l0.length:Int))
  generalize hy705:(l0.drop 4:List Int)=y705 at H
  have Ny705:=am hy705.symm;clear hy705
  generalize hy710:(([y700,y705]:List (List Int)))=y710 at H
  have Ny710:=am hy710.symm;clear hy710;obtain rfl:=Option.some.inj H
  go_enter Try.func149,Try.ntmps149
  try go_wp2
  replace HO0:=am (Kd.V_drew HO0.out)
  replace HB:=am (qv HB.out)
  have q5:(4:Int)≤((l0.length:Int):Int):=od
  obtain⟨i05,hi05,_,hsz5,_⟩:=info_parts Q1
  have hroom5:l0.length≤c0:=(Kd.V_reads' HO0.out).2.1
  have hC5:Kd.F (Kd.int .i64) _ _ A0 l0.length l0:=(Kd.V_at (base:=w.heap.size) HO0.out).2.2
  have hcut5:=qkn (P:=Try.prog) 23 3 .i64 Try.underlying23 hi05 A0 l0.length c0 4 (by omega) q5 hroom5
  have hr5:=Kd.F_take (m:=4) hC5 (by omega)
  have hy5:y700.length=(4:Int).toNat:=(by rw[Ny700.out,List.length_take];omega)
  rw[← Ny700.out]at hr5
  rw[← hy5]at hcut5
  have HO704:=am (show Kd.V (Kd.int .i64) 3 _ w.heap.size _ (.slice A0 y700.length c0) y700 from Kd.V_mk (by omega) hr5)
  have HC704:=am (show y700.length≤c0 from by omega)
  clear hr5 hC5 hroom5 hi05 hsz5
  have KY5:=am hy5
  clear hy5;replace q5:=eq_true q5
  have q6:(4:Int)≤((l0.length:Int):Int):=od
  obtain⟨i06,hi06,_,hsz6,_⟩:=info_parts Q1
  have hroom6:l0.length≤c0:=(Kd.V_reads' HO0.out).2.1
  have hC6:Kd.F (Kd.int .i64) _ _ A0 l0.length l0:=(Kd.V_at (base:=w.heap.size) HO0.out).2.2
  have hcut6:=qh8 (P:=Try.prog) 23 3 .i64 Try.underlying23 hi06 1 hsz6 A0 l0.length c0 4 (by omega) q6
  have hr6:=Kd.F_cut (m:=(4:Int).toNat) (c:=c0) hC6 (by omega) hroom6
  obtain⟨A6,hA6⟩:∃ Az_,Az_=(if c0=(4:Int).toNat then A0 else (A0:Option Addr).map (·.add ((4:Int).toNat*1))):=⟨_,rfl⟩
  obtain⟨c6,hc6⟩:∃ cz_,cz_=c0 - (4:Int).toNat:=⟨_,rfl⟩
  have hy6:y705.length=l0.length - (4:Int).toNat:=(by rw[Ny705.out,List.length_drop]<;>omega)
  rw[show (l0).drop (4:Int).toNat=y705 from Ny705.out.symm]at hr6
  replace hr6:Kd.F (Kd.int .i64) _ _ A6 y705.length y705:=(by rw[hA6];exact hr6)
  rw[← hy6,← hA6,← hc6]at hcut6
  have HO709:=am (show Kd.V (Kd.int .i64) 3 _ w.heap.size _ (.slice A6 y705.length c6) y705 from Kd.V_mk (by rw[hy6,hc6];exact Nat.sub_le_sub_right hroom6 _) hr6)
  have HC709:=am (show y705.length≤c6 from by rw[hy6,hc6];exact Nat.sub_le_sub_right hroom6 _)
  clear hr6 hC6 hroom6 hi06 hsz6 hc6
  have KY6:=am hy6
  have KA6:=am hA6
  clear hy6 hA6;replace q6:=eq_true q6
  refine qn4 (n:=6) (S:=fun w'=>True) (ds:=[]) #[false,false,false,false,false,false] (by kernel_rfl) rfl rfl trivial (fun hHeld=>?_)
  generalize w.drew=w4 at HO0 HB HO704 HO709 hHeld ⊢
  refine qfw (i:=0) (N:=some 3) (v:=?_) (a':=?_) #[true,false,false,false,false,false] rfl rfl (by kernel_rfl) (fun _ _ _ h=>h) (Or.inl ⟨by rfl,?_⟩) ?_ ?_
  rotate_left
  ·intro w'
   go_simp
   with_reducible rfl
  rotate_left
  ·simp only[Act.put,List.setIfInBounds_toArray,List.set_cons_zero,List.set_cons_succ,Z7,J6]
   rfl
  refine qfw (i:=1) (N:=some 4) (v:=?_) (a':=?_) #[true,true,false,false,false,false] rfl rfl (by kernel_rfl) (fun _ _ _ h=>h) (Or.inl ⟨by rfl,?_⟩) ?_ ?_
  rotate_left
  ·intro w'
   go_simp
   with_reducible rfl
  rotate_left
  ·simp only[Act.put,List.setIfInBounds_toArray,List.set_cons_zero,List.set_cons_succ,Z7,J6]
   rfl
  refine qfw (i:=2) (N:=some 5) (v:=?_) (a':=?_) #[true,true,true,false,false,false] rfl rfl (by kernel_rfl) (fun _ _ _ h=>h) (Or.inl ⟨by rfl,?_⟩) ?_ ?_
  rotate_left
  ·intro w'
   go_simp
   with_reducible rfl
  rotate_left
  ·simp only[Act.put,List.setIfInBounds_toArray,List.set_cons_zero,List.set_cons_succ,Z7,J6]
   rfl
  refine qfw (i:=3) (N:=some 6) (v:=?_) (a':=?_) #[true,true,true,true,false,false] rfl rfl (by kernel_rfl) (fun _ _ _ h=>h) (Or.inl ⟨by rfl,?_⟩) ?_ ?_
  rotate_left
  ·intro w'
   go_simp
   with_reducible rfl
  rotate_left
  ·simp only[Act.put,List.setIfInBounds_toArray,List.set_cons_zero,List.set_cons_succ,Z7,J6]
   rfl
  refine one_ (i:=4) (N:=some 7) #[true,true,true,true,true,false] rfl rfl (by kernel_rfl) (by decide) (fun K hK=>?_)
  refine Kd.N_lit_step (Kd.slice 3 (Kd.int .i64)) _ 23 ?hg (N':=7) ?hd (xs:=([y700,y705]:List (List Int))) (inner:=[.slice A0 y700.length c0,.slice A6 y705.length c6]) (ok:=(fun k_=>(P0_ k_∨w.heap.size≤k_))) (okp:=(fun k_=>(P0_ k_∨w.heap.size≤k_))) ?hr ?hp (fun _ hk=>hk) ((show ∀ k_,w4.heap.size≤k_→(fun k_=>(P0_ k_∨w.heap.size≤k_)) k_ from fun k_ hk=>(.inr (Nat.le_trans (bz HB) hk))) _ (Nat.le_refl _)) (Below.refl _ _) (Nat.le_refl _) (by simp) ?_;(case hd=>rfl);(case hg=>rfl);(case hr=>first | (go_simp;done) | (go_simp;rfl));(case hp=>exact(Reps.one (show Kd.FK (Kd.slice 3 (Kd.int .i64)) _ _ y700 [.slice A0 y700.length c0] from (Kd.FK_slice_mk (Kd.V_reads' (HO704.out)).2.1 (Kd.V_F (wV HO704)))) (Reps.one (show Kd.FK (Kd.slice 3 (Kd.int .i64)) _ _ y705 [.slice A6 y705.length c6] from (Kd.FK_slice_mk (Kd.V_reads' (HO709.out)).2.1 (Kd.V_F (wV HO709)))) (Reps.none _ _))))
  intro v711 w7 ho8 hb hg_ hnew_
  clear hg_ hnew_
  (first | rw[← Ny710.out]at ho8 | (simp only[Int.reduceToNat]at ho8;rw[← Ny710.out]at ho8))
  replace HO0:=eV HO0 (Kd.N_base ho8) hb
  replace HO704:=eV HO704 (Kd.N_base ho8) hb
  replace HO709:=eV HO709 (Kd.N_base ho8) hb
  have HO712:=am (Kd.N_lower ho8 (bz HB))
  replace HB:=bq HB hb
  clear hb ho8
  refine hK.out _ _ trivial fun hHeld=>nz ?_
  clear hK K
  refine qfw (i:=5) (N:=some 2) (v:=?_) (a':=?_) #[true,true,true,true,true,true] rfl rfl (by kernel_rfl) (fun _ _ _ h=>h) (Or.inl ⟨by rfl,?_⟩) ?_ ?_
  rotate_left
  ·intro w'
   go_simp
   with_reducible rfl
  rotate_left
  ·simp only[Act.put,List.setIfInBounds_toArray,List.set_cons_zero,List.set_cons_succ,Z7,J6]
   rfl
  refine Zo (by kernel_rfl) ?_
  try go_wp2
  go_ret
  exact⟨_,fq,wN HO712,bw HB⟩
 ·rw[if_neg c2]at H
  exact absurd H (by simp)
def ju.f (k:Nat) (a0:Int) (l1:List Int):Option (Bool):=(ja.f a0 l1 8).bind fun t713=>(if t713=true then ((Z1.f l1).bind fun t714=>((jn.f k a0 t714).bind fun t717=>((q9.f k t717 l1).bind fun t720=>(some t720)))) else (some false))
theorem ju.mono :∀ a0 a1 k,LeO (ju.f k a0 a1) (ju.f (k+1) a0 a1):=by
 intro a0 a1 k
 unfold ju.f
 repeat' first | (with_reducible first | apply jn.mono | apply q9.mono | exact LeO.refl _ | exact LeO.none _ | refine LeO.ite ?_ ?_ | refine LeO.bind ?_ (fun _=>?_)) | (first | apply jn.mono | apply q9.mono | exact LeO.none _ | refine LeO.ite ?_ ?_ | refine LeO.bind ?_ (fun _=>?_))
theorem ju.calls (k:Nat) (a0:Int) (A1:Option Addr) (c1:Nat) (l1:List Int) (r:Bool) (w:World) (hr1:Kd.C (Kd.int .i64) w A1 l1.length l1) (hc1:l1.length≤c1) (h:ju.f k a0 l1=some r):
  Calls Try.prog 93 #[.int .i64 a0,.slice A1 l1.length c1] w fun e w'=>e=.returned (.bool r)∧Below w.heap.size w w':=by
 have HR1:=am hr1
 have HC1:=am hc1
 clear hr1 hc1
 have HB:=am (Below.refl w.heap.size w)
 have H:((ja.f a0 l1 8).bind fun t713=>(if t713=true then ((Z1.f l1).bind fun t714=>((jn.f k a0 t714).bind fun t717=>((q9.f k t717 l1).bind fun t720=>(some t720)))) else (some false)))=some r:=h
 clear h;replace H:=bs H;obtain⟨t713,A3,H⟩:=H
 by_cases c4:t713=true
 ·subst c4
  rw[if_pos rfl]at H
  replace H:=bs H;obtain⟨t714,A5,H⟩:=H;replace H:=bs H;obtain⟨t717,A6,H⟩:=H;replace H:=bs H;obtain⟨t720,A7,H⟩:=H;obtain rfl:=Option.some.inj H
  go_enter Try.func93,Try.ntmps93
  go_wp2_with (first | ((with_reducible refine qe (f:=52) rfl ?_);refine gl 7 Try.func52 #[.int .i64 a0,.slice A1 l1.length c1,.int .i64 8] ?_;(with_reducible refine(ja.calls a0 _ _ l1 8 true _ ?_ ?_ A3.out).mono ?_);exact wC HR1;exact HC1.out;rintro e w8 ⟨rfl,hb⟩;refine⟨_,rfl,?_⟩;replace HB:=bq HB hb;(try clear hb)) | (go_at_call 149;(with_reducible refine(Z1.calls (fun k_=>k_ < w.heap.size) _ _ l1 t714 _ ?_ A5.out).mono ?_);exact Kd.V_mk HC1.out (Kd.F_below (Kd.C_F (Kd.heap_int .i64) HR1.out) (bw HB));rintro e w9 ⟨v715,rfl,ho0,hb⟩;have HO716:=am (Kd.N_lower (Kd.N_mono (ok':=fun k_=>True) ho0 (fun k_ hk_=>trivial)) (bz HB));replace HB:=bq HB hb;(try clear hb);(try clear ho0);obtain⟨Ao10,co10,eo10⟩:=Kd.N_slice HO716.out;subst eo10) | (go_at_call 136;(with_reducible refine(jn.calls k a0 _ _ t714 t717 _ ?_ ?_ A6.out).mono ?_);exact Kd.C_below (Kd.N_reads' HO716.out).2.2 gs;exact(Kd.N_reads' HO716.out).2.1;rintro e w11 ⟨v718,rfl,ho0,hb⟩;replace HO716:=eN HO716 (Kd.R_base ho0) hb;have HO719:=am (Kd.R_lower ho0 (bz HB));replace HB:=bq HB hb;(try clear hb);(try clear ho0);obtain⟨Ao12,co12,eo12⟩:=Kd.R_slice HO719.out;subst eo12) | (go_at_call 148;(with_reducible refine(q9.calls k _ _ t717 _ _ l1 t720 _ ?_ ?_ ?_ ?_ A7.out).mono ?_);exact Kd.C_below (Kd.R_reads' HO719.out).2.2 gs;exact(Kd.R_reads' HO719.out).2.1;exact Kd.C_below HR1.out (bw HB);exact HC1.out;rintro e w' ⟨rfl,⟨nd,rfl⟩⟩))
  go_ret
  exact⟨fq,bw HB⟩
 ·replace c4:=Bool.eq_false_iff.mpr c4
  subst c4
  rw[if_neg (show ¬ (false=true) by decide)]at H
  obtain rfl:=Option.some.inj H
  go_enter Try.func93,Try.ntmps93
  go_wp2_with (first | ((with_reducible refine qe (f:=52) rfl ?_);refine gl 7 Try.func52 #[.int .i64 a0,.slice A1 l1.length c1,.int .i64 8] ?_;(with_reducible refine(ja.calls a0 _ _ l1 8 false _ ?_ ?_ A3.out).mono ?_);exact wC HR1;exact HC1.out;rintro e w13 ⟨rfl,hb⟩;refine⟨_,rfl,?_⟩;replace HB:=bq HB hb;(try clear hb)))
  go_ret
  exact⟨fq,bw HB⟩
end Go.Proofs.Ytmgbpmihbljngaa.PA
