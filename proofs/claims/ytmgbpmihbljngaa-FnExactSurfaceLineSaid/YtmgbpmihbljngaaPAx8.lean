-- Written by xprint.py, a program of this claim's own (over the kit's print.py)
import Derived.Test.YtmgbpmihbljngaaPAx7
namespace Go.Proofs.Ytmgbpmihbljngaa.PA
open Go.RowKit Go.Proofs.YtmgbpmihbljngaaW.PrintWords Go.Proofs.YtmgbpmihbljngaaW.PrintLast Go.Proofs.YtmgbpmihbljngaaW.PrintMore
attribute [local go_sem] Qs Qr Qx Qw Qf Qe Qq Qp
set_option linter.unusedVariables false
set_option linter.unusedSimpArgs false
mutual
def qp.l0 :Nat→Int→Int→List (List Int)→List Int→List (List Int)→Int→Int→Option ((List (List Int)))
 | 0,_,_,_,_,_,_,_=>none
 | k+1,x0,x2,x7,x8,x9,x10,x11=>if x11 < x2 then (if x10 < (x8.length:Int) then (if 0≤x10 then (qp.j1 k x0 x2 x7 x8 x9 x10 x11 ((rd x8 x10) == x11)) else (none)) else (qp.j1 k x0 x2 x7 x8 x9 x10 x11 false)) else ((qg.f k x0 x9 x2).bind fun bt218=>(some bt218.1))
def qp.j1 :Nat→Int→Int→List (List Int)→List Int→List (List Int)→Int→Int→Bool→Option ((List (List Int)))
 | 0,_,_,_,_,_,_,_,_=>none
 | k+1,x0,x2,x7,x8,x9,x10,x11,x40=>if x40=true then (qp.l0 k x0 x2 x7 x8 x9 (wrap64 (x10+1)) (wrap64 (x11+1))) else (if 0≤x2 then (if (x2:Int).toNat≤35184372088832 then ((some (List.replicate (x2:Int).toNat 0:List Int)).bind fun y225=>(if 0≤x11 then (if x11 < (y225.length:Int) then (qp.l1 k x0 x2 x7 x8 x9 x10 x11 (y225.set (x11:Int).toNat 1) 0) else (none)) else (none))) else (none)) else (none))
def qp.l1 :Nat→Int→Int→List (List Int)→List Int→List (List Int)→Int→Int→List Int→Int→Option ((List (List Int)))
 | 0,_,_,_,_,_,_,_,_,_=>none
 | k+1,x0,x2,x7,x8,x9,x10,x11,x12,x13=>if x13 < (x8.length:Int) then (if 0≤x13 then (if x13 < (x7.length:Int) then (if 0≤x11 then (if x11 < ((ju x7 x13).length:Int) then ((Qn.f x0 (wrap64 (-(rd (ju x7 x13) x11)))).bind fun t232=>(if 0≤(rd x8 x13) then (if (rd x8 x13) < (x12.length:Int) then (qp.l1 k x0 x2 x7 x8 x9 x10 x11 (x12.set ((rd x8 x13):Int).toNat t232) (wrap64 (x13+1))) else (none)) else (none))) else (none)) else (none)) else (none)) else (none)) else (if x9.length < 5864062014805 then (qp.l0 k x0 x2 x7 x8 (x9++[x12]) x10 (wrap64 (x11+1))) else (none))
end
def qp.f (k:Nat) (a0:Int) (l1:List (List Int)) (a2:Int):Option ((List (List Int))):=(qg.f k a0 l1 a2).bind fun bt209=>(qp.l0 k a0 a2 bt209.1 bt209.2 (([]:List (List Int))) 0 0)
theorem qp.mono_l :∀ k,(∀ y0 y1 y2 y3 y4 y5 y6,LeO (qp.l0 k y0 y1 y2 y3 y4 y5 y6) (qp.l0 (k+1) y0 y1 y2 y3 y4 y5 y6))∧(∀ y0 y1 y2 y3 y4 y5 y6 y7,LeO (qp.j1 k y0 y1 y2 y3 y4 y5 y6 y7) (qp.j1 (k+1) y0 y1 y2 y3 y4 y5 y6 y7))∧(∀ y0 y1 y2 y3 y4 y5 y6 y7 y8,LeO (qp.l1 k y0 y1 y2 y3 y4 y5 y6 y7 y8) (qp.l1 (k+1) y0 y1 y2 y3 y4 y5 y6 y7 y8))
 | 0=>⟨fun _ _ _ _ _ _ _ r h=>by simp[qp.l0]at h,fun _ _ _ _ _ _ _ _ r h=>by simp[qp.j1]at h,fun _ _ _ _ _ _ _ _ _ r h=>by simp[qp.l1]at h⟩
 | k+1=>by
  obtain⟨ih0,ih1,ih2⟩:=qp.mono_l k
  refine⟨?_,?_,?_⟩
  ·intro y0 y1 y2 y3 y4 y5 y6
   unfold qp.l0
   repeat' first | (with_reducible first | apply ih0 | apply ih1 | apply ih2 | apply qg.mono | exact LeO.refl _ | exact LeO.none _ | refine LeO.ite ?_ ?_ | refine LeO.bind ?_ (fun _=>?_)) | (first | apply ih0 | apply ih1 | apply ih2 | apply qg.mono | exact LeO.none _ | refine LeO.ite ?_ ?_ | refine LeO.bind ?_ (fun _=>?_))
  ·intro y0 y1 y2 y3 y4 y5 y6 y7
   unfold qp.j1
   repeat' first | (with_reducible first | apply ih0 | apply ih1 | apply ih2 | apply qg.mono | exact LeO.refl _ | exact LeO.none _ | refine LeO.ite ?_ ?_ | refine LeO.bind ?_ (fun _=>?_)) | (first | apply ih0 | apply ih1 | apply ih2 | apply qg.mono | exact LeO.none _ | refine LeO.ite ?_ ?_ | refine LeO.bind ?_ (fun _=>?_))
  ·intro y0 y1 y2 y3 y4 y5 y6 y7 y8
   unfold qp.l1
   repeat' first | (with_reducible first | apply ih0 | apply ih1 | apply ih2 | apply qg.mono | exact LeO.refl _ | exact LeO.none _ | refine LeO.ite ?_ ?_ | refine LeO.bind ?_ (fun _=>?_)) | (first | apply ih0 | apply ih1 | apply ih2 | apply qg.mono | exact LeO.none _ | refine LeO.ite ?_ ?_ | refine LeO.bind ?_ (fun _=>?_))
theorem qp.mono :∀ a0 a1 a2 k,LeO (qp.f k a0 a1 a2) (qp.f (k+1) a0 a1 a2):=by
 intro a0 a1 a2 k
 obtain⟨ih0,ih1,ih2⟩:=qp.mono_l k
 unfold qp.f
 repeat' first | (with_reducible first | apply ih0 | apply ih1 | apply ih2 | apply qg.mono | exact LeO.refl _ | exact LeO.none _ | refine LeO.ite ?_ ?_ | refine LeO.bind ?_ (fun _=>?_)) | (first | apply ih0 | apply ih1 | apply ih2 | apply qg.mono | exact LeO.none _ | refine LeO.ite ?_ ?_ | refine LeO.bind ?_ (fun _=>?_))
def qp.T14 :Bool×List (List Nat×List Nat):=(true,[([],[]),([],[]),([],[]),([1,2],[1,2]),([3],[3]),([],[]),([],[]),([],[]),([6,7],[6,7]),([8],[8]),([],[]),([9,10],[9,10]),([11],[11]),([12],[12]),([5,13],[5,13]),([0,4,0,1,2,3,4,5,6,7,8,9,10,11,12,13,14],[0,4]),([15,14,14,0,1,2,3,4,5,6,7,8,9,10,11,12,13,14],[14,15])])
def qp.B14 :List Nat:=[0,0,0,6,14,0,0,0,192,448,0,1984,4032,8128,16352,32767,65535]
theorem qp.tab14 :rtab .any (Z0 Try.f109 14)=qp.T14:=by kernel_rfl
theorem qp.bits14 :Qj qp.T14.2 qp.B14=true:=by kernel_rfl
set_option maxHeartbeats 8000000 in
set_option maxRecDepth 100000 in
theorem qp.calls (k:Nat) (a0:Int) (P1_:Nat→Prop) (A1:Option Addr) (c1:Nat) (l1:List (List Int)) (a2:Int) (r:List (List Int)) (w:World) (hs1:Kd.V (Kd.slice 3 (Kd.int .i64)) 23 w w.heap.size (fun k_=>P1_ k_) (.slice A1 l1.length c1) l1) (h:qp.f k a0 l1 a2=some r):
  Calls Try.prog 109 #[.int .i64 a0,.slice A1 l1.length c1,.int .i64 a2] w fun e w'=>∃ v0_:Value,e=.returned (v0_)∧Kd.N (Kd.slice 3 (Kd.int .i64)) 23 w' w.heap.size (fun k_=>(P1_ k_∨w.heap.size≤k_)) v0_ r∧Below w.heap.size w w':=by
 have HO1:=am (show Kd.V (Kd.slice 3 (Kd.int .i64)) 23 w w.heap.size (fun k_=>(P1_ k_∨w.heap.size≤k_)) (.slice A1 l1.length c1) l1 from Kd.V_mono hs1 (fun k_ hk=>.inl hk))
 have HB:=am (Below.refl w.heap.size w)
 have H:((qg.f k a0 l1 a2).bind fun bt209=>(qp.l0 k a0 a2 bt209.1 bt209.2 (([]:List (List Int))) 0 0))=some r:=h
 clear h;replace H:=bs H
 obtain⟨⟨t209,t212⟩,A4,H⟩:=H
 dsimp only at H
 generalize hy215:(([]:List (List Int)))=y215 at H
 have Ny215:=am hy215.symm;clear hy215;have H':=am H;clear H
 go_enter Try.func109,Try.ntmps109
 go_wp2_with (first | ((with_reducible refine qt (f:=150) rfl ?_);refine gl 20 Try.func150 #[.int .i64 a0,.slice A1 l1.length c1,.int .i64 a2] ?_;(with_reducible refine(qg.calls k a0 (fun k_=>(P1_ k_∨w.heap.size≤k_)) _ _ l1 a2 t209 t212 _ ?_ A4.out).mono ?_);exact HO1.out;rintro e w5 ⟨v210,v213,rfl,ho0,ho1,hb⟩;refine⟨_,rfl,?_⟩;replace HO1:=am (Kd.V_mono (Kd.V_told (Kd.V_told (Kd.V_old (wV HO1) hb) (Kd.N_base ho0)) (Kd.R_base ho1)) (fun _ h_=>h_.1));have HO211:=am (Kd.N_lower (Kd.N_mono (ok':=fun k_=>(P1_ k_∨w.heap.size≤k_)∧some k_≠(v213:Value).ownBlock) ho0 (fun k_ hk_=>⟨Or.elim hk_.1 (fun hs_=>hs_) (fun hn_=>(.inr (Nat.le_trans (bz HB) hn_))),hk_.2⟩)) (bz HB));have HO214:=am (Kd.R_lower (Kd.R_newM (M:=fun k_=>(w.heap.size≤k_)) (Kd.R_mono (ok':=fun k_=>True) ho1 (fun _ hk_=>trivial)) (bz HB) (fun k_ h_=>h_)) (bz HB));replace HB:=bq HB hb;(try clear hb);(try clear ho0);(try clear ho1)) | ((with_reducible refine zb (N:=23) rfl ?_);refine Kd.N_lit (Kd.slice 3 (Kd.int .i64)) _ 23 ?hg (N':=23) ?hd (xs:=([]:List (List Int))) (inner:=[]) (ok:=(fun k_=>(P1_ k_∨w.heap.size≤k_)∧some k_≠(v210:Value).ownBlock∧some k_≠(v213:Value).ownBlock)) (okp:=(fun k_=>(P1_ k_∨w.heap.size≤k_)∧some k_≠(v210:Value).ownBlock∧some k_≠(v213:Value).ownBlock)) ?hr ?hp (fun _ hk=>hk) ((show ∀ k_,w5.heap.size≤k_→(fun k_=>(P1_ k_∨w.heap.size≤k_)∧some k_≠(v210:Value).ownBlock∧some k_≠(v213:Value).ownBlock) k_ from fun k_ hk=>⟨(.inr (Nat.le_trans (bz HB) hk)),Kd.fresh' (Kd.N_lt (wN HO211)) k_ hk,Kd.fresh' (Kd.R_lt (wR HO214)) k_ hk⟩) _ (Nat.le_refl _)) (Below.refl _ _) (Nat.le_refl _) (by simp) ?_;(case hd=>rfl);(case hg=>rfl);(case hr=>first | (go_simp;done) | (go_simp;rfl));(case hp=>exact(Reps.none _ _));intro v216 w6 ho7 hb hg_ hnew_;clear hg_ hnew_;(first | rw[← Ny215.out]at ho7 | (simp only[Int.reduceToNat]at ho7;rw[← Ny215.out]at ho7));replace HO1:=eV HO1 (Kd.N_base ho7) hb;replace HO211:=eN HO211 (Kd.N_base ho7) hb;replace HO214:=am (Kd.R_below (wR HO214) hb);have HO217:=am (Kd.N_lower ho7 (bz HB));replace HB:=bq HB hb;clear hb ho7))
 go_loopg [9,10,11] k (fun kq v9 v10 v11 w'=>∃ (x8_1:List Int) (x9_1:List (List Int)) (x10_1:Int) (x11_1:Int),v10=.int .i64 x10_1∧v11=.int .i64 x11_1∧qf (qp.l0 kq a0 a2 t209 x8_1 x9_1 x10_1 x11_1=some r)∧qf (kq≤k)∧qf (Kd.N (Kd.slice 3 (Kd.int .i64)) 23 w' w.heap.size (fun k_=>(P1_ k_∨w.heap.size≤k_)∧some k_≠(v213:Value).ownBlock∧some k_≠(v9:Value).ownBlock) v210 t209)∧qf (Kd.R (Kd.int .i64) 3 w' w.heap.size (fun k_=>(w.heap.size≤k_)) v213 x8_1)∧qf (Kd.N (Kd.slice 3 (Kd.int .i64)) 23 w' w.heap.size (fun k_=>(P1_ k_∨w.heap.size≤k_)∧some k_≠(v210:Value).ownBlock∧some k_≠(v213:Value).ownBlock) v9 x9_1)∧qf (Below w.heap.size w w'))
 case atStart=>exact⟨(t212),(y215),(0),(0),fr,fr,H',⟨Nat.le_refl _⟩,⟨Kd.N_below (Kd.N_mono HO211.out (fun _ hk=>⟨hk.1.1,⟨hk.1.2,hk.2⟩⟩)) gs⟩,⟨Kd.R_below (Kd.R_mono HO214.out (fun _ hk=>hk.1)) gs⟩,⟨wN HO217⟩,⟨bw HB⟩⟩
 case round=>
  clear H';try clear c1;try clear p2
  obtain⟨x8_1,x9_1,x10_1,x11_1,rfl,rfl,HA,HK1,HO_7,HO_8,HO_9,HB⟩:=hrel
  cases gk with
  | zero=>exact absurd HA.out (by simp[qp.l0])
  | succ k1=>
   have H:=HA.out;clear HA
   simp only[qp.l0]at H
   by_cases c8:x11_1 < a2
   ·rw [if_pos c8] at H
    have c8b0:=decide_eq_true c8;clear c8
    have HC9:=am H
    clear H
    go_upto_region 7 with (fail)
    go_cut [40] (fun v40 wc=>∃ (kq:Nat) (x40_8:Bool),v40=.bool x40_8∧qf (qp.j1 kq a0 a2 t209 x8_1 x9_1 x10_1 x11_1 x40_8=some r)∧qf (kq≤k1)∧qf (Kd.N (Kd.slice 3 (Kd.int .i64)) 23 wc w.heap.size (fun k_=>(P1_ k_∨w.heap.size≤k_)∧some k_≠(v213:Value).ownBlock∧some k_≠(u9:Value).ownBlock) v210 t209)∧qf (Kd.R (Kd.int .i64) 3 wc w.heap.size (fun k_=>(w.heap.size≤k_)) v213 x8_1)∧qf (Kd.N (Kd.slice 3 (Kd.int .i64)) 23 wc w.heap.size (fun k_=>(P1_ k_∨w.heap.size≤k_)∧some k_≠(v210:Value).ownBlock∧some k_≠(v213:Value).ownBlock) u9 x9_1)∧qf (Below w.heap.size w wc))
    case first=>
     have H:=HC9.out
     clear HC9
     by_cases c10:x10_1 < (x8_1.length:Int)
     ·rw[if_pos c10]at H
      have c10b0:=decide_eq_true c10;clear c10
      (first | rw[c10b0] | (simp only[qbs,qbv];rw[c10b0]) | skip)
      replace H:=ifn H;obtain⟨c11,H⟩:=H;have c11b0:=decide_eq_true c11;clear c11;have H':=am H;clear H
      obtain⟨Ao12,co12,eo12⟩:=Kd.R_slice HO_8.out
      subst eo12
      have p224:0≤(x10_1:Int):=od
      have q224:x10_1 < (x8_1.length:Int):=od
      obtain⟨ad224,e224,hx224_0⟩:=Kd.at_int (Kd.R_reads' HO_8.out).2.2 x10_1 p224 q224
      cases e224;replace p224:=eq_true p224;replace q224:=eq_true q224;go_wp2
      go_meet
      case rel=>exact⟨_,(((rd x8_1 x10_1) == x11_1)),fr,H',⟨by have:=HK1.out;first | omega | exact Nat.le_refl _⟩,⟨wN HO_7⟩,⟨wR HO_8⟩,⟨wN HO_9⟩,⟨bw HB⟩⟩
     ·rw[if_neg c10]at H
      have c10b0:=decide_eq_false c10;clear c10
      (first | rw[c10b0] | (simp only[qbs,qbv];rw[c10b0]) | skip)
      have H':=am H;clear H
      obtain⟨Ao13,co13,eo13⟩:=Kd.R_slice HO_8.out
      subst eo13;go_wp2
      go_meet
      case rel=>exact⟨_,(false),fr,H',⟨by have:=HK1.out;first | omega | exact Nat.le_refl _⟩,⟨wN HO_7⟩,⟨wR HO_8⟩,⟨wN HO_9⟩,⟨bw HB⟩⟩
    case rest=>
     clear HC9;try clear c1;try clear p2;try clear q2;try clear hx2;try clear c8;try clear c8b0;try clear c10;try clear c10b0;try clear c11;try clear c11b0;try clear hx224_0;try clear p2;try clear p224;try clear q224
     obtain⟨kq,x40_8,rfl,HA,HJ8,HO_7,HO_8,HO_9,HB⟩:=hcut
     cases kq with
     | zero=>exact absurd HA.out (by simp[qp.j1])
     | succ kj8=>
      have H:=HA.out;clear HA
      simp only[qp.j1]at H
      by_cases c14:x40_8=true
      ·subst c14
       rw[if_pos rfl]at H
       have H':=am H;clear H;go_wp2
       go_roundg kj8
       case measure=>have:=HK1.out;have:=HJ8.out;omega
       case rel=>exact⟨(x8_1),(x9_1),(wrap64 (x10_1+1)),(wrap64 (x11_1+1)),fr,fr,H',⟨by have:=HK1.out;have:=HJ8.out;omega⟩,⟨wN HO_7⟩,⟨wR HO_8⟩,⟨wN HO_9⟩,⟨bw HB⟩⟩
      ·replace c14:=Bool.eq_false_iff.mpr c14
       subst c14
       rw[if_neg (show ¬ (false=true) by decide)]at H
       replace H:=ifn H;obtain⟨c15,H⟩:=H;have c15b0:=eq_true c15;have c15b1:=decide_eq_true c15;clear c15;replace H:=ifn H;obtain⟨c16,H⟩:=H;have c16b0:=eq_true c16;have c16b1:=decide_eq_true c16;clear c16;replace H:=bsy H
       obtain⟨y225,Ny225,H⟩:=H;replace H:=ifn H;obtain⟨c17,H⟩:=H;have c17b0:=decide_eq_true c17;clear c17;replace H:=ifn H;obtain⟨c18,H⟩:=H;have c18b0:=decide_eq_true c18;clear c18
       generalize hy228:(y225.set (x11_1:Int).toNat 1:List Int)=y228 at H
       have Ny228:=am hy228.symm;clear hy228;have H':=am H;clear H
       go_wp2_with (first | ((with_reducible refine zb (N:=44) rfl ?_);refine Kd.R_make (Kd.int .i64) _ 3 rfl (N:=44) rfl 23 _ _ rfl a2 rfl rfl Try.underlying23 (.int .i64 0) 8 Jm rfl (by decide) (by omega) 0 (ok:=fun _=>True) (okp:=fun _=>True) rfl (fun _ hk=>hk) trivial (od) (Nat.le_trans (Nat.mul_le_mul_right _ (od:a2.toNat≤35184372088832)) (by omega)) (Below.refl _ _) (Nat.le_refl _) ?_;intro v226 w20 ho21 hb hg_ hnew_;clear hg_ hnew_;(first | rw[← Ny225.out]at ho21 | (simp only[Int.reduceToNat]at ho21;rw[← Ny225.out]at ho21));replace HO_7:=eN HO_7 (Kd.R_base ho21) hb;replace HO_9:=eN HO_9 (Kd.R_base ho21) hb;have HO227:=am (Kd.R_lower (Kd.R_new' (Kd.R_newM (M:=fun k_=>(w.heap.size≤k_)) ho21 (bz HB) (fun k_ h_=>h_)) (Kd.R_lt (wR HO_8))) (bz HB));replace HO_8:=eR HO_8 (Kd.R_base ho21) hb;replace HB:=bq HB hb;clear hb ho21;have p19:0≤(x11_1:Int):=od;have q19:(x11_1:Int) < ((y225.length:Int):Int):=od;obtain⟨go19,co19,eo19,gb19,gl19,cl19,HG19⟩:=Kd.R_form HO227.out (by omega);(first | cases eo19 | (injection eo19 with ea_ en_ ec_;(first | subst ea_ | (injection ea_ with ea_;subst ea_));subst ec_;clear en_));have GB19:=am gb19;have GG19:=am HG19;clear gb19 gl19 HG19;obtain⟨hx19_0,hf19_0⟩:=Kd.R_celln 0 HO227.out (x11_1:Int) p19 q19;replace p19:=eq_true p19;replace q19:=eq_true q19;have n_:=am (Kd.R_mono (ok':=(fun k_=>(w.heap.size≤k_)∧some k_≠(v213:Value).ownBlock)) HO227.out (fun k_ hk=>⟨hk.1.1,hk.2⟩));clear HO227;have HO227:=n_;clear n_;obtain⟨hy22_,hz22_⟩:=Kd.R_celln 0 HO227.out (x11_1:Int) (od) (od);have HP22:=Kd.R_putg HO227.out (x11_1:Int) 1))
       obtain⟨w23,hw⟩:∃ w_,w_=(w20.setCell ⟨go19,(x11_1:Int).toNat,none⟩ (.int .i64 1)):=⟨_,rfl⟩
       rw[← hw]
       (have hg:w20.grownBy w23 (some go19):=(by rw[hw];exact HP22.2);have hp_:Kd.R (Kd.int .i64) 3 w23 w.heap.size (fun k_=>(w.heap.size≤k_)∧some k_≠(v213:Value).ownBlock) (.slice (some ⟨go19,0,none⟩) y225.length co19) y228:=(by rw[hw,Ny228.out];exact HP22.1);clear HP22;have n0_:=am (Kd.N_afterv (v:=(.slice (some ⟨go19,0,none⟩) y225.length co19)) (v1:=(.slice (some ⟨go19,0,none⟩) y225.length co19)) (ok:=(fun k_=>(P1_ k_∨w.heap.size≤k_)∧some k_≠(v213:Value).ownBlock∧some k_≠(u9:Value).ownBlock)) (by (with_reducible repeat (first | apply Kd.N_alloc | apply Kd.N_drewN | apply Kd.N_drew));first | exact HO_7.out | exact Kd.S_mono HO_7.out (fun _ h=>⟨⟨h.1.2,h.1.1⟩,h.2⟩)) hg (.inl rfl));have n1_:=am (Kd.R_after (v:=(.slice (some ⟨go19,0,none⟩) y225.length co19)) (v1:=(.slice (some ⟨go19,0,none⟩) y225.length co19)) (ok:=(fun k_=>(w.heap.size≤k_))) (by (with_reducible repeat (first | apply Kd.R_alloc | apply Kd.R_drewN | apply Kd.R_drew));first | exact HO_8.out | exact Kd.S_mono HO_8.out (fun _ h=>⟨⟨h.1.2,h.1.1⟩,h.2⟩)) hg (.inl rfl));have n2_:=am (Kd.N_afterv (v:=(.slice (some ⟨go19,0,none⟩) y225.length co19)) (v1:=(.slice (some ⟨go19,0,none⟩) y225.length co19)) (ok:=(fun k_=>(P1_ k_∨w.heap.size≤k_)∧some k_≠(v210:Value).ownBlock∧some k_≠(v213:Value).ownBlock)) (by (with_reducible repeat (first | apply Kd.N_alloc | apply Kd.N_drewN | apply Kd.N_drew));first | exact HO_9.out | exact Kd.S_mono HO_9.out (fun _ h=>⟨⟨h.1.2,h.1.1⟩,h.2⟩)) hg (.inl rfl));have n3_:=am (hp_);have n4_:=am ((by rw[hw];exact Qi (HB.out) GB19.out:Below w.heap.size w w23));clear HO_7;clear HO_8;clear HO_9;clear HO227;clear HB;have HO_7:=n0_;have HO_8:=n1_;have HO_9:=n2_;have HO227:=n3_;have HB:=n4_;clear n0_ n1_ n2_ n3_ n4_;clear hg hw hp_)
       go_loopg [13] kj8 (fun kq v13 w'=>∃ (x12_3:List Int) (x13_3:Int),v13=.int .i64 x13_3∧qf (qp.l1 kq a0 a2 t209 x8_1 x9_1 x10_1 x11_1 x12_3 x13_3=some r)∧qf (kq≤kj8)∧qf (Kd.N (Kd.slice 3 (Kd.int .i64)) 23 w' w.heap.size (fun k_=>(P1_ k_∨w.heap.size≤k_)∧some k_≠(v213:Value).ownBlock∧some k_≠(u9:Value).ownBlock∧some k_≠((.slice (some ⟨go19,0,none⟩) y225.length co19):Value).ownBlock) v210 t209)∧qf (Kd.R (Kd.int .i64) 3 w' w.heap.size (fun k_=>(w.heap.size≤k_)∧some k_≠((.slice (some ⟨go19,0,none⟩) y225.length co19):Value).ownBlock) v213 x8_1)∧qf (Kd.N (Kd.slice 3 (Kd.int .i64)) 23 w' w.heap.size (fun k_=>(P1_ k_∨w.heap.size≤k_)∧some k_≠(v210:Value).ownBlock∧some k_≠(v213:Value).ownBlock∧some k_≠((.slice (some ⟨go19,0,none⟩) y225.length co19):Value).ownBlock) u9 x9_1)∧qf (Kd.R (Kd.int .i64) 3 w' w.heap.size (fun k_=>(w.heap.size≤k_)∧some k_≠(v213:Value).ownBlock) (.slice (some ⟨go19,0,none⟩) y225.length co19) x12_3)∧qf (Below w.heap.size w w'))
       case atStart=>exact⟨(y228),(0),fr,H',⟨Nat.le_refl _⟩,⟨Kd.N_below (Kd.N_mono HO_7.out (fun _ hk=>⟨hk.1.1,⟨hk.1.2.1,⟨hk.1.2.2,hk.2⟩⟩⟩)) gs⟩,⟨wR HO_8⟩,⟨Kd.N_below (Kd.N_mono HO_9.out (fun _ hk=>⟨hk.1.1,⟨hk.1.2.1,⟨hk.1.2.2,hk.2⟩⟩⟩)) gs⟩,⟨wR HO227⟩,⟨bw HB⟩⟩
       case round=>
        clear H';try clear c1;try clear p1;try clear q1;try clear hx1;try clear p2;try clear q2;try clear hx2;try clear p6;try clear c8;try clear c8b0;try clear c10;try clear c10b0;try clear c11;try clear c11b0;try clear c14;try clear c15
        try clear c15b0;try clear c15b1;try clear c16;try clear c16b0;try clear c16b1;try clear c17;try clear c17b0;try clear c18;try clear c18b0;try clear p19;try clear q19;try clear hx19;try clear hf19;try clear p22;try clear q22;try clear hx22
        try clear hx19_0;try clear hx224_0;try clear p19;try clear p2;try clear p224;try clear q19;try clear q2;try clear q224
        obtain⟨x12_3,x13_3,rfl,HA,HK3,HO_7,HO_8,HO_9,HO_12,HB⟩:=hrel
        have hl12_3:=(Kd.R_reads' HO_12.out).1
        rw[hl12_3]at HO_12
        (try simp only[hl12_3])
        (try simp only[hl12_3]at HO_7)
        (try simp only[hl12_3]at HO_8)
        (try simp only[hl12_3]at HO_9)
        cases gk with
        | zero=>exact absurd HA.out (by simp[qp.l1])
        | succ k3=>
         have H:=HA.out;clear HA
         simp only[qp.l1]at H
         by_cases c24:x13_3 < (x8_1.length:Int)
         ·rw[if_pos c24]at H
          have c24b0:=decide_eq_true c24;clear c24;replace H:=ifn H;obtain⟨c25,H⟩:=H;have c25b0:=decide_eq_true c25;clear c25;replace H:=ifn H;obtain⟨c26,H⟩:=H;have c26b0:=decide_eq_true c26;clear c26;replace H:=ifn H;obtain⟨c27,H⟩:=H
          have c27b0:=decide_eq_true c27;clear c27;replace H:=ifn H;obtain⟨c28,H⟩:=H;have c28b0:=decide_eq_true c28;clear c28;replace H:=bs H;obtain⟨t232,A29,H⟩:=H;replace H:=ifn H;obtain⟨c30,H⟩:=H;have c30b0:=decide_eq_true c30
          clear c30;replace H:=ifn H;obtain⟨c31,H⟩:=H;have c31b0:=decide_eq_true c31;clear c31
          generalize hy233:(x12_3.set ((rd x8_1 x13_3):Int).toNat t232:List Int)=y233 at H
          have Ny233:=am hy233.symm;clear hy233;have H':=am H;clear H
          obtain⟨Ao33,co33,eo33⟩:=Kd.R_slice HO_8.out
          subst eo33
          try go_wp2
          replace HO_7:=am (Kd.N_drew HO_7.out)
          replace HO_8:=am (Kd.R_drew HO_8.out)
          replace HO_9:=am (Kd.N_drew HO_9.out)
          replace HO_12:=am (Kd.R_drew HO_12.out)
          replace HB:=am (Qg HB.out)
          have p229:0≤(x13_3:Int):=od
          have q229:x13_3 < (x8_1.length:Int):=od
          obtain⟨ad229,e229,hx229_0⟩:=Kd.at_int (Kd.R_reads' HO_8.out).2.2 x13_3 p229 q229
          cases e229;replace p229:=eq_true p229;replace q229:=eq_true q229
          obtain⟨Ao35,co35,eo35⟩:=Kd.N_slice HO_7.out
          (first | subst eo35 | (injection eo35 with f1_ f2_ f3_;have f4_:=f1_.symm;have f5_:=f3_.symm;clear f1_ f2_ f3_;subst f4_;subst f5_))
          have p230:0≤(x13_3:Int):=od
          have q230:x13_3 < (t209.length:Int):=od
          obtain⟨ad230,A230_0,c230_0,e230,hx230_0,hl230_0,hi230_0⟩:=qak (Kd.N_reads' HO_7.out).2.2 x13_3 p230 q230
          cases e230
          obtain⟨ce230,hce230,hMe230,hcc230⟩:=Kd.N_get HO_7.out [] x13_3 p230 (by first | exact q230 | exact od | (have e_:=(Kd.N_reads' HO_7.out).1;omega))
          obtain⟨ua230_0,uc230_0,rfl,ul230_0,ge230_0⟩:=Kd.FK_slice_open hMe230
          have hv230_0:=hcc230 0 _ rfl
          rw[Nat.add_zero,show ((Kd.slice 3 (Kd.int .i64))).sz=1 from rfl,Nat.mul_one]at hv230_0
          replace hv230_0:=Option.some.inj (hv230_0.symm.trans hx230_0)
          injection hv230_0 with hva_ hvn_ hvc_
          rw[hva_]at ge230_0
          rw[hvc_]at ul230_0
          have HL230_0:=am (show Kd.V (Kd.int .i64) 3 _ w.heap.size _ _ (ju t209 x13_3) from Kd.V_mk ul230_0 ge230_0)
          clear hva_ hvn_ hvc_ ge230_0 ul230_0;clear hcc230 hce230
          have HR230_0:=am hi230_0
          have HC230_0:=am hl230_0
          clear hi230_0 hl230_0;replace p230:=eq_true p230;replace q230:=eq_true q230
          have p231:0≤(x11_1:Int):=od
          have q231:x11_1 < ((ju t209 x13_3).length:Int):=od
          obtain⟨ad231,e231,hx231_0⟩:=Kd.at_int HR230_0.out x11_1 p231 q231
          cases e231;replace p231:=eq_true p231;replace q231:=eq_true q231
          refine st 17 (fun w'=>w'.cell? (ad229.add (x13_3).toNat)=some (.int .i64 (rd x8_1 x13_3))∧w'.cell? (ad230.add (x13_3).toNat)=some (.slice (some ad231) (ju t209 x13_3).length c230_0)∧w'.cell? (ad231.add (x11_1).toNat)=some (.int .i64 (rd (ju t209 x13_3) x11_1))) [16] qp.tab14 qp.bits14 (⟨hx229_0,hx230_0,hx231_0⟩) fun hHeld HT_ HW_=>?_
          generalize wr.drew=w34 at HO_7 HO_8 HO_9 HO_12 HB HL230_0 HR230_0 hx229_0 hx230_0 hx231_0 hHeld ⊢
          refine pz 0 54 HT_ ?_;refine pz 1 55 HT_ ?_;refine pz 2 56 HT_ ?_;refine pz 3 57 HT_ ?_;refine pz 5 59 HT_ ?_;refine pz 6 60 HT_ ?_;refine pz 7 61 HT_ ?_;refine pz 8 62 HT_ ?_;refine pz 10 64 HT_ ?_;refine tk 4 58 HT_ HW_ hHeld ?_;refine tk 9 63 HT_ HW_ hHeld ?_
          refine pz 11 65 HT_ ?_;refine tk 12 66 HT_ HW_ hHeld ?_;refine pz 13 67 HT_ ?_
          refine on 14 (some 68) HT_ fun K hK=>?_
          refine gs_ Try.func158 #[.int .i64 a0,.int .i64 (wrap64 (-(rd (ju t209 x13_3) x11_1)))] ?_
          with_reducible refine(Qn.calls a0 (wrap64 (-(rd (ju t209 x13_3) x11_1))) t232 _ A29.out).mono ?_
          rintro e w' ⟨rfl,⟨nd,rfl⟩⟩
          refine⟨_,rfl,?_⟩
          have p32:0≤((rd x8_1 x13_3):Int):=od
          have q32:((rd x8_1 x13_3):Int) < ((x12_3.length:Int):Int):=od
          obtain⟨hx32_0,hf32_0⟩:=Kd.R_celln 0 HO_12.out ((rd x8_1 x13_3):Int) p32 q32
          replace p32:=eq_true p32;replace q32:=eq_true q32
          have HP36:=Kd.R_putn HO_12.out ((rd x8_1 x13_3):Int) t232
          rw[← Ny233.out]at HP36
          have HQ36:=am HP36
          clear HP36
          refine hK.out _ _ ⟨hHeld.1,hHeld.2.1,hHeld.2.2⟩ fun hHeld=>nz ?_
          clear hK K;refine pz 15 69 HT_ ?_
          refine la 16 none HT_ fun K hK=>?_
          refine qgw (w1:=?_) (by rfl) rfl ?_ ?_
          rotate_left
          ·go_simp
           rfl
          refine hK.out _ _ ?_
          clear hK K
          refine Q3 (Qa HT_.out (by kernel_rfl)) ?_
          try go_wp2
          (try simp only[← hl12_3])
          go_roundg k3
          case measure=>have:=HK1.out;have:=HJ8.out;have:=HK3.out;omega
          case rel=>exact⟨(y233),(wrap64 (x13_3+1)),fr,H',⟨by have:=HK1.out;have:=HJ8.out;have:=HK3.out;omega⟩,⟨by (try simp only[hl12_3]);(with_reducible repeat (first | apply Kd.N_alloc | apply Kd.N_drewN | apply Kd.N_drew));exact Kd.N_mono (Kd.N_far (p:=⟨go19,((rd x8_1 x13_3):Int).toNat,none⟩) (Kd.N_mono HO_7.out (fun k_ hk=>(⟨hk,fun e_=>hk.2.2.2 (by rw[e_];rfl)⟩:_∧k_≠go19))) (fun _ hk=>hk.2) (.int .i64 t232)) (fun _ hk=>⟨hk.1.1,⟨hk.1.2.1,⟨hk.1.2.2.1,hk.1.2.2.2⟩⟩⟩)⟩,⟨by (try simp only[hl12_3]);(with_reducible repeat (first | apply Kd.R_alloc | apply Kd.R_drewN | apply Kd.R_drew));exact Kd.R_mono (Kd.R_far (p:=⟨go19,((rd x8_1 x13_3):Int).toNat,none⟩) (Kd.R_mono HO_8.out (fun k_ hk=>(⟨hk,fun e_=>hk.2 (by rw[e_];rfl)⟩:_∧k_≠go19))) (fun _ hk=>hk.2) (.int .i64 t232)) (fun _ hk=>⟨hk.1.1,hk.1.2⟩)⟩,⟨by (try simp only[hl12_3]);(with_reducible repeat (first | apply Kd.N_alloc | apply Kd.N_drewN | apply Kd.N_drew));exact Kd.N_mono (Kd.N_far (p:=⟨go19,((rd x8_1 x13_3):Int).toNat,none⟩) (Kd.N_mono HO_9.out (fun k_ hk=>(⟨hk,fun e_=>hk.2.2.2 (by rw[e_];rfl)⟩:_∧k_≠go19))) (fun _ hk=>hk.2) (.int .i64 t232)) (fun _ hk=>⟨hk.1.1,⟨hk.1.2.1,⟨hk.1.2.2.1,hk.1.2.2.2⟩⟩⟩)⟩,⟨by (try simp only[hl12_3]);(with_reducible repeat (first | apply Kd.R_alloc | apply Kd.R_drewN | apply Kd.R_drew));exact HQ36.out⟩,⟨bx_ HB⟩⟩
         ·rw[if_neg c24]at H
          have c24b0:=decide_eq_false c24;clear c24;replace H:=ifn H;obtain⟨c37,H⟩:=H;have LMc37:=am c37;clear c37
          generalize hy234:(x9_1++[x12_3]:List (List Int))=y234 at H
          have Ny234:=am hy234.symm;clear hy234;have H':=am H;clear H
          obtain⟨Ao38,co38,eo38⟩:=Kd.R_slice HO_8.out
          subst eo38
          go_wp2_with (first | ((with_reducible refine jr (b:=.append) (xs:=#[.tmp 70,.tmp 72]) rfl ?_);at_builtin;refine Kd.N_append (Kd.slice 3 (Kd.int .i64)) (w0:=w) w.heap.size rfl (.tmp 70) (.tmp 72) 47 23 (.slice none 0 0) 24 rfl Try.underlying47 Zu rfl (by decide) (by omega) u9 x9_1 x12_3 [.slice (some ⟨go19,0,none⟩) x12_3.length co19] (fun k_=>(P1_ k_∨w.heap.size≤k_)∧some k_≠(v210:Value).ownBlock∧some k_≠(.slice Ao38 x8_1.length co38:Value).ownBlock) (fun k_=>((fun k_=>(P1_ k_∨w.heap.size≤k_)∧some k_≠(v210:Value).ownBlock∧some k_≠(.slice Ao38 x8_1.length co38:Value).ownBlock)) k_∧some k_≠(u9:Value).ownBlock) rfl rfl ?aP (fun _ hk=>hk) ?aF ?aO ?aB ?aS ?aL ?_;(case aP=>exact(Kd.FK_slice_mk (Kd.R_reads' (Kd.R_mono (ok':=(fun k_=>((fun k_=>(P1_ k_∨w.heap.size≤k_)∧some k_≠(v210:Value).ownBlock∧some k_≠(.slice Ao38 x8_1.length co38:Value).ownBlock)) k_∧some k_≠(u9:Value).ownBlock)) (Kd.R_apart' (Kd.R_apart' (HO_12.out) (Kd.N_typed HO_7.out) (by decide)) (Kd.N_typed HO_9.out) (by decide)) (fun k_ hk=>⟨⟨(.inr (hk.1.1.1)),⟨hk.1.2,hk.1.1.2⟩⟩,hk.2⟩))).2.1 (Kd.R_F (Kd.R_mono (ok':=(fun k_=>((fun k_=>(P1_ k_∨w.heap.size≤k_)∧some k_≠(v210:Value).ownBlock∧some k_≠(.slice Ao38 x8_1.length co38:Value).ownBlock)) k_∧some k_≠(u9:Value).ownBlock)) (Kd.R_apart' (Kd.R_apart' (HO_12.out) (Kd.N_typed HO_7.out) (by decide)) (Kd.N_typed HO_9.out) (by decide)) (fun k_ hk=>⟨⟨(.inr (hk.1.1.1)),⟨hk.1.2,hk.1.1.2⟩⟩,hk.2⟩)))));(case aB=>exact(bw HB));(case aF=>exact(fun k_ hk=>⟨(.inr (Nat.le_trans (bz HB) hk)),Kd.fresh' (Kd.N_lt (wN HO_7)) k_ hk,Kd.fresh' (Kd.R_lt (wR HO_8)) k_ hk⟩));(case aO=>exact(oN_ HO_9 (fun _ hk=>⟨hk.1,⟨hk.2.1,hk.2.2.1⟩⟩)));(case aS=>exact(bz HB));(case aL=>have:=LMc37.out;omega);intro v235 w39 ho hb hg hat;rw[← Ny234.out]at ho;replace HO_7:=am (Kd.N_afterv (ok:=(fun k_=>(P1_ k_∨w.heap.size≤k_)∧some k_≠(.slice Ao38 x8_1.length co38:Value).ownBlock∧some k_≠(.slice (some ⟨go19,0,none⟩) x12_3.length co19:Value).ownBlock)) (oN_ HO_7 (fun _ hk=>⟨⟨hk.1,⟨hk.2.1,hk.2.2.2⟩⟩,hk.2.2.1⟩)) hg hat);replace HO_8:=am (Kd.R_over' (wR HO_8) (Kd.N_typed (wN HO_9)) (by decide) hg);replace HB:=am (hb);have HO236:=am (ho);clear HO_9 HO_12;clear ho hb hg hat))
          (try simp only[← hl12_3])
          go_roundg k3
          case measure=>have:=HK1.out;have:=HJ8.out;have:=HK3.out;omega
          case rel=>exact⟨(x8_1),(y234),(x10_1),(wrap64 (x11_1+1)),fr,fr,H',⟨by have:=HK1.out;have:=HJ8.out;have:=HK3.out;omega⟩,⟨by (try simp only[hl12_3]);(with_reducible repeat (first | apply Kd.N_alloc | apply Kd.N_drewN | apply Kd.N_drew));exact Kd.N_mono HO_7.out (fun _ hk=>⟨hk.1.1,⟨hk.1.2.1,hk.2⟩⟩)⟩,⟨by (try simp only[hl12_3]);(with_reducible repeat (first | apply Kd.R_alloc | apply Kd.R_drewN | apply Kd.R_drew));exact Kd.R_mono HO_8.out (fun _ hk=>hk.1)⟩,⟨by (try simp only[hl12_3]);(with_reducible repeat (first | apply Kd.N_alloc | apply Kd.N_drewN | apply Kd.N_drew));exact HO236.out⟩,⟨bw HB⟩⟩
   ·rw[if_neg c8]at H
    have c8b0:=decide_eq_false c8;clear c8;replace H:=bs H
    obtain⟨⟨t218,t221⟩,A40,H⟩:=H
    dsimp only at H
    obtain rfl:=Option.some.inj H
    obtain⟨Ao41,co41,eo41⟩:=Kd.N_slice HO_9.out
    subst eo41
    go_wp2_with (first | ((with_reducible refine qt (f:=150) rfl ?_);refine gl 78 Try.func150 #[.int .i64 a0,.slice Ao41 x9_1.length co41,.int .i64 a2] ?_;(with_reducible refine(qg.calls k1 a0 (fun k_=>((P1_ k_∨w.heap.size≤k_)∧(some k_≠(v210:Value).ownBlock∧some k_≠(v213:Value).ownBlock))) _ _ x9_1 a2 t218 t221 _ ?_ A40.out).mono ?_);exact Kd.N_V (HO_9.out);rintro e w42 ⟨v219,v222,rfl,ho0,ho1,hb⟩;refine⟨_,rfl,?_⟩;replace HO_9:=am (Kd.N_mono (Kd.N_told (Kd.N_told (Kd.N_old (wN HO_9) hb) (Kd.N_base ho0)) (Kd.R_base ho1)) (fun _ h_=>h_.1));have HO220:=am (Kd.N_lower (Kd.N_mono (ok':=fun k_=>(P1_ k_∨w.heap.size≤k_)∧some k_≠(v222:Value).ownBlock∧some k_≠(v210:Value).ownBlock∧some k_≠(v213:Value).ownBlock) ho0 (fun k_ hk_=>⟨Or.elim hk_.1 (fun hs_=>hs_.1) (fun hn_=>(.inr (Nat.le_trans (bz HB) hn_))),hk_.2,Or.elim hk_.1 (fun hs_=>hs_.2.1) (fun hn_=>(Kd.fresh' (Kd.N_lt (wN HO_7)) k_ hn_)),Or.elim hk_.1 (fun hs_=>hs_.2.2) (fun hn_=>(Kd.fresh' (Kd.R_lt (wR HO_8)) k_ hn_))⟩)) (bz HB));replace HO_7:=am (Kd.N_mono (Kd.N_told (Kd.N_told (Kd.N_old (wN HO_7) hb) (Kd.N_base ho0)) (Kd.R_base ho1)) (fun _ h_=>h_.1));have HO223:=am (Kd.R_lower (Kd.R_new' (Kd.R_newM (M:=fun k_=>(w.heap.size≤k_)) (Kd.R_mono (ok':=fun k_=>True) ho1 (fun _ hk_=>trivial)) (bz HB) (fun k_ h_=>h_)) (Kd.R_lt (wR HO_8))) (bz HB));replace HO_8:=eR HO_8 (Kd.R_base ho1) hb;replace HB:=bq HB hb;(try clear hb);(try clear ho0);(try clear ho1)))
    go_ret
    exact⟨_,fq,Kd.N_below (Kd.N_mono HO220.out (fun _ hk=>hk.1)) gs,bw HB⟩
end Go.Proofs.Ytmgbpmihbljngaa.PA
