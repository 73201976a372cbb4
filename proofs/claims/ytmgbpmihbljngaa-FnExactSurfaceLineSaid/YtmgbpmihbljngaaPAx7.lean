-- Written by xprint.py, a program of this claim's own (over the kit's print.py)
import Derived.Test.YtmgbpmihbljngaaPAx6
namespace Go.Proofs.Ytmgbpmihbljngaa.PA
open Go.RowKit Go.Proofs.YtmgbpmihbljngaaW.PrintWords Go.Proofs.YtmgbpmihbljngaaW.PrintLast Go.Proofs.YtmgbpmihbljngaaW.PrintMore
attribute [local go_sem] Qs Qr Qx Qw Qf Qe Qq Qp
set_option linter.unusedVariables false
set_option linter.unusedSimpArgs false
mutual
def qg.l0 :Nat→Int→List (List Int)→Int→List (List Int)→List Int→Int→Option ((List (List Int))×List Int)
 | 0,_,_,_,_,_,_=>none
 | k+1,x0,x1,x2,x8,x9,x10=>if x10 < x2 then (qg.l1 k x0 x1 x2 x8 x9 x10 (-1) 0) else (some (x8,x9))
def qg.l1 :Nat→Int→List (List Int)→Int→List (List Int)→List Int→Int→Int→Int→Option ((List (List Int))×List Int)
 | 0,_,_,_,_,_,_,_,_=>none
 | k+1,x0,x1,x2,x8,x9,x10,x11,x12=>if x12 < (x1.length:Int) then (qg.j2 k x0 x1 x2 x8 x9 x10 x11 x12 (decide (x11 < 0))) else (qg.j2 k x0 x1 x2 x8 x9 x10 x11 x12 false)
def qg.j2 :Nat→Int→List (List Int)→Int→List (List Int)→List Int→Int→Int→Int→Bool→Option ((List (List Int))×List Int)
 | 0,_,_,_,_,_,_,_,_,_=>none
 | k+1,x0,x1,x2,x8,x9,x10,x11,x12,x31=>if x31=true then (if 0≤x12 then (if x12 < (x1.length:Int) then (if 0≤x10 then (if x10 < ((ju x1 x12).length:Int) then (if (rd (ju x1 x12) x10)=0 then (qg.l1 k x0 x1 x2 x8 x9 x10 x11 (wrap64 (x12+1))) else (qg.l1 k x0 x1 x2 x8 x9 x10 x12 (wrap64 (x12+1)))) else (none)) else (none)) else (none)) else (none)) else (if x11 < 0 then (qg.l0 k x0 x1 x2 x8 x9 (wrap64 (x10+1))) else (if 0≤x11 then (if x11 < (x1.length:Int) then ((zf.f k x0 (ju x1 x11)).bind fun t181=>(qg.l2 k x0 x1 x2 x8 x9 x10 x11 t181 (([]:List (List Int))) 0)) else (none)) else (none)))
def qg.l2 :Nat→Int→List (List Int)→Int→List (List Int)→List Int→Int→Int→List Int→List (List Int)→Int→Option ((List (List Int))×List Int)
 | 0,_,_,_,_,_,_,_,_,_,_=>none
 | k+1,x0,x1,x2,x8,x9,x10,x11,x13,x14,x15=>if x15 < (x1.length:Int) then (if x15=x11 then (qg.l2 k x0 x1 x2 x8 x9 x10 x11 x13 x14 (wrap64 (x15+1))) else (if 0≤x15 then (if 0≤x10 then (if x10 < ((ju x1 x15).length:Int) then ((za.f k x0 (ju x1 x15) (rd (ju x1 x15) x10) x13).bind fun t190=>(if x14.length < 5864062014805 then (qg.l2 k x0 x1 x2 x8 x9 x10 x11 x13 (x14++[t190]) (wrap64 (x15+1))) else (none))) else (none)) else (none)) else (none))) else (qg.l3 k x0 x14 x2 x8 x9 x10 x13 0)
def qg.l3 :Nat→Int→List (List Int)→Int→List (List Int)→List Int→Int→List Int→Int→Option ((List (List Int))×List Int)
 | 0,_,_,_,_,_,_,_,_=>none
 | k+1,x0,x1,x2,x8,x9,x10,x13,x16=>if x16 < (x8.length:Int) then (if 0≤x16 then (if 0≤x10 then (if x10 < ((ju x8 x16).length:Int) then ((za.f k x0 (ju x8 x16) (rd (ju x8 x16) x10) x13).bind fun t199=>(qg.l3 k x0 x1 x2 (x8.set (x16:Int).toNat t199) x9 x10 x13 (wrap64 (x16+1)))) else (none)) else (none)) else (none)) else (if x8.length < 5864062014805 then (if x9.length < 17592186044416 then (qg.l0 k x0 x1 x2 (x8++[x13]) (x9++[x10]) (wrap64 (x10+1))) else (none)) else (none))
end
def qg.f (k:Nat) (a0:Int) (l1:List (List Int)) (a2:Int):Option ((List (List Int))×List Int):=qg.l0 k a0 l1 a2 (([]:List (List Int))) (([]:List Int)) 0
theorem qg.mono_l :∀ k,(∀ y0 y1 y2 y3 y4 y5,LeO (qg.l0 k y0 y1 y2 y3 y4 y5) (qg.l0 (k+1) y0 y1 y2 y3 y4 y5))∧(∀ y0 y1 y2 y3 y4 y5 y6 y7,LeO (qg.l1 k y0 y1 y2 y3 y4 y5 y6 y7) (qg.l1 (k+1) y0 y1 y2 y3 y4 y5 y6 y7))∧(∀ y0 y1 y2 y3 y4 y5 y6 y7 y8,LeO (qg.j2 k y0 y1 y2 y3 y4 y5 y6 y7 y8) (qg.j2 (k+1) y0 y1 y2 y3 y4 y5 y6 y7 y8))∧(∀ y0 y1 y2 y3 y4 y5 y6 y7 y8 y9,LeO (qg.l2 k y0 y1 y2 y3 y4 y5 y6 y7 y8 y9) (qg.l2 (k+1) y0 y1 y2 y3 y4 y5 y6 y7 y8 y9))∧(∀ y0 y1 y2 y3 y4 y5 y6 y7,LeO (qg.l3 k y0 y1 y2 y3 y4 y5 y6 y7) (qg.l3 (k+1) y0 y1 y2 y3 y4 y5 y6 y7))
 | 0=>⟨fun _ _ _ _ _ _ r h=>by simp[qg.l0]at h,fun _ _ _ _ _ _ _ _ r h=>by simp[qg.l1]at h,fun _ _ _ _ _ _ _ _ _ r h=>by simp[qg.j2]at h,fun _ _ _ _ _ _ _ _ _ _ r h=>by simp[qg.l2]at h,fun _ _ _ _ _ _ _ _ r h=>by simp[qg.l3]at h⟩
 | k+1=>by
  obtain⟨ih0,ih1,ih2,ih3,ih4⟩:=qg.mono_l k
  refine⟨?_,?_,?_,?_,?_⟩
  ·intro y0 y1 y2 y3 y4 y5
   unfold qg.l0
   repeat' first | (with_reducible first | apply ih0 | apply ih1 | apply ih2 | apply ih3 | apply ih4 | apply za.mono | apply zf.mono | exact LeO.refl _ | exact LeO.none _ | refine LeO.ite ?_ ?_ | refine LeO.bind ?_ (fun _=>?_)) | (first | apply ih0 | apply ih1 | apply ih2 | apply ih3 | apply ih4 | apply za.mono | apply zf.mono | exact LeO.none _ | refine LeO.ite ?_ ?_ | refine LeO.bind ?_ (fun _=>?_))
  ·intro y0 y1 y2 y3 y4 y5 y6 y7
   unfold qg.l1
   repeat' first | (with_reducible first | apply ih0 | apply ih1 | apply ih2 | apply ih3 | apply ih4 | apply za.mono | apply zf.mono | exact LeO.refl _ | exact LeO.none _ | refine LeO.ite ?_ ?_ | refine LeO.bind ?_ (fun _=>?_)) | (first | apply ih0 | apply ih1 | apply ih2 | apply ih3 | apply ih4 | apply za.mono | apply zf.mono | exact LeO.none _ | refine LeO.ite ?_ ?_ | refine LeO.bind ?_ (fun _=>?_))
  ·intro y0 y1 y2 y3 y4 y5 y6 y7 y8
   unfold qg.j2
   repeat' first | (with_reducible first | apply ih0 | apply ih1 | apply ih2 | apply ih3 | apply ih4 | apply za.mono | apply zf.mono | exact LeO.refl _ | exact LeO.none _ | refine LeO.ite ?_ ?_ | refine LeO.bind ?_ (fun _=>?_)) | (first | apply ih0 | apply ih1 | apply ih2 | apply ih3 | apply ih4 | apply za.mono | apply zf.mono | exact LeO.none _ | refine LeO.ite ?_ ?_ | refine LeO.bind ?_ (fun _=>?_))
  ·intro y0 y1 y2 y3 y4 y5 y6 y7 y8 y9
   unfold qg.l2
   repeat' first | (with_reducible first | apply ih0 | apply ih1 | apply ih2 | apply ih3 | apply ih4 | apply za.mono | apply zf.mono | exact LeO.refl _ | exact LeO.none _ | refine LeO.ite ?_ ?_ | refine LeO.bind ?_ (fun _=>?_)) | (first | apply ih0 | apply ih1 | apply ih2 | apply ih3 | apply ih4 | apply za.mono | apply zf.mono | exact LeO.none _ | refine LeO.ite ?_ ?_ | refine LeO.bind ?_ (fun _=>?_))
  ·intro y0 y1 y2 y3 y4 y5 y6 y7
   unfold qg.l3
   repeat' first | (with_reducible first | apply ih0 | apply ih1 | apply ih2 | apply ih3 | apply ih4 | apply za.mono | apply zf.mono | exact LeO.refl _ | exact LeO.none _ | refine LeO.ite ?_ ?_ | refine LeO.bind ?_ (fun _=>?_)) | (first | apply ih0 | apply ih1 | apply ih2 | apply ih3 | apply ih4 | apply za.mono | apply zf.mono | exact LeO.none _ | refine LeO.ite ?_ ?_ | refine LeO.bind ?_ (fun _=>?_))
theorem qg.mono :∀ a0 a1 a2 k,LeO (qg.f k a0 a1 a2) (qg.f (k+1) a0 a1 a2):=by
 intro a0 a1 a2 k
 obtain⟨ih0,ih1,ih2,ih3,ih4⟩:=qg.mono_l k
 unfold qg.f
 repeat' first | (with_reducible first | apply ih0 | apply ih1 | apply ih2 | apply ih3 | apply ih4 | apply za.mono | apply zf.mono | exact LeO.refl _ | exact LeO.none _ | refine LeO.ite ?_ ?_ | refine LeO.bind ?_ (fun _=>?_)) | (first | apply ih0 | apply ih1 | apply ih2 | apply ih3 | apply ih4 | apply za.mono | apply zf.mono | exact LeO.none _ | refine LeO.ite ?_ ?_ | refine LeO.bind ?_ (fun _=>?_))
def qg.T19 :Bool×List (List Nat×List Nat):=(true,[([],[]),([],[]),([],[]),([],[]),([2,3],[2,3]),([4],[4]),([],[]),([],[]),([6,7],[6,7]),([8],[8]),([],[]),([9,10],[9,10]),([11],[11]),([],[]),([1,5,12,13],[1,5,12,13]),([14],[14]),([0,15,14],[0,15]),([16,16,0,1,2,3,4,5,6,7,8,9,10,11,12,13,14,15,16],[0,16])])
def qg.B19 :List Nat:=[0,0,0,0,12,28,0,0,192,448,0,1984,4032,0,16382,32766,65535,131071]
theorem qg.tab19 :rtab .any (Z0 Try.f150 19)=qg.T19:=by kernel_rfl
theorem qg.bits19 :Qj qg.T19.2 qg.B19=true:=by kernel_rfl
def qg.T24 :Bool×List (List Nat×List Nat):=(true,[([],[]),([],[]),([],[]),([],[]),([],[]),([3,4],[3,4]),([5],[5]),([],[]),([],[]),([7,8],[7,8]),([9],[9]),([],[]),([10,11],[10,11]),([12],[12]),([],[]),([2,6,13,14],[2,6,13,14]),([0,1,0,1,2,3,4,5,6,7,8,9,10,11,12,13,14,15],[0,1]),([16,15,15,0,1,2,3,4,5,6,7,8,9,10,11,12,13,14,15],[15,16])])
def qg.B24 :List Nat:=[0,0,0,0,0,24,56,0,0,384,896,0,3968,8064,0,32764,65535,131071]
theorem qg.tab24 :rtab .any (Z0 Try.f150 24)=qg.T24:=by kernel_rfl
theorem qg.bits24 :Qj qg.T24.2 qg.B24=true:=by kernel_rfl
set_option maxHeartbeats 8000000 in
set_option maxRecDepth 100000 in
theorem qg.calls (k:Nat) (a0:Int) (P1_:Nat→Prop) (A1:Option Addr) (c1:Nat) (l1:List (List Int)) (a2:Int) (r1:List (List Int)) (r2:List Int) (w:World) (hs1:Kd.V (Kd.slice 3 (Kd.int .i64)) 23 w w.heap.size (fun k_=>P1_ k_) (.slice A1 l1.length c1) l1) (h:qg.f k a0 l1 a2=some (r1,r2)):
  Calls Try.prog 150 #[.int .i64 a0,.slice A1 l1.length c1,.int .i64 a2] w fun e w'=>∃ v0_ v1_:Value,e=.returned (.tuple #[v0_,v1_])∧Kd.N (Kd.slice 3 (Kd.int .i64)) 23 w' w.heap.size (fun k_=>(P1_ k_∨w.heap.size≤k_)∧some k_≠(v1_:Value).ownBlock) v0_ r1∧Kd.R (Kd.int .i64) 3 w' w.heap.size (fun k_=>(w.heap.size≤k_)) v1_ r2∧Below w.heap.size w w':=by
 have HO1:=am (show Kd.V (Kd.slice 3 (Kd.int .i64)) 23 w w.heap.size (fun k_=>(P1_ k_∨w.heap.size≤k_)) (.slice A1 l1.length c1) l1 from Kd.V_mono hs1 (fun k_ hk=>.inl hk))
 have HB:=am (Below.refl w.heap.size w)
 have H:(qg.l0 k a0 l1 a2 (([]:List (List Int))) (([]:List Int)) 0)=some (r1,r2):=h
 clear h
 obtain⟨y172,hy172⟩:∃ y_:List (List Int),y_=(([]:List (List Int))):=⟨_,rfl⟩
 replace H:(qg.l0 k a0 l1 a2 y172 (([]:List Int)) 0)=some (r1,r2):=by first | (rw[hy172];with_reducible exact H) | (have H2_:=(Option.bind_some _ _).symm.trans H;rw[hy172];with_reducible exact H2_) | (have H2_:=(Option.bind_some _ _).symm.trans H;with_reducible exact H2_) | with_reducible exact H | (rw[hy172];exact H) | exact H
 have Ny172:=am hy172;clear hy172
 generalize hy175:(([]:List Int))=y175 at H
 have Ny175:=am hy175.symm;clear hy175;have H':=am H;clear H
 go_enter Try.func150,Try.ntmps150
 go_wp2_with (first | ((with_reducible refine zb (N:=17) rfl ?_);refine Kd.N_lit (Kd.slice 3 (Kd.int .i64)) _ 23 ?hg (N':=17) ?hd (xs:=([]:List (List Int))) (inner:=[]) (ok:=(fun k_=>(P1_ k_∨w.heap.size≤k_))) (okp:=(fun k_=>(P1_ k_∨w.heap.size≤k_))) ?hr ?hp (fun _ hk=>hk) ((show ∀ k_,w.heap.size≤k_→(fun k_=>(P1_ k_∨w.heap.size≤k_)) k_ from fun k_ hk=>(.inr (Nat.le_trans (bz HB) hk))) _ (Nat.le_refl _)) (Below.refl _ _) (Nat.le_refl _) (by simp) ?_;(case hd=>rfl);(case hg=>rfl);(case hr=>first | (go_simp;done) | (go_simp;rfl));(case hp=>exact(Reps.none _ _));intro v173 w4 ho5 hb hg_ hnew_;clear hg_ hnew_;(first | rw[← Ny172.out]at ho5 | (simp only[Int.reduceToNat]at ho5;rw[← Ny172.out]at ho5));replace HO1:=eV HO1 (Kd.N_base ho5) hb;have HO174:=am (Kd.N_lower ho5 (bz HB));replace HB:=bq HB hb;clear hb ho5) | ((with_reducible refine zb (N:=18) rfl ?_);refine li 3 ([]:List Int) ?_;intro v176 w6 ho7 hb;(first | rw[← Ny175.out]at ho7 | (simp only[Int.reduceToNat]at ho7;rw[← Ny175.out]at ho7));replace HO1:=eV HO1 (Kd.R_base ho7) hb;replace HO174:=eN HO174 (Kd.R_base ho7) hb;have HO177:=am (mR ho7 HB);replace HB:=bq HB hb;clear hb ho7))
 go_loopg [1,8,9,10] k (fun kq v1 v8 v9 v10 w'=>∃ (x1_1:List (List Int)) (x8_1:List (List Int)) (x9_1:List Int) (x10_1:Int),v10=.int .i64 x10_1∧qf (qg.l0 kq a0 x1_1 a2 x8_1 x9_1 x10_1=some (r1,r2))∧qf (kq≤k)∧qf (Kd.V (Kd.slice 3 (Kd.int .i64)) 23 w' w.heap.size (fun k_=>(P1_ k_∨w.heap.size≤k_)∧some k_≠(v8:Value).ownBlock∧some k_≠(v9:Value).ownBlock) v1 x1_1)∧qf (Kd.N (Kd.slice 3 (Kd.int .i64)) 23 w' w.heap.size (fun k_=>(P1_ k_∨w.heap.size≤k_)∧some k_≠(v9:Value).ownBlock) v8 x8_1)∧qf (Kd.R (Kd.int .i64) 3 w' w.heap.size (fun k_=>(w.heap.size≤k_)) v9 x9_1)∧qf (Below w.heap.size w w'))
 case atStart=>exact⟨(l1),(y172),(y175),(0),fr,H',⟨Nat.le_refl _⟩,⟨Kd.V_below (Kd.V_mono HO1.out (fun _ hk=>⟨hk.1.1,⟨hk.1.2,hk.2⟩⟩)) gs⟩,⟨wN HO174⟩,⟨Kd.R_below (Kd.R_mono HO177.out (fun _ hk=>hk.1)) gs⟩,⟨bw HB⟩⟩
 case round =>
  clear H';try clear c1;try clear p2
  obtain⟨x1_1,x8_1,x9_1,x10_1,rfl,HA,HK1,HO_1,HO_8,HO_9,HB⟩:=hrel
  cases gk with
  | zero=>exact absurd HA.out (by simp[qg.l0])
  | succ k1 =>
   have H:=HA.out;clear HA
   simp only[qg.l0]at H
   by_cases c8:x10_1 < a2
   ·rw [if_pos c8] at H
    have c8b0:=decide_eq_true c8;clear c8;have H':=am H;clear H;go_wp2
    go_loopg [11,12] k1 (fun kq v11 v12 w'=>∃ (x11_2:Int) (x12_2:Int),v11=.int .i64 x11_2∧v12=.int .i64 x12_2∧qf (qg.l1 kq a0 x1_1 a2 x8_1 x9_1 x10_1 x11_2 x12_2=some (r1,r2))∧qf (kq≤k1)∧qf (Kd.V (Kd.slice 3 (Kd.int .i64)) 23 w' w.heap.size (fun k_=>(P1_ k_∨w.heap.size≤k_)∧some k_≠(u8:Value).ownBlock∧some k_≠(u9:Value).ownBlock) u1 x1_1)∧qf (Kd.N (Kd.slice 3 (Kd.int .i64)) 23 w' w.heap.size (fun k_=>(P1_ k_∨w.heap.size≤k_)∧some k_≠(u9:Value).ownBlock) u8 x8_1)∧qf (Kd.R (Kd.int .i64) 3 w' w.heap.size (fun k_=>(w.heap.size≤k_)) u9 x9_1)∧qf (Below w.heap.size w w'))
    case atStart=>exact⟨((-1)),(0),fr,fr,H',⟨Nat.le_refl _⟩,⟨wV HO_1⟩,⟨wN HO_8⟩,⟨wR HO_9⟩,⟨bw HB⟩⟩
    case round =>
     clear H';try clear c1;try clear p2;try clear c8;try clear c8b0;try clear p2
     obtain⟨x11_2,x12_2,rfl,rfl,HA,HK2,HO_1,HO_8,HO_9,HB⟩:=hrel
     cases gk with
     | zero=>exact absurd HA.out (by simp[qg.l1])
     | succ k2 =>
      have H:=HA.out;clear HA
      simp only[qg.l1]at H
      have HC9:=am H
      clear H
      go_upto_region 8 with (fail)
      go_cut [31] (fun v31 wc=>∃ (kq:Nat) (x31_8:Bool),v31=.bool x31_8∧qf (qg.j2 kq a0 x1_1 a2 x8_1 x9_1 x10_1 x11_2 x12_2 x31_8=some (r1,r2))∧qf (kq≤k2)∧qf (Kd.V (Kd.slice 3 (Kd.int .i64)) 23 wc w.heap.size (fun k_=>(P1_ k_∨w.heap.size≤k_)∧some k_≠(u8:Value).ownBlock∧some k_≠(u9:Value).ownBlock) u1 x1_1)∧qf (Kd.N (Kd.slice 3 (Kd.int .i64)) 23 wc w.heap.size (fun k_=>(P1_ k_∨w.heap.size≤k_)∧some k_≠(u9:Value).ownBlock) u8 x8_1)∧qf (Kd.R (Kd.int .i64) 3 wc w.heap.size (fun k_=>(w.heap.size≤k_)) u9 x9_1)∧qf (Below w.heap.size w wc))
      case first=>
       have H:=HC9.out
       clear HC9
       by_cases c10:x12_2 < (x1_1.length:Int)
       ·rw[if_pos c10]at H
        have c10b0:=decide_eq_true c10;clear c10
        (first | rw[c10b0] | (simp only[qbs,qbv];rw[c10b0]) | skip)
        have H':=am H;clear H
        obtain⟨Ao11,co11,eo11⟩:=Kd.V_slice HO_1.out
        subst eo11;go_wp2
        go_meet
        case rel=>exact⟨_,(decide (x11_2 < 0)),fr,H',⟨by have:=HK1.out;have:=HK2.out;first | omega | exact Nat.le_refl _⟩,⟨wV HO_1⟩,⟨wN HO_8⟩,⟨wR HO_9⟩,⟨bw HB⟩⟩
       ·rw[if_neg c10]at H
        have c10b0:=decide_eq_false c10;clear c10
        (first | rw[c10b0] | (simp only[qbs,qbv];rw[c10b0]) | skip)
        have H':=am H;clear H
        obtain⟨Ao12,co12,eo12⟩:=Kd.V_slice HO_1.out
        subst eo12;go_wp2
        go_meet
        case rel=>exact⟨_,(false),fr,H',⟨by have:=HK1.out;have:=HK2.out;first | omega | exact Nat.le_refl _⟩,⟨wV HO_1⟩,⟨wN HO_8⟩,⟨wR HO_9⟩,⟨bw HB⟩⟩
      case rest =>
       clear HC9;try clear c1;try clear p2;try clear c8;try clear c8b0;try clear c10;try clear c10b0;try clear p2
       obtain⟨kq,x31_8,rfl,HA,HJ8,HO_1,HO_8,HO_9,HB⟩:=hcut
       cases kq with
       | zero=>exact absurd HA.out (by simp[qg.j2])
       | succ kj8=>
        have H:=HA.out;clear HA
        simp only[qg.j2]at H
        by_cases c13:x31_8=true
        ·subst c13
         rw[if_pos rfl]at H
         replace H:=ifn H;obtain⟨c14,H⟩:=H;have c14b0:=decide_eq_true c14;clear c14;replace H:=ifn H;obtain⟨c15,H⟩:=H;have c15b0:=decide_eq_true c15;clear c15;replace H:=ifn H;obtain⟨c16,H⟩:=H;have c16b0:=decide_eq_true c16
         clear c16;replace H:=ifn H;obtain⟨c17,H⟩:=H;have c17b0:=decide_eq_true c17;clear c17
         by_cases c18:(rd (ju x1_1 x12_2) x10_1)=0
         ·rw[if_pos c18]at H
          have c18b0:=beq_iff_eq.mpr c18;have c18b1:=bne_eq_false_iff_eq.mpr c18;clear c18;have H':=am H;clear H
          obtain⟨Ao19,co19,eo19⟩:=Kd.V_slice HO_1.out
          subst eo19
          have p178:0≤(x12_2:Int):=od
          have q178:x12_2 < (x1_1.length:Int):=od
          obtain⟨ad178,A178_0,c178_0,e178,hx178_0,hl178_0,hi178_0⟩:=qak (Kd.V_reads' HO_1.out).2.2 x12_2 p178 q178
          cases e178
          obtain⟨ce178,hce178,hMe178,hcc178⟩:=Kd.V_get HO_1.out [] x12_2 p178 (by first | exact q178 | exact od | (have e_:=(Kd.V_reads' HO_1.out).1;omega))
          obtain⟨ua178_0,uc178_0,rfl,ul178_0,ge178_0⟩:=Kd.FK_slice_open hMe178
          have hv178_0:=hcc178 0 _ rfl
          rw[Nat.add_zero,show ((Kd.slice 3 (Kd.int .i64))).sz=1 from rfl,Nat.mul_one]at hv178_0
          replace hv178_0:=Option.some.inj (hv178_0.symm.trans hx178_0)
          injection hv178_0 with hva_ hvn_ hvc_
          rw[hva_]at ge178_0
          rw[hvc_]at ul178_0
          have HL178_0:=am (show Kd.V (Kd.int .i64) 3 _ w.heap.size _ _ (ju x1_1 x12_2) from Kd.V_mk ul178_0 ge178_0)
          clear hva_ hvn_ hvc_ ge178_0 ul178_0;clear hcc178 hce178
          have HR178_0:=am hi178_0
          have HC178_0:=am hl178_0
          clear hi178_0 hl178_0;replace p178:=eq_true p178;replace q178:=eq_true q178
          have p179:0≤(x10_1:Int):=od
          have q179:x10_1 < ((ju x1_1 x12_2).length:Int):=od
          obtain⟨ad179,e179,hx179_0⟩:=Kd.at_int HR178_0.out x10_1 p179 q179
          cases e179;replace p179:=eq_true p179;replace q179:=eq_true q179;go_wp2
          go_roundg kj8
          case measure=>have:=HK1.out;have:=HK2.out;have:=HJ8.out;omega
          case rel=>exact⟨(x11_2),(wrap64 (x12_2+1)),fr,fr,H',⟨by have:=HK1.out;have:=HK2.out;have:=HJ8.out;omega⟩,⟨wV HO_1⟩,⟨wN HO_8⟩,⟨wR HO_9⟩,⟨bw HB⟩⟩
         ·rw[if_neg c18]at H
          have c18b0:=beq_eq_false_iff_ne.mpr c18;have c18b1:=bne_iff_ne.mpr c18;have H':=am H;clear H
          obtain⟨Ao20,co20,eo20⟩:=Kd.V_slice HO_1.out
          subst eo20
          have p178:0≤(x12_2:Int):=od
          have q178:x12_2 < (x1_1.length:Int):=od
          obtain⟨ad178,A178_0,c178_0,e178,hx178_0,hl178_0,hi178_0⟩:=qak (Kd.V_reads' HO_1.out).2.2 x12_2 p178 q178
          cases e178
          obtain⟨ce178,hce178,hMe178,hcc178⟩:=Kd.V_get HO_1.out [] x12_2 p178 (by first | exact q178 | exact od | (have e_:=(Kd.V_reads' HO_1.out).1;omega))
          obtain⟨ua178_0,uc178_0,rfl,ul178_0,ge178_0⟩:=Kd.FK_slice_open hMe178
          have hv178_0:=hcc178 0 _ rfl
          rw[Nat.add_zero,show ((Kd.slice 3 (Kd.int .i64))).sz=1 from rfl,Nat.mul_one]at hv178_0
          replace hv178_0:=Option.some.inj (hv178_0.symm.trans hx178_0)
          injection hv178_0 with hva_ hvn_ hvc_
          rw[hva_]at ge178_0
          rw[hvc_]at ul178_0
          have HL178_0:=am (show Kd.V (Kd.int .i64) 3 _ w.heap.size _ _ (ju x1_1 x12_2) from Kd.V_mk ul178_0 ge178_0)
          clear hva_ hvn_ hvc_ ge178_0 ul178_0;clear hcc178 hce178
          have HR178_0:=am hi178_0
          have HC178_0:=am hl178_0
          clear hi178_0 hl178_0;replace p178:=eq_true p178;replace q178:=eq_true q178
          have p179:0≤(x10_1:Int):=od
          have q179:x10_1 < ((ju x1_1 x12_2).length:Int):=od
          obtain⟨ad179,e179,hx179_0⟩:=Kd.at_int HR178_0.out x10_1 p179 q179
          cases e179;replace p179:=eq_true p179;replace q179:=eq_true q179;go_wp2
          go_roundg kj8
          case measure=>have:=HK1.out;have:=HK2.out;have:=HJ8.out;omega
          case rel=>exact⟨(x12_2),(wrap64 (x12_2+1)),fr,fr,H',⟨by have:=HK1.out;have:=HK2.out;have:=HJ8.out;omega⟩,⟨wV HO_1⟩,⟨wN HO_8⟩,⟨wR HO_9⟩,⟨bw HB⟩⟩
        ·replace c13:=Bool.eq_false_iff.mpr c13
         subst c13
         rw[if_neg (show ¬ (false=true) by decide)]at H
         by_cases c21:x11_2 < 0
         ·rw[if_pos c21]at H
          have c21b0:=decide_eq_true c21;clear c21;have H':=am H;clear H;go_wp2
          go_roundg kj8
          case measure=>have:=HK1.out;have:=HK2.out;have:=HJ8.out;omega
          case rel=>exact⟨(x1_1),(x8_1),(x9_1),(wrap64 (x10_1+1)),fr,H',⟨by have:=HK1.out;have:=HK2.out;have:=HJ8.out;omega⟩,⟨wV HO_1⟩,⟨wN HO_8⟩,⟨wR HO_9⟩,⟨bw HB⟩⟩
         ·rw [if_neg c21] at H
          have c21b0:=decide_eq_false c21;clear c21;replace H:=ifn H;obtain⟨c22,H⟩:=H;have c22b0:=decide_eq_true c22;clear c22;replace H:=ifn H;obtain⟨c23,H⟩:=H;have c23b0:=decide_eq_true c23;clear c23;replace H:=bs H;obtain⟨t181,A24,H⟩:=H
          generalize hy184:(([]:List (List Int)))=y184 at H
          have Ny184:=am hy184.symm;clear hy184;have H':=am H;clear H
          obtain⟨Ao25,co25,eo25⟩:=Kd.V_slice HO_1.out
          subst eo25
          have p180:0≤(x11_2:Int):=od
          have q180:x11_2 < (x1_1.length:Int):=od
          obtain⟨ad180,A180_0,c180_0,e180,hx180_0,hl180_0,hi180_0⟩:=qak (Kd.V_reads' HO_1.out).2.2 x11_2 p180 q180
          cases e180
          obtain⟨ce180,hce180,hMe180,hcc180⟩:=Kd.V_get HO_1.out [] x11_2 p180 (by first | exact q180 | exact od | (have e_:=(Kd.V_reads' HO_1.out).1;omega))
          obtain⟨ua180_0,uc180_0,rfl,ul180_0,ge180_0⟩:=Kd.FK_slice_open hMe180
          have hv180_0:=hcc180 0 _ rfl
          rw[Nat.add_zero,show ((Kd.slice 3 (Kd.int .i64))).sz=1 from rfl,Nat.mul_one]at hv180_0
          replace hv180_0:=Option.some.inj (hv180_0.symm.trans hx180_0)
          injection hv180_0 with hva_ hvn_ hvc_
          rw[hva_]at ge180_0
          rw[hvc_]at ul180_0
          have HL180_0:=am (show Kd.V (Kd.int .i64) 3 _ w.heap.size _ _ (ju x1_1 x11_2) from Kd.V_mk ul180_0 ge180_0)
          clear hva_ hvn_ hvc_ ge180_0 ul180_0;clear hcc180 hce180
          have HR180_0:=am hi180_0
          have HC180_0:=am hl180_0
          clear hi180_0 hl180_0;replace p180:=eq_true p180;replace q180:=eq_true q180
          go_wp2_with (first | ((with_reducible refine qt (f:=80) rfl ?_);refine gl 50 Try.func80 #[.int .i64 a0,.slice A180_0 (ju x1_1 x11_2).length c180_0] ?_;(with_reducible refine(zf.calls kj8 a0 _ _ (ju x1_1 x11_2) t181 _ ?_ ?_ A24.out).mono ?_);exact wC HR180_0;exact HC180_0.out;rintro e w26 ⟨v182,rfl,ho0,hb⟩;refine⟨_,rfl,?_⟩;replace HO_1:=eV HO_1 (Kd.R_base ho0) hb;replace HO_8:=eN HO_8 (Kd.R_base ho0) hb;replace HL180_0:=eV HL180_0 (Kd.R_base ho0) hb;have HO183:=am (Kd.R_lower (Kd.R_new' (Kd.R_newM (M:=fun k_=>(w.heap.size≤k_)) ho0 (bz HB) (fun k_ h_=>h_)) (Kd.R_lt (wR HO_9))) (bz HB));replace HO_9:=eR HO_9 (Kd.R_base ho0) hb;replace HR180_0:=am (Kd.C_below (wC HR180_0) hb);replace HB:=bq HB hb;(try clear hb);(try clear ho0)) | ((with_reducible refine zb (N:=51) rfl ?_);refine Kd.N_lit (Kd.slice 3 (Kd.int .i64)) _ 23 ?hg (N':=51) ?hd (xs:=([]:List (List Int))) (inner:=[]) (ok:=(fun k_=>(P1_ k_∨w.heap.size≤k_)∧some k_≠(u8:Value).ownBlock∧some k_≠(u9:Value).ownBlock∧some k_≠(v182:Value).ownBlock)) (okp:=(fun k_=>(P1_ k_∨w.heap.size≤k_)∧some k_≠(u8:Value).ownBlock∧some k_≠(u9:Value).ownBlock∧some k_≠(v182:Value).ownBlock)) ?hr ?hp (fun _ hk=>hk) ((show ∀ k_,w26.heap.size≤k_→(fun k_=>(P1_ k_∨w.heap.size≤k_)∧some k_≠(u8:Value).ownBlock∧some k_≠(u9:Value).ownBlock∧some k_≠(v182:Value).ownBlock) k_ from fun k_ hk=>⟨(.inr (Nat.le_trans (bz HB) hk)),Kd.fresh' (Kd.N_lt (wN HO_8)) k_ hk,Kd.fresh' (Kd.R_lt (wR HO_9)) k_ hk,Kd.fresh' (Kd.R_lt (wR HO183)) k_ hk⟩) _ (Nat.le_refl _)) (Below.refl _ _) (Nat.le_refl _) (by simp) ?_;(case hd=>rfl);(case hg=>rfl);(case hr=>first | (go_simp;done) | (go_simp;rfl));(case hp=>exact(Reps.none _ _));intro v185 w27 ho28 hb hg_ hnew_;clear hg_ hnew_;(first | rw[← Ny184.out]at ho28 | (simp only[Int.reduceToNat]at ho28;rw[← Ny184.out]at ho28));replace HO_1:=eV HO_1 (Kd.N_base ho28) hb;replace HO_8:=eN HO_8 (Kd.N_base ho28) hb;replace HO_9:=am (Kd.R_below (wR HO_9) hb);replace HL180_0:=eV HL180_0 (Kd.N_base ho28) hb;replace HO183:=am (Kd.R_below (wR HO183) hb);have HO186:=am (Kd.N_lower ho28 (bz HB));replace HR180_0:=am (Kd.C_below (wC HR180_0) hb);replace HB:=bq HB hb;clear hb ho28))
          go_loopg [14,15] kj8 (fun kq v14 v15 w'=>∃ (x14_4:List (List Int)) (x15_4:Int),v15=.int .i64 x15_4∧qf (qg.l2 kq a0 x1_1 a2 x8_1 x9_1 x10_1 x11_2 t181 x14_4 x15_4=some (r1,r2))∧qf (kq≤kj8)∧qf (Kd.V (Kd.slice 3 (Kd.int .i64)) 23 w' w.heap.size (fun k_=>(P1_ k_∨w.heap.size≤k_)∧some k_≠(u8:Value).ownBlock∧some k_≠(u9:Value).ownBlock∧some k_≠(v182:Value).ownBlock∧some k_≠(v14:Value).ownBlock) (.slice (some ad180) x1_1.length co25) x1_1)∧qf (Kd.N (Kd.slice 3 (Kd.int .i64)) 23 w' w.heap.size (fun k_=>(P1_ k_∨w.heap.size≤k_)∧some k_≠(u9:Value).ownBlock∧some k_≠(v182:Value).ownBlock∧some k_≠(v14:Value).ownBlock) u8 x8_1)∧qf (Kd.R (Kd.int .i64) 3 w' w.heap.size (fun k_=>(w.heap.size≤k_)∧some k_≠(v182:Value).ownBlock) u9 x9_1)∧qf (Kd.R (Kd.int .i64) 3 w' w.heap.size (fun k_=>(w.heap.size≤k_)∧some k_≠(u9:Value).ownBlock) v182 t181)∧qf (Kd.N (Kd.slice 3 (Kd.int .i64)) 23 w' w.heap.size (fun k_=>(P1_ k_∨w.heap.size≤k_)∧some k_≠(u8:Value).ownBlock∧some k_≠(u9:Value).ownBlock∧some k_≠(v182:Value).ownBlock) v14 x14_4)∧qf (Below w.heap.size w w'))
          case atStart=>exact⟨(y184),(0),fr,H',⟨Nat.le_refl _⟩,⟨Kd.V_below (Kd.V_mono HO_1.out (fun _ hk=>⟨hk.1.1.1,⟨hk.1.1.2.1,⟨hk.1.1.2.2,⟨hk.1.2,hk.2⟩⟩⟩⟩)) gs⟩,⟨Kd.N_below (Kd.N_mono HO_8.out (fun _ hk=>⟨hk.1.1.1,⟨hk.1.1.2,⟨hk.1.2,hk.2⟩⟩⟩)) gs⟩,⟨wR HO_9⟩,⟨Kd.R_below (Kd.R_mono HO183.out (fun _ hk=>⟨hk.1.1,hk.2⟩)) gs⟩,⟨wN HO186⟩,⟨bw HB⟩⟩
          case round=>
           clear H';try clear c1;try clear p1;try clear q1;try clear hx1;try clear c2;try clear p2;try clear p6;try clear c8;try clear c8b0;try clear c10;try clear c10b0;try clear c13;try clear c14;try clear c14b0;try clear c15;try clear c15b0
           try clear c16;try clear c16b0;try clear c17;try clear c17b0;try clear p17;try clear q17;try clear hx17;try clear c18;try clear c18b0;try clear c18b1;try clear p18;try clear q18;try clear hx18;try clear c21;try clear c21b0;try clear c22
           try clear c22b0;try clear c23;try clear c23b0;try clear hx178_0;try clear hx179_0;try clear hx180_0;try clear p178;try clear p179;try clear p180;try clear p2;try clear q178;try clear q179;try clear q180
           obtain⟨x14_4,x15_4,rfl,HA,HK4,HO_1,HO_8,HO_9,HO_13,HO_14,HB⟩:=hrel
           cases gk with
           | zero=>exact absurd HA.out (by simp[qg.l2])
           | succ k4=>
            have H:=HA.out;clear HA
            simp only[qg.l2]at H
            by_cases c29:x15_4 < (x1_1.length:Int)
            ·rw[if_pos c29]at H
             have c29b0:=decide_eq_true c29;clear c29
             by_cases c30:x15_4=x11_2
             ·rw[if_pos c30]at H
              have c30b0:=beq_iff_eq.mpr c30;have c30b1:=bne_eq_false_iff_eq.mpr c30;clear c30;have H':=am H;clear H;go_wp2
              go_roundg k4
              case measure=>have:=HK1.out;have:=HK2.out;have:=HJ8.out;have:=HK4.out;omega
              case rel=>exact⟨(x14_4),(wrap64 (x15_4+1)),fr,H',⟨by have:=HK1.out;have:=HK2.out;have:=HJ8.out;have:=HK4.out;omega⟩,⟨wV HO_1⟩,⟨wN HO_8⟩,⟨wR HO_9⟩,⟨wR HO_13⟩,⟨wN HO_14⟩,⟨bw HB⟩⟩
             ·rw[if_neg c30]at H
              have c30b0:=beq_eq_false_iff_ne.mpr c30;have c30b1:=bne_iff_ne.mpr c30;replace H:=ifn H;obtain⟨c31,H⟩:=H;have c31b0:=decide_eq_true c31;clear c31;replace H:=ifn H;obtain⟨c32,H⟩:=H;have c32b0:=decide_eq_true c32;clear c32
              replace H:=ifn H;obtain⟨c33,H⟩:=H;have c33b0:=decide_eq_true c33;clear c33;replace H:=bs H;obtain⟨t190,A34,H⟩:=H;replace H:=ifn H;obtain⟨c35,H⟩:=H;have LMc35:=am c35;clear c35
              generalize hy193:(x14_4++[t190]:List (List Int))=y193 at H
              have Ny193:=am hy193.symm;clear hy193;have H':=am H;clear H
              try go_wp2
              replace HO_1:=am (Kd.V_drew HO_1.out)
              replace HO_8:=am (Kd.N_drew HO_8.out)
              replace HO_9:=am (Kd.R_drew HO_9.out)
              replace HO_13:=am (Kd.R_drew HO_13.out)
              replace HO_14:=am (Kd.N_drew HO_14.out)
              replace HB:=am (Qg HB.out)
              have p187:0≤(x15_4:Int):=od
              have q187:x15_4 < (x1_1.length:Int):=od
              obtain⟨ad187,A187_0,c187_0,e187,hx187_0,hl187_0,hi187_0⟩:=qak (Kd.V_reads' HO_1.out).2.2 x15_4 p187 q187
              obtain rfl:ad180=ad187:=(by injection e187)
              obtain⟨ce187,hce187,hMe187,hcc187⟩:=Kd.V_get HO_1.out [] x15_4 p187 (by first | exact q187 | exact od | (have e_:=(Kd.V_reads' HO_1.out).1;omega))
              obtain⟨ua187_0,uc187_0,rfl,ul187_0,ge187_0⟩:=Kd.FK_slice_open hMe187
              have hv187_0:=hcc187 0 _ rfl
              rw[Nat.add_zero,show ((Kd.slice 3 (Kd.int .i64))).sz=1 from rfl,Nat.mul_one]at hv187_0
              replace hv187_0:=Option.some.inj (hv187_0.symm.trans hx187_0)
              injection hv187_0 with hva_ hvn_ hvc_
              rw[hva_]at ge187_0
              rw[hvc_]at ul187_0
              have HL187_0:=am (show Kd.V (Kd.int .i64) 3 _ w.heap.size _ _ (ju x1_1 x15_4) from Kd.V_mk ul187_0 ge187_0)
              clear hva_ hvn_ hvc_ ge187_0 ul187_0;clear hcc187 hce187
              have HR187_0:=am hi187_0
              have HC187_0:=am hl187_0
              clear hi187_0 hl187_0;replace p187:=eq_true p187;replace q187:=eq_true q187
              have p188:0≤(x15_4:Int):=od
              have q188:x15_4 < (x1_1.length:Int):=od
              obtain⟨ad188,A188_0,c188_0,e188,hx188_0,hl188_0,hi188_0⟩:=qak (Kd.V_reads' HO_1.out).2.2 x15_4 p188 q188
              obtain rfl:ad180=ad188:=(by injection e188)
              obtain⟨ce188,hce188,hMe188,hcc188⟩:=Kd.V_get HO_1.out [] x15_4 p188 (by first | exact q188 | exact od | (have e_:=(Kd.V_reads' HO_1.out).1;omega))
              obtain⟨ua188_0,uc188_0,rfl,ul188_0,ge188_0⟩:=Kd.FK_slice_open hMe188
              have hv188_0:=hcc188 0 _ rfl
              rw[Nat.add_zero,show ((Kd.slice 3 (Kd.int .i64))).sz=1 from rfl,Nat.mul_one]at hv188_0
              replace hv188_0:=Option.some.inj (hv188_0.symm.trans hx188_0)
              injection hv188_0 with hva_ hvn_ hvc_
              rw[hva_]at ge188_0
              rw[hvc_]at ul188_0
              have HL188_0:=am (show Kd.V (Kd.int .i64) 3 _ w.heap.size _ _ (ju x1_1 x15_4) from Kd.V_mk ul188_0 ge188_0)
              clear hva_ hvn_ hvc_ ge188_0 ul188_0;clear hcc188 hce188
              have HR188_0:=am hi188_0
              have HC188_0:=am hl188_0
              clear hi188_0 hl188_0;replace p188:=eq_true p188;replace q188:=eq_true q188
              have ea_:=Option.some.inj (hx187_0.symm.trans hx188_0)
              injection ea_ with ea_ en_ ec_
              subst ea_;subst ec_;clear en_
              have p189:0≤(x10_1:Int):=od
              have q189:x10_1 < ((ju x1_1 x15_4).length:Int):=od
              obtain⟨ad189,e189,hx189_0⟩:=Kd.at_int HR188_0.out x10_1 p189 q189
              cases e189;replace p189:=eq_true p189;replace q189:=eq_true q189
              obtain⟨Ao37,co37,eo37⟩:=Kd.R_slice HO_13.out
              (first | subst eo37 | (injection eo37 with f1_ f2_ f3_;have f4_:=f1_.symm;have f5_:=f3_.symm;clear f1_ f2_ f3_;subst f4_;subst f5_))
              refine st 18 (fun w'=>w'.cell? (ad180.add (x15_4).toNat)=some (.slice (some ad189) (ju x1_1 x15_4).length c187_0)∧w'.cell? (ad180.add (x15_4).toNat)=some (.slice (some ad189) (ju x1_1 x15_4).length c187_0)∧w'.cell? (ad189.add (x10_1).toNat)=some (.int .i64 (rd (ju x1_1 x15_4) x10_1))) [15,16] qg.tab19 qg.bits19 (⟨hx187_0,hx188_0,hx189_0⟩) fun hHeld HT_ HW_=>?_
              generalize wr.drew=w36 at HO_1 HO_8 HO_9 HO_13 HO_14 HB HL187_0 HL188_0 HR187_0 HR188_0 hx187_0 hx188_0 hx189_0 hHeld ⊢
              refine pz 0 61 HT_ ?_;refine pz 1 62 HT_ ?_;refine pz 2 63 HT_ ?_;refine pz 3 64 HT_ ?_;refine pz 4 65 HT_ ?_;refine pz 6 67 HT_ ?_;refine pz 7 68 HT_ ?_;refine pz 8 69 HT_ ?_;refine pz 10 71 HT_ ?_;refine pz 13 74 HT_ ?_;refine tk 5 66 HT_ HW_ hHeld ?_
              refine tk 9 70 HT_ HW_ hHeld ?_;refine pz 11 72 HT_ ?_;refine tk 12 73 HT_ HW_ hHeld ?_
              refine on 14 (some 75) HT_ fun K hK=>?_
              refine gs_ Try.func165 #[.int .i64 a0,.slice (some ad189) (ju x1_1 x15_4).length c187_0,.int .i64 (rd (ju x1_1 x15_4) x10_1),.slice Ao37 t181.length co37] ?_
              with_reducible refine(za.calls k4 a0 _ _ (ju x1_1 x15_4) (rd (ju x1_1 x15_4) x10_1) _ _ t181 t190 _ ?side1 ?side2 ?side3 ?side4 A34.out).mono ?_
              (case side1=>exact wC HR187_0)
              (case side2=>exact HC187_0.out)
              (case side3=>exact Kd.C_below (Kd.R_reads' HO_13.out).2.2 gs)
              (case side4=>exact(Kd.R_reads' HO_13.out).2.1)
              rintro e w38 ⟨v191,rfl,ho0,hb⟩
              have HS0_:=(hb.cell (World.block_lt_of_cell? _ _ (hHeld.1))).trans (hHeld.1)
              have HS1_:=(hb.cell (World.block_lt_of_cell? _ _ (hHeld.2.1))).trans (hHeld.2.1)
              have HS2_:=(hb.cell (World.block_lt_of_cell? _ _ (hHeld.2.2))).trans (hHeld.2.2)
              refine⟨_,rfl,?_⟩
              replace HO_1:=eV HO_1 (Kd.R_base ho0) hb
              replace HO_8:=eN HO_8 (Kd.R_base ho0) hb
              replace HO_14:=eN HO_14 (Kd.R_base ho0) hb
              replace HL187_0:=eV HL187_0 (Kd.R_base ho0) hb
              replace HL188_0:=eV HL188_0 (Kd.R_base ho0) hb
              have HO192:=am (Kd.R_lower (Kd.R_new' (Kd.R_new' (Kd.R_newM (M:=fun k_=>(w.heap.size≤k_)) ho0 (bz HB) (fun k_ h_=>h_)) (Kd.R_lt (wR HO_9))) (Kd.R_lt (wR HO_13))) (bz HB))
              replace HO_9:=eR HO_9 (Kd.R_base ho0) hb
              replace HO_13:=eR HO_13 (Kd.R_base ho0) hb
              replace HR187_0:=am (Kd.C_below (wC HR187_0) hb)
              replace HR188_0:=am (Kd.C_below (wC HR188_0) hb)
              replace HB:=bq HB hb
              (try clear hb)
              (try clear hb2)
              (try clear hk)
              (try clear hi)
              (try clear ho0)
              obtain⟨Ao40,co40,eo40⟩:=Kd.R_slice HO192.out
              (first | subst eo40 | (injection eo40 with f1_ f2_ f3_;have f4_:=f1_.symm;have f5_:=f3_.symm;clear f1_ f2_ f3_;subst f4_;subst f5_))
              refine hK.out _ _ ⟨HS0_,HS1_,HS2_⟩ fun hHeld=>nz ?_
              clear hK K
              refine la 15 (some 76) HT_ fun K hK=>?_
              refine qbm (w1:=?_) (v:=?_) (by rfl) rfl ?_ ?_
              rotate_left 2
              ·go_simp
               constructor
               ·rfl
               ·rfl
              refine hK.out _ _ (nz ?_)
              clear hK K
              refine la 16 (some 77) HT_ fun K hK=>?_
              refine Kd.N_append_step (Kd.slice 3 (Kd.int .i64)) (w0:=w) w.heap.size (by rfl) (.tmp 61) (.tmp 76) 47 23 (.slice none 0 0) 24 rfl Try.underlying47 Zu rfl (by decide) (by omega) u14 x14_4 t190 [.slice Ao40 t190.length co40] (fun k_=>(P1_ k_∨w.heap.size≤k_)∧some k_≠(u8:Value).ownBlock∧some k_≠(u9:Value).ownBlock∧some k_≠(.slice Ao37 t181.length co37:Value).ownBlock) (fun k_=>((fun k_=>(P1_ k_∨w.heap.size≤k_)∧some k_≠(u8:Value).ownBlock∧some k_≠(u9:Value).ownBlock∧some k_≠(.slice Ao37 t181.length co37:Value).ownBlock)) k_∧some k_≠(u14:Value).ownBlock) rfl rfl ?aP (fun _ hk=>hk) ?aF ?aO ?aB ?aS ?aL ?_
              (case aP=>exact(Kd.FK_slice_mk (Kd.R_reads' (Kd.R_mono (ok':=(fun k_=>((fun k_=>(P1_ k_∨w.heap.size≤k_)∧some k_≠(u8:Value).ownBlock∧some k_≠(u9:Value).ownBlock∧some k_≠(.slice Ao37 t181.length co37:Value).ownBlock)) k_∧some k_≠(u14:Value).ownBlock)) (Kd.R_apart' (Kd.R_apart' (HO192.out) (Kd.N_typed HO_8.out) (by decide)) (Kd.N_typed HO_14.out) (by decide)) (fun k_ hk=>⟨⟨(.inr (hk.1.1.1.1.1)),⟨hk.1.2,⟨hk.1.1.1.2,hk.1.1.2⟩⟩⟩,hk.2⟩))).2.1 (Kd.R_F (Kd.R_mono (ok':=(fun k_=>((fun k_=>(P1_ k_∨w.heap.size≤k_)∧some k_≠(u8:Value).ownBlock∧some k_≠(u9:Value).ownBlock∧some k_≠(.slice Ao37 t181.length co37:Value).ownBlock)) k_∧some k_≠(u14:Value).ownBlock)) (Kd.R_apart' (Kd.R_apart' (HO192.out) (Kd.N_typed HO_8.out) (by decide)) (Kd.N_typed HO_14.out) (by decide)) (fun k_ hk=>⟨⟨(.inr (hk.1.1.1.1.1)),⟨hk.1.2,⟨hk.1.1.1.2,hk.1.1.2⟩⟩⟩,hk.2⟩)))))
              (case aB=>exact(bw HB))
              (case aF=>exact(fun k_ hk=>⟨(.inr (Nat.le_trans (bz HB) hk)),Kd.fresh' (Kd.N_lt (wN HO_8)) k_ hk,Kd.fresh' (Kd.R_lt (wR HO_9)) k_ hk,Kd.fresh' (Kd.R_lt (wR HO_13)) k_ hk⟩))
              (case aO=>exact(oN_ HO_14 (fun _ hk=>⟨hk.1.1,⟨hk.1.2.1,⟨hk.1.2.2.1,hk.1.2.2.2⟩⟩⟩)))
              (case aS=>exact(bz HB))
              (case aL=>have:=LMc35.out;omega)
              intro v194 w39 ho hb hg hat
              rw[← Ny193.out]at ho
              replace HO_1:=am (Kd.V_afterv (ok:=(fun k_=>(P1_ k_∨w.heap.size≤k_)∧some k_≠(u8:Value).ownBlock∧some k_≠(u9:Value).ownBlock∧some k_≠(.slice Ao37 t181.length co37:Value).ownBlock∧some k_≠(.slice Ao40 t190.length co40:Value).ownBlock)) (oV_ HO_1 (fun _ hk=>⟨⟨hk.1.1,⟨hk.1.2.1,⟨hk.1.2.2.1,⟨hk.1.2.2.2.1,hk.2⟩⟩⟩⟩,hk.1.2.2.2.2⟩)) hg hat)
              replace HO_8:=am (Kd.N_afterv (ok:=(fun k_=>(P1_ k_∨w.heap.size≤k_)∧some k_≠(u9:Value).ownBlock∧some k_≠(.slice Ao37 t181.length co37:Value).ownBlock∧some k_≠(.slice Ao40 t190.length co40:Value).ownBlock)) (oN_ HO_8 (fun _ hk=>⟨⟨hk.1.1,⟨hk.1.2.1,⟨hk.1.2.2.1,hk.2⟩⟩⟩,hk.1.2.2.2⟩)) hg hat)
              replace HO_9:=am (Kd.R_over' (wR HO_9) (Kd.N_typed (wN HO_14)) (by decide) hg)
              replace HO_13:=am (Kd.R_over' (wR HO_13) (Kd.N_typed (wN HO_14)) (by decide) hg)
              replace HL187_0:=am (Kd.V_afterv (ok:=(fun k_=>(P1_ k_∨w.heap.size≤k_)∧some k_≠(u8:Value).ownBlock∧some k_≠(u9:Value).ownBlock∧some k_≠(.slice Ao37 t181.length co37:Value).ownBlock∧some k_≠(.slice Ao40 t190.length co40:Value).ownBlock)) (oV_ HL187_0 (fun _ hk=>⟨⟨hk.1.1,⟨hk.1.2.1,⟨hk.1.2.2.1,⟨hk.1.2.2.2.1,hk.2⟩⟩⟩⟩,hk.1.2.2.2.2⟩)) hg hat)
              replace HL188_0:=am (Kd.V_afterv (ok:=(fun k_=>(P1_ k_∨w.heap.size≤k_)∧some k_≠(u8:Value).ownBlock∧some k_≠(u9:Value).ownBlock∧some k_≠(.slice Ao37 t181.length co37:Value).ownBlock∧some k_≠(.slice Ao40 t190.length co40:Value).ownBlock)) (oV_ HL188_0 (fun _ hk=>⟨⟨hk.1.1,⟨hk.1.2.1,⟨hk.1.2.2.1,⟨hk.1.2.2.2.1,hk.2⟩⟩⟩⟩,hk.1.2.2.2.2⟩)) hg hat)
              replace HB:=am (hb)
              have HO195:=am (ho)
              clear HO_14 HO192;clear ho hb hg hat
              refine hK.out _ _ (nz ?_)
              clear hK K;refine pz 17 14 HT_ ?_
              refine Q3 (Qa HT_.out (by kernel_rfl)) ?_
              try go_wp2
              go_roundg k4
              case measure=>have:=HK1.out;have:=HK2.out;have:=HJ8.out;have:=HK4.out;omega
              case rel=>exact⟨(y193),(wrap64 (x15_4+1)),fr,H',⟨by have:=HK1.out;have:=HK2.out;have:=HJ8.out;have:=HK4.out;omega⟩,⟨Kd.V_below (Kd.V_mono HO_1.out (fun _ hk=>⟨hk.1.1,⟨hk.1.2.1,⟨hk.1.2.2.1,⟨hk.1.2.2.2.1,hk.2⟩⟩⟩⟩)) gs⟩,⟨Kd.N_below (Kd.N_mono HO_8.out (fun _ hk=>⟨hk.1.1,⟨hk.1.2.1,⟨hk.1.2.2.1,hk.2⟩⟩⟩)) gs⟩,⟨Kd.R_below (Kd.R_mono HO_9.out (fun _ hk=>⟨hk.1.1,hk.1.2⟩)) gs⟩,⟨Kd.R_below (Kd.R_mono HO_13.out (fun _ hk=>⟨hk.1.1,hk.1.2⟩)) gs⟩,⟨wN HO195⟩,⟨bw HB⟩⟩
            ·rw [if_neg c29] at H
             have c29b0:=decide_eq_false c29;clear c29;have H':=am H;clear H;go_wp2
             go_loopg [16] k4 (fun kq v16 w'=>∃ (x8_5:List (List Int)) (x16_5:Int),v16=.int .i64 x16_5∧qf (qg.l3 kq a0 x14_4 a2 x8_5 x9_1 x10_1 t181 x16_5=some (r1,r2))∧qf (kq≤k4)∧qf (Kd.N (Kd.slice 3 (Kd.int .i64)) 23 w' w.heap.size (fun k_=>(P1_ k_∨w.heap.size≤k_)∧some k_≠(u8:Value).ownBlock∧some k_≠(u9:Value).ownBlock∧some k_≠(v182:Value).ownBlock) u14 x14_4)∧qf (Kd.N (Kd.slice 3 (Kd.int .i64)) 23 w' w.heap.size (fun k_=>(P1_ k_∨w.heap.size≤k_)∧some k_≠(u14:Value).ownBlock∧some k_≠(u9:Value).ownBlock∧some k_≠(v182:Value).ownBlock) u8 x8_5)∧qf (Kd.R (Kd.int .i64) 3 w' w.heap.size (fun k_=>(w.heap.size≤k_)∧some k_≠(v182:Value).ownBlock) u9 x9_1)∧qf (Kd.R (Kd.int .i64) 3 w' w.heap.size (fun k_=>(w.heap.size≤k_)∧some k_≠(u9:Value).ownBlock) v182 t181)∧qf (Below w.heap.size w w'))
             case atStart=>exact⟨(x8_1),(0),fr,H',⟨Nat.le_refl _⟩,⟨wN HO_14⟩,⟨Kd.N_below (Kd.N_mono HO_8.out (fun _ hk=>⟨hk.1,⟨hk.2.2.2,⟨hk.2.1,hk.2.2.1⟩⟩⟩)) gs⟩,⟨wR HO_9⟩,⟨wR HO_13⟩,⟨bw HB⟩⟩
             case round=>
              clear H';try clear c1;try clear p1;try clear q1;try clear hx1;try clear c2;try clear p2;try clear c3;try clear p6;try clear c8;try clear c8b0;try clear c10;try clear c10b0;try clear c13;try clear c14;try clear c14b0;try clear c15
              try clear c15b0;try clear c16;try clear c16b0;try clear c17;try clear c17b0;try clear p17;try clear q17;try clear hx17;try clear c18;try clear c18b0;try clear c18b1;try clear p18;try clear q18;try clear hx18;try clear c21;try clear c21b0
              try clear c22;try clear c22b0;try clear c23;try clear c23b0;try clear c29;try clear c29b0;try clear c30;try clear c30b0;try clear c30b1;try clear c31;try clear c31b0;try clear c32;try clear c32b0;try clear c33;try clear c33b0;try clear c35
              try clear hx178_0;try clear hx179_0;try clear hx180_0;try clear hx187_0;try clear hx188_0;try clear hx189_0;try clear p1;try clear p17;try clear p178;try clear p179;try clear p18;try clear p180;try clear p187;try clear p188;try clear p189
              try clear p2;try clear p6;try clear q1;try clear q17;try clear q178;try clear q179;try clear q18;try clear q180;try clear q187;try clear q188;try clear q189
              obtain⟨x8_5,x16_5,rfl,HA,HK5,HO_1,HO_8,HO_9,HO_13,HB⟩:=hrel
              cases gk with
              | zero=>exact absurd HA.out (by simp[qg.l3])
              | succ k5=>
               have H:=HA.out;clear HA
               simp only[qg.l3]at H
               by_cases c41:x16_5 < (x8_5.length:Int)
               ·rw[if_pos c41]at H
                have c41b0:=decide_eq_true c41;clear c41;replace H:=ifn H;obtain⟨c42,H⟩:=H;have c42b0:=decide_eq_true c42;clear c42;replace H:=ifn H;obtain⟨c43,H⟩:=H;have c43b0:=decide_eq_true c43;clear c43;replace H:=ifn H;obtain⟨c44,H⟩:=H
                have c44b0:=decide_eq_true c44;clear c44;replace H:=bs H;obtain⟨t199,A45,H⟩:=H
                generalize hy202:(x8_5.set (x16_5:Int).toNat t199:List (List Int))=y202 at H
                have Ny202:=am hy202.symm;clear hy202;have H':=am H;clear H
                obtain⟨Ao47,co47,eo47⟩:=Kd.N_slice HO_8.out
                subst eo47
                try go_wp2
                replace HO_1:=am (Kd.N_drew HO_1.out)
                replace HO_8:=am (Kd.N_drew HO_8.out)
                replace HO_9:=am (Kd.R_drew HO_9.out)
                replace HO_13:=am (Kd.R_drew HO_13.out)
                replace HB:=am (Qg HB.out)
                have p196:0≤(x16_5:Int):=od
                have q196:x16_5 < (x8_5.length:Int):=od
                obtain⟨ad196,A196_0,c196_0,e196,hx196_0,hl196_0,hi196_0⟩:=qak (Kd.N_reads' HO_8.out).2.2 x16_5 p196 q196
                cases e196
                obtain⟨ce196,hce196,hMe196,hcc196⟩:=Kd.N_get HO_8.out [] x16_5 p196 (by first | exact q196 | exact od | (have e_:=(Kd.N_reads' HO_8.out).1;omega))
                obtain⟨ua196_0,uc196_0,rfl,ul196_0,ge196_0⟩:=Kd.FK_slice_open hMe196
                have hv196_0:=hcc196 0 _ rfl
                rw[Nat.add_zero,show ((Kd.slice 3 (Kd.int .i64))).sz=1 from rfl,Nat.mul_one]at hv196_0
                replace hv196_0:=Option.some.inj (hv196_0.symm.trans hx196_0)
                injection hv196_0 with hva_ hvn_ hvc_
                rw[hva_]at ge196_0
                rw[hvc_]at ul196_0
                have HL196_0:=am (show Kd.V (Kd.int .i64) 3 _ w.heap.size _ _ (ju x8_5 x16_5) from Kd.V_mk ul196_0 ge196_0)
                clear hva_ hvn_ hvc_ ge196_0 ul196_0;clear hcc196 hce196
                have HR196_0:=am hi196_0
                have HC196_0:=am hl196_0
                clear hi196_0 hl196_0;replace p196:=eq_true p196;replace q196:=eq_true q196
                have p197:0≤(x16_5:Int):=od
                have q197:x16_5 < (x8_5.length:Int):=od
                obtain⟨ad197,A197_0,c197_0,e197,hx197_0,hl197_0,hi197_0⟩:=qak (Kd.N_reads' HO_8.out).2.2 x16_5 p197 q197
                obtain rfl:ad196=ad197:=(by injection e197)
                obtain⟨ce197,hce197,hMe197,hcc197⟩:=Kd.N_get HO_8.out [] x16_5 p197 (by first | exact q197 | exact od | (have e_:=(Kd.N_reads' HO_8.out).1;omega))
                obtain⟨ua197_0,uc197_0,rfl,ul197_0,ge197_0⟩:=Kd.FK_slice_open hMe197
                have hv197_0:=hcc197 0 _ rfl
                rw[Nat.add_zero,show ((Kd.slice 3 (Kd.int .i64))).sz=1 from rfl,Nat.mul_one]at hv197_0
                replace hv197_0:=Option.some.inj (hv197_0.symm.trans hx197_0)
                injection hv197_0 with hva_ hvn_ hvc_
                rw[hva_]at ge197_0
                rw[hvc_]at ul197_0
                have HL197_0:=am (show Kd.V (Kd.int .i64) 3 _ w.heap.size _ _ (ju x8_5 x16_5) from Kd.V_mk ul197_0 ge197_0)
                clear hva_ hvn_ hvc_ ge197_0 ul197_0;clear hcc197 hce197
                have HR197_0:=am hi197_0
                have HC197_0:=am hl197_0
                clear hi197_0 hl197_0;replace p197:=eq_true p197;replace q197:=eq_true q197
                have ea_:=Option.some.inj (hx196_0.symm.trans hx197_0)
                injection ea_ with ea_ en_ ec_
                subst ea_;subst ec_;clear en_
                have p198:0≤(x10_1:Int):=od
                have q198:x10_1 < ((ju x8_5 x16_5).length:Int):=od
                obtain⟨ad198,e198,hx198_0⟩:=Kd.at_int HR197_0.out x10_1 p198 q198
                cases e198;replace p198:=eq_true p198;replace q198:=eq_true q198
                obtain⟨Ao49,co49,eo49⟩:=Kd.R_slice HO_13.out
                (first | subst eo49 | (injection eo49 with f1_ f2_ f3_;have f4_:=f1_.symm;have f5_:=f3_.symm;clear f1_ f2_ f3_;subst f4_;subst f5_))
                refine st 18 (fun w'=>w'.cell? (ad196.add (x16_5).toNat)=some (.slice (some ad198) (ju x8_5 x16_5).length c196_0)∧w'.cell? (ad196.add (x16_5).toNat)=some (.slice (some ad198) (ju x8_5 x16_5).length c196_0)∧w'.cell? (ad198.add (x10_1).toNat)=some (.int .i64 (rd (ju x8_5 x16_5) x10_1))) [17] qg.tab24 qg.bits24 (⟨hx196_0,hx197_0,hx198_0⟩) fun hHeld HT_ HW_=>?_
                generalize wr.drew=w48 at HO_1 HO_8 HO_9 HO_13 HB HL196_0 HL197_0 HR196_0 HR197_0 hx196_0 hx197_0 hx198_0 hHeld ⊢
                refine pz 0 85 HT_ ?_;refine pz 1 86 HT_ ?_;refine pz 2 87 HT_ ?_;refine pz 3 88 HT_ ?_;refine pz 4 89 HT_ ?_;refine pz 5 90 HT_ ?_;refine pz 7 92 HT_ ?_;refine pz 8 93 HT_ ?_;refine pz 9 94 HT_ ?_;refine pz 11 96 HT_ ?_;refine pz 14 99 HT_ ?_
                refine tk 6 91 HT_ HW_ hHeld ?_;refine tk 10 95 HT_ HW_ hHeld ?_;refine pz 12 97 HT_ ?_;refine tk 13 98 HT_ HW_ hHeld ?_
                refine on 15 (some 100) HT_ fun K hK=>?_
                refine gs_ Try.func165 #[.int .i64 a0,.slice (some ad198) (ju x8_5 x16_5).length c196_0,.int .i64 (rd (ju x8_5 x16_5) x10_1),.slice Ao49 t181.length co49] ?_
                with_reducible refine(za.calls k5 a0 _ _ (ju x8_5 x16_5) (rd (ju x8_5 x16_5) x10_1) _ _ t181 t199 _ ?side1 ?side2 ?side3 ?side4 A45.out).mono ?_
                (case side1=>exact wC HR196_0)
                (case side2=>exact HC196_0.out)
                (case side3=>exact Kd.C_below (Kd.R_reads' HO_13.out).2.2 gs)
                (case side4=>exact(Kd.R_reads' HO_13.out).2.1)
                rintro e w50 ⟨v200,rfl,ho0,hb⟩
                have HS0_:=(hb.cell (World.block_lt_of_cell? _ _ (hHeld.1))).trans (hHeld.1)
                have HS1_:=(hb.cell (World.block_lt_of_cell? _ _ (hHeld.2.1))).trans (hHeld.2.1)
                have HS2_:=(hb.cell (World.block_lt_of_cell? _ _ (hHeld.2.2))).trans (hHeld.2.2)
                refine⟨_,rfl,?_⟩
                replace HO_1:=eN HO_1 (Kd.R_base ho0) hb
                replace HO_8:=eN HO_8 (Kd.R_base ho0) hb
                replace HL196_0:=eV HL196_0 (Kd.R_base ho0) hb
                replace HL197_0:=eV HL197_0 (Kd.R_base ho0) hb
                have HO201:=am (Kd.R_lower (Kd.R_new' (Kd.R_new' (Kd.R_newM (M:=fun k_=>(w.heap.size≤k_)) ho0 (bz HB) (fun k_ h_=>h_)) (Kd.R_lt (wR HO_9))) (Kd.R_lt (wR HO_13))) (bz HB))
                replace HO_9:=eR HO_9 (Kd.R_base ho0) hb
                replace HO_13:=eR HO_13 (Kd.R_base ho0) hb
                replace HR196_0:=am (Kd.C_below (wC HR196_0) hb)
                replace HR197_0:=am (Kd.C_below (wC HR197_0) hb)
                replace HB:=bq HB hb
                (try clear hb)
                (try clear hb2)
                (try clear hk)
                (try clear hi)
                (try clear ho0)
                have p46:0≤(x16_5:Int):=od
                have q46:(x16_5:Int) < ((x8_5.length:Int):Int):=od
                obtain⟨go46,co46,eo46,gb46,gl46,cl46,HG46⟩:=Kd.N_form HO_8.out (by omega)
                (first | cases eo46 | (injection eo46 with ea_ en_ ec_;(first | subst ea_ | (injection ea_ with ea_;subst ea_));subst ec_;clear en_))
                have GB46:=am gb46
                have GG46:=am HG46
                clear gb46 gl46 HG46
                (first | simp only[Jw]at hx196_0 | skip)
                (first | simp only[Jw]at hx197_0 | skip)
                obtain⟨ce46,hcl46,hM46,hcc46,hfr46⟩:=Kd.N_elem HO_8.out [] (x16_5:Int) p46 q46
                obtain⟨ua46_0,uc46_0,rfl,ul46_0,ge46_0⟩:=Kd.FK_slice_open hM46
                have hx46_0:=hcc46 0 _ rfl
                have hf46_0:=hfr46 0
                (try simp only[show ((Kd.slice 3 (Kd.int .i64))).sz=1 from rfl,Nat.mul_one,Nat.add_zero]at hx46_0)
                (try simp only[show ((Kd.slice 3 (Kd.int .i64))).sz=1 from rfl,Nat.mul_one,Nat.add_zero]at hf46_0)
                clear hcl46 hcc46 hfr46 hM46;replace p46:=eq_true p46;replace q46:=eq_true q46
                obtain⟨Ao51,co51,eo51⟩:=Kd.R_slice HO201.out
                (first | subst eo51 | (injection eo51 with f1_ f2_ f3_;have f4_:=f1_.symm;have f5_:=f3_.symm;clear f1_ f2_ f3_;subst f4_;subst f5_))
                have HX52:=am (show Kd.N (Kd.slice 3 (Kd.int .i64)) 23 _ w.heap.size (fun k_=>(P1_ k_∨w.heap.size≤k_)∧some k_≠(u14:Value).ownBlock∧some k_≠(u9:Value).ownBlock∧some k_≠(.slice Ao49 t181.length co49:Value).ownBlock∧some k_≠(.slice Ao51 t199.length co51:Value).ownBlock) (.slice (some ⟨go46,0,none⟩) x8_5.length co47) x8_5 from (Kd.N_mono (HO_8.out) (fun k_ hk=>⟨hk.1.1,⟨hk.1.2.1,⟨hk.1.2.2.1,⟨hk.1.2.2.2,hk.2⟩⟩⟩⟩)))
                replace HX52:=am (show Kd.N (Kd.slice 3 (Kd.int .i64)) 23 _ w.heap.size (fun k_=>(P1_ k_∨w.heap.size≤k_)∧some k_≠(u14:Value).ownBlock∧some k_≠(u9:Value).ownBlock∧some k_≠(.slice Ao49 t181.length co49:Value).ownBlock) (.slice (some ⟨go46,0,none⟩) x8_5.length co47) x8_5 from Kd.N_mono HX52.out (fun k_ hk=>⟨hk.1,⟨hk.2.1,⟨hk.2.2.1,hk.2.2.2.1⟩⟩⟩))
                obtain⟨ce52,hcl52,hM52,hcc52,hfr52⟩:=Kd.N_elem HX52.out [] (x16_5:Int) (od) (by have h_:(x16_5:Int) < ((x8_5.length:Int):Int):=od;first | exact h_ | (have e_:=(Kd.N_reads' HO_8.out).1;omega) | simpa using h_)
                obtain⟨ua52_0,uc52_0,rfl,ul52_0,ge52_0⟩:=Kd.FK_slice_open hM52
                have HP52:=(Kd.N_seg HX52.out (x16_5:Int) (od) (by have h_:(x16_5:Int) < ((x8_5.length:Int):Int):=od;first | exact h_ | (have e_:=(Kd.N_reads' HO_8.out).1;omega) | simpa using h_) (seg:=[.slice Ao51 t199.length co51]) (j:=0) hcl52 hcc52 (show 1≤1 from by decide) (x':=t199) (Kd.FK_slice_mk (Kd.R_reads' (Kd.R_mono (ok':=(fun k_=>((fun k_=>(P1_ k_∨w.heap.size≤k_)∧some k_≠(u14:Value).ownBlock∧some k_≠(u9:Value).ownBlock∧some k_≠(.slice Ao49 t181.length co49:Value).ownBlock)) k_∧k_≠go46)) (Kd.R_apart' (Kd.R_apart' (HO201.out) (Kd.N_typed HO_1.out) (by decide)) (Kd.N_typed HO_8.out) (by decide)) (fun k_ hk=>⟨⟨(.inr (hk.1.1.1.1.1)),⟨hk.1.2,⟨hk.1.1.1.2,hk.1.1.2⟩⟩⟩,fun e_=>(hk.2) (by rw[e_];rfl)⟩))).2.1 (Kd.R_F (Kd.R_mono (ok':=(fun k_=>((fun k_=>(P1_ k_∨w.heap.size≤k_)∧some k_≠(u14:Value).ownBlock∧some k_≠(u9:Value).ownBlock∧some k_≠(.slice Ao49 t181.length co49:Value).ownBlock)) k_∧k_≠go46)) (Kd.R_apart' (Kd.R_apart' (HO201.out) (Kd.N_typed HO_1.out) (by decide)) (Kd.N_typed HO_8.out) (by decide)) (fun k_ hk=>⟨⟨(.inr (hk.1.1.1.1.1)),⟨hk.1.2,⟨hk.1.1.1.2,hk.1.1.2⟩⟩⟩,fun e_=>(hk.2) (by rw[e_];rfl)⟩)))) (fun _ hk=>hk)).1
                (try simp only[show ((Kd.slice 3 (Kd.int .i64))).sz=1 from rfl,Nat.mul_one,Nat.add_zero]at HP52)
                rw[← Ny202.out]at HP52
                have HQ52:=am HP52
                clear hcl52 hcc52 hfr52 hM52 HP52
                refine hK.out _ _ ⟨HS0_,HS1_,HS2_⟩ fun hHeld=>nz ?_
                clear hK K;refine pz 16 101 HT_ ?_
                refine la 17 none HT_ fun K hK=>?_
                refine qgw (w1:=?_) (by rfl) rfl ?_ ?_
                rotate_left
                ·go_simp
                 rfl
                refine hK.out _ _ ?_
                clear hK K
                refine Q3 (Qa HT_.out (by kernel_rfl)) ?_
                try go_wp2
                go_roundg k5
                case measure=>have:=HK1.out;have:=HK2.out;have:=HJ8.out;have:=HK4.out;have:=HK5.out;omega
                case rel=>exact⟨(y202),(wrap64 (x16_5+1)),fr,H',⟨by have:=HK1.out;have:=HK2.out;have:=HJ8.out;have:=HK4.out;have:=HK5.out;omega⟩,⟨by (with_reducible repeat (first | apply Kd.N_alloc | apply Kd.N_drewN | apply Kd.N_drew));exact Kd.N_mono (Kd.N_far (p:=⟨go46,(x16_5:Int).toNat,none⟩) (Kd.N_mono HO_1.out (fun k_ hk=>(⟨hk,fun e_=>hk.1.2.1 (by rw[e_];rfl)⟩:_∧k_≠go46))) (fun _ hk=>hk.2) (.slice Ao51 t199.length co51)) (fun _ hk=>⟨hk.1.1.1,⟨hk.1.1.2.1,⟨hk.1.1.2.2.1,hk.1.1.2.2.2⟩⟩⟩)⟩,⟨wN HQ52⟩,⟨by (with_reducible repeat (first | apply Kd.R_alloc | apply Kd.R_drewN | apply Kd.R_drew));exact Kd.R_mono (Kd.R_far (p:=⟨go46,(x16_5:Int).toNat,none⟩) (Kd.R_types HO_9.out GG46.out (by decide)) (fun _ hk=>hk.2) (.slice Ao51 t199.length co51)) (fun _ hk=>⟨hk.1.1.1,hk.1.1.2⟩)⟩,⟨by (with_reducible repeat (first | apply Kd.R_alloc | apply Kd.R_drewN | apply Kd.R_drew));exact Kd.R_mono (Kd.R_far (p:=⟨go46,(x16_5:Int).toNat,none⟩) (Kd.R_types HO_13.out GG46.out (by decide)) (fun _ hk=>hk.2) (.slice Ao51 t199.length co51)) (fun _ hk=>⟨hk.1.1.1,hk.1.1.2⟩)⟩,⟨bx_ HB⟩⟩
               ·rw[if_neg c41]at H
                have c41b0:=decide_eq_false c41;clear c41;replace H:=ifn H;obtain⟨c53,H⟩:=H;have LMc53:=am c53;clear c53
                generalize hy203:(x8_5++[t181]:List (List Int))=y203 at H
                have Ny203:=am hy203.symm;clear hy203;replace H:=ifn H;obtain⟨c54,H⟩:=H;have LMc54:=am c54;clear c54
                generalize hy206:(x9_1++[x10_1]:List Int)=y206 at H
                have Ny206:=am hy206.symm;clear hy206;have H':=am H;clear H
                obtain⟨Ao55,co55,eo55⟩:=Kd.N_slice HO_8.out
                subst eo55
                obtain⟨Ao57,co57,eo57⟩:=Kd.R_slice HO_13.out
                subst eo57
                go_wp2_with (first | ((with_reducible refine jr (b:=.append) (xs:=#[.tmp 102,.tmp 104]) rfl ?_);at_builtin;refine Kd.N_append (Kd.slice 3 (Kd.int .i64)) (w0:=w) w.heap.size rfl (.tmp 102) (.tmp 104) 47 23 (.slice none 0 0) 24 rfl Try.underlying47 Zu rfl (by decide) (by omega) (.slice Ao55 x8_5.length co55) x8_5 t181 [.slice Ao57 t181.length co57] (fun k_=>(P1_ k_∨w.heap.size≤k_)∧some k_≠(u14:Value).ownBlock∧some k_≠(u9:Value).ownBlock) (fun k_=>((fun k_=>(P1_ k_∨w.heap.size≤k_)∧some k_≠(u14:Value).ownBlock∧some k_≠(u9:Value).ownBlock)) k_∧some k_≠(.slice Ao55 x8_5.length co55:Value).ownBlock) rfl rfl ?aP (fun _ hk=>hk) ?aF ?aO ?aB ?aS ?aL ?_;(case aP=>exact(Kd.FK_slice_mk (Kd.R_reads' (Kd.R_mono (ok':=(fun k_=>((fun k_=>(P1_ k_∨w.heap.size≤k_)∧some k_≠(u14:Value).ownBlock∧some k_≠(u9:Value).ownBlock)) k_∧some k_≠(.slice Ao55 x8_5.length co55:Value).ownBlock)) (Kd.R_apart' (Kd.R_apart' (HO_13.out) (Kd.N_typed HO_1.out) (by decide)) (Kd.N_typed HO_8.out) (by decide)) (fun k_ hk=>⟨⟨(.inr (hk.1.1.1)),⟨hk.1.2,hk.1.1.2⟩⟩,hk.2⟩))).2.1 (Kd.R_F (Kd.R_mono (ok':=(fun k_=>((fun k_=>(P1_ k_∨w.heap.size≤k_)∧some k_≠(u14:Value).ownBlock∧some k_≠(u9:Value).ownBlock)) k_∧some k_≠(.slice Ao55 x8_5.length co55:Value).ownBlock)) (Kd.R_apart' (Kd.R_apart' (HO_13.out) (Kd.N_typed HO_1.out) (by decide)) (Kd.N_typed HO_8.out) (by decide)) (fun k_ hk=>⟨⟨(.inr (hk.1.1.1)),⟨hk.1.2,hk.1.1.2⟩⟩,hk.2⟩)))));(case aB=>exact(bw HB));(case aF=>exact(fun k_ hk=>⟨(.inr (Nat.le_trans (bz HB) hk)),Kd.fresh' (Kd.N_lt (wN HO_1)) k_ hk,Kd.fresh' (Kd.R_lt (wR HO_9)) k_ hk⟩));(case aO=>exact(oN_ HO_8 (fun _ hk=>⟨hk.1,⟨hk.2.1,hk.2.2.1⟩⟩)));(case aS=>exact(bz HB));(case aL=>have:=LMc53.out;omega);intro v204 w56 ho hb hg hat;rw[← Ny203.out]at ho;replace HO_1:=am (Kd.N_afterv (ok:=(fun k_=>(P1_ k_∨w.heap.size≤k_)∧some k_≠(u9:Value).ownBlock∧some k_≠(.slice Ao57 t181.length co57:Value).ownBlock)) (oN_ HO_1 (fun _ hk=>⟨⟨hk.1,⟨hk.2.2.1,hk.2.2.2⟩⟩,hk.2.1⟩)) hg hat);replace HO_9:=am (Kd.R_over' (wR HO_9) (Kd.N_typed (wN HO_8)) (by decide) hg);replace HB:=am (hb);have HO205:=am (ho);clear HO_8 HO_13;clear ho hb hg hat) | ((with_reducible refine jr (b:=.append) (xs:=#[.tmp 106,.tmp 108]) rfl ?_);at_builtin;refine Kd.R_append (Kd.int .i64) (w0:=w) w.heap.size rfl (.tmp 106) (.tmp 108) 23 3 (.int .i64 0) 8 rfl Try.underlying23 Jm rfl (by decide) (by omega) u9 x9_1 x10_1 [.int .i64 x10_1] (fun k_=>(w.heap.size≤k_)) (fun _=>False) rfl rfl ?aP (fun _ hk=>hk.elim) ?aF ?aO ?aB ?aS ?aL ?_;(case aP=>exact rfl);(case aB=>exact(bw HB));(case aF=>exact(fun k_ hk=>(Nat.le_trans (bz HB) hk)));(case aO=>exact(oR_ HO_9 (fun _ hk=>hk.1)));(case aS=>exact(bz HB));(case aL=>have:=LMc54.out;omega);intro v207 w58 ho hb hg hat;rw[← Ny206.out]at ho;replace HO_1:=am (Kd.N_afterv (ok:=(fun k_=>(P1_ k_∨w.heap.size≤k_)∧some k_≠(v204:Value).ownBlock)) (oN_ HO_1 (fun _ hk=>⟨⟨hk.1.1,hk.2⟩,hk.1.2.1⟩)) hg hat);replace HO205:=am (Kd.N_afterv (ok:=(fun k_=>(P1_ k_∨w.heap.size≤k_)∧some k_≠(u14:Value).ownBlock)) (oN_ HO205 (fun _ hk=>⟨⟨hk.1,hk.2.1⟩,hk.2.2⟩)) hg hat);replace HB:=am (hb);have HO208:=am (ho);clear HO_9;clear ho hb hg hat))
                go_roundg k5
                case measure=>have:=HK1.out;have:=HK2.out;have:=HJ8.out;have:=HK4.out;have:=HK5.out;omega
                case rel=>exact⟨(x14_4),(y203),(y206),(wrap64 (x10_1+1)),fr,H',⟨by have:=HK1.out;have:=HK2.out;have:=HJ8.out;have:=HK4.out;have:=HK5.out;omega⟩,⟨Kd.N_V (oN_ HO_1 (fun _ hk=>⟨hk.1.1,⟨hk.1.2,hk.2⟩⟩))⟩,⟨Kd.N_below (Kd.N_mono HO205.out (fun _ hk=>⟨hk.1.1,hk.2⟩)) gs⟩,⟨wR HO208⟩,⟨bw HB⟩⟩
   ·rw[if_neg c8]at H
    have c8b0:=decide_eq_false c8;clear c8
    simp only[Option.some.injEq,Prod.mk.injEq]at H
    obtain⟨rfl,rfl⟩:=H;go_wp2
    go_ret2
    exact⟨_,_,fq,wN HO_8,wR HO_9,bw HB⟩
end Go.Proofs.Ytmgbpmihbljngaa.PA
