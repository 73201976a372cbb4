-- by xprint.py and mergepa.py
import Derived.Test.YtmgbpmihbljngaaGreatPAx23
import Derived.Test.YtmgbpmihbljngaaGreatPAx26
import Derived.Test.YtmgbpmihbljngaaGreatPAx4
import Derived.Test.YtmgbpmihbljngaaGreatPAx17
namespace Go.Proofs.YtmgbpmihbljngaaGreat.PA
open Value (int)
open IntKind (i64)
open RowKit YtmgbpmihbljngaaGreatW.PrintWords YtmgbpmihbljngaaGreatW.PrintLast YtmgbpmihbljngaaGreatW.PrintMore
attribute [local go_sem] Q3 Q0 Zk Zj Qo Qp Q5 Q4
set_option linter.unusedVariables false
set_option linter.unusedSimpArgs false
mutual
def qn.l0 :Nat->Int->List Int->List Int->List (List Int)->Int->Option (List Int)
 | 0,_,_,_,_,_=>none
 | k+1,x0,x1,x2,x7,x13=>if x13 < 4 then (if 0<=x13 then (if x13 < (x1.length:Int) then (if 0<=(wrap64 (4+x13)) then (if (wrap64 (4+x13)) < (x1.length:Int) then (if x13 < (x2.length:Int) then (if (wrap64 (4+x13)) < (x2.length:Int) then (if x7.length < 5864062014805 then (qn.l0 k x0 x1 x2 (x7++[(([rd x1 x13,rd x1 (wrap64 (4+x13)),rd x2 x13,rd x2 (wrap64 (4+x13))]:List Int))]) (wrap64 (x13+1))) else (none)) else (none)) else (none)) else (none)) else (none)) else (none)) else (none)) else ((qk.f k x0 x7 4).bind λt639=>(if 0 < (t639.length:Int) then (qn.l1 k x0 x1 (zt t639 0) (([]:List Int)) 0) else (none)))
def qn.l1 :Nat->Int->List Int->List Int->List Int->Int->Option (List Int)
 | 0,_,_,_,_,_=>none
 | k+1,x0,x1,x9,x10,x45=>if x45 < 4 then (if 0 < (x9.length:Int) then (if 0<=x45 then (if x45 < (x1.length:Int) then (if 1 < (x9.length:Int) then (if 0<=(wrap64 (4+x45)) then (if (wrap64 (4+x45)) < (x1.length:Int) then (if x10.length < 17592186044416 then (qn.l1 k x0 x1 x9 (x10++[wrap64 ((wrap64 ((rd x9 0)*(rd x1 x45)))+(wrap64 ((rd x9 1)*(rd x1 (wrap64 (4+x45))))))]) (wrap64 (x45+1))) else (none)) else (none)) else (none)) else (none)) else (none)) else (none)) else (none)) else ((Q8.f k x0 x10).bind λt653=>(some t653))
end
def qn.f (k:Nat) (a0:Int) (l1:List Int) (l2:List Int):Option (List Int):=qn.l0 k a0 l1 l2 (([]:List (List Int))) 0
theorem qn.Ag :∀ k,(∀ y0 y1 y2 y3 y4,LeO (qn.l0 k y0 y1 y2 y3 y4) (qn.l0 (k+1) y0 y1 y2 y3 y4))/\(∀ y0 y1 y2 y3 y4,LeO (qn.l1 k y0 y1 y2 y3 y4) (qn.l1 (k+1) y0 y1 y2 y3 y4))
 | 0=>⟨λ_ _ _ _ _ r h=>by simp[qn.l0]at h,λ_ _ _ _ _ r h=>by simp[qn.l1]at h⟩
 | k+1=>by
  obtain⟨ih0,ih1⟩:=qn.Ag k;refine⟨?_,?_⟩
  ·intro y0 y1 y2 y3 y4
   unfold qn.l0
   repeat' with_reducible first|intro _|apply ih0|apply ih1|apply Q8.mono|apply qk.mono|apply Eb|apply Ec|apply Ed|apply Ee
  ·intro y0 y1 y2 y3 y4
   unfold qn.l1
   repeat' with_reducible first|intro _|apply ih0|apply ih1|apply Q8.mono|apply qk.mono|apply Eb|apply Ec|apply Ed|apply Ee
theorem qn.mono (a0 a1 a2 k):LeO (qn.f k a0 a1 a2) (qn.f (k+1) a0 a1 a2):=by
 obtain⟨ih0,ih1⟩:=qn.Ag k;unfold qn.f
 repeat' with_reducible first|intro _|apply ih0|apply ih1|apply Q8.mono|apply qk.mono|apply Eb|apply Ec|apply Ed|apply Ee
def qn.T5 :Bool×List (List Nat×List Nat):=(true,[([],[]),([],[]),([],[]),([1,2],[1,2]),([3],[3]),([],[]),([],[]),([6],[6]),([5,7],[5,7]),([8],[8]),([],[]),([],[]),([10,11],[10,11]),([12],[12]),([],[]),([],[]),([15],[15]),([14,16],[14,16]),([17],[17]),([4,9,13,18],[4,9,13,18]),([19],[19]),([0,20],[0,20]),([21,21,0,1,2,3,4,5,6,7,8,9,10,11,12,13,14,15,16,17,18,19,20,21],[0,21])])
def qn.B5 :List Nat:=[0,0,0,6,14,0,0,64,224,480,0,0,3072,7168,0,0,32768,114688,245760,524286,1048574,2097151,4194303]
def qn.T12 :Bool×List (List Nat×List Nat):=(true,[([],[]),([],[]),([1],[1]),([2],[2]),([],[]),([],[]),([4,5],[4,5]),([6],[6]),([3,7],[3,7]),([],[]),([9],[9]),([10],[10]),([],[]),([],[]),([13],[13]),([12,14],[12,14]),([15],[15]),([11,16],[11,16]),([8,17],[8,17]),([18],[18]),([0,19],[0,19]),([20,20,0,1,2,3,4,5,6,7,8,9,10,11,12,13,14,15,16,17,18,19,20],[0,20])])
def qn.B12 :List Nat:=[0,0,2,6,0,0,48,112,254,0,512,1536,0,0,8192,28672,61440,130560,262142,524286,1048575,2097151]
theorem qn.rcell0 {w:World} {base n c:Nat} {ok:Nat->Prop} {ad:Addr} {xs:List Int} (h:Kd.R (Kd.int i64) 3 w base ok (.slice (some ad) n c) xs) (hi:0 < xs.length):w.cell? ad=some (int i64 (rd xs 0)):=by
 obtain⟨ad',e,hc⟩:=Kd.Aj (Kd.Ac h).2.2 0 (by omega) (by omega)
 cases e
 rw[show ((0:Int)).toNat=0 from rfl,Addr.add_zero']at hc;exact hc
theorem qn.rcell1 {w:World} {base n c:Nat} {ok:Nat->Prop} {ad:Addr} {xs:List Int} (h:Kd.R (Kd.int i64) 3 w base ok (.slice (some ad) n c) xs) (hi:1 < xs.length):w.cell? ⟨ad.block,ad.off+1,none⟩=some (int i64 (rd xs 1)):=by
 obtain⟨ad',e,hc⟩:=Kd.Aj (Kd.Ac h).2.2 1 (by omega) (by omega)
 cases e
 exact hc
set_option maxHeartbeats 8000000 in
set_option maxRecDepth 100000 in
theorem qn.calls (k:Nat) (a0:Int) (A1:Option Addr) (c1:Nat) (l1:List Int) (A2:Option Addr) (c2:Nat) (l2:List Int) (r:List Int) (w:World) (hr1:Kd.C (Kd.int i64) w A1 l1.length l1) (hc1:l1.length<=c1) (hr2:Kd.C (Kd.int i64) w A2 l2.length l2) (hc2:l2.length<=c2) (h:qn.f k a0 l1 l2=some r):
  Calls Tryz.prog 35 #[int i64 a0,.slice A1 l1.length c1,.slice A2 l2.length c2] w λe w'=>∃ v0_:Value,e=.returned (v0_)/\Kd.R (Kd.int i64) 3 w' w.heap.size (λ_=>True) v0_ r/\Below w.heap.size w w':=by
 have HR1:=am hr1;clear hr1 hc1;have HR2:=am hr2;clear hr2 hc2;have HB:=Em w;have H:=h;unfold qn.f at H;clear h;generalize hy626:(([]:List (List Int)))=y626 at H;have Ny626:=am hy626.symm;clear hy626;have H':=am H;clear H;go_enter Tryz.func35,Tryz.ntmps35
 go_wp2_with (first|((with_reducible refine zd (N:=12) rfl ?_);refine Kd.BC KI _ 37 ?hg (N:=12) ?hd (xs:=([]:List (List Int))) (inner:=[]) (ok:=λ_=>True) (okp:=λ_=>True) ?hr ?hp (λ_ hk=>hk) trivial (Below.refl _ _) (Nat.le_refl _) (by simp) ?_;(case hd=>rfl);(case hg=>rfl);(case hr=>first|(go_simp;done)|(go_simp;rfl));(case hp=>exact(Reps.none _ _));intro v627 w4 ho5 hb hg_ hnew_;clear hg_ hnew_;rw[<-Ny626.out]at ho5;have HO628:=am (Kd.AD ho5 (bz HB));replace HB:=bq HB hb;clear hb ho5))
 go_loopg [7,13] k (λkq v7 v13 w'=>∃ (x7_1:List (List Int)) (x13_1:Int),v13=int i64 x13_1/\qf (qn.l0 kq a0 l1 l2 x7_1 x13_1=some r)/\qf (kq<=k)/\qf (Kd.S KI 37 w' w.heap.size (λ_=>True) v7 x7_1)/\qf (Below w.heap.size w w'))
 case atStart=>exact⟨(y626),(0),fr,H',⟨Nat.le_refl _⟩,⟨wS HO628⟩,⟨bw HB⟩⟩
 case round=>
  clear H';try clear c1;try clear c2;try clear p2;try clear c3
  obtain⟨x7_1,x13_1,rfl,HA,HK1,HO_7,HB⟩:=hrel
  cases gk with
  | zero=>exact absurd HA.out (by simp[qn.l0])
  | succ k1=>
   have H:=HA.out;clear HA;simp only[qn.l0]at H;replace H:=Eg H;rcases H with ⟨c6b0,H⟩|⟨c6b0,H⟩
   ·replace H:=Ef H;obtain⟨c7b0,H⟩:=H;replace H:=Ef H;obtain⟨c8b0,H⟩:=H
    obtain⟨ji9,hji9⟩:∃ j_:Int,(wrap64 (4+x13_1))=j_:=⟨_,rfl⟩
    (first|rw[hji9]at H|simp only[hji9]at H)
    have hji9w:(IntKind.i64.wrap (4+x13_1))=ji9:=(qa6 _).trans hji9;replace H:=Ef H;obtain⟨c10b0,H⟩:=H;replace H:=Ef H;obtain⟨c11b0,H⟩:=H;replace H:=ifn H;obtain⟨c12,H⟩:=H;have c12b0:=decide_eq_true c12;clear c12;replace H:=Ef H;obtain⟨c13b0,H⟩:=H;generalize hy633:(([rd l1 x13_1,rd l1 (ji9),rd l2 x13_1,rd l2 (ji9)]:List Int))=y633 at H;have Ny633:=am hy633.symm;clear hy633;replace H:=ifn H;obtain⟨c14,H⟩:=H;have LMc14:=am c14;clear c14;generalize hy636:(x7_1++[y633]:List (List Int))=y636 at H;have Ny636:=am hy636.symm;clear hy636;have H':=am H;clear H
    try go_wp2
    replace HO_7:=am (Kd.AU HO_7.out);replace HB:=am (Qn HB.out);have p629:0<=(x13_1:Int):=od;have q629:x13_1 < (l1.length:Int):=od;obtain⟨ad629,e629,hx629_0⟩:=Kd.Aj HR1.out x13_1 p629 q629;have hw629_0:=hx629_0
    cases e629
    replace hx629_0:=wcl HB hx629_0;replace p629:=eq_true p629;replace q629:=eq_true q629;have p630:0<=((ji9):Int):=od;have q630:(ji9) < (l1.length:Int):=od;obtain⟨ad630,e630,hx630_0⟩:=Kd.Aj HR1.out (ji9) p630 q630;have hw630_0:=hx630_0;obtain rfl:ad629=ad630:=(by injection e630)
    replace hx630_0:=wcl HB hx630_0;replace p630:=eq_true p630;replace q630:=eq_true q630;have p631:0<=(x13_1:Int):=od;have q631:x13_1 < (l2.length:Int):=od;obtain⟨ad631,e631,hx631_0⟩:=Kd.Aj HR2.out x13_1 p631 q631;have hw631_0:=hx631_0
    cases e631
    replace hx631_0:=wcl HB hx631_0;replace p631:=eq_true p631;replace q631:=eq_true q631;have p632:0<=((ji9):Int):=od;have q632:(ji9) < (l2.length:Int):=od;obtain⟨ad632,e632,hx632_0⟩:=Kd.Aj HR2.out (ji9) p632 q632;have hw632_0:=hx632_0;obtain rfl:ad631=ad632:=(by injection e632)
    replace hx632_0:=wcl HB hx632_0;replace p632:=eq_true p632;replace q632:=eq_true q632;refine st (T:=qn.T5) (B:=qn.B5) 23 (λw'=>w'.cell? (ad629.add (x13_1).toNat)=some (int i64 (rd l1 x13_1))/\w'.cell? (ad629.add ((ji9)).toNat)=some (int i64 (rd l1 (ji9)))/\w'.cell? (ad631.add (x13_1).toNat)=some (int i64 (rd l2 x13_1))/\w'.cell? (ad631.add ((ji9)).toNat)=some (int i64 (rd l2 (ji9)))) [] (by kernel_rfl) (by kernel_rfl) (⟨(wcl HB hw629_0),(wcl HB hw630_0),(wcl HB hw631_0),(wcl HB hw632_0)⟩) λhHeld HT_ HW_=>?_;generalize wr.drew=w15 at HO_7 HB hx629_0 hx630_0 hx631_0 hx632_0 hHeld ⊢;refine Et 0 16 1 17 HT_ ?_;refine Et 2 18 3 19 HT_ ?_;refine Et 5 21 6 22 HT_ ?_;refine Et 7 23 8 24 HT_ ?_;refine Et 10 26 11 27 HT_ ?_;refine Et 12 28 14 30 HT_ ?_;refine Et 15 31 16 32 HT_ ?_;refine pz 17 33 HT_ ?_;refine tk 4 20 HT_ HW_ hHeld ?_;refine tk 9 25 HT_ HW_ hHeld ?_;refine tk 13 29 HT_ HW_ hHeld ?_;refine tk 18 34 HT_ HW_ hHeld ?_;refine on 19 (some 35) HT_ λK hK=>?_;refine Kd.AX (Kd.int i64) _ 3 ?hg (N:=35) ?hd (xs:=([rd l1 x13_1,rd l1 (ji9),rd l2 x13_1,rd l2 (ji9)]:List Int)) (inner:=[int i64 (rd l1 x13_1),int i64 (rd l1 (ji9)),int i64 (rd l2 x13_1),int i64 (rd l2 (ji9))]) (ok:=λ_=>True) (okp:=λ_=>True) ?hr ?hp (λ_ hk=>hk) trivial (Below.refl _ _) (Nat.le_refl _) (by simp) ?_;(case hd=>rfl);(case hg=>rfl);(case hr=>first|(go_simp;done)|(go_simp;rfl));(case hp=>exact(Reps.one (show Kd.M (Kd.int i64) _ _ _ (rd l1 x13_1) [int i64 (rd l1 x13_1)] from rfl) (Reps.one (show Kd.M (Kd.int i64) _ _ _ (rd l1 (ji9)) [int i64 (rd l1 (ji9))] from rfl) (Reps.one (show Kd.M (Kd.int i64) _ _ _ (rd l2 x13_1) [int i64 (rd l2 x13_1)] from rfl) (Reps.one (show Kd.M (Kd.int i64) _ _ _ (rd l2 (ji9)) [int i64 (rd l2 (ji9))] from rfl) (Reps.none _ _))))))
    intro v634 w16 ho17 hb hg_ hnew_;clear hg_ hnew_;rw[<-Ny633.out]at ho17;replace HO_7:=eS HO_7 (Kd.Am ho17) hb;have HO635:=am (Kd.Ai ho17 (bz HB));replace HB:=bq HB hb;clear hb ho17;obtain⟨Ao19,co19,eo19⟩:=Kd.Ah HO635.out
    (first|subst eo19|(injection eo19 with f1_ f2_ f3_;have f4_:=f1_.symm;have f5_:=f3_.symm;clear f1_ f2_ f3_;subst f4_;subst f5_))
    refine hK.out _ _ ⟨(wcl HB hw629_0),(wcl HB hw630_0),(wcl HB hw631_0),(wcl HB hw632_0)⟩ λhHeld=>nz ?_;clear hK K;refine on 20 (some 36) HT_ λK hK=>?_;refine qbq (w1:=?_) (v:=?_) (by rfl) rfl ?_ ?_
    rotate_left 2
    ·go_simp
     constructor
     ·rfl
     ·rfl
    refine hK.out _ _ ⟨(World.cell?_alloc_lt _ _ _ (World.block_lt_of_cell? _ _ ((wcl HB hw629_0)))).trans ((wcl HB hw629_0)),(World.cell?_alloc_lt _ _ _ (World.block_lt_of_cell? _ _ ((wcl HB hw630_0)))).trans ((wcl HB hw630_0)),(World.cell?_alloc_lt _ _ _ (World.block_lt_of_cell? _ _ ((wcl HB hw631_0)))).trans ((wcl HB hw631_0)),(World.cell?_alloc_lt _ _ _ (World.block_lt_of_cell? _ _ ((wcl HB hw632_0)))).trans ((wcl HB hw632_0))⟩ λhHeld=>nz ?_;clear hK K;refine on 21 (some 37) HT_ λK hK=>?_;refine Kd.Cg KI (w0:=w) w.heap.size (by rfl) (.tmp 16) (.tmp 36) 24 37 (.slice none 0 0) 24 rfl Tryz.underlying24 Ja rfl (by decide) (by omega) u7 x7_1 y633 [.slice Ao19 y633.length co19] (λ_=>True) (λk_=>some k_=(.slice Ao19 y633.length co19:Value).ownBlock) rfl rfl ?aP (λk_ hk_=>((Kd.Ae (ok':=λk_=>((λ_=>True)) k_/\some k_≠(u7:Value).ownBlock) (Kd.Ak (HO635.out) (Kd.AB HO_7.out) (by decide)) (λk_ hk=>⟨trivial,hk.2⟩))).1 k_ hk_.symm) ?aF ?aO ?aB ?aS ?aL ?_
    (case aP=>exact Kd.BM (Kd.Ae (Kd.AO rfl (Kd.Ae (ok':=λk_=>((λ_=>True)) k_/\some k_≠(u7:Value).ownBlock) (Kd.Ak (HO635.out) (Kd.AB HO_7.out) (by decide)) (λk_ hk=>⟨trivial,hk.2⟩))) (λ_ h_=>h_)))
    (case aB=>exact(bw HB))
    (case aF=>exact(λ_ _=>trivial))
    (case aO=>exact(oS_ HO_7 (λk_ hk=>⟨trivial,λe_=>hk.2 e_⟩)))
    (case aS=>exact(bz HB))
    (case aL=>have:=LMc14.out;omega)
    intro v637 w18 ho hb hg hat
    rw[<-Ny636.out]at ho;replace HB:=am (hb);have HO638:=am (ho);clear HO_7 HO635;clear ho hb hg hat
    refine hK.out _ _ ⟨(wcl HB hw629_0),(wcl HB hw630_0),(wcl HB hw631_0),(wcl HB hw632_0)⟩ λhHeld=>nz ?_;clear hK K;refine pz 22 7 HT_ ?_;refine Zh (Qe HT_.out (by kernel_rfl)) ?_
    try go_wp2
    go_roundg k1
    case measure=>have:=HK1.out;omega
    case rel=>exact⟨(y636),(wrap64 (x13_1+1)),fr,H',⟨by have:=HK1.out;omega⟩,⟨wS HO638⟩,⟨bw HB⟩⟩
   ·replace H:=bs H;obtain⟨t639,A20,H⟩:=H
    by_cases c21:0 < (t639.length:Int)
    ·rw [if_pos c21] at H
     have c21b0:=decide_eq_true c21;have c21b1:decide (0 < t639.length)=true:=decide_eq_true (by omega);clear c21;generalize hy643:(([]:List Int))=y643 at H;have Ny643:=am hy643.symm;clear hy643;have H':=am H;clear H;obtain⟨Ao22,co22,eo22⟩:=Kd.AJ HO_7.out;subst eo22
     go_wp2_with (first|((with_reducible refine za (f:=66) rfl ?_);refine gl 41 Tryz.func66 #[int i64 a0,.slice Ao22 x7_1.length co22,int i64 4] ?_;(with_reducible refine(qk.calls k1 a0 _ _ x7_1 4 t639 _ ?_ ?_ A20.out).mono ?_);exact Kd.Ad (Kd.Al HO_7.out).2.2 gs;exact(Kd.Al HO_7.out).2.1;rintro e w23 ⟨v640,rfl,ho0,hb⟩;refine⟨_,rfl,?_⟩;have HO641:=am (Kd.AD (Kd.Bm ho0 (Kd.S_lt (wS HO_7))) (bz HB));replace HO_7:=eS HO_7 (Kd.Bf ho0) hb;replace HB:=bq HB hb;(try clear hb);(try clear ho0);obtain⟨Ao24,co24,eo24⟩:=Kd.AJ HO641.out;subst eo24;have p642:0<=(0:Int):=(by omega);have q642:0 < (t639.length:Int):=od;obtain⟨ad642,A642_0,c642_0,e642,hx642_0,hl642_0,hi642_0⟩:=qat (Kd.Al HO641.out).2.2 0 p642 q642;cases e642;obtain⟨ce642,hce642,hMe642,hcc642⟩:=Kd.Ci HO641.out [] 0 p642 (by first|exact q642|exact od|(have e_:=(Kd.Al HO641.out).1;omega));obtain⟨ve642_0,rfl,ge642_0⟩:=hMe642;have hv642_0:=hcc642 0 _ rfl;rw[Nat.add_zero,show (KI).sz=1 from rfl,Nat.mul_one]at hv642_0;replace hv642_0:=Option.some.inj (hv642_0.symm.trans hx642_0);rw[hv642_0]at ge642_0;have HL642_0:=am (show Kd.R (Kd.int i64) 3 _ _ _ _ (zt t639 0) from ge642_0);clear hv642_0 ge642_0;clear hcc642 hce642;have qi642:(0 < t639.length)=True:=eq_true (by omega);(try rw[show ((0:Int)).toNat=0 from rfl]at hx642_0);(try rw[Addr.add_zero']at hx642_0);clear hi642_0 hl642_0;replace p642:=eq_true p642;replace q642:=eq_true q642)|((with_reducible refine zd (N:=44) rfl ?_);refine li 3 ([]:List Int) ?_;intro v644 w25 ho26 hb;rw[<-Ny643.out]at ho26;replace HO_7:=eS HO_7 (Kd.Am ho26) hb;replace HO641:=eS HO641 (Kd.Am ho26) hb;have HO645:=am (Kd.Ai (Kd.AW ho26 (Kd.R_lt (wR HL642_0))) (bz HB));replace HL642_0:=eR HL642_0 (Kd.Am ho26) hb;replace HB:=bq HB hb;clear hb ho26))
     go_loopg [10,45] k1 (λkq v10 v45 w'=>∃ (x10_2:List Int) (x45_2:Int),v45=int i64 x45_2/\qf (qn.l1 kq a0 l1 (zt t639 0) x10_2 x45_2=some r)/\qf (kq<=k1)/\qf (Kd.R (Kd.int i64) 3 w' w.heap.size (λ_=>True) v10 x10_2)/\qf (Kd.R (Kd.int i64) 3 w' w.heap.size (λk_=>some k_≠(v10:Value).ownBlock) (.slice A642_0 (zt t639 0).length c642_0) (zt t639 0))/\qf (Below w.heap.size w w'))
     case atStart=>exact⟨(y643),(0),fr,H',⟨Nat.le_refl _⟩,⟨Kd.Af (Kd.Ae HO645.out (λ_ hk=>trivial)) gs⟩,⟨Kd.Af (Kd.Ae HL642_0.out (λ_ hk=>hk.2)) gs⟩,⟨bw HB⟩⟩
     case round=>
      clear H';try clear c1;try clear c2;try clear p2;try clear c3;try clear c6;try clear c6b0;try clear p6;try clear q6;try clear hx6;try clear qi6;try clear c7;try clear c7b0;try clear c8;try clear c8b0;try clear c10;try clear c10b0
      try clear c11;try clear c11b0;try clear c12;try clear c12b0;try clear c13;try clear c13b0;try clear c14;try clear c21;try clear c21b0;try clear c21b1;try clear hx629_0;try clear hx630_0;try clear hx631_0;try clear hx632_0;try clear hx642_0
      try clear p2;try clear p629;try clear p630;try clear p631;try clear p632;try clear p642;try clear q629;try clear q630;try clear q631;try clear q632;try clear q642
      obtain⟨x10_2,x45_2,rfl,HA,HK2,HO_10,HX_,HB⟩:=hrel
      cases gk with
      | zero=>exact absurd HA.out (by simp[qn.l1])
      | succ k2=>
       have H:=HA.out;clear HA;simp only[qn.l1]at H;replace H:=Eg H;rcases H with ⟨c27b0,H⟩|⟨c27b0,H⟩
       ·replace H:=ifn H;obtain⟨c28,H⟩:=H;have c28b0:=decide_eq_true c28
        have c28b1:decide (0 < (zt t639 0).length)=true:=decide_eq_true (by omega);clear c28;replace H:=Ef H;obtain⟨c29b0,H⟩:=H;replace H:=Ef H;obtain⟨c30b0,H⟩:=H;replace H:=ifn H;obtain⟨c31,H⟩:=H;have c31b0:=decide_eq_true c31;have c31b1:decide (1 < (zt t639 0).length)=true:=decide_eq_true (by omega);clear c31;obtain⟨ji32,hji32⟩:∃ j_:Int,(wrap64 (4+x45_2))=j_:=⟨_,rfl⟩
        (first|rw[hji32]at H|simp only[hji32]at H)
        have hji32w:(IntKind.i64.wrap (4+x45_2))=ji32:=(qa6 _).trans hji32;replace H:=Ef H;obtain⟨c33b0,H⟩:=H;replace H:=Ef H;obtain⟨c34b0,H⟩:=H;replace H:=ifn H;obtain⟨c35,H⟩:=H;have LMc35:=am c35;clear c35;generalize hy650:(x10_2++[wrap64 ((wrap64 ((rd (zt t639 0) 0)*(rd l1 x45_2)))+(wrap64 ((rd (zt t639 0) 1)*(rd l1 (ji32)))))]:List Int)=y650 at H;have Ny650:=am hy650.symm;clear hy650;have H':=am H;clear H
        try go_wp2
        have n0_:=am (Kd.Ay HO_10.out);have n1_:=am (Qn HB.out);have nx_:=am (Kd.Ay HX_.out);clear HX_;have HX_:=nx_;clear nx_;clear HO_10;clear HB;have HO_10:=n0_;have HB:=n1_;clear n0_ n1_;have p646:0<=(0:Int):=(by omega)
        have q646:0 < ((zt t639 0).length:Int):=od;obtain⟨ad646,e646,hx646_0⟩:=Kd.Aj (Kd.Ac HX_.out).2.2 0 p646 q646;have hw646_0:=hx646_0
        (try rw[show ((0:Int)).toNat=0 from rfl]at hw646_0)
        (try rw[show 0*1=0 from rfl]at hw646_0)
        (try rw[Addr.add_zero']at hw646_0)
        cases e646
        have qi646:(0 < (zt t639 0).length)=True:=eq_true (by omega)
        (try rw[show ((0:Int)).toNat=0 from rfl]at hx646_0)
        (try rw[Addr.add_zero']at hx646_0)
        replace p646:=eq_true p646;replace q646:=eq_true q646;have p647:0<=(x45_2:Int):=od;have q647:x45_2 < (l1.length:Int):=od;obtain⟨ad647,e647,hx647_0⟩:=Kd.Aj HR1.out x45_2 p647 q647;have hw647_0:=hx647_0
        cases e647
        replace hx647_0:=wcl HB hx647_0;replace p647:=eq_true p647;replace q647:=eq_true q647;have p648:0<=(1:Int):=(by omega)
        have q648:1 < ((zt t639 0).length:Int):=od;obtain⟨ad648,e648,hx648_0⟩:=Kd.Aj (Kd.Ac HX_.out).2.2 1 p648 q648;have hw648_0:=hx648_0
        (try rw[show ((1:Int)).toNat=1 from rfl]at hw648_0)
        (try rw[show 1*1=1 from rfl]at hw648_0)
        (try simp only[Nat.reduceMul,Nat.reduceEqDiff,Go.Addr.add,↓reduceIte]at hw648_0)
        obtain rfl:ad646=ad648:=(by injection e648)
        (try simp only[show (1:Int).toNat=1 from rfl,Nat.reduceMul,Nat.reduceEqDiff,Go.Addr.add,↓reduceIte]at hx648_0)
        have qi648:(1 < (zt t639 0).length)=True:=eq_true (by omega)
        (try rw[show ((1:Int)).toNat=1 from rfl]at hx648_0)
        replace p648:=eq_true p648;replace q648:=eq_true q648;have p649:0<=((ji32):Int):=od;have q649:(ji32) < (l1.length:Int):=od;obtain⟨ad649,e649,hx649_0⟩:=Kd.Aj HR1.out (ji32) p649 q649;have hw649_0:=hx649_0;obtain rfl:ad647=ad649:=(by injection e649)
        replace hx649_0:=wcl HB hx649_0;replace p649:=eq_true p649;replace q649:=eq_true q649;refine st (T:=qn.T12) (B:=qn.B12) 22 (λw'=>w'.cell? ad646=some (int i64 (rd (zt t639 0) 0))/\w'.cell? (ad647.add (x45_2).toNat)=some (int i64 (rd l1 x45_2))/\w'.cell? ⟨ad646.block,ad646.off+1,none⟩=some (int i64 (rd (zt t639 0) 1))/\w'.cell? (ad647.add ((ji32)).toNat)=some (int i64 (rd l1 (ji32)))) [] (by kernel_rfl) (by kernel_rfl) (⟨hw646_0,(wcl HB hw647_0),hw648_0,(wcl HB hw649_0)⟩) λhHeld HT_ HW_=>?_;generalize wr.drew=w36 at HX_ hw646_0 hw648_0 HO_10 HB hx646_0 hx647_0 hx648_0 hx649_0 hHeld ⊢;refine Et 0 48 1 49 HT_ ?_;refine Et 2 50 4 52 HT_ ?_;refine Et 5 53 6 54 HT_ ?_;refine Et 9 57 10 58 HT_ ?_;refine Et 12 60 13 61 HT_ ?_;refine Et 14 62 15 63 HT_ ?_;refine tk 3 51 HT_ HW_ hHeld ?_;refine tk 7 55 HT_ HW_ hHeld ?_;refine pz 8 56 HT_ ?_;refine tk 11 59 HT_ HW_ hHeld ?_;refine tk 16 64 HT_ HW_ hHeld ?_;refine Et 17 65 18 66 HT_ ?_;refine on 19 (some 67) HT_ λK hK=>?_;refine qbq (w1:=?_) (v:=?_) (by rfl) rfl ?_ ?_
        rotate_left 2
        ·go_simp
         constructor
         ·rfl
         ·rfl
        refine hK.out _ _ ⟨(World.cell?_alloc_lt _ _ _ (World.block_lt_of_cell? _ _ (hw646_0))).trans (hw646_0),(World.cell?_alloc_lt _ _ _ (World.block_lt_of_cell? _ _ ((wcl HB hw647_0)))).trans ((wcl HB hw647_0)),(World.cell?_alloc_lt _ _ _ (World.block_lt_of_cell? _ _ (hw648_0))).trans (hw648_0),(World.cell?_alloc_lt _ _ _ (World.block_lt_of_cell? _ _ ((wcl HB hw649_0)))).trans ((wcl HB hw649_0))⟩ λhHeld=>nz ?_;clear hK K;refine on 20 (some 68) HT_ λK hK=>?_;refine Kd.AA (Kd.int i64) (w0:=w) w.heap.size (by rfl) (.tmp 48) (.tmp 67) 37 3 (int i64 0) 8 rfl Tryz.underlying37 Ju rfl (by decide) (by omega) u10 x10_2 (wrap64 ((wrap64 ((rd (zt t639 0) 0)*(rd l1 x45_2)))+(wrap64 ((rd (zt t639 0) 1)*(rd l1 (ji32)))))) [int i64 (wrap64 ((wrap64 ((rd (zt t639 0) 0)*(rd l1 x45_2)))+(wrap64 ((rd (zt t639 0) 1)*(rd l1 (ji32))))))] (λ_=>True) (λ_=>False) rfl rfl ?aP (λ_ hk=>hk.elim) ?aF ?aO ?aB ?aS ?aL ?_
        (case aP=>exact rfl)
        (case aB=>exact(bw HB))
        (case aF=>exact(λ_ _=>trivial))
        (case aO=>exact(wR HO_10))
        (case aS=>exact(bz HB))
        (case aL=>have:=LMc35.out;omega)
        intro v651 w37 ho hb hg hat
        have nx_:=am (Kd.Bn (v:=u10) (v1:=v651) (ok:=λ_=>True) (Kd.Ae (wR HX_) (λ_ hk=>⟨trivial,hk⟩)) hg hat);clear HX_;have HX_:=nx_;clear nx_;rw[<-Ny650.out]at ho;replace HB:=am (hb);have HO652:=am (ho);clear HO_10;clear ho hb hg hat
        refine hK.out _ _ ⟨(qn.rcell0 HX_.out (of_eq_true qi646)),(wcl HB hw647_0),(qn.rcell1 HX_.out (of_eq_true qi648)),(wcl HB hw649_0)⟩ λhHeld=>nz ?_;clear hK K;refine pz 21 10 HT_ ?_;refine Zh (Qe HT_.out (by kernel_rfl)) ?_
        try go_wp2
        go_roundg k2
        case measure=>have:=HK1.out;have:=HK2.out;omega
        case rel=>exact⟨(y650),(wrap64 (x45_2+1)),fr,H',⟨by have:=HK1.out;have:=HK2.out;omega⟩,⟨wR HO652⟩,⟨Kd.Af (Kd.Ae HX_.out (λ_ hk=>hk.2)) gs⟩,⟨bw HB⟩⟩
       ·replace H:=bs H;obtain⟨t653,A38,H⟩:=H;obtain rfl:=Option.some.inj H
        obtain⟨Ao39,co39,eo39⟩:=Kd.Ah HO_10.out;subst eo39
        go_wp2_with (first|((with_reducible refine za (f:=86) rfl ?_);refine gl 72 Tryz.func86 #[int i64 a0,.slice Ao39 x10_2.length co39] ?_;(with_reducible refine(Q8.calls k2 a0 _ _ x10_2 t653 _ ?_ ?_ A38.out).mono ?_);exact Kd.Ad (Kd.Ac HO_10.out).2.2 gs;exact(Kd.Ac HO_10.out).2.1;rintro e w40 ⟨v654,rfl,ho0,hb⟩;refine⟨_,rfl,?_⟩;have HO655:=am (Kd.Ai (Kd.AW ho0 (Kd.R_lt (wR HO_10))) (bz HB));replace HO_10:=eR HO_10 (Kd.Am ho0) hb;replace HB:=bq HB hb;(try clear hb);(try clear ho0)))
        go_ret
        exact⟨_,fq,Kd.Af (Kd.Ae HO655.out (λ_ hk=>trivial)) gs,bw HB⟩
    ·rw[if_neg c21]at H
     exact absurd H (by simp)
set_option maxHeartbeats 8000000
set_option maxRecDepth 100000
attribute [local go_sem] Tryz.underlying24 Tryz.underlying27 Tryz.underlying37
def ssQ (k:Nat) (p:Int) (L:List (List Int)) (P:List Int):Option Bool:=
 (Z4.f k p (L.getD (P.getD 0 0).toNat []) (L.getD (P.getD 1 0).toNat [])).bind λc=>if c=true then (qn.f k p (L.getD (P.getD 0 0).toNat []) (L.getD (P.getD 1 0).toNat [])).bind λs=>(J0.f k p s (L.getD (P.getD 2 0).toNat [])).bind λo=>some (!o) else some true
theorem qsr (k:Nat) (p:Int) (L:List (List Int)) (P:List Int):LeO (ssQ k p L P) (ssQ (k+1) p L P):=
 LeO.bind (Z4.mono _ _ _ _) λ_=>LeO.ite (LeO.bind (qn.mono _ _ _ _) λ_=>LeO.bind (J0.mono _ _ _ _) λ_=>LeO.refl _) (LeO.refl _)
def ss.T1 :Bool×List (List Nat×List Nat):=(true,[([],[]),([],[]),([1],[1]),([2],[2]),([0,3],[0,3]),([4],[4]),([],[]),([],[]),([7],[7]),([8],[8]),([6,9],[6,9]),([10],[10]),([5,0,1,2,3,4,5],[5]),([11,12,0,1,2,3,4,5,6,7,8,9,10,11,12],[11])])
def ss.B1 :List Nat:=[0,0,2,6,15,31,0,0,128,384,960,1984,63,8191]
def ss.T2 :Bool×List (List Nat×List Nat):=(true,[([],[]),([],[]),([],[]),([0,1,2],[0,1,2]),([3],[3]),([4,3],[4]),([5],[5]),([5],[5]),([5],[5]),([5],[5]),([7,8,9,5,5],[5,7,8,9]),([5],[5]),([5],[5]),([12,5],[5,12]),([13,5],[5,13]),([11,14,5],[5,11,14]),([15,5],[5,15]),([6,10,16,10,5],[5,6,10,16]),([17,5],[5,17]),([5,18],[5,18]),([19,17,0,1,2,3,4,5,6,7,8,9,10,11,12,13,14,15,16,17,18,19],[19])])
def ss.B2 :List Nat:=[0,0,0,7,15,31,63,63,63,63,959,63,63,4159,12351,30783,63551,131071,262143,524287,1048575]
theorem qor {w:World} {A:Option Addr} {n:Nat} {l:List Int} (h:Kd.C (Kd.int i64) w A n l) (j:Nat) (hj:j < n):∃ ad,A=some ad/\w.cell? (ad.add j)=some (int i64 (l.getD j 0)):=by
 obtain⟨ad,e,hx⟩:=Kd.Aj h (j:Int) (by omega) (by omega);exact⟨ad,e,by have:=hx;simpa [rd] using this⟩
theorem ss.calls (k:Nat) (p:Int) (gp gl:Nat) (A:Option Addr) (c:Nat) (L:List (List Int)) (B:Option Addr) (cb:Nat) (P:List Int) (b:Bool) (w:World) (hp:w.cell? ⟨gp,0,none⟩=some (int i64 p)) (hl:w.cell? ⟨gl,0,none⟩=some (.slice A L.length c)) (hc:Kd.C KI w A L.length L) (hP:Kd.C (Kd.int i64) w B P.length P) (h3:3<=P.length) (hi:∀ t,t < 3->0<=P.getD t 0/\P.getD t 0 < L.length) (h:ssQ k p L P=some b):
  Calls Tryz.prog 32 #[.slice B P.length cb,.pointer (some ⟨gl,0,none⟩),.pointer (some ⟨gp,0,none⟩)] w λe w'=>e=.returned (.bool b)/\Below w.heap.size w w':=by
 unfold ssQ at h;obtain⟨adB,rfl,b0⟩:=qor hP 0 (by omega);obtain⟨_,e1,b1⟩:=qor hP 1 (by omega)
 cases e1
 obtain⟨_,e1,b2⟩:=qor hP 2 (by omega)
 cases e1
 replace b0:w.cell? adB=_:=b0;replace b1:w.cell? ⟨adB.block,adB.off+1,none⟩=_:=b1;replace b2:w.cell? ⟨adB.block,adB.off+2,none⟩=_:=b2;obtain⟨p0,q0⟩:=hi 0 (by omega);obtain⟨p1,q1⟩:=hi 1 (by omega);obtain⟨p2,q2⟩:=hi 2 (by omega);generalize P.getD 0 0=i0 at*;generalize P.getD 1 0=i1 at*;generalize P.getD 2 0=i2 at*;obtain⟨adA,B0,c0,rfl,r0,k0,C0⟩:=qby hc i0.toNat (by omega)
 obtain⟨_,B1,c1,e1,r1,k1,C1⟩:=qby hc i1.toNat (by omega)
 cases e1
 obtain⟨_,B2,c2,e1,r2,k2,C2⟩:=qby hc i2.toNat (by omega)
 cases e1
 generalize L.getD i0.toNat []=l0 at*;generalize L.getD i1.toNat []=l1 at*;generalize L.getD i2.toNat []=l2 at*;generalize P.length=np at*;generalize L.length=nL at*;replace p0:=eq_true p0;replace p1:=eq_true p1;replace p2:=eq_true p2;replace q0:=eq_true q0;replace q1:=eq_true q1;replace q2:=eq_true q2;have n0:(0 < np)=True:=eq_true (by omega);have n1:((1:Int) < (np:Int))=True:=eq_true (by omega);have n2:((2:Int) < (np:Int))=True:=eq_true (by omega);have C0':=am C0;have C1':=am C1;have C2':=am C2;have K0:=am k0;have K1:=am k1;have K2:=am k2;have H:=am h;have HP:=Lib.hid (show ∀ w':World,Below w.heap.size w w'->(w'.cell? ⟨gl,0,none⟩=some (.slice (some adA) nL c)/\w'.cell? ⟨gp,0,none⟩=some (int i64 p)/\w'.cell? ⟨adB.block,adB.off+2,none⟩=some (int i64 i2)/\w'.cell? (adA.add i2.toNat)=some (.slice B2 l2.length c2)) from λw' hb=>⟨wcl (am hb) hl,wcl (am hb) hp,wcl (am hb) b2,wcl (am hb) r2⟩);have HS1:=am (show w.drew.cell? ⟨gl,0,none⟩=some (.slice (some adA) nL c)/\w.drew.cell? adB=some (int i64 i0)/\w.drew.cell? ⟨adB.block,adB.off+1,none⟩=some (int i64 i1)/\w.drew.cell? (adA.add i0.toNat)=some (.slice B0 l0.length c0)/\w.drew.cell? (adA.add i1.toNat)=some (.slice B1 l1.length c1) from ⟨hl,b0,b1,r0,r1⟩);clear hp hl hc hP h3 hi h b0 b1 b2 r0 r1 r2 C0 C1 C2 k0 k1 k2;go_enter Tryz.func32,Tryz.ntmps32
 go_upto_region 1 with fail
 refine st (T:=ss.T1) (B:=ss.B1) 14 (λw':World=>w'.cell? ⟨gl,0,none⟩=some (.slice (some adA) nL c)/\w'.cell? adB=some (int i64 i0)/\w'.cell? ⟨adB.block,adB.off+1,none⟩=some (int i64 i1)/\w'.cell? (adA.add i0.toNat)=some (.slice B0 l0.length c0)/\w'.cell? (adA.add i1.toNat)=some (.slice B1 l1.length c1)) [] (by kernel_rfl) (by kernel_rfl) HS1.out λhHeld HT_ HW_=>?_;clear HS1;refine tk 0 7 HT_ HW_ hHeld ?_;refine Et 1 8 2 9 HT_ ?_;refine tk 3 10 HT_ HW_ hHeld ?_;refine pz 4 11 HT_ ?_;refine tk 5 12 HT_ HW_ hHeld ?_;refine tk 6 13 HT_ HW_ hHeld ?_;refine Et 7 14 8 15 HT_ ?_;refine tk 9 16 HT_ HW_ hHeld ?_;refine pz 10 17 HT_ ?_;refine tk 11 18 HT_ HW_ hHeld ?_;refine Et 12 5 13 6 HT_ ?_;refine Zh (Qe HT_.out (by kernel_rfl)) ?_;clear hHeld HT_ HW_;obtain⟨cr,hcr,h⟩:=Option.bind_eq_some_iff.1 H.out;have HCR:=am hcr;have H2:=am h;clear H hcr h;clear q0 q1 p0 p1 n0 n1
 go_upto_region 2 with fail
 have HW0:=am (show Below w.heap.size w w.drew from Qw (Below.refl _ _));refine st (T:=ss.T2) (B:=ss.B2) 21 (λw':World=>w'.cell? ⟨gl,0,none⟩=some (.slice (some adA) nL c)/\w'.cell? ⟨gp,0,none⟩=some (int i64 p)/\w'.cell? ⟨adB.block,adB.off+2,none⟩=some (int i64 i2)/\w'.cell? (adA.add i2.toNat)=some (.slice B2 l2.length c2)) [] (by kernel_rfl) (by kernel_rfl) (HP.out w.drew.drew (Qw HW0.out)) λhHeld HT_ HW_=>?_;refine tk 0 19 HT_ HW_ hHeld ?_;refine Et 1 20 2 21 HT_ ?_;refine on 3 (some 22) HT_ λK hK=>?_;refine gs_ Tryz.func33 #[int i64 p,.slice B0 l0.length c0,.slice B1 l1.length c1] ?_;refine(Z4.calls k p B0 c0 l0 B1 c1 l1 cr _ (Kd.Ad C0'.out (Qw HW0.out)) K0.out (Kd.Ad C1'.out (Qw HW0.out)) K1.out HCR.out).mono ?_;rintro e w4 ⟨rfl,hb4⟩;have HW4:=am (ze (Qw HW0.out) hb4);refine⟨_,rfl,?_⟩;refine hK.out _ _ (HP.out w4 HW4.out) λhHeld=>nz ?_;clear hK K hb4 HW0 HCR hHeld
 cases cr with
 | false=>
  have hb:true=b:=Option.some.inj H2.out;subst hb;refine Et 4 23 5 24 HT_ ?_;refine po 6 25 HT_ ?_;refine po 7 26 HT_ ?_;refine po 8 27 HT_ ?_;refine po 9 28 HT_ ?_;refine po 10 29 HT_ ?_;refine po 11 30 HT_ ?_;refine po 12 31 HT_ ?_;refine po 13 32 HT_ ?_;refine po 14 33 HT_ ?_;refine po 15 34 HT_ ?_;refine po 16 35 HT_ ?_;refine po 17 36 HT_ ?_;refine po 18 37 HT_ ?_;refine Et 19 38 20 4 HT_ ?_;refine Zh (Qe HT_.out (by kernel_rfl)) ?_
  go_wp2;go_ret
  exact⟨fq,HW4.out⟩
 | true=>
  obtain⟨s,hs,h⟩:=Option.bind_eq_some_iff.1 (show ((qn.f k p l0 l1).bind λs=>(J0.f k p s l2).bind λo=>some (!o))=some b from H2.out);obtain⟨o,ho,h⟩:=Option.bind_eq_some_iff.1 h;obtain rfl:=Option.some.inj h;have HS:=am hs;have HO:=am ho;clear hs ho h H2;have hHeld:=HP.out w4 HW4.out;refine Et 4 23 5 24 HT_ ?_;refine tk 6 25 HT_ HW_ hHeld ?_;refine tk 7 26 HT_ HW_ hHeld ?_;refine Et 8 27 9 28 HT_ ?_;refine tk 11 30 HT_ HW_ hHeld ?_;refine Et 12 31 13 32 HT_ ?_;refine tk 14 33 HT_ HW_ hHeld ?_;refine pz 15 34 HT_ ?_;refine tk 16 35 HT_ HW_ hHeld ?_;clear hHeld;refine on 10 (some 29) HT_ λK hK=>?_;refine gs_ Tryz.func35 #[int i64 p,.slice B0 l0.length c0,.slice B1 l1.length c1] ?_;refine(qn.calls k p B0 c0 l0 B1 c1 l1 s _ (Kd.Ad C0'.out HW4.out) K0.out (Kd.Ad C1'.out HW4.out) K1.out HS.out).mono ?_;rintro e w5 ⟨v5,rfl,hv5,hb5⟩;have HW5:=am (ze HW4.out hb5);refine⟨_,rfl,?_⟩;refine hK.out _ _ (HP.out w5 HW5.out) λhHeld=>nz ?_;obtain⟨A5,c5,e5⟩:=Kd.Ah hv5;subst e5;have HV5:=am (Kd.Ac hv5);clear hK K hb5 hv5 HW4 HS hHeld;refine on 17 (some 36) HT_ λK hK=>?_;refine gs_ Tryz.func34 #[int i64 p,.slice A5 s.length c5,.slice B2 l2.length c2] ?_;refine(J0.calls k p (λk_=>k_ < w5.heap.size) A5 c5 s (λk_=>k_ < w5.heap.size) B2 c2 l2 o _ ?_ ?_ HO.out).mono ?_
  ·exact Kd.V_mk HV5.out.2.1 (Kd.C_F (Kd.AY .i64) HV5.out.2.2)
  ·exact Kd.V_mk K2.out (Kd.C_F (Kd.AY .i64) (Kd.Ad C2'.out HW5.out))
  rintro e w6 ⟨rfl,hb6⟩;have HW6:=am (ze HW5.out hb6);refine⟨_,rfl,?_⟩;refine hK.out _ _ (HP.out w6 HW6.out) λhHeld=>nz ?_;clear hK K hb6 HV5 HW5 HO hHeld;refine Et 18 37 19 38 HT_ ?_;refine pz 20 4 HT_ ?_;refine Zh (Qe HT_.out (by kernel_rfl)) ?_
  go_wp2;go_ret
  exact⟨fq,HW6.out⟩
def ssL (k:Nat) (p:Int) (six:List S51) (B:List (List Int)):Nat->Nat->List (List Int)->Option (List (List Int))
 | 0,_,acc=>some acc
 | d+1,i,acc=>(zu.f k p six B (i:Int)).bind λr=>ssL k p six B d (i+1) (acc++[r])
def ssOk (P:List (List Int)):Bool:=P.all λx=>x.length == 3 && x.all λt=>decide (0<=t/\t < 27)
def jv.f (k:Nat) (p:Int) (six:List S51):Option (List (List Int)×Bool):=
 (Zl.f k p six).bind λg=>if g=true then (Qf.f k p six).bind λB=>(ssL k p six B 27 0 []).bind λL=>(jt.f k).bind λP=>if ((0 < P.length/\P.length<=1000)/\ssOk P=true)/\(P.all λx=>(ssQ k p L x).isSome)=true then some (P.filter (λx=>!((ssQ k p L x).getD true)),true) else none else some ([],false)
theorem qnj (k:Nat) (p:Int) (six:List S51) (B:List (List Int)):∀ d i acc,LeO (ssL k p six B d i acc) (ssL (k+1) p six B d i acc)
 | 0,_,_=>LeO.refl _
 | d+1,i,acc=>by rw[ssL,ssL];exact LeO.bind (zu.mono _ _ _ _ _) λ_=>qnj k p six B d _ _
theorem qon {q q':List Int->Option Bool} (h:∀ x,LeO (q x) (q' x)) (c:Prop) [Decidable c] (P:List (List Int)):LeO (if c/\(P.all λx=>(q x).isSome)=true then some (P.filter (λx=>!((q x).getD true)),true) else none) (if c/\(P.all λx=>(q' x).isSome)=true then some (P.filter (λx=>!((q' x).getD true)),true) else none):=by
 intro r hr
 by_cases hc:c/\(P.all λx=>(q x).isSome)=true
 ·rw[if_pos hc]at hr
  have e:∀ x∈P,q' x=q x:=λx hx=>by
   obtain⟨b,hb⟩:=Option.isSome_iff_exists.1 (List.all_eq_true.1 hc.2 x hx);rw[hb];exact h x b hb
  rw[if_pos ⟨hc.1,List.all_eq_true.2 λx hx=>by rw[e x hx];exact List.all_eq_true.1 hc.2 x hx⟩,<-hr]
  congr 2
  exact List.filter_congr λx hx=>by rw[e x hx]
 ·rw[if_neg hc]at hr;cases hr
theorem jv.mono :∀ a0 a1 k,LeO (jv.f k a0 a1) (jv.f (k+1) a0 a1):=λa0 a1 k=>by
 unfold jv.f;exact LeO.bind (Zl.mono _ _ _) λ_=>LeO.ite (LeO.bind (Qf.mono _ _ _) λ_=>LeO.bind (qnj _ _ _ _ _ _ _) λ_=>LeO.bind (jt.mono _) λ_=>qon (λx=>qsr _ _ _ _) _ _) (LeO.refl _)
theorem qv0 {w:World} {base g n cap:Nat} {ok:Nat->Prop} {xs:List (List Int)} (h:Kd.S KI 37 w base ok (.slice (some ⟨g,0,none⟩) n cap) xs):
  ∃ arr0,w.heap[g]? =some (.cells arr0 37 (0,0))/\arr0.size=cap/\n=xs.length/\n<=cap/\cap<=9223372036854775807/\∀ j,j < n->∃ a c,arr0[j]? =some (.slice a (xs.getD j []).length c)/\(xs.getD j []).length<=c/\∀ W:World,(∀ k,k < w.heap.size->k≠g->W.heap[k]? =w.heap[k]?)->Kd.C (Kd.int i64) W a (xs.getD j []).length (xs.getD j []):=by
 obtain⟨h0,inner,ho,hr⟩:=Kd.S_R h
 rcases ho.2 with ⟨hv,_⟩|⟨g',cap',cur,hv,_,hh,hnc,hcm,hsz,htk⟩
 ·cases hv
 injection hv with ha hn hc
 injection ha with ha
 injection ha with ha _
 subst ha hn hc;have e1:KI.sz=1:=rfl;rw[e1,Nat.mul_one]at hsz htk;refine⟨cur,hh,hsz,rfl,hnc,hcm,λj hj=>?_⟩;have hx:xs[j]? =some xs[j]:=List.getElem?_eq_getElem hj;have e:xs.getD j []=xs[j]:=by rw[List.getD_eq_getElem?_getD,hx];rfl
 rw[e];obtain⟨v,hv,hR⟩:=hr.2 j _ hx;rw[e1,Nat.mul_one]at hv;have hvj:cur[j]? =some v:=by
  have h1:((inner.drop j).take 1)[0]? =some v:=by rw[hv];rfl
  rw[List.getElem?_take,if_pos (by omega),List.getElem?_drop,<-htk,List.getElem?_take,if_pos (by omega),Array.getElem?_toList]at h1;exact h1
 obtain⟨A,c,e2⟩:=Kd.Ah hR;subst e2;refine⟨A,c,hvj,(Kd.Ac hR).2.1,λW hW=>?_⟩;exact(Kd.Ac (Kd.Bx hR (λk hk hlt=>hW k hlt (λek=>hk.2 (by rw[ek];rfl))))).2.2
def vqA :Option Value->Option Addr
 | some (.slice a _ _)=>a
 | _=>none
def vqL :Option Value->Nat
 | some (.slice _ l _)=>l
 | _=>0
def vqC :Option Value->Nat
 | some (.slice _ _ c)=>c
 | _=>0
theorem qtc {l:List Nat} (hn:l.Nodup):∀ t (ht:t < l.length),l.idxOf l[t]=t:=by
 intro t ht;have h1:l.idxOf l[t] < l.length:=List.idxOf_lt_length_iff.2 (List.getElem_mem ht);have h2:l[l.idxOf l[t]]=l[t]:=List.getElem_idxOf h1;have hp:=List.pairwise_iff_getElem.1 hn
 rcases Nat.lt_trichotomy (l.idxOf l[t]) t with h|h|h
 ·exact absurd h2 (hp _ _ h1 ht h)
 ·exact h
 ·exact absurd h2.symm (hp _ _ ht h1 h)
theorem S_sub {w w':World} {base g n cap:Nat} {ok:Nat->Prop} {xs:List (List Int)} (h:Kd.S KI 37 w base ok (.slice (some ⟨g,0,none⟩) n cap) xs) (idx:List Nat) (hnd:idx.Nodup) (hlt:∀ t∈idx,t < n) (hln:idx.length<=n) (arr0 arr:Array Value) (hh:w.heap[g]? =some (.cells arr0 37 (0,0))) (hb:w'.heap[g]? =some (.cells arr 37 (0,0))) (hs:arr.size=arr0.size) (hc:∀ t,t < idx.length->arr[t]? =arr0[idx.getD t 0]?) (hsame:∀ k,k < w.heap.size->k≠g->w'.heap[k]? =w.heap[k]?):
  Kd.S KI 37 w' base ok (.slice (some ⟨g,0,none⟩) idx.length cap) (idx.map λj=>xs.getD j []):=by
 obtain⟨f,h⟩:=h;have hlen:=(Kd.Ac h).1;rw[List.length_zipIdx]at hlen;obtain⟨h0,inner,ho,hr⟩:=Kd.As h
 rcases ho.2 with ⟨hv,_⟩|⟨g',cap',cur,hv,hbg,hh',hnc,hcm,hsz,htk⟩
 ·cases hv
 injection hv with ha hn hcap
 injection ha with ha
 injection ha with ha _
 subst ha hcap;rw[hh]at hh';obtain rfl:arr0=cur:=by injection hh' with h;injection h
 have e1:(Kd.tag f KI).sz=1:=rfl;rw[e1,Nat.mul_one]at hsz htk;have htl:(arr.toList.take idx.length).length=idx.length:=by
  have ha:arr.toList.length=arr.size:=Array.length_toList;rw[List.length_take];rw[List.length_zipIdx]at hnc;omega
 refine⟨λk=>idx.idxOf (f k),λk hk=>(h0 k (by simpa [Value.ownBlock] using hk)).1,arr.toList.take idx.length,⟨?_,.inr ⟨g,cap,arr,?_,hbg,hb,?_,hcm,?_,?_⟩⟩,?_,?_⟩
 ·rw[htl,List.length_zipIdx,List.length_map]
  exact(Nat.mul_one _).symm
 ·rw[List.length_zipIdx,List.length_map]
 ·rw[List.length_zipIdx,List.length_map]
  rw[List.length_zipIdx]at hnc;omega
 ·show arr.size=cap*1
  omega
 ·rw[List.length_zipIdx,List.length_map]
  show List.take (idx.length*1) _=_
  rw[Nat.mul_one]
 ·rw[htl,List.length_zipIdx,List.length_map]
  exact(Nat.mul_one _).symm
 ·intro t q hq
  rw[List.getElem?_zipIdx,Nat.zero_add]at hq;obtain⟨x,hx,rfl⟩:=Option.map_eq_some_iff.1 hq;rw[List.getElem?_map]at hx;obtain⟨j,hj,rfl⟩:=Option.map_eq_some_iff.1 hx;obtain⟨ht,ej⟩:=List.getElem?_eq_some_iff.1 hj;have hjn:j < n:=hlt j (by rw[<-ej];exact List.getElem_mem ht);have hxj:xs[j]? =some xs[j]:=List.getElem?_eq_getElem (by omega);have e:xs.getD j []=xs[j]:=by rw[List.getD_eq_getElem?_getD,hxj];rfl
  have hM:=hr.2 j (xs[j],j) (Kd.BN hxj);rw[e1,Nat.mul_one]at hM;have ecs:(inner.drop j).take 1=((arr.toList.take idx.length).drop (t*1)).take 1:=by
   have h1:=hc t ht;rw[List.getD_eq_getElem?_getD,hj]at h1;replace h1:arr[t]? =arr0[j]?:=h1;rw[<-htk,Nat.mul_one]
   apply List.ext_getElem?
   intro m
   rcases Nat.eq_zero_or_pos m with rfl|hm
   ·rw[List.getElem?_take,if_pos (by omega),List.getElem?_take,if_pos (by omega),List.getElem?_drop,List.getElem?_drop,List.getElem?_take,List.getElem?_take,Nat.add_zero,Nat.add_zero,if_pos ht,List.length_zipIdx,if_pos (by omega),Array.getElem?_toList,Array.getElem?_toList,h1]
   ·rw[List.getElem?_take,if_neg (by omega),List.getElem?_take,if_neg (by omega)]
  rw[ecs]at hM
  show KI.M w' base _ (xs.getD j []) _
  rw[e]
  refine KI.M_mono ?_ (Kd.Ck hM (λk hk hlt2=>hsame k hlt2 (λek=>hk.1.2 (by rw[ek];rfl))))
  intro k hk;refine⟨⟨hk.1.1.1,λek=>hk.1.2 (by rw[ek];rfl)⟩,?_⟩
  show idx.idxOf (f k)=t
  have:f k=j:=hk.2
  rw[this,<-ej];exact qtc hnd t ht
theorem qv5 (P:List (List Int)) (q:List Int->Bool):(Zm (λj=>q (P.getD j [])) P.length).map (λj=>P.getD j [])=P.filter (λx=>!q x):=by
 have e:P=(List.range P.length).map λj=>P.getD j []:=by
  apply List.ext_getElem?
  intro j;rw[List.getElem?_map]
  by_cases hj:j < P.length
  ·rw[List.getElem?_range hj,List.getElem?_eq_getElem hj,Option.map_some,List.getD_eq_getElem?_getD,List.getElem?_eq_getElem hj];rfl
  ·rw[List.getElem?_eq_none (by omega),List.getElem?_eq_none (by rw[List.length_range];omega)];rfl
 rw[Zm]
 conv=>rhs;rw[e]
 rw[List.filter_map]
 rfl
theorem qma (q:Nat->Bool) (n:Nat):(Zm q n).Nodup:=List.Pairwise.filter _ List.nodup_range
theorem qm1 (q:Nat->Bool) (n:Nat):∀ t∈Zm q n,t < n:=λt ht=>List.mem_range.1 (List.mem_filter.1 ht).1
theorem qti {P:List (List Int)} (h:ssOk P=true) {x:List Int} (hx:x∈P):3<=x.length/\∀ t,t < 3->0<=x.getD t 0/\x.getD t 0 < 27:=by
 unfold ssOk at h;have h2:=List.all_eq_true.1 h x hx;simp only[Bool.and_eq_true,beq_iff_eq]at h2;refine⟨by omega,λt ht=>?_⟩;have hlen:t < x.length:=by omega
 have:=List.all_eq_true.1 h2.2 (x.getD t 0) (by rw[List.getD_eq_getElem?_getD,List.getElem?_eq_getElem hlen];exact List.getElem_mem hlen)
 exact of_decide_eq_true this
theorem qv4 {P:List (List Int)} {q:List Int->Option Bool} (h:(P.all λx=>(q x).isSome)=true) {x:List Int} (hx:x∈P):∃ b,q x=some b:=Option.isSome_iff_exists.1 (List.all_eq_true.1 h x hx)
theorem ss_at {k:Nat} {p:Int} {g g2 g7:Nat} {A:Option Addr} {c:Nat} {L P:List (List Int)} {arr0:Array Value} {w1 w9:World}
  (hel:∀ j,j < P.length->∃ a c,arr0[j]? =some (.slice a (P.getD j []).length c)/\(P.getD j []).length<=c/\∀ W:World,(∀ k,k < w9.heap.size->k≠g->W.heap[k]? =w9.heap[k]?)->Kd.C (Kd.int i64) W a (P.getD j []).length (P.getD j []))
  (hb9:Below w1.heap.size w1 w9) (hgb:w1.heap.size<=g) (h2:w1.heap[g2]? =some (.cells #[int i64 p] 3 (0,0))) (h7:w1.heap[g7]? =some (.cells #[.slice A L.length c] 24 (0,0))) (hL:Kd.C KI w1 A L.length L) (h27:L.length=27) (hok:ssOk P=true) (hall:(P.all λx=>(ssQ k p L x).isSome)=true) (j:Nat) (W:World) (hj:j < P.length) (hsame:SameBut g w9 W):
  Calls Tryz.prog 32 (#[.slice (vqA arr0[j]?) (vqL arr0[j]?) (vqC arr0[j]?)]++#[.pointer (some ⟨g7,0,none⟩),.pointer (some ⟨g2,0,none⟩)]) W λe w'=>e=.returned (.bool ((ssQ k p L (P.getD j [])).getD true))/\Below W.heap.size W w':=by
 have hw:Below w1.heap.size w1 W:=hsame.1 w1.heap.size w1 hgb hb9;obtain⟨a,ca,e,hc1,hC⟩:=hel j hj;have hmem:P.getD j []∈P:=by rw[List.getD_eq_getElem?_getD,List.getElem?_eq_getElem hj];exact List.getElem_mem hj
 obtain⟨b,hb⟩:=qv4 hall hmem;obtain⟨h3,hi⟩:=qti hok hmem;rw[e,hb];generalize P.getD j []=row at*;exact ss.calls k p g2 g7 A c L a ca row b W ((qe (qt h2 hw) 0).trans rfl) ((qe (qt h7 hw) 0).trans rfl) (Kd.Ad hL hw) (hC W hsame.2.2) h3 (λt ht=>by rw[h27];exact hi t ht) hb
theorem qt8 {arr0 arr:Array Value} {n:Nat} {q:Nat->Bool} (hce:∀ j,j < n->arr0[j]? =some (.slice (vqA arr0[j]?) (vqL arr0[j]?) (vqC arr0[j]?))) (h:∀ t,t < (Zm q n).length->arr[t]? =some (.slice ((λj=>vqA arr0[j]?) ((Zm q n).getD t 0)) ((λj=>vqL arr0[j]?) ((Zm q n).getD t 0)) ((λj=>vqC arr0[j]?) ((Zm q n).getD t 0)))) (t:Nat) (ht:t < (Zm q n).length):arr[t]? =arr0[(Zm q n).getD t 0]?:=by
 rw[h t ht];refine(hce _ (qm1 q n _ ?_)).symm;rw[List.getD_eq_getElem?_getD,List.getElem?_eq_getElem ht];exact List.getElem_mem ht
def jv.T8 :Bool×List (List Nat×List Nat):=(true,[([],[]),([],[]),([],[]),([],[]),([],[]),([1,2,3,4],[1,2,3,4]),([5],[5]),([0,6,5],[0,6]),([7,7,0,1,2,3,4,5,6,7],[7])])
def jv.B8 :List Nat:=[0,0,0,0,0,30,62,127,255]
theorem jv.calls (k:Nat) (a0:Int) (A1:Option Addr) (c1:Nat) (l1:List S51) (r1:List (List Int)) (r2:Bool) (w:World) (hr1:Kd.C k51 w A1 l1.length l1) (hc1:l1.length<=c1) (h:jv.f k a0 l1=some (r1,r2)):
  Calls Tryz.prog 8 #[int i64 a0,.slice A1 l1.length c1] w λe w'=>∃ v0_:Value,e=.returned (.tuple #[v0_,.bool r2])/\Kd.S KI 37 w' w.heap.size (λ_=>True) v0_ r1/\Below w.heap.size w w':=by
 have HR1:=am hr1;have HC1:=am hc1;have HB:=Em w;unfold jv.f at h;obtain⟨gg,hg,h2⟩:=Option.bind_eq_some_iff.1 h;have HG:=am hg;have HF:=am h2;clear hr1 hc1 h h2 hg;go_enter Tryz.func8,Tryz.ntmps8
 go_wp2_with (first
  | ((with_reducible refine zd (N:=2) rfl ?_);refine xe_ 2 3 #[int i64 a0] ?_;intro g2 hg w3 hbox hb;have y2:=(qe hbox 0).trans rfl;have BK2:=am (hbox);replace HB:=bq HB hb;clear hb hbox hg))
 refine(Zl.calls k a0 A1 c1 l1 gg _ (Kd.Ad HR1.out (bw HB)) HC1.out HG.out).mono ?_;rintro e w4 ⟨rfl,hb⟩;replace BK2:=am (qt (pk_ BK2) hb);replace HB:=bq HB hb;clear hb y2 HG
 cases gg with
 | false=>
  have h:=HF.out;obtain⟨rfl,rfl⟩:[]=r1/\false=r2:=by simpa using h
  clear h HF;go_wp2_with fail
  go_ret2
  exact⟨_,fq,Kd.S_nil _ _ _ _ _,bw HB⟩
 | true=>
  have h:=HF.out;rw[if_pos rfl]at h;obtain⟨B,hB,h⟩:=Option.bind_eq_some_iff.1 h;obtain⟨L,hL,h⟩:=Option.bind_eq_some_iff.1 h;obtain⟨P,hP,h⟩:=Option.bind_eq_some_iff.1 h;have HBO:=am hB;have HL:=am hL;have HP:=am hP;have HE:=am h;clear hB hL hP h HF;have y2:=(qe BK2.out 0).trans rfl;go_wp2_with fail;refine(Qf.calls k a0 A1 c1 l1 B _ (Kd.Ad HR1.out (bw HB)) HC1.out HBO.out).mono ?_;rintro e w5 ⟨v6,rfl,hv6,hb⟩;replace BK2:=am (qt (pk_ BK2) hb);replace HB:=bq HB hb;obtain⟨A6,c6,e6⟩:=Kd.AJ hv6;subst e6;have HC6:=am (Kd.Al hv6).2.2;have HL6:=am (Kd.Al hv6).2.1;clear hb y2 HBO hv6;have HW5:=am (Below.refl w5.heap.size w5)
  go_wp2_with (first
   | ((with_reducible refine zd (N:=16) rfl ?_);refine Kd.AR KI _ 37 ?hg (N:=16) ?hd (xs:=([]:List (List Int))) (inner:=[]) (ok:=λ_=>True) (okp:=λ_=>True) ?hr ?hp (λ_ hk=>hk) trivial (Below.refl _ _) (Nat.le_refl _) (by simp) ?_;(case hd=>rfl);(case hg=>rfl);(case hr=>first|(go_simp;done)|(go_simp;rfl));(case hp=>exact(Reps.none _ _));intro v16 w6 ho16 hb16 hg16 hnew16;have HO16:=am (Kd.Ai ho16 (bz HW5));replace HW5:=bq HW5 hb16;clear ho16 hb16 hg16 hnew16;obtain⟨A16,c16,e16⟩:=Kd.Ah HO16.out;subst e16)
   | ((with_reducible refine zd (N:=7) rfl ?_);refine xe_ 7 24 #[.slice none 0 0] ?_;intro g7 hg w7 hbox hb;have y7:=(qe hbox 0).trans rfl;have z7:=ql hbox 0;have BK7:=am hbox;have GE7:=am ((by rw[hg];exact(bz HW5):w5.heap.size<=g7));replace HO16:=am (Kd.Af HO16.out hb);replace HW5:=bq HW5 hb;clear hb hbox hg))
  replace HO16:=am (Kd.Dm HO16.out BK7.out (by decide) 0 (.slice A16 ([]:List (List Int)).length c16));replace HW5:=am (Za HW5.out GE7.out:Below w5.heap.size w5 (w7.setCell ⟨g7,0,none⟩ (.slice A16 ([]:List (List Int)).length c16)));have hb7:(w7.setCell ⟨g7,0,none⟩ (.slice A16 ([]:List (List Int)).length c16)).heap[g7]? =some (.cells #[.slice A16 ([]:List (List Int)).length c16] 24 (0,0)):=zc BK7.out 0 _;replace BK7:=am hb7;clear y7 z7 hb7;generalize w7.setCell ⟨g7,0,none⟩ (.slice A16 ([]:List (List Int)).length c16)=w8 at*;generalize hv16:Value.slice A16 ([]:List (List Int)).length c16=v16 at HO16 BK7;clear hv16
  go_loopw [17] (λv17 w'=>∃ (d i:Nat) (acc:List (List Int)) (vL:Value),v17=int i64 (i:Int)/\qf (i+d=27)/\qf (acc.length=i)/\qf (ssL k a0 l1 B d i acc=some L)/\qf (Kd.R KI 37 w' w5.heap.size (λ_=>True) vL acc)/\qf (w'.heap[g7]? =some (.cells #[vL] 24 (0,0)))/\qf (Below w5.heap.size w5 w')) (λv17 _=>27 - (intOf v17).toNat)
  case atStart=>exact⟨27,0,[],v16,rfl,⟨by omega⟩,⟨rfl⟩,HL,HO16,BK7,HW5⟩
  case round=>
   clear HL HO16 BK7 HW5;obtain⟨d,i,acc,vL,rfl,HD,HAC,HL,HO,BK7,HW5⟩:=hrel;obtain⟨A9,c9,e9⟩:=Kd.Ah HO.out;subst e9
   cases d with
   | zero=>
    have hlt:decide ((i:Int) < 27)=false:=decide_eq_false (by have:=HD.out;omega);have hl:=HL.out;rw[ssL]at hl;obtain rfl:=Option.some.inj hl;clear hl HL;go_wp2_with fail;refine(jt.calls k P _ HP.out).mono ?_;rintro e w9 ⟨v29,rfl,hv29,hb9⟩;have he:=HE.out
    by_cases hc:((0 < P.length/\P.length<=1000)/\ssOk P=true)/\(P.all λx=>(ssQ k a0 acc x).isSome)=true
    rotate_left
    ·rw[if_neg hc]at he;cases he
    rw[if_pos hc]at he;obtain⟨rfl,rfl⟩:P.filter (λx=>!(ssQ k a0 acc x).getD true)=r1/\true=r2:=by simpa using he
    obtain⟨g,cap,ev,hgb,hglt,_⟩:=Kd.C5 hv29 hc.1.1.1;subst ev;obtain⟨arr0,hh,hsz,_,hnc,hcm,hel⟩:=qv0 hv29;have hcells:∀ j,j < P.length->arr0[j]? =some (.slice (vqA arr0[j]?) (vqL arr0[j]?) (vqC arr0[j]?)):=λj hj=>by
     obtain⟨a,c,e,_⟩:=hel j hj;rw[e];rfl
    have HCO:=Lib.hid hc;have HV29:=Lib.hid hv29;have HB9:=Lib.hid hb9;have HH:=Lib.hid hh;have HEL:=Lib.hid hel;have HCE:=Lib.hid hcells;have HGB:=Lib.hid (show wr.heap.size<=g/\arr0.size=cap/\P.length<=cap/\cap<=9223372036854775807 from ⟨hgb,hsz,hnc,hcm⟩);clear he hc hv29 hb9 hh hel hcells hgb hsz hnc hcm hglt HE hlt;go_wp2_with fail;refine(deleteF.any 32 #[.pointer (some ⟨g7,0,none⟩),.pointer (some ⟨g2,0,none⟩)] g P.length cap 37 arr0 (λj=>vqA arr0[j]?) (λj=>vqL arr0[j]?) (λj=>vqC arr0[j]?) (λj=>(ssQ k a0 acc (P.getD j [])).getD true) _ (by have:=HCO.out.1.1.2;omega) HGB.out.2.2.1 HGB.out.2.2.2 HH.out (by have:=HGB.out;omega) HCE.out (λargs w=>qft Tryz.func32 (by kernel_rfl) (by kernel_rfl) args w) ?_).mono ?_
    ·exact λj W hj hsame=>ss_at (w1:=wr) HEL.out HB9.out HGB.out.1 (qt BK2.out HW5.out) BK7.out (Kd.Ac HO.out).2.2 (by have:=HAC.out;have:=HD.out;omega) HCO.out.1.2 HCO.out.2 j W hj hsame
    rintro e w10 ⟨arr,rfl,hb10,hs10,hc10,hsame⟩;have hB10:Below w.heap.size w w10:=hsame.1 w.heap.size w (by have:=HGB.out.1;have:=HB.out.size;have:=HW5.out.size;omega) (ze HB.out (ze HW5.out HB9.out));have hS10:Kd.S KI 37 w10 w.heap.size (λ_=>True) (.slice (some ⟨g,0,none⟩) (Zm (λj=>(ssQ k a0 acc (P.getD j [])).getD true) P.length).length cap) (P.filter (λx=>!(ssQ k a0 acc x).getD true)):=by
     rw[<-qv5 P (λx=>(ssQ k a0 acc x).getD true)];exact Kd.AD (S_sub HV29.out _ (qma _ _) (qm1 _ _) (qrt _ _) arr0 arr HH.out hb10 hs10 (qt8 HCE.out hc10) hsame.2.2) (by have:=HB.out.size;have:=HW5.out.size;omega)
    have HBE:=am hB10;have HSE:=am hS10;clear hB10 hS10 hb10 hs10 hc10 hsame HCE HEL HH;go_wp2_with fail
    go_ret2
    exact⟨_,fq,HSE.out,HBE.out⟩
   | succ d=>
    have hlt:decide ((i:Int) < 27)=true:=decide_eq_true (by have:=HD.out;omega);have hl:=HL.out;rw[ssL]at hl;obtain⟨row,hrow,hl⟩:=Option.bind_eq_some_iff.1 hl;have HROW:=am hrow;have HN:=am hl;clear hl hrow HL;have HO9b:=am (Kd.Ae (Kd.As HO.out) (λk h=>h.2.2.1))
    go_upto_region 8 with fail
    have y2:=(qe (qt BK2.out HW5.out) 0).trans rfl;have y7:=(qe BK7.out 0).trans rfl;have hS:(λw':World=>w'.cell? ⟨g7,0,none⟩=some (.slice A9 acc.length c9)/\w'.cell? ⟨g2,0,none⟩=some (int i64 a0)) wr.drew:=⟨y7,y2⟩
    refine st (T:=jv.T8) (B:=jv.B8) 9 (λw':World=>w'.cell? ⟨g7,0,none⟩=some (.slice A9 acc.length c9)/\w'.cell? ⟨g2,0,none⟩=some (int i64 a0)) [7,8] (by kernel_rfl) (by kernel_rfl) hS λhHeld HT_ HW_=>?_;clear hS y2 y7;refine tk 0 20 HT_ HW_ hHeld ?_;refine tk 1 21 HT_ HW_ hHeld ?_;refine Et 2 22 3 23 HT_ ?_;refine pz 4 24 HT_ ?_;clear hHeld;refine on 5 (some 25) HT_ λK hK=>?_;refine gs_ Tryz.func29 #[int i64 a0,.slice A1 l1.length c1,.slice A6 B.length c6,int i64 (i:Int)] ?_;have HWD:=am (show Below w5.heap.size w5 wr.drew from Qw HW5.out);refine(zu.calls k a0 A1 c1 l1 A6 c6 B (i:Int) row _ (Kd.Ad HR1.out (ze HB.out HWD.out)) HC1.out (Kd.Ad HC6.out HWD.out) HL6.out HROW.out).mono ?_;rintro e w9 ⟨v25,rfl,hv25,hb9⟩;obtain⟨A25,c25,e25⟩:=Kd.Ah hv25;subst e25;have HW9:=am (ze HWD.out hb9);have HV:=am hv25;have BK9:=am (qt (qy BK7.out) hb9);have HO9:=am (Kd.Af (Kd.Ay HO.out) hb9);have hS:w9.cell? ⟨g7,0,none⟩=some (.slice A9 acc.length c9)/\w9.cell? ⟨g2,0,none⟩=some (int i64 a0):=⟨(qe BK9.out 0).trans rfl,(qe (qt BK2.out HW9.out) 0).trans rfl⟩
    have HSZ:=am (show wr.heap.size<=w9.heap.size from hb9.size);refine⟨_,rfl,?_⟩;refine hK.out _ _ hS λhHeld=>nz ?_;clear hK K hb9 hv25 hHeld HWD;refine on 6 (some 26) HT_ λK hK=>?_;refine qbq (w1:=?_) (v:=?_) (by rfl) rfl ?_ ?_
    rotate_left 2
    ·go_simp
     constructor
     ·rfl
     ·rfl
    refine hK.out _ _ ?_ λhHeld=>nz ?_
    ·have hb:=Qm (Below.refl w9.heap.size w9) (.cells #[.slice A25 row.length c25] 37)
     exact⟨wcl (am hb) hS.1,wcl (am hb) hS.2⟩
    clear hK K hS hHeld;refine la 7 (some 27) HT_ λK hK=>?_;refine Kd.AA KI (w0:=w5) w5.heap.size (by rfl) (.tmp 20) (.tmp 26) 24 37 (.slice none 0 0) 24 rfl Tryz.underlying24 Ja rfl (by decide) (by omega) (.slice A9 acc.length c9) acc row [.slice A25 row.length c25] (λ_=>True) (λk=>some k=(Value.slice A25 row.length c25).ownBlock) rfl rfl ?aP ?aK ?aF ?aO ?aB ?aS ?aL ?_
    (case aP=>exact⟨_,rfl,Kd.AO rfl (Kd.Ai HV.out HW5.out.size)⟩)
    (case aK=>exact(λk hk=>⟨trivial,λe=>by have h1:=HO9b.out.1 k e.symm;have h2:wr.heap.size<=k:=Kd.Am HV.out k hk.symm;omega⟩))
    (case aB=>exact HW9.out)
    (case aF=>exact(λ_ _=>trivial))
    (case aO=>exact HO9.out)
    (case aS=>exact HW9.out.size)
    (case aL=>have:=HAC.out;have:=HD.out;omega)
    intro v10 w10 ho hb hg hn;obtain⟨A10,c10,e10⟩:=Kd.Ah ho;subst e10;have BK10:=am (Z2 BK9.out hg (Kd.R_ne HO9.out BK9.out (by decide)));have HO10:=am ho;have HW10:=am hb;refine hK.out _ _ (nz ?_);clear hK K ho hb hg hn HW9 HV BK9 HO9 HO9b HO BK7 HW5 HSZ;have hx:=(qe BK10.out 0).trans rfl;have hz:=ql BK10.out 0;refine la 8 none HT_ λK hK=>?_;refine qhh (w1:=?_) (by rfl) rfl ?_ ?_
    rotate_left
    ·go_simp
     rfl
    refine hK.out _ _ ?_;clear hK K hx hz;refine Zh (Qe HT_.out (by kernel_rfl)) ?_;have el:(acc++[row]).length=acc.length+1:=by simp
    replace HO10:=am (Kd.Dm HO10.out BK10.out (by decide) 0 (.slice A10 (acc.length+1) c10));replace HW10:=am (Za HW10.out GE7.out:Below w5.heap.size w5 (w10.setCell ⟨g7,0,none⟩ (.slice A10 (acc.length+1) c10)));replace BK10:=am (show (w10.setCell ⟨g7,0,none⟩ (.slice A10 (acc.length+1) c10)).heap[g7]? =some (.cells #[.slice A10 (acc++[row]).length c10] 24 (0,0)) from by rw[el];exact zc BK10.out 0 _);generalize w10.setCell ⟨g7,0,none⟩ (.slice A10 (acc.length+1) c10)=w11 at*;clear el;have hw1:wrap64 ((i:Int)+1)=((i+1:Nat):Int):=by have:=HD.out;unfold wrap64;omega
    have HW1:=am hw1;clear hw1 hlt;go_wp2
    go_roundw
    case measure=>rw[HW1.out];simp only[intOf];have:=HD.out;omega
    case rel=>exact⟨d,i+1,acc++[row],.slice A10 (acc++[row]).length c10,by rw[HW1.out],⟨by have:=HD.out;omega⟩,⟨by rw[List.length_append,HAC.out];rfl⟩,HN,HO10,BK10,HW10⟩
def jq.l0 :Nat->List Int->List Int->Int->Option (Bool)
 | 0,_,_,_=>none
 | k+1,x0,x1,x5=>if x5 < (x0.length:Int) then (if 0<=x5 then (if x5 < (x1.length:Int) then (if (rd x0 x5)=(rd x1 x5) then (jq.l0 k x0 x1 (wrap64 (x5+1))) else (some false)) else (none)) else (none)) else (some true)
def jq.f (k:Nat) (l0:List Int) (l1:List Int):Option (Bool):=if (l0.length:Int)=(l1.length:Int) then (jq.l0 k l0 l1 0) else (some false)
theorem jq.Ag :∀ k,(∀ y0 y1 y2,LeO (jq.l0 k y0 y1 y2) (jq.l0 (k+1) y0 y1 y2))
 | 0=>λ_ _ _ r h=>by simp[jq.l0]at h
 | k+1=>by
  have ih0:=jq.Ag k
  ·intro y0 y1 y2
   unfold jq.l0
   repeat' with_reducible first|intro _|apply ih0|apply Eb|apply Ec|apply Ed|apply Ee
theorem jq.mono (a0 a1 k):LeO (jq.f k a0 a1) (jq.f (k+1) a0 a1):=by
 have ih0:=jq.Ag k;unfold jq.f
 repeat' with_reducible first|intro _|apply ih0|apply Eb|apply Ec|apply Ed|apply Ee
theorem jq.calls (k:Nat) (A0:Option Addr) (c0:Nat) (l0:List Int) (A1:Option Addr) (c1:Nat) (l1:List Int) (r:Bool) (w:World) (hr0:Kd.C (Kd.int i64) w A0 l0.length l0) (hc0:l0.length<=c0) (hr1:Kd.C (Kd.int i64) w A1 l1.length l1) (hc1:l1.length<=c1) (h:jq.f k l0 l1=some r):
  Calls Tryz.prog 36 #[.slice A0 l0.length c0,.slice A1 l1.length c1] w λe w'=>e=.returned (.bool r)/\Drawn0 w w':=by
 have HR0:=am hr0;clear hr0 hc0;have HR1:=am hr1;clear hr1 hc1;have H:=h;unfold jq.f at H;clear h
 by_cases c3:(l0.length:Int)=(l1.length:Int)
 ·rw [if_pos c3] at H
  have c3b0:=beq_iff_eq.mpr c3;have c3b1:=bne_eq_false_iff_eq.mpr c3;have c3b2:(l0.length == l1.length)=true:=by first|simpa using c3|(simp at c3 ⊢;omega)
  clear c3;have H':=am H;clear H;go_enter Tryz.func36,Tryz.ntmps36
  go_wp2
  repeat (go_quiet (fail);try go_wp2)
  go_loopg [5] k (λkq v5 w'=>∃ (x5_1:Int),v5=int i64 x5_1/\qf (jq.l0 kq l0 l1 x5_1=some r)/\qf (kq<=k)/\Drawn0 w w')
  case atStart=>exact⟨(0),fr,H',⟨Nat.le_refl _⟩,df⟩
  case round=>
   clear H';try clear c1;try clear p2;try clear c3;try clear c3b0;try clear c3b1;try clear c3b2
   obtain⟨x5_1,rfl,HA,HK1,⟨m1,rfl⟩⟩:=hrel
   cases gk with
   | zero=>exact absurd HA.out (by simp[jq.l0])
   | succ k1=>
    have H:=HA.out;clear HA;simp only[jq.l0]at H;replace H:=Eg H;rcases H with ⟨c4b0,H⟩|⟨c4b0,H⟩
    ·replace H:=Ef H;obtain⟨c5b0,H⟩:=H;replace H:=Ef H;obtain⟨c6b0,H⟩:=H
     by_cases c7:(rd l0 x5_1)=(rd l1 x5_1)
     ·rw[if_pos c7]at H
      have c7b0:=beq_iff_eq.mpr c7;have c7b1:=bne_eq_false_iff_eq.mpr c7;clear c7;have H':=am H;clear H;obtain⟨ad656,e656,hx656_0,p656,q656⟩:=Es HR0.out x5_1 od od;cases e656
      obtain⟨ad657,e657,hx657_0,p657,q657⟩:=Es HR1.out x5_1 od od;cases e657;go_wp2
      repeat (go_quiet (fail);try go_wp2)
      go_roundg k1
      case measure=>have:=HK1.out;omega
      case rel=>exact⟨(wrap64 (x5_1+1)),fr,H',⟨by have:=HK1.out;omega⟩,df⟩
     ·rw[if_neg c7]at H
      have c7b0:=beq_eq_false_iff_ne.mpr c7;have c7b1:=bne_iff_ne.mpr c7;obtain rfl:=Option.some.inj H;obtain⟨ad656,e656,hx656_0,p656,q656⟩:=Es HR0.out x5_1 od od;cases e656
      obtain⟨ad657,e657,hx657_0,p657,q657⟩:=Es HR1.out x5_1 od od;cases e657;go_wp2
      repeat (go_quiet (fail);try go_wp2)
      go_ret
      exact⟨fr,df⟩
    ·obtain rfl:=Option.some.inj H;go_wp2
     repeat (go_quiet (fail);try go_wp2)
     go_ret
     exact⟨fr,df⟩
 ·rw[if_neg c3]at H
  have c3b0:=beq_eq_false_iff_ne.mpr c3;have c3b1:=bne_iff_ne.mpr c3;have c3b2:(l0.length == l1.length)=false:=by first|simpa using c3|(simp at c3 ⊢;omega)
  obtain rfl:=Option.some.inj H;go_enter Tryz.func36,Tryz.ntmps36
  go_wp2
  repeat (go_quiet (fail);try go_wp2)
  go_ret
  exact⟨fr,df⟩
def j5.l0 :Nat->List (List Int)->List (List Int)->Int->Option (Bool)
 | 0,_,_,_=>none
 | k+1,x0,x1,x5=>if x5 < (x0.length:Int) then (if 0<=x5 then (if x5 < (x1.length:Int) then ((jq.f k (zt x0 x5) (zt x1 x5)).bind λt660=>(if t660=true then (j5.l0 k x0 x1 (wrap64 (x5+1))) else (some false))) else (none)) else (none)) else (some true)
def j5.f (k:Nat) (l0:List (List Int)) (l1:List (List Int)):Option (Bool):=if (l0.length:Int)=(l1.length:Int) then (j5.l0 k l0 l1 0) else (some false)
theorem j5.Ag :∀ k,(∀ y0 y1 y2,LeO (j5.l0 k y0 y1 y2) (j5.l0 (k+1) y0 y1 y2))
 | 0=>λ_ _ _ r h=>by simp[j5.l0]at h
 | k+1=>by
  have ih0:=j5.Ag k
  ·intro y0 y1 y2
   unfold j5.l0
   repeat' with_reducible first|intro _|apply ih0|apply jq.mono|apply Eb|apply Ec|apply Ed|apply Ee
theorem j5.mono (a0 a1 k):LeO (j5.f k a0 a1) (j5.f (k+1) a0 a1):=by
 have ih0:=j5.Ag k;unfold j5.f
 repeat' with_reducible first|intro _|apply ih0|apply jq.mono|apply Eb|apply Ec|apply Ed|apply Ee
theorem j5.calls (k:Nat) (A0:Option Addr) (c0:Nat) (l0:List (List Int)) (A1:Option Addr) (c1:Nat) (l1:List (List Int)) (r:Bool) (w:World) (hr0:Kd.C KI w A0 l0.length l0) (hc0:l0.length<=c0) (hr1:Kd.C KI w A1 l1.length l1) (hc1:l1.length<=c1) (h:j5.f k l0 l1=some r):
  Calls Tryz.prog 9 #[.slice A0 l0.length c0,.slice A1 l1.length c1] w λe w'=>e=.returned (.bool r)/\Drawn0 w w':=by
 have HR0:=am hr0;clear hr0 hc0;have HR1:=am hr1;clear hr1 hc1;have H:=h;unfold j5.f at H;clear h
 by_cases c3:(l0.length:Int)=(l1.length:Int)
 ·rw [if_pos c3] at H
  have c3b0:=beq_iff_eq.mpr c3;have c3b1:=bne_eq_false_iff_eq.mpr c3;have c3b2:(l0.length == l1.length)=true:=by first|simpa using c3|(simp at c3 ⊢;omega)
  clear c3;have H':=am H;clear H;go_enter Tryz.func9,Tryz.ntmps9
  go_wp2
  repeat (go_quiet (fail);try go_wp2)
  go_loopg [5] k (λkq v5 w'=>∃ (x5_1:Int),v5=int i64 x5_1/\qf (j5.l0 kq l0 l1 x5_1=some r)/\qf (kq<=k)/\Drawn0 w w')
  case atStart=>exact⟨(0),fr,H',⟨Nat.le_refl _⟩,df⟩
  case round=>
   clear H';try clear c1;try clear p2;try clear c3;try clear c3b0;try clear c3b1;try clear c3b2
   obtain⟨x5_1,rfl,HA,HK1,⟨m1,rfl⟩⟩:=hrel
   cases gk with
   | zero=>exact absurd HA.out (by simp[j5.l0])
   | succ k1=>
    have H:=HA.out;clear HA;simp only[j5.l0]at H;replace H:=Eg H;rcases H with ⟨c4b0,H⟩|⟨c4b0,H⟩
    ·replace H:=Ef H;obtain⟨c5b0,H⟩:=H;replace H:=Ef H;obtain⟨c6b0,H⟩:=H;replace H:=bs H;obtain⟨t660,A7,H⟩:=H
     by_cases c8:t660=true
     ·subst c8
      rw[if_pos rfl]at H;have H':=am H;clear H;have p658:0<=(x5_1:Int):=od;have q658:x5_1 < (l0.length:Int):=od;obtain⟨ad658,A658_0,c658_0,e658,hx658_0,hl658_0,hi658_0⟩:=qat HR0.out x5_1 p658 q658
      cases e658
      have HR658_0:=am hi658_0;have HC658_0:=am hl658_0;clear hi658_0 hl658_0;replace p658:=eq_true p658;replace q658:=eq_true q658;have p659:0<=(x5_1:Int):=od;have q659:x5_1 < (l1.length:Int):=od;obtain⟨ad659,A659_0,c659_0,e659,hx659_0,hl659_0,hi659_0⟩:=qat HR1.out x5_1 p659 q659
      cases e659
      have HR659_0:=am hi659_0;have HC659_0:=am hl659_0;clear hi659_0 hl659_0;replace p659:=eq_true p659;replace q659:=eq_true q659
      go_wp2_with (first|(go_at_call 36;(with_reducible refine(jq.calls k1 _ _ (zt l0 x5_1) _ _ (zt l1 x5_1) true _ ?_ ?_ ?_ ?_ A7.out).mono ?_);exact wC HR658_0;exact HC658_0.out;exact wC HR659_0;exact HC659_0.out;rintro e w' ⟨rfl,⟨nd,rfl⟩⟩;(try first|exact⟨rfl,_,World.drewN_drewN _ _ _⟩|exact⟨rfl,_,Eq.trans (World.drewN_drewN _ _ _) (congrArg (World.drewN _) (Nat.add_assoc _ _ _))⟩)))
      repeat (go_quiet (first|(go_at_call 36;(with_reducible refine(jq.calls k1 _ _ (zt l0 x5_1) _ _ (zt l1 x5_1) true _ ?side1 ?side2 ?side3 ?side4 A7.out).mono ?_);(case side1=>exact wC HR658_0);(case side2=>exact HC658_0.out);(case side3=>exact wC HR659_0);(case side4=>exact HC659_0.out);rintro e w' ⟨rfl,⟨nd,rfl⟩⟩;(try first|exact⟨rfl,_,World.drewN_drewN _ _ _⟩|exact⟨rfl,_,Eq.trans (World.drewN_drewN _ _ _) (congrArg (World.drewN _) (Nat.add_assoc _ _ _))⟩)));try go_wp2_with (first|(go_at_call 36;(with_reducible refine(jq.calls k1 _ _ (zt l0 x5_1) _ _ (zt l1 x5_1) true _ ?side1 ?side2 ?side3 ?side4 A7.out).mono ?_);(case side1=>exact wC HR658_0);(case side2=>exact HC658_0.out);(case side3=>exact wC HR659_0);(case side4=>exact HC659_0.out);rintro e w' ⟨rfl,⟨nd,rfl⟩⟩;(try first|exact⟨rfl,_,World.drewN_drewN _ _ _⟩|exact⟨rfl,_,Eq.trans (World.drewN_drewN _ _ _) (congrArg (World.drewN _) (Nat.add_assoc _ _ _))⟩))))
      go_roundg k1
      case measure=>have:=HK1.out;omega
      case rel=>exact⟨(wrap64 (x5_1+1)),fr,H',⟨by have:=HK1.out;omega⟩,df⟩
     ·replace c8:=Bool.eq_false_iff.mpr c8
      subst c8;rw[if_neg (show ¬ (false=true) by decide)]at H;obtain rfl:=Option.some.inj H;have p658:0<=(x5_1:Int):=od;have q658:x5_1 < (l0.length:Int):=od;obtain⟨ad658,A658_0,c658_0,e658,hx658_0,hl658_0,hi658_0⟩:=qat HR0.out x5_1 p658 q658
      cases e658
      have HR658_0:=am hi658_0;have HC658_0:=am hl658_0;clear hi658_0 hl658_0;replace p658:=eq_true p658;replace q658:=eq_true q658;have p659:0<=(x5_1:Int):=od;have q659:x5_1 < (l1.length:Int):=od;obtain⟨ad659,A659_0,c659_0,e659,hx659_0,hl659_0,hi659_0⟩:=qat HR1.out x5_1 p659 q659
      cases e659
      have HR659_0:=am hi659_0;have HC659_0:=am hl659_0;clear hi659_0 hl659_0;replace p659:=eq_true p659;replace q659:=eq_true q659
      go_wp2_with (first|(go_at_call 36;(with_reducible refine(jq.calls k1 _ _ (zt l0 x5_1) _ _ (zt l1 x5_1) false _ ?_ ?_ ?_ ?_ A7.out).mono ?_);exact wC HR658_0;exact HC658_0.out;exact wC HR659_0;exact HC659_0.out;rintro e w' ⟨rfl,⟨nd,rfl⟩⟩;(try first|exact⟨rfl,_,World.drewN_drewN _ _ _⟩|exact⟨rfl,_,Eq.trans (World.drewN_drewN _ _ _) (congrArg (World.drewN _) (Nat.add_assoc _ _ _))⟩)))
      repeat (go_quiet (first|(go_at_call 36;(with_reducible refine(jq.calls k1 _ _ (zt l0 x5_1) _ _ (zt l1 x5_1) false _ ?side1 ?side2 ?side3 ?side4 A7.out).mono ?_);(case side1=>exact wC HR658_0);(case side2=>exact HC658_0.out);(case side3=>exact wC HR659_0);(case side4=>exact HC659_0.out);rintro e w' ⟨rfl,⟨nd,rfl⟩⟩;(try first|exact⟨rfl,_,World.drewN_drewN _ _ _⟩|exact⟨rfl,_,Eq.trans (World.drewN_drewN _ _ _) (congrArg (World.drewN _) (Nat.add_assoc _ _ _))⟩)));try go_wp2_with (first|(go_at_call 36;(with_reducible refine(jq.calls k1 _ _ (zt l0 x5_1) _ _ (zt l1 x5_1) false _ ?side1 ?side2 ?side3 ?side4 A7.out).mono ?_);(case side1=>exact wC HR658_0);(case side2=>exact HC658_0.out);(case side3=>exact wC HR659_0);(case side4=>exact HC659_0.out);rintro e w' ⟨rfl,⟨nd,rfl⟩⟩;(try first|exact⟨rfl,_,World.drewN_drewN _ _ _⟩|exact⟨rfl,_,Eq.trans (World.drewN_drewN _ _ _) (congrArg (World.drewN _) (Nat.add_assoc _ _ _))⟩))))
      go_ret
      exact⟨fr,df⟩
    ·obtain rfl:=Option.some.inj H;go_wp2
     repeat (go_quiet (fail);try go_wp2)
     go_ret
     exact⟨fr,df⟩
 ·rw[if_neg c3]at H
  have c3b0:=beq_eq_false_iff_ne.mpr c3;have c3b1:=bne_iff_ne.mpr c3;have c3b2:(l0.length == l1.length)=false:=by first|simpa using c3|(simp at c3 ⊢;omega)
  obtain rfl:=Option.some.inj H;go_enter Tryz.func9,Tryz.ntmps9
  go_wp2
  repeat (go_quiet (fail);try go_wp2)
  go_ret
  exact⟨fr,df⟩
attribute [local go_sem] Tryz.underlying49 Tryz.underlying51
def zv.f (a0_0 a0_1 a0_2 a1_0 a1_1 a1_2:Int):Option Bool:=if (a0_0 !=a1_0)=true then some false else if (a0_1 !=a1_1)=true then some false else some (!(a0_2 !=a1_2))
def zv.T4 :Bool×List (List Nat×List Nat):=(true,[([],[]),([0],[0]),([1],[1]),([],[]),([3],[3]),([4],[4]),([2,5],[2,5])])
def zv.B4 :List Nat:=[0,1,3,0,8,24,63]
theorem zv.tab4 :rtab .any (Jc Tryz.f87 4)=zv.T4:=by kernel_rfl
theorem zv.bits4 :Ql zv.T4.2 zv.B4=true:=by kernel_rfl
theorem zv.n0 (x0 x1 x2 y0 y1 y2:Int) (w:World) (c0:(x0 !=y0)=true):
  Calls Tryz.prog 87 #[.agg #[int i64 x0,int i64 x1,int i64 x2],.agg #[int i64 y0,int i64 y1,int i64 y2]] w λe w'=>e=.returned (.bool false)/\Below w.heap.size w w':=by
 have HB:=Em w;have hS:(λw':World=>w'.cell? ⟨w.heap.size,0,none⟩=some (int i64 x0)/\w'.cell? ⟨w.heap.size,1,none⟩=some (int i64 x1)/\w'.cell? ⟨w.heap.size,2,none⟩=some (int i64 x2)/\w'.cell? ⟨w.heap.size+1,0,none⟩=some (int i64 y0)/\w'.cell? ⟨w.heap.size+1,1,none⟩=some (int i64 y1)/\w'.cell? ⟨w.heap.size+1,2,none⟩=some (int i64 y2)) ((w.alloc (.cells #[int i64 x0,int i64 x1,int i64 x2] 49)).alloc (.cells #[int i64 y0,int i64 y1,int i64 y2] 49)):=by
  have h1:=heap_alloc2_old w (.cells #[int i64 x0,int i64 x1,int i64 x2] 49) (.cells #[int i64 y0,int i64 y1,int i64 y2] 49);have h2:=heap_alloc2_new w (.cells #[int i64 x0,int i64 x1,int i64 x2] 49) (.cells #[int i64 y0,int i64 y1,int i64 y2] 49);exact⟨cell_of_row _ _ 0 _ _ _ h1,cell_of_row _ _ 1 _ _ _ h1,cell_of_row _ _ 2 _ _ _ h1,cell_of_row _ _ 0 _ _ _ h2,cell_of_row _ _ 1 _ _ _ h2,cell_of_row _ _ 2 _ _ _ h2⟩
 have HS:=am hS;clear hS;go_enter Tryz.func87,Tryz.ntmps87;go_wp2_with fail;refine wp_loop_rounds 4 ?_;rw[rounds_succ];go_wp2_with fail;refine st 7 (λw':World=>w'.cell? ⟨w.heap.size,0,none⟩=some (int i64 x0)/\w'.cell? ⟨w.heap.size,1,none⟩=some (int i64 x1)/\w'.cell? ⟨w.heap.size,2,none⟩=some (int i64 x2)/\w'.cell? ⟨w.heap.size+1,0,none⟩=some (int i64 y0)/\w'.cell? ⟨w.heap.size+1,1,none⟩=some (int i64 y1)/\w'.cell? ⟨w.heap.size+1,2,none⟩=some (int i64 y2)) [] zv.tab4 zv.bits4 HS.out λhHeld HT_ HW_=>?_;refine Et 0 10 1 11 HT_ ?_;refine tk 2 12 HT_ HW_ hHeld ?_;refine Et 3 13 4 14 HT_ ?_;refine tk 5 15 HT_ HW_ hHeld ?_;refine pz 6 16 HT_ ?_;refine Zh (Qe HT_.out (by kernel_rfl)) ?_;clear HT_ HW_ hHeld;go_wp2_with fail
 go_ret
 exact⟨rfl,bw HB⟩
theorem zv.n1 (x0 x1 x2 y0 y1 y2:Int) (w:World) (c0:(x0 !=y0)=false) (c1:(x1 !=y1)=true):
  Calls Tryz.prog 87 #[.agg #[int i64 x0,int i64 x1,int i64 x2],.agg #[int i64 y0,int i64 y1,int i64 y2]] w λe w'=>e=.returned (.bool false)/\Below w.heap.size w w':=by
 have HB:=Em w;have hS:(λw':World=>w'.cell? ⟨w.heap.size,0,none⟩=some (int i64 x0)/\w'.cell? ⟨w.heap.size,1,none⟩=some (int i64 x1)/\w'.cell? ⟨w.heap.size,2,none⟩=some (int i64 x2)/\w'.cell? ⟨w.heap.size+1,0,none⟩=some (int i64 y0)/\w'.cell? ⟨w.heap.size+1,1,none⟩=some (int i64 y1)/\w'.cell? ⟨w.heap.size+1,2,none⟩=some (int i64 y2)) ((w.alloc (.cells #[int i64 x0,int i64 x1,int i64 x2] 49)).alloc (.cells #[int i64 y0,int i64 y1,int i64 y2] 49)):=by
  have h1:=heap_alloc2_old w (.cells #[int i64 x0,int i64 x1,int i64 x2] 49) (.cells #[int i64 y0,int i64 y1,int i64 y2] 49);have h2:=heap_alloc2_new w (.cells #[int i64 x0,int i64 x1,int i64 x2] 49) (.cells #[int i64 y0,int i64 y1,int i64 y2] 49);exact⟨cell_of_row _ _ 0 _ _ _ h1,cell_of_row _ _ 1 _ _ _ h1,cell_of_row _ _ 2 _ _ _ h1,cell_of_row _ _ 0 _ _ _ h2,cell_of_row _ _ 1 _ _ _ h2,cell_of_row _ _ 2 _ _ _ h2⟩
 have HS:=am hS;clear hS;go_enter Tryz.func87,Tryz.ntmps87;go_wp2_with fail;refine wp_loop_rounds 4 ?_;rw[rounds_succ];go_wp2_with fail;refine st 7 (λw':World=>w'.cell? ⟨w.heap.size,0,none⟩=some (int i64 x0)/\w'.cell? ⟨w.heap.size,1,none⟩=some (int i64 x1)/\w'.cell? ⟨w.heap.size,2,none⟩=some (int i64 x2)/\w'.cell? ⟨w.heap.size+1,0,none⟩=some (int i64 y0)/\w'.cell? ⟨w.heap.size+1,1,none⟩=some (int i64 y1)/\w'.cell? ⟨w.heap.size+1,2,none⟩=some (int i64 y2)) [] zv.tab4 zv.bits4 HS.out λhHeld HT_ HW_=>?_;refine Et 0 10 1 11 HT_ ?_;refine tk 2 12 HT_ HW_ hHeld ?_;refine Et 3 13 4 14 HT_ ?_;refine tk 5 15 HT_ HW_ hHeld ?_;refine pz 6 16 HT_ ?_;refine Zh (Qe HT_.out (by kernel_rfl)) ?_;clear HT_ HW_ hHeld;go_wp2_with fail;rw[rounds_succ];go_wp2_with fail;refine st 7 (λw':World=>w'.cell? ⟨w.heap.size,0,none⟩=some (int i64 x0)/\w'.cell? ⟨w.heap.size,1,none⟩=some (int i64 x1)/\w'.cell? ⟨w.heap.size,2,none⟩=some (int i64 x2)/\w'.cell? ⟨w.heap.size+1,0,none⟩=some (int i64 y0)/\w'.cell? ⟨w.heap.size+1,1,none⟩=some (int i64 y1)/\w'.cell? ⟨w.heap.size+1,2,none⟩=some (int i64 y2)) [] zv.tab4 zv.bits4 HS.out λhHeld HT_ HW_=>?_;refine Et 0 10 1 11 HT_ ?_;refine tk 2 12 HT_ HW_ hHeld ?_;refine Et 3 13 4 14 HT_ ?_;refine tk 5 15 HT_ HW_ hHeld ?_;refine pz 6 16 HT_ ?_;refine Zh (Qe HT_.out (by kernel_rfl)) ?_;clear HT_ HW_ hHeld;go_wp2_with fail
 go_ret
 exact⟨rfl,bw HB⟩
theorem zv.n2 (x0 x1 x2 y0 y1 y2:Int) (w:World) (c0:(x0 !=y0)=false) (c1:(x1 !=y1)=false) (c2:(x2 !=y2)=true):
  Calls Tryz.prog 87 #[.agg #[int i64 x0,int i64 x1,int i64 x2],.agg #[int i64 y0,int i64 y1,int i64 y2]] w λe w'=>e=.returned (.bool false)/\Below w.heap.size w w':=by
 have HB:=Em w;have hS:(λw':World=>w'.cell? ⟨w.heap.size,0,none⟩=some (int i64 x0)/\w'.cell? ⟨w.heap.size,1,none⟩=some (int i64 x1)/\w'.cell? ⟨w.heap.size,2,none⟩=some (int i64 x2)/\w'.cell? ⟨w.heap.size+1,0,none⟩=some (int i64 y0)/\w'.cell? ⟨w.heap.size+1,1,none⟩=some (int i64 y1)/\w'.cell? ⟨w.heap.size+1,2,none⟩=some (int i64 y2)) ((w.alloc (.cells #[int i64 x0,int i64 x1,int i64 x2] 49)).alloc (.cells #[int i64 y0,int i64 y1,int i64 y2] 49)):=by
  have h1:=heap_alloc2_old w (.cells #[int i64 x0,int i64 x1,int i64 x2] 49) (.cells #[int i64 y0,int i64 y1,int i64 y2] 49);have h2:=heap_alloc2_new w (.cells #[int i64 x0,int i64 x1,int i64 x2] 49) (.cells #[int i64 y0,int i64 y1,int i64 y2] 49);exact⟨cell_of_row _ _ 0 _ _ _ h1,cell_of_row _ _ 1 _ _ _ h1,cell_of_row _ _ 2 _ _ _ h1,cell_of_row _ _ 0 _ _ _ h2,cell_of_row _ _ 1 _ _ _ h2,cell_of_row _ _ 2 _ _ _ h2⟩
 have HS:=am hS;clear hS;go_enter Tryz.func87,Tryz.ntmps87;go_wp2_with fail;refine wp_loop_rounds 4 ?_;rw[rounds_succ];go_wp2_with fail;refine st 7 (λw':World=>w'.cell? ⟨w.heap.size,0,none⟩=some (int i64 x0)/\w'.cell? ⟨w.heap.size,1,none⟩=some (int i64 x1)/\w'.cell? ⟨w.heap.size,2,none⟩=some (int i64 x2)/\w'.cell? ⟨w.heap.size+1,0,none⟩=some (int i64 y0)/\w'.cell? ⟨w.heap.size+1,1,none⟩=some (int i64 y1)/\w'.cell? ⟨w.heap.size+1,2,none⟩=some (int i64 y2)) [] zv.tab4 zv.bits4 HS.out λhHeld HT_ HW_=>?_;refine Et 0 10 1 11 HT_ ?_;refine tk 2 12 HT_ HW_ hHeld ?_;refine Et 3 13 4 14 HT_ ?_;refine tk 5 15 HT_ HW_ hHeld ?_;refine pz 6 16 HT_ ?_;refine Zh (Qe HT_.out (by kernel_rfl)) ?_;clear HT_ HW_ hHeld;go_wp2_with fail;rw[rounds_succ];go_wp2_with fail;refine st 7 (λw':World=>w'.cell? ⟨w.heap.size,0,none⟩=some (int i64 x0)/\w'.cell? ⟨w.heap.size,1,none⟩=some (int i64 x1)/\w'.cell? ⟨w.heap.size,2,none⟩=some (int i64 x2)/\w'.cell? ⟨w.heap.size+1,0,none⟩=some (int i64 y0)/\w'.cell? ⟨w.heap.size+1,1,none⟩=some (int i64 y1)/\w'.cell? ⟨w.heap.size+1,2,none⟩=some (int i64 y2)) [] zv.tab4 zv.bits4 HS.out λhHeld HT_ HW_=>?_;refine Et 0 10 1 11 HT_ ?_;refine tk 2 12 HT_ HW_ hHeld ?_;refine Et 3 13 4 14 HT_ ?_;refine tk 5 15 HT_ HW_ hHeld ?_;refine pz 6 16 HT_ ?_;refine Zh (Qe HT_.out (by kernel_rfl)) ?_;clear HT_ HW_ hHeld;go_wp2_with fail;rw[rounds_succ];go_wp2_with fail;refine st 7 (λw':World=>w'.cell? ⟨w.heap.size,0,none⟩=some (int i64 x0)/\w'.cell? ⟨w.heap.size,1,none⟩=some (int i64 x1)/\w'.cell? ⟨w.heap.size,2,none⟩=some (int i64 x2)/\w'.cell? ⟨w.heap.size+1,0,none⟩=some (int i64 y0)/\w'.cell? ⟨w.heap.size+1,1,none⟩=some (int i64 y1)/\w'.cell? ⟨w.heap.size+1,2,none⟩=some (int i64 y2)) [] zv.tab4 zv.bits4 HS.out λhHeld HT_ HW_=>?_;refine Et 0 10 1 11 HT_ ?_;refine tk 2 12 HT_ HW_ hHeld ?_;refine Et 3 13 4 14 HT_ ?_;refine tk 5 15 HT_ HW_ hHeld ?_;refine pz 6 16 HT_ ?_;refine Zh (Qe HT_.out (by kernel_rfl)) ?_;clear HT_ HW_ hHeld;go_wp2_with fail
 go_ret
 exact⟨rfl,bw HB⟩
theorem zv.yes (x0 x1 x2 y0 y1 y2:Int) (w:World) (c0:(x0 !=y0)=false) (c1:(x1 !=y1)=false) (c2:(x2 !=y2)=false):
  Calls Tryz.prog 87 #[.agg #[int i64 x0,int i64 x1,int i64 x2],.agg #[int i64 y0,int i64 y1,int i64 y2]] w λe w'=>e=.returned (.bool true)/\Below w.heap.size w w':=by
 have HB:=Em w;have hS:(λw':World=>w'.cell? ⟨w.heap.size,0,none⟩=some (int i64 x0)/\w'.cell? ⟨w.heap.size,1,none⟩=some (int i64 x1)/\w'.cell? ⟨w.heap.size,2,none⟩=some (int i64 x2)/\w'.cell? ⟨w.heap.size+1,0,none⟩=some (int i64 y0)/\w'.cell? ⟨w.heap.size+1,1,none⟩=some (int i64 y1)/\w'.cell? ⟨w.heap.size+1,2,none⟩=some (int i64 y2)) ((w.alloc (.cells #[int i64 x0,int i64 x1,int i64 x2] 49)).alloc (.cells #[int i64 y0,int i64 y1,int i64 y2] 49)):=by
  have h1:=heap_alloc2_old w (.cells #[int i64 x0,int i64 x1,int i64 x2] 49) (.cells #[int i64 y0,int i64 y1,int i64 y2] 49);have h2:=heap_alloc2_new w (.cells #[int i64 x0,int i64 x1,int i64 x2] 49) (.cells #[int i64 y0,int i64 y1,int i64 y2] 49);exact⟨cell_of_row _ _ 0 _ _ _ h1,cell_of_row _ _ 1 _ _ _ h1,cell_of_row _ _ 2 _ _ _ h1,cell_of_row _ _ 0 _ _ _ h2,cell_of_row _ _ 1 _ _ _ h2,cell_of_row _ _ 2 _ _ _ h2⟩
 have HS:=am hS;clear hS;go_enter Tryz.func87,Tryz.ntmps87;go_wp2_with fail;refine wp_loop_rounds 4 ?_;rw[rounds_succ];go_wp2_with fail;refine st 7 (λw':World=>w'.cell? ⟨w.heap.size,0,none⟩=some (int i64 x0)/\w'.cell? ⟨w.heap.size,1,none⟩=some (int i64 x1)/\w'.cell? ⟨w.heap.size,2,none⟩=some (int i64 x2)/\w'.cell? ⟨w.heap.size+1,0,none⟩=some (int i64 y0)/\w'.cell? ⟨w.heap.size+1,1,none⟩=some (int i64 y1)/\w'.cell? ⟨w.heap.size+1,2,none⟩=some (int i64 y2)) [] zv.tab4 zv.bits4 HS.out λhHeld HT_ HW_=>?_;refine Et 0 10 1 11 HT_ ?_;refine tk 2 12 HT_ HW_ hHeld ?_;refine Et 3 13 4 14 HT_ ?_;refine tk 5 15 HT_ HW_ hHeld ?_;refine pz 6 16 HT_ ?_;refine Zh (Qe HT_.out (by kernel_rfl)) ?_;clear HT_ HW_ hHeld;go_wp2_with fail;rw[rounds_succ];go_wp2_with fail;refine st 7 (λw':World=>w'.cell? ⟨w.heap.size,0,none⟩=some (int i64 x0)/\w'.cell? ⟨w.heap.size,1,none⟩=some (int i64 x1)/\w'.cell? ⟨w.heap.size,2,none⟩=some (int i64 x2)/\w'.cell? ⟨w.heap.size+1,0,none⟩=some (int i64 y0)/\w'.cell? ⟨w.heap.size+1,1,none⟩=some (int i64 y1)/\w'.cell? ⟨w.heap.size+1,2,none⟩=some (int i64 y2)) [] zv.tab4 zv.bits4 HS.out λhHeld HT_ HW_=>?_;refine Et 0 10 1 11 HT_ ?_;refine tk 2 12 HT_ HW_ hHeld ?_;refine Et 3 13 4 14 HT_ ?_;refine tk 5 15 HT_ HW_ hHeld ?_;refine pz 6 16 HT_ ?_;refine Zh (Qe HT_.out (by kernel_rfl)) ?_;clear HT_ HW_ hHeld;go_wp2_with fail;rw[rounds_succ];go_wp2_with fail;refine st 7 (λw':World=>w'.cell? ⟨w.heap.size,0,none⟩=some (int i64 x0)/\w'.cell? ⟨w.heap.size,1,none⟩=some (int i64 x1)/\w'.cell? ⟨w.heap.size,2,none⟩=some (int i64 x2)/\w'.cell? ⟨w.heap.size+1,0,none⟩=some (int i64 y0)/\w'.cell? ⟨w.heap.size+1,1,none⟩=some (int i64 y1)/\w'.cell? ⟨w.heap.size+1,2,none⟩=some (int i64 y2)) [] zv.tab4 zv.bits4 HS.out λhHeld HT_ HW_=>?_;refine Et 0 10 1 11 HT_ ?_;refine tk 2 12 HT_ HW_ hHeld ?_;refine Et 3 13 4 14 HT_ ?_;refine tk 5 15 HT_ HW_ hHeld ?_;refine pz 6 16 HT_ ?_;refine Zh (Qe HT_.out (by kernel_rfl)) ?_;clear HT_ HW_ hHeld;go_wp2_with fail;rw[rounds_succ];go_wp2_with fail
 go_ret
 exact⟨rfl,bw HB⟩
theorem zv.calls (a0_0 a0_1 a0_2 a1_0 a1_1 a1_2:Int) (r:Bool) (w:World) (h:zv.f a0_0 a0_1 a0_2 a1_0 a1_1 a1_2=some r):
  Calls Tryz.prog 87 #[.agg #[int i64 a0_0,int i64 a0_1,int i64 a0_2],.agg #[int i64 a1_0,int i64 a1_1,int i64 a1_2]] w λe w'=>e=.returned (.bool r)/\Below w.heap.size w w':=by
 unfold zv.f at h
 cases c0:(a0_0 !=a1_0) with
 | true=>rw[c0]at h;obtain rfl:=Option.some.inj h;exact zv.n0 _ _ _ _ _ _ w c0
 | false=>
  cases c1:(a0_1 !=a1_1) with
  | true=>rw[c0,c1]at h;obtain rfl:=Option.some.inj h;exact zv.n1 _ _ _ _ _ _ w c0 c1
  | false=>
   rw[c0,c1]at h
   cases c2:(a0_2 !=a1_2) with
   | true=>rw[c2]at h;obtain rfl:=Option.some.inj h;exact zv.n2 _ _ _ _ _ _ w c0 c1 c2
   | false=>rw[c2]at h;obtain rfl:=Option.some.inj h;exact zv.yes _ _ _ _ _ _ w c0 c1 c2
def qab.f (a0_0:Int) (a0_1:Int) (a0_2:Int) (a1_0:Int) (a1_1:Int) (a1_2:Int):Option (Bool):=(zv.f a0_0 a0_1 a0_2 a1_0 a1_1 a1_2).bind λt663=>(if t663=true then (some true) else (some false))
theorem qab.calls (a0_0:Int) (a0_1:Int) (a0_2:Int) (a1_0:Int) (a1_1:Int) (a1_2:Int) (r:Bool) (w:World) (h:qab.f a0_0 a0_1 a0_2 a1_0 a1_1 a1_2=some r):
  Calls Tryz.prog 37 #[.agg #[int i64 a0_0,int i64 a0_1,int i64 a0_2],.agg #[int i64 a1_0,int i64 a1_1,int i64 a1_2]] w λe w'=>e=.returned (.bool r)/\Below w.heap.size w w':=by
 have HB:=Em w;have H:=h;unfold qab.f at H;clear h;replace H:=bs H;obtain⟨t663,A3,H⟩:=H
 by_cases c4:t663=true
 ·subst c4
  rw[if_pos rfl]at H;obtain rfl:=Option.some.inj H;go_enter Tryz.func37,Tryz.ntmps37
  go_wp2_with (first|((with_reducible refine zd (N:=2) rfl ?_);refine xe_ 2 51 #[int i64 a0_0,int i64 a0_1,int i64 a0_2] ?_;intro gb661 hg w5 hbox hb;have BK661:=am (hbox);have GW661:=Ek HB hg;replace HB:=bq HB hb;clear hb hbox hg)|((with_reducible refine zd (N:=3) rfl ?_);refine xe_ 3 51 #[int i64 a1_0,int i64 a1_1,int i64 a1_2] ?_;intro gb662 hg w6 hbox hb;have BK662:=am (hbox);have GW662:=am ((by rw[hg];exact(zw (bx_ HB)):w.heap.size<=gb662));replace HB:=am (ze (bx_ HB) hb);have NB661_662:=Eh BK661 hg;have NB662_661:=Ei BK661 hg;replace BK661:=Ej BK661 hb;clear hb hbox hg;have hnb7:=NB661_662.out;have hnc7:=NB662_661.out;have hcz8_0:=En BK661.out;have hcz8_1:=Eo BK661.out;have hcz8_2:=Ep BK661.out;have hfz8_0:=ql BK661.out 0;have hfz8_1:=ql BK661.out 1;have hfz8_2:=ql BK661.out 2;have hcz9_0:=En BK662.out;have hcz9_1:=Eo BK662.out;have hcz9_2:=Ep BK662.out;have hfz9_0:=ql BK662.out 0;have hfz9_1:=ql BK662.out 1;have hfz9_2:=ql BK662.out 2)|((with_reducible refine za (f:=87) rfl ?_);refine gl 9 Tryz.func87 #[.agg #[int i64 a0_0,int i64 a0_1,int i64 a0_2],.agg #[int i64 a1_0,int i64 a1_1,int i64 a1_2]] ?_;(with_reducible refine(zv.calls a0_0 a0_1 a0_2 a1_0 a1_1 a1_2 true _ A3.out).mono ?_);rintro e w10 ⟨rfl,hb⟩;refine⟨_,rfl,?_⟩;replace BK661:=Ej BK661 hb;replace BK662:=Ej BK662 hb;replace HB:=am (ze (bx_ HB) hb);(try clear hb)))
  go_ret
  exact⟨fq,bx_ HB⟩
 ·replace c4:=Bool.eq_false_iff.mpr c4
  subst c4;rw[if_neg (show ¬ (false=true) by decide)]at H;obtain rfl:=Option.some.inj H;go_enter Tryz.func37,Tryz.ntmps37
  go_wp2_with (first|((with_reducible refine zd (N:=2) rfl ?_);refine xe_ 2 51 #[int i64 a0_0,int i64 a0_1,int i64 a0_2] ?_;intro gb661 hg w11 hbox hb;have BK661:=am (hbox);have GW661:=Ek HB hg;replace HB:=bq HB hb;clear hb hbox hg)|((with_reducible refine zd (N:=3) rfl ?_);refine xe_ 3 51 #[int i64 a1_0,int i64 a1_1,int i64 a1_2] ?_;intro gb662 hg w12 hbox hb;have BK662:=am (hbox);have GW662:=am ((by rw[hg];exact(zw (bx_ HB)):w.heap.size<=gb662));replace HB:=am (ze (bx_ HB) hb);have NB661_662:=Eh BK661 hg;have NB662_661:=Ei BK661 hg;replace BK661:=Ej BK661 hb;clear hb hbox hg;have hnb13:=NB661_662.out;have hnc13:=NB662_661.out;have hcz14_0:=En BK661.out;have hcz14_1:=Eo BK661.out;have hcz14_2:=Ep BK661.out;have hfz14_0:=ql BK661.out 0;have hfz14_1:=ql BK661.out 1;have hfz14_2:=ql BK661.out 2;have hcz15_0:=En BK662.out;have hcz15_1:=Eo BK662.out;have hcz15_2:=Ep BK662.out;have hfz15_0:=ql BK662.out 0;have hfz15_1:=ql BK662.out 1;have hfz15_2:=ql BK662.out 2)|((with_reducible refine za (f:=87) rfl ?_);refine gl 9 Tryz.func87 #[.agg #[int i64 a0_0,int i64 a0_1,int i64 a0_2],.agg #[int i64 a1_0,int i64 a1_1,int i64 a1_2]] ?_;(with_reducible refine(zv.calls a0_0 a0_1 a0_2 a1_0 a1_1 a1_2 false _ A3.out).mono ?_);rintro e w16 ⟨rfl,hb⟩;refine⟨_,rfl,?_⟩;replace HB:=am (ze (bx_ HB) hb);(try clear hb)))
  go_ret
  exact⟨fq,bx_ HB⟩
def zq.l0 :Nat->List (S51)->List (S51)->Int->Option (Bool)
 | 0,_,_,_=>none
 | k+1,x0,x1,x5=>if x5 < (x0.length:Int) then (if 0<=x5 then (if x5 < (x1.length:Int) then ((qab.f ((qg x0 x5).f0.f0) ((qg x0 x5).f0.f1) ((qg x0 x5).f0.f2) ((qg x1 x5).f0.f0) ((qg x1 x5).f0.f1) ((qg x1 x5).f0.f2)).bind λt666=>(if t666=true then (zq.l0 k x0 x1 (wrap64 (x5+1))) else (some false))) else (none)) else (none)) else (some true)
def zq.f (k:Nat) (l0:List (S51)) (l1:List (S51)):Option (Bool):=if (l0.length:Int)=(l1.length:Int) then (zq.l0 k l0 l1 0) else (some false)
theorem zq.Ag :∀ k,(∀ y0 y1 y2,LeO (zq.l0 k y0 y1 y2) (zq.l0 (k+1) y0 y1 y2))
 | 0=>λ_ _ _ r h=>by simp[zq.l0]at h
 | k+1=>by
  have ih0:=zq.Ag k
  ·intro y0 y1 y2
   unfold zq.l0
   repeat' with_reducible first|intro _|apply ih0|apply Eb|apply Ec|apply Ed|apply Ee
theorem zq.mono (a0 a1 k):LeO (zq.f k a0 a1) (zq.f (k+1) a0 a1):=by
 have ih0:=zq.Ag k;unfold zq.f
 repeat' with_reducible first|intro _|apply ih0|apply Eb|apply Ec|apply Ed|apply Ee
def zq.T6 :Bool×List (List Nat×List Nat):=(true,[([],[]),([],[]),([0,1],[0,1]),([2],[2]),([],[]),([],[]),([4,5],[4,5]),([6],[6]),([3,7],[3,7]),([8],[8])])
def zq.B6 :List Nat:=[0,0,3,7,0,0,48,112,255,511]
theorem zq.tab6 :rtab .any (Jc Tryz.f10 6)=zq.T6:=by kernel_rfl
theorem zq.bits6 :Ql zq.T6.2 zq.B6=true:=by kernel_rfl
theorem zq.calls (k:Nat) (A0:Option Addr) (c0:Nat) (l0:List (S51)) (A1:Option Addr) (c1:Nat) (l1:List (S51)) (r:Bool) (w:World) (hr0:Kd.C k51 w A0 l0.length l0) (hc0:l0.length<=c0) (hr1:Kd.C k51 w A1 l1.length l1) (hc1:l1.length<=c1) (h:zq.f k l0 l1=some r):
  Calls Tryz.prog 10 #[.slice A0 l0.length c0,.slice A1 l1.length c1] w λe w'=>e=.returned (.bool r)/\Below w.heap.size w w':=by
 have HR0:=am hr0;clear hr0 hc0;have HR1:=am hr1;clear hr1 hc1;have HB:=Em w;have H:=h;unfold zq.f at H;clear h
 by_cases c3:(l0.length:Int)=(l1.length:Int)
 ·rw [if_pos c3] at H
  have c3b0:=beq_iff_eq.mpr c3;have c3b1:=bne_eq_false_iff_eq.mpr c3;have c3b2:(l0.length == l1.length)=true:=by first|simpa using c3|(simp at c3 ⊢;omega)
  clear c3;have H':=am H;clear H;go_enter Tryz.func10,Tryz.ntmps10
  go_wp2
  go_loopg [5] k (λkq v5 w'=>∃ (x5_1:Int),v5=int i64 x5_1/\qf (zq.l0 kq l0 l1 x5_1=some r)/\qf (kq<=k)/\qf (Below w.heap.size w w'))
  case atStart=>exact⟨(0),fr,H',⟨Nat.le_refl _⟩,⟨bw HB⟩⟩
  case round=>
   clear H';try clear c1;try clear p2;try clear c3;try clear c3b0;try clear c3b1;try clear c3b2
   obtain⟨x5_1,rfl,HA,HK1,HB⟩:=hrel
   cases gk with
   | zero=>exact absurd HA.out (by simp[zq.l0])
   | succ k1=>
    have H:=HA.out;clear HA;simp only[zq.l0]at H;replace H:=Eg H;rcases H with ⟨c4b0,H⟩|⟨c4b0,H⟩
    ·replace H:=Ef H;obtain⟨c5b0,H⟩:=H;replace H:=Ef H;obtain⟨c6b0,H⟩:=H;replace H:=bs H;obtain⟨t666,A7,H⟩:=H
     by_cases c8:t666=true
     ·subst c8
      rw[if_pos rfl]at H;have H':=am H;clear H
      try go_wp2
      replace HB:=am (Qn HB.out);have p664:0<=(x5_1:Int):=od;have q664:x5_1 < (l0.length:Int):=od;obtain⟨ad664,e664,hx664_0,hx664_1,hx664_2⟩:=Zn HR0.out x5_1 p664 q664;have hw664_2:=hx664_2;have hw664_1:=hx664_1;have hw664_0:=hx664_0
      cases e664
      replace hx664_0:=wcl HB hx664_0;replace hx664_1:=wcl HB hx664_1;replace hx664_2:=wcl HB hx664_2;replace p664:=eq_true p664;replace q664:=eq_true q664;have p665:0<=(x5_1:Int):=od;have q665:x5_1 < (l1.length:Int):=od;obtain⟨ad665,e665,hx665_0,hx665_1,hx665_2⟩:=Zn HR1.out x5_1 p665 q665;have hw665_2:=hx665_2;have hw665_1:=hx665_1;have hw665_0:=hx665_0
      cases e665
      replace hx665_0:=wcl HB hx665_0;replace hx665_1:=wcl HB hx665_1;replace hx665_2:=wcl HB hx665_2;replace p665:=eq_true p665;replace q665:=eq_true q665;refine st 10 (λw'=>w'.cell? (ad664.add ((x5_1).toNat*3))=some (int i64 ((qg l0 x5_1).f0.f0))/\w'.cell? ⟨(ad664.add ((x5_1).toNat*3)).block,(ad664.add ((x5_1).toNat*3)).off+1,none⟩=some (int i64 ((qg l0 x5_1).f0.f1))/\w'.cell? ⟨(ad664.add ((x5_1).toNat*3)).block,(ad664.add ((x5_1).toNat*3)).off+2,none⟩=some (int i64 ((qg l0 x5_1).f0.f2))/\w'.cell? (ad665.add ((x5_1).toNat*3))=some (int i64 ((qg l1 x5_1).f0.f0))/\w'.cell? ⟨(ad665.add ((x5_1).toNat*3)).block,(ad665.add ((x5_1).toNat*3)).off+1,none⟩=some (int i64 ((qg l1 x5_1).f0.f1))/\w'.cell? ⟨(ad665.add ((x5_1).toNat*3)).block,(ad665.add ((x5_1).toNat*3)).off+2,none⟩=some (int i64 ((qg l1 x5_1).f0.f2))) [] zq.tab6 zq.bits6 (⟨(wcl HB hw664_0),(wcl HB hw664_1),(wcl HB hw664_2),(wcl HB hw665_0),(wcl HB hw665_1),(wcl HB hw665_2)⟩) λhHeld HT_ HW_=>?_;generalize wr.drew=w9 at HB hx664_0 hx664_1 hx664_2 hx665_0 hx665_1 hx665_2 hHeld ⊢;refine Et 0 17 1 18 HT_ ?_;refine Et 2 19 4 21 HT_ ?_;refine Et 5 22 6 23 HT_ ?_;refine tk 3 20 HT_ HW_ hHeld ?_;refine tk 7 24 HT_ HW_ hHeld ?_;refine on 8 (some 25) HT_ λK hK=>?_;refine gs_ Tryz.func37 #[.agg #[int i64 ((qg l0 x5_1).f0.f0),int i64 ((qg l0 x5_1).f0.f1),int i64 ((qg l0 x5_1).f0.f2)],.agg #[int i64 ((qg l1 x5_1).f0.f0),int i64 ((qg l1 x5_1).f0.f1),int i64 ((qg l1 x5_1).f0.f2)]] ?_
      with_reducible refine(qab.calls ((qg l0 x5_1).f0.f0) ((qg l0 x5_1).f0.f1) ((qg l0 x5_1).f0.f2) ((qg l1 x5_1).f0.f0) ((qg l1 x5_1).f0.f1) ((qg l1 x5_1).f0.f2) true _ A7.out).mono ?_
      rintro e w10 ⟨rfl,hb⟩;refine⟨_,rfl,?_⟩;replace HB:=bq HB hb
      (try clear hb)
      refine hK.out _ _ ⟨(wcl HB hw664_0),(wcl HB hw664_1),(wcl HB hw664_2),(wcl HB hw665_0),(wcl HB hw665_1),(wcl HB hw665_2)⟩ λhHeld=>nz ?_;clear hK K;refine pz 9 26 HT_ ?_;refine Zh (Qe HT_.out (by kernel_rfl)) ?_
      try go_wp2
      go_roundg k1
      case measure=>have:=HK1.out;omega
      case rel=>exact⟨(wrap64 (x5_1+1)),fr,H',⟨by have:=HK1.out;omega⟩,⟨bw HB⟩⟩
     ·replace c8:=Bool.eq_false_iff.mpr c8
      subst c8;rw[if_neg (show ¬ (false=true) by decide)]at H;obtain rfl:=Option.some.inj H
      try go_wp2
      replace HB:=am (Qn HB.out);have p664:0<=(x5_1:Int):=od;have q664:x5_1 < (l0.length:Int):=od;obtain⟨ad664,e664,hx664_0,hx664_1,hx664_2⟩:=Zn HR0.out x5_1 p664 q664;have hw664_2:=hx664_2;have hw664_1:=hx664_1;have hw664_0:=hx664_0
      cases e664
      replace hx664_0:=wcl HB hx664_0;replace hx664_1:=wcl HB hx664_1;replace hx664_2:=wcl HB hx664_2;replace p664:=eq_true p664;replace q664:=eq_true q664;have p665:0<=(x5_1:Int):=od;have q665:x5_1 < (l1.length:Int):=od;obtain⟨ad665,e665,hx665_0,hx665_1,hx665_2⟩:=Zn HR1.out x5_1 p665 q665;have hw665_2:=hx665_2;have hw665_1:=hx665_1;have hw665_0:=hx665_0
      cases e665
      replace hx665_0:=wcl HB hx665_0;replace hx665_1:=wcl HB hx665_1;replace hx665_2:=wcl HB hx665_2;replace p665:=eq_true p665;replace q665:=eq_true q665;refine st 10 (λw'=>w'.cell? (ad664.add ((x5_1).toNat*3))=some (int i64 ((qg l0 x5_1).f0.f0))/\w'.cell? ⟨(ad664.add ((x5_1).toNat*3)).block,(ad664.add ((x5_1).toNat*3)).off+1,none⟩=some (int i64 ((qg l0 x5_1).f0.f1))/\w'.cell? ⟨(ad664.add ((x5_1).toNat*3)).block,(ad664.add ((x5_1).toNat*3)).off+2,none⟩=some (int i64 ((qg l0 x5_1).f0.f2))/\w'.cell? (ad665.add ((x5_1).toNat*3))=some (int i64 ((qg l1 x5_1).f0.f0))/\w'.cell? ⟨(ad665.add ((x5_1).toNat*3)).block,(ad665.add ((x5_1).toNat*3)).off+1,none⟩=some (int i64 ((qg l1 x5_1).f0.f1))/\w'.cell? ⟨(ad665.add ((x5_1).toNat*3)).block,(ad665.add ((x5_1).toNat*3)).off+2,none⟩=some (int i64 ((qg l1 x5_1).f0.f2))) [] zq.tab6 zq.bits6 (⟨(wcl HB hw664_0),(wcl HB hw664_1),(wcl HB hw664_2),(wcl HB hw665_0),(wcl HB hw665_1),(wcl HB hw665_2)⟩) λhHeld HT_ HW_=>?_;generalize wr.drew=w11 at HB hx664_0 hx664_1 hx664_2 hx665_0 hx665_1 hx665_2 hHeld ⊢;refine Et 0 17 1 18 HT_ ?_;refine Et 2 19 4 21 HT_ ?_;refine Et 5 22 6 23 HT_ ?_;refine tk 3 20 HT_ HW_ hHeld ?_;refine tk 7 24 HT_ HW_ hHeld ?_;refine on 8 (some 25) HT_ λK hK=>?_;refine gs_ Tryz.func37 #[.agg #[int i64 ((qg l0 x5_1).f0.f0),int i64 ((qg l0 x5_1).f0.f1),int i64 ((qg l0 x5_1).f0.f2)],.agg #[int i64 ((qg l1 x5_1).f0.f0),int i64 ((qg l1 x5_1).f0.f1),int i64 ((qg l1 x5_1).f0.f2)]] ?_
      with_reducible refine(qab.calls ((qg l0 x5_1).f0.f0) ((qg l0 x5_1).f0.f1) ((qg l0 x5_1).f0.f2) ((qg l1 x5_1).f0.f0) ((qg l1 x5_1).f0.f1) ((qg l1 x5_1).f0.f2) false _ A7.out).mono ?_
      rintro e w12 ⟨rfl,hb⟩;refine⟨_,rfl,?_⟩;replace HB:=bq HB hb
      (try clear hb)
      refine hK.out _ _ ⟨(wcl HB hw664_0),(wcl HB hw664_1),(wcl HB hw664_2),(wcl HB hw665_0),(wcl HB hw665_1),(wcl HB hw665_2)⟩ λhHeld=>nz ?_;clear hK K;refine pz 9 26 HT_ ?_;refine Zh (Qe HT_.out (by kernel_rfl)) ?_
      try go_wp2
      go_ret
      exact⟨fq,bw HB⟩
    ·obtain rfl:=Option.some.inj H;go_wp2;go_ret
     exact⟨fq,bw HB⟩
 ·rw[if_neg c3]at H
  have c3b0:=beq_eq_false_iff_ne.mpr c3;have c3b1:=bne_iff_ne.mpr c3;have c3b2:(l0.length == l1.length)=false:=by first|simpa using c3|(simp at c3 ⊢;omega)
  obtain rfl:=Option.some.inj H;go_enter Tryz.func10,Tryz.ntmps10
  go_wp2;go_ret
  exact⟨fq,bw HB⟩
def mkP (a:Int) (n:Nat):List S51:=(List.range n).map λ(j:Nat)=>⟨⟨a+3*(j:Int),a+3*(j:Int)+1,a+3*(j:Int)+2⟩⟩
def Jm.f (l0:List S51) (a1:Int):Option (Int×List S51):=if l0.length<=1048576/\0<=a1/\a1<=1000000000 then some (a1+3*(l0.length:Int),mkP a1 l0.length) else none
theorem qt1 {w:World} {base g n cap:Nat} {ok:Nat->Prop} {xs:List S51} (h:Kd.R k51 51 w base ok (.slice (some ⟨g,0,none⟩) n cap) xs) (i:Nat) (hi:i < n) (x y z:Int) (hx:qg xs (i:Int)=⟨⟨x,y,z⟩⟩):∀ j u,([int i64 x,int i64 y,int i64 z]:List Value)[j]? =some u->w.cell? ⟨g,(i:Int).toNat*k51.sz+j,none⟩=some u:=by
 have hr:=Kd.Ac h;obtain⟨ad,e,x0,x1,x2⟩:=Zn hr.2.2 (i:Int) (by omega) (by omega);obtain rfl:=Option.some.inj e;rw[hx]at x0 x1 x2;have hz:k51.sz=3:=rfl;have ea:(⟨g,0,none⟩:Addr).add ((i:Int).toNat*3)=⟨g,i*3,none⟩:=by
  rw[Int.toNat_natCast];unfold Addr.add
  split
  ·next e=>rw[e]
  ·simp
 rw[ea]at x0 x1 x2;intro j u hj;rw[hz]
 match j,hj with
 | 0,hj=>obtain rfl:=Option.some.inj hj;exact x0
 | 1,hj=>obtain rfl:=Option.some.inj hj;exact x1
 | 2,hj=>obtain rfl:=Option.some.inj hj;exact x2
theorem qhj {W:World} {base g n cap:Nat} {ok:Nat->Prop} {xs:List S51} (h:Kd.R k51 51 W base ok (.slice (some ⟨g,0,none⟩) n cap) xs) (i:Nat) (hi:i < n) (x y z:Int) (hx:qg xs (i:Int)=⟨⟨x,y,z⟩⟩) (j:Nat) (v x' y' z':Int) (hj:j < 3) (he:([int i64 x,int i64 y,int i64 z]:List Value).take j++[int i64 v]++([int i64 x,int i64 y,int i64 z]:List Value).drop (j+1)=[int i64 x',int i64 y',int i64 z']):
  (Kd.R k51 51 (W.setCell ⟨g,i*3+j,none⟩ (int i64 v)) base ok (.slice (some ⟨g,0,none⟩) n cap) (xs.set i ⟨⟨x',y',z'⟩⟩)/\W.grownBy (W.setCell ⟨g,i*3+j,none⟩ (int i64 v)) (some g))/\W.cell? ⟨g,i*3+j,none⟩=([int i64 x,int i64 y,int i64 z]:List Value)[j]?/\W.frozen? ⟨g,i*3+j,none⟩=false:=by
 have hc:=qt1 h i hi x y z hx;have hz:k51.sz=3:=rfl;rw[Int.toNat_natCast,hz]at hc;refine⟨?_,?_,?_⟩
 ·have:=Kd.CV (okp:=λ_=>False) h (i:Int) (by omega) (by omega) (c:=[int i64 x,int i64 y,int i64 z]) (seg:=[int i64 v]) (j:=j) rfl (by rw[Int.toNat_natCast,hz];exact hc) (by show j+1<=3;omega) (x':=⟨⟨x',y',z'⟩⟩) (by show k51.M W base _ _ (List.take j _ ++[_]++List.drop (j+1) _);rw[he];exact qap _ _ _ _) (λ_ hk=>hk.elim)
  rw[Int.toNat_natCast,hz]at this;exact this
 ·rcases (show j=0\/j=1\/j=2 by omega) with rfl|rfl|rfl
  ·exact hc 0 _ rfl
  ·exact hc 1 _ rfl
  ·exact hc 2 _ rfl
 ·obtain⟨g2,c2,hv,_,_,cl,hg⟩:=Kd.Be h (by have:=(Kd.Ac h).1;omega)
  injection hv with ha
  injection ha with ha
  injection ha with ha
  subst ha;exact ql hg _
theorem qu7 {i d n:Nat} (h:i+(d+1)=n):n - (((i+1:Nat):Int)).toNat < n - ((i:Int)).toNat:=by omega
theorem Dg (xs:List S51) (i:Nat) (hi:i < xs.length) (x:S51):qg (xs.set i x) (i:Int)=x:=by simp[qg,List.getD_eq_getElem?_getD,hi]
theorem Jm.calls (P0_:Nat->Prop) (u9000_:Value) (l0:List S51) (a1:Int) (r1:Int) (r2:List S51) (w0 w:World) (hB:Below w0.heap.size w0 w) (ho0:Kd.R k51 51 w w0.heap.size P0_ u9000_ l0) (h:Jm.f l0 a1=some (r1,r2)):
  Calls Tryz.prog 11 #[u9000_,int i64 a1] w λe w'=>e=.returned (int i64 r1)/\Kd.R k51 51 w' w0.heap.size (λk_=>(P0_ k_\/w.heap.size<=k_)) u9000_ r2/\Below w0.heap.size w0 w'/\Kept w w' (λk_=>P0_ k_):=by
 have HO:=am (show Kd.R k51 51 w w0.heap.size (λk_=>(P0_ k_\/w.heap.size<=k_)) u9000_ l0 from Kd.Ae ho0 (λk_ hk=>(.inl hk)));have HK:=am (Kept.refl w (λk_=>P0_ k_));have HP0:=am (λk (hk:u9000_.ownBlock=some k)=>ho0.1 k hk);have HB:=am hB;unfold Jm.f at h
 split at h
 rotate_left
 ·exact absurd h (by simp)
 next hlen=>
 have HLEN:=am hlen;replace h:=Option.some.inj h;simp only[Prod.mk.injEq]at h;obtain⟨rfl,rfl⟩:=h;clear hB ho0 hlen;obtain⟨Ao,co,eo⟩:=Kd.Ah HO.out;have HEO:=am eo;subst eo;go_enter Tryz.func11,Tryz.ntmps11
 go_wp2
 go_loopw [1,5] (λv1 v5 w'=>∃ (d i:Nat) (xs:List S51),v1=int i64 (a1+3*(i:Int))/\v5=int i64 (i:Int)/\qf (i+d=l0.length)/\qf (xs=mkP a1 i++l0.drop i)/\qf (Kd.R k51 51 w' w0.heap.size (λk_=>(P0_ k_\/w.heap.size<=k_)) (.slice Ao l0.length co) xs)/\qf (Kept w w' (λk_=>P0_ k_))/\qf (Below w0.heap.size w0 w')) (λ_ v5 _=>l0.length - (intOf v5).toNat)
 case atStart=>exact⟨l0.length,0,l0,by simp,rfl,⟨by omega⟩,⟨by simp[mkP]⟩,⟨HO.out⟩,⟨HK.out⟩,⟨HB.out⟩⟩
 case round=>
  clear HO HK HB;obtain⟨d,i,xs,rfl,rfl,HD,HX,HO,HK,HB⟩:=hrel
  cases d with
  | zero=>
   have hi:i=l0.length:=by have:=HD.out;omega
   subst hi;have hlt:decide (l0.length < l0.length)=false:=decide_eq_false (by omega)
   go_wp2;go_ret
   refine⟨fq,?_,HB.out,HK.out⟩;have e:=HX.out;rw[List.drop_length,List.append_nil]at e;rw[<-e];exact HO.out
  | succ d=>
   have hlt:(i < l0.length)=True:=eq_true (by have:=HD.out;omega);have hl:xs.length=l0.length:=by rw[HX.out];simp[mkP];have:=HD.out;omega
   obtain⟨g,cap,hv,hbg,hgl,cl,hgc⟩:=Kd.Be HO.out (by have:=HD.out;omega);injection hv with ha hn hc
   subst ha;subst hc;have HBG:=am hbg;clear hn hgc cl hgl hbg;obtain⟨⟨⟨x,y,z⟩⟩,hX⟩:∃ X,qg xs (i:Int)=X:=⟨_,rfl⟩
   have e1:qg (xs.set i ⟨⟨a1+3*(i:Int),y,z⟩⟩) (i:Int)=⟨⟨a1+3*(i:Int),y,z⟩⟩:=Dg xs i (by have:=HD.out;omega) _;have e2:qg ((xs.set i ⟨⟨a1+3*(i:Int),y,z⟩⟩).set i ⟨⟨a1+3*(i:Int),a1+3*(i:Int)+1,z⟩⟩) (i:Int)=⟨⟨a1+3*(i:Int),a1+3*(i:Int)+1,z⟩⟩:=Dg _ i (by have:=HD.out;rw[List.length_set];omega) _;have E0:=am hX;have E1:=am e1;have E2:=am e2;clear hX e1 e2 hl;have p0:(0<=(i:Int))=True:=eq_true (by omega);have w1_:wrap64 (a1+3*(i:Int)+1)=a1+3*(i:Int)+1:=by have:=HLEN.out;have:=HD.out;unfold wrap64;omega
   have w2_:wrap64 (a1+3*(i:Int)+1+1)=a1+3*(i:Int)+2:=by have:=HLEN.out;have:=HD.out;unfold wrap64;omega
   have w3_:wrap64 (a1+3*(i:Int)+2+1)=a1+3*(i:Int)+3:=by have:=HLEN.out;have:=HD.out;unfold wrap64;omega
   have w4_:wrap64 ((i:Int)+1)=((i+1:Nat):Int):=by have:=HLEN.out;have:=HD.out;unfold wrap64;omega
   obtain⟨⟨r0,hg0⟩,hc0,hf0⟩:=qhj HO.out i (by have:=HD.out;omega) x y z E0.out 0 (a1+3*(i:Int)) (a1+3*(i:Int)) y z (by omega) rfl;rw[Nat.add_zero]at r0 hg0 hc0 hf0;have HO1:=am r0;have HK1:=am (Kept.Bp (S:=(λk_=>P0_ k_)) hg0 HK.out (λk_ e_=>(HO.out.1 k_ e_)));have HB1:=am (Za HB.out HBG.out (j:=i*3) (v:=int i64 (a1+3*(i:Int))));clear r0 hg0;obtain⟨⟨r1,hg1⟩,hc1,hf1⟩:=qhj HO1.out i (by have:=HD.out;omega) (a1+3*(i:Int)) y z E1.out 1 (a1+3*(i:Int)+1) (a1+3*(i:Int)) (a1+3*(i:Int)+1) z (by omega) rfl;have HO2:=am r1;have HK2:=am (Kept.Bp (S:=(λk_=>P0_ k_)) hg1 HK1.out (λk_ e_=>(HO1.out.1 k_ e_)));have HB2:=am (Za HB1.out HBG.out (j:=i*3+1) (v:=int i64 (a1+3*(i:Int)+1)));clear r1 hg1;obtain⟨⟨r2,hg2⟩,hc2,hf2⟩:=qhj HO2.out i (by have:=HD.out;omega) (a1+3*(i:Int)) (a1+3*(i:Int)+1) z E2.out 2 (a1+3*(i:Int)+2) (a1+3*(i:Int)) (a1+3*(i:Int)+1) (a1+3*(i:Int)+2) (by omega) rfl;have HO3:=am r2;have HK3:=am (Kept.Bp (S:=(λk_=>P0_ k_)) hg2 HK2.out (λk_ e_=>(HO2.out.1 k_ e_)));have HB3:=am (Za HB2.out HBG.out (j:=i*3+2) (v:=int i64 (a1+3*(i:Int)+2)));clear r2 hg2;replace hc0:wr.cell? ⟨g,i*3,none⟩=some (int i64 x):=hc0;replace hf0:wr.frozen? ⟨g,i*3,none⟩=false:=hf0;replace hc1:(wr.setCell ⟨g,i*3,none⟩ (int i64 (a1+3*(i:Int)))).cell? ⟨g,i*3+1,none⟩=some (int i64 y):=hc1;replace hf1:(wr.setCell ⟨g,i*3,none⟩ (int i64 (a1+3*(i:Int)))).frozen? ⟨g,i*3+1,none⟩=false:=hf1;replace hc2:((wr.setCell ⟨g,i*3,none⟩ (int i64 (a1+3*(i:Int)))).setCell ⟨g,i*3+1,none⟩ (int i64 (a1+3*(i:Int)+1))).cell? ⟨g,i*3+2,none⟩=some (int i64 z):=hc2;replace hf2:((wr.setCell ⟨g,i*3,none⟩ (int i64 (a1+3*(i:Int)))).setCell ⟨g,i*3+1,none⟩ (int i64 (a1+3*(i:Int)+1))).frozen? ⟨g,i*3+2,none⟩=false:=hf2
   go_wp2
   refine wp_loop_rounds 4 ?_;rw[rounds_succ]
   go_wp2
   rw[rounds_succ]
   go_wp2
   rw[rounds_succ]
   go_wp2
   rw[rounds_succ]
   go_wp2
   refine⟨⟨d,i+1,_,by rw[w3_];congr 1;omega,by rw[w4_],⟨by have:=HD.out;omega⟩,?_,HO3,HK3,HB3⟩,?_⟩
   ·refine⟨?_⟩
    rw[List.set_set,List.set_set,HX.out,List.drop_eq_getElem_cons (by have:=HD.out;omega),List.set_append_right _ _ (by simp[mkP]),show i - (mkP a1 i).length=0 by simp[mkP],List.set_cons_zero]
    simp[mkP,List.range_succ]
   ·rw[w4_]
    exact qu7 HD.out
def j0.l0 :Nat->List Int->Int->Int->Option (Int×List Int)
 | 0,_,_,_=>none
 | k+1,x0,x1,x5=>if x5 < (x0.length:Int) then (if 0<=x5 then (j0.l0 k (x0.set (x5:Int).toNat x1) (wrap64 (x1+1)) (wrap64 (x5+1))) else (none)) else (some (x1,x0))
def j0.f (k:Nat) (l0:List Int) (a1:Int):Option (Int×List Int):=j0.l0 k l0 a1 0
theorem j0.Ag :∀ k,(∀ y0 y1 y2,LeO (j0.l0 k y0 y1 y2) (j0.l0 (k+1) y0 y1 y2))
 | 0=>λ_ _ _ r h=>by simp[j0.l0]at h
 | k+1=>by
  have ih0:=j0.Ag k
  ·intro y0 y1 y2
   unfold j0.l0
   repeat' with_reducible first|intro _|apply ih0|apply Eb|apply Ec|apply Ed|apply Ee
theorem j0.mono (a0 a1 k):LeO (j0.f k a0 a1) (j0.f (k+1) a0 a1):=by
 have ih0:=j0.Ag k;unfold j0.f
 repeat' with_reducible first|intro _|apply ih0|apply Eb|apply Ec|apply Ed|apply Ee
theorem j0.calls (k:Nat) (P0_:Nat->Prop) (u9000_:Value) (l0:List Int) (a1:Int) (r1:Int) (r2:List Int) (w0 w:World) (hB:Below w0.heap.size w0 w) (ho0:Kd.R (Kd.int i64) 3 w w0.heap.size P0_ u9000_ l0) (h:j0.f k l0 a1=some (r1,r2)):
  Calls Tryz.prog 38 #[u9000_,int i64 a1] w λe w'=>e=.returned (int i64 r1)/\Kd.R (Kd.int i64) 3 w' w0.heap.size (λk_=>(P0_ k_\/w.heap.size<=k_)) u9000_ r2/\Below w0.heap.size w0 w'/\Kept w w' (λk_=>P0_ k_):=by
 have HO0:=am (show Kd.R (Kd.int i64) 3 w w0.heap.size (λk_=>(P0_ k_\/w.heap.size<=k_)) u9000_ l0 from Kd.Ae ho0 (λk_ hk=>(.inl hk)));have HK:=am (Kept.refl w (λk_=>P0_ k_));have HW0:=am hB.size;have HB:=am hB;clear hB;have H:=h;unfold j0.f at H;clear h;have H':=am H;clear H;go_enter Tryz.func38,Tryz.ntmps38
 go_wp2
 go_loopg [1,5] k (λkq v1 v5 w'=>∃ (x0_1:List Int) (x1_1:Int) (x5_1:Int),v1=int i64 x1_1/\v5=int i64 x5_1/\qf (j0.l0 kq x0_1 x1_1 x5_1=some (r1,r2))/\qf (kq<=k)/\qf (Kd.R (Kd.int i64) 3 w' w0.heap.size (λk_=>(P0_ k_\/w.heap.size<=k_)) u9000_ x0_1)/\qf (Kept w w' (λk_=>P0_ k_))/\qf (Below w0.heap.size w0 w'))
 case atStart=>exact⟨(l0),(a1),(0),fr,fr,H',⟨Nat.le_refl _⟩,⟨wR HO0⟩,⟨by repeat (first|(with_reducible first|exact HK.out|apply Kept.alloc|apply Kept.drewN|apply Kept.drew)|exact HK.out)⟩,⟨bw HB⟩⟩
 case round=>
  clear H';try clear p2
  obtain⟨x0_1,x1_1,x5_1,rfl,rfl,HA,HK1,HO_0,HK,HB⟩:=hrel
  cases gk with
  | zero=>exact absurd HA.out (by simp[j0.l0])
  | succ k1=>
   have H:=HA.out;clear HA;simp only[j0.l0]at H
   by_cases c3:x5_1 < (x0_1.length:Int)
   ·rw[if_pos c3]at H
    have c3b0:=decide_eq_true c3;clear c3;replace H:=Ef H;obtain⟨c4b0,H⟩:=H;generalize hy667:(x0_1.set (x5_1:Int).toNat x1_1:List Int)=y667 at H;have Ny667:=am hy667.symm;clear hy667;have H':=am H;clear H;obtain⟨Ao6,co6,eo6⟩:=Kd.Ah HO_0.out;subst eo6;have p5:0<=(x5_1:Int):=od;have q5:(x5_1:Int) < ((x0_1.length:Int):Int):=od;obtain⟨go5,co5,eo5,gb5,gl5,cl5,HG5⟩:=Kd.Be HO_0.out (by omega)
    (first|cases eo5|(injection eo5 with ea_ en_ ec_;(first|subst ea_|(injection ea_ with ea_;subst ea_));subst ec_;clear en_))
    have GB5:=am gb5;have GG5:=am HG5;clear gb5 gl5 HG5;have HMgo5:=am (show (P0_ go5\/w.heap.size<=go5) from (HO_0.out.1 _ rfl));obtain⟨hx5_0,hf5_0⟩:=Kd.Bt 0 HO_0.out (x5_1:Int) p5 q5;replace p5:=eq_true p5;replace q5:=eq_true q5;have HP7:=Kd.Cy HO_0.out (x5_1:Int) x1_1
    go_wp2_with (first|((with_reducible refine qh1 (t:=3) (p:=15) rfl ?_);refine qgq (t:=3) (p:=15) (v:=?vo_w8) (w1:=(wr.setCell ⟨go5,(x5_1:Int).toNat,none⟩ (int i64 x1_1))) ?hg ?ho ?hn ?hr ?_;(case ho=>rfl);(case hg=>rfl);(case hn=>rfl);(case hr=>first|(go_simp;done)|(go_simp;rfl));intro w8 hw;have hg:wr.grownBy w8 (some go5):=(by rw[hw];exact HP7.2);have hp_:Kd.R (Kd.int i64) 3 w8 w0.heap.size (λk_=>(P0_ k_\/w.heap.size<=k_)) (.slice (some ⟨go5,0,none⟩) x0_1.length co6) y667:=(by rw[hw,Ny667.out];exact HP7.1);clear HP7;replace HB:=am ((by rw[hw];exact Za (HB.out) GB5.out:Below w0.heap.size w0 w8));replace HK:=am (Kept.Bp (S:=(λk_=>P0_ k_)) hg (by repeat (first|(with_reducible first|exact HK.out|apply Kept.alloc|apply Kept.drewN|apply Kept.drew)|exact HK.out)) (λk_ e_=>(HO_0.out.1 k_ e_)));replace HO_0:=am (hp_);clear hg hw hp_))
    go_roundg k1
    case measure=>have:=HK1.out;omega
    case rel=>exact⟨(y667),(wrap64 (x1_1+1)),(wrap64 (x5_1+1)),fr,fr,H',⟨by have:=HK1.out;omega⟩,⟨wR HO_0⟩,⟨by repeat (first|(with_reducible first|exact HK.out|apply Kept.alloc|apply Kept.drewN|apply Kept.drew)|exact HK.out)⟩,⟨bw HB⟩⟩
   ·rw[if_neg c3]at H
    have c3b0:=decide_eq_false c3;clear c3;simp only[Option.some.injEq,Prod.mk.injEq]at H;obtain⟨rfl,rfl⟩:=H;obtain⟨Ao9,co9,eo9⟩:=Kd.Ah HO_0.out;subst eo9;go_wp2;go_ret
    exact⟨fq,wR HO_0,bw HB,by repeat (first|(with_reducible first|exact HK.out|apply Kept.alloc|apply Kept.drewN|apply Kept.drew)|exact HK.out)⟩
def mkSS (k:Nat) (l:List (List Int)):Nat->Nat->Int->Option (Int×List (List Int))
 | 0,_,a=>some (a,l)
 | d+1,i,a=>(j0.f k (l.getD i []) a).bind λt=>mkSS k (l.set i t.2) d (i+1) t.1
termination_by d=>d
def Zx.f (k:Nat) (l0:List (List Int)) (a1:Int):Option (Int×List (List Int)):=mkSS k l0 l0.length 0 a1
theorem qjz (k:Nat):∀ (d:Nat) (l:List (List Int)) (i:Nat) (a:Int),LeO (mkSS k l d i a) (mkSS (k+1) l d i a)
 | 0,_,_,_=>by rw[mkSS,mkSS];exact LeO.refl _
 | d+1,l,i,a=>by rw[mkSS,mkSS];exact LeO.bind (j0.mono _ _ _) λ_=>qjz k d _ _ _
theorem Zx.mono :∀ a0 a1 k,LeO (Zx.f k a0 a1) (Zx.f (k+1) a0 a1):=λ_ _ k=>qjz k _ _ _ _
theorem Zx.calls (k:Nat) (P0_:Nat->Prop) (u9000_:Value) (l0:List (List Int)) (a1:Int) (r1:Int) (r2:List (List Int)) (w0 w:World) (hB:Below w0.heap.size w0 w) (ho0:Kd.S KI 37 w w0.heap.size P0_ u9000_ l0) (h:Zx.f k l0 a1=some (r1,r2)):
  Calls Tryz.prog 12 #[u9000_,int i64 a1] w λe w'=>e=.returned (int i64 r1)/\Kd.S KI 37 w' w0.heap.size (λk_=>(P0_ k_\/w.heap.size<=k_)) u9000_ r2/\Below w0.heap.size w0 w'/\Kept w w' (λk_=>P0_ k_):=by
 have HO:=am (show Kd.S KI 37 w w0.heap.size (λk_=>(P0_ k_\/w.heap.size<=k_)) u9000_ l0 from Kd.At ho0 (λk_ hk=>(.inl hk)));have HK:=am (Kept.refl w (λk_=>P0_ k_));have HB:=am hB;have HF:=am (show mkSS k l0 l0.length 0 a1=some (r1,r2) from h);obtain⟨A9,c9,e9⟩:=Kd.AJ ho0;have hmx:l0.length<=9223372036854775807:=by
  subst e9;exact(Kd.Al ho0).2.2.2.1
 have HMX:=am hmx;have HE9:=am e9;clear hB ho0 h hmx;go_enter Tryz.func12,Tryz.ntmps12
 go_wp2
 go_loopw [1,5] (λv1 v5 w'=>∃ (d i:Nat) (l:List (List Int)) (a:Int),v1=int i64 a/\v5=int i64 (i:Int)/\qf (i+d=l0.length)/\qf (l.length=l0.length)/\qf (mkSS k l d i a=some (r1,r2))/\qf (Kd.S KI 37 w' w0.heap.size (λk_=>(P0_ k_\/w.heap.size<=k_)) u9000_ l)/\qf (Kept w w' (λk_=>P0_ k_))/\qf (Below w0.heap.size w0 w')) (λ_ v5 _=>l0.length - (intOf v5).toNat)
 case atStart=>exact⟨l0.length,0,l0,a1,rfl,rfl,⟨by omega⟩,⟨rfl⟩,HF,⟨HO.out⟩,⟨HK.out⟩,⟨HB.out⟩⟩
 case round=>
  clear HF HO HK HB;obtain⟨d,i,l,a,rfl,rfl,HD,HL,HF,HO,HK,HB⟩:=hrel;have e9:=HE9.out;subst e9
  cases d with
  | zero=>
   have hl:decide ((i:Int) < (l0.length:Int))=false:=decide_eq_false (by have:=HD.out;omega);have nl:(i < l0.length)=False:=eq_false (by have:=HD.out;omega);have hf:=HF.out;rw[mkSS]at hf;obtain⟨rfl,rfl⟩:a=r1/\l=r2:=by simpa using hf
   clear hf;go_wp2;go_ret
   exact⟨fq,HO.out,HB.out,HK.out⟩
  | succ d=>
   have hl:decide ((i:Int) < (l0.length:Int))=true:=decide_eq_true (by have:=HD.out;omega);have nl:(i < l0.length)=True:=eq_true (by have:=HD.out;omega);have pi:(0<=(i:Int))=True:=eq_true (by omega);have hf:=HF.out;rw[mkSS]at hf;obtain⟨⟨a',row⟩,hm,hf⟩:=Option.bind_eq_some_iff.1 hf;have HM:=am hm;have HF':=am hf;clear hf hm HF;obtain⟨g,cap,hv,_,_,_⟩:=Kd.C5 HO.out (by have:=HD.out;have:=HL.out;omega);injection hv with ha hn hc
   subst ha hc;obtain⟨oki,c,hcl,hM,hcc,_,hoki,hH⟩:=Kd.DO HO.out ([]:List Int) (i:Int) (by omega) (by have:=HD.out;omega);obtain⟨v,rfl,hR⟩:=hM;have hx:wr.cell? ⟨g,i,none⟩=some v:=by
    have:=hcc 0 v rfl
    simpa [KI,Kd.slice] using this
   have HR:=am hR;have HH:=am hH;have HOK:=am hoki;have hw1:wrap64 ((i:Int)+1)=((i+1:Nat):Int):=by have:=HD.out;have:=HMX.out;unfold wrap64;omega
   have HW1:=am hw1;clear hcl hcc hoki hH hR hw1 hn;go_wp2_with fail;rw[Int.toNat_natCast]at HR;refine(j0.calls k oki v (l.getD i []) a a' row w0 _ HB.out HR.out HM.out).mono ?_;rintro e w2 ⟨rfl,hR2,hB2,hK2⟩;have HB2:=am hB2;have HK2:=am (Kept.then_ HK.out hK2 (λk_ hk=>(HOK.out k_ hk).1));have HO2:=am (show Kd.S KI 37 w2 w0.heap.size (λk_=>(P0_ k_\/w.heap.size<=k_)) (.slice (some ⟨g,0,none⟩) l0.length c9) (l.set i row) from by
    have h1:=Kd.Dq HH.out hK2 (λk_ _ hn=>hn);have h2:=Kd.Ds (x':=row) (okp:=λk=>some k=v.ownBlock) h1 ⟨v,rfl,Kd.AO rfl hR2⟩ (λk_ hk=>HR.out.1 k_ hk.symm);rwa [Int.toNat_natCast]at h2)
   clear hR2 hB2 hK2 HH HR HOK HO HK HB;go_wp2_with fail
   go_roundw
   case measure=>rw[HW1.out];simp only[intOf];have:=HD.out;omega
   case rel=>exact⟨d,i+1,l.set i row,a',rfl,by rw[HW1.out],⟨by have:=HD.out;omega⟩,⟨by rw[List.length_set];exact HL.out⟩,HF',⟨HO2.out⟩,⟨HK2.out⟩,⟨HB2.out⟩⟩
def jg.l0 :Nat->List Int->Int->Int->Option (Int)
 | 0,_,_,_=>none
 | k+1,x0,x1,x5=>if x5 < (x0.length:Int) then (if 0<=x5 then (if (rd x0 x5)=x1 then (jg.l0 k x0 (wrap64 (x1+1)) (wrap64 (x5+1))) else (some (-1))) else (none)) else (some x1)
def jg.f (k:Nat) (l0:List Int) (a1:Int):Option (Int):=jg.l0 k l0 a1 0
theorem jg.Ag :∀ k,(∀ y0 y1 y2,LeO (jg.l0 k y0 y1 y2) (jg.l0 (k+1) y0 y1 y2))
 | 0=>λ_ _ _ r h=>by simp[jg.l0]at h
 | k+1=>by
  have ih0:=jg.Ag k
  ·intro y0 y1 y2
   unfold jg.l0
   repeat' with_reducible first|intro _|apply ih0|apply Eb|apply Ec|apply Ed|apply Ee
theorem jg.mono (a0 a1 k):LeO (jg.f k a0 a1) (jg.f (k+1) a0 a1):=by
 have ih0:=jg.Ag k;unfold jg.f
 repeat' with_reducible first|intro _|apply ih0|apply Eb|apply Ec|apply Ed|apply Ee
theorem jg.calls (k:Nat) (A0:Option Addr) (c0:Nat) (l0:List Int) (a1:Int) (r:Int) (w:World) (hr0:Kd.C (Kd.int i64) w A0 l0.length l0) (hc0:l0.length<=c0) (h:jg.f k l0 a1=some r):
  Calls Tryz.prog 39 #[.slice A0 l0.length c0,int i64 a1] w λe w'=>e=.returned (int i64 r)/\Drawn0 w w':=by
 have HR0:=am hr0;clear hr0 hc0;have H:=h;unfold jg.f at H;clear h;have H':=am H;clear H;go_enter Tryz.func39,Tryz.ntmps39
 go_wp2
 go_loopg [1,5] k (λkq v1 v5 w'=>∃ (x1_1:Int) (x5_1:Int),v1=int i64 x1_1/\v5=int i64 x5_1/\qf (jg.l0 kq l0 x1_1 x5_1=some r)/\qf (kq<=k)/\Drawn0 w w')
 case atStart=>exact⟨(a1),(0),fr,fr,H',⟨Nat.le_refl _⟩,df⟩
 case round=>
  clear H';try clear p2
  obtain⟨x1_1,x5_1,rfl,rfl,HA,HK1,⟨m1,rfl⟩⟩:=hrel
  cases gk with
  | zero=>exact absurd HA.out (by simp[jg.l0])
  | succ k1=>
   have H:=HA.out;clear HA;simp only[jg.l0]at H;replace H:=Eg H;rcases H with ⟨c3b0,H⟩|⟨c3b0,H⟩
   ·replace H:=Ef H;obtain⟨c4b0,H⟩:=H
    by_cases c5:(rd l0 x5_1)=x1_1
    ·rw[if_pos c5]at H
     have c5b0:=beq_iff_eq.mpr c5;have c5b1:=bne_eq_false_iff_eq.mpr c5;clear c5;have H':=am H;clear H;obtain⟨ad668,e668,hx668_0,p668,q668⟩:=Es HR0.out x5_1 od od;cases e668;go_wp2
     go_roundg k1
     case measure=>have:=HK1.out;omega
     case rel=>exact⟨(wrap64 (x1_1+1)),(wrap64 (x5_1+1)),fr,fr,H',⟨by have:=HK1.out;omega⟩,df⟩
    ·rw[if_neg c5]at H
     have c5b0:=beq_eq_false_iff_ne.mpr c5;have c5b1:=bne_iff_ne.mpr c5;obtain rfl:=Option.some.inj H;obtain⟨ad668,e668,hx668_0,p668,q668⟩:=Es HR0.out x5_1 od od;cases e668;go_wp2;go_ret
     exact⟨fr,df⟩
   ·obtain rfl:=Option.some.inj H;go_wp2;go_ret
    exact⟨fr,df⟩
def jm.l0 :Nat->List (List Int)->Int->Int->Option (Int)
 | 0,_,_,_=>none
 | k+1,x0,x1,x5=>if x5 < (x0.length:Int) then (if 0<=x5 then ((jg.f k (zt x0 x5) x1).bind λt670=>(if t670 < 0 then (some (-1)) else (jm.l0 k x0 t670 (wrap64 (x5+1))))) else (none)) else (some x1)
def jm.f (k:Nat) (l0:List (List Int)) (a1:Int):Option (Int):=jm.l0 k l0 a1 0
theorem jm.Ag :∀ k,(∀ y0 y1 y2,LeO (jm.l0 k y0 y1 y2) (jm.l0 (k+1) y0 y1 y2))
 | 0=>λ_ _ _ r h=>by simp[jm.l0]at h
 | k+1=>by
  have ih0:=jm.Ag k
  ·intro y0 y1 y2
   unfold jm.l0
   repeat' with_reducible first|intro _|apply ih0|apply jg.mono|apply Eb|apply Ec|apply Ed|apply Ee
theorem jm.mono (a0 a1 k):LeO (jm.f k a0 a1) (jm.f (k+1) a0 a1):=by
 have ih0:=jm.Ag k;unfold jm.f
 repeat' with_reducible first|intro _|apply ih0|apply jg.mono|apply Eb|apply Ec|apply Ed|apply Ee
theorem jm.calls (k:Nat) (A0:Option Addr) (c0:Nat) (l0:List (List Int)) (a1:Int) (r:Int) (w:World) (hr0:Kd.C KI w A0 l0.length l0) (hc0:l0.length<=c0) (h:jm.f k l0 a1=some r):
  Calls Tryz.prog 13 #[.slice A0 l0.length c0,int i64 a1] w λe w'=>e=.returned (int i64 r)/\Drawn0 w w':=by
 have HR0:=am hr0;clear hr0 hc0;have H:=h;unfold jm.f at H;clear h;have H':=am H;clear H;go_enter Tryz.func13,Tryz.ntmps13
 go_wp2
 go_loopg [1,5] k (λkq v1 v5 w'=>∃ (x1_1:Int) (x5_1:Int),v1=int i64 x1_1/\v5=int i64 x5_1/\qf (jm.l0 kq l0 x1_1 x5_1=some r)/\qf (kq<=k)/\Drawn0 w w')
 case atStart=>exact⟨(a1),(0),fr,fr,H',⟨Nat.le_refl _⟩,df⟩
 case round=>
  clear H';try clear c1;try clear p2
  obtain⟨x1_1,x5_1,rfl,rfl,HA,HK1,⟨m1,rfl⟩⟩:=hrel
  cases gk with
  | zero=>exact absurd HA.out (by simp[jm.l0])
  | succ k1=>
   have H:=HA.out;clear HA;simp only[jm.l0]at H;replace H:=Eg H;rcases H with ⟨c3b0,H⟩|⟨c3b0,H⟩
   ·replace H:=Ef H;obtain⟨c4b0,H⟩:=H;replace H:=bs H;obtain⟨t670,A5,H⟩:=H
    replace H:=Eg H;rcases H with ⟨c6b0,H⟩|⟨c6b0,H⟩
    ·obtain rfl:=Option.some.inj H
     have p669:0<=(x5_1:Int):=od;have q669:x5_1 < (l0.length:Int):=od;obtain⟨ad669,A669_0,c669_0,e669,hx669_0,hl669_0,hi669_0⟩:=qat HR0.out x5_1 p669 q669
     cases e669
     have HR669_0:=am hi669_0;have HC669_0:=am hl669_0;clear hi669_0 hl669_0;replace p669:=eq_true p669;replace q669:=eq_true q669
     go_wp2_with (first|((with_reducible refine za (f:=39) rfl ?_);refine gl 17 Tryz.func39 #[.slice A669_0 (zt l0 x5_1).length c669_0,int i64 x1_1] ?_;(with_reducible refine(jg.calls k1 _ _ (zt l0 x5_1) x1_1 t670 _ ?_ ?_ A5.out).mono ?_);exact wC HR669_0;exact HC669_0.out;rintro e w' ⟨rfl,⟨nd,rfl⟩⟩;refine⟨_,rfl,?_⟩))
     go_ret
     exact⟨fr,df⟩
    ·have H':=am H;clear H
     have p669:0<=(x5_1:Int):=od;have q669:x5_1 < (l0.length:Int):=od;obtain⟨ad669,A669_0,c669_0,e669,hx669_0,hl669_0,hi669_0⟩:=qat HR0.out x5_1 p669 q669
     cases e669
     have HR669_0:=am hi669_0;have HC669_0:=am hl669_0;clear hi669_0 hl669_0;replace p669:=eq_true p669;replace q669:=eq_true q669
     go_wp2_with (first|((with_reducible refine za (f:=39) rfl ?_);refine gl 17 Tryz.func39 #[.slice A669_0 (zt l0 x5_1).length c669_0,int i64 x1_1] ?_;(with_reducible refine(jg.calls k1 _ _ (zt l0 x5_1) x1_1 t670 _ ?_ ?_ A5.out).mono ?_);exact wC HR669_0;exact HC669_0.out;rintro e w' ⟨rfl,⟨nd,rfl⟩⟩;refine⟨_,rfl,?_⟩))
     go_roundg k1
     case measure=>have:=HK1.out;omega
     case rel=>exact⟨(t670),(wrap64 (x5_1+1)),fr,fr,H',⟨by have:=HK1.out;omega⟩,df⟩
   ·obtain rfl:=Option.some.inj H;go_wp2;go_ret
    exact⟨fr,df⟩
def laws_FnExactSurfaceStars.f (k:Nat) (p:Int) (six:List S53):Option Bool:=
 (J5.f six 1048576).bind λleft=>if left < 0 then some true else (js.f k six).bind λQ=>(zm.f k p Q).bind λW=>(jv.f k p Q).bind λG=>(j5.f k G.1 W.1).bind λe1=>(zq.f k Q Q).bind λe2=>(Jm.f Q 1).bind λmk=>(Zx.f k G.1 1).bind λms=>(jm.f k ms.2 1).bind λhq=>if (e1=true/\G.2=W.2)/\e2=true/\¬ mk.1 < 0/\¬ hq < 0/\hq=ms.1 then some true else none
theorem laws_FnExactSurfaceStars.mono :∀ a0 a1 k,LeO (laws_FnExactSurfaceStars.f k a0 a1) (laws_FnExactSurfaceStars.f (k+1) a0 a1):=λa0 a1 k=>by
 unfold laws_FnExactSurfaceStars.f;exact LeO.bind (LeO.refl _) λ_=>LeO.ite (LeO.refl _) (LeO.bind (js.mono _ _) λ_=>LeO.bind (zm.mono _ _ _) λ_=>LeO.bind (jv.mono _ _ _) λ_=>LeO.bind (j5.mono _ _ _) λ_=>LeO.bind (zq.mono _ _ _) λ_=>LeO.bind (LeO.refl _) λ_=>LeO.bind (Zx.mono _ _ _) λ_=>LeO.bind (jm.mono _ _ _) λ_=>LeO.refl _)
theorem laws_FnExactSurfaceStars.calls (k:Nat) (a0:Int) (A1:Option Addr) (c1:Nat) (l1:List S53) (r:Bool) (w:World) (hr1:Kd.C k53 w A1 l1.length l1) (hc1:l1.length<=c1) (h:laws_FnExactSurfaceStars.f k a0 l1=some r):
  Calls Tryz.prog 3 #[int i64 a0,.slice A1 l1.length c1] w λe w'=>e=.returned (.bool r)/\Below w.heap.size w w':=by
 have HR1:=am hr1;have HC1:=am hc1;have HB:=Em w;have H:=h;clear hr1 hc1 h;replace H:=Option.bind_eq_some_iff.1 H;obtain⟨left,hleft,H⟩:=H;have HLEFT:=am hleft;clear hleft
 by_cases hl:left < 0
 ·rw[if_pos hl]at H
  have hld:=decide_eq_true hl;obtain rfl:=Option.some.inj H;have HLD:=am hld;clear hl hld H;go_enter Tryz.func3,Tryz.ntmps3;go_wp2_with fail;refine(J5.calls _ _ l1 1048576 left _ (wC HR1) HC1.out HLEFT.out).mono ?_;rintro e w' ⟨rfl,⟨nd,rfl⟩⟩;have hld:=HLD.out;go_wp2_with fail
  go_ret
  exact⟨fq,bw HB⟩
 ·rw[if_neg hl]at H
  have hld:=decide_eq_false hl;have HLD:=am hld;clear hl hld;replace H:=Option.bind_eq_some_iff.1 H;obtain⟨Q,hQ,H⟩:=H;have HQ:=am hQ;clear hQ;replace H:=Option.bind_eq_some_iff.1 H;obtain⟨⟨W,wb⟩,hW,H⟩:=H;have HW:=am hW;clear hW;replace H:=Option.bind_eq_some_iff.1 H;obtain⟨⟨G,gb⟩,hG,H⟩:=H;have HG:=am hG;clear hG;replace H:=Option.bind_eq_some_iff.1 H;obtain⟨e1,he1,H⟩:=H;replace H:=Option.bind_eq_some_iff.1 H;obtain⟨e2,he2,H⟩:=H;replace H:=Option.bind_eq_some_iff.1 H;obtain⟨⟨mk,Q2⟩,hmk,H⟩:=H;have HMK:=am hmk;clear hmk;replace H:=Option.bind_eq_some_iff.1 H;obtain⟨⟨ms,G2⟩,hms,H⟩:=H;have HMS:=am hms;clear hms;replace H:=Option.bind_eq_some_iff.1 H;obtain⟨hq,hhq,H⟩:=H;dsimp only at H he1 he2 hhq
  by_cases hc:(e1=true/\gb=wb)/\e2=true/\¬ mk < 0/\¬ hq < 0/\hq=ms
  rotate_left
  ·rw[if_neg hc]at H;cases H
  rw[if_pos hc]at H;obtain rfl:=Option.some.inj H;clear H;obtain⟨⟨rfl,rfl⟩,rfl,hm0,hq0,rfl⟩:=hc;have HE1:=am he1;have HE2:=am he2;have HHQ:=am hhq;have HM0:=am (decide_eq_false hm0);have HQ0:=am (decide_eq_false hq0);clear he1 he2 hhq hm0 hq0;go_enter Tryz.func3,Tryz.ntmps3;go_wp2_with fail;refine(J5.calls _ _ l1 1048576 left _ (wC HR1) HC1.out HLEFT.out).mono ?_;rintro e w' ⟨rfl,⟨nd,rfl⟩⟩;have hld:=HLD.out;clear HLD;go_wp2_with fail;clear hld;refine(js.calls k _ _ l1 Q _ (wC HR1) HC1.out HQ.out).mono ?_;rintro e w2 ⟨v2,rfl,ho2,hb2⟩;replace HB:=bq HB hb2;have HO2:=am ho2;clear hb2 ho2;obtain⟨Ao2,co2,eo2⟩:=Kd.Ah HO2.out;subst eo2;go_wp2_with fail;refine(zm.calls k a0 _ _ Q W gb _ (Kd.Ad (Kd.Ac HO2.out).2.2 gs) (Kd.Ac HO2.out).2.1 HW.out).mono ?_;rintro e w3 ⟨v3,rfl,ho3,hb3⟩;replace HB:=bq HB hb3;obtain⟨A3,c3,e3⟩:=Kd.AJ ho3;subst e3;have HCW:=am (Kd.Al ho3).2.2;have HLW:=am (Kd.Al ho3).2.1;have HB3:=am (Below.refl w3.heap.size w3);have HW3:=HB;clear ho3 hb3 HO2 HW;go_wp2_with fail;refine(js.calls k _ _ l1 Q _ (Kd.Ad HR1.out (bw HB)) HC1.out HQ.out).mono ?_;rintro e w4 ⟨v4,rfl,ho4,hb4⟩;replace HB:=bq HB hb4;replace HB3:=bq HB3 hb4;have HX:=am (Kd.Ai ho4 (show w3.heap.size<=_ from zw gs));clear hb4 ho4;obtain⟨Ao4,co4,eo4⟩:=Kd.Ah HX.out;subst eo4;have HB4:=am (Below.refl w4.heap.size w4);go_wp2_with fail;refine(jv.calls k a0 _ _ Q G gb _ (Kd.Ad (Kd.Ac HX.out).2.2 gs) (Kd.Ac HX.out).2.1 HG.out).mono ?_;rintro e w5 ⟨v5,rfl,ho5,hb5⟩;have HX':=am (Kd.Ae (Kd.As HX.out) (ok':=λk=>k < w4.heap.size) (λk hk=>hk.2.2.1));have HX5:=am (Kd.Af HX'.out (ze (bb HB4.out) hb5));have HGO:=am (Kd.AD (Kd.At (Kd.BU ho5) (ok':=λk=>w4.heap.size<=k) (λk hk=>Nat.le_trans (zw (bb HB4.out)) hk.2.1)) (show w3.heap.size<=_ from bz HB3));replace HB:=bq HB hb5;replace HB3:=bq HB3 hb5;obtain⟨A5,c5,e5⟩:=Kd.AJ ho5;subst e5;clear ho5 hb5 HX HX' HB4;go_wp2_with fail;refine(j5.calls k _ _ G _ _ W true _ (Kd.Al (wS HGO)).2.2 (Kd.Al HGO.out).2.1 (Kd.Ad HCW.out (bw HB3)) HLW.out HE1.out).mono ?_;rintro e w' ⟨rfl,⟨nd2,rfl⟩⟩;go_wp2_with fail;refine(js.calls k _ _ l1 Q _ (Kd.Ad HR1.out (bw HB)) HC1.out HQ.out).mono ?_;rintro e w6 ⟨v6,rfl,ho6,hb6⟩;replace HB:=bq HB hb6;replace HB3:=bq HB3 hb6;replace HX5:=am (Kd.Af (wR HX5) hb6);replace HGO:=am (Kd.Ap (wS HGO) hb6);have HO6:=am ho6;clear hb6 ho6;obtain⟨Ao6,co6,eo6⟩:=Kd.Ah HO6.out;subst eo6;go_wp2_with fail;refine(zq.calls k _ _ Q _ _ Q true _ (Kd.Ac (wR HX5)).2.2 (Kd.Ac HX5.out).2.1 (Kd.Ac (wR HO6)).2.2 (Kd.Ac HO6.out).2.1 HE2.out).mono ?_;rintro e w7 ⟨rfl,hb7⟩;replace HB:=bq HB hb7;replace HB3:=bq HB3 hb7;replace HX5:=am (Kd.Af (wR HX5) hb7);replace HGO:=am (Kd.Ap (wS HGO) hb7);clear hb7 HO6;go_wp2_with fail;refine(Jm.calls (λk=>k < w4.heap.size) _ Q 1 mk Q2 w3 _ (bw HB3) (wR HX5) HMK.out).mono ?_;rintro e w8 ⟨rfl,-,hb8,hk8⟩;have HG8:=am (Kd.D5 (wS HGO) hk8 (λk' h1 h2=>by omega));replace HB3:=am hb8;replace HB:=am (ze HW3.out hb8);have hm0:=HM0.out;clear hb8 hk8 HX5 HGO HM0;go_wp2_with fail;refine(j5.calls k _ _ G _ _ W true _ (Kd.Al (wS HG8)).2.2 (Kd.Al HG8.out).2.1 (Kd.Ad HCW.out (bw HB3)) HLW.out HE1.out).mono ?_;rintro e w' ⟨rfl,⟨nd3,rfl⟩⟩;go_wp2_with fail;refine(Zx.calls k (λk=>w4.heap.size<=k) _ G 1 hq G2 w3 _ (bw HB3) (wS HG8) HMS.out).mono ?_;rintro e w9 ⟨rfl,hs9,hb9,hk9⟩;have HG9:=am hs9;replace HB3:=am hb9;replace HB:=am (ze HW3.out hb9);have hlg:G2.length=G.length:=(Kd.Al hs9).1.symm;have HLG:=am hlg;clear hlg;clear hs9 hb9 hk9 HG8 hm0;go_wp2_with fail;rw[show G.length=G2.length from HLG.out.symm];have HG9':=am (show Kd.S KI 37 w9 w3.heap.size _ (.slice A5 G2.length c5) G2 from by rw[HLG.out];exact HG9.out);clear HG9;refine(jm.calls k _ _ G2 1 hq _ (Kd.Al (wS HG9')).2.2 (Kd.Al HG9'.out).2.1 HHQ.out).mono ?_;rintro e w' ⟨rfl,⟨nd4,rfl⟩⟩;have hq0:=HQ0.out;clear HLG;go_wp2_with fail;refine(js.calls k _ _ l1 Q _ (Kd.Ad HR1.out (bw HB)) HC1.out HQ.out).mono ?_;rintro e w10 ⟨v10,rfl,ho10,hb10⟩;replace HB:=bq HB hb10;replace HB3:=bq HB3 hb10;replace HG9':=am (Kd.Ap (wS HG9') hb10);have HO10:=am ho10;clear hb10 ho10
  obtain⟨Ao10,co10,eo10⟩:=Kd.Ah HO10.out;subst eo10;go_wp2_with fail;refine(jv.calls k a0 _ _ Q G gb _ (Kd.Ad (Kd.Ac HO10.out).2.2 gs) (Kd.Ac HO10.out).2.1 HG.out).mono ?_;rintro e w11 ⟨v11,rfl,ho11,hb11⟩;replace HB:=bq HB hb11;replace HB3:=bq HB3 hb11;replace HG9':=am (Kd.Ap (wS HG9') hb11);have HH:=am ho11;obtain⟨A11,c11,e11⟩:=Kd.AJ ho11;subst e11;clear ho11 hb11 HO10;go_wp2_with fail;refine(j5.calls k _ _ G _ _ W true _ (Kd.Al (wS HH)).2.2 (Kd.Al HH.out).2.1 (Kd.Ad HCW.out (bw HB3)) HLW.out HE1.out).mono ?_;rintro e w' ⟨rfl,⟨nd5,rfl⟩⟩;go_wp2_with fail;refine(jm.calls k _ _ G2 1 hq _ (Kd.Al (wS HG9')).2.2 (Kd.Al HG9'.out).2.1 HHQ.out).mono ?_;rintro e w' ⟨rfl,⟨nd6,rfl⟩⟩;go_wp2_with fail
  go_ret
  exact⟨fq,bw HB⟩
end Go.Proofs.YtmgbpmihbljngaaGreat.PA
