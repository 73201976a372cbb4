-- by xprint.py and mergepa.py
import Derived.Test.YtmgbpmihbljngaaGreatPAx4
namespace Go.Proofs.YtmgbpmihbljngaaGreat.PA
open Value (int)
open IntKind (i64)
open RowKit YtmgbpmihbljngaaGreatW.PrintWords YtmgbpmihbljngaaGreatW.PrintLast YtmgbpmihbljngaaGreatW.PrintMore
attribute [local go_sem] Q3 Q0 Zk Zj Qo Qp Q5 Q4
set_option linter.unusedVariables false
set_option linter.unusedSimpArgs false
mutual
def qh.l0 :Nat->Int->List (List Int)->Int->List (List Int)->List Int->Int->Option ((List (List Int))×List Int)
 | 0,_,_,_,_,_,_=>none
 | k+1,x0,x1,x2,x8,x9,x10=>if x10 < x2 then (qh.l1 k x0 x1 x2 x8 x9 x10 (-1) 0) else (some (x8,x9))
def qh.l1 :Nat->Int->List (List Int)->Int->List (List Int)->List Int->Int->Int->Int->Option ((List (List Int))×List Int)
 | 0,_,_,_,_,_,_,_,_=>none
 | k+1,x0,x1,x2,x8,x9,x10,x11,x12=>if x12 < (x1.length:Int) then (qh.j2 k x0 x1 x2 x8 x9 x10 x11 x12 (decide (x11 < 0))) else (qh.j2 k x0 x1 x2 x8 x9 x10 x11 x12 false)
def qh.j2 :Nat->Int->List (List Int)->Int->List (List Int)->List Int->Int->Int->Int->Bool->Option ((List (List Int))×List Int)
 | 0,_,_,_,_,_,_,_,_,_=>none
 | k+1,x0,x1,x2,x8,x9,x10,x11,x12,x31=>if x31=true then (if 0<=x12 then (if x12 < (x1.length:Int) then (if 0<=x10 then (if x10 < ((zt x1 x12).length:Int) then (if (rd (zt x1 x12) x10)=0 then (qh.l1 k x0 x1 x2 x8 x9 x10 x11 (wrap64 (x12+1))) else (qh.l1 k x0 x1 x2 x8 x9 x10 x12 (wrap64 (x12+1)))) else (none)) else (none)) else (none)) else (none)) else (if x11 < 0 then (qh.l0 k x0 x1 x2 x8 x9 (wrap64 (x10+1))) else (if 0<=x11 then (if x11 < (x1.length:Int) then ((zh.f k x0 (zt x1 x11)).bind λt157=>(qh.l2 k x0 x1 x2 x8 x9 x10 x11 t157 (([]:List (List Int))) 0)) else (none)) else (none)))
def qh.l2 :Nat->Int->List (List Int)->Int->List (List Int)->List Int->Int->Int->List Int->List (List Int)->Int->Option ((List (List Int))×List Int)
 | 0,_,_,_,_,_,_,_,_,_,_=>none
 | k+1,x0,x1,x2,x8,x9,x10,x11,x13,x14,x15=>if x15 < (x1.length:Int) then (if x15=x11 then (qh.l2 k x0 x1 x2 x8 x9 x10 x11 x13 x14 (wrap64 (x15+1))) else (if 0<=x15 then (if 0<=x10 then (if x10 < ((zt x1 x15).length:Int) then ((zj.f k x0 (zt x1 x15) (rd (zt x1 x15) x10) x13).bind λt166=>(if x14.length < 5864062014805 then (qh.l2 k x0 x1 x2 x8 x9 x10 x11 x13 (x14++[t166]) (wrap64 (x15+1))) else (none))) else (none)) else (none)) else (none))) else (qh.l3 k x0 x14 x2 x8 x9 x10 x13 0)
def qh.l3 :Nat->Int->List (List Int)->Int->List (List Int)->List Int->Int->List Int->Int->Option ((List (List Int))×List Int)
 | 0,_,_,_,_,_,_,_,_=>none
 | k+1,x0,x1,x2,x8,x9,x10,x13,x16=>if x16 < (x8.length:Int) then (if 0<=x16 then (if 0<=x10 then (if x10 < ((zt x8 x16).length:Int) then ((zj.f k x0 (zt x8 x16) (rd (zt x8 x16) x10) x13).bind λt175=>(qh.l3 k x0 x1 x2 (x8.set (x16:Int).toNat t175) x9 x10 x13 (wrap64 (x16+1)))) else (none)) else (none)) else (none)) else (if x8.length < 5864062014805 then (if x9.length < 17592186044416 then (qh.l0 k x0 x1 x2 (x8++[x13]) (x9++[x10]) (wrap64 (x10+1))) else (none)) else (none))
end
def qh.f (k:Nat) (a0:Int) (l1:List (List Int)) (a2:Int):Option ((List (List Int))×List Int):=qh.l0 k a0 l1 a2 (([]:List (List Int))) (([]:List Int)) 0
theorem qh.Ag :∀ k,(∀ y0 y1 y2 y3 y4 y5,LeO (qh.l0 k y0 y1 y2 y3 y4 y5) (qh.l0 (k+1) y0 y1 y2 y3 y4 y5))/\(∀ y0 y1 y2 y3 y4 y5 y6 y7,LeO (qh.l1 k y0 y1 y2 y3 y4 y5 y6 y7) (qh.l1 (k+1) y0 y1 y2 y3 y4 y5 y6 y7))/\(∀ y0 y1 y2 y3 y4 y5 y6 y7 y8,LeO (qh.j2 k y0 y1 y2 y3 y4 y5 y6 y7 y8) (qh.j2 (k+1) y0 y1 y2 y3 y4 y5 y6 y7 y8))/\(∀ y0 y1 y2 y3 y4 y5 y6 y7 y8 y9,LeO (qh.l2 k y0 y1 y2 y3 y4 y5 y6 y7 y8 y9) (qh.l2 (k+1) y0 y1 y2 y3 y4 y5 y6 y7 y8 y9))/\(∀ y0 y1 y2 y3 y4 y5 y6 y7,LeO (qh.l3 k y0 y1 y2 y3 y4 y5 y6 y7) (qh.l3 (k+1) y0 y1 y2 y3 y4 y5 y6 y7))
 | 0=>⟨λ_ _ _ _ _ _ r h=>by simp[qh.l0]at h,λ_ _ _ _ _ _ _ _ r h=>by simp[qh.l1]at h,λ_ _ _ _ _ _ _ _ _ r h=>by simp[qh.j2]at h,λ_ _ _ _ _ _ _ _ _ _ r h=>by simp[qh.l2]at h,λ_ _ _ _ _ _ _ _ r h=>by simp[qh.l3]at h⟩
 | k+1=>by
  obtain⟨ih0,ih1,ih2,ih3,ih4⟩:=qh.Ag k;refine⟨?_,?_,?_,?_,?_⟩
  ·intro y0 y1 y2 y3 y4 y5
   unfold qh.l0
   repeat' with_reducible first|intro _|apply ih0|apply ih1|apply ih2|apply ih3|apply ih4|apply zj.mono|apply zh.mono|apply Eb|apply Ec|apply Ed|apply Ee
  ·intro y0 y1 y2 y3 y4 y5 y6 y7
   unfold qh.l1
   repeat' with_reducible first|intro _|apply ih0|apply ih1|apply ih2|apply ih3|apply ih4|apply zj.mono|apply zh.mono|apply Eb|apply Ec|apply Ed|apply Ee
  ·intro y0 y1 y2 y3 y4 y5 y6 y7 y8
   unfold qh.j2
   repeat' with_reducible first|intro _|apply ih0|apply ih1|apply ih2|apply ih3|apply ih4|apply zj.mono|apply zh.mono|apply Eb|apply Ec|apply Ed|apply Ee
  ·intro y0 y1 y2 y3 y4 y5 y6 y7 y8 y9
   unfold qh.l2
   repeat' with_reducible first|intro _|apply ih0|apply ih1|apply ih2|apply ih3|apply ih4|apply zj.mono|apply zh.mono|apply Eb|apply Ec|apply Ed|apply Ee
  ·intro y0 y1 y2 y3 y4 y5 y6 y7
   unfold qh.l3
   repeat' with_reducible first|intro _|apply ih0|apply ih1|apply ih2|apply ih3|apply ih4|apply zj.mono|apply zh.mono|apply Eb|apply Ec|apply Ed|apply Ee
theorem qh.mono (a0 a1 a2 k):LeO (qh.f k a0 a1 a2) (qh.f (k+1) a0 a1 a2):=by
 obtain⟨ih0,ih1,ih2,ih3,ih4⟩:=qh.Ag k;unfold qh.f
 repeat' with_reducible first|intro _|apply ih0|apply ih1|apply ih2|apply ih3|apply ih4|apply zj.mono|apply zh.mono|apply Eb|apply Ec|apply Ed|apply Ee
def qh.T19 :Bool×List (List Nat×List Nat):=(true,[([],[]),([],[]),([],[]),([],[]),([2,3],[2,3]),([4],[4]),([],[]),([],[]),([6,7],[6,7]),([8],[8]),([],[]),([9,10],[9,10]),([11],[11]),([],[]),([1,5,12,13],[1,5,12,13]),([14],[14]),([0,15,14],[0,15]),([16,16,0,1,2,3,4,5,6,7,8,9,10,11,12,13,14,15,16],[0,16])])
def qh.B19 :List Nat:=[0,0,0,0,12,28,0,0,192,448,0,1984,4032,0,16382,32766,65535,131071]
def qh.T24 :Bool×List (List Nat×List Nat):=(true,[([],[]),([],[]),([],[]),([],[]),([],[]),([3,4],[3,4]),([5],[5]),([],[]),([],[]),([7,8],[7,8]),([9],[9]),([],[]),([10,11],[10,11]),([12],[12]),([],[]),([2,6,13,14],[2,6,13,14]),([0,1,0,1,2,3,4,5,6,7,8,9,10,11,12,13,14,15],[0,1]),([16,15,15,0,1,2,3,4,5,6,7,8,9,10,11,12,13,14,15],[15,16])])
def qh.B24 :List Nat:=[0,0,0,0,0,24,56,0,0,384,896,0,3968,8064,0,32764,65535,131071]
set_option maxHeartbeats 8000000 in
set_option maxRecDepth 100000 in
theorem qh.calls (k:Nat) (a0:Int) (P1_:Nat->Prop) (A1:Option Addr) (c1:Nat) (l1:List (List Int)) (a2:Int) (r1:List (List Int)) (r2:List Int) (w:World) (hs1:Kd.V KI 37 w w.heap.size (λk_=>P1_ k_) (.slice A1 l1.length c1) l1) (h:qh.f k a0 l1 a2=some (r1,r2)):
  Calls Tryz.prog 98 #[int i64 a0,.slice A1 l1.length c1,int i64 a2] w λe w'=>∃ v0_ v1_:Value,e=.returned (.tuple #[v0_,v1_])/\Kd.N KI 37 w' w.heap.size (λk_=>(P1_ k_\/w.heap.size<=k_)/\some k_≠(v1_:Value).ownBlock) v0_ r1/\Kd.R (Kd.int i64) 3 w' w.heap.size (λk_=>(w.heap.size<=k_)) v1_ r2/\Below w.heap.size w w':=by
 have HO1:=am (show Kd.V KI 37 w w.heap.size (λk_=>(P1_ k_\/w.heap.size<=k_)) (.slice A1 l1.length c1) l1 from Kd.AP hs1 (λk_ hk=>.inl hk));have HB:=Em w;have H:=h;unfold qh.f at H;clear h;obtain⟨y148,hy148⟩:∃ y_:List (List Int),y_=(([]:List (List Int))):=⟨_,rfl⟩
 replace H:(qh.l0 k a0 l1 a2 y148 (([]:List Int)) 0)=some (r1,r2):=by first|(rw[hy148];with_reducible exact H)|(have H2_:=(Option.bind_some _ _).symm.trans H;rw[hy148];with_reducible exact H2_)|(have H2_:=(Option.bind_some _ _).symm.trans H;with_reducible exact H2_)|with_reducible exact H|(rw[hy148];exact H)|exact H
 have Ny148:=am hy148;clear hy148;generalize hy151:(([]:List Int))=y151 at H;have Ny151:=am hy151.symm;clear hy151;have H':=am H;clear H;go_enter Tryz.func98,Tryz.ntmps98
 go_wp2_with (first|((with_reducible refine zd (N:=17) rfl ?_);refine Kd.Cj KI _ 37 ?hg (N':=17) ?hd (xs:=([]:List (List Int))) (inner:=[]) (ok:=(λk_=>(P1_ k_\/w.heap.size<=k_))) (okp:=(λk_=>(P1_ k_\/w.heap.size<=k_))) ?hr ?hp (λ_ hk=>hk) ((show ∀ k_,w.heap.size<=k_->(λk_=>(P1_ k_\/w.heap.size<=k_)) k_ from λk_ hk=>(.inr (Nat.le_trans (bz HB) hk))) _ (Nat.le_refl _)) (Below.refl _ _) (Nat.le_refl _) (by simp) ?_;(case hd=>rfl);(case hg=>rfl);(case hr=>first|(go_simp;done)|(go_simp;rfl));(case hp=>exact(Reps.none _ _));intro v149 w4 ho5 hb hg_ hnew_;clear hg_ hnew_;rw[<-Ny148.out]at ho5;replace HO1:=eV HO1 (Kd.AH ho5) hb;have HO150:=am (Kd.AG ho5 (bz HB));replace HB:=bq HB hb;clear hb ho5)|((with_reducible refine zd (N:=18) rfl ?_);refine li 3 ([]:List Int) ?_;intro v152 w6 ho7 hb;rw[<-Ny151.out]at ho7;replace HO1:=eV HO1 (Kd.Am ho7) hb;replace HO150:=eN HO150 (Kd.Am ho7) hb;have HO153:=am (mR ho7 HB);replace HB:=bq HB hb;clear hb ho7))
 go_loopg [1,8,9,10] k (λkq v1 v8 v9 v10 w'=>∃ (x1_1:List (List Int)) (x8_1:List (List Int)) (x9_1:List Int) (x10_1:Int),v10=int i64 x10_1/\qf (qh.l0 kq a0 x1_1 a2 x8_1 x9_1 x10_1=some (r1,r2))/\qf (kq<=k)/\qf (Kd.V KI 37 w' w.heap.size (λk_=>(P1_ k_\/w.heap.size<=k_)/\some k_≠(v8:Value).ownBlock/\some k_≠(v9:Value).ownBlock) v1 x1_1)/\qf (Kd.N KI 37 w' w.heap.size (λk_=>(P1_ k_\/w.heap.size<=k_)/\some k_≠(v9:Value).ownBlock) v8 x8_1)/\qf (Kd.R (Kd.int i64) 3 w' w.heap.size (λk_=>(w.heap.size<=k_)) v9 x9_1)/\qf (Below w.heap.size w w'))
 case atStart=>exact⟨(l1),(y148),(y151),(0),fr,H',⟨Nat.le_refl _⟩,⟨Kd.AC (Kd.AP HO1.out (λ_ hk=>⟨hk.1.1,⟨hk.1.2,hk.2⟩⟩)) gs⟩,⟨wN HO150⟩,⟨Kd.Af (Kd.Ae HO153.out (λ_ hk=>hk.1)) gs⟩,⟨bw HB⟩⟩
 case round =>
  clear H';try clear c1;try clear p2
  obtain⟨x1_1,x8_1,x9_1,x10_1,rfl,HA,HK1,HO_1,HO_8,HO_9,HB⟩:=hrel
  cases gk with
  | zero=>exact absurd HA.out (by simp[qh.l0])
  | succ k1 =>
   have H:=HA.out;clear HA;simp only[qh.l0]at H
   by_cases c8:x10_1 < a2
   ·rw [if_pos c8] at H
    have c8b0:=decide_eq_true c8;clear c8;have H':=am H;clear H;go_wp2
    go_loopg [11,12] k1 (λkq v11 v12 w'=>∃ (x11_2:Int) (x12_2:Int),v11=int i64 x11_2/\v12=int i64 x12_2/\qf (qh.l1 kq a0 x1_1 a2 x8_1 x9_1 x10_1 x11_2 x12_2=some (r1,r2))/\qf (kq<=k1)/\qf (Kd.V KI 37 w' w.heap.size (λk_=>(P1_ k_\/w.heap.size<=k_)/\some k_≠(u8:Value).ownBlock/\some k_≠(u9:Value).ownBlock) u1 x1_1)/\qf (Kd.N KI 37 w' w.heap.size (λk_=>(P1_ k_\/w.heap.size<=k_)/\some k_≠(u9:Value).ownBlock) u8 x8_1)/\qf (Kd.R (Kd.int i64) 3 w' w.heap.size (λk_=>(w.heap.size<=k_)) u9 x9_1)/\qf (Below w.heap.size w w'))
    case atStart=>exact⟨((-1)),(0),fr,fr,H',⟨Nat.le_refl _⟩,⟨wV HO_1⟩,⟨wN HO_8⟩,⟨wR HO_9⟩,⟨bw HB⟩⟩
    case round =>
     clear H';try clear c1;try clear p2;try clear c8;try clear c8b0;try clear p2
     obtain⟨x11_2,x12_2,rfl,rfl,HA,HK2,HO_1,HO_8,HO_9,HB⟩:=hrel
     cases gk with
     | zero=>exact absurd HA.out (by simp[qh.l1])
     | succ k2 =>
      have H:=HA.out;clear HA;simp only[qh.l1]at H;have HC9:=am H;clear H
      go_upto_region 8 with (fail)
      go_cut [31] (λv31 wc=>∃ (kq:Nat) (x31_8:Bool),v31=.bool x31_8/\qf (qh.j2 kq a0 x1_1 a2 x8_1 x9_1 x10_1 x11_2 x12_2 x31_8=some (r1,r2))/\qf (kq<=k2)/\qf (Kd.V KI 37 wc w.heap.size (λk_=>(P1_ k_\/w.heap.size<=k_)/\some k_≠(u8:Value).ownBlock/\some k_≠(u9:Value).ownBlock) u1 x1_1)/\qf (Kd.N KI 37 wc w.heap.size (λk_=>(P1_ k_\/w.heap.size<=k_)/\some k_≠(u9:Value).ownBlock) u8 x8_1)/\qf (Kd.R (Kd.int i64) 3 wc w.heap.size (λk_=>(w.heap.size<=k_)) u9 x9_1)/\qf (Below w.heap.size w wc))
      case first=>
       have H:=HC9.out;clear HC9
       by_cases c10:x12_2 < (x1_1.length:Int)
       ·rw[if_pos c10]at H
        have c10b0:=decide_eq_true c10;clear c10
        (first|rw[c10b0]|(simp only[qa6,qb3];rw[c10b0])|skip)
        have H':=am H;clear H;obtain⟨Ao11,co11,eo11⟩:=Kd.BJ HO_1.out;subst eo11;go_wp2
        go_meet
        case rel=>exact⟨_,(decide (x11_2 < 0)),fr,H',⟨by have:=HK1.out;have:=HK2.out;first|omega|exact Nat.le_refl _⟩,⟨wV HO_1⟩,⟨wN HO_8⟩,⟨wR HO_9⟩,⟨bw HB⟩⟩
       ·rw[if_neg c10]at H
        have c10b0:=decide_eq_false c10;clear c10
        (first|rw[c10b0]|(simp only[qa6,qb3];rw[c10b0])|skip)
        have H':=am H;clear H;obtain⟨Ao12,co12,eo12⟩:=Kd.BJ HO_1.out;subst eo12;go_wp2
        go_meet
        case rel=>exact⟨_,(false),fr,H',⟨by have:=HK1.out;have:=HK2.out;first|omega|exact Nat.le_refl _⟩,⟨wV HO_1⟩,⟨wN HO_8⟩,⟨wR HO_9⟩,⟨bw HB⟩⟩
      case rest =>
       clear HC9;try clear c1;try clear p2;try clear c8;try clear c8b0;try clear c9;try clear c10;try clear c10b0;try clear p2
       obtain⟨kq,x31_8,rfl,HA,HJ8,HO_1,HO_8,HO_9,HB⟩:=hcut
       cases kq with
       | zero=>exact absurd HA.out (by simp[qh.j2])
       | succ kj8=>
        have H:=HA.out;clear HA;simp only[qh.j2]at H
        by_cases c13:x31_8=true
        ·subst c13
         rw[if_pos rfl]at H;replace H:=Ef H;obtain⟨c14b0,H⟩:=H;replace H:=Ef H;obtain⟨c15b0,H⟩:=H;replace H:=ifn H;obtain⟨c16,H⟩:=H;have c16b0:=decide_eq_true c16;clear c16;replace H:=Ef H;obtain⟨c17b0,H⟩:=H
         by_cases c18:(rd (zt x1_1 x12_2) x10_1)=0
         ·rw[if_pos c18]at H
          have c18b0:=beq_iff_eq.mpr c18;have c18b1:=bne_eq_false_iff_eq.mpr c18;clear c18;have H':=am H;clear H;obtain⟨Ao19,co19,eo19⟩:=Kd.BJ HO_1.out;subst eo19;obtain⟨ad154,A154_0,c154_0,e154,hx154_0,HL154_0,HR154_0,HC154_0,p154,q154⟩:=Er HO_1.out x12_2 od od;cases e154
          obtain⟨ad155,e155,hx155_0,p155,q155⟩:=Es HR154_0.out x10_1 od od;cases e155;go_wp2
          go_roundg kj8
          case measure=>have:=HK1.out;have:=HK2.out;have:=HJ8.out;omega
          case rel=>exact⟨(x11_2),(wrap64 (x12_2+1)),fr,fr,H',⟨by have:=HK1.out;have:=HK2.out;have:=HJ8.out;omega⟩,⟨wV HO_1⟩,⟨wN HO_8⟩,⟨wR HO_9⟩,⟨bw HB⟩⟩
         ·rw[if_neg c18]at H
          have c18b0:=beq_eq_false_iff_ne.mpr c18;have c18b1:=bne_iff_ne.mpr c18;have H':=am H;clear H;obtain⟨Ao20,co20,eo20⟩:=Kd.BJ HO_1.out;subst eo20;obtain⟨ad154,A154_0,c154_0,e154,hx154_0,HL154_0,HR154_0,HC154_0,p154,q154⟩:=Er HO_1.out x12_2 od od;cases e154
          obtain⟨ad155,e155,hx155_0,p155,q155⟩:=Es HR154_0.out x10_1 od od;cases e155;go_wp2
          go_roundg kj8
          case measure=>have:=HK1.out;have:=HK2.out;have:=HJ8.out;omega
          case rel=>exact⟨(x12_2),(wrap64 (x12_2+1)),fr,fr,H',⟨by have:=HK1.out;have:=HK2.out;have:=HJ8.out;omega⟩,⟨wV HO_1⟩,⟨wN HO_8⟩,⟨wR HO_9⟩,⟨bw HB⟩⟩
        ·replace c13:=Bool.eq_false_iff.mpr c13
         subst c13;rw[if_neg (show ¬ (false=true) by decide)]at H;replace H:=Eg H;rcases H with ⟨c21b0,H⟩|⟨c21b0,H⟩
         ·have H':=am H;clear H;go_wp2
          go_roundg kj8
          case measure=>have:=HK1.out;have:=HK2.out;have:=HJ8.out;omega
          case rel=>exact⟨(x1_1),(x8_1),(x9_1),(wrap64 (x10_1+1)),fr,H',⟨by have:=HK1.out;have:=HK2.out;have:=HJ8.out;omega⟩,⟨wV HO_1⟩,⟨wN HO_8⟩,⟨wR HO_9⟩,⟨bw HB⟩⟩
         ·replace H:=Ef H;obtain⟨c22b0,H⟩:=H;replace H:=Ef H;obtain⟨c23b0,H⟩:=H;replace H:=bs H;obtain⟨t157,A24,H⟩:=H
          generalize hy160:(([]:List (List Int)))=y160 at H;have Ny160:=am hy160.symm;clear hy160;have H':=am H;clear H;obtain⟨Ao25,co25,eo25⟩:=Kd.BJ HO_1.out;subst eo25;obtain⟨ad156,A156_0,c156_0,e156,hx156_0,HL156_0,HR156_0,HC156_0,p156,q156⟩:=Er HO_1.out x11_2 od od;cases e156
          go_wp2_with (first|((with_reducible refine za (f:=63) rfl ?_);refine gl 50 Tryz.func63 #[int i64 a0,.slice A156_0 (zt x1_1 x11_2).length c156_0] ?_;(with_reducible refine(zh.calls kj8 a0 _ _ (zt x1_1 x11_2) t157 _ ?_ ?_ A24.out).mono ?_);exact wC HR156_0;exact HC156_0.out;rintro e w26 ⟨v158,rfl,ho0,hb⟩;refine⟨_,rfl,?_⟩;replace HO_1:=eV HO_1 (Kd.Am ho0) hb;replace HO_8:=eN HO_8 (Kd.Am ho0) hb;have HO159:=am (Kd.Ai (Kd.AW (Kd.BD (M:=λk_=>(w.heap.size<=k_)) ho0 (bz HB) (λk_ h_=>h_)) (Kd.R_lt (wR HO_9))) (bz HB));replace HO_9:=eR HO_9 (Kd.Am ho0) hb;replace HB:=bq HB hb;(try clear hb);(try clear ho0))|((with_reducible refine zd (N:=51) rfl ?_);refine Kd.Cj KI _ 37 ?hg (N':=51) ?hd (xs:=([]:List (List Int))) (inner:=[]) (ok:=(λk_=>(P1_ k_\/w.heap.size<=k_)/\some k_≠(u8:Value).ownBlock/\some k_≠(u9:Value).ownBlock/\some k_≠(v158:Value).ownBlock)) (okp:=(λk_=>(P1_ k_\/w.heap.size<=k_)/\some k_≠(u8:Value).ownBlock/\some k_≠(u9:Value).ownBlock/\some k_≠(v158:Value).ownBlock)) ?hr ?hp (λ_ hk=>hk) ((show ∀ k_,w26.heap.size<=k_->(λk_=>(P1_ k_\/w.heap.size<=k_)/\some k_≠(u8:Value).ownBlock/\some k_≠(u9:Value).ownBlock/\some k_≠(v158:Value).ownBlock) k_ from λk_ hk=>⟨(.inr (Nat.le_trans (bz HB) hk)),Kd.fresh' (Kd.N_lt (wN HO_8)) k_ hk,Kd.fresh' (Kd.R_lt (wR HO_9)) k_ hk,Kd.fresh' (Kd.R_lt (wR HO159)) k_ hk⟩) _ (Nat.le_refl _)) (Below.refl _ _) (Nat.le_refl _) (by simp) ?_;(case hd=>rfl);(case hg=>rfl);(case hr=>first|(go_simp;done)|(go_simp;rfl));(case hp=>exact(Reps.none _ _));intro v161 w27 ho28 hb hg_ hnew_;clear hg_ hnew_;rw[<-Ny160.out]at ho28;replace HO_1:=eV HO_1 (Kd.AH ho28) hb;replace HO_8:=eN HO_8 (Kd.AH ho28) hb;replace HO_9:=am (Kd.Af (wR HO_9) hb);replace HO159:=am (Kd.Af (wR HO159) hb);have HO162:=am (Kd.AG ho28 (bz HB));replace HB:=bq HB hb;clear hb ho28))
          go_loopg [14,15] kj8 (λkq v14 v15 w'=>∃ (x14_4:List (List Int)) (x15_4:Int),v15=int i64 x15_4/\qf (qh.l2 kq a0 x1_1 a2 x8_1 x9_1 x10_1 x11_2 t157 x14_4 x15_4=some (r1,r2))/\qf (kq<=kj8)/\qf (Kd.V KI 37 w' w.heap.size (λk_=>(P1_ k_\/w.heap.size<=k_)/\some k_≠(u8:Value).ownBlock/\some k_≠(u9:Value).ownBlock/\some k_≠(v158:Value).ownBlock/\some k_≠(v14:Value).ownBlock) (.slice (some ad156) x1_1.length co25) x1_1)/\qf (Kd.N KI 37 w' w.heap.size (λk_=>(P1_ k_\/w.heap.size<=k_)/\some k_≠(u9:Value).ownBlock/\some k_≠(v158:Value).ownBlock/\some k_≠(v14:Value).ownBlock) u8 x8_1)/\qf (Kd.R (Kd.int i64) 3 w' w.heap.size (λk_=>(w.heap.size<=k_)/\some k_≠(v158:Value).ownBlock) u9 x9_1)/\qf (Kd.R (Kd.int i64) 3 w' w.heap.size (λk_=>(w.heap.size<=k_)/\some k_≠(u9:Value).ownBlock) v158 t157)/\qf (Kd.N KI 37 w' w.heap.size (λk_=>(P1_ k_\/w.heap.size<=k_)/\some k_≠(u8:Value).ownBlock/\some k_≠(u9:Value).ownBlock/\some k_≠(v158:Value).ownBlock) v14 x14_4)/\qf (Below w.heap.size w w'))
          case atStart=>exact⟨(y160),(0),fr,H',⟨Nat.le_refl _⟩,⟨Kd.AC (Kd.AP HO_1.out (λ_ hk=>⟨hk.1.1.1,⟨hk.1.1.2.1,⟨hk.1.1.2.2,⟨hk.1.2,hk.2⟩⟩⟩⟩)) gs⟩,⟨Kd.AK (Kd.Ar HO_8.out (λ_ hk=>⟨hk.1.1.1,⟨hk.1.1.2,⟨hk.1.2,hk.2⟩⟩⟩)) gs⟩,⟨wR HO_9⟩,⟨Kd.Af (Kd.Ae HO159.out (λ_ hk=>⟨hk.1.1,hk.2⟩)) gs⟩,⟨wN HO162⟩,⟨bw HB⟩⟩
          case round=>
           clear H';try clear c1;try clear p1;try clear q1;try clear hx1;try clear c2;try clear p2;try clear c6;try clear p6;try clear c8;try clear c8b0;try clear c9;try clear c10;try clear c10b0;try clear c13;try clear c14;try clear c14b0
           try clear c15;try clear c15b0;try clear p15;try clear q15;try clear hx15;try clear c16;try clear c16b0;try clear c17;try clear c17b0;try clear c18;try clear c18b0;try clear c18b1;try clear c21;try clear c21b0;try clear c22;try clear c22b0
           try clear c23;try clear c23b0;try clear hx154_0;try clear hx155_0;try clear hx156_0;try clear p154;try clear p155;try clear p156;try clear p2;try clear q154;try clear q155;try clear q156
           obtain⟨x14_4,x15_4,rfl,HA,HK4,HO_1,HO_8,HO_9,HO_13,HO_14,HB⟩:=hrel
           cases gk with
           | zero=>exact absurd HA.out (by simp[qh.l2])
           | succ k4=>
            have H:=HA.out;clear HA;simp only[qh.l2]at H
            by_cases c29:x15_4 < (x1_1.length:Int)
            ·rw[if_pos c29]at H
             have c29b0:=decide_eq_true c29;clear c29
             by_cases c30:x15_4=x11_2
             ·rw[if_pos c30]at H
              have c30b0:=beq_iff_eq.mpr c30;have c30b1:=bne_eq_false_iff_eq.mpr c30;clear c30;have H':=am H;clear H;go_wp2
              go_roundg k4
              case measure=>have:=HK1.out;have:=HK2.out;have:=HJ8.out;have:=HK4.out;omega
              case rel=>exact⟨(x14_4),(wrap64 (x15_4+1)),fr,H',⟨by have:=HK1.out;have:=HK2.out;have:=HJ8.out;have:=HK4.out;omega⟩,⟨wV HO_1⟩,⟨wN HO_8⟩,⟨wR HO_9⟩,⟨wR HO_13⟩,⟨wN HO_14⟩,⟨bw HB⟩⟩
             ·rw[if_neg c30]at H
              have c30b0:=beq_eq_false_iff_ne.mpr c30;have c30b1:=bne_iff_ne.mpr c30;replace H:=Ef H;obtain⟨c31b0,H⟩:=H;replace H:=Ef H;obtain⟨c32b0,H⟩:=H;replace H:=Ef H;obtain⟨c33b0,H⟩:=H;replace H:=bs H;obtain⟨t166,A34,H⟩:=H;replace H:=ifn H;obtain⟨c35,H⟩:=H;have LMc35:=am c35;clear c35;generalize hy169:(x14_4++[t166]:List (List Int))=y169 at H;have Ny169:=am hy169.symm;clear hy169;have H':=am H;clear H
              try go_wp2
              replace HO_1:=am (Kd.Bs HO_1.out);replace HO_8:=am (Kd.Bc HO_8.out);replace HO_9:=am (Kd.Ay HO_9.out);replace HO_13:=am (Kd.Ay HO_13.out);replace HO_14:=am (Kd.Bc HO_14.out);replace HB:=am (Qn HB.out);have p163:0<=(x15_4:Int):=od;have q163:x15_4 < (x1_1.length:Int):=od;obtain⟨ad163,A163_0,c163_0,e163,hx163_0,hl163_0,hi163_0⟩:=qat (Kd.An HO_1.out).2.2 x15_4 p163 q163;obtain rfl:ad156=ad163:=(by injection e163)
              obtain⟨ce163,hce163,hMe163,hcc163⟩:=Kd.Cx HO_1.out [] x15_4 p163 (by first|exact q163|exact od|(have e_:=(Kd.An HO_1.out).1;omega));obtain⟨ua163_0,uc163_0,rfl,ul163_0,ge163_0⟩:=Kd.Ax hMe163;have hv163_0:=hcc163 0 _ rfl;rw[Nat.add_zero,show (KI).sz=1 from rfl,Nat.mul_one]at hv163_0;replace hv163_0:=Option.some.inj (hv163_0.symm.trans hx163_0);injection hv163_0 with hva_ hvn_ hvc_
              rw[hva_]at ge163_0;rw[hvc_]at ul163_0;have HL163_0:=am (show Kd.V (Kd.int i64) 3 _ w.heap.size _ _ (zt x1_1 x15_4) from Kd.V_mk ul163_0 ge163_0);clear hva_ hvn_ hvc_ ge163_0 ul163_0;clear hcc163 hce163;have HR163_0:=am hi163_0;have HC163_0:=am hl163_0;clear hi163_0 hl163_0;replace p163:=eq_true p163;replace q163:=eq_true q163;have p164:0<=(x15_4:Int):=od;have q164:x15_4 < (x1_1.length:Int):=od;obtain⟨ad164,A164_0,c164_0,e164,hx164_0,hl164_0,hi164_0⟩:=qat (Kd.An HO_1.out).2.2 x15_4 p164 q164;obtain rfl:ad156=ad164:=(by injection e164)
              obtain⟨ce164,hce164,hMe164,hcc164⟩:=Kd.Cx HO_1.out [] x15_4 p164 (by first|exact q164|exact od|(have e_:=(Kd.An HO_1.out).1;omega));obtain⟨ua164_0,uc164_0,rfl,ul164_0,ge164_0⟩:=Kd.Ax hMe164;have hv164_0:=hcc164 0 _ rfl;rw[Nat.add_zero,show (KI).sz=1 from rfl,Nat.mul_one]at hv164_0;replace hv164_0:=Option.some.inj (hv164_0.symm.trans hx164_0);injection hv164_0 with hva_ hvn_ hvc_
              rw[hva_]at ge164_0;rw[hvc_]at ul164_0;have HL164_0:=am (show Kd.V (Kd.int i64) 3 _ w.heap.size _ _ (zt x1_1 x15_4) from Kd.V_mk ul164_0 ge164_0);clear hva_ hvn_ hvc_ ge164_0 ul164_0;clear hcc164 hce164;have HR164_0:=am hi164_0;clear hi164_0 hl164_0;replace p164:=eq_true p164;replace q164:=eq_true q164;have ea_:=Option.some.inj (hx163_0.symm.trans hx164_0);injection ea_ with ea_ en_ ec_
              subst ea_;subst ec_;clear en_;obtain⟨ad165,e165,hx165_0,p165,q165⟩:=Es HR164_0.out x10_1 od od;cases e165
              obtain⟨Ao37,co37,eo37⟩:=Kd.Ah HO_13.out
              (first|subst eo37|(injection eo37 with f1_ f2_ f3_;have f4_:=f1_.symm;have f5_:=f3_.symm;clear f1_ f2_ f3_;subst f4_;subst f5_))
              refine st (T:=qh.T19) (B:=qh.B19) 18 (λw'=>w'.cell? (ad156.add (x15_4).toNat)=some (.slice (some ad165) (zt x1_1 x15_4).length c163_0)/\w'.cell? (ad156.add (x15_4).toNat)=some (.slice (some ad165) (zt x1_1 x15_4).length c163_0)/\w'.cell? (ad165.add (x10_1).toNat)=some (int i64 (rd (zt x1_1 x15_4) x10_1))) [15,16] (by kernel_rfl) (by kernel_rfl) (⟨hx163_0,hx164_0,hx165_0⟩) λhHeld HT_ HW_=>?_;generalize wr.drew=w36 at HO_1 HO_8 HO_9 HO_13 HO_14 HB HL163_0 HL164_0 HR163_0 HR164_0 hx163_0 hx164_0 hx165_0 hHeld ⊢;refine Et 0 61 1 62 HT_ ?_;refine Et 2 63 3 64 HT_ ?_;refine Et 4 65 6 67 HT_ ?_;refine Et 7 68 8 69 HT_ ?_;refine Et 10 71 13 74 HT_ ?_;refine tk 5 66 HT_ HW_ hHeld ?_;refine tk 9 70 HT_ HW_ hHeld ?_;refine pz 11 72 HT_ ?_;refine tk 12 73 HT_ HW_ hHeld ?_;refine on 14 (some 75) HT_ λK hK=>?_;refine gs_ Tryz.func128 #[int i64 a0,.slice (some ad165) (zt x1_1 x15_4).length c163_0,int i64 (rd (zt x1_1 x15_4) x10_1),.slice Ao37 t157.length co37] ?_
              with_reducible refine(zj.calls k4 a0 _ _ (zt x1_1 x15_4) (rd (zt x1_1 x15_4) x10_1) _ _ t157 t166 _ ?side1 ?side2 ?side3 ?side4 A34.out).mono ?_
              (case side1=>exact wC HR163_0)
              (case side2=>exact HC163_0.out)
              (case side3=>exact Kd.Ad (Kd.Ac HO_13.out).2.2 gs)
              (case side4=>exact(Kd.Ac HO_13.out).2.1)
              rintro e w38 ⟨v167,rfl,ho0,hb⟩;have HS0_:=(hb.cell (World.block_lt_of_cell? _ _ (hHeld.1))).trans (hHeld.1);have HS1_:=(hb.cell (World.block_lt_of_cell? _ _ (hHeld.2.1))).trans (hHeld.2.1);have HS2_:=(hb.cell (World.block_lt_of_cell? _ _ (hHeld.2.2))).trans (hHeld.2.2);refine⟨_,rfl,?_⟩;replace HO_1:=eV HO_1 (Kd.Am ho0) hb;replace HO_8:=eN HO_8 (Kd.Am ho0) hb;replace HO_14:=eN HO_14 (Kd.Am ho0) hb;have HO168:=am (Kd.Ai (Kd.AW (Kd.AW (Kd.BD (M:=λk_=>(w.heap.size<=k_)) ho0 (bz HB) (λk_ h_=>h_)) (Kd.R_lt (wR HO_9))) (Kd.R_lt (wR HO_13))) (bz HB));replace HO_9:=eR HO_9 (Kd.Am ho0) hb;replace HO_13:=eR HO_13 (Kd.Am ho0) hb;replace HB:=bq HB hb
              (try clear hb)
              (try clear hk)
              (try clear ho0)
              obtain⟨Ao40,co40,eo40⟩:=Kd.Ah HO168.out
              (first|subst eo40|(injection eo40 with f1_ f2_ f3_;have f4_:=f1_.symm;have f5_:=f3_.symm;clear f1_ f2_ f3_;subst f4_;subst f5_))
              refine hK.out _ _ ⟨HS0_,HS1_,HS2_⟩ λhHeld=>nz ?_;clear hK K;refine la 15 (some 76) HT_ λK hK=>?_;refine qbq (w1:=?_) (v:=?_) (by rfl) rfl ?_ ?_
              rotate_left 2
              ·go_simp
               constructor
               ·rfl
               ·rfl
              refine hK.out _ _ (nz ?_);clear hK K;refine la 16 (some 77) HT_ λK hK=>?_;refine Kd.BB KI (w0:=w) w.heap.size (by rfl) (.tmp 61) (.tmp 76) 24 37 (.slice none 0 0) 24 rfl Tryz.underlying24 Ja rfl (by decide) (by omega) u14 x14_4 t166 [.slice Ao40 t166.length co40] (λk_=>(P1_ k_\/w.heap.size<=k_)/\some k_≠(u8:Value).ownBlock/\some k_≠(u9:Value).ownBlock/\some k_≠(.slice Ao37 t157.length co37:Value).ownBlock) (λk_=>((λk_=>(P1_ k_\/w.heap.size<=k_)/\some k_≠(u8:Value).ownBlock/\some k_≠(u9:Value).ownBlock/\some k_≠(.slice Ao37 t157.length co37:Value).ownBlock)) k_/\some k_≠(u14:Value).ownBlock) rfl rfl ?aP (λ_ hk=>hk) ?aF ?aO ?aB ?aS ?aL ?_
              (case aP=>exact(Kd.Aw (Kd.Ac (Kd.Ae (ok':=(λk_=>((λk_=>(P1_ k_\/w.heap.size<=k_)/\some k_≠(u8:Value).ownBlock/\some k_≠(u9:Value).ownBlock/\some k_≠(.slice Ao37 t157.length co37:Value).ownBlock)) k_/\some k_≠(u14:Value).ownBlock)) (Kd.Ak (Kd.Ak (HO168.out) (Kd.Av HO_8.out) (by decide)) (Kd.Av HO_14.out) (by decide)) (λk_ hk=>⟨⟨(.inr (hk.1.1.1.1.1)),⟨hk.1.2,⟨hk.1.1.1.2,hk.1.1.2⟩⟩⟩,hk.2⟩))).2.1 (Kd.R_F (Kd.Ae (ok':=(λk_=>((λk_=>(P1_ k_\/w.heap.size<=k_)/\some k_≠(u8:Value).ownBlock/\some k_≠(u9:Value).ownBlock/\some k_≠(.slice Ao37 t157.length co37:Value).ownBlock)) k_/\some k_≠(u14:Value).ownBlock)) (Kd.Ak (Kd.Ak (HO168.out) (Kd.Av HO_8.out) (by decide)) (Kd.Av HO_14.out) (by decide)) (λk_ hk=>⟨⟨(.inr (hk.1.1.1.1.1)),⟨hk.1.2,⟨hk.1.1.1.2,hk.1.1.2⟩⟩⟩,hk.2⟩)))))
              (case aB=>exact(bw HB))
              (case aF=>exact(λk_ hk=>⟨(.inr (Nat.le_trans (bz HB) hk)),Kd.fresh' (Kd.N_lt (wN HO_8)) k_ hk,Kd.fresh' (Kd.R_lt (wR HO_9)) k_ hk,Kd.fresh' (Kd.R_lt (wR HO_13)) k_ hk⟩))
              (case aO=>exact(oN_ HO_14 (λ_ hk=>⟨hk.1.1,⟨hk.1.2.1,⟨hk.1.2.2.1,hk.1.2.2.2⟩⟩⟩)))
              (case aS=>exact(bz HB))
              (case aL=>have:=LMc35.out;omega)
              intro v170 w39 ho hb hg hat
              rw[<-Ny169.out]at ho;replace HO_1:=am (Kd.Bq (ok:=(λk_=>(P1_ k_\/w.heap.size<=k_)/\some k_≠(u8:Value).ownBlock/\some k_≠(u9:Value).ownBlock/\some k_≠(.slice Ao37 t157.length co37:Value).ownBlock/\some k_≠(.slice Ao40 t166.length co40:Value).ownBlock)) (oV_ HO_1 (λ_ hk=>⟨⟨hk.1.1,⟨hk.1.2.1,⟨hk.1.2.2.1,⟨hk.1.2.2.2.1,hk.2⟩⟩⟩⟩,hk.1.2.2.2.2⟩)) hg hat);replace HO_8:=am (Kd.Bh (ok:=(λk_=>(P1_ k_\/w.heap.size<=k_)/\some k_≠(u9:Value).ownBlock/\some k_≠(.slice Ao37 t157.length co37:Value).ownBlock/\some k_≠(.slice Ao40 t166.length co40:Value).ownBlock)) (oN_ HO_8 (λ_ hk=>⟨⟨hk.1.1,⟨hk.1.2.1,⟨hk.1.2.2.1,hk.2⟩⟩⟩,hk.1.2.2.2⟩)) hg hat);replace HO_9:=am (Kd.Bb (wR HO_9) (Kd.Av (wN HO_14)) (by decide) hg);replace HO_13:=am (Kd.Bb (wR HO_13) (Kd.Av (wN HO_14)) (by decide) hg);replace HB:=am (hb);have HO171:=am (ho);clear HO_14 HO168;clear ho hb hg hat
              refine hK.out _ _ (nz ?_);clear hK K;refine pz 17 14 HT_ ?_;refine Zh (Qe HT_.out (by kernel_rfl)) ?_
              try go_wp2
              go_roundg k4
              case measure=>have:=HK1.out;have:=HK2.out;have:=HJ8.out;have:=HK4.out;omega
              case rel=>exact⟨(y169),(wrap64 (x15_4+1)),fr,H',⟨by have:=HK1.out;have:=HK2.out;have:=HJ8.out;have:=HK4.out;omega⟩,⟨Kd.AC (Kd.AP HO_1.out (λ_ hk=>⟨hk.1.1,⟨hk.1.2.1,⟨hk.1.2.2.1,⟨hk.1.2.2.2.1,hk.2⟩⟩⟩⟩)) gs⟩,⟨Kd.AK (Kd.Ar HO_8.out (λ_ hk=>⟨hk.1.1,⟨hk.1.2.1,⟨hk.1.2.2.1,hk.2⟩⟩⟩)) gs⟩,⟨Kd.Af (Kd.Ae HO_9.out (λ_ hk=>⟨hk.1.1,hk.1.2⟩)) gs⟩,⟨Kd.Af (Kd.Ae HO_13.out (λ_ hk=>⟨hk.1.1,hk.1.2⟩)) gs⟩,⟨wN HO171⟩,⟨bw HB⟩⟩
            ·rw [if_neg c29] at H
             have c29b0:=decide_eq_false c29;clear c29;have H':=am H;clear H;go_wp2
             go_loopg [16] k4 (λkq v16 w'=>∃ (x8_5:List (List Int)) (x16_5:Int),v16=int i64 x16_5/\qf (qh.l3 kq a0 x14_4 a2 x8_5 x9_1 x10_1 t157 x16_5=some (r1,r2))/\qf (kq<=k4)/\qf (Kd.N KI 37 w' w.heap.size (λk_=>(P1_ k_\/w.heap.size<=k_)/\some k_≠(u8:Value).ownBlock/\some k_≠(u9:Value).ownBlock/\some k_≠(v158:Value).ownBlock) u14 x14_4)/\qf (Kd.N KI 37 w' w.heap.size (λk_=>(P1_ k_\/w.heap.size<=k_)/\some k_≠(u14:Value).ownBlock/\some k_≠(u9:Value).ownBlock/\some k_≠(v158:Value).ownBlock) u8 x8_5)/\qf (Kd.R (Kd.int i64) 3 w' w.heap.size (λk_=>(w.heap.size<=k_)/\some k_≠(v158:Value).ownBlock) u9 x9_1)/\qf (Kd.R (Kd.int i64) 3 w' w.heap.size (λk_=>(w.heap.size<=k_)/\some k_≠(u9:Value).ownBlock) v158 t157)/\qf (Below w.heap.size w w'))
             case atStart=>exact⟨(x8_1),(0),fr,H',⟨Nat.le_refl _⟩,⟨wN HO_14⟩,⟨Kd.AK (Kd.Ar HO_8.out (λ_ hk=>⟨hk.1,⟨hk.2.2.2,⟨hk.2.1,hk.2.2.1⟩⟩⟩)) gs⟩,⟨wR HO_9⟩,⟨wR HO_13⟩,⟨bw HB⟩⟩
             case round=>
              clear H';try clear c1;try clear p1;try clear q1;try clear hx1;try clear c2;try clear p2;try clear c3;try clear c6;try clear p6;try clear c8;try clear c8b0;try clear c9;try clear c10;try clear c10b0;try clear c12;try clear c13
              try clear c14;try clear c14b0;try clear c15;try clear c15b0;try clear p15;try clear q15;try clear hx15;try clear c16;try clear c16b0;try clear p16;try clear q16;try clear hx16;try clear c17;try clear c17b0;try clear c18;try clear c18b0
              try clear c18b1;try clear c21;try clear c21b0;try clear c22;try clear c22b0;try clear c23;try clear c23b0;try clear c29;try clear c29b0;try clear c30;try clear c30b0;try clear c30b1;try clear c31;try clear c31b0;try clear c32;try clear c32b0
              try clear c33;try clear c33b0;try clear c35;try clear hx154_0;try clear hx155_0;try clear hx156_0;try clear hx163_0;try clear hx164_0;try clear hx165_0;try clear p1;try clear p15;try clear p154;try clear p155;try clear p156;try clear p163
              try clear p164;try clear p165;try clear p2;try clear p6;try clear q1;try clear q15;try clear q154;try clear q155;try clear q156;try clear q163;try clear q164;try clear q165
              obtain⟨x8_5,x16_5,rfl,HA,HK5,HO_1,HO_8,HO_9,HO_13,HB⟩:=hrel
              cases gk with
              | zero=>exact absurd HA.out (by simp[qh.l3])
              | succ k5=>
               have H:=HA.out;clear HA;simp only[qh.l3]at H;replace H:=Eg H;rcases H with ⟨c41b0,H⟩|⟨c41b0,H⟩
               ·replace H:=Ef H;obtain⟨c42b0,H⟩:=H;replace H:=Ef H;obtain⟨c43b0,H⟩:=H;replace H:=ifn H;obtain⟨c44,H⟩:=H
                have c44b0:=decide_eq_true c44;clear c44;replace H:=bs H;obtain⟨t175,A45,H⟩:=H;generalize hy178:(x8_5.set (x16_5:Int).toNat t175:List (List Int))=y178 at H;have Ny178:=am hy178.symm;clear hy178;have H':=am H;clear H;obtain⟨Ao47,co47,eo47⟩:=Kd.AF HO_8.out;subst eo47
                try go_wp2
                replace HO_1:=am (Kd.Bc HO_1.out);replace HO_8:=am (Kd.Bc HO_8.out);replace HO_9:=am (Kd.Ay HO_9.out);replace HO_13:=am (Kd.Ay HO_13.out);replace HB:=am (Qn HB.out);have p172:0<=(x16_5:Int):=od;have q172:x16_5 < (x8_5.length:Int):=od;obtain⟨ad172,A172_0,c172_0,e172,hx172_0,hl172_0,hi172_0⟩:=qat (Kd.Az HO_8.out).2.2 x16_5 p172 q172
                cases e172
                obtain⟨ce172,hce172,hMe172,hcc172⟩:=Kd.CA HO_8.out [] x16_5 p172 (by first|exact q172|exact od|(have e_:=(Kd.Az HO_8.out).1;omega));obtain⟨ua172_0,uc172_0,rfl,ul172_0,ge172_0⟩:=Kd.Ax hMe172;have hv172_0:=hcc172 0 _ rfl;rw[Nat.add_zero,show (KI).sz=1 from rfl,Nat.mul_one]at hv172_0;replace hv172_0:=Option.some.inj (hv172_0.symm.trans hx172_0);injection hv172_0 with hva_ hvn_ hvc_
                rw[hva_]at ge172_0;rw[hvc_]at ul172_0;have HL172_0:=am (show Kd.V (Kd.int i64) 3 _ w.heap.size _ _ (zt x8_5 x16_5) from Kd.V_mk ul172_0 ge172_0);clear hva_ hvn_ hvc_ ge172_0 ul172_0;clear hcc172 hce172;have HR172_0:=am hi172_0;have HC172_0:=am hl172_0;clear hi172_0 hl172_0;replace p172:=eq_true p172;replace q172:=eq_true q172;have p173:0<=(x16_5:Int):=od;have q173:x16_5 < (x8_5.length:Int):=od;obtain⟨ad173,A173_0,c173_0,e173,hx173_0,hl173_0,hi173_0⟩:=qat (Kd.Az HO_8.out).2.2 x16_5 p173 q173;obtain rfl:ad172=ad173:=(by injection e173)
                obtain⟨ce173,hce173,hMe173,hcc173⟩:=Kd.CA HO_8.out [] x16_5 p173 (by first|exact q173|exact od|(have e_:=(Kd.Az HO_8.out).1;omega));obtain⟨ua173_0,uc173_0,rfl,ul173_0,ge173_0⟩:=Kd.Ax hMe173;have hv173_0:=hcc173 0 _ rfl;rw[Nat.add_zero,show (KI).sz=1 from rfl,Nat.mul_one]at hv173_0;replace hv173_0:=Option.some.inj (hv173_0.symm.trans hx173_0);injection hv173_0 with hva_ hvn_ hvc_
                rw[hva_]at ge173_0;rw[hvc_]at ul173_0;have HL173_0:=am (show Kd.V (Kd.int i64) 3 _ w.heap.size _ _ (zt x8_5 x16_5) from Kd.V_mk ul173_0 ge173_0);clear hva_ hvn_ hvc_ ge173_0 ul173_0;clear hcc173 hce173;have HR173_0:=am hi173_0;clear hi173_0 hl173_0;replace p173:=eq_true p173;replace q173:=eq_true q173;have ea_:=Option.some.inj (hx172_0.symm.trans hx173_0);injection ea_ with ea_ en_ ec_
                subst ea_;subst ec_;clear en_;obtain⟨ad174,e174,hx174_0,p174,q174⟩:=Es HR173_0.out x10_1 od od;cases e174
                obtain⟨Ao49,co49,eo49⟩:=Kd.Ah HO_13.out
                (first|subst eo49|(injection eo49 with f1_ f2_ f3_;have f4_:=f1_.symm;have f5_:=f3_.symm;clear f1_ f2_ f3_;subst f4_;subst f5_))
                refine st (T:=qh.T24) (B:=qh.B24) 18 (λw'=>w'.cell? (ad172.add (x16_5).toNat)=some (.slice (some ad174) (zt x8_5 x16_5).length c172_0)/\w'.cell? (ad172.add (x16_5).toNat)=some (.slice (some ad174) (zt x8_5 x16_5).length c172_0)/\w'.cell? (ad174.add (x10_1).toNat)=some (int i64 (rd (zt x8_5 x16_5) x10_1))) [17] (by kernel_rfl) (by kernel_rfl) (⟨hx172_0,hx173_0,hx174_0⟩) λhHeld HT_ HW_=>?_;generalize wr.drew=w48 at HO_1 HO_8 HO_9 HO_13 HB HL172_0 HL173_0 HR172_0 HR173_0 hx172_0 hx173_0 hx174_0 hHeld ⊢;refine Et 0 85 1 86 HT_ ?_;refine Et 2 87 3 88 HT_ ?_;refine Et 4 89 5 90 HT_ ?_;refine Et 7 92 8 93 HT_ ?_;refine Et 9 94 11 96 HT_ ?_;refine pz 14 99 HT_ ?_;refine tk 6 91 HT_ HW_ hHeld ?_;refine tk 10 95 HT_ HW_ hHeld ?_;refine pz 12 97 HT_ ?_;refine tk 13 98 HT_ HW_ hHeld ?_;refine on 15 (some 100) HT_ λK hK=>?_;refine gs_ Tryz.func128 #[int i64 a0,.slice (some ad174) (zt x8_5 x16_5).length c172_0,int i64 (rd (zt x8_5 x16_5) x10_1),.slice Ao49 t157.length co49] ?_
                with_reducible refine(zj.calls k5 a0 _ _ (zt x8_5 x16_5) (rd (zt x8_5 x16_5) x10_1) _ _ t157 t175 _ ?side1 ?side2 ?side3 ?side4 A45.out).mono ?_
                (case side1=>exact wC HR172_0)
                (case side2=>exact HC172_0.out)
                (case side3=>exact Kd.Ad (Kd.Ac HO_13.out).2.2 gs)
                (case side4=>exact(Kd.Ac HO_13.out).2.1)
                rintro e w50 ⟨v176,rfl,ho0,hb⟩;have HS0_:=(hb.cell (World.block_lt_of_cell? _ _ (hHeld.1))).trans (hHeld.1);have HS1_:=(hb.cell (World.block_lt_of_cell? _ _ (hHeld.2.1))).trans (hHeld.2.1);have HS2_:=(hb.cell (World.block_lt_of_cell? _ _ (hHeld.2.2))).trans (hHeld.2.2);refine⟨_,rfl,?_⟩;replace HO_1:=eN HO_1 (Kd.Am ho0) hb;replace HO_8:=eN HO_8 (Kd.Am ho0) hb;have HO177:=am (Kd.Ai (Kd.AW (Kd.AW (Kd.BD (M:=λk_=>(w.heap.size<=k_)) ho0 (bz HB) (λk_ h_=>h_)) (Kd.R_lt (wR HO_9))) (Kd.R_lt (wR HO_13))) (bz HB));replace HO_9:=eR HO_9 (Kd.Am ho0) hb;replace HO_13:=eR HO_13 (Kd.Am ho0) hb;replace HB:=bq HB hb
                (try clear hb)
                (try clear hk)
                (try clear ho0)
                have p46:0<=(x16_5:Int):=od;have q46:(x16_5:Int) < ((x8_5.length:Int):Int):=od;obtain⟨go46,co46,eo46,gb46,gl46,cl46,HG46⟩:=Kd.Cl HO_8.out (by omega)
                (first|cases eo46|(injection eo46 with ea_ en_ ec_;(first|subst ea_|(injection ea_ with ea_;subst ea_));subst ec_;clear en_))
                have GB46:=am gb46;have GG46:=am HG46;clear gb46 gl46 HG46
                (first|simp only[Jz]at hx172_0|skip)
                (first|simp only[Jz]at hx173_0|skip)
                obtain⟨ce46,hcl46,hM46,hcc46,hfr46⟩:=Kd.C8 HO_8.out [] (x16_5:Int) p46 q46;obtain⟨ua46_0,uc46_0,rfl,ul46_0,ge46_0⟩:=Kd.Ax hM46;have hx46_0:=hcc46 0 _ rfl;have hf46_0:=hfr46 0
                (try simp only[show (KI).sz=1 from rfl,Nat.mul_one,Nat.add_zero]at hx46_0)
                (try simp only[show (KI).sz=1 from rfl,Nat.mul_one,Nat.add_zero]at hf46_0)
                clear hcl46 hcc46 hfr46 hM46;replace p46:=eq_true p46;replace q46:=eq_true q46;obtain⟨Ao51,co51,eo51⟩:=Kd.Ah HO177.out
                (first|subst eo51|(injection eo51 with f1_ f2_ f3_;have f4_:=f1_.symm;have f5_:=f3_.symm;clear f1_ f2_ f3_;subst f4_;subst f5_))
                have HX52:=am (show Kd.N KI 37 _ w.heap.size (λk_=>(P1_ k_\/w.heap.size<=k_)/\some k_≠(u14:Value).ownBlock/\some k_≠(u9:Value).ownBlock/\some k_≠(.slice Ao49 t157.length co49:Value).ownBlock/\some k_≠(.slice Ao51 t175.length co51:Value).ownBlock) (.slice (some ⟨go46,0,none⟩) x8_5.length co47) x8_5 from (Kd.Ar (HO_8.out) (λk_ hk=>⟨hk.1.1,⟨hk.1.2.1,⟨hk.1.2.2.1,⟨hk.1.2.2.2,hk.2⟩⟩⟩⟩)));replace HX52:=am (show Kd.N KI 37 _ w.heap.size (λk_=>(P1_ k_\/w.heap.size<=k_)/\some k_≠(u14:Value).ownBlock/\some k_≠(u9:Value).ownBlock/\some k_≠(.slice Ao49 t157.length co49:Value).ownBlock) (.slice (some ⟨go46,0,none⟩) x8_5.length co47) x8_5 from Kd.Ar HX52.out (λk_ hk=>⟨hk.1,⟨hk.2.1,⟨hk.2.2.1,hk.2.2.2.1⟩⟩⟩));obtain⟨ce52,hcl52,hM52,hcc52,hfr52⟩:=Kd.C8 HX52.out [] (x16_5:Int) (od) (by have h_:(x16_5:Int) < ((x8_5.length:Int):Int):=od;first|exact h_|(have e_:=(Kd.Az HO_8.out).1;omega)|simpa using h_);obtain⟨ua52_0,uc52_0,rfl,ul52_0,ge52_0⟩:=Kd.Ax hM52;have HP52:=(Kd.N_seg HX52.out (x16_5:Int) (od) (by have h_:(x16_5:Int) < ((x8_5.length:Int):Int):=od;first|exact h_|(have e_:=(Kd.Az HO_8.out).1;omega)|simpa using h_) (seg:=[.slice Ao51 t175.length co51]) (j:=0) hcl52 hcc52 (show 1<=1 from by decide) (x':=t175) (Kd.Aw (Kd.Ac (Kd.Ae (ok':=(λk_=>((λk_=>(P1_ k_\/w.heap.size<=k_)/\some k_≠(u14:Value).ownBlock/\some k_≠(u9:Value).ownBlock/\some k_≠(.slice Ao49 t157.length co49:Value).ownBlock)) k_/\k_≠go46)) (Kd.Ak (Kd.Ak (HO177.out) (Kd.Av HO_1.out) (by decide)) (Kd.Av HO_8.out) (by decide)) (λk_ hk=>⟨⟨(.inr (hk.1.1.1.1.1)),⟨hk.1.2,⟨hk.1.1.1.2,hk.1.1.2⟩⟩⟩,λe_=>(hk.2) (by rw[e_];rfl)⟩))).2.1 (Kd.R_F (Kd.Ae (ok':=(λk_=>((λk_=>(P1_ k_\/w.heap.size<=k_)/\some k_≠(u14:Value).ownBlock/\some k_≠(u9:Value).ownBlock/\some k_≠(.slice Ao49 t157.length co49:Value).ownBlock)) k_/\k_≠go46)) (Kd.Ak (Kd.Ak (HO177.out) (Kd.Av HO_1.out) (by decide)) (Kd.Av HO_8.out) (by decide)) (λk_ hk=>⟨⟨(.inr (hk.1.1.1.1.1)),⟨hk.1.2,⟨hk.1.1.1.2,hk.1.1.2⟩⟩⟩,λe_=>(hk.2) (by rw[e_];rfl)⟩)))) (λ_ hk=>hk)).1
                (try simp only[show (KI).sz=1 from rfl,Nat.mul_one,Nat.add_zero]at HP52)
                rw[<-Ny178.out]at HP52;have HQ52:=am HP52;clear hcl52 hcc52 hfr52 hM52 HP52;refine hK.out _ _ ⟨HS0_,HS1_,HS2_⟩ λhHeld=>nz ?_;clear hK K;refine pz 16 101 HT_ ?_;refine la 17 none HT_ λK hK=>?_;refine qhh (w1:=?_) (by rfl) rfl ?_ ?_
                rotate_left
                ·go_simp
                 rfl
                refine hK.out _ _ ?_;clear hK K;refine Zh (Qe HT_.out (by kernel_rfl)) ?_
                try go_wp2
                go_roundg k5
                case measure=>have:=HK1.out;have:=HK2.out;have:=HJ8.out;have:=HK4.out;have:=HK5.out;omega
                case rel=>exact⟨(y178),(wrap64 (x16_5+1)),fr,H',⟨by have:=HK1.out;have:=HK2.out;have:=HJ8.out;have:=HK4.out;have:=HK5.out;omega⟩,⟨by (with_reducible repeat (first|apply Kd.Bu|apply Kd.Bw|apply Kd.Bc));exact Kd.Ar (Kd.CW (p:=⟨go46,(x16_5:Int).toNat,none⟩) (Kd.Ar HO_1.out (λk_ hk=>(⟨hk,λe_=>hk.1.2.1 (by rw[e_];rfl)⟩:_/\k_≠go46))) (λ_ hk=>hk.2) (.slice Ao51 t175.length co51)) (λ_ hk=>⟨hk.1.1.1,⟨hk.1.1.2.1,⟨hk.1.1.2.2.1,hk.1.1.2.2.2⟩⟩⟩)⟩,⟨wN HQ52⟩,⟨by (with_reducible repeat (first|apply Kd.AN|apply Kd.AM|apply Kd.Ay));exact Kd.Ae (Kd.AZ (p:=⟨go46,(x16_5:Int).toNat,none⟩) (Kd.BA HO_9.out GG46.out (by decide)) (λ_ hk=>hk.2) (.slice Ao51 t175.length co51)) (λ_ hk=>⟨hk.1.1.1,hk.1.1.2⟩)⟩,⟨by (with_reducible repeat (first|apply Kd.AN|apply Kd.AM|apply Kd.Ay));exact Kd.Ae (Kd.AZ (p:=⟨go46,(x16_5:Int).toNat,none⟩) (Kd.BA HO_13.out GG46.out (by decide)) (λ_ hk=>hk.2) (.slice Ao51 t175.length co51)) (λ_ hk=>⟨hk.1.1.1,hk.1.1.2⟩)⟩,⟨bx_ HB⟩⟩
               ·replace H:=ifn H;obtain⟨c53,H⟩:=H;have LMc53:=am c53;clear c53
                generalize hy179:(x8_5++[t157]:List (List Int))=y179 at H;have Ny179:=am hy179.symm;clear hy179;replace H:=ifn H;obtain⟨c54,H⟩:=H;have LMc54:=am c54;clear c54;generalize hy182:(x9_1++[x10_1]:List Int)=y182 at H;have Ny182:=am hy182.symm;clear hy182;have H':=am H;clear H;obtain⟨Ao55,co55,eo55⟩:=Kd.AF HO_8.out;subst eo55;obtain⟨Ao57,co57,eo57⟩:=Kd.Ah HO_13.out;subst eo57
                go_wp2_with (first|((with_reducible refine jz (b:=.append) (xs:=#[.tmp 102,.tmp 104]) rfl ?_);at_builtin;refine Kd.B9 KI (w0:=w) w.heap.size rfl (.tmp 102) (.tmp 104) 24 37 (.slice none 0 0) 24 rfl Tryz.underlying24 Ja rfl (by decide) (by omega) (.slice Ao55 x8_5.length co55) x8_5 t157 [.slice Ao57 t157.length co57] (λk_=>(P1_ k_\/w.heap.size<=k_)/\some k_≠(u14:Value).ownBlock/\some k_≠(u9:Value).ownBlock) (λk_=>((λk_=>(P1_ k_\/w.heap.size<=k_)/\some k_≠(u14:Value).ownBlock/\some k_≠(u9:Value).ownBlock)) k_/\some k_≠(.slice Ao55 x8_5.length co55:Value).ownBlock) rfl rfl ?aP (λ_ hk=>hk) ?aF ?aO ?aB ?aS ?aL ?_;(case aP=>exact(Kd.Aw (Kd.Ac (Kd.Ae (ok':=(λk_=>((λk_=>(P1_ k_\/w.heap.size<=k_)/\some k_≠(u14:Value).ownBlock/\some k_≠(u9:Value).ownBlock)) k_/\some k_≠(.slice Ao55 x8_5.length co55:Value).ownBlock)) (Kd.Ak (Kd.Ak (HO_13.out) (Kd.Av HO_1.out) (by decide)) (Kd.Av HO_8.out) (by decide)) (λk_ hk=>⟨⟨(.inr (hk.1.1.1)),⟨hk.1.2,hk.1.1.2⟩⟩,hk.2⟩))).2.1 (Kd.R_F (Kd.Ae (ok':=(λk_=>((λk_=>(P1_ k_\/w.heap.size<=k_)/\some k_≠(u14:Value).ownBlock/\some k_≠(u9:Value).ownBlock)) k_/\some k_≠(.slice Ao55 x8_5.length co55:Value).ownBlock)) (Kd.Ak (Kd.Ak (HO_13.out) (Kd.Av HO_1.out) (by decide)) (Kd.Av HO_8.out) (by decide)) (λk_ hk=>⟨⟨(.inr (hk.1.1.1)),⟨hk.1.2,hk.1.1.2⟩⟩,hk.2⟩)))));(case aB=>exact(bw HB));(case aF=>exact(λk_ hk=>⟨(.inr (Nat.le_trans (bz HB) hk)),Kd.fresh' (Kd.N_lt (wN HO_1)) k_ hk,Kd.fresh' (Kd.R_lt (wR HO_9)) k_ hk⟩));(case aO=>exact(oN_ HO_8 (λ_ hk=>⟨hk.1,⟨hk.2.1,hk.2.2.1⟩⟩)));(case aS=>exact(bz HB));(case aL=>have:=LMc53.out;omega);intro v180 w56 ho hb hg hat;rw[<-Ny179.out]at ho;replace HO_1:=am (Kd.Bh (ok:=(λk_=>(P1_ k_\/w.heap.size<=k_)/\some k_≠(u9:Value).ownBlock/\some k_≠(.slice Ao57 t157.length co57:Value).ownBlock)) (oN_ HO_1 (λ_ hk=>⟨⟨hk.1,⟨hk.2.2.1,hk.2.2.2⟩⟩,hk.2.1⟩)) hg hat);replace HO_9:=am (Kd.Bb (wR HO_9) (Kd.Av (wN HO_8)) (by decide) hg);replace HB:=am (hb);have HO181:=am (ho);clear HO_8 HO_13;clear ho hb hg hat)|((with_reducible refine jz (b:=.append) (xs:=#[.tmp 106,.tmp 108]) rfl ?_);at_builtin;refine Kd.Au (Kd.int i64) (w0:=w) w.heap.size rfl (.tmp 106) (.tmp 108) 37 3 (int i64 0) 8 rfl Tryz.underlying37 Ju rfl (by decide) (by omega) u9 x9_1 x10_1 [int i64 x10_1] (λk_=>(w.heap.size<=k_)) (λ_=>False) rfl rfl ?aP (λ_ hk=>hk.elim) ?aF ?aO ?aB ?aS ?aL ?_;(case aP=>exact rfl);(case aB=>exact(bw HB));(case aF=>exact(λk_ hk=>(Nat.le_trans (bz HB) hk)));(case aO=>exact(oR_ HO_9 (λ_ hk=>hk.1)));(case aS=>exact(bz HB));(case aL=>have:=LMc54.out;omega);intro v183 w58 ho hb hg hat;rw[<-Ny182.out]at ho;replace HO_1:=am (Kd.Bh (ok:=(λk_=>(P1_ k_\/w.heap.size<=k_)/\some k_≠(v180:Value).ownBlock)) (oN_ HO_1 (λ_ hk=>⟨⟨hk.1.1,hk.2⟩,hk.1.2.1⟩)) hg hat);replace HO181:=am (Kd.Bh (ok:=(λk_=>(P1_ k_\/w.heap.size<=k_)/\some k_≠(u14:Value).ownBlock)) (oN_ HO181 (λ_ hk=>⟨⟨hk.1,hk.2.1⟩,hk.2.2⟩)) hg hat);replace HB:=am (hb);have HO184:=am (ho);clear HO_9;clear ho hb hg hat))
                go_roundg k5
                case measure=>have:=HK1.out;have:=HK2.out;have:=HJ8.out;have:=HK4.out;have:=HK5.out;omega
                case rel=>exact⟨(x14_4),(y179),(y182),(wrap64 (x10_1+1)),fr,H',⟨by have:=HK1.out;have:=HK2.out;have:=HJ8.out;have:=HK4.out;have:=HK5.out;omega⟩,⟨Kd.N_V (oN_ HO_1 (λ_ hk=>⟨hk.1.1,⟨hk.1.2,hk.2⟩⟩))⟩,⟨Kd.AK (Kd.Ar HO181.out (λ_ hk=>⟨hk.1.1,hk.2⟩)) gs⟩,⟨wR HO184⟩,⟨bw HB⟩⟩
   ·rw[if_neg c8]at H
    have c8b0:=decide_eq_false c8;clear c8;simp only[Option.some.injEq,Prod.mk.injEq]at H;obtain⟨rfl,rfl⟩:=H;go_wp2
    go_ret2
    exact⟨_,_,fq,wN HO_8,wR HO_9,bw HB⟩
mutual
def qr.l0 :Nat->Int->Int->List (List Int)->List Int->List (List Int)->Int->Int->Option ((List (List Int)))
 | 0,_,_,_,_,_,_,_=>none
 | k+1,x0,x2,x7,x8,x9,x10,x11=>if x11 < x2 then (if x10 < (x8.length:Int) then (if 0<=x10 then (qr.j1 k x0 x2 x7 x8 x9 x10 x11 ((rd x8 x10) == x11)) else (none)) else (qr.j1 k x0 x2 x7 x8 x9 x10 x11 false)) else ((qh.f k x0 x9 x2).bind λbt194=>(some bt194.1))
def qr.j1 :Nat->Int->Int->List (List Int)->List Int->List (List Int)->Int->Int->Bool->Option ((List (List Int)))
 | 0,_,_,_,_,_,_,_,_=>none
 | k+1,x0,x2,x7,x8,x9,x10,x11,x40=>if x40=true then (qr.l0 k x0 x2 x7 x8 x9 (wrap64 (x10+1)) (wrap64 (x11+1))) else (if 0<=x2 then (if (x2:Int).toNat<=35184372088832 then ((some (List.replicate (x2:Int).toNat 0:List Int)).bind λy201=>(if 0<=x11 then (if x11 < (y201.length:Int) then (qr.l1 k x0 x2 x7 x8 x9 x10 x11 (y201.set (x11:Int).toNat 1) 0) else (none)) else (none))) else (none)) else (none))
def qr.l1 :Nat->Int->Int->List (List Int)->List Int->List (List Int)->Int->Int->List Int->Int->Option ((List (List Int)))
 | 0,_,_,_,_,_,_,_,_,_=>none
 | k+1,x0,x2,x7,x8,x9,x10,x11,x12,x13=>if x13 < (x8.length:Int) then (if 0<=x13 then (if x13 < (x7.length:Int) then (if 0<=x11 then (if x11 < ((zt x7 x13).length:Int) then ((Q9.f x0 (wrap64 (-(rd (zt x7 x13) x11)))).bind λt208=>(if 0<=(rd x8 x13) then (if (rd x8 x13) < (x12.length:Int) then (qr.l1 k x0 x2 x7 x8 x9 x10 x11 (x12.set ((rd x8 x13):Int).toNat t208) (wrap64 (x13+1))) else (none)) else (none))) else (none)) else (none)) else (none)) else (none)) else (if x9.length < 5864062014805 then (qr.l0 k x0 x2 x7 x8 (x9++[x12]) x10 (wrap64 (x11+1))) else (none))
end
def qr.f (k:Nat) (a0:Int) (l1:List (List Int)) (a2:Int):Option ((List (List Int))):=(qh.f k a0 l1 a2).bind λbt185=>(qr.l0 k a0 a2 bt185.1 bt185.2 (([]:List (List Int))) 0 0)
theorem qr.Ag :∀ k,(∀ y0 y1 y2 y3 y4 y5 y6,LeO (qr.l0 k y0 y1 y2 y3 y4 y5 y6) (qr.l0 (k+1) y0 y1 y2 y3 y4 y5 y6))/\(∀ y0 y1 y2 y3 y4 y5 y6 y7,LeO (qr.j1 k y0 y1 y2 y3 y4 y5 y6 y7) (qr.j1 (k+1) y0 y1 y2 y3 y4 y5 y6 y7))/\(∀ y0 y1 y2 y3 y4 y5 y6 y7 y8,LeO (qr.l1 k y0 y1 y2 y3 y4 y5 y6 y7 y8) (qr.l1 (k+1) y0 y1 y2 y3 y4 y5 y6 y7 y8))
 | 0=>⟨λ_ _ _ _ _ _ _ r h=>by simp[qr.l0]at h,λ_ _ _ _ _ _ _ _ r h=>by simp[qr.j1]at h,λ_ _ _ _ _ _ _ _ _ r h=>by simp[qr.l1]at h⟩
 | k+1=>by
  obtain⟨ih0,ih1,ih2⟩:=qr.Ag k;refine⟨?_,?_,?_⟩
  ·intro y0 y1 y2 y3 y4 y5 y6
   unfold qr.l0
   repeat' with_reducible first|intro _|apply ih0|apply ih1|apply ih2|apply qh.mono|apply Eb|apply Ec|apply Ed|apply Ee
  ·intro y0 y1 y2 y3 y4 y5 y6 y7
   unfold qr.j1
   repeat' with_reducible first|intro _|apply ih0|apply ih1|apply ih2|apply qh.mono|apply Eb|apply Ec|apply Ed|apply Ee
  ·intro y0 y1 y2 y3 y4 y5 y6 y7 y8
   unfold qr.l1
   repeat' with_reducible first|intro _|apply ih0|apply ih1|apply ih2|apply qh.mono|apply Eb|apply Ec|apply Ed|apply Ee
theorem qr.mono (a0 a1 a2 k):LeO (qr.f k a0 a1 a2) (qr.f (k+1) a0 a1 a2):=by
 obtain⟨ih0,ih1,ih2⟩:=qr.Ag k;unfold qr.f
 repeat' with_reducible first|intro _|apply ih0|apply ih1|apply ih2|apply qh.mono|apply Eb|apply Ec|apply Ed|apply Ee
def qr.T14 :Bool×List (List Nat×List Nat):=(true,[([],[]),([],[]),([],[]),([1,2],[1,2]),([3],[3]),([],[]),([],[]),([],[]),([6,7],[6,7]),([8],[8]),([],[]),([9,10],[9,10]),([11],[11]),([12],[12]),([5,13],[5,13]),([0,4,0,1,2,3,4,5,6,7,8,9,10,11,12,13,14],[0,4]),([15,14,14,0,1,2,3,4,5,6,7,8,9,10,11,12,13,14],[14,15])])
def qr.B14 :List Nat:=[0,0,0,6,14,0,0,0,192,448,0,1984,4032,8128,16352,32767,65535]
set_option maxHeartbeats 8000000 in
set_option maxRecDepth 100000 in
theorem qr.calls (k:Nat) (a0:Int) (P1_:Nat->Prop) (A1:Option Addr) (c1:Nat) (l1:List (List Int)) (a2:Int) (r:List (List Int)) (w:World) (hs1:Kd.V KI 37 w w.heap.size (λk_=>P1_ k_) (.slice A1 l1.length c1) l1) (h:qr.f k a0 l1 a2=some r):
  Calls Tryz.prog 49 #[int i64 a0,.slice A1 l1.length c1,int i64 a2] w λe w'=>∃ v0_:Value,e=.returned (v0_)/\Kd.N KI 37 w' w.heap.size (λk_=>(P1_ k_\/w.heap.size<=k_)) v0_ r/\Below w.heap.size w w':=by
 have HO1:=am (show Kd.V KI 37 w w.heap.size (λk_=>(P1_ k_\/w.heap.size<=k_)) (.slice A1 l1.length c1) l1 from Kd.AP hs1 (λk_ hk=>.inl hk));have HB:=Em w;have H:=h;unfold qr.f at H;clear h;replace H:=bs H;obtain⟨⟨t185,t188⟩,A4,H⟩:=H;dsimp only at H;generalize hy191:(([]:List (List Int)))=y191 at H;have Ny191:=am hy191.symm;clear hy191;have H':=am H;clear H;go_enter Tryz.func49,Tryz.ntmps49
 go_wp2_with (first|((with_reducible refine za (f:=98) rfl ?_);refine gl 20 Tryz.func98 #[int i64 a0,.slice A1 l1.length c1,int i64 a2] ?_;(with_reducible refine(qh.calls k a0 (λk_=>(P1_ k_\/w.heap.size<=k_)) _ _ l1 a2 t185 t188 _ ?_ A4.out).mono ?_);exact HO1.out;rintro e w5 ⟨v186,v189,rfl,ho0,ho1,hb⟩;refine⟨_,rfl,?_⟩;replace HO1:=am (Kd.AP (Kd.CR (Kd.CR (Kd.V_old (wV HO1) hb) (Kd.AH ho0)) (Kd.Am ho1)) (λ_ h_=>h_.1));have HO187:=am (Kd.AG (Kd.Ar (ok':=λk_=>(P1_ k_\/w.heap.size<=k_)/\some k_≠(v189:Value).ownBlock) ho0 (λk_ hk_=>⟨Or.elim hk_.1 (λhs_=>hs_) (λhn_=>(.inr (Nat.le_trans (bz HB) hn_))),hk_.2⟩)) (bz HB));have HO190:=am (Kd.Ai (Kd.BD (M:=λk_=>(w.heap.size<=k_)) (Kd.Ae (ok':=λk_=>True) ho1 (λ_ hk_=>trivial)) (bz HB) (λk_ h_=>h_)) (bz HB));replace HB:=bq HB hb;(try clear hb);(try clear ho0);(try clear ho1))|((with_reducible refine zd (N:=23) rfl ?_);refine Kd.Cj KI _ 37 ?hg (N':=23) ?hd (xs:=([]:List (List Int))) (inner:=[]) (ok:=(λk_=>(P1_ k_\/w.heap.size<=k_)/\some k_≠(v186:Value).ownBlock/\some k_≠(v189:Value).ownBlock)) (okp:=(λk_=>(P1_ k_\/w.heap.size<=k_)/\some k_≠(v186:Value).ownBlock/\some k_≠(v189:Value).ownBlock)) ?hr ?hp (λ_ hk=>hk) ((show ∀ k_,w5.heap.size<=k_->(λk_=>(P1_ k_\/w.heap.size<=k_)/\some k_≠(v186:Value).ownBlock/\some k_≠(v189:Value).ownBlock) k_ from λk_ hk=>⟨(.inr (Nat.le_trans (bz HB) hk)),Kd.fresh' (Kd.N_lt (wN HO187)) k_ hk,Kd.fresh' (Kd.R_lt (wR HO190)) k_ hk⟩) _ (Nat.le_refl _)) (Below.refl _ _) (Nat.le_refl _) (by simp) ?_;(case hd=>rfl);(case hg=>rfl);(case hr=>first|(go_simp;done)|(go_simp;rfl));(case hp=>exact(Reps.none _ _));intro v192 w6 ho7 hb hg_ hnew_;clear hg_ hnew_;rw[<-Ny191.out]at ho7;replace HO1:=eV HO1 (Kd.AH ho7) hb;replace HO187:=eN HO187 (Kd.AH ho7) hb;replace HO190:=am (Kd.Af (wR HO190) hb);have HO193:=am (Kd.AG ho7 (bz HB));replace HB:=bq HB hb;clear hb ho7))
 go_loopg [9,10,11] k (λkq v9 v10 v11 w'=>∃ (x8_1:List Int) (x9_1:List (List Int)) (x10_1:Int) (x11_1:Int),v10=int i64 x10_1/\v11=int i64 x11_1/\qf (qr.l0 kq a0 a2 t185 x8_1 x9_1 x10_1 x11_1=some r)/\qf (kq<=k)/\qf (Kd.N KI 37 w' w.heap.size (λk_=>(P1_ k_\/w.heap.size<=k_)/\some k_≠(v189:Value).ownBlock/\some k_≠(v9:Value).ownBlock) v186 t185)/\qf (Kd.R (Kd.int i64) 3 w' w.heap.size (λk_=>(w.heap.size<=k_)) v189 x8_1)/\qf (Kd.N KI 37 w' w.heap.size (λk_=>(P1_ k_\/w.heap.size<=k_)/\some k_≠(v186:Value).ownBlock/\some k_≠(v189:Value).ownBlock) v9 x9_1)/\qf (Below w.heap.size w w'))
 case atStart=>exact⟨(t188),(y191),(0),(0),fr,fr,H',⟨Nat.le_refl _⟩,⟨Kd.AK (Kd.Ar HO187.out (λ_ hk=>⟨hk.1.1,⟨hk.1.2,hk.2⟩⟩)) gs⟩,⟨Kd.Af (Kd.Ae HO190.out (λ_ hk=>hk.1)) gs⟩,⟨wN HO193⟩,⟨bw HB⟩⟩
 case round=>
  clear H';try clear c1;try clear p2;try clear c4
  obtain⟨x8_1,x9_1,x10_1,x11_1,rfl,rfl,HA,HK1,HO_7,HO_8,HO_9,HB⟩:=hrel
  cases gk with
  | zero=>exact absurd HA.out (by simp[qr.l0])
  | succ k1=>
   have H:=HA.out;clear HA;simp only[qr.l0]at H
   by_cases c8:x11_1 < a2
   ·rw [if_pos c8] at H
    have c8b0:=decide_eq_true c8;clear c8;have HC9:=am H;clear H
    go_upto_region 7 with (fail)
    go_cut [40] (λv40 wc=>∃ (kq:Nat) (x40_8:Bool),v40=.bool x40_8/\qf (qr.j1 kq a0 a2 t185 x8_1 x9_1 x10_1 x11_1 x40_8=some r)/\qf (kq<=k1)/\qf (Kd.N KI 37 wc w.heap.size (λk_=>(P1_ k_\/w.heap.size<=k_)/\some k_≠(v189:Value).ownBlock/\some k_≠(u9:Value).ownBlock) v186 t185)/\qf (Kd.R (Kd.int i64) 3 wc w.heap.size (λk_=>(w.heap.size<=k_)) v189 x8_1)/\qf (Kd.N KI 37 wc w.heap.size (λk_=>(P1_ k_\/w.heap.size<=k_)/\some k_≠(v186:Value).ownBlock/\some k_≠(v189:Value).ownBlock) u9 x9_1)/\qf (Below w.heap.size w wc))
    case first=>
     have H:=HC9.out;clear HC9
     by_cases c10:x10_1 < (x8_1.length:Int)
     ·rw[if_pos c10]at H
      have c10b0:=decide_eq_true c10;clear c10
      (first|rw[c10b0]|(simp only[qa6,qb3];rw[c10b0])|skip)
      replace H:=Ef H;obtain⟨c11b0,H⟩:=H;have H':=am H;clear H;obtain⟨Ao12,co12,eo12⟩:=Kd.Ah HO_8.out;subst eo12;have p200:0<=(x10_1:Int):=od;have q200:x10_1 < (x8_1.length:Int):=od;obtain⟨ad200,e200,hx200_0⟩:=Kd.Aj (Kd.Ac HO_8.out).2.2 x10_1 p200 q200
      cases e200;replace p200:=eq_true p200;replace q200:=eq_true q200;go_wp2
      go_meet
      case rel=>exact⟨_,(((rd x8_1 x10_1) == x11_1)),fr,H',⟨by have:=HK1.out;first|omega|exact Nat.le_refl _⟩,⟨wN HO_7⟩,⟨wR HO_8⟩,⟨wN HO_9⟩,⟨bw HB⟩⟩
     ·rw[if_neg c10]at H
      have c10b0:=decide_eq_false c10;clear c10
      (first|rw[c10b0]|(simp only[qa6,qb3];rw[c10b0])|skip)
      have H':=am H;clear H;obtain⟨Ao13,co13,eo13⟩:=Kd.Ah HO_8.out;subst eo13;go_wp2
      go_meet
      case rel=>exact⟨_,(false),fr,H',⟨by have:=HK1.out;first|omega|exact Nat.le_refl _⟩,⟨wN HO_7⟩,⟨wR HO_8⟩,⟨wN HO_9⟩,⟨bw HB⟩⟩
    case rest=>
     clear HC9;try clear c1;try clear p2;try clear q2;try clear hx2;try clear c4;try clear c8;try clear c8b0;try clear c9;try clear c10;try clear c10b0;try clear c11;try clear c11b0;try clear hx200_0;try clear p2;try clear p200;try clear q200
     obtain⟨kq,x40_8,rfl,HA,HJ8,HO_7,HO_8,HO_9,HB⟩:=hcut
     cases kq with
     | zero=>exact absurd HA.out (by simp[qr.j1])
     | succ kj8=>
      have H:=HA.out;clear HA;simp only[qr.j1]at H
      by_cases c14:x40_8=true
      ·subst c14
       rw[if_pos rfl]at H;have H':=am H;clear H;go_wp2
       go_roundg kj8
       case measure=>have:=HK1.out;have:=HJ8.out;omega
       case rel=>exact⟨(x8_1),(x9_1),(wrap64 (x10_1+1)),(wrap64 (x11_1+1)),fr,fr,H',⟨by have:=HK1.out;have:=HJ8.out;omega⟩,⟨wN HO_7⟩,⟨wR HO_8⟩,⟨wN HO_9⟩,⟨bw HB⟩⟩
      ·replace c14:=Bool.eq_false_iff.mpr c14
       subst c14;rw[if_neg (show ¬ (false=true) by decide)]at H;replace H:=ifn H;obtain⟨c15,H⟩:=H;have c15b0:=eq_true c15;have c15b1:=decide_eq_true c15;clear c15;replace H:=ifn H;obtain⟨c16,H⟩:=H;have c16b0:=eq_true c16;have c16b1:=decide_eq_true c16;clear c16;replace H:=bsy H;obtain⟨y201,Ny201,H⟩:=H;replace H:=Ef H;obtain⟨c17b0,H⟩:=H;replace H:=Ef H;obtain⟨c18b0,H⟩:=H;generalize hy204:(y201.set (x11_1:Int).toNat 1:List Int)=y204 at H;have Ny204:=am hy204.symm;clear hy204;have H':=am H;clear H
       go_wp2_with (first|((with_reducible refine zd (N:=44) rfl ?_);refine Kd.C7 (Kd.int i64) _ 3 rfl (N:=44) rfl 37 _ _ rfl a2 rfl rfl Tryz.underlying37 (int i64 0) 8 Ju rfl (by decide) (by omega) 0 (ok:=λ_=>True) (okp:=λ_=>True) rfl (λ_ hk=>hk) trivial (od) (Nat.le_trans (Nat.mul_le_mul_right _ (od:a2.toNat<=35184372088832)) (by omega)) (Below.refl _ _) (Nat.le_refl _) ?_;intro v202 w20 ho21 hb hg_ hnew_;clear hg_ hnew_;rw[<-Ny201.out]at ho21;replace HO_7:=eN HO_7 (Kd.Am ho21) hb;replace HO_9:=eN HO_9 (Kd.Am ho21) hb;have HO203:=am (Kd.Ai (Kd.AW (Kd.BD (M:=λk_=>(w.heap.size<=k_)) ho21 (bz HB) (λk_ h_=>h_)) (Kd.R_lt (wR HO_8))) (bz HB));replace HO_8:=eR HO_8 (Kd.Am ho21) hb;replace HB:=bq HB hb;clear hb ho21;have p19:0<=(x11_1:Int):=od;have q19:(x11_1:Int) < ((y201.length:Int):Int):=od;obtain⟨go19,co19,eo19,gb19,gl19,cl19,HG19⟩:=Kd.Be HO203.out (by omega);(first|cases eo19|(injection eo19 with ea_ en_ ec_;(first|subst ea_|(injection ea_ with ea_;subst ea_));subst ec_;clear en_));have GB19:=am gb19;have GG19:=am HG19;clear gb19 gl19 HG19;obtain⟨hx19_0,hf19_0⟩:=Kd.Bt 0 HO203.out (x11_1:Int) p19 q19;replace p19:=eq_true p19;replace q19:=eq_true q19;have n_:=am (Kd.Ae (ok':=(λk_=>(w.heap.size<=k_)/\some k_≠(v189:Value).ownBlock)) HO203.out (λk_ hk=>⟨hk.1.1,hk.2⟩));clear HO203;have HO203:=n_;clear n_;obtain⟨hy22_,hz22_⟩:=Kd.Bt 0 HO203.out (x11_1:Int) (od) (od);have HP22:=Kd.Cy HO203.out (x11_1:Int) 1))
       obtain⟨w23,hw⟩:∃ w_,w_=(w20.setCell ⟨go19,(x11_1:Int).toNat,none⟩ (int i64 1)):=⟨_,rfl⟩
       rw[<-hw]
       (have hg:w20.grownBy w23 (some go19):=(by rw[hw];exact HP22.2);have hp_:Kd.R (Kd.int i64) 3 w23 w.heap.size (λk_=>(w.heap.size<=k_)/\some k_≠(v189:Value).ownBlock) (.slice (some ⟨go19,0,none⟩) y201.length co19) y204:=(by rw[hw,Ny204.out];exact HP22.1);clear HP22;have n0_:=am (Kd.Bh (v:=(.slice (some ⟨go19,0,none⟩) y201.length co19)) (v1:=(.slice (some ⟨go19,0,none⟩) y201.length co19)) (ok:=(λk_=>(P1_ k_\/w.heap.size<=k_)/\some k_≠(v189:Value).ownBlock/\some k_≠(u9:Value).ownBlock)) (by (with_reducible repeat (first|apply Kd.Bu|apply Kd.Bw|apply Kd.Bc));first|exact HO_7.out|exact Kd.At HO_7.out (λ_ h=>⟨⟨h.1.2,h.1.1⟩,h.2⟩)) hg (.inl rfl));have n1_:=am (Kd.Bn (v:=(.slice (some ⟨go19,0,none⟩) y201.length co19)) (v1:=(.slice (some ⟨go19,0,none⟩) y201.length co19)) (ok:=(λk_=>(w.heap.size<=k_))) (by (with_reducible repeat (first|apply Kd.AN|apply Kd.AM|apply Kd.Ay));first|exact HO_8.out|exact Kd.At HO_8.out (λ_ h=>⟨⟨h.1.2,h.1.1⟩,h.2⟩)) hg (.inl rfl));have n2_:=am (Kd.Bh (v:=(.slice (some ⟨go19,0,none⟩) y201.length co19)) (v1:=(.slice (some ⟨go19,0,none⟩) y201.length co19)) (ok:=(λk_=>(P1_ k_\/w.heap.size<=k_)/\some k_≠(v186:Value).ownBlock/\some k_≠(v189:Value).ownBlock)) (by (with_reducible repeat (first|apply Kd.Bu|apply Kd.Bw|apply Kd.Bc));first|exact HO_9.out|exact Kd.At HO_9.out (λ_ h=>⟨⟨h.1.2,h.1.1⟩,h.2⟩)) hg (.inl rfl));have n3_:=am (hp_);have n4_:=am ((by rw[hw];exact Za (HB.out) GB19.out:Below w.heap.size w w23));clear HO_7;clear HO_8;clear HO_9;clear HO203;clear HB;have HO_7:=n0_;have HO_8:=n1_;have HO_9:=n2_;have HO203:=n3_;have HB:=n4_;clear n0_ n1_ n2_ n3_ n4_;clear hg hw hp_)
       go_loopg [13] kj8 (λkq v13 w'=>∃ (x12_3:List Int) (x13_3:Int),v13=int i64 x13_3/\qf (qr.l1 kq a0 a2 t185 x8_1 x9_1 x10_1 x11_1 x12_3 x13_3=some r)/\qf (kq<=kj8)/\qf (Kd.N KI 37 w' w.heap.size (λk_=>(P1_ k_\/w.heap.size<=k_)/\some k_≠(v189:Value).ownBlock/\some k_≠(u9:Value).ownBlock/\some k_≠((.slice (some ⟨go19,0,none⟩) y201.length co19):Value).ownBlock) v186 t185)/\qf (Kd.R (Kd.int i64) 3 w' w.heap.size (λk_=>(w.heap.size<=k_)/\some k_≠((.slice (some ⟨go19,0,none⟩) y201.length co19):Value).ownBlock) v189 x8_1)/\qf (Kd.N KI 37 w' w.heap.size (λk_=>(P1_ k_\/w.heap.size<=k_)/\some k_≠(v186:Value).ownBlock/\some k_≠(v189:Value).ownBlock/\some k_≠((.slice (some ⟨go19,0,none⟩) y201.length co19):Value).ownBlock) u9 x9_1)/\qf (Kd.R (Kd.int i64) 3 w' w.heap.size (λk_=>(w.heap.size<=k_)/\some k_≠(v189:Value).ownBlock) (.slice (some ⟨go19,0,none⟩) y201.length co19) x12_3)/\qf (Below w.heap.size w w'))
       case atStart=>exact⟨(y204),(0),fr,H',⟨Nat.le_refl _⟩,⟨Kd.AK (Kd.Ar HO_7.out (λ_ hk=>⟨hk.1.1,⟨hk.1.2.1,⟨hk.1.2.2,hk.2⟩⟩⟩)) gs⟩,⟨wR HO_8⟩,⟨Kd.AK (Kd.Ar HO_9.out (λ_ hk=>⟨hk.1.1,⟨hk.1.2.1,⟨hk.1.2.2,hk.2⟩⟩⟩)) gs⟩,⟨wR HO203⟩,⟨bw HB⟩⟩
       case round=>
        clear H';try clear c1;try clear p1;try clear q1;try clear hx1;try clear p2;try clear q2;try clear hx2;try clear c4;try clear p6;try clear c8;try clear c8b0;try clear c9;try clear c10;try clear c10b0;try clear c11;try clear c11b0
        try clear c14;try clear c15;try clear c15b0;try clear c15b1;try clear c16;try clear c16b0;try clear c16b1;try clear c17;try clear c17b0;try clear c18;try clear c18b0;try clear p19;try clear q19;try clear hx19;try clear hf19;try clear p20
        try clear q20;try clear hx20;try clear hx19_0;try clear hx200_0;try clear p19;try clear p2;try clear p200;try clear q19;try clear q2;try clear q200
        obtain⟨x12_3,x13_3,rfl,HA,HK3,HO_7,HO_8,HO_9,HO_12,HB⟩:=hrel;have hl12_3:=(Kd.Ac HO_12.out).1;rw[hl12_3]at HO_12
        (try simp only[hl12_3])
        (try simp only[hl12_3]at HO_7)
        (try simp only[hl12_3]at HO_8)
        (try simp only[hl12_3]at HO_9)
        cases gk with
        | zero=>exact absurd HA.out (by simp[qr.l1])
        | succ k3=>
         have H:=HA.out;clear HA;simp only[qr.l1]at H;replace H:=Eg H;rcases H with ⟨c24b0,H⟩|⟨c24b0,H⟩
         ·replace H:=Ef H;obtain⟨c25b0,H⟩:=H;replace H:=Ef H;obtain⟨c26b0,H⟩:=H;replace H:=ifn H;obtain⟨c27,H⟩:=H
          have c27b0:=decide_eq_true c27;clear c27;replace H:=Ef H;obtain⟨c28b0,H⟩:=H;replace H:=bs H;obtain⟨t208,A29,H⟩:=H;replace H:=ifn H;obtain⟨c30,H⟩:=H;have c30b0:=decide_eq_true c30;clear c30;replace H:=Ef H;obtain⟨c31b0,H⟩:=H;generalize hy209:(x12_3.set ((rd x8_1 x13_3):Int).toNat t208:List Int)=y209 at H;have Ny209:=am hy209.symm;clear hy209;have H':=am H;clear H;obtain⟨Ao33,co33,eo33⟩:=Kd.Ah HO_8.out;subst eo33
          try go_wp2
          replace HO_7:=am (Kd.Bc HO_7.out);replace HO_8:=am (Kd.Ay HO_8.out);replace HO_9:=am (Kd.Bc HO_9.out);replace HO_12:=am (Kd.Ay HO_12.out);replace HB:=am (Qn HB.out);have p205:0<=(x13_3:Int):=od;have q205:x13_3 < (x8_1.length:Int):=od;obtain⟨ad205,e205,hx205_0⟩:=Kd.Aj (Kd.Ac HO_8.out).2.2 x13_3 p205 q205
          cases e205;replace p205:=eq_true p205;replace q205:=eq_true q205
          obtain⟨Ao35,co35,eo35⟩:=Kd.AF HO_7.out
          (first|subst eo35|(injection eo35 with f1_ f2_ f3_;have f4_:=f1_.symm;have f5_:=f3_.symm;clear f1_ f2_ f3_;subst f4_;subst f5_))
          have p206:0<=(x13_3:Int):=od;have q206:x13_3 < (t185.length:Int):=od;obtain⟨ad206,A206_0,c206_0,e206,hx206_0,hl206_0,hi206_0⟩:=qat (Kd.Az HO_7.out).2.2 x13_3 p206 q206
          cases e206
          obtain⟨ce206,hce206,hMe206,hcc206⟩:=Kd.CA HO_7.out [] x13_3 p206 (by first|exact q206|exact od|(have e_:=(Kd.Az HO_7.out).1;omega));obtain⟨ua206_0,uc206_0,rfl,ul206_0,ge206_0⟩:=Kd.Ax hMe206;have hv206_0:=hcc206 0 _ rfl;rw[Nat.add_zero,show (KI).sz=1 from rfl,Nat.mul_one]at hv206_0;replace hv206_0:=Option.some.inj (hv206_0.symm.trans hx206_0);injection hv206_0 with hva_ hvn_ hvc_
          rw[hva_]at ge206_0;rw[hvc_]at ul206_0;have HL206_0:=am (show Kd.V (Kd.int i64) 3 _ w.heap.size _ _ (zt t185 x13_3) from Kd.V_mk ul206_0 ge206_0);clear hva_ hvn_ hvc_ ge206_0 ul206_0;clear hcc206 hce206;have HR206_0:=am hi206_0;clear hi206_0 hl206_0;replace p206:=eq_true p206;replace q206:=eq_true q206;obtain⟨ad207,e207,hx207_0,p207,q207⟩:=Es HR206_0.out x11_1 od od;cases e207
          refine st (T:=qr.T14) (B:=qr.B14) 17 (λw'=>w'.cell? (ad205.add (x13_3).toNat)=some (int i64 (rd x8_1 x13_3))/\w'.cell? (ad206.add (x13_3).toNat)=some (.slice (some ad207) (zt t185 x13_3).length c206_0)/\w'.cell? (ad207.add (x11_1).toNat)=some (int i64 (rd (zt t185 x13_3) x11_1))) [16] (by kernel_rfl) (by kernel_rfl) (⟨hx205_0,hx206_0,hx207_0⟩) λhHeld HT_ HW_=>?_;generalize wr.drew=w34 at HO_7 HO_8 HO_9 HO_12 HB HL206_0 HR206_0 hx205_0 hx206_0 hx207_0 hHeld ⊢;refine Et 0 54 1 55 HT_ ?_;refine Et 2 56 3 57 HT_ ?_;refine Et 5 59 6 60 HT_ ?_;refine Et 7 61 8 62 HT_ ?_;refine pz 10 64 HT_ ?_;refine tk 4 58 HT_ HW_ hHeld ?_;refine tk 9 63 HT_ HW_ hHeld ?_;refine pz 11 65 HT_ ?_;refine tk 12 66 HT_ HW_ hHeld ?_;refine pz 13 67 HT_ ?_;refine on 14 (some 68) HT_ λK hK=>?_;refine gs_ Tryz.func62 #[int i64 a0,int i64 (wrap64 (-(rd (zt t185 x13_3) x11_1)))] ?_
          with_reducible refine(Q9.calls a0 (wrap64 (-(rd (zt t185 x13_3) x11_1))) t208 _ A29.out).mono ?_
          rintro e w' ⟨rfl,⟨nd,rfl⟩⟩;refine⟨_,rfl,?_⟩;have p32:0<=((rd x8_1 x13_3):Int):=od;have q32:((rd x8_1 x13_3):Int) < ((x12_3.length:Int):Int):=od;obtain⟨hx32_0,hf32_0⟩:=Kd.Bt 0 HO_12.out ((rd x8_1 x13_3):Int) p32 q32;replace p32:=eq_true p32;replace q32:=eq_true q32;have HP36:=Kd.CK HO_12.out ((rd x8_1 x13_3):Int) t208;rw[<-Ny209.out]at HP36;have HQ36:=am HP36;clear HP36;refine hK.out _ _ ⟨hHeld.1,hHeld.2.1,hHeld.2.2⟩ λhHeld=>nz ?_;clear hK K;refine pz 15 69 HT_ ?_;refine la 16 none HT_ λK hK=>?_;refine qhh (w1:=?_) (by rfl) rfl ?_ ?_
          rotate_left
          ·go_simp
           rfl
          refine hK.out _ _ ?_;clear hK K;refine Zh (Qe HT_.out (by kernel_rfl)) ?_
          try go_wp2
          (try simp only[<-hl12_3])
          go_roundg k3
          case measure=>have:=HK1.out;have:=HJ8.out;have:=HK3.out;omega
          case rel=>exact⟨(y209),(wrap64 (x13_3+1)),fr,H',⟨by have:=HK1.out;have:=HJ8.out;have:=HK3.out;omega⟩,⟨by (try simp only[hl12_3]);(with_reducible repeat (first|apply Kd.Bu|apply Kd.Bw|apply Kd.Bc));exact Kd.Ar (Kd.CW (p:=⟨go19,((rd x8_1 x13_3):Int).toNat,none⟩) (Kd.Ar HO_7.out (λk_ hk=>(⟨hk,λe_=>hk.2.2.2 (by rw[e_];rfl)⟩:_/\k_≠go19))) (λ_ hk=>hk.2) (int i64 t208)) (λ_ hk=>⟨hk.1.1,⟨hk.1.2.1,⟨hk.1.2.2.1,hk.1.2.2.2⟩⟩⟩)⟩,⟨by (try simp only[hl12_3]);(with_reducible repeat (first|apply Kd.AN|apply Kd.AM|apply Kd.Ay));exact Kd.Ae (Kd.AZ (p:=⟨go19,((rd x8_1 x13_3):Int).toNat,none⟩) (Kd.Ae HO_8.out (λk_ hk=>(⟨hk,λe_=>hk.2 (by rw[e_];rfl)⟩:_/\k_≠go19))) (λ_ hk=>hk.2) (int i64 t208)) (λ_ hk=>⟨hk.1.1,hk.1.2⟩)⟩,⟨by (try simp only[hl12_3]);(with_reducible repeat (first|apply Kd.Bu|apply Kd.Bw|apply Kd.Bc));exact Kd.Ar (Kd.CW (p:=⟨go19,((rd x8_1 x13_3):Int).toNat,none⟩) (Kd.Ar HO_9.out (λk_ hk=>(⟨hk,λe_=>hk.2.2.2 (by rw[e_];rfl)⟩:_/\k_≠go19))) (λ_ hk=>hk.2) (int i64 t208)) (λ_ hk=>⟨hk.1.1,⟨hk.1.2.1,⟨hk.1.2.2.1,hk.1.2.2.2⟩⟩⟩)⟩,⟨by (try simp only[hl12_3]);(with_reducible repeat (first|apply Kd.AN|apply Kd.AM|apply Kd.Ay));exact HQ36.out⟩,⟨bx_ HB⟩⟩
         ·replace H:=ifn H;obtain⟨c37,H⟩:=H;have LMc37:=am c37;clear c37
          generalize hy210:(x9_1++[x12_3]:List (List Int))=y210 at H;have Ny210:=am hy210.symm;clear hy210;have H':=am H;clear H;obtain⟨Ao38,co38,eo38⟩:=Kd.Ah HO_8.out;subst eo38
          go_wp2_with (first|((with_reducible refine jz (b:=.append) (xs:=#[.tmp 70,.tmp 72]) rfl ?_);at_builtin;refine Kd.B9 KI (w0:=w) w.heap.size rfl (.tmp 70) (.tmp 72) 24 37 (.slice none 0 0) 24 rfl Tryz.underlying24 Ja rfl (by decide) (by omega) u9 x9_1 x12_3 [.slice (some ⟨go19,0,none⟩) x12_3.length co19] (λk_=>(P1_ k_\/w.heap.size<=k_)/\some k_≠(v186:Value).ownBlock/\some k_≠(.slice Ao38 x8_1.length co38:Value).ownBlock) (λk_=>((λk_=>(P1_ k_\/w.heap.size<=k_)/\some k_≠(v186:Value).ownBlock/\some k_≠(.slice Ao38 x8_1.length co38:Value).ownBlock)) k_/\some k_≠(u9:Value).ownBlock) rfl rfl ?aP (λ_ hk=>hk) ?aF ?aO ?aB ?aS ?aL ?_;(case aP=>exact(Kd.Aw (Kd.Ac (Kd.Ae (ok':=(λk_=>((λk_=>(P1_ k_\/w.heap.size<=k_)/\some k_≠(v186:Value).ownBlock/\some k_≠(.slice Ao38 x8_1.length co38:Value).ownBlock)) k_/\some k_≠(u9:Value).ownBlock)) (Kd.Ak (Kd.Ak (HO_12.out) (Kd.Av HO_7.out) (by decide)) (Kd.Av HO_9.out) (by decide)) (λk_ hk=>⟨⟨(.inr (hk.1.1.1)),⟨hk.1.2,hk.1.1.2⟩⟩,hk.2⟩))).2.1 (Kd.R_F (Kd.Ae (ok':=(λk_=>((λk_=>(P1_ k_\/w.heap.size<=k_)/\some k_≠(v186:Value).ownBlock/\some k_≠(.slice Ao38 x8_1.length co38:Value).ownBlock)) k_/\some k_≠(u9:Value).ownBlock)) (Kd.Ak (Kd.Ak (HO_12.out) (Kd.Av HO_7.out) (by decide)) (Kd.Av HO_9.out) (by decide)) (λk_ hk=>⟨⟨(.inr (hk.1.1.1)),⟨hk.1.2,hk.1.1.2⟩⟩,hk.2⟩)))));(case aB=>exact(bw HB));(case aF=>exact(λk_ hk=>⟨(.inr (Nat.le_trans (bz HB) hk)),Kd.fresh' (Kd.N_lt (wN HO_7)) k_ hk,Kd.fresh' (Kd.R_lt (wR HO_8)) k_ hk⟩));(case aO=>exact(oN_ HO_9 (λ_ hk=>⟨hk.1,⟨hk.2.1,hk.2.2.1⟩⟩)));(case aS=>exact(bz HB));(case aL=>have:=LMc37.out;omega);intro v211 w39 ho hb hg hat;rw[<-Ny210.out]at ho;replace HO_7:=am (Kd.Bh (ok:=(λk_=>(P1_ k_\/w.heap.size<=k_)/\some k_≠(.slice Ao38 x8_1.length co38:Value).ownBlock/\some k_≠(.slice (some ⟨go19,0,none⟩) x12_3.length co19:Value).ownBlock)) (oN_ HO_7 (λ_ hk=>⟨⟨hk.1,⟨hk.2.1,hk.2.2.2⟩⟩,hk.2.2.1⟩)) hg hat);replace HO_8:=am (Kd.Bb (wR HO_8) (Kd.Av (wN HO_9)) (by decide) hg);replace HB:=am (hb);have HO212:=am (ho);clear HO_9 HO_12;clear ho hb hg hat))
          (try simp only[<-hl12_3])
          go_roundg k3
          case measure=>have:=HK1.out;have:=HJ8.out;have:=HK3.out;omega
          case rel=>exact⟨(x8_1),(y210),(x10_1),(wrap64 (x11_1+1)),fr,fr,H',⟨by have:=HK1.out;have:=HJ8.out;have:=HK3.out;omega⟩,⟨by (try simp only[hl12_3]);(with_reducible repeat (first|apply Kd.Bu|apply Kd.Bw|apply Kd.Bc));exact Kd.Ar HO_7.out (λ_ hk=>⟨hk.1.1,⟨hk.1.2.1,hk.2⟩⟩)⟩,⟨by (try simp only[hl12_3]);(with_reducible repeat (first|apply Kd.AN|apply Kd.AM|apply Kd.Ay));exact Kd.Ae HO_8.out (λ_ hk=>hk.1)⟩,⟨by (try simp only[hl12_3]);(with_reducible repeat (first|apply Kd.Bu|apply Kd.Bw|apply Kd.Bc));exact HO212.out⟩,⟨bw HB⟩⟩
   ·rw[if_neg c8]at H
    have c8b0:=decide_eq_false c8;clear c8;replace H:=bs H;obtain⟨⟨t194,t197⟩,A40,H⟩:=H;dsimp only at H;obtain rfl:=Option.some.inj H;obtain⟨Ao41,co41,eo41⟩:=Kd.AF HO_9.out;subst eo41
    go_wp2_with (first|((with_reducible refine za (f:=98) rfl ?_);refine gl 78 Tryz.func98 #[int i64 a0,.slice Ao41 x9_1.length co41,int i64 a2] ?_;(with_reducible refine(qh.calls k1 a0 (λk_=>((P1_ k_\/w.heap.size<=k_)/\(some k_≠(v186:Value).ownBlock/\some k_≠(v189:Value).ownBlock))) _ _ x9_1 a2 t194 t197 _ ?_ A40.out).mono ?_);exact Kd.N_V (HO_9.out);rintro e w42 ⟨v195,v198,rfl,ho0,ho1,hb⟩;refine⟨_,rfl,?_⟩;replace HO_9:=am (Kd.Ar (Kd.Cq (Kd.Cq (Kd.Dk (wN HO_9) hb) (Kd.AH ho0)) (Kd.Am ho1)) (λ_ h_=>h_.1));have HO196:=am (Kd.AG (Kd.Ar (ok':=λk_=>(P1_ k_\/w.heap.size<=k_)/\some k_≠(v198:Value).ownBlock/\some k_≠(v186:Value).ownBlock/\some k_≠(v189:Value).ownBlock) ho0 (λk_ hk_=>⟨Or.elim hk_.1 (λhs_=>hs_.1) (λhn_=>(.inr (Nat.le_trans (bz HB) hn_))),hk_.2,Or.elim hk_.1 (λhs_=>hs_.2.1) (λhn_=>(Kd.fresh' (Kd.N_lt (wN HO_7)) k_ hn_)),Or.elim hk_.1 (λhs_=>hs_.2.2) (λhn_=>(Kd.fresh' (Kd.R_lt (wR HO_8)) k_ hn_))⟩)) (bz HB));replace HO_7:=am (Kd.Ar (Kd.Cq (Kd.Cq (Kd.Dk (wN HO_7) hb) (Kd.AH ho0)) (Kd.Am ho1)) (λ_ h_=>h_.1));have HO199:=am (Kd.Ai (Kd.AW (Kd.BD (M:=λk_=>(w.heap.size<=k_)) (Kd.Ae (ok':=λk_=>True) ho1 (λ_ hk_=>trivial)) (bz HB) (λk_ h_=>h_)) (Kd.R_lt (wR HO_8))) (bz HB));replace HO_8:=eR HO_8 (Kd.Am ho1) hb;replace HB:=bq HB hb;(try clear hb);(try clear ho0);(try clear ho1)))
    go_ret
    exact⟨_,fq,Kd.AK (Kd.Ar HO196.out (λ_ hk=>hk.1)) gs,bw HB⟩
set_option maxHeartbeats 8000000
set_option maxRecDepth 100000
attribute [local go_sem] Tryz.underlying49 Tryz.underlying51
def Qh.f (a0:Int) (a1_0:Int) (a1_1:Int) (a1_2:Int):Option (List Int):=if a0=0 then (none) else (some (([Int.tmod (wrap64 (a1_0*a1_0)) a0,Int.tmod (wrap64 (a1_0*a1_1)) a0,Int.tmod (wrap64 (a1_0*a1_2)) a0,Int.tmod (wrap64 (a1_1*a1_1)) a0,Int.tmod (wrap64 (a1_1*a1_2)) a0,Int.tmod (wrap64 (a1_2*a1_2)) a0]:List Int)))
def Qh.T4 :Bool×List (List Nat×List Nat):=(true,[([],[]),([],[]),([0,1],[0,1]),([],[]),([2,3],[2,3]),([],[]),([],[]),([5,6],[5,6]),([],[]),([7,8],[7,8]),([],[]),([],[]),([10,11],[10,11]),([],[]),([12,13],[12,13]),([],[]),([],[]),([15,16],[15,16]),([],[]),([17,18],[17,18]),([],[]),([],[]),([20,21],[20,21]),([],[]),([22,23],[22,23]),([],[]),([],[]),([25,26],[25,26]),([],[]),([27,28],[27,28]),([4,9,14,19,24,29],[4,9,14,19,24,29]),([30,0,1,2,3,4,5,6,7,8,9,10,11,12,13,14,15,16,17,18,19,20,21,22,23,24,25,26,27,28,29,30],[30])])
def Qh.B4 :List Nat:=[0,0,3,0,15,0,0,96,0,480,0,0,3072,0,15360,0,0,98304,0,491520,0,0,3145728,0,15728640,0,0,100663296,0,503316480,1073741823,2147483647]
theorem Qh.calls (a0:Int) (a1_0:Int) (a1_1:Int) (a1_2:Int) (r:List Int) (w:World) (h:Qh.f a0 a1_0 a1_1 a1_2=some r):
  Calls Tryz.prog 57 #[int i64 a0,.agg #[int i64 a1_0,int i64 a1_1,int i64 a1_2]] w λe w'=>∃ v0_:Value,e=.returned (v0_)/\Kd.R (Kd.int i64) 3 w' w.heap.size (λ_=>True) v0_ r/\Below w.heap.size w w':=by
 have HB:=Em w;have H:=h;unfold Qh.f at H;clear h;replace H:=ifm H;obtain⟨c3,H⟩:=H;have c3b0:=beq_eq_false_iff_ne.mpr c3;have c3b1:=bne_iff_ne.mpr c3;generalize hy214:(([Int.tmod (wrap64 (a1_0*a1_0)) a0,Int.tmod (wrap64 (a1_0*a1_1)) a0,Int.tmod (wrap64 (a1_0*a1_2)) a0,Int.tmod (wrap64 (a1_1*a1_1)) a0,Int.tmod (wrap64 (a1_1*a1_2)) a0,Int.tmod (wrap64 (a1_2*a1_2)) a0]:List Int))=y214 at H;have Ny214:=am hy214.symm;clear hy214;obtain rfl:=Option.some.inj H;go_enter Tryz.func57,Tryz.ntmps57
 try go_wp2_with (first|((with_reducible refine zd (N:=3) rfl ?_);refine xe_ 3 51 #[int i64 a1_0,int i64 a1_1,int i64 a1_2] ?_;intro gb213 hg w4 hbox hb;have BK213:=am (hbox);have GW213:=Ek HB hg;replace HB:=bq HB hb;clear hb hbox hg;have hcz5_0:=En BK213.out;have hcz5_1:=Eo BK213.out;have hcz5_2:=Ep BK213.out;have hfz5_0:=ql BK213.out 0;have hfz5_1:=ql BK213.out 1;have hfz5_2:=ql BK213.out 2))
 replace BK213:=am (qy BK213.out);replace HB:=am (Qn HB.out);refine st (T:=Qh.T4) (B:=Qh.B4) 32 (λw'=>True) [] (by kernel_rfl) (by kernel_rfl) (trivial) λhHeld HT_ HW_=>?_;generalize w4.drew=w6 at BK213 HB hHeld ⊢;refine Et 0 17 1 18 HT_ ?_;refine Et 2 19 3 20 HT_ ?_;refine Et 4 21 5 22 HT_ ?_;refine Et 6 23 7 24 HT_ ?_;refine Et 8 25 9 26 HT_ ?_;refine Et 10 27 11 28 HT_ ?_;refine Et 12 29 13 30 HT_ ?_;refine Et 14 31 15 32 HT_ ?_;refine Et 16 33 17 34 HT_ ?_;refine Et 18 35 19 36 HT_ ?_;refine Et 20 37 21 38 HT_ ?_;refine Et 22 39 23 40 HT_ ?_;refine Et 24 41 25 42 HT_ ?_;refine Et 26 43 27 44 HT_ ?_;refine Et 28 45 29 46 HT_ ?_;refine on 30 (some 47) HT_ λK hK=>?_;refine Kd.AX (Kd.int i64) _ 3 ?hg (N:=47) ?hd (xs:=([Int.tmod (wrap64 (a1_0*a1_0)) a0,Int.tmod (wrap64 (a1_0*a1_1)) a0,Int.tmod (wrap64 (a1_0*a1_2)) a0,Int.tmod (wrap64 (a1_1*a1_1)) a0,Int.tmod (wrap64 (a1_1*a1_2)) a0,Int.tmod (wrap64 (a1_2*a1_2)) a0]:List Int)) (inner:=[int i64 (Int.tmod (wrap64 (a1_0*a1_0)) a0),int i64 (Int.tmod (wrap64 (a1_0*a1_1)) a0),int i64 (Int.tmod (wrap64 (a1_0*a1_2)) a0),int i64 (Int.tmod (wrap64 (a1_1*a1_1)) a0),int i64 (Int.tmod (wrap64 (a1_1*a1_2)) a0),int i64 (Int.tmod (wrap64 (a1_2*a1_2)) a0)]) (ok:=λ_=>True) (okp:=λ_=>True) ?hr ?hp (λ_ hk=>hk) trivial (Below.refl _ _) (Nat.le_refl _) (by simp) ?_;(case hd=>rfl);(case hg=>rfl);(case hr=>first|(go_simp;done)|(go_simp;rfl));(case hp=>exact(Reps.one (show Kd.M (Kd.int i64) _ _ _ (Int.tmod (wrap64 (a1_0*a1_0)) a0) [int i64 (Int.tmod (wrap64 (a1_0*a1_0)) a0)] from rfl) (Reps.one (show Kd.M (Kd.int i64) _ _ _ (Int.tmod (wrap64 (a1_0*a1_1)) a0) [int i64 (Int.tmod (wrap64 (a1_0*a1_1)) a0)] from rfl) (Reps.one (show Kd.M (Kd.int i64) _ _ _ (Int.tmod (wrap64 (a1_0*a1_2)) a0) [int i64 (Int.tmod (wrap64 (a1_0*a1_2)) a0)] from rfl) (Reps.one (show Kd.M (Kd.int i64) _ _ _ (Int.tmod (wrap64 (a1_1*a1_1)) a0) [int i64 (Int.tmod (wrap64 (a1_1*a1_1)) a0)] from rfl) (Reps.one (show Kd.M (Kd.int i64) _ _ _ (Int.tmod (wrap64 (a1_1*a1_2)) a0) [int i64 (Int.tmod (wrap64 (a1_1*a1_2)) a0)] from rfl) (Reps.one (show Kd.M (Kd.int i64) _ _ _ (Int.tmod (wrap64 (a1_2*a1_2)) a0) [int i64 (Int.tmod (wrap64 (a1_2*a1_2)) a0)] from rfl) (Reps.none _ _))))))))
 intro v215 w7 ho8 hb hg_ hnew_;clear hg_ hnew_;rw[<-Ny214.out]at ho8;have HO216:=am (Kd.Ai ho8 (zw (bx_ HB)));replace HB:=am (ze (bx_ HB) hb);clear hb ho8;refine hK.out _ _ trivial λhHeld=>nz ?_;clear hK K;refine pz 31 4 HT_ ?_;refine Zh (Qe HT_.out (by kernel_rfl)) ?_
 try go_wp2
 go_ret
 exact⟨_,fq,wR HO216,bx_ HB⟩
def jl.l0 :Nat->Int->List (S51)->List (List Int)->Int->Option ((List (List Int)))
 | 0,_,_,_,_=>none
 | k+1,x0,x1,x5,x6=>if x6 < (x1.length:Int) then (if 0<=x6 then ((Qh.f x0 ((qg x1 x6).f0.f0) ((qg x1 x6).f0.f1) ((qg x1 x6).f0.f2)).bind λt221=>(if x5.length < 5864062014805 then (jl.l0 k x0 x1 (x5++[t221]) (wrap64 (x6+1))) else (none))) else (none)) else ((qr.f k x0 x5 6).bind λt227=>(some t227))
def jl.f (k:Nat) (a0:Int) (l1:List (S51)):Option ((List (List Int))):=jl.l0 k a0 l1 (([]:List (List Int))) 0
theorem jl.Ag :∀ k,(∀ y0 y1 y2 y3,LeO (jl.l0 k y0 y1 y2 y3) (jl.l0 (k+1) y0 y1 y2 y3))
 | 0=>λ_ _ _ _ r h=>by simp[jl.l0]at h
 | k+1=>by
  have ih0:=jl.Ag k
  ·intro y0 y1 y2 y3
   unfold jl.l0
   repeat' with_reducible first|intro _|apply ih0|apply qr.mono|apply Eb|apply Ec|apply Ed|apply Ee
theorem jl.mono (a0 a1 k):LeO (jl.f k a0 a1) (jl.f (k+1) a0 a1):=by
 have ih0:=jl.Ag k;unfold jl.f
 repeat' with_reducible first|intro _|apply ih0|apply qr.mono|apply Eb|apply Ec|apply Ed|apply Ee
theorem jl.calls (k:Nat) (a0:Int) (A1:Option Addr) (c1:Nat) (l1:List (S51)) (r:List (List Int)) (w:World) (hr1:Kd.C k51 w A1 l1.length l1) (hc1:l1.length<=c1) (h:jl.f k a0 l1=some r):
  Calls Tryz.prog 47 #[int i64 a0,.slice A1 l1.length c1] w λe w'=>∃ v0_:Value,e=.returned (v0_)/\Kd.N KI 37 w' w.heap.size (λk_=>(w.heap.size<=k_)) v0_ r/\Below w.heap.size w w':=by
 have HR1:=am hr1;clear hr1 hc1;have HB:=Em w;have H:=h;unfold jl.f at H;clear h;generalize hy217:(([]:List (List Int)))=y217 at H;have Ny217:=am hy217.symm;clear hy217;have H':=am H;clear H;go_enter Tryz.func47,Tryz.ntmps47
 go_wp2_with (first|((with_reducible refine zd (N:=7) rfl ?_);refine Kd.Cj KI _ 37 ?hg (N':=7) ?hd (xs:=([]:List (List Int))) (inner:=[]) (ok:=(λk_=>(w.heap.size<=k_))) (okp:=(λk_=>(w.heap.size<=k_))) ?hr ?hp (λ_ hk=>hk) ((show ∀ k_,w.heap.size<=k_->(λk_=>(w.heap.size<=k_)) k_ from λk_ hk=>(Nat.le_trans (bz HB) hk)) _ (Nat.le_refl _)) (Below.refl _ _) (Nat.le_refl _) (by simp) ?_;(case hd=>rfl);(case hg=>rfl);(case hr=>first|(go_simp;done)|(go_simp;rfl));(case hp=>exact(Reps.none _ _));intro v218 w3 ho4 hb hg_ hnew_;clear hg_ hnew_;rw[<-Ny217.out]at ho4;have HO219:=am (Kd.AG ho4 (bz HB));replace HB:=bq HB hb;clear hb ho4))
 go_loopg [5,6] k (λkq v5 v6 w'=>∃ (x5_1:List (List Int)) (x6_1:Int),v6=int i64 x6_1/\qf (jl.l0 kq a0 l1 x5_1 x6_1=some r)/\qf (kq<=k)/\qf (Kd.N KI 37 w' w.heap.size (λk_=>(w.heap.size<=k_)) v5 x5_1)/\qf (Below w.heap.size w w'))
 case atStart=>exact⟨(y217),(0),fr,H',⟨Nat.le_refl _⟩,⟨wN HO219⟩,⟨bw HB⟩⟩
 case round=>
  clear H';try clear c1;try clear p2;try clear c4
  obtain⟨x5_1,x6_1,rfl,HA,HK1,HO_5,HB⟩:=hrel
  cases gk with
  | zero=>exact absurd HA.out (by simp[jl.l0])
  | succ k1=>
   have H:=HA.out;clear HA;simp only[jl.l0]at H;replace H:=Eg H;rcases H with ⟨c5b0,H⟩|⟨c5b0,H⟩
   ·replace H:=Ef H;obtain⟨c6b0,H⟩:=H;replace H:=bs H;obtain⟨t221,A7,H⟩:=H;replace H:=ifn H;obtain⟨c8,H⟩:=H;have LMc8:=am c8;clear c8
    generalize hy224:(x5_1++[t221]:List (List Int))=y224 at H;have Ny224:=am hy224.symm;clear hy224;have H':=am H;clear H;have p220:0<=(x6_1:Int):=od;have q220:x6_1 < (l1.length:Int):=od;obtain⟨ad220,e220,hx220_0,hx220_1,hx220_2⟩:=Zn HR1.out x6_1 p220 q220
    cases e220
    replace hx220_0:=wcl HB hx220_0;replace hx220_1:=wcl HB hx220_1;replace hx220_2:=wcl HB hx220_2;replace p220:=eq_true p220;replace q220:=eq_true q220
    go_wp2_with (first|((with_reducible refine za (f:=57) rfl ?_);refine gl 20 Tryz.func57 #[int i64 a0,.agg #[int i64 ((qg l1 x6_1).f0.f0),int i64 ((qg l1 x6_1).f0.f1),int i64 ((qg l1 x6_1).f0.f2)]] ?_;(with_reducible refine(Qh.calls a0 ((qg l1 x6_1).f0.f0) ((qg l1 x6_1).f0.f1) ((qg l1 x6_1).f0.f2) t221 _ A7.out).mono ?_);rintro e w9 ⟨v222,rfl,ho0,hb⟩;refine⟨_,rfl,?_⟩;replace HO_5:=eN HO_5 (Kd.Am ho0) hb;have HO223:=am (mR ho0 HB);replace HB:=bq HB hb;(try clear hb);(try clear ho0);obtain⟨Ao11,co11,eo11⟩:=Kd.Ah HO223.out;subst eo11)|((with_reducible refine jz (b:=.append) (xs:=#[.tmp 14,.tmp 21]) rfl ?_);at_builtin;refine Kd.B9 KI (w0:=w) w.heap.size rfl (.tmp 14) (.tmp 21) 24 37 (.slice none 0 0) 24 rfl Tryz.underlying24 Ja rfl (by decide) (by omega) u5 x5_1 t221 [.slice Ao11 t221.length co11] (λk_=>(w.heap.size<=k_)) (λk_=>((λk_=>(w.heap.size<=k_))) k_/\some k_≠(u5:Value).ownBlock) rfl rfl ?aP (λ_ hk=>hk) ?aF ?aO ?aB ?aS ?aL ?_;(case aP=>exact(Kd.Aw (Kd.Ac (Kd.Ae (ok':=(λk_=>((λk_=>(w.heap.size<=k_))) k_/\some k_≠(u5:Value).ownBlock)) (Kd.Ak (HO223.out) (Kd.Av HO_5.out) (by decide)) (λk_ hk=>⟨hk.1.1,hk.2⟩))).2.1 (Kd.R_F (Kd.Ae (ok':=(λk_=>((λk_=>(w.heap.size<=k_))) k_/\some k_≠(u5:Value).ownBlock)) (Kd.Ak (HO223.out) (Kd.Av HO_5.out) (by decide)) (λk_ hk=>⟨hk.1.1,hk.2⟩)))));(case aB=>exact(bw HB));(case aF=>exact(λk_ hk=>(Nat.le_trans (bz HB) hk)));(case aO=>exact(oN_ HO_5 (λ_ hk=>hk.1)));(case aS=>exact(bz HB));(case aL=>have:=LMc8.out;omega);intro v225 w10 ho hb hg hat;rw[<-Ny224.out]at ho;replace HB:=am (hb);have HO226:=am (ho);clear HO_5 HO223;clear ho hb hg hat))
    go_roundg k1
    case measure=>have:=HK1.out;omega
    case rel=>exact⟨(y224),(wrap64 (x6_1+1)),fr,H',⟨by have:=HK1.out;omega⟩,⟨wN HO226⟩,⟨bw HB⟩⟩
   ·replace H:=bs H;obtain⟨t227,A12,H⟩:=H;obtain rfl:=Option.some.inj H
    obtain⟨Ao13,co13,eo13⟩:=Kd.AF HO_5.out;subst eo13
    go_wp2_with (first|((with_reducible refine za (f:=49) rfl ?_);refine gl 25 Tryz.func49 #[int i64 a0,.slice Ao13 x5_1.length co13,int i64 6] ?_;(with_reducible refine(qr.calls k1 a0 (λk_=>(w.heap.size<=k_)) _ _ x5_1 6 t227 _ ?_ A12.out).mono ?_);exact Kd.N_V (HO_5.out);rintro e w14 ⟨v228,rfl,ho0,hb⟩;refine⟨_,rfl,?_⟩;replace HO_5:=eN HO_5 (Kd.AH ho0) hb;have HO229:=am (Kd.AG (Kd.Ar (ok':=λk_=>(w.heap.size<=k_)) ho0 (λk_ hk_=>Or.elim hk_ (λhs_=>hs_) (λhn_=>(Nat.le_trans (bz HB) hn_)))) (bz HB));replace HB:=bq HB hb;(try clear hb);(try clear ho0)))
    go_ret
    exact⟨_,fq,wN HO229,bw HB⟩
def Zc.f (k:Nat) (a0:Int) (l1:List (S51)):Option (Bool):=if (l1.length:Int)=6 then ((qv.f k a0 l1).bind λt230=>(if t230=true then ((jl.f k a0 l1).bind λt231=>(some ((t231.length:Int) == 0))) else (some false))) else (some false)
theorem Zc.mono (a0 a1 k):LeO (Zc.f k a0 a1) (Zc.f (k+1) a0 a1):=by
 unfold Zc.f
 repeat' with_reducible first|intro _|apply qv.mono|apply jl.mono|apply Eb|apply Ec|apply Ed|apply Ee
theorem Zc.calls (k:Nat) (a0:Int) (A1:Option Addr) (c1:Nat) (l1:List (S51)) (r:Bool) (w:World) (hr1:Kd.C k51 w A1 l1.length l1) (hc1:l1.length<=c1) (h:Zc.f k a0 l1=some r):
  Calls Tryz.prog 20 #[int i64 a0,.slice A1 l1.length c1] w λe w'=>e=.returned (.bool r)/\Below w.heap.size w w':=by
 have HR1:=am hr1;have HC1:=am hc1;clear hr1 hc1;have HB:=Em w;have H:=h;unfold Zc.f at H;clear h
 by_cases c3:(l1.length:Int)=6
 ·rw[if_pos c3]at H
  have c3b0:=beq_iff_eq.mpr c3;have c3b1:=bne_eq_false_iff_eq.mpr c3;clear c3;replace H:=bs H;obtain⟨t230,A4,H⟩:=H
  by_cases c5:t230=true
  ·subst c5
   rw[if_pos rfl]at H;replace H:=bs H;obtain⟨t231,A6,H⟩:=H;obtain rfl:=Option.some.inj H;go_enter Tryz.func20,Tryz.ntmps20
   go_wp2_with (first|(go_at_call 46;(with_reducible refine(qv.calls k a0 _ _ l1 true _ ?_ ?_ A4.out).mono ?_);exact wC HR1;exact HC1.out;rintro e w7 ⟨rfl,hb⟩;replace HB:=bq HB hb;(try clear hb))|(go_at_call 47;(with_reducible refine(jl.calls k a0 _ _ l1 t231 _ ?_ ?_ A6.out).mono ?_);exact Kd.Ad HR1.out (bw HB);exact HC1.out;rintro e w8 ⟨v232,rfl,ho0,hb⟩;have HO233:=am (Kd.AG (Kd.Ar (ok':=λk_=>True) ho0 (λk_ hk_=>trivial)) (bz HB));replace HB:=bq HB hb;(try clear hb);(try clear ho0);obtain⟨Ao9,co9,eo9⟩:=Kd.AF HO233.out;subst eo9))
   go_ret
   exact⟨fq,bw HB⟩
  ·replace c5:=Bool.eq_false_iff.mpr c5
   subst c5;rw[if_neg (show ¬ (false=true) by decide)]at H;obtain rfl:=Option.some.inj H;go_enter Tryz.func20,Tryz.ntmps20
   go_wp2_with (first|(go_at_call 46;(with_reducible refine(qv.calls k a0 _ _ l1 false _ ?_ ?_ A4.out).mono ?_);exact wC HR1;exact HC1.out;rintro e w10 ⟨rfl,hb⟩;replace HB:=bq HB hb;(try clear hb)))
   go_ret
   exact⟨fq,bw HB⟩
 ·rw[if_neg c3]at H
  have c3b0:=beq_eq_false_iff_ne.mpr c3;have c3b1:=bne_iff_ne.mpr c3;obtain rfl:=Option.some.inj H;go_enter Tryz.func20,Tryz.ntmps20
  go_wp2;go_ret
  exact⟨fq,bw HB⟩
def Jr.f  :Option ((List (S49))):=some (([(⟨3,0,0⟩:S49),(⟨2,1,0⟩:S49),(⟨2,0,1⟩:S49),(⟨1,2,0⟩:S49),(⟨1,1,1⟩:S49),(⟨1,0,2⟩:S49),(⟨0,3,0⟩:S49),(⟨0,2,1⟩:S49),(⟨0,1,2⟩:S49),(⟨0,0,3⟩:S49)]:List (S49)))
theorem Jr.calls  (r:List (S49)) (w:World) (h:Jr.f=some r):
  Calls Tryz.prog 96 #[] w λe w'=>∃ v0_:Value,e=.returned (v0_)/\Kd.R k49 49 w' w.heap.size (λ_=>True) v0_ r/\Below w.heap.size w w':=by
 have HB:=Em w;have H:(some (([(⟨3,0,0⟩:S49),(⟨2,1,0⟩:S49),(⟨2,0,1⟩:S49),(⟨1,2,0⟩:S49),(⟨1,1,1⟩:S49),(⟨1,0,2⟩:S49),(⟨0,3,0⟩:S49),(⟨0,2,1⟩:S49),(⟨0,1,2⟩:S49),(⟨0,0,3⟩:S49)]:List (S49))))=some r:=h;clear h;generalize hy234:(([(⟨3,0,0⟩:S49),(⟨2,1,0⟩:S49),(⟨2,0,1⟩:S49),(⟨1,2,0⟩:S49),(⟨1,1,1⟩:S49),(⟨1,0,2⟩:S49),(⟨0,3,0⟩:S49),(⟨0,2,1⟩:S49),(⟨0,1,2⟩:S49),(⟨0,0,3⟩:S49)]:List (S49)))=y234 at H;have Ny234:=am hy234.symm;clear hy234;obtain rfl:=Option.some.inj H;go_enter Tryz.func96,Tryz.ntmps96
 go_wp2_with (first|((with_reducible refine zd (N:=11) rfl ?_);refine Kd.AR k49 _ 49 ?hg (N:=11) ?hd (xs:=([(⟨3,0,0⟩:S49),(⟨2,1,0⟩:S49),(⟨2,0,1⟩:S49),(⟨1,2,0⟩:S49),(⟨1,1,1⟩:S49),(⟨1,0,2⟩:S49),(⟨0,3,0⟩:S49),(⟨0,2,1⟩:S49),(⟨0,1,2⟩:S49),(⟨0,0,3⟩:S49)]:List (S49))) (inner:=[int i64 3,int i64 0,int i64 0,int i64 2,int i64 1,int i64 0,int i64 2,int i64 0,int i64 1,int i64 1,int i64 2,int i64 0,int i64 1,int i64 1,int i64 1,int i64 1,int i64 0,int i64 2,int i64 0,int i64 3,int i64 0,int i64 0,int i64 2,int i64 1,int i64 0,int i64 1,int i64 2,int i64 0,int i64 0,int i64 3]) (ok:=λ_=>True) (okp:=λ_=>True) ?hr ?hp (λ_ hk=>hk) trivial (Below.refl _ _) (Nat.le_refl _) (by simp) ?_;(case hd=>rfl);(case hg=>rfl);(case hr=>first|(go_simp;done)|(go_simp;rfl));(case hp=>exact(Reps.c3 (show Kd.M k49 _ _ _ (⟨3,0,0⟩:S49) [int i64 3,int i64 0,int i64 0] from (qa1 _ _ _ (⟨3,0,0⟩:S49) )) (Reps.c3 (show Kd.M k49 _ _ _ (⟨2,1,0⟩:S49) [int i64 2,int i64 1,int i64 0] from (qa1 _ _ _ (⟨2,1,0⟩:S49) )) (Reps.c3 (show Kd.M k49 _ _ _ (⟨2,0,1⟩:S49) [int i64 2,int i64 0,int i64 1] from (qa1 _ _ _ (⟨2,0,1⟩:S49) )) (Reps.c3 (show Kd.M k49 _ _ _ (⟨1,2,0⟩:S49) [int i64 1,int i64 2,int i64 0] from (qa1 _ _ _ (⟨1,2,0⟩:S49) )) (Reps.c3 (show Kd.M k49 _ _ _ (⟨1,1,1⟩:S49) [int i64 1,int i64 1,int i64 1] from (qa1 _ _ _ (⟨1,1,1⟩:S49) )) (Reps.c3 (show Kd.M k49 _ _ _ (⟨1,0,2⟩:S49) [int i64 1,int i64 0,int i64 2] from (qa1 _ _ _ (⟨1,0,2⟩:S49) )) (Reps.c3 (show Kd.M k49 _ _ _ (⟨0,3,0⟩:S49) [int i64 0,int i64 3,int i64 0] from (qa1 _ _ _ (⟨0,3,0⟩:S49) )) (Reps.c3 (show Kd.M k49 _ _ _ (⟨0,2,1⟩:S49) [int i64 0,int i64 2,int i64 1] from (qa1 _ _ _ (⟨0,2,1⟩:S49) )) (Reps.c3 (show Kd.M k49 _ _ _ (⟨0,1,2⟩:S49) [int i64 0,int i64 1,int i64 2] from (qa1 _ _ _ (⟨0,1,2⟩:S49) )) (Reps.c3 (show Kd.M k49 _ _ _ (⟨0,0,3⟩:S49) [int i64 0,int i64 0,int i64 3] from (qa1 _ _ _ (⟨0,0,3⟩:S49) )) (Reps.none _ _))))))))))));intro v235 w1 ho2 hb hg_ hnew_;clear hg_ hnew_;rw[<-Ny234.out]at ho2;have HO236:=am (Kd.Ai ho2 (bz HB));replace HB:=bq HB hb;clear hb ho2))
 go_ret
 exact⟨_,fq,wR HO236,bw HB⟩
def jf.l0 :Nat->Int->Int->Int->Int->Int->Option (Int)
 | 0,_,_,_,_,_=>none
 | k+1,x0,x1,x2,x7,x8=>if x8 < x2 then (if x0=0 then (none) else (jf.l0 k x0 x1 x2 (Int.tmod (wrap64 (x7*x1)) x0) (wrap64 (x8+1)))) else (some x7)
def jf.f (k:Nat) (a0:Int) (a1:Int) (a2:Int):Option (Int):=jf.l0 k a0 a1 a2 1 0
theorem jf.Ag :∀ k,(∀ y0 y1 y2 y3 y4,LeO (jf.l0 k y0 y1 y2 y3 y4) (jf.l0 (k+1) y0 y1 y2 y3 y4))
 | 0=>λ_ _ _ _ _ r h=>by simp[jf.l0]at h
 | k+1=>by
  have ih0:=jf.Ag k
  ·intro y0 y1 y2 y3 y4
   unfold jf.l0
   repeat' with_reducible first|intro _|apply ih0|apply Eb|apply Ec|apply Ed|apply Ee
theorem jf.mono (a0 a1 a2 k):LeO (jf.f k a0 a1 a2) (jf.f (k+1) a0 a1 a2):=by
 have ih0:=jf.Ag k;unfold jf.f
 repeat' with_reducible first|intro _|apply ih0|apply Eb|apply Ec|apply Ed|apply Ee
theorem jf.calls (k:Nat) (a0:Int) (a1:Int) (a2:Int) (r:Int) (w:World) (h:jf.f k a0 a1 a2=some r):
  Calls Tryz.prog 97 #[int i64 a0,int i64 a1,int i64 a2] w λe w'=>e=.returned (int i64 r)/\Drawn0 w w':=by
 have H:=h;unfold jf.f at H;clear h;have H':=am H;clear H;go_enter Tryz.func97,Tryz.ntmps97
 go_wp2
 go_loopg [7,8] k (λkq v7 v8 w'=>∃ (x7_1:Int) (x8_1:Int),v7=int i64 x7_1/\v8=int i64 x8_1/\qf (jf.l0 kq a0 a1 a2 x7_1 x8_1=some r)/\qf (kq<=k)/\Drawn0 w w')
 case atStart=>exact⟨(1),(0),fr,fr,H',⟨Nat.le_refl _⟩,df⟩
 case round=>
  clear H';try clear p2
  obtain⟨x7_1,x8_1,rfl,rfl,HA,HK1,⟨m1,rfl⟩⟩:=hrel
  cases gk with
  | zero=>exact absurd HA.out (by simp[jf.l0])
  | succ k1=>
   have H:=HA.out;clear HA;simp only[jf.l0]at H;replace H:=Eg H;rcases H with ⟨c4b0,H⟩|⟨c4b0,H⟩
   ·replace H:=ifm H;obtain⟨c5,H⟩:=H;have c5b0:=beq_eq_false_iff_ne.mpr c5;have c5b1:=bne_iff_ne.mpr c5;have H':=am H;clear H;go_wp2
    go_roundg k1
    case measure=>have:=HK1.out;omega
    case rel=>exact⟨(Int.tmod (wrap64 (x7_1*a1)) a0),(wrap64 (x8_1+1)),fr,fr,H',⟨by have:=HK1.out;omega⟩,df⟩
   ·obtain rfl:=Option.some.inj H;go_wp2;go_ret
    exact⟨fr,df⟩
def zb.l0 :Nat->Int->List Int->List (S49)->Int->Int->Int->Int->Option (List Int)
 | 0,_,_,_,_,_,_,_=>none
 | k+1,x0,x5,x6,x7,x238000,x238001,x238002=>if x7 < 10 then (if 0<=x7 then (if x7 < (x6.length:Int) then ((jf.f k x0 x238000 ((zp x6 x7).f0)).bind λt246=>((jf.f k x0 x238001 ((zp x6 x7).f1)).bind λt247=>(if x0=0 then (none) else ((jf.f k x0 x238002 ((zp x6 x7).f2)).bind λt248=>(if x5.length < 17592186044416 then (zb.l0 k x0 (x5++[Int.tmod (wrap64 ((Int.tmod (wrap64 (t246*t247)) x0)*t248)) x0]) x6 (wrap64 (x7+1)) x238000 x238001 x238002) else (none)))))) else (none)) else (none)) else (some x5)
def zb.f (k:Nat) (a0:Int) (a1_0:Int) (a1_1:Int) (a1_2:Int):Option (List Int):=(Jr.f).bind λt241=>(zb.l0 k a0 (([]:List Int)) t241 0 a1_0 a1_1 a1_2)
theorem zb.Ag :∀ k,(∀ y0 y1 y2 y3 y4 y5 y6,LeO (zb.l0 k y0 y1 y2 y3 y4 y5 y6) (zb.l0 (k+1) y0 y1 y2 y3 y4 y5 y6))
 | 0=>λ_ _ _ _ _ _ _ r h=>by simp[zb.l0]at h
 | k+1=>by
  have ih0:=zb.Ag k
  ·intro y0 y1 y2 y3 y4 y5 y6
   unfold zb.l0
   repeat' with_reducible first|intro _|apply ih0|apply jf.mono|apply Eb|apply Ec|apply Ed|apply Ee
theorem zb.mono (a0 a1 a2 a3 k):LeO (zb.f k a0 a1 a2 a3) (zb.f (k+1) a0 a1 a2 a3):=by
 have ih0:=zb.Ag k;unfold zb.f
 repeat' with_reducible first|intro _|apply ih0|apply jf.mono|apply Eb|apply Ec|apply Ed|apply Ee
def zb.T7 :Bool×List (List Nat×List Nat):=(true,[([],[]),([],[]),([],[]),([2],[2]),([3],[3]),([],[]),([5],[5]),([1,4,6],[1,4,6]),([],[]),([],[]),([9],[9]),([10],[10]),([],[]),([12],[12]),([8,11,13,7],[8,11,13]),([7,14],[7,14]),([],[]),([15,16],[15,16]),([],[]),([],[]),([19],[19]),([20],[20]),([],[]),([22],[22]),([18,21,23,14],[18,21,23]),([17,24],[17,24]),([],[]),([25,26],[25,26]),([27],[27]),([0,28,24],[0,28]),([29,29,0,1,2,3,4,5,6,7,8,9,10,11,12,13,14,15,16,17,18,19,20,21,22,23,24,25,26,27,28,29],[0,29])])
def zb.B7 :List Nat:=[0,0,0,4,12,0,32,126,0,0,512,1536,0,4096,16382,32766,0,131070,0,0,524288,1572864,0,4194304,16547838,33554430,0,134217726,268435454,536870911,1073741823]
theorem zb.calls (k:Nat) (a0:Int) (a1_0:Int) (a1_1:Int) (a1_2:Int) (r:List Int) (w:World) (h:zb.f k a0 a1_0 a1_1 a1_2=some r):
  Calls Tryz.prog 48 #[int i64 a0,.agg #[int i64 a1_0,int i64 a1_1,int i64 a1_2]] w λe w'=>∃ v0_:Value,e=.returned (v0_)/\Kd.R (Kd.int i64) 3 w' w.heap.size (λ_=>True) v0_ r/\Below w.heap.size w w':=by
 have HB:=Em w;have H:=h;unfold zb.f at H;clear h;generalize hy238:(([]:List Int))=y238 at H;have Ny238:=am hy238.symm;clear hy238;replace H:=bs H;obtain⟨t241,A3,H⟩:=H;have H':=am H;clear H;go_enter Tryz.func48,Tryz.ntmps48
 go_wp2_with (first|((with_reducible refine zd (N:=3) rfl ?_);refine xe_ 3 51 #[int i64 a1_0,int i64 a1_1,int i64 a1_2] ?_;intro gb237 hg w4 hbox hb;have BK237:=am (hbox);have GW237:=Ek HB hg;replace HB:=bq HB hb;clear hb hbox hg)|((with_reducible refine zd (N:=9) rfl ?_);refine li 3 ([]:List Int) ?_;intro v239 w5 ho6 hb;rw[<-Ny238.out]at ho6;have HO240:=am (Kd.Ai ho6 (zw (bx_ HB)));replace BK237:=Ej BK237 hb;replace HB:=am (ze (bx_ HB) hb);clear hb ho6)|((with_reducible refine za (f:=96) rfl ?_);refine gl 10 Tryz.func96 #[] ?_;(with_reducible refine(Jr.calls  t241 _ A3.out).mono ?_);rintro e w7 ⟨v242,rfl,ho0,hb⟩;refine⟨_,rfl,?_⟩;replace HO240:=am (Kd.Af (wR HO240) hb);have HO243:=am (Kd.Ai ho0 (zw (bx_ HB)));replace BK237:=Ej BK237 hb;replace HB:=am (ze (bx_ HB) hb);(try clear hb);(try clear ho0)))
 go_loopg [5,7] k (λkq v5 v7 w'=>∃ (x5_1:List Int) (x7_1:Int),v7=int i64 x7_1/\qf (zb.l0 kq a0 x5_1 t241 x7_1 a1_0 a1_1 a1_2=some r)/\qf (kq<=k)/\qf (Kd.R (Kd.int i64) 3 w' w.heap.size (λ_=>True) v5 x5_1)/\qf (Kd.R k49 49 w' w.heap.size (λ_=>True) v242 t241)/\qf (w'.heap[gb237]? =some (.cells #[int i64 a1_0,int i64 a1_1,int i64 a1_2] 51 (0,0)))/\qf (Below w.heap.size w w'))
 case atStart=>exact⟨(y238),(0),fr,H',⟨Nat.le_refl _⟩,⟨wR HO240⟩,⟨wR HO243⟩,⟨by (with_reducible repeat (first|refine qw ?_ _|refine qy ?_|refine qx ?_ _));exact BK237.out⟩,⟨bx_ HB⟩⟩
 case round=>
  clear H';try clear p2;try clear c4
  obtain⟨x5_1,x7_1,rfl,HA,HK1,HO_5,HO_6,BK237,HB⟩:=hrel
  cases gk with
  | zero=>exact absurd HA.out (by simp[zb.l0])
  | succ k1=>
   have H:=HA.out;clear HA;simp only[zb.l0]at H;replace H:=Eg H;rcases H with ⟨c8b0,H⟩|⟨c8b0,H⟩
   ·replace H:=Ef H;obtain⟨c9b0,H⟩:=H;replace H:=Ef H;obtain⟨c10b0,H⟩:=H;replace H:=bs H;obtain⟨t246,A11,H⟩:=H
    replace H:=bs H;obtain⟨t247,A12,H⟩:=H;replace H:=ifm H;obtain⟨c13,H⟩:=H;have c13b0:=beq_eq_false_iff_ne.mpr c13;have c13b1:=bne_iff_ne.mpr c13;replace H:=bs H;obtain⟨t248,A14,H⟩:=H;replace H:=ifn H;obtain⟨c15,H⟩:=H;have LMc15:=am c15;clear c15;generalize hy249:(x5_1++[Int.tmod (wrap64 ((Int.tmod (wrap64 (t246*t247)) a0)*t248)) a0]:List Int)=y249 at H;have Ny249:=am hy249.symm;clear hy249;have H':=am H;clear H;obtain⟨Ao16,co16,eo16⟩:=Kd.Ah HO_6.out;subst eo16;have p244:0<=(x7_1:Int):=od;have q244:x7_1 < (t241.length:Int):=od;obtain⟨ad244,e244,hx244_0,hx244_1,hx244_2⟩:=qlo (Kd.Ac HO_6.out).2.2 x7_1 p244 q244
    cases e244;replace p244:=eq_true p244;replace q244:=eq_true q244
    try go_wp2_with (first|((with_reducible refine zd (N:=8) rfl ?_);refine xe_ 8 49 #[int i64 0,int i64 0,int i64 0] ?_;intro gb245 hg w17 hbox hb;replace HO_5:=am (Kd.Af (wR HO_5) hb);replace HO_6:=am (Kd.Af (Kd.Cu (wR HO_6) gb245 (Nat.le_of_eq hg.symm)) hb);have BK245:=am (hbox);have GW245:=am ((by rw[hg];exact(zw (bx_ HB)):w.heap.size<=gb245));replace HB:=am (ze (bx_ HB) hb);have NB237_245:=Eh BK237 hg;have NB245_237:=Ei BK237 hg;replace BK237:=Ej BK237 hb;clear hb hbox hg;have hnb18:=NB245_237.out;have hnc18:=NB237_245.out;have hcz19_0:=En BK245.out;have hcz19_1:=Eo BK245.out;have hcz19_2:=Ep BK245.out;have hfz19_0:=ql BK245.out 0;have hfz19_1:=ql BK245.out 1;have hfz19_2:=ql BK245.out 2))
    have n0_:qf (Kd.R (Kd.int i64) 3 (((w17.setCell ⟨gb245,0,none⟩ (int i64 ((zp t241 x7_1).f0))).setCell ⟨gb245,1,none⟩ (int i64 ((zp t241 x7_1).f1))).setCell ⟨gb245,2,none⟩ (int i64 ((zp t241 x7_1).f2))) w.heap.size (λ_=>True) u5 x5_1):=⟨by (with_reducible repeat (first|apply Kd.AN|apply Kd.AM|apply Kd.Ay));exact Kd.Ae (Kd.AZ (p:=⟨gb245,2,none⟩) (Kd.AZ (p:=⟨gb245,1,none⟩) (Kd.AZ (p:=⟨gb245,0,none⟩) (Kd.BA HO_5.out BK245.out (by decide)) (λ_ hk=>hk.2) (int i64 ((zp t241 x7_1).f0))) (λ_ hk=>hk.2) (int i64 ((zp t241 x7_1).f1))) (λ_ hk=>hk.2) (int i64 ((zp t241 x7_1).f2))) (λ_ hk=>trivial)⟩
    have n1_:qf (Kd.R k49 49 (((w17.setCell ⟨gb245,0,none⟩ (int i64 ((zp t241 x7_1).f0))).setCell ⟨gb245,1,none⟩ (int i64 ((zp t241 x7_1).f1))).setCell ⟨gb245,2,none⟩ (int i64 ((zp t241 x7_1).f2))) w.heap.size (λk_=>k_≠gb245) (.slice (some ad244) t241.length co16) t241):=⟨by (with_reducible repeat (first|apply Kd.AN|apply Kd.AM|apply Kd.Ay));exact Kd.Ae (Kd.AZ (p:=⟨gb245,2,none⟩) (Kd.AZ (p:=⟨gb245,1,none⟩) (Kd.AZ (p:=⟨gb245,0,none⟩) (Kd.Ae HO_6.out (λk_ hk=>(⟨hk,hk.2⟩:_/\k_≠gb245))) (λ_ hk=>hk.2) (int i64 ((zp t241 x7_1).f0))) (λ_ hk=>hk.2) (int i64 ((zp t241 x7_1).f1))) (λ_ hk=>hk.2) (int i64 ((zp t241 x7_1).f2))) (λ_ hk=>hk.1.2)⟩
    have n2_:qf ((((w17.setCell ⟨gb245,0,none⟩ (int i64 ((zp t241 x7_1).f0))).setCell ⟨gb245,1,none⟩ (int i64 ((zp t241 x7_1).f1))).setCell ⟨gb245,2,none⟩ (int i64 ((zp t241 x7_1).f2))).heap[gb237]? =some (.cells #[int i64 a1_0,int i64 a1_1,int i64 a1_2] 51 (0,0))):=⟨by (with_reducible repeat (first|refine qw ?_ _|refine qy ?_|refine qx ?_ _));refine jh ?_ NB237_245.out _;(with_reducible repeat (first|refine qw ?_ _|refine qy ?_|refine qx ?_ _));refine jh ?_ NB237_245.out _;(with_reducible repeat (first|refine qw ?_ _|refine qy ?_|refine qx ?_ _));refine jh ?_ NB237_245.out _;(with_reducible repeat (first|refine qw ?_ _|refine qy ?_|refine qx ?_ _));exact BK237.out⟩
    have n3_:qf ((((w17.setCell ⟨gb245,0,none⟩ (int i64 ((zp t241 x7_1).f0))).setCell ⟨gb245,1,none⟩ (int i64 ((zp t241 x7_1).f1))).setCell ⟨gb245,2,none⟩ (int i64 ((zp t241 x7_1).f2))).heap[gb245]? =some (.cells #[int i64 ((zp t241 x7_1).f0),int i64 ((zp t241 x7_1).f1),int i64 ((zp t241 x7_1).f2)] 49 (0,0))):=⟨by (with_reducible repeat (first|refine qw ?_ _|refine qy ?_|refine qx ?_ _));refine Zf (cs:=#[int i64 ((zp t241 x7_1).f0),int i64 ((zp t241 x7_1).f1),int i64 0]) ?_ 2 _ rfl;(with_reducible repeat (first|refine qw ?_ _|refine qy ?_|refine qx ?_ _));refine Zf (cs:=#[int i64 ((zp t241 x7_1).f0),int i64 0,int i64 0]) ?_ 1 _ rfl;(with_reducible repeat (first|refine qw ?_ _|refine qy ?_|refine qx ?_ _));refine Zf (cs:=#[int i64 0,int i64 0,int i64 0]) ?_ 0 _ rfl;(with_reducible repeat (first|refine qw ?_ _|refine qy ?_|refine qx ?_ _));exact BK245.out⟩
    have n4_:qf (Below w.heap.size w (((w17.setCell ⟨gb245,0,none⟩ (int i64 ((zp t241 x7_1).f0))).setCell ⟨gb245,1,none⟩ (int i64 ((zp t241 x7_1).f1))).setCell ⟨gb245,2,none⟩ (int i64 ((zp t241 x7_1).f2)))):=⟨bx_ HB⟩
    (try clear HO_5)
    (try clear HO_6)
    (try clear BK237)
    (try clear BK245)
    (try clear HB)
    generalize (((w17.setCell ⟨gb245,0,none⟩ (int i64 ((zp t241 x7_1).f0))).setCell ⟨gb245,1,none⟩ (int i64 ((zp t241 x7_1).f1))).setCell ⟨gb245,2,none⟩ (int i64 ((zp t241 x7_1).f2)))=w20 at n0_ n1_ n2_ n3_ n4_ ⊢;have HO_5:=n0_;have HO_6:=n1_;have BK237:=n2_;have BK245:=n3_;have HB:=n4_;clear n0_ n1_ n2_ n3_ n4_;replace HO_5:=am (Kd.Ay HO_5.out);replace HO_6:=am (Kd.Ay HO_6.out);replace BK237:=am (qy BK237.out);replace BK245:=am (qy BK245.out);replace HB:=am (Qn HB.out);refine st (T:=zb.T7) (B:=zb.B7) 31 (λw'=>w'.cell? ⟨gb237,0,none⟩=some (int i64 a1_0)/\w'.cell? ⟨gb237,1,none⟩=some (int i64 a1_1)/\w'.cell? ⟨gb237,2,none⟩=some (int i64 a1_2)/\w'.cell? ⟨gb245,0,none⟩=some (int i64 ((zp t241 x7_1).f0))/\w'.cell? ⟨gb245,1,none⟩=some (int i64 ((zp t241 x7_1).f1))/\w'.cell? ⟨gb245,2,none⟩=some (int i64 ((zp t241 x7_1).f2))) [] (by kernel_rfl) (by kernel_rfl) (⟨(qe BK237.out 0).trans rfl,(qe BK237.out 1).trans rfl,(qe BK237.out 2).trans rfl,(qe BK245.out 0).trans rfl,(qe BK245.out 1).trans rfl,(qe BK245.out 2).trans rfl⟩) λhHeld HT_ HW_=>?_;generalize w20.drew=w21 at HO_5 HO_6 BK237 BK245 HB hHeld ⊢;refine Et 0 19 1 20 HT_ ?_;refine Et 2 21 3 22 HT_ ?_;refine Et 5 24 8 27 HT_ ?_;refine Et 9 28 10 29 HT_ ?_;refine Et 12 31 16 35 HT_ ?_;refine Et 18 37 19 38 HT_ ?_;refine Et 20 39 22 41 HT_ ?_;refine pz 26 45 HT_ ?_;refine tk 4 23 HT_ HW_ hHeld ?_;refine tk 6 25 HT_ HW_ hHeld ?_;refine tk 11 30 HT_ HW_ hHeld ?_;refine tk 13 32 HT_ HW_ hHeld ?_;refine tk 21 40 HT_ HW_ hHeld ?_;refine tk 23 42 HT_ HW_ hHeld ?_;refine on 7 (some 26) HT_ λK hK=>?_;refine gs_ Tryz.func97 #[int i64 a0,int i64 a1_0,int i64 ((zp t241 x7_1).f0)] ?_
    with_reducible refine(jf.calls k1 a0 a1_0 ((zp t241 x7_1).f0) t246 _ A11.out).mono ?_
    rintro e w' ⟨rfl,⟨nd,rfl⟩⟩;refine⟨_,rfl,?_⟩;refine hK.out _ _ ⟨En BK237.out,Eo BK237.out,Ep BK237.out,En BK245.out,Eo BK245.out,Ep BK245.out⟩ λhHeld=>nz ?_;clear hK K;refine on 14 (some 33) HT_ λK hK=>?_;refine gs_ Tryz.func97 #[int i64 a0,int i64 a1_1,int i64 ((zp t241 x7_1).f1)] ?_
    with_reducible refine(jf.calls k1 a0 a1_1 ((zp t241 x7_1).f1) t247 _ A12.out).mono ?_
    rintro e w' ⟨rfl,⟨nd,rfl⟩⟩;refine⟨_,rfl,?_⟩;refine hK.out _ _ ⟨En BK237.out,Eo BK237.out,Ep BK237.out,En BK245.out,Eo BK245.out,Ep BK245.out⟩ λhHeld=>nz ?_;clear hK K;refine Et 15 34 17 36 HT_ ?_;refine on 24 (some 43) HT_ λK hK=>?_;refine gs_ Tryz.func97 #[int i64 a0,int i64 a1_2,int i64 ((zp t241 x7_1).f2)] ?_
    with_reducible refine(jf.calls k1 a0 a1_2 ((zp t241 x7_1).f2) t248 _ A14.out).mono ?_
    rintro e w' ⟨rfl,⟨nd,rfl⟩⟩;refine⟨_,rfl,?_⟩;refine hK.out _ _ ⟨En BK237.out,Eo BK237.out,Ep BK237.out,En BK245.out,Eo BK245.out,Ep BK245.out⟩ λhHeld=>nz ?_;clear hK K;refine Et 25 44 27 46 HT_ ?_;refine on 28 (some 47) HT_ λK hK=>?_;refine qbq (w1:=?_) (v:=?_) (by rfl) rfl ?_ ?_
    rotate_left 2
    ·go_simp
     constructor
     ·rfl
     ·rfl
    refine hK.out _ _ ⟨(qe (qx BK237.out _) 0).trans rfl,(qe (qx BK237.out _) 1).trans rfl,(qe (qx BK237.out _) 2).trans rfl,(qe (qx BK245.out _) 0).trans rfl,(qe (qx BK245.out _) 1).trans rfl,(qe (qx BK245.out _) 2).trans rfl⟩ λhHeld=>nz ?_;clear hK K;refine on 29 (some 48) HT_ λK hK=>?_;refine Kd.AA (Kd.int i64) (w0:=w) w.heap.size (by rfl) (.tmp 19) (.tmp 47) 37 3 (int i64 0) 8 rfl Tryz.underlying37 Ju rfl (by decide) (by omega) u5 x5_1 (Int.tmod (wrap64 ((Int.tmod (wrap64 (t246*t247)) a0)*t248)) a0) [int i64 (Int.tmod (wrap64 ((Int.tmod (wrap64 (t246*t247)) a0)*t248)) a0)] (λ_=>True) (λ_=>False) rfl rfl ?aP (λ_ hk=>hk.elim) ?aF ?aO ?aB ?aS ?aL ?_
    (case aP=>exact rfl)
    (case aB=>exact(bx_ HB))
    (case aF=>exact(λ_ _=>trivial))
    (case aO=>exact(wR HO_5))
    (case aS=>exact(zw (bx_ HB)))
    (case aL=>have:=LMc15.out;omega)
    intro v250 w22 ho hb hg hat
    rw[<-Ny249.out]at ho;replace HO_6:=am (Kd.Bb (wR HO_6) (Kd.Bj (wR HO_5)) (by decide) hg);replace BK237:=am (Z2 (g:=gb237) (o:=.cells #[int i64 a1_0,int i64 a1_1,int i64 a1_2] 51 (0,0)) (pk_ BK237) hg (Kd.R_ne HO_5.out BK237.out (by decide)));replace BK245:=am (Z2 (g:=gb245) (o:=.cells #[int i64 ((zp t241 x7_1).f0),int i64 ((zp t241 x7_1).f1),int i64 ((zp t241 x7_1).f2)] 49 (0,0)) (pk_ BK245) hg (Kd.R_ne HO_5.out BK245.out (by decide)));replace HB:=am (hb);have HO251:=am (ho);clear HO_5;clear ho hb hg hat
    refine hK.out _ _ ⟨En BK237.out,Eo BK237.out,Ep BK237.out,En BK245.out,Eo BK245.out,Ep BK245.out⟩ λhHeld=>nz ?_;clear hK K;refine pz 30 5 HT_ ?_;refine Zh (Qe HT_.out (by kernel_rfl)) ?_
    try go_wp2
    go_roundg k1
    case measure=>have:=HK1.out;omega
    case rel=>exact⟨(y249),(wrap64 (x7_1+1)),fr,H',⟨by have:=HK1.out;omega⟩,⟨wR HO251⟩,⟨Kd.Af (Kd.Ae HO_6.out (λ_ hk=>trivial)) gs⟩,⟨by (with_reducible repeat (first|refine qw ?_ _|refine qy ?_|refine qx ?_ _));exact BK237.out⟩,⟨bx_ HB⟩⟩
   ·obtain rfl:=Option.some.inj H;go_wp2;go_ret
    exact⟨_,fq,wR HO_5,bx_ HB⟩
def Qg.l0 :Nat->Int->List (S51)->List (List Int)->Int->Option ((List (List Int)))
 | 0,_,_,_,_=>none
 | k+1,x0,x1,x5,x6=>if x6 < 6 then (if 0<=x6 then (if x6 < (x1.length:Int) then ((zb.f k x0 ((qg x1 x6).f0.f0) ((qg x1 x6).f0.f1) ((qg x1 x6).f0.f2)).bind λt256=>(if x5.length < 5864062014805 then (Qg.l0 k x0 x1 (x5++[t256]) (wrap64 (x6+1))) else (none))) else (none)) else (none)) else ((qr.f k x0 x5 10).bind λt262=>(some t262))
def Qg.f (k:Nat) (a0:Int) (l1:List (S51)):Option ((List (List Int))):=Qg.l0 k a0 l1 (([]:List (List Int))) 0
theorem Qg.Ag :∀ k,(∀ y0 y1 y2 y3,LeO (Qg.l0 k y0 y1 y2 y3) (Qg.l0 (k+1) y0 y1 y2 y3))
 | 0=>λ_ _ _ _ r h=>by simp[Qg.l0]at h
 | k+1=>by
  have ih0:=Qg.Ag k
  ·intro y0 y1 y2 y3
   unfold Qg.l0
   repeat' with_reducible first|intro _|apply ih0|apply qr.mono|apply zb.mono|apply Eb|apply Ec|apply Ed|apply Ee
theorem Qg.mono (a0 a1 k):LeO (Qg.f k a0 a1) (Qg.f (k+1) a0 a1):=by
 have ih0:=Qg.Ag k;unfold Qg.f
 repeat' with_reducible first|intro _|apply ih0|apply qr.mono|apply zb.mono|apply Eb|apply Ec|apply Ed|apply Ee
theorem Qg.calls (k:Nat) (a0:Int) (A1:Option Addr) (c1:Nat) (l1:List (S51)) (r:List (List Int)) (w:World) (hr1:Kd.C k51 w A1 l1.length l1) (hc1:l1.length<=c1) (h:Qg.f k a0 l1=some r):
  Calls Tryz.prog 21 #[int i64 a0,.slice A1 l1.length c1] w λe w'=>∃ v0_:Value,e=.returned (v0_)/\Kd.N KI 37 w' w.heap.size (λk_=>(w.heap.size<=k_)) v0_ r/\Below w.heap.size w w':=by
 have HR1:=am hr1;clear hr1 hc1;have HB:=Em w;have H:=h;unfold Qg.f at H;clear h;generalize hy252:(([]:List (List Int)))=y252 at H;have Ny252:=am hy252.symm;clear hy252;have H':=am H;clear H;go_enter Tryz.func21,Tryz.ntmps21
 go_wp2_with (first|((with_reducible refine zd (N:=7) rfl ?_);refine Kd.Cj KI _ 37 ?hg (N':=7) ?hd (xs:=([]:List (List Int))) (inner:=[]) (ok:=(λk_=>(w.heap.size<=k_))) (okp:=(λk_=>(w.heap.size<=k_))) ?hr ?hp (λ_ hk=>hk) ((show ∀ k_,w.heap.size<=k_->(λk_=>(w.heap.size<=k_)) k_ from λk_ hk=>(Nat.le_trans (bz HB) hk)) _ (Nat.le_refl _)) (Below.refl _ _) (Nat.le_refl _) (by simp) ?_;(case hd=>rfl);(case hg=>rfl);(case hr=>first|(go_simp;done)|(go_simp;rfl));(case hp=>exact(Reps.none _ _));intro v253 w3 ho4 hb hg_ hnew_;clear hg_ hnew_;rw[<-Ny252.out]at ho4;have HO254:=am (Kd.AG ho4 (bz HB));replace HB:=bq HB hb;clear hb ho4))
 go_loopg [5,6] k (λkq v5 v6 w'=>∃ (x5_1:List (List Int)) (x6_1:Int),v6=int i64 x6_1/\qf (Qg.l0 kq a0 l1 x5_1 x6_1=some r)/\qf (kq<=k)/\qf (Kd.N KI 37 w' w.heap.size (λk_=>(w.heap.size<=k_)) v5 x5_1)/\qf (Below w.heap.size w w'))
 case atStart=>exact⟨(y252),(0),fr,H',⟨Nat.le_refl _⟩,⟨wN HO254⟩,⟨bw HB⟩⟩
 case round=>
  clear H';try clear c1;try clear c2;try clear p2
  obtain⟨x5_1,x6_1,rfl,HA,HK1,HO_5,HB⟩:=hrel
  cases gk with
  | zero=>exact absurd HA.out (by simp[Qg.l0])
  | succ k1=>
   have H:=HA.out;clear HA;simp only[Qg.l0]at H;replace H:=Eg H;rcases H with ⟨c5b0,H⟩|⟨c5b0,H⟩
   ·replace H:=Ef H;obtain⟨c6b0,H⟩:=H;replace H:=Ef H;obtain⟨c7b0,H⟩:=H;replace H:=bs H;obtain⟨t256,A8,H⟩:=H
    replace H:=ifn H;obtain⟨c9,H⟩:=H;have LMc9:=am c9;clear c9;generalize hy259:(x5_1++[t256]:List (List Int))=y259 at H;have Ny259:=am hy259.symm;clear hy259;have H':=am H;clear H;have p255:0<=(x6_1:Int):=od;have q255:x6_1 < (l1.length:Int):=od;obtain⟨ad255,e255,hx255_0,hx255_1,hx255_2⟩:=Zn HR1.out x6_1 p255 q255
    cases e255
    replace hx255_0:=wcl HB hx255_0;replace hx255_1:=wcl HB hx255_1;replace hx255_2:=wcl HB hx255_2;replace p255:=eq_true p255;replace q255:=eq_true q255
    go_wp2_with (first|((with_reducible refine za (f:=48) rfl ?_);refine gl 18 Tryz.func48 #[int i64 a0,.agg #[int i64 ((qg l1 x6_1).f0.f0),int i64 ((qg l1 x6_1).f0.f1),int i64 ((qg l1 x6_1).f0.f2)]] ?_;(with_reducible refine(zb.calls k1 a0 ((qg l1 x6_1).f0.f0) ((qg l1 x6_1).f0.f1) ((qg l1 x6_1).f0.f2) t256 _ A8.out).mono ?_);rintro e w10 ⟨v257,rfl,ho0,hb⟩;refine⟨_,rfl,?_⟩;replace HO_5:=eN HO_5 (Kd.Am ho0) hb;have HO258:=am (mR ho0 HB);replace HB:=bq HB hb;(try clear hb);(try clear ho0);obtain⟨Ao12,co12,eo12⟩:=Kd.Ah HO258.out;subst eo12)|((with_reducible refine jz (b:=.append) (xs:=#[.tmp 12,.tmp 19]) rfl ?_);at_builtin;refine Kd.B9 KI (w0:=w) w.heap.size rfl (.tmp 12) (.tmp 19) 24 37 (.slice none 0 0) 24 rfl Tryz.underlying24 Ja rfl (by decide) (by omega) u5 x5_1 t256 [.slice Ao12 t256.length co12] (λk_=>(w.heap.size<=k_)) (λk_=>((λk_=>(w.heap.size<=k_))) k_/\some k_≠(u5:Value).ownBlock) rfl rfl ?aP (λ_ hk=>hk) ?aF ?aO ?aB ?aS ?aL ?_;(case aP=>exact(Kd.Aw (Kd.Ac (Kd.Ae (ok':=(λk_=>((λk_=>(w.heap.size<=k_))) k_/\some k_≠(u5:Value).ownBlock)) (Kd.Ak (HO258.out) (Kd.Av HO_5.out) (by decide)) (λk_ hk=>⟨hk.1.1,hk.2⟩))).2.1 (Kd.R_F (Kd.Ae (ok':=(λk_=>((λk_=>(w.heap.size<=k_))) k_/\some k_≠(u5:Value).ownBlock)) (Kd.Ak (HO258.out) (Kd.Av HO_5.out) (by decide)) (λk_ hk=>⟨hk.1.1,hk.2⟩)))));(case aB=>exact(bw HB));(case aF=>exact(λk_ hk=>(Nat.le_trans (bz HB) hk)));(case aO=>exact(oN_ HO_5 (λ_ hk=>hk.1)));(case aS=>exact(bz HB));(case aL=>have:=LMc9.out;omega);intro v260 w11 ho hb hg hat;rw[<-Ny259.out]at ho;replace HB:=am (hb);have HO261:=am (ho);clear HO_5 HO258;clear ho hb hg hat))
    go_roundg k1
    case measure=>have:=HK1.out;omega
    case rel=>exact⟨(y259),(wrap64 (x6_1+1)),fr,H',⟨by have:=HK1.out;omega⟩,⟨wN HO261⟩,⟨bw HB⟩⟩
   ·replace H:=bs H;obtain⟨t262,A13,H⟩:=H;obtain rfl:=Option.some.inj H
    obtain⟨Ao14,co14,eo14⟩:=Kd.AF HO_5.out;subst eo14
    go_wp2_with (first|((with_reducible refine za (f:=49) rfl ?_);refine gl 23 Tryz.func49 #[int i64 a0,.slice Ao14 x5_1.length co14,int i64 10] ?_;(with_reducible refine(qr.calls k1 a0 (λk_=>(w.heap.size<=k_)) _ _ x5_1 10 t262 _ ?_ A13.out).mono ?_);exact Kd.N_V (HO_5.out);rintro e w15 ⟨v263,rfl,ho0,hb⟩;refine⟨_,rfl,?_⟩;replace HO_5:=eN HO_5 (Kd.AH ho0) hb;have HO264:=am (Kd.AG (Kd.Ar (ok':=λk_=>(w.heap.size<=k_)) ho0 (λk_ hk_=>Or.elim hk_ (λhs_=>hs_) (λhn_=>(Nat.le_trans (bz HB) hn_)))) (bz HB));replace HB:=bq HB hb;(try clear hb);(try clear ho0)))
    go_ret
    exact⟨_,fq,wN HO264,bw HB⟩
mutual
def zn.l0 :Nat->Int->List (S51)->Int->Option ((List (S51)))
 | 0,_,_,_=>none
 | k+1,x0,x3,x4=>if x4 < x0 then (if x3.length < 5864062014805 then (zn.l0 k x0 (x3++[(⟨(⟨0,1,x4⟩:S49)⟩:S51)]) (wrap64 (x4+1))) else (none)) else (zn.l1 k x0 x3 0)
def zn.l1 :Nat->Int->List (S51)->Int->Option ((List (S51)))
 | 0,_,_,_=>none
 | k+1,x0,x3,x5=>if x5 < x0 then (zn.l2 k x0 x3 x5 0) else (some x3)
def zn.l2 :Nat->Int->List (S51)->Int->Int->Option ((List (S51)))
 | 0,_,_,_,_=>none
 | k+1,x0,x3,x5,x6=>if x6 < x0 then (if x3.length < 5864062014805 then (zn.l2 k x0 (x3++[(⟨(⟨1,x5,x6⟩:S49)⟩:S51)]) x5 (wrap64 (x6+1))) else (none)) else (zn.l1 k x0 x3 (wrap64 (x5+1)))
end
def zn.f (k:Nat) (a0:Int):Option ((List (S51))):=zn.l0 k a0 (([(⟨(⟨0,0,1⟩:S49)⟩:S51)]:List (S51))) 0
theorem zn.Ag :∀ k,(∀ y0 y1 y2,LeO (zn.l0 k y0 y1 y2) (zn.l0 (k+1) y0 y1 y2))/\(∀ y0 y1 y2,LeO (zn.l1 k y0 y1 y2) (zn.l1 (k+1) y0 y1 y2))/\(∀ y0 y1 y2 y3,LeO (zn.l2 k y0 y1 y2 y3) (zn.l2 (k+1) y0 y1 y2 y3))
 | 0=>⟨λ_ _ _ r h=>by simp[zn.l0]at h,λ_ _ _ r h=>by simp[zn.l1]at h,λ_ _ _ _ r h=>by simp[zn.l2]at h⟩
 | k+1=>by
  obtain⟨ih0,ih1,ih2⟩:=zn.Ag k;refine⟨?_,?_,?_⟩
  ·intro y0 y1 y2
   unfold zn.l0
   repeat' with_reducible first|intro _|apply ih0|apply ih1|apply ih2|apply Eb|apply Ec|apply Ed|apply Ee
  ·intro y0 y1 y2
   unfold zn.l1
   repeat' with_reducible first|intro _|apply ih0|apply ih1|apply ih2|apply Eb|apply Ec|apply Ed|apply Ee
  ·intro y0 y1 y2 y3
   unfold zn.l2
   repeat' with_reducible first|intro _|apply ih0|apply ih1|apply ih2|apply Eb|apply Ec|apply Ed|apply Ee
theorem zn.mono (a0 k):LeO (zn.f k a0) (zn.f (k+1) a0):=by
 obtain⟨ih0,ih1,ih2⟩:=zn.Ag k;unfold zn.f
 repeat' with_reducible first|intro _|apply ih0|apply ih1|apply ih2|apply Eb|apply Ec|apply Ed|apply Ee
theorem zn.calls (k:Nat) (a0:Int) (r:List (S51)) (w:World) (h:zn.f k a0=some r):
  Calls Tryz.prog 50 #[int i64 a0] w λe w'=>∃ v0_:Value,e=.returned (v0_)/\Kd.R k51 51 w' w.heap.size (λ_=>True) v0_ r/\Below w.heap.size w w':=by
 have HB:=Em w;have H:=h;unfold zn.f at H;clear h;generalize hy265:(([(⟨(⟨0,0,1⟩:S49)⟩:S51)]:List (S51)))=y265 at H;have Ny265:=am hy265.symm;clear hy265;have H':=am H;clear H;go_enter Tryz.func50,Tryz.ntmps50
 go_wp2_with (first|((with_reducible refine zd (N:=9) rfl ?_);refine Kd.AR k51 _ 51 ?hg (N:=9) ?hd (xs:=([(⟨(⟨0,0,1⟩:S49)⟩:S51)]:List (S51))) (inner:=[int i64 0,int i64 0,int i64 1]) (ok:=λ_=>True) (okp:=λ_=>True) ?hr ?hp (λ_ hk=>hk) trivial (Below.refl _ _) (Nat.le_refl _) (by simp) ?_;(case hd=>rfl);(case hg=>rfl);(case hr=>first|(go_simp;done)|(go_simp;rfl));(case hp=>exact(Reps.c3 (show Kd.M k51 _ _ _ (⟨(⟨0,0,1⟩:S49)⟩:S51) [int i64 0,int i64 0,int i64 1] from (qap _ _ _ (⟨(⟨0,0,1⟩:S49)⟩:S51) )) (Reps.none _ _)));intro v266 w2 ho3 hb hg_ hnew_;clear hg_ hnew_;rw[<-Ny265.out]at ho3;have HO267:=am (Kd.Ai ho3 (bz HB));replace HB:=bq HB hb;clear hb ho3))
 go_loopg [3,4] k (λkq v3 v4 w'=>∃ (x3_1:List (S51)) (x4_1:Int),v4=int i64 x4_1/\qf (zn.l0 kq a0 x3_1 x4_1=some r)/\qf (kq<=k)/\qf (Kd.R k51 51 w' w.heap.size (λ_=>True) v3 x3_1)/\qf (Below w.heap.size w w'))
 case atStart=>exact⟨(y265),(0),fr,H',⟨Nat.le_refl _⟩,⟨wR HO267⟩,⟨bw HB⟩⟩
 case round=>
  clear H';try clear p2;try clear c3
  obtain⟨x3_1,x4_1,rfl,HA,HK1,HO_3,HB⟩:=hrel
  cases gk with
  | zero=>exact absurd HA.out (by simp[zn.l0])
  | succ k1=>
   have H:=HA.out;clear HA;simp only[zn.l0]at H;replace H:=Eg H;rcases H with ⟨c4b0,H⟩|⟨c4b0,H⟩
   ·replace H:=ifn H;obtain⟨c5,H⟩:=H;have LMc5:=am c5;clear c5
    generalize hy268:(x3_1++[(⟨(⟨0,1,x4_1⟩:S49)⟩:S51)]:List (S51))=y268 at H;have Ny268:=am hy268.symm;clear hy268;have H':=am H;clear H
    go_wp2_with (first|((with_reducible refine jz (b:=.append) (xs:=#[.tmp 15,.tmp 19]) rfl ?_);at_builtin;refine Kd.Au k51 (w0:=w) w.heap.size rfl (.tmp 15) (.tmp 19) 27 51 (.agg #[(int i64 0),(int i64 0),(int i64 0)]) 24 rfl Tryz.underlying27 qb2 rfl (by decide) (by omega) u3 x3_1 (⟨(⟨0,1,x4_1⟩:S49)⟩:S51) [int i64 0,int i64 1,int i64 x4_1] (λ_=>True) (λ_=>False) rfl rfl ?aP (λ_ hk=>hk.elim) ?aF ?aO ?aB ?aS ?aL ?_;(case aP=>exact qap _ _ _ (⟨(⟨0,1,x4_1⟩:S49)⟩:S51));(case aB=>exact(bw HB));(case aF=>exact(λ_ _=>trivial));(case aO=>exact(wR HO_3));(case aS=>exact(bz HB));(case aL=>have:=LMc5.out;omega);intro v269 w6 ho hb hg hat;rw[<-Ny268.out]at ho;replace HB:=am (hb);have HO270:=am (ho);clear HO_3;clear ho hb hg hat))
    go_roundg k1
    case measure=>have:=HK1.out;omega
    case rel=>exact⟨(y268),(wrap64 (x4_1+1)),fr,H',⟨by have:=HK1.out;omega⟩,⟨wR HO270⟩,⟨bw HB⟩⟩
   ·have H':=am H;clear H;go_wp2
    go_loopg [3,5] k1 (λkq v3 v5 w'=>∃ (x3_2:List (S51)) (x5_2:Int),v5=int i64 x5_2/\qf (zn.l1 kq a0 x3_2 x5_2=some r)/\qf (kq<=k1)/\qf (Kd.R k51 51 w' w.heap.size (λ_=>True) v3 x3_2)/\qf (Below w.heap.size w w'))
    case atStart=>exact⟨(x3_1),(0),fr,H',⟨Nat.le_refl _⟩,⟨wR HO_3⟩,⟨bw HB⟩⟩
    case round=>
     clear H';try clear p2;try clear c3;try clear c4;try clear c4b0;try clear c5;try clear p6;try clear p2
     obtain⟨x3_2,x5_2,rfl,HA,HK2,HO_3,HB⟩:=hrel
     cases gk with
     | zero=>exact absurd HA.out (by simp[zn.l1])
     | succ k2=>
      have H:=HA.out;clear HA;simp only[zn.l1]at H;replace H:=Eg H;rcases H with ⟨c7b0,H⟩|⟨c7b0,H⟩
      ·have H':=am H;clear H;go_wp2
       go_loopg [3,6] k2 (λkq v3 v6 w'=>∃ (x3_3:List (S51)) (x6_3:Int),v6=int i64 x6_3/\qf (zn.l2 kq a0 x3_3 x5_2 x6_3=some r)/\qf (kq<=k2)/\qf (Kd.R k51 51 w' w.heap.size (λ_=>True) v3 x3_3)/\qf (Below w.heap.size w w'))
       case atStart=>exact⟨(x3_2),(0),fr,H',⟨Nat.le_refl _⟩,⟨wR HO_3⟩,⟨bw HB⟩⟩
       case round=>
        clear H';try clear p2;try clear c3;try clear c4;try clear c4b0;try clear c5;try clear p6;try clear c7;try clear c7b0;try clear p2;try clear p6
        obtain⟨x3_3,x6_3,rfl,HA,HK3,HO_3,HB⟩:=hrel
        cases gk with
        | zero=>exact absurd HA.out (by simp[zn.l2])
        | succ k3=>
         have H:=HA.out;clear HA;simp only[zn.l2]at H;replace H:=Eg H;rcases H with ⟨c8b0,H⟩|⟨c8b0,H⟩
         ·replace H:=ifn H;obtain⟨c9,H⟩:=H;have LMc9:=am c9;clear c9
          generalize hy271:(x3_3++[(⟨(⟨1,x5_2,x6_3⟩:S49)⟩:S51)]:List (S51))=y271 at H;have Ny271:=am hy271.symm;clear hy271;have H':=am H;clear H
          go_wp2_with (first|((with_reducible refine jz (b:=.append) (xs:=#[.tmp 31,.tmp 36]) rfl ?_);at_builtin;refine Kd.Au k51 (w0:=w) w.heap.size rfl (.tmp 31) (.tmp 36) 27 51 (.agg #[(int i64 0),(int i64 0),(int i64 0)]) 24 rfl Tryz.underlying27 qb2 rfl (by decide) (by omega) u3 x3_3 (⟨(⟨1,x5_2,x6_3⟩:S49)⟩:S51) [int i64 1,int i64 x5_2,int i64 x6_3] (λ_=>True) (λ_=>False) rfl rfl ?aP (λ_ hk=>hk.elim) ?aF ?aO ?aB ?aS ?aL ?_;(case aP=>exact qap _ _ _ (⟨(⟨1,x5_2,x6_3⟩:S49)⟩:S51));(case aB=>exact(bw HB));(case aF=>exact(λ_ _=>trivial));(case aO=>exact(wR HO_3));(case aS=>exact(bz HB));(case aL=>have:=LMc9.out;omega);intro v272 w10 ho hb hg hat;rw[<-Ny271.out]at ho;replace HB:=am (hb);have HO273:=am (ho);clear HO_3;clear ho hb hg hat))
          go_roundg k3
          case measure=>have:=HK1.out;have:=HK2.out;have:=HK3.out;omega
          case rel=>exact⟨(y271),(wrap64 (x6_3+1)),fr,H',⟨by have:=HK1.out;have:=HK2.out;have:=HK3.out;omega⟩,⟨wR HO273⟩,⟨bw HB⟩⟩
         ·have H':=am H;clear H;go_wp2
          go_roundg k3
          case measure=>have:=HK1.out;have:=HK2.out;have:=HK3.out;omega
          case rel=>exact⟨(x3_3),(wrap64 (x5_2+1)),fr,H',⟨by have:=HK1.out;have:=HK2.out;have:=HK3.out;omega⟩,⟨wR HO_3⟩,⟨bw HB⟩⟩
      ·obtain rfl:=Option.some.inj H;go_wp2;go_ret
       exact⟨_,fq,wR HO_3,bw HB⟩
end Go.Proofs.YtmgbpmihbljngaaGreat.PA
