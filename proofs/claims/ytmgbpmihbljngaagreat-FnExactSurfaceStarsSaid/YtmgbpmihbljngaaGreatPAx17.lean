-- by xprint.py and mergepa.py
import Derived.Test.YtmgbpmihbljngaaGreatPAx12
import Derived.Test.YtmgbpmihbljngaaGreatPAx4
import Derived.Shelf.SlicesE.Delete
import Derived.Deep.WholeRow
namespace Go.Proofs.YtmgbpmihbljngaaGreat.PA
open Value (int)
open IntKind (i64)
open RowKit YtmgbpmihbljngaaGreatW.PrintWords YtmgbpmihbljngaaGreatW.PrintLast YtmgbpmihbljngaaGreatW.PrintMore
attribute [local go_sem] Q3 Q0 Zk Zj Qo Qp Q5 Q4
set_option linter.unusedVariables false
set_option linter.unusedSimpArgs false
def zo.f (k:Nat) (a0:Int) (l1:List Int) (l2:List Int):Option (Bool):=(Qz.f k a0 l1).bind λt168=>(if t168=true then ((Qz.f k a0 l2).bind λt169=>(if t169=true then (if 4<=(l1.length:Int) then (if 4<=(l2.length:Int) then ((Z3.f k a0 (([(l1.take 4),(l1.drop 4),(l2.take 4),(l2.drop 4)]:List (List Int)))).bind λt193=>(some (t193 == 3))) else (none)) else (none)) else (some false))) else (some false))
theorem zo.mono (a0 a1 a2 k):LeO (zo.f k a0 a1 a2) (zo.f (k+1) a0 a1 a2):=by
 unfold zo.f
 repeat' with_reducible first|intro _|apply Qz.mono|apply Z3.mono|apply Eb|apply Ec|apply Ed|apply Ee
def zo.T1 :Bool×List (List Nat×List Nat):=(true,[([],[]),([],[]),([0,1],[0,1]),([2,2],[2]),([3],[3]),([3],[3]),([4,5,3,3],[3,4,5]),([3,6],[3,6]),([7,6],[7]),([8],[8]),([8],[8]),([10,8],[8,10]),([8],[8]),([12,8],[8,12]),([8],[8]),([14,8],[8,14]),([8],[8]),([16,8],[8,16]),([11,13,15,17,8],[8,11,13,15,17]),([9,18,8,8],[8,9,18]),([19,8],[8,19]),([8,20],[8,20]),([21,19,0,1,2,3,4,5,6,7,8,9,10,11,12,13,14,15,16,17,18,19,20,21],[21])])
def zo.B1 :List Nat:=[0,0,3,7,15,15,63,127,255,511,511,1535,511,4607,511,16895,511,66047,261631,524287,1048575,2097151,4194303]
theorem zo.tab1 :rtab .any (Jc Tryz.f61 1)=zo.T1:=by kernel_rfl
theorem zo.bits1 :Ql zo.T1.2 zo.B1=true:=by kernel_rfl
set_option maxHeartbeats 8000000 in
set_option maxRecDepth 100000 in
theorem zo.callsV (k:Nat) (a0:Int) (P1_:Nat->Prop) (A1:Option Addr) (c1:Nat) (l1:List Int) (P2_:Nat->Prop) (A2:Option Addr) (c2:Nat) (l2:List Int) (r:Bool) (w:World) (hs1:Kd.V (Kd.int i64) 3 w w.heap.size (λk_=>P1_ k_) (.slice A1 l1.length c1) l1) (hs2:Kd.V (Kd.int i64) 3 w w.heap.size (λk_=>P2_ k_) (.slice A2 l2.length c2) l2) (h:zo.f k a0 l1 l2=some r):
  Calls Tryz.prog 61 #[int i64 a0,.slice A1 l1.length c1,.slice A2 l2.length c2] w λe w'=>e=.returned (.bool r)/\Below w.heap.size w w':=by
 have HO1:=am (show Kd.V (Kd.int i64) 3 w w.heap.size (λk_=>((P1_ k_\/P2_ k_)\/w.heap.size<=k_)) (.slice A1 l1.length c1) l1 from Kd.AP hs1 (λk_ hk=>.inl (.inl hk)));have HO2:=am (show Kd.V (Kd.int i64) 3 w w.heap.size (λk_=>((P1_ k_\/P2_ k_)\/w.heap.size<=k_)) (.slice A2 l2.length c2) l2 from Kd.AP hs2 (λk_ hk=>.inl (.inr hk)));have HB:=Em w;have H:=h;unfold zo.f at H;clear h;replace H:=bs H;obtain⟨t168,A4,H⟩:=H
 by_cases c5:t168=true
 ·subst c5
  rw[if_pos rfl]at H;replace H:=bs H;obtain⟨t169,A6,H⟩:=H
  by_cases c7:t169=true
  ·subst c7
   rw[if_pos rfl]at H;replace H:=ifn H;obtain⟨c8,H⟩:=H;have c8b0:=eq_true c8;have c8b1:=decide_eq_true c8;clear c8;generalize hy170:(l1.take 4:List Int)=y170 at H;have Ny170:=am hy170.symm;clear hy170;have c9b0:=eq_true (od:4<=(l1.length:Int));generalize hy175:(l1.drop 4:List Int)=y175 at H;have Ny175:=am hy175.symm;clear hy175;replace H:=ifn H;obtain⟨c10,H⟩:=H;have c10b0:=eq_true c10;have c10b1:=decide_eq_true c10;clear c10;generalize hy180:(l2.take 4:List Int)=y180 at H;have Ny180:=am hy180.symm;clear hy180;have c11b0:=eq_true (od:4<=(l2.length:Int));generalize hy185:(l2.drop 4:List Int)=y185 at H;have Ny185:=am hy185.symm;clear hy185;generalize hy190:(([y170,y175,y180,y185]:List (List Int)))=y190 at H;have Ny190:=am hy190.symm;clear hy190;replace H:=bs H;obtain⟨t193,A12,H⟩:=H;obtain rfl:=Option.some.inj H;go_enter Tryz.func61,Tryz.ntmps61
   try go_wp2
   replace HO1:=am (Kd.Bs HO1.out);replace HO2:=am (Kd.Bs HO2.out);replace HB:=am (Qn HB.out);refine st 23 (λw'=>True) [] zo.tab1 zo.bits1 (trivial) λhHeld HT_ HW_=>?_;generalize w.drew=w13 at HO1 HO2 HB hHeld ⊢;refine Et 0 7 1 8 HT_ ?_;refine on 2 (some 9) HT_ λK hK=>?_;refine gs_ Tryz.func102 #[int i64 a0,.slice A1 l1.length c1] ?_
   with_reducible refine(Qz.calls k a0 _ _ l1 true _ ?side1 ?side2 A4.out).mono ?_
   (case side1=>exact Kd.Ad (Kd.An HO1.out).2.2 gs)
   (case side2=>exact(Kd.An HO1.out).2.1)
   rintro e w14 ⟨rfl,hb⟩;refine⟨_,rfl,?_⟩;replace HO1:=am (Kd.AC (wV HO1) hb);replace HO2:=am (Kd.AC (wV HO2) hb);replace HB:=bq HB hb
   (try clear hb)
   (try clear hk)
   refine hK.out _ _ trivial λhHeld=>nz ?_;clear hK K;refine Et 3 10 4 11 HT_ ?_;refine pz 5 12 HT_ ?_;refine on 6 (some 13) HT_ λK hK=>?_;refine gs_ Tryz.func102 #[int i64 a0,.slice A2 l2.length c2] ?_
   with_reducible refine(Qz.calls k a0 _ _ l2 true _ ?side1 ?side2 A6.out).mono ?_
   (case side1=>exact Kd.Ad (Kd.An HO2.out).2.2 gs)
   (case side2=>exact(Kd.An HO2.out).2.1)
   rintro e w15 ⟨rfl,hb⟩;refine⟨_,rfl,?_⟩;replace HO1:=am (Kd.AC (wV HO1) hb);replace HO2:=am (Kd.AC (wV HO2) hb);replace HB:=bq HB hb
   (try clear hb)
   have q16:(4:Int)<=((l1.length:Int):Int):=od;obtain⟨i016,hi016,_,hsz16,_⟩:=info_parts Ju;have hroom16:l1.length<=c1:=(Kd.An HO1.out).2.1;have hC16:Kd.F (Kd.int i64) _ _ A1 l1.length l1:=(Kd.V_at (base:=w.heap.size) HO1.out).2.2;have hcut16:=qo3 (P:=Tryz.prog) 37 3 .i64 Tryz.underlying37 hi016 A1 l1.length c1 4 (by omega) q16 hroom16;have hr16:=Kd.C6 (m:=4) hC16 (by omega);have hy16:y170.length=(4:Int).toNat:=(by rw[Ny170.out,List.length_take];omega)
   rw[<-Ny170.out]at hr16;rw[<-hy16]at hcut16;have HO174:=am (show Kd.V (Kd.int i64) 3 _ w.heap.size _ (.slice A1 y170.length c1) y170 from Kd.V_mk (by omega) hr16);clear hr16 hC16 hroom16 hi016 hsz16;have KY16:=am hy16;clear hy16;replace q16:=eq_true q16;have q17:(4:Int)<=((l1.length:Int):Int):=od;obtain⟨i017,hi017,_,hsz17,_⟩:=info_parts Ju;have hroom17:l1.length<=c1:=(Kd.An HO1.out).2.1;have hC17:Kd.F (Kd.int i64) _ _ A1 l1.length l1:=(Kd.V_at (base:=w.heap.size) HO1.out).2.2;have hcut17:=qih (P:=Tryz.prog) 37 3 .i64 Tryz.underlying37 hi017 1 hsz17 A1 l1.length c1 4 (by omega) q17;have hr17:=Kd.CP (m:=(4:Int).toNat) (c:=c1) hC17 (by omega) hroom17;obtain⟨A17,hA17⟩:∃ Az_,Az_=(if c1=(4:Int).toNat then A1 else (A1:Option Addr).map (·.add ((4:Int).toNat*1))):=⟨_,rfl⟩
   obtain⟨c17,hc17⟩:∃ cz_,cz_=c1 - (4:Int).toNat:=⟨_,rfl⟩
   have hy17:y175.length=l1.length - (4:Int).toNat:=(by rw[Ny175.out,List.length_drop]<;>omega)
   rw[show (l1).drop (4:Int).toNat=y175 from Ny175.out.symm]at hr17;replace hr17:Kd.F (Kd.int i64) _ _ A17 y175.length y175:=(by rw[hA17];exact hr17)
   rw[<-hy17,<-hA17,<-hc17]at hcut17;have HO179:=am (show Kd.V (Kd.int i64) 3 _ w.heap.size _ (.slice A17 y175.length c17) y175 from Kd.V_mk (by rw[hy17,hc17];exact Nat.sub_le_sub_right hroom17 _) hr17);clear hr17 hC17 hroom17 hi017 hsz17 hc17;have KY17:=am hy17;have KA17:=am hA17;clear hy17 hA17;replace q17:=eq_true q17;have q18:(4:Int)<=((l2.length:Int):Int):=od;obtain⟨i018,hi018,_,hsz18,_⟩:=info_parts Ju;have hroom18:l2.length<=c2:=(Kd.An HO2.out).2.1;have hC18:Kd.F (Kd.int i64) _ _ A2 l2.length l2:=(Kd.V_at (base:=w.heap.size) HO2.out).2.2;have hcut18:=qo3 (P:=Tryz.prog) 37 3 .i64 Tryz.underlying37 hi018 A2 l2.length c2 4 (by omega) q18 hroom18;have hr18:=Kd.C6 (m:=4) hC18 (by omega);have hy18:y180.length=(4:Int).toNat:=(by rw[Ny180.out,List.length_take];omega)
   rw[<-Ny180.out]at hr18;rw[<-hy18]at hcut18;have HO184:=am (show Kd.V (Kd.int i64) 3 _ w.heap.size _ (.slice A2 y180.length c2) y180 from Kd.V_mk (by omega) hr18);clear hr18 hC18 hroom18 hi018 hsz18;have KY18:=am hy18;clear hy18;replace q18:=eq_true q18;have q19:(4:Int)<=((l2.length:Int):Int):=od;obtain⟨i019,hi019,_,hsz19,_⟩:=info_parts Ju;have hroom19:l2.length<=c2:=(Kd.An HO2.out).2.1;have hC19:Kd.F (Kd.int i64) _ _ A2 l2.length l2:=(Kd.V_at (base:=w.heap.size) HO2.out).2.2;have hcut19:=qih (P:=Tryz.prog) 37 3 .i64 Tryz.underlying37 hi019 1 hsz19 A2 l2.length c2 4 (by omega) q19;have hr19:=Kd.CP (m:=(4:Int).toNat) (c:=c2) hC19 (by omega) hroom19;obtain⟨A19,hA19⟩:∃ Az_,Az_=(if c2=(4:Int).toNat then A2 else (A2:Option Addr).map (·.add ((4:Int).toNat*1))):=⟨_,rfl⟩
   obtain⟨c19,hc19⟩:∃ cz_,cz_=c2 - (4:Int).toNat:=⟨_,rfl⟩
   have hy19:y185.length=l2.length - (4:Int).toNat:=(by rw[Ny185.out,List.length_drop]<;>omega)
   rw[show (l2).drop (4:Int).toNat=y185 from Ny185.out.symm]at hr19;replace hr19:Kd.F (Kd.int i64) _ _ A19 y185.length y185:=(by rw[hA19];exact hr19)
   rw[<-hy19,<-hA19,<-hc19]at hcut19;have HO189:=am (show Kd.V (Kd.int i64) 3 _ w.heap.size _ (.slice A19 y185.length c19) y185 from Kd.V_mk (by rw[hy19,hc19];exact Nat.sub_le_sub_right hroom19 _) hr19);clear hr19 hC19 hroom19 hi019 hsz19 hc19;have KY19:=am hy19;have KA19:=am hA19;clear hy19 hA19;replace q19:=eq_true q19;refine hK.out _ _ trivial λhHeld=>nz ?_;clear hK K;refine Et 7 14 8 15 HT_ ?_;refine Et 9 16 10 17 HT_ ?_;refine Et 11 18 12 19 HT_ ?_;refine Et 13 20 14 21 HT_ ?_;refine Et 15 22 16 23 HT_ ?_;refine pz 17 24 HT_ ?_;refine on 18 (some 25) HT_ λK hK=>?_;refine Kd.BZ KI _ 37 ?hg (N':=25) ?hd (xs:=([y170,y175,y180,y185]:List (List Int))) (inner:=[.slice A1 y170.length c1,.slice A17 y175.length c17,.slice A2 y180.length c2,.slice A19 y185.length c19]) (ok:=(λk_=>((P1_ k_\/P2_ k_)\/w.heap.size<=k_))) (okp:=(λk_=>((P1_ k_\/P2_ k_)\/w.heap.size<=k_))) ?hr ?hp (λ_ hk=>hk) ((show ∀ k_,w15.heap.size<=k_->(λk_=>((P1_ k_\/P2_ k_)\/w.heap.size<=k_)) k_ from λk_ hk=>(.inr (Nat.le_trans (bz HB) hk))) _ (Nat.le_refl _)) (Below.refl _ _) (Nat.le_refl _) (by simp) ?_;(case hd=>rfl);(case hg=>rfl);(case hr=>first|(go_simp;done)|(go_simp;rfl));(case hp=>exact(Reps.one (show Kd.FK KI _ _ y170 [.slice A1 y170.length c1] from (Kd.Aw (Kd.An (HO174.out)).2.1 (Kd.V_F (wV HO174)))) (Reps.one (show Kd.FK KI _ _ y175 [.slice A17 y175.length c17] from (Kd.Aw (Kd.An (HO179.out)).2.1 (Kd.V_F (wV HO179)))) (Reps.one (show Kd.FK KI _ _ y180 [.slice A2 y180.length c2] from (Kd.Aw (Kd.An (HO184.out)).2.1 (Kd.V_F (wV HO184)))) (Reps.one (show Kd.FK KI _ _ y185 [.slice A19 y185.length c19] from (Kd.Aw (Kd.An (HO189.out)).2.1 (Kd.V_F (wV HO189)))) (Reps.none _ _))))))
   intro v191 w20 ho21 hb hg_ hnew_;clear hg_ hnew_;rw[<-Ny190.out]at ho21;replace HO1:=eV HO1 (Kd.AH ho21) hb;replace HO2:=eV HO2 (Kd.AH ho21) hb;replace HO174:=eV HO174 (Kd.AH ho21) hb;replace HO179:=eV HO179 (Kd.AH ho21) hb;replace HO184:=eV HO184 (Kd.AH ho21) hb;replace HO189:=eV HO189 (Kd.AH ho21) hb;have HO192:=am (Kd.AG ho21 (bz HB));replace HB:=bq HB hb;clear hb ho21;obtain⟨Ao22,co22,eo22⟩:=Kd.AF HO192.out
   (first|subst eo22|(injection eo22 with f1_ f2_ f3_;have f4_:=f1_.symm;have f5_:=f3_.symm;clear f1_ f2_ f3_;subst f4_;subst f5_))
   refine hK.out _ _ trivial λhHeld=>nz ?_;clear hK K;refine on 19 (some 26) HT_ λK hK=>?_;refine gs_ Tryz.func103 #[int i64 a0,.slice Ao22 y190.length co22] ?_
   with_reducible refine(Z3.calls k a0 _ _ y190 t193 _ ?side1 ?side2 A12.out).mono ?_
   (case side1=>exact Kd.Ad (Kd.Az HO192.out).2.2 gs)
   (case side2=>exact(Kd.Az HO192.out).2.1)
   rintro e w23 ⟨rfl,hb⟩;refine⟨_,rfl,?_⟩;replace HO1:=am (Kd.AC (wV HO1) hb);replace HO2:=am (Kd.AC (wV HO2) hb);replace HO174:=am (Kd.AC (wV HO174) hb);replace HO179:=am (Kd.AC (wV HO179) hb);replace HO184:=am (Kd.AC (wV HO184) hb);replace HO189:=am (Kd.AC (wV HO189) hb);replace HO192:=am (Kd.AK (wN HO192) hb);replace HB:=bq HB hb
   (try clear hb)
   (try clear hk)
   refine hK.out _ _ trivial λhHeld=>nz ?_;clear hK K;refine Et 20 27 21 28 HT_ ?_;refine pz 22 6 HT_ ?_;refine Zh (Qe HT_.out (by kernel_rfl)) ?_
   try go_wp2
   go_ret
   exact⟨fq,bw HB⟩
  ·replace c7:=Bool.eq_false_iff.mpr c7
   subst c7;rw[if_neg (show ¬ (false=true) by decide)]at H;obtain rfl:=Option.some.inj H;go_enter Tryz.func61,Tryz.ntmps61
   try go_wp2
   replace HO1:=am (Kd.Bs HO1.out);replace HO2:=am (Kd.Bs HO2.out);replace HB:=am (Qn HB.out);refine st 23 (λw'=>True) [] zo.tab1 zo.bits1 (trivial) λhHeld HT_ HW_=>?_;generalize w.drew=w24 at HO1 HO2 HB hHeld ⊢;refine Et 0 7 1 8 HT_ ?_;refine on 2 (some 9) HT_ λK hK=>?_;refine gs_ Tryz.func102 #[int i64 a0,.slice A1 l1.length c1] ?_
   with_reducible refine(Qz.calls k a0 _ _ l1 true _ ?side1 ?side2 A4.out).mono ?_
   (case side1=>exact Kd.Ad (Kd.An HO1.out).2.2 gs)
   (case side2=>exact(Kd.An HO1.out).2.1)
   rintro e w25 ⟨rfl,hb⟩;refine⟨_,rfl,?_⟩;replace HO1:=am (Kd.AC (wV HO1) hb);replace HO2:=am (Kd.AC (wV HO2) hb);replace HB:=bq HB hb
   (try clear hb)
   refine hK.out _ _ trivial λhHeld=>nz ?_;clear hK K;refine Et 3 10 4 11 HT_ ?_;refine pz 5 12 HT_ ?_;refine on 6 (some 13) HT_ λK hK=>?_;refine gs_ Tryz.func102 #[int i64 a0,.slice A2 l2.length c2] ?_
   with_reducible refine(Qz.calls k a0 _ _ l2 false _ ?side1 ?side2 A6.out).mono ?_
   (case side1=>exact Kd.Ad (Kd.An HO2.out).2.2 gs)
   (case side2=>exact(Kd.An HO2.out).2.1)
   rintro e w26 ⟨rfl,hb⟩;refine⟨_,rfl,?_⟩;replace HO1:=am (Kd.AC (wV HO1) hb);replace HO2:=am (Kd.AC (wV HO2) hb);replace HB:=bq HB hb
   (try clear hb)
   refine hK.out _ _ trivial λhHeld=>nz ?_;clear hK K;refine Et 7 14 8 15 HT_ ?_;refine po 9 16 HT_ ?_;refine po 10 17 HT_ ?_;refine po 11 18 HT_ ?_;refine po 12 19 HT_ ?_;refine po 13 20 HT_ ?_;refine po 14 21 HT_ ?_;refine po 15 22 HT_ ?_;refine po 16 23 HT_ ?_;refine po 17 24 HT_ ?_;refine po 18 25 HT_ ?_;refine po 19 26 HT_ ?_;refine po 20 27 HT_ ?_;refine Et 21 28 22 6 HT_ ?_;refine Zh (Qe HT_.out (by kernel_rfl)) ?_
   try go_wp2
   go_ret
   exact⟨fq,bw HB⟩
 ·replace c5:=Bool.eq_false_iff.mpr c5
  subst c5;rw[if_neg (show ¬ (false=true) by decide)]at H;obtain rfl:=Option.some.inj H;go_enter Tryz.func61,Tryz.ntmps61
  try go_wp2
  replace HO1:=am (Kd.Bs HO1.out);replace HO2:=am (Kd.Bs HO2.out);replace HB:=am (Qn HB.out);refine st 23 (λw'=>True) [] zo.tab1 zo.bits1 (trivial) λhHeld HT_ HW_=>?_;generalize w.drew=w27 at HO1 HO2 HB hHeld ⊢;refine Et 0 7 1 8 HT_ ?_;refine on 2 (some 9) HT_ λK hK=>?_;refine gs_ Tryz.func102 #[int i64 a0,.slice A1 l1.length c1] ?_
  with_reducible refine(Qz.calls k a0 _ _ l1 false _ ?side1 ?side2 A4.out).mono ?_
  (case side1=>exact Kd.Ad (Kd.An HO1.out).2.2 gs)
  (case side2=>exact(Kd.An HO1.out).2.1)
  rintro e w28 ⟨rfl,hb⟩;refine⟨_,rfl,?_⟩;replace HO1:=am (Kd.AC (wV HO1) hb);replace HO2:=am (Kd.AC (wV HO2) hb);replace HB:=bq HB hb
  (try clear hb)
  refine hK.out _ _ trivial λhHeld=>nz ?_;clear hK K;refine pz 3 10 HT_ ?_;refine po 4 11 HT_ ?_;refine po 5 12 HT_ ?_;refine po 6 13 HT_ ?_;refine Et 7 14 8 15 HT_ ?_;refine po 9 16 HT_ ?_;refine po 10 17 HT_ ?_;refine po 11 18 HT_ ?_;refine po 12 19 HT_ ?_;refine po 13 20 HT_ ?_;refine po 14 21 HT_ ?_;refine po 15 22 HT_ ?_;refine po 16 23 HT_ ?_;refine po 17 24 HT_ ?_;refine po 18 25 HT_ ?_;refine po 19 26 HT_ ?_;refine po 20 27 HT_ ?_;refine Et 21 28 22 6 HT_ ?_;refine Zh (Qe HT_.out (by kernel_rfl)) ?_
  try go_wp2
  go_ret
  exact⟨fq,bw HB⟩
theorem zo.calls (k:Nat) (a0:Int) (A1:Option Addr) (c1:Nat) (l1:List Int) (A2:Option Addr) (c2:Nat) (l2:List Int) (r:Bool) (w:World) (hr1:Kd.C (Kd.int i64) w A1 l1.length l1) (hc1:l1.length<=c1) (hr2:Kd.C (Kd.int i64) w A2 l2.length l2) (hc2:l2.length<=c2) (h:zo.f k a0 l1 l2=some r):
  Calls Tryz.prog 61 #[int i64 a0,.slice A1 l1.length c1,.slice A2 l2.length c2] w λe w'=>e=.returned (.bool r)/\Below w.heap.size w w':=
 zo.callsV k a0 (λq=>q < w.heap.size) A1 c1 l1 (λq=>q < w.heap.size) A2 c2 l2 r w (Kd.V_mk hc1 (Kd.C_F (Kd.AY .i64) hr1)) (Kd.V_mk hc2 (Kd.C_F (Kd.AY .i64) hr2)) h
mutual
def qo.l0 :Nat->Int->List Int->List Int->List (List Int)->Int->Option (List Int×Bool)
 | 0,_,_,_,_,_=>none
 | k+1,x0,x1,x2,x8,x9=>if x9 < 4 then (if 0<=x9 then (if x9 < (x1.length:Int) then (if 0<=(wrap64 (4+x9)) then (if (wrap64 (4+x9)) < (x1.length:Int) then (if x9 < (x2.length:Int) then ((Q9.f x0 (wrap64 (-(rd x2 x9)))).bind λt345=>(if (wrap64 (4+x9)) < (x2.length:Int) then ((Q9.f x0 (wrap64 (-(rd x2 (wrap64 (4+x9)))))).bind λt347=>(if x8.length < 5864062014805 then (qo.l0 k x0 x1 x2 (x8++[(([rd x1 x9,rd x1 (wrap64 (4+x9)),t345,t347]:List Int))]) (wrap64 (x9+1))) else (none))) else (none))) else (none)) else (none)) else (none)) else (none)) else (none)) else ((qr.f k x0 x8 4).bind λt354=>(if 0 < (t354.length:Int) then (qo.l1 k x0 x1 (zt t354 0) (([]:List Int)) 0) else (none)))
def qo.l1 :Nat->Int->List Int->List Int->List Int->Int->Option (List Int×Bool)
 | 0,_,_,_,_,_=>none
 | k+1,x0,x1,x10,x11,x12=>if x12 < 4 then (if 0 < (x10.length:Int) then (if 0<=x12 then (if x12 < (x1.length:Int) then (if 1 < (x10.length:Int) then (if 0<=(wrap64 (4+x12)) then (if (wrap64 (4+x12)) < (x1.length:Int) then (if x0=0 then (none) else (if x11.length < 17592186044416 then (qo.l1 k x0 x1 x10 (x11++[Int.tmod (wrap64 ((wrap64 ((rd x10 0)*(rd x1 x12)))+(wrap64 ((rd x10 1)*(rd x1 (wrap64 (4+x12))))))) x0]) (wrap64 (x12+1))) else (none))) else (none)) else (none)) else (none)) else (none)) else (none)) else (none)) else ((zh.f k x0 x11).bind λt368=>(some (t368,true)))
end
def qo.f (k:Nat) (a0:Int) (l1:List Int) (l2:List Int):Option (List Int×Bool):=(zo.f k a0 l1 l2).bind λt335=>(if t335=true then (qo.l0 k a0 l1 l2 (([]:List (List Int))) 0) else (some ((([]:List Int)),false)))
theorem qo.Ag :∀ k,(∀ y0 y1 y2 y3 y4,LeO (qo.l0 k y0 y1 y2 y3 y4) (qo.l0 (k+1) y0 y1 y2 y3 y4))/\(∀ y0 y1 y2 y3 y4,LeO (qo.l1 k y0 y1 y2 y3 y4) (qo.l1 (k+1) y0 y1 y2 y3 y4))
 | 0=>⟨λ_ _ _ _ _ r h=>by simp[qo.l0]at h,λ_ _ _ _ _ r h=>by simp[qo.l1]at h⟩
 | k+1=>by
  obtain⟨ih0,ih1⟩:=qo.Ag k;refine⟨?_,?_⟩
  ·intro y0 y1 y2 y3 y4
   unfold qo.l0
   repeat' with_reducible first|intro _|apply ih0|apply ih1|apply zo.mono|apply qr.mono|apply zh.mono|apply Eb|apply Ec|apply Ed|apply Ee
  ·intro y0 y1 y2 y3 y4
   unfold qo.l1
   repeat' with_reducible first|intro _|apply ih0|apply ih1|apply zo.mono|apply qr.mono|apply zh.mono|apply Eb|apply Ec|apply Ed|apply Ee
theorem qo.mono (a0 a1 a2 k):LeO (qo.f k a0 a1 a2) (qo.f (k+1) a0 a1 a2):=by
 obtain⟨ih0,ih1⟩:=qo.Ag k;unfold qo.f
 repeat' with_reducible first|intro _|apply ih0|apply ih1|apply zo.mono|apply qr.mono|apply zh.mono|apply Eb|apply Ec|apply Ed|apply Ee
def qo.T7 :Bool×List (List Nat×List Nat):=(true,[([],[]),([],[]),([],[]),([1,2],[1,2]),([3],[3]),([],[]),([],[]),([6],[6]),([5,7],[5,7]),([8],[8]),([],[]),([],[]),([],[]),([11,12],[11,12]),([13],[13]),([14],[14]),([10,15],[10,15]),([],[]),([],[]),([],[]),([19],[19]),([18,20],[18,20]),([21],[21]),([22],[22]),([17,23,16],[17,23]),([4,9,16,24],[4,9,16,24]),([25],[25]),([0,26,24],[0,26]),([27,27,0,1,2,3,4,5,6,7,8,9,10,11,12,13,14,15,16,17,18,19,20,21,22,23,24,25,26,27],[0,27])])
def qo.B7 :List Nat:=[0,0,0,6,14,0,0,64,224,480,0,0,0,6144,14336,30720,64512,0,0,0,524288,1835008,3932160,8126464,16776192,33554430,67108862,134217727,268435455]
def qo.T13 :Bool×List (List Nat×List Nat):=(true,[([],[]),([],[]),([1],[1]),([2],[2]),([],[]),([],[]),([4,5],[4,5]),([6],[6]),([3,7],[3,7]),([],[]),([9],[9]),([10],[10]),([],[]),([],[]),([13],[13]),([12,14],[12,14]),([15],[15]),([11,16],[11,16]),([8,17],[8,17]),([],[]),([18,19],[18,19]),([20],[20]),([0,21],[0,21]),([22,22,0,1,2,3,4,5,6,7,8,9,10,11,12,13,14,15,16,17,18,19,20,21,22],[0,22])])
def qo.B13 :List Nat:=[0,0,2,6,0,0,48,112,254,0,512,1536,0,0,8192,28672,61440,130560,262142,0,1048574,2097150,4194303,8388607]
theorem qo.rcell0 {w:World} {base n c:Nat} {ok:Nat->Prop} {ad:Addr} {xs:List Int} (h:Kd.V (Kd.int i64) 3 w base ok (.slice (some ad) n c) xs) (hi:0 < xs.length):w.cell? ad=some (int i64 (rd xs 0)):=by
 obtain⟨ad',e,hc⟩:=Kd.Aj (Kd.An h).2.2 0 (by omega) (by omega)
 cases e
 rw[show ((0:Int)).toNat=0 from rfl,Addr.add_zero']at hc;exact hc
theorem qo.rcell1 {w:World} {base n c:Nat} {ok:Nat->Prop} {ad:Addr} {xs:List Int} (h:Kd.V (Kd.int i64) 3 w base ok (.slice (some ad) n c) xs) (hi:1 < xs.length):w.cell? ⟨ad.block,ad.off+1,none⟩=some (int i64 (rd xs 1)):=by
 obtain⟨ad',e,hc⟩:=Kd.Aj (Kd.An h).2.2 1 (by omega) (by omega)
 cases e
 exact hc
set_option maxHeartbeats 8000000 in
set_option maxRecDepth 100000 in
theorem qo.calls (k:Nat) (a0:Int) (A1:Option Addr) (c1:Nat) (l1:List Int) (A2:Option Addr) (c2:Nat) (l2:List Int) (r1:List Int) (r2:Bool) (w:World) (hr1:Kd.C (Kd.int i64) w A1 l1.length l1) (hc1:l1.length<=c1) (hr2:Kd.C (Kd.int i64) w A2 l2.length l2) (hc2:l2.length<=c2) (h:qo.f k a0 l1 l2=some (r1,r2)):
  Calls Tryz.prog 24 #[int i64 a0,.slice A1 l1.length c1,.slice A2 l2.length c2] w λe w'=>∃ v0_:Value,e=.returned (.tuple #[v0_,.bool r2])/\Kd.R (Kd.int i64) 3 w' w.heap.size (λ_=>True) v0_ r1/\Below w.heap.size w w':=by
 have HR1:=am hr1;have HC1:=am hc1;clear hr1 hc1;have HR2:=am hr2;have HC2:=am hc2;clear hr2 hc2;have HB:=Em w;have H:=h;unfold qo.f at H;clear h;replace H:=bs H;obtain⟨t335,A4,H⟩:=H
 by_cases c5:t335=true
 ·subst c5
  rw[if_pos rfl]at H;generalize hy339:(([]:List (List Int)))=y339 at H;have Ny339:=am hy339.symm;clear hy339;have H':=am H;clear H;go_enter Tryz.func24,Tryz.ntmps24
  go_wp2_with (first|((with_reducible refine za (f:=61) rfl ?_);refine gl 16 Tryz.func61 #[int i64 a0,.slice A1 l1.length c1,.slice A2 l2.length c2] ?_;(with_reducible refine(zo.calls k a0 _ _ l1 _ _ l2 true _ ?_ ?_ ?_ ?_ A4.out).mono ?_);exact wC HR1;exact HC1.out;exact wC HR2;exact HC2.out;rintro e w6 ⟨rfl,hb⟩;refine⟨_,rfl,?_⟩;replace HB:=bq HB hb;(try clear hb))|((with_reducible refine zd (N:=19) rfl ?_);refine Kd.Cj KI _ 37 ?hg (N':=19) ?hd (xs:=([]:List (List Int))) (inner:=[]) (ok:=(λ_=>True)) (okp:=(λ_=>True)) ?hr ?hp (λ_ hk=>hk) ((show ∀ k_,w6.heap.size<=k_->(λ_=>True) k_ from λk_ hk=>trivial) _ (Nat.le_refl _)) (Below.refl _ _) (Nat.le_refl _) (by simp) ?_;(case hd=>rfl);(case hg=>rfl);(case hr=>first|(go_simp;done)|(go_simp;rfl));(case hp=>exact(Reps.none _ _));intro v340 w7 ho8 hb hg_ hnew_;clear hg_ hnew_;rw[<-Ny339.out]at ho8;have HO341:=am (Kd.AG ho8 (bz HB));replace HB:=bq HB hb;clear hb ho8))
  go_loopg [8,9] k (λkq v8 v9 w'=>∃ (x8_1:List (List Int)) (x9_1:Int),v9=int i64 x9_1/\qf (qo.l0 kq a0 l1 l2 x8_1 x9_1=some (r1,r2))/\qf (kq<=k)/\qf (Kd.N KI 37 w' w.heap.size (λ_=>True) v8 x8_1)/\qf (Below w.heap.size w w'))
  case atStart=>exact⟨(y339),(0),fr,H',⟨Nat.le_refl _⟩,⟨wN HO341⟩,⟨bw HB⟩⟩
  case round=>
   clear H';try clear c1;try clear c2;try clear p2;try clear c5;try clear c6
   obtain⟨x8_1,x9_1,rfl,HA,HK1,HO_8,HB⟩:=hrel
   cases gk with
   | zero=>exact absurd HA.out (by simp[qo.l0])
   | succ k1=>
    have H:=HA.out;clear HA;simp only[qo.l0]at H;replace H:=Eg H;rcases H with ⟨c9b0,H⟩|⟨c9b0,H⟩
    ·replace H:=Ef H;obtain⟨c10b0,H⟩:=H;replace H:=Ef H;obtain⟨c11b0,H⟩:=H
     obtain⟨ji12,hji12⟩:∃ j_:Int,(wrap64 (4+x9_1))=j_:=⟨_,rfl⟩
     (first|rw[hji12]at H|simp only[hji12]at H)
     have hji12w:(IntKind.i64.wrap (4+x9_1))=ji12:=(qa6 _).trans hji12;replace H:=Ef H;obtain⟨c13b0,H⟩:=H;replace H:=Ef H;obtain⟨c14b0,H⟩:=H;replace H:=ifn H;obtain⟨c15,H⟩:=H;have c15b0:=decide_eq_true c15;clear c15;replace H:=bs H;obtain⟨t345,A16,H⟩:=H;replace H:=Ef H;obtain⟨c17b0,H⟩:=H;replace H:=bs H;obtain⟨t347,A18,H⟩:=H;generalize hy348:(([rd l1 x9_1,rd l1 (ji12),t345,t347]:List Int))=y348 at H;have Ny348:=am hy348.symm;clear hy348;replace H:=ifn H;obtain⟨c19,H⟩:=H;have LMc19:=am c19;clear c19;generalize hy351:(x8_1++[y348]:List (List Int))=y351 at H;have Ny351:=am hy351.symm;clear hy351;have H':=am H;clear H
     try go_wp2
     replace HO_8:=am (Kd.Bc HO_8.out);replace HB:=am (Qn HB.out);have p342:0<=(x9_1:Int):=od;have q342:x9_1 < (l1.length:Int):=od;obtain⟨ad342,e342,hx342_0⟩:=Kd.Aj HR1.out x9_1 p342 q342;have hw342_0:=hx342_0
     cases e342
     replace hx342_0:=wcl HB hx342_0;replace p342:=eq_true p342;replace q342:=eq_true q342;have p343:0<=((ji12):Int):=od;have q343:(ji12) < (l1.length:Int):=od;obtain⟨ad343,e343,hx343_0⟩:=Kd.Aj HR1.out (ji12) p343 q343;have hw343_0:=hx343_0;obtain rfl:ad342=ad343:=(by injection e343)
     replace hx343_0:=wcl HB hx343_0;replace p343:=eq_true p343;replace q343:=eq_true q343;have p344:0<=(x9_1:Int):=od;have q344:x9_1 < (l2.length:Int):=od;obtain⟨ad344,e344,hx344_0⟩:=Kd.Aj HR2.out x9_1 p344 q344;have hw344_0:=hx344_0
     cases e344
     replace hx344_0:=wcl HB hx344_0;replace p344:=eq_true p344;replace q344:=eq_true q344;have p346:0<=((ji12):Int):=od;have q346:(ji12) < (l2.length:Int):=od;obtain⟨ad346,e346,hx346_0⟩:=Kd.Aj HR2.out (ji12) p346 q346;have hw346_0:=hx346_0;obtain rfl:ad344=ad346:=(by injection e346)
     replace hx346_0:=wcl HB hx346_0;replace p346:=eq_true p346;replace q346:=eq_true q346;refine st (T:=qo.T7) (B:=qo.B7) 29 (λw'=>w'.cell? (ad342.add (x9_1).toNat)=some (int i64 (rd l1 x9_1))/\w'.cell? (ad342.add ((ji12)).toNat)=some (int i64 (rd l1 (ji12)))/\w'.cell? (ad344.add (x9_1).toNat)=some (int i64 (rd l2 x9_1))/\w'.cell? (ad344.add ((ji12)).toNat)=some (int i64 (rd l2 (ji12)))) [] (by kernel_rfl) (by kernel_rfl) (⟨(wcl HB hw342_0),(wcl HB hw343_0),(wcl HB hw344_0),(wcl HB hw346_0)⟩) λhHeld HT_ HW_=>?_;generalize wr.drew=w20 at HO_8 HB hx342_0 hx343_0 hx344_0 hx346_0 hHeld ⊢;refine Et 0 24 1 25 HT_ ?_;refine Et 2 26 3 27 HT_ ?_;refine Et 5 29 6 30 HT_ ?_;refine Et 7 31 8 32 HT_ ?_;refine Et 10 34 11 35 HT_ ?_;refine Et 12 36 13 37 HT_ ?_;refine Et 17 41 18 42 HT_ ?_;refine Et 19 43 20 44 HT_ ?_;refine pz 21 45 HT_ ?_;refine tk 4 28 HT_ HW_ hHeld ?_;refine tk 9 33 HT_ HW_ hHeld ?_;refine tk 14 38 HT_ HW_ hHeld ?_;refine pz 15 39 HT_ ?_;refine tk 22 46 HT_ HW_ hHeld ?_;refine pz 23 47 HT_ ?_;refine on 16 (some 40) HT_ λK hK=>?_;refine gs_ Tryz.func62 #[int i64 a0,int i64 (wrap64 (-(rd l2 x9_1)))] ?_
     with_reducible refine(Q9.calls a0 (wrap64 (-(rd l2 x9_1))) t345 _ A16.out).mono ?_
     rintro e w' ⟨rfl,⟨nd,rfl⟩⟩;refine⟨_,rfl,?_⟩;refine hK.out _ _ ⟨(wcl HB hw342_0),(wcl HB hw343_0),(wcl HB hw344_0),(wcl HB hw346_0)⟩ λhHeld=>nz ?_;clear hK K;refine on 24 (some 48) HT_ λK hK=>?_;refine gs_ Tryz.func62 #[int i64 a0,int i64 (wrap64 (-(rd l2 (ji12))))] ?_ (hargs:=by (try simp only[List.map_toArray,List.map_cons,List.map_nil]);first|done|(simp only[hji12];rfl)|rfl|(simp only[List.length_drop,List.length_take];rfl))
     with_reducible refine(Q9.calls a0 (wrap64 (-(rd l2 (ji12)))) t347 _ A18.out).mono ?_
     rintro e w' ⟨rfl,⟨nd,rfl⟩⟩;refine⟨_,rfl,?_⟩;refine hK.out _ _ ⟨(wcl HB hw342_0),(wcl HB hw343_0),(wcl HB hw344_0),(wcl HB hw346_0)⟩ λhHeld=>nz ?_;clear hK K;refine on 25 (some 49) HT_ λK hK=>?_;refine Kd.AX (Kd.int i64) _ 3 ?hg (N:=49) ?hd (xs:=([rd l1 x9_1,rd l1 (ji12),t345,t347]:List Int)) (inner:=[int i64 (rd l1 x9_1),int i64 (rd l1 (ji12)),int i64 t345,int i64 t347]) (ok:=λ_=>True) (okp:=λ_=>True) ?hr ?hp (λ_ hk=>hk) trivial (Below.refl _ _) (Nat.le_refl _) (by simp) ?_;(case hd=>rfl);(case hg=>rfl);(case hr=>first|(go_simp;done)|(go_simp;rfl));(case hp=>exact(Reps.one (show Kd.M (Kd.int i64) _ _ _ (rd l1 x9_1) [int i64 (rd l1 x9_1)] from rfl) (Reps.one (show Kd.M (Kd.int i64) _ _ _ (rd l1 (ji12)) [int i64 (rd l1 (ji12))] from rfl) (Reps.one (show Kd.M (Kd.int i64) _ _ _ t345 [int i64 t345] from rfl) (Reps.one (show Kd.M (Kd.int i64) _ _ _ t347 [int i64 t347] from rfl) (Reps.none _ _))))))
     intro v349 w21 ho22 hb hg_ hnew_;clear hg_ hnew_;rw[<-Ny348.out]at ho22;replace HO_8:=eN HO_8 (Kd.Am ho22) hb;have HO350:=am (Kd.Ai ho22 (bz HB));replace HB:=bq HB hb;clear hb ho22;obtain⟨Ao24,co24,eo24⟩:=Kd.Ah HO350.out
     (first|subst eo24|(injection eo24 with f1_ f2_ f3_;have f4_:=f1_.symm;have f5_:=f3_.symm;clear f1_ f2_ f3_;subst f4_;subst f5_))
     refine hK.out _ _ ⟨(wcl HB hw342_0),(wcl HB hw343_0),(wcl HB hw344_0),(wcl HB hw346_0)⟩ λhHeld=>nz ?_;clear hK K;refine on 26 (some 50) HT_ λK hK=>?_;refine qbq (w1:=?_) (v:=?_) (by rfl) rfl ?_ ?_
     rotate_left 2
     ·go_simp
      constructor
      ·rfl
      ·rfl
     refine hK.out _ _ ⟨(World.cell?_alloc_lt _ _ _ (World.block_lt_of_cell? _ _ ((wcl HB hw342_0)))).trans ((wcl HB hw342_0)),(World.cell?_alloc_lt _ _ _ (World.block_lt_of_cell? _ _ ((wcl HB hw343_0)))).trans ((wcl HB hw343_0)),(World.cell?_alloc_lt _ _ _ (World.block_lt_of_cell? _ _ ((wcl HB hw344_0)))).trans ((wcl HB hw344_0)),(World.cell?_alloc_lt _ _ _ (World.block_lt_of_cell? _ _ ((wcl HB hw346_0)))).trans ((wcl HB hw346_0))⟩ λhHeld=>nz ?_;clear hK K;refine on 27 (some 51) HT_ λK hK=>?_;refine Kd.BB KI (w0:=w) w.heap.size (by rfl) (.tmp 24) (.tmp 50) 24 37 (.slice none 0 0) 24 rfl Tryz.underlying24 Ja rfl (by decide) (by omega) u8 x8_1 y348 [.slice Ao24 y348.length co24] (λ_=>True) (λk_=>((λ_=>True)) k_/\some k_≠(u8:Value).ownBlock) rfl rfl ?aP (λ_ hk=>hk) ?aF ?aO ?aB ?aS ?aL ?_
     (case aP=>exact(Kd.Aw (Kd.Ac (Kd.Ae (ok':=(λk_=>((λ_=>True)) k_/\some k_≠(u8:Value).ownBlock)) (Kd.Ak (HO350.out) (Kd.Av HO_8.out) (by decide)) (λk_ hk=>⟨trivial,hk.2⟩))).2.1 (Kd.R_F (Kd.Ae (ok':=(λk_=>((λ_=>True)) k_/\some k_≠(u8:Value).ownBlock)) (Kd.Ak (HO350.out) (Kd.Av HO_8.out) (by decide)) (λk_ hk=>⟨trivial,hk.2⟩)))))
     (case aB=>exact(bw HB))
     (case aF=>exact(λ_ _=>trivial))
     (case aO=>exact(oN_ HO_8 (λ_ hk=>trivial)))
     (case aS=>exact(bz HB))
     (case aL=>have:=LMc19.out;omega)
     intro v352 w23 ho hb hg hat
     rw[<-Ny351.out]at ho;replace HB:=am (hb);have HO353:=am (ho);clear HO_8 HO350;clear ho hb hg hat
     refine hK.out _ _ ⟨(wcl HB hw342_0),(wcl HB hw343_0),(wcl HB hw344_0),(wcl HB hw346_0)⟩ λhHeld=>nz ?_;clear hK K;refine pz 28 8 HT_ ?_;refine Zh (Qe HT_.out (by kernel_rfl)) ?_
     try go_wp2
     go_roundg k1
     case measure=>have:=HK1.out;omega
     case rel=>exact⟨(y351),(wrap64 (x9_1+1)),fr,H',⟨by have:=HK1.out;omega⟩,⟨wN HO353⟩,⟨bw HB⟩⟩
    ·replace H:=bs H;obtain⟨t354,A25,H⟩:=H;replace H:=ifn H;obtain⟨c26,H⟩:=H;have c26b0:=decide_eq_true c26
     have c26b1:decide (0 < t354.length)=true:=decide_eq_true (by omega);clear c26;generalize hy358:(([]:List Int))=y358 at H;have Ny358:=am hy358.symm;clear hy358;have H':=am H;clear H;obtain⟨Ao27,co27,eo27⟩:=Kd.AF HO_8.out;subst eo27
     go_wp2_with (first|((with_reducible refine za (f:=49) rfl ?_);refine gl 54 Tryz.func49 #[int i64 a0,.slice Ao27 x8_1.length co27,int i64 4] ?_;(with_reducible refine(qr.calls k1 a0 (λk_=>True) _ _ x8_1 4 t354 _ ?_ A25.out).mono ?_);exact Kd.N_V (HO_8.out);rintro e w28 ⟨v355,rfl,ho0,hb⟩;refine⟨_,rfl,?_⟩;replace HO_8:=eN HO_8 (Kd.AH ho0) hb;have HO356:=am (Kd.AG (Kd.Ar (ok':=λk_=>True) ho0 (λk_ hk_=>trivial)) (bz HB));replace HB:=bq HB hb;(try clear hb);(try clear ho0);obtain⟨Ao29,co29,eo29⟩:=Kd.AF HO356.out;subst eo29;have p357:0<=(0:Int):=(by omega);have q357:0 < (t354.length:Int):=od;obtain⟨ad357,A357_0,c357_0,e357,hx357_0,hl357_0,hi357_0⟩:=qat (Kd.Az HO356.out).2.2 0 p357 q357;cases e357;obtain⟨ce357,hce357,hMe357,hcc357⟩:=Kd.CA HO356.out [] 0 p357 (by first|exact q357|exact od|(have e_:=(Kd.Az HO356.out).1;omega));obtain⟨ua357_0,uc357_0,rfl,ul357_0,ge357_0⟩:=Kd.Ax hMe357;have hv357_0:=hcc357 0 _ rfl;rw[Nat.add_zero,show (KI).sz=1 from rfl,Nat.mul_one]at hv357_0;replace hv357_0:=Option.some.inj (hv357_0.symm.trans hx357_0);injection hv357_0 with hva_ hvn_ hvc_;rw[hva_]at ge357_0;rw[hvc_]at ul357_0;have HL357_0:=am (show Kd.V (Kd.int i64) 3 _ w.heap.size _ _ (zt t354 0) from Kd.V_mk ul357_0 ge357_0);clear hva_ hvn_ hvc_ ge357_0 ul357_0;clear hcc357 hce357;have qi357:(0 < t354.length)=True:=eq_true (by omega);(try rw[show ((0:Int)).toNat=0 from rfl]at hx357_0);(try rw[Addr.add_zero']at hx357_0);clear hi357_0 hl357_0;replace p357:=eq_true p357;replace q357:=eq_true q357)|((with_reducible refine zd (N:=57) rfl ?_);refine li 3 ([]:List Int) ?_;intro v359 w30 ho31 hb;rw[<-Ny358.out]at ho31;replace HO_8:=eN HO_8 (Kd.Am ho31) hb;replace HO356:=eN HO356 (Kd.Am ho31) hb;replace HL357_0:=eV HL357_0 (Kd.Am ho31) hb;have HO360:=am (Kd.Ai ho31 (bz HB));replace HB:=bq HB hb;clear hb ho31))
     go_loopg [11,12] k1 (λkq v11 v12 w'=>∃ (x11_2:List Int) (x12_2:Int),v12=int i64 x12_2/\qf (qo.l1 kq a0 l1 (zt t354 0) x11_2 x12_2=some (r1,r2))/\qf (kq<=k1)/\qf (Kd.R (Kd.int i64) 3 w' w.heap.size (λ_=>True) v11 x11_2)/\qf (Kd.V (Kd.int i64) 3 w' w.heap.size (λk_=>some k_≠(v11:Value).ownBlock) (.slice A357_0 (zt t354 0).length c357_0) (zt t354 0))/\qf (Below w.heap.size w w'))
     case atStart=>exact⟨(y358),(0),fr,H',⟨Nat.le_refl _⟩,⟨wR HO360⟩,⟨Kd.AC (Kd.AP HL357_0.out (λ_ hk=>hk.2)) gs⟩,⟨bw HB⟩⟩
     case round=>
      clear H';try clear c1;try clear c2;try clear p2;try clear c3;try clear p3;try clear q3;try clear hx3;try clear qi3;try clear c4;try clear c5;try clear c6;try clear p6;try clear c9;try clear c9b0;try clear c10;try clear c10b0
      try clear c11;try clear c11b0;try clear c13;try clear c13b0;try clear c14;try clear c14b0;try clear c15;try clear c15b0;try clear c17;try clear c17b0;try clear c19;try clear c24;try clear c26;try clear c26b0;try clear c26b1;try clear hx342_0
      try clear hx343_0;try clear hx344_0;try clear hx346_0;try clear hx357_0;try clear p2;try clear p342;try clear p343;try clear p344;try clear p346;try clear p357;try clear q342;try clear q343;try clear q344;try clear q346;try clear q357
      obtain⟨x11_2,x12_2,rfl,HA,HK2,HO_11,HX_,HB⟩:=hrel
      cases gk with
      | zero=>exact absurd HA.out (by simp[qo.l1])
      | succ k2=>
       have H:=HA.out;clear HA;simp only[qo.l1]at H;replace H:=Eg H;rcases H with ⟨c32b0,H⟩|⟨c32b0,H⟩
       ·replace H:=ifn H;obtain⟨c33,H⟩:=H;have c33b0:=decide_eq_true c33
        have c33b1:decide (0 < (zt t354 0).length)=true:=decide_eq_true (by omega);clear c33;replace H:=Ef H;obtain⟨c34b0,H⟩:=H;replace H:=Ef H;obtain⟨c35b0,H⟩:=H;replace H:=ifn H;obtain⟨c36,H⟩:=H;have c36b0:=decide_eq_true c36;have c36b1:decide (1 < (zt t354 0).length)=true:=decide_eq_true (by omega);clear c36;obtain⟨ji37,hji37⟩:∃ j_:Int,(wrap64 (4+x12_2))=j_:=⟨_,rfl⟩
        (first|rw[hji37]at H|simp only[hji37]at H)
        have hji37w:(IntKind.i64.wrap (4+x12_2))=ji37:=(qa6 _).trans hji37;replace H:=Ef H;obtain⟨c38b0,H⟩:=H;replace H:=Ef H;obtain⟨c39b0,H⟩:=H;replace H:=ifm H;obtain⟨c40,H⟩:=H;have c40b0:=beq_eq_false_iff_ne.mpr c40;have c40b1:=bne_iff_ne.mpr c40;replace H:=ifn H;obtain⟨c41,H⟩:=H;have LMc41:=am c41;clear c41;generalize hy365:(x11_2++[Int.tmod (wrap64 ((wrap64 ((rd (zt t354 0) 0)*(rd l1 x12_2)))+(wrap64 ((rd (zt t354 0) 1)*(rd l1 (ji37)))))) a0]:List Int)=y365 at H;have Ny365:=am hy365.symm;clear hy365;have H':=am H;clear H
        try go_wp2
        have n0_:=am (Kd.Ay HO_11.out);have n1_:=am (Qn HB.out);have nx_:=am (Kd.Bs HX_.out);clear HX_;have HX_:=nx_;clear nx_;clear HO_11;clear HB;have HO_11:=n0_;have HB:=n1_;clear n0_ n1_;have p361:0<=(0:Int):=(by omega)
        have q361:0 < ((zt t354 0).length:Int):=od;obtain⟨ad361,e361,hx361_0⟩:=Kd.Aj (Kd.An HX_.out).2.2 0 p361 q361;have hw361_0:=hx361_0
        (try rw[show ((0:Int)).toNat=0 from rfl]at hw361_0)
        (try rw[show 0*1=0 from rfl]at hw361_0)
        (try rw[Addr.add_zero']at hw361_0)
        cases e361
        have qi361:(0 < (zt t354 0).length)=True:=eq_true (by omega)
        (try rw[show ((0:Int)).toNat=0 from rfl]at hx361_0)
        (try rw[Addr.add_zero']at hx361_0)
        replace p361:=eq_true p361;replace q361:=eq_true q361;have p362:0<=(x12_2:Int):=od;have q362:x12_2 < (l1.length:Int):=od;obtain⟨ad362,e362,hx362_0⟩:=Kd.Aj HR1.out x12_2 p362 q362;have hw362_0:=hx362_0
        cases e362
        replace hx362_0:=wcl HB hx362_0;replace p362:=eq_true p362;replace q362:=eq_true q362;have p363:0<=(1:Int):=(by omega)
        have q363:1 < ((zt t354 0).length:Int):=od;obtain⟨ad363,e363,hx363_0⟩:=Kd.Aj (Kd.An HX_.out).2.2 1 p363 q363;have hw363_0:=hx363_0
        (try rw[show ((1:Int)).toNat=1 from rfl]at hw363_0)
        (try rw[show 1*1=1 from rfl]at hw363_0)
        (try simp only[Nat.reduceMul,Nat.reduceEqDiff,Go.Addr.add,↓reduceIte]at hw363_0)
        obtain rfl:ad361=ad363:=(by injection e363)
        (try simp only[show (1:Int).toNat=1 from rfl,Nat.reduceMul,Nat.reduceEqDiff,Go.Addr.add,↓reduceIte]at hx363_0)
        have qi363:(1 < (zt t354 0).length)=True:=eq_true (by omega)
        (try rw[show ((1:Int)).toNat=1 from rfl]at hx363_0)
        replace p363:=eq_true p363;replace q363:=eq_true q363;have p364:0<=((ji37):Int):=od;have q364:(ji37) < (l1.length:Int):=od;obtain⟨ad364,e364,hx364_0⟩:=Kd.Aj HR1.out (ji37) p364 q364;have hw364_0:=hx364_0;obtain rfl:ad362=ad364:=(by injection e364)
        replace hx364_0:=wcl HB hx364_0;replace p364:=eq_true p364;replace q364:=eq_true q364;refine st (T:=qo.T13) (B:=qo.B13) 24 (λw'=>w'.cell? ad361=some (int i64 (rd (zt t354 0) 0))/\w'.cell? (ad362.add (x12_2).toNat)=some (int i64 (rd l1 x12_2))/\w'.cell? ⟨ad361.block,ad361.off+1,none⟩=some (int i64 (rd (zt t354 0) 1))/\w'.cell? (ad362.add ((ji37)).toNat)=some (int i64 (rd l1 (ji37)))) [] (by kernel_rfl) (by kernel_rfl) (⟨hw361_0,(wcl HB hw362_0),hw363_0,(wcl HB hw364_0)⟩) λhHeld HT_ HW_=>?_;generalize wr.drew=w42 at HX_ hw361_0 hw363_0 HO_11 HB hx361_0 hx362_0 hx363_0 hx364_0 hHeld ⊢;refine Et 0 62 1 63 HT_ ?_;refine Et 2 64 4 66 HT_ ?_;refine Et 5 67 6 68 HT_ ?_;refine Et 9 71 10 72 HT_ ?_;refine Et 12 74 13 75 HT_ ?_;refine Et 14 76 15 77 HT_ ?_;refine pz 19 81 HT_ ?_;refine tk 3 65 HT_ HW_ hHeld ?_;refine tk 7 69 HT_ HW_ hHeld ?_;refine pz 8 70 HT_ ?_;refine tk 11 73 HT_ HW_ hHeld ?_;refine tk 16 78 HT_ HW_ hHeld ?_;refine Et 17 79 18 80 HT_ ?_;refine pz 20 82 HT_ ?_;refine on 21 (some 83) HT_ λK hK=>?_;refine qbq (w1:=?_) (v:=?_) (by rfl) rfl ?_ ?_
        rotate_left 2
        ·go_simp
         constructor
         ·rfl
         ·rfl
        refine hK.out _ _ ⟨(World.cell?_alloc_lt _ _ _ (World.block_lt_of_cell? _ _ (hw361_0))).trans (hw361_0),(World.cell?_alloc_lt _ _ _ (World.block_lt_of_cell? _ _ ((wcl HB hw362_0)))).trans ((wcl HB hw362_0)),(World.cell?_alloc_lt _ _ _ (World.block_lt_of_cell? _ _ (hw363_0))).trans (hw363_0),(World.cell?_alloc_lt _ _ _ (World.block_lt_of_cell? _ _ ((wcl HB hw364_0)))).trans ((wcl HB hw364_0))⟩ λhHeld=>nz ?_;clear hK K;refine on 22 (some 84) HT_ λK hK=>?_;refine Kd.AA (Kd.int i64) (w0:=w) w.heap.size (by rfl) (.tmp 62) (.tmp 83) 37 3 (int i64 0) 8 rfl Tryz.underlying37 Ju rfl (by decide) (by omega) u11 x11_2 (Int.tmod (wrap64 ((wrap64 ((rd (zt t354 0) 0)*(rd l1 x12_2)))+(wrap64 ((rd (zt t354 0) 1)*(rd l1 (ji37)))))) a0) [int i64 (Int.tmod (wrap64 ((wrap64 ((rd (zt t354 0) 0)*(rd l1 x12_2)))+(wrap64 ((rd (zt t354 0) 1)*(rd l1 (ji37)))))) a0)] (λ_=>True) (λ_=>False) rfl rfl ?aP (λ_ hk=>hk.elim) ?aF ?aO ?aB ?aS ?aL ?_
        (case aP=>exact rfl)
        (case aB=>exact(bw HB))
        (case aF=>exact(λ_ _=>trivial))
        (case aO=>exact(wR HO_11))
        (case aS=>exact(bz HB))
        (case aL=>have:=LMc41.out;omega)
        intro v366 w43 ho hb hg hat
        have nx_:=am (Kd.Bq (v:=u11) (v1:=v366) (ok:=λ_=>True) (Kd.AP (wV HX_) (λ_ hk=>⟨trivial,hk⟩)) hg hat);clear HX_;have HX_:=nx_;clear nx_;rw[<-Ny365.out]at ho;replace HB:=am (hb);have HO367:=am (ho);clear HO_11;clear ho hb hg hat
        refine hK.out _ _ ⟨(qo.rcell0 HX_.out (of_eq_true qi361)),(wcl HB hw362_0),(qo.rcell1 HX_.out (of_eq_true qi363)),(wcl HB hw364_0)⟩ λhHeld=>nz ?_;clear hK K;refine pz 23 11 HT_ ?_;refine Zh (Qe HT_.out (by kernel_rfl)) ?_
        try go_wp2
        go_roundg k2
        case measure=>have:=HK1.out;have:=HK2.out;omega
        case rel=>exact⟨(y365),(wrap64 (x12_2+1)),fr,H',⟨by have:=HK1.out;have:=HK2.out;omega⟩,⟨wR HO367⟩,⟨Kd.AC (Kd.AP HX_.out (λ_ hk=>hk.2)) gs⟩,⟨bw HB⟩⟩
       ·replace H:=bs H;obtain⟨t368,A44,H⟩:=H
        simp only[Option.some.injEq,Prod.mk.injEq]at H;obtain⟨rfl,rfl⟩:=H;obtain⟨Ao45,co45,eo45⟩:=Kd.Ah HO_11.out;subst eo45
        go_wp2_with (first|((with_reducible refine za (f:=63) rfl ?_);refine gl 87 Tryz.func63 #[int i64 a0,.slice Ao45 x11_2.length co45] ?_;(with_reducible refine(zh.calls k2 a0 _ _ x11_2 t368 _ ?_ ?_ A44.out).mono ?_);exact Kd.Ad (Kd.Ac HO_11.out).2.2 gs;exact(Kd.Ac HO_11.out).2.1;rintro e w46 ⟨v369,rfl,ho0,hb⟩;refine⟨_,rfl,?_⟩;have HO370:=am (Kd.Ai (Kd.AW ho0 (Kd.R_lt (wR HO_11))) (bz HB));replace HO_11:=eR HO_11 (Kd.Am ho0) hb;replace HB:=bq HB hb;(try clear hb);(try clear ho0)))
        go_ret2
        exact⟨_,fq,Kd.Af (Kd.Ae HO370.out (λ_ hk=>trivial)) gs,bw HB⟩
 ·replace c5:=Bool.eq_false_iff.mpr c5
  subst c5;rw[if_neg (show ¬ (false=true) by decide)]at H;generalize hy336:(([]:List Int))=y336 at H;have Ny336:=am hy336.symm;clear hy336;simp only[Option.some.injEq,Prod.mk.injEq]at H;obtain⟨rfl,rfl⟩:=H;go_enter Tryz.func24,Tryz.ntmps24
  go_wp2_with (first|((with_reducible refine za (f:=61) rfl ?_);refine gl 16 Tryz.func61 #[int i64 a0,.slice A1 l1.length c1,.slice A2 l2.length c2] ?_;(with_reducible refine(zo.calls k a0 _ _ l1 _ _ l2 false _ ?_ ?_ ?_ ?_ A4.out).mono ?_);exact wC HR1;exact HC1.out;exact wC HR2;exact HC2.out;rintro e w47 ⟨rfl,hb⟩;refine⟨_,rfl,?_⟩;replace HB:=bq HB hb;(try clear hb))|((with_reducible refine zd (N:=18) rfl ?_);refine li 3 ([]:List Int) ?_;intro v337 w48 ho49 hb;rw[<-Ny336.out]at ho49;have HO338:=am (Kd.Ai ho49 (bz HB));replace HB:=bq HB hb;clear hb ho49))
  go_ret2
  exact⟨_,fq,wR HO338,bw HB⟩
set_option maxHeartbeats 8000000
set_option maxRecDepth 100000
attribute [local go_sem] Tryz.underlying24 Tryz.underlying27 Tryz.underlying37 Tryz.underlying49 Tryz.underlying51 Tryz.underlying53
def stL (k:Nat) (p:Int) (six:List S51) (B:List (List Int)):Nat->Nat->List (List Int)->Option (List (List Int))
  | 0,_,acc=>some acc
  | d+1,i,acc=>(jr.f k p six B (i:Int)).bind λr=>stL k p six B d (i+1) (acc++[r])
def stOk (P:List (List Int)):Bool:=P.all λx=>x.length == 3 && x.all λt=>decide (0<=t/\t < 27)
def stQ (k:Nat) (p:Int) (L:List (List Int)) (P:List Int):Option Bool:=
  (qo.f k p (L.getD (P.getD 0 0).toNat []) (L.getD (P.getD 1 0).toNat [])).bind λa=>(qo.f k p (L.getD (P.getD 0 0).toNat []) (L.getD (P.getD 2 0).toNat [])).bind λb=>if a.2=true then (if b.2=true then jw.f k a.1 b.1 else some false) else some false
def zm.f (k:Nat) (p:Int) (six:List S51):Option (List (List Int)×Bool):=
  (Zc.f k p six).bind λg=>if g=true then (Qg.f k p six).bind λB=>(stL k p six B 27 0 []).bind λL=>(qq.f k (-1)).bind λP=>if ((0 < P.1.length/\P.1.length<=1000)/\stOk P.1=true)/\(P.1.all λx=>(stQ k p L x).isSome)=true then some (P.1.filter (λx=>(stQ k p L x).getD false),true) else none else some ([],false)
theorem qlw (k:Nat) (p:Int) (six:List S51) (B:List (List Int)):∀ d i acc,LeO (stL k p six B d i acc) (stL (k+1) p six B d i acc)
  | 0,_,_=>LeO.refl _
  | d+1,i,acc=>by rw[stL,stL];exact LeO.bind (jr.mono _ _ _ _ _) λ_=>qlw k p six B d _ _
theorem qsa (k:Nat) (p:Int) (L:List (List Int)) (P:List Int):LeO (stQ k p L P) (stQ (k+1) p L P):=
  LeO.bind (qo.mono _ _ _ _) λ_=>LeO.bind (qo.mono _ _ _ _) λ_=>LeO.ite (LeO.ite (jw.mono _ _ _) (LeO.refl _)) (LeO.refl _)
theorem qnw {q q':List Int->Option Bool} (h:∀ x,LeO (q x) (q' x)) (c:Prop) [Decidable c] (P:List (List Int)):LeO (if c/\(P.all λx=>(q x).isSome)=true then some (P.filter (λx=>(q x).getD false),true) else none) (if c/\(P.all λx=>(q' x).isSome)=true then some (P.filter (λx=>(q' x).getD false),true) else none):=by
  intro r hr
  by_cases hc:c/\(P.all λx=>(q x).isSome)=true
  · rw[if_pos hc]at hr
    have e:∀ x∈P,q' x=q x:=λx hx=>by
      obtain⟨b,hb⟩:=Option.isSome_iff_exists.1 (List.all_eq_true.1 hc.2 x hx);rw[hb];exact h x b hb
    rw[if_pos ⟨hc.1,List.all_eq_true.2 λx hx=>by rw[e x hx];exact List.all_eq_true.1 hc.2 x hx⟩,<-hr]
    congr 2
    exact List.filter_congr λx hx=>by rw[e x hx]
  · rw[if_neg hc]at hr;cases hr
theorem zm.mono :∀ a0 a1 k,LeO (zm.f k a0 a1) (zm.f (k+1) a0 a1):=λa0 a1 k=>by
  unfold zm.f;exact LeO.bind (Zc.mono _ _ _) λ_=>LeO.ite (LeO.bind (Qg.mono _ _ _) λ_=>LeO.bind (qlw _ _ _ _ _ _ _) λ_=>LeO.bind (qq.mono _ _) λ_=>qnw (λx=>qsa _ _ _ _) _ _) (LeO.refl _)
theorem quq {w:World} {base g n cap:Nat} {ok:Nat->Prop} {xs:List (List Int)} (h:Kd.S KI 37 w base ok (.slice (some ⟨g,0,none⟩) n cap) xs):
    ∃ arr0,w.heap[g]? =some (.cells arr0 37 (0,0))/\n<=arr0.size/\n=xs.length/\∀ j,j < n->∃ a c,arr0[j]? =some (.slice a (xs.getD j []).length c)/\(xs.getD j []).length<=c/\∀ W:World,(∀ k,base<=k->k < w.heap.size->W.heap[k]? =w.heap[k]?)->Kd.C (Kd.int i64) W a (xs.getD j []).length (xs.getD j []):=by
  obtain⟨h0,inner,ho,hr⟩:=Kd.As (Kd.S_R h)
  rcases ho.2 with ⟨hv,_⟩|⟨g',cap',cur,hv,_,hh,hnc,hcm,hsz,htk⟩
  · cases hv
  injection hv with ha hn hc
  injection ha with ha
  injection ha with ha _
  subst ha hn hc;have e1:KI.sz=1:=rfl;rw[e1,Nat.mul_one]at hsz htk;refine⟨cur,hh,by omega,rfl,λj hj=>?_⟩;have hx:xs[j]? =some xs[j]:=List.getElem?_eq_getElem hj;have e:xs.getD j []=xs[j]:=by rw[List.getD_eq_getElem?_getD,hx];rfl
  rw[e];obtain⟨v,hv,hR⟩:=hr.2 j _ hx;rw[e1,Nat.mul_one]at hv;have hvj:cur[j]? =some v:=by
    have h1:((inner.drop j).take 1)[0]? =some v:=by rw[hv];rfl
    rw[List.getElem?_take,if_pos (by omega),List.getElem?_drop,<-htk,List.getElem?_take,if_pos (by omega),Array.getElem?_toList]at h1;exact h1
  obtain⟨A,c,e2⟩:=Kd.Ah hR;subst e2;exact⟨A,c,hvj,(Kd.Ac hR).2.1,λW hW=>(Kd.Ac (Kd.Bx hR (λk hk hlt=>hW k hk.1.2.1 hlt))).2.2⟩
theorem D8 {l:List Nat} (hn:l.Nodup):∀ t (ht:t < l.length),l.idxOf l[t]=t:=by
  intro t ht;have h1:l.idxOf l[t] < l.length:=List.idxOf_lt_length_iff.2 (List.getElem_mem ht);have h2:l[l.idxOf l[t]]=l[t]:=List.getElem_idxOf h1;have hp:=List.pairwise_iff_getElem.1 hn
  rcases Nat.lt_trichotomy (l.idxOf l[t]) t with h|h|h
  · exact absurd h2 (hp _ _ h1 ht h)
  · exact h
  · exact absurd h2.symm (hp _ _ ht h1 h)
theorem DL {w w':World} {base b' g n cap:Nat} {ok ok':Nat->Prop} {xs:List (List Int)} (h:Kd.S KI 37 w base ok (.slice (some ⟨g,0,none⟩) n cap) xs) (arr0:Array Value) (hh:w.heap[g]? =some (.cells arr0 37 (0,0))) (idx:List Nat) (hnd:idx.Nodup) (hlt:∀ t∈idx,t < n) (hb:∀ k,base<=k->k < w.heap.size->w'.heap[k]? =w.heap[k]?) (v:Value) (hb':b'<=base) (hR:(Kd.raw 1).R 37 w' b' ok' v (idx.map λj=>[(arr0[j]?).getD undef])):
    Kd.S KI 37 w' b' (λ_=>True) v (idx.map λj=>xs.getD j []):=by
  obtain⟨f,h⟩:=h;have hlen:=(Kd.Ac h).1;rw[List.length_zipIdx]at hlen;obtain⟨h0,inner,ho,hr⟩:=Kd.As h
  rcases ho.2 with ⟨hv,_⟩|⟨g',cap',cur,hv,hbg,hh',hnc,hcm,hsz,htk⟩
  · cases hv
  injection hv with ha hn hcap
  injection ha with ha
  injection ha with ha _
  subst ha hcap;rw[hh]at hh';obtain rfl:arr0=cur:=by injection hh' with h;injection h
  have e1:(Kd.tag f KI).sz=1:=rfl;rw[e1,Nat.mul_one]at hsz htk;have hty:=Kd.Bj hR;obtain⟨_,inner',ho',hr'⟩:=hR;have hl1:((idx.map λj=>xs.getD j []).zipIdx).length=(idx.map λj=>[(arr0[j]?).getD undef]).length:=by rw[List.length_zipIdx,List.length_map,List.length_map]
  refine⟨λk=>idx.idxOf (f k),λk _=>trivial,inner',by rw[hl1];exact ho',by rw[hl1];exact hr'.1,?_⟩;intro t q hq;rw[List.getElem?_zipIdx,Nat.zero_add]at hq;obtain⟨x,hx,rfl⟩:=Option.map_eq_some_iff.1 hq;rw[List.getElem?_map]at hx;obtain⟨j,hj,rfl⟩:=Option.map_eq_some_iff.1 hx;obtain⟨ht,ej⟩:=List.getElem?_eq_some_iff.1 hj;have hjn:j < n:=hlt j (by rw[<-ej];exact List.getElem_mem ht);have hxj:xs[j]? =some xs[j]:=List.getElem?_eq_getElem (by omega);have e:xs.getD j []=xs[j]:=by rw[List.getD_eq_getElem?_getD,hxj];rfl
  have hM:=hr.2 j (xs[j],j) (Kd.BN hxj);rw[e1,Nat.mul_one]at hM;rw[List.length_zipIdx]at hnc;have ecs:(inner.drop j).take 1=(inner'.drop (t*1)).take 1:=by
    have h1:=(hr'.2 t [(arr0[j]?).getD undef] (by rw[List.getElem?_map,hj];rfl)).1;rw[show (inner'.drop (t*1)).take 1=[(arr0[j]?).getD undef] from h1,<-htk];have hja:j < arr0.size:=by omega
    apply List.ext_getElem?
    intro m
    rcases Nat.eq_zero_or_pos m with rfl|hm
    · rw[List.getElem?_take,if_pos (by omega),List.getElem?_drop,List.getElem?_take,Nat.add_zero,List.length_zipIdx,if_pos (by omega),Array.getElem?_toList,Array.getElem?_eq_getElem hja];rfl
    · rw[List.getElem?_take,if_neg (by omega),List.getElem?_eq_none (by simp;omega)]
  rw[ecs]at hM
  show KI.M w' b' _ (xs.getD j []) _
  rw[e];have hM2:=KI.M_bound (KI.M_lower hb' (Kd.Ck hM (λk hk hlt=>hb k hk.1.1.2.1 hlt)))
  refine KI.M_mono ?_ hM2
  intro k hk;refine⟨⟨trivial,λek=>?_⟩,?_⟩
  · obtain⟨cl,hcl⟩:=hty k ek.symm
    obtain⟨q,hq,cl2,hcl2⟩:=hk.2.2.2;obtain rfl:q=3:=by
      rcases List.mem_cons.1 (show q∈3 :: ([]:List Nat) from hq) with h|h
      · exact h
      · cases h
    rw[hcl]at hcl2;injection hcl2 with h
    injection h with _ h
    exact absurd h (by decide)
  · show idx.idxOf (f k)=t
    have:f k=j:=hk.1.2
    rw[this,<-ej];exact D8 hnd t ht
theorem qre (P:List (List Int)) (q:List Int->Bool):((List.range P.length).filter λj=>q (P.getD j [])).map (λj=>P.getD j [])=P.filter q:=by
  have e:P=(List.range P.length).map λj=>P.getD j []:=by
    apply List.ext_getElem?
    intro j;rw[List.getElem?_map]
    by_cases hj:j < P.length
    · rw[List.getElem?_range hj,List.getElem?_eq_getElem hj,Option.map_some,List.getD_eq_getElem?_getD,List.getElem?_eq_getElem hj];rfl
    · rw[List.getElem?_eq_none (by omega),List.getElem?_eq_none (by rw[List.length_range];omega)];rfl
  conv=>rhs;rw[e]
  rw[List.filter_map]
  rfl
theorem qs3 {P:List (List Int)} (h:stOk P=true) {x:List Int} (hx:x∈P):3<=x.length/\∀ t,t < 3->0<=x.getD t 0/\x.getD t 0 < 27:=by
  unfold stOk at h;have h2:=List.all_eq_true.1 h x hx;simp only[Bool.and_eq_true,beq_iff_eq]at h2;refine⟨by omega,λt ht=>?_⟩;have hlen:t < x.length:=by omega
  have:=List.all_eq_true.1 h2.2 (x.getD t 0) (by rw[List.getD_eq_getElem?_getD,List.getElem?_eq_getElem hlen];exact List.getElem_mem hlen)
  exact of_decide_eq_true this
theorem qve {P:List (List Int)} {q:List Int->Option Bool} (h:(P.all λx=>(q x).isSome)=true) {x:List Int} (hx:x∈P):∃ b,q x=some b:=Option.isSome_iff_exists.1 (List.all_eq_true.1 h x hx)
def zm.T14 :Bool×List (List Nat×List Nat):=(true,[([],[]),([],[]),([],[]),([],[]),([2,3],[2,3]),([4],[4]),([5],[5]),([6],[6]),([1,7],[1,7]),([8],[8]),([],[]),([],[]),([],[]),([11,12],[11,12]),([13],[13]),([14],[14]),([15],[15]),([10,16],[10,16]),([17],[17]),([0,9,18],[0,9,18]),([19],[19]),([20],[20]),([20],[20]),([21,19,0,1,2,3,4,5,6,7,8,9,10,11,12,13,14,15,16,17,18,19,20,21],[21]),([22,23,0,1,2,3,4,5,6,7,8,9,10,11,12,13,14,15,16,17,18,19,20,21,22,23],[22])])
def zm.B14 :List Nat:=[0,0,0,0,12,28,60,124,254,510,0,0,0,6144,14336,30720,63488,130048,261120,524287,1048575,2097151,2097151,4194303,16777215]
def zm.T15 :Bool×List (List Nat×List Nat):=(true,[([],[]),([],[]),([],[]),([],[]),([2,3],[2,3]),([4],[4]),([5],[5]),([6],[6]),([1,7],[1,7]),([8],[8]),([],[]),([],[]),([],[]),([11,12],[11,12]),([13],[13]),([14],[14]),([15],[15]),([10,16],[10,16]),([17],[17]),([0,9,18],[0,9,18]),([19],[19]),([20],[20]),([20],[20]),([21,19,0,1,2,3,4,5,6,7,8,9,10,11,12,13,14,15,16,17,18,19,20,21],[21]),([22,23,0,1,2,3,4,5,6,7,8,9,10,11,12,13,14,15,16,17,18,19,20,21,22,23],[22])])
def zm.B15 :List Nat:=[0,0,0,0,12,28,60,124,254,510,0,0,0,6144,14336,30720,63488,130048,261120,524287,1048575,2097151,2097151,4194303,16777215]
theorem qov {w:World} {A:Option Addr} {n:Nat} {l:List Int} (h:Kd.C (Kd.int i64) w A n l) (j:Nat) (hj:j < n):∃ ad,A=some ad/\w.cell? (ad.add j)=some (int i64 (l.getD j 0)):=by
  obtain⟨ad,e,hx⟩:=Kd.Aj h (j:Int) (by omega) (by omega);exact⟨ad,e,by have:=hx;simpa [rd] using this⟩
theorem qn1 {w:World} {A:Option Addr} {n:Nat} {rows:List (List Int)} (h:Kd.C KI w A n rows) (j:Nat) (hj:j < rows.length):∃ ad B c,A=some ad/\w.cell? (ad.add j)=some (.slice B (rows.getD j []).length c)/\(rows.getD j []).length<=c/\Kd.C (Kd.int i64) w B (rows.getD j []).length (rows.getD j []):=by
  obtain⟨hl,hm,hr⟩:=h;obtain⟨ad,rfl,hc⟩:=hr (by omega);obtain⟨cs,_,⟨B,c,rfl,h1,h2⟩,hcell⟩:=hc j _ (List.getElem?_eq_getElem hj);have e:rows.getD j []=rows[j]:=by rw[List.getD_eq_getElem?_getD,List.getElem?_eq_getElem hj];rfl
  rw[e];refine⟨ad,B,c,rfl,?_,h1,h2⟩
  have:=hcell 0 (.slice B (rows[j]).length c) rfl
  simpa [KI,Kd.slice] using this
def stI (q:Nat->Bool) (j:Nat):List Nat:=(List.range j).filter q
theorem qm0 (q:Nat->Bool) (j:Nat):stI q (j+1)=stI q j++(if q j=true then [j] else []):=by
  unfold stI;rw[List.range_succ,List.filter_append]
  cases h:q j<;>simp[h]
theorem qu3 (q:Nat->Bool) (j:Nat):(stI q j).length<=j:=by
  unfold stI;exact Nat.le_trans (List.length_filter_le _ _) (by simp)
def stC (arr0:Array Value) (q:Nat->Bool) (j:Nat):List (List Value):=(stI q j).map λt=>[(arr0[t]?).getD undef]
theorem qu0 (arr0:Array Value) (q:Nat->Bool) (j:Nat):(stC arr0 q j).length<=j:=by
  unfold stC;rw[List.length_map];exact qu3 q j
theorem qsg {arr0:Array Value} {q:Nat->Bool} {j:Nat} {v:Value} (h:q j=true) (hv:arr0[j]? =some v):stC arr0 q (j+1)=stC arr0 q j++[[v]]:=by
  unfold stC;rw[qm0,if_pos h,List.map_append,List.map_cons,hv];rfl
theorem qib {arr0:Array Value} {q:Nat->Bool} {j:Nat} (h:q j=false):stC arr0 q (j+1)=stC arr0 q j:=by
  unfold stC;rw[qm0,if_neg (by rw[h];simp),List.append_nil]
theorem D3 {w:World} {b:Nat} {ok:Nat->Prop} {v:Value} (h:(Kd.raw 1).R 37 w b ok v []):Kd.S KI 37 w b (λ_=>True) v []:=by
  obtain⟨h0,inner,ho,hr⟩:=h;exact⟨λ_=>0,λ_ _=>trivial,inner,ho,hr.1,λj p hj=>by cases hj⟩
theorem zm.calls (k:Nat) (a0:Int) (A1:Option Addr) (c1:Nat) (l1:List S51) (r1:List (List Int)) (r2:Bool) (w:World) (hr1:Kd.C k51 w A1 l1.length l1) (hc1:l1.length<=c1) (h:zm.f k a0 l1=some (r1,r2)):
    Calls Tryz.prog 6 #[int i64 a0,.slice A1 l1.length c1] w λe w'=>∃ v0_:Value,e=.returned (.tuple #[v0_,.bool r2])/\Kd.S KI 37 w' w.heap.size (λ_=>True) v0_ r1/\Below w.heap.size w w':=by
  have HR1:=am hr1;have HC1:=am hc1;have HB:=Em w;unfold zm.f at h;obtain⟨gg,hg,h2⟩:=Option.bind_eq_some_iff.1 h;have HG:=am hg;have HF:=am h2;clear hr1 hc1 h h2 hg;go_enter Tryz.func6,Tryz.ntmps6
  go_wp2_with (first
    | ((with_reducible refine zd (N:=17) rfl ?_);refine Kd.AR (Kd.raw 1) _ 37 ?hg (N:=17) ?hd (xs:=([]:List (List Value))) (inner:=[]) (ok:=λ_=>True) (okp:=λ_=>True) ?hr ?hp (λ_ hk=>hk) trivial (Below.refl _ _) (Nat.le_refl _) (by simp) ?_;(case hd=>rfl);(case hg=>rfl);(case hr=>first|(go_simp;done)|(go_simp;rfl));(case hp=>exact(Reps.none _ _));intro v17 w3 ho hb hg_ hnew_;have HO:=am (Kd.Ai ho (bz HB));replace HB:=bq HB hb;clear ho hb hg_ hnew_))
  refine(Zc.calls k a0 A1 c1 l1 gg _ (Kd.Ad HR1.out (bw HB)) HC1.out HG.out).mono ?_;rintro e w4 ⟨rfl,hb⟩;replace HO:=am (Kd.Af HO.out hb);replace HB:=bq HB hb;obtain⟨A17,c17,e17⟩:=Kd.Ah HO.out;subst e17;clear hb HG
  cases gg with
  | false=>
    have h:=HF.out;obtain⟨rfl,rfl⟩:[]=r1/\false=r2:=by simpa using h
    clear h HF;go_wp2_with fail
    go_ret2
    exact⟨_,fq,D3 HO.out,bw HB⟩
  | true=>
    have h:=HF.out;rw[if_pos rfl]at h;obtain⟨B,hB,h⟩:=Option.bind_eq_some_iff.1 h;obtain⟨L,hL,h⟩:=Option.bind_eq_some_iff.1 h;obtain⟨P,hP,h⟩:=Option.bind_eq_some_iff.1 h;have HBO:=am hB;have HL:=am hL;have HP:=am hP;have HE:=am h;clear hB hL hP h HF;go_wp2_with fail;refine(Qg.calls k a0 A1 c1 l1 B _ (Kd.Ad HR1.out (bw HB)) HC1.out HBO.out).mono ?_;rintro e w5 ⟨v6,rfl,hv6,hb⟩;replace HO:=am (Kd.Af HO.out hb);replace HB:=bq HB hb;obtain⟨A6,c6,e6⟩:=Kd.AF hv6;subst e6;have HC6:=am (Kd.Az hv6).2.2;have HL6:=am (Kd.Az hv6).2.1;clear hb HBO hv6;have HW5:=am (Below.refl w5.heap.size w5)
    go_wp2_with (first
      | ((with_reducible refine zd (N:=26) rfl ?_);refine Kd.AR KI _ 37 ?hg (N:=26) ?hd (xs:=([]:List (List Int))) (inner:=[]) (ok:=λ_=>True) (okp:=λ_=>True) ?hr ?hp (λ_ hk=>hk) trivial (Below.refl _ _) (Nat.le_refl _) (by simp) ?_;(case hd=>rfl);(case hg=>rfl);(case hr=>first|(go_simp;done)|(go_simp;rfl));(case hp=>exact(Reps.none _ _));intro v26 w6 ho16 hb16 hg16 hnew16;have HO16:=am (Kd.Ai ho16 (bz HW5));replace HW5:=bq HW5 hb16;clear ho16 hb16 hg16 hnew16))
    go_loopw [8,9] (λv8 v9 w'=>∃ (d i:Nat) (acc:List (List Int)),v9=int i64 (i:Int)/\qf (i+d=27)/\qf (acc.length=i)/\qf (stL k a0 l1 B d i acc=some L)/\qf (Kd.R KI 37 w' w5.heap.size (λ_=>True) v8 acc)/\qf (Below w5.heap.size w5 w')) (λ_ v9 _=>27 - (intOf v9).toNat)
    case atStart=>exact⟨27,0,[],rfl,⟨by omega⟩,⟨rfl⟩,HL,⟨wR HO16⟩,⟨bw HW5⟩⟩
    case round=>
      clear HL HO16 HW5;obtain⟨d,i,acc,rfl,HD,HAC,HL,HA,HW5⟩:=hrel
      cases d with
      | zero =>
        have hlt:decide ((i:Int) < 27)=false:=decide_eq_false (by have:=HD.out;omega);have hl:=HL.out;rw[stL]at hl;obtain rfl:=Option.some.inj hl;clear hl HL;obtain⟨A9,c9,e9⟩:=Kd.Ah HA.out;subst e9;have he:=HE.out
        by_cases hc:((0 < P.1.length/\P.1.length<=1000)/\stOk P.1=true)/\(P.1.all λx=>(stQ k a0 acc x).isSome)=true
        rotate_left
        · rw[if_neg hc]at he;cases he
        rw[if_pos hc]at he;obtain⟨rfl,rfl⟩:P.1.filter (λx=>(stQ k a0 acc x).getD false)=r1/\true=r2:=by simpa using he
        clear he HE;obtain⟨P,bP⟩:=P;have hc2:((0 < P.length/\P.length<=1000)/\stOk P=true)/\(P.all λx=>(stQ k a0 acc x).isSome)=true:=hc;have HCO:=Lib.hid hc2;clear hc hc2;go_wp2_with fail;refine(qq.calls k (-1) P bP _ HP.out).mono ?_;rintro e w9 ⟨v29,rfl,hv29,hb9⟩;obtain⟨g,cap,ev,hgb,hglt,_⟩:=Kd.C5 hv29 HCO.out.1.1.1;subst ev;obtain⟨arr0,hh,hsz,_,hel⟩:=quq hv29;have hS17:∀ k,some k=(Value.slice A17 ([]:List (List Value)).length c17).ownBlock->k < w5.heap.size:=λk hk=>Kd.R_lt HO.out k hk.symm;have HV29:=Lib.hid hv29;have HH:=Lib.hid hh;have HSZ:=Lib.hid hsz;have HEL:=Lib.hid hel;have HW59:=Lib.hid (show w5.heap.size<=wr.heap.size/\wr.heap.size<=g/\g < w9.heap.size from ⟨HW5.out.size,hgb,hglt⟩);have HLC:=Lib.hid (Kd.Cz (S:=λk=>some k=(Value.slice A17 ([]:List (List Value)).length c17).ownBlock) (Kd.As (Kd.Af HA.out hb9)) (λk hk hs=>by have h1:=hS17 k hs;have h2:=hk.2.1;omega));have HS17:=Lib.hid hS17;have HB9:=am (ze HB.out (ze HW5.out hb9));have HO9:=am (Kd.Ae (ok':=λk=>some k=(Value.slice A17 ([]:List (List Value)).length c17).ownBlock\/w9.heap.size<=k) (Kd.AO (d:=Kd.raw 1) rfl (Kd.Af HO.out (ze HW5.out hb9))) (λk hk=>.inl hk));have HK9:=am (Kept.refl w9 (λk=>some k=(Value.slice A17 ([]:List (List Value)).length c17).ownBlock));have HL27:=am (show acc.length=27 by have:=HAC.out;have:=HD.out;omega);have HGB:=am (show w.heap.size<=wr.heap.size from (ze HB.out HW5.out).size);clear hv29 hh hsz hel hb9 hgb hglt HA HB HO HW5 HAC HD HC6 HL6 HR1 HC1 HP hS17 hlt;obtain⟨q,hq⟩:∃ q:Nat->Bool,q=λt=>(stQ k a0 acc (P.getD t [])).getD false:=⟨_,rfl⟩
        go_wp2_with fail
        go_loopw [6,12] (λv6 v12 w'=>∃ (j:Nat),v12=int i64 (j:Int)/\qf (j<=P.length)/\qf ((Kd.raw 1).R 37 w' w.heap.size (λk=>some k=(Value.slice A17 ([]:List (List Value)).length c17).ownBlock\/w9.heap.size<=k) v6 (stC arr0 q j))/\qf (Kept w9 w' (λk=>some k=(Value.slice A17 ([]:List (List Value)).length c17).ownBlock))/\qf (Below w.heap.size w w')) (λ_ v12 _=>P.length - (intOf v12).toNat)
        case atStart=>exact⟨0,rfl,⟨Nat.zero_le _⟩,HO9,HK9,HB9⟩
        case round=>
          clear HO9 HK9 HB9;obtain⟨j,rfl,HJ,HO,HK,HB⟩:=hrel
          by_cases hlt:j < P.length
          · have dlt:decide ((j:Int) < (P.length:Int))=true:=decide_eq_true (by omega)
            have qlt:(j < P.length)=True:=eq_true hlt;have pj:(0<=(j:Int))=True:=eq_true (by omega);obtain⟨aP,cP,eP,hcP,hC⟩:=HEL.out j hlt;have hmem:P.getD j []∈P:=by rw[List.getD_eq_getElem?_getD,List.getElem?_eq_getElem hlt];exact List.getElem_mem hlt
            obtain⟨b,hb⟩:=qve HCO.out.2 hmem;have hqj:q j=b:=by rw[hq];show (stQ k a0 acc (P.getD j [])).getD false=b;rw[hb];rfl
            obtain⟨h3,hi⟩:=qs3 HCO.out.1.2 hmem;have hcell:wr.cell? ⟨g,j,none⟩=some (.slice aP (P.getD j []).length cP):=(qe (qtg HH.out HK.out (λhs=>by have h3:=HS17.out g hs;have h4:=HW59.out;omega)) j).trans eP;have hP:=hC wr (λk' h1 h2=>HK.out.2 k' h2 (λhs=>by have h3:=HS17.out k' hs;have h4:=HW59.out;omega));have hL:=HLC.out wr HK.out;unfold stQ at hb;obtain⟨⟨pa,ua⟩,hpa,hb⟩:=Option.bind_eq_some_iff.1 hb;obtain⟨⟨pb,ub⟩,hpb,hb⟩:=Option.bind_eq_some_iff.1 hb;replace hb:(if ua=true then (if ub=true then jw.f k pa pb else some false) else some false)=some b:=hb;obtain⟨row,hrow⟩:∃ r,P.getD j []=r:=⟨_,rfl⟩
            rw[hrow]at hcell hP hpa hpb h3 hi eP;clear hrow hmem hC;obtain⟨adB,rfl,b0⟩:=qov hP 0 (by omega);obtain⟨_,e1,b1⟩:=qov hP 1 (by omega)
            cases e1
            obtain⟨_,e1,b2⟩:=qov hP 2 (by omega)
            cases e1
            replace b0:wr.cell? adB=_:=b0;replace b1:wr.cell? ⟨adB.block,adB.off+1,none⟩=_:=b1;replace b2:wr.cell? ⟨adB.block,adB.off+2,none⟩=_:=b2;obtain⟨p0,q0⟩:=hi 0 (by omega);obtain⟨p1,q1⟩:=hi 1 (by omega);obtain⟨p2,q2⟩:=hi 2 (by omega);clear hi hP;generalize row.getD 0 0=i0 at b0 p0 q0 hpa hpb;generalize row.getD 1 0=i1 at b1 p1 q1 hpa hpb;generalize row.getD 2 0=i2 at b2 p2 q2 hpa hpb;have h27:=HL27.out;obtain⟨adA,B0,d0,eA,r0,k0,C0⟩:=qn1 hL i0.toNat (by omega)
            obtain⟨adA1,B1,d1,e1,r1,k1,C1⟩:=qn1 hL i1.toNat (by omega)
            rw[eA]at e1
            cases e1
            obtain⟨adA2,B2,d2,e1,r2,k2,C2⟩:=qn1 hL i2.toNat (by omega)
            rw[eA]at e1
            cases e1;subst eA;clear hL
            generalize acc.getD i0.toNat []=l0 at*;generalize acc.getD i1.toNat []=l1' at*;generalize acc.getD i2.toNat []=l2 at*;replace q0:i0 < (acc.length:Int):=by omega
            replace q1:i1 < (acc.length:Int):=by omega
            replace q2:i2 < (acc.length:Int):=by omega
            generalize row.length=np at*;replace p0:=eq_true p0;replace p1:=eq_true p1;replace p2:=eq_true p2;replace q0:=eq_true q0;replace q1:=eq_true q1;replace q2:=eq_true q2;have n0:(0 < np)=True:=eq_true (by omega);have n1:((1:Int) < (np:Int))=True:=eq_true (by omega);have n2:((2:Int) < (np:Int))=True:=eq_true (by omega);have hw1:wrap64 ((j:Int)+1)=((j+1:Nat):Int):=by have:=HCO.out.1.1.2;unfold wrap64;omega
            have HW1:=am hw1;have HLT:=am hlt;have HQJ:=am hqj;have HBQ:=am hb;have HPA:=am hpa;have HPB:=am hpb;have HEP:=am eP;replace hcell:=am hcell;replace b0:=am b0;replace b1:=am b1;replace b2:=am b2;replace r0:=am r0;replace r1:=am r1;replace r2:=am r2;replace k0:=am k0;replace k1:=am k1;replace k2:=am k2;replace C0:=am C0;replace C1:=am C1;replace C2:=am C2;have HX:=am (Below.refl wr.heap.size wr);clear hw1 hlt hqj hb hpa hpb eP h3 hcP h27
            go_upto_region 14 with fail
            refine st (T:=zm.T14) (B:=zm.B14) 25 (λw':World=>w'.cell? ⟨g,j,none⟩=some (.slice (some adB) np cP)/\w'.cell? adB=some (int i64 i0)/\w'.cell? ⟨adB.block,adB.off+1,none⟩=some (int i64 i1)/\w'.cell? (adA.add i0.toNat)=some (.slice B0 l0.length d0)/\w'.cell? (adA.add i1.toNat)=some (.slice B1 l1'.length d1)) [] (by kernel_rfl) (by kernel_rfl) (by have hd_:=Qw (Below.refl wr.heap.size wr);have hb_:=ze HX.out hd_;exact⟨wcl (am hb_) hcell.out,wcl (am hb_) b0.out,wcl (am hb_) b1.out,wcl (am hb_) r0.out,wcl (am hb_) r1.out⟩) λhHeld HT_ HW_=>?_;refine Et 0 50 1 51 HT_ ?_;refine Et 2 52 3 53 HT_ ?_;refine pz 4 54 HT_ ?_;refine tk 5 55 HT_ HW_ hHeld ?_;refine pz 6 56 HT_ ?_;refine tk 7 57 HT_ HW_ hHeld ?_;refine pz 8 58 HT_ ?_;refine tk 9 59 HT_ HW_ hHeld ?_;refine Et 10 60 11 61 HT_ ?_;refine Et 12 62 13 63 HT_ ?_;refine tk 14 64 HT_ HW_ hHeld ?_;refine pz 15 65 HT_ ?_;refine tk 16 66 HT_ HW_ hHeld ?_;refine pz 17 67 HT_ ?_;refine tk 18 68 HT_ HW_ hHeld ?_;clear hHeld;refine on 19 (some 69) HT_ λK hK=>?_;refine gs_ Tryz.func24 #[int i64 a0,.slice B0 l0.length d0,.slice B1 l1'.length d1] ?_;have HXD:=am (Qw (Below.refl wr.heap.size wr));refine(qo.calls k a0 B0 d0 l0 B1 d1 l1' pa ua _ (Kd.Ad C0.out HXD.out) k0.out (Kd.Ad C1.out HXD.out) k1.out HPA.out).mono ?_;rintro e w2 ⟨va,rfl,hva,hb2⟩;obtain⟨Aa,ca,ea⟩:=Kd.Ah hva;subst ea;have HX2:=am (ze HXD.out hb2);have HVA:=am (Kd.Ac hva).2;refine⟨_,rfl,?_⟩;refine hK.out _ _ (by have hb_:=HX2.out;exact⟨wcl (am hb_) hcell.out,wcl (am hb_) b0.out,wcl (am hb_) b1.out,wcl (am hb_) r0.out,wcl (am hb_) r1.out⟩) λhHeld=>nz ?_;clear hK K hHeld hb2 hva HX HXD HPA;refine Et 20 49 21 70 HT_ ?_;refine Et 22 71 23 13 HT_ ?_;refine pz 24 14 HT_ ?_;refine Zh (Qe HT_.out (by kernel_rfl)) ?_;clear HT_ HW_
            go_upto_region 15 with fail
            refine st (T:=zm.T15) (B:=zm.B15) 25 (λw':World=>w'.cell? ⟨g,j,none⟩=some (.slice (some adB) np cP)/\w'.cell? adB=some (int i64 i0)/\w'.cell? ⟨adB.block,adB.off+2,none⟩=some (int i64 i2)/\w'.cell? (adA.add i0.toNat)=some (.slice B0 l0.length d0)/\w'.cell? (adA.add i2.toNat)=some (.slice B2 l2.length d2)) [] (by kernel_rfl) (by kernel_rfl) (by have hd_:=Qw (Below.refl w2.heap.size w2);have hb_:=ze HX2.out hd_;exact⟨wcl (am hb_) hcell.out,wcl (am hb_) b0.out,wcl (am hb_) b2.out,wcl (am hb_) r0.out,wcl (am hb_) r2.out⟩) λhHeld HT_ HW_=>?_;refine Et 0 73 1 74 HT_ ?_;refine Et 2 75 3 76 HT_ ?_;refine pz 4 77 HT_ ?_;refine tk 5 78 HT_ HW_ hHeld ?_;refine pz 6 79 HT_ ?_;refine tk 7 80 HT_ HW_ hHeld ?_;refine pz 8 81 HT_ ?_;refine tk 9 82 HT_ HW_ hHeld ?_;refine Et 10 83 11 84 HT_ ?_;refine Et 12 85 13 86 HT_ ?_;refine tk 14 87 HT_ HW_ hHeld ?_;refine pz 15 88 HT_ ?_;refine tk 16 89 HT_ HW_ hHeld ?_;refine pz 17 90 HT_ ?_;refine tk 18 91 HT_ HW_ hHeld ?_;clear hHeld;refine on 19 (some 92) HT_ λK hK=>?_;refine gs_ Tryz.func24 #[int i64 a0,.slice B0 l0.length d0,.slice B2 l2.length d2] ?_;have HXD:=am (ze HX2.out (Qw (Below.refl w2.heap.size w2)));refine(qo.calls k a0 B0 d0 l0 B2 d2 l2 pb ub _ (Kd.Ad C0.out HXD.out) k0.out (Kd.Ad C2.out HXD.out) k2.out HPB.out).mono ?_;rintro e w3 ⟨vb,rfl,hvb,hb3⟩;obtain⟨Ab,cb,eb⟩:=Kd.Ah hvb;subst eb;have HX3:=am (ze HXD.out hb3);have HVA3:=am (Kd.Ad HVA.out.2 (ze (Qw (Below.refl w2.heap.size w2)) hb3));have HVB:=am (Kd.Ac hvb).2;refine⟨_,rfl,?_⟩;refine hK.out _ _ (by have hb_:=HX3.out;exact⟨wcl (am hb_) hcell.out,wcl (am hb_) b0.out,wcl (am hb_) b2.out,wcl (am hb_) r0.out,wcl (am hb_) r2.out⟩) λhHeld=>nz ?_;clear hK K hHeld hb3 hvb HX2 HXD HPB;refine Et 20 72 21 93 HT_ ?_;refine Et 22 94 23 15 HT_ ?_;refine pz 24 16 HT_ ?_;refine Zh (Qe HT_.out (by kernel_rfl)) ?_;clear HT_ HW_;have HO3:=am (Kd.Af HO.out HX3.out);have HK3:=am (Kept.below HK.out HX3.out);have HB3:=am (ze HB.out HX3.out);have hcell3:=wcl HX3 hcell.out;have HJL:=am (show (stC arr0 q j).length<=1000 by have:=qu0 arr0 q j;have:=HCO.out.1.1.2;have:=HLT.out;omega);clear HO HK HB hcell b0 b1 b2 r0 r1 r2 C0 C1 C2 k0 k1 k2 p0 p1 p2 q0 q1 q2 n1 n2 n0 HX3
            cases ua with
            | false=>
              have HBF:=am (show false=b by simpa using HBQ.out);go_wp2_with fail
              go_roundw
              case measure=>rw[HW1.out];simp only[intOf];have:=HLT.out;omega
              case rel=>exact⟨j+1,by rw[HW1.out],⟨HLT.out⟩,⟨by rw[qib (by rw[HQJ.out,<-HBF.out])];exact wR HO3⟩,⟨HK3.out⟩,⟨bw HB3⟩⟩
            | true=>
             cases ub with
             | false=>
              have HBF:=am (show false=b by simpa using HBQ.out);go_wp2_with fail
              go_roundw
              case measure=>rw[HW1.out];simp only[intOf];have:=HLT.out;omega
              case rel=>exact⟨j+1,by rw[HW1.out],⟨HLT.out⟩,⟨by rw[qib (by rw[HQJ.out,<-HBF.out])];exact wR HO3⟩,⟨HK3.out⟩,⟨bw HB3⟩⟩
             | true=>
              have hs:jw.f k pa pb=some b:=by simpa using HBQ.out
              have HSM:=am hs;clear hs;have pj:(0<=(j:Int))=True:=eq_true (by omega);have qlt:(j < P.length)=True:=eq_true HLT.out;go_wp2_with fail;refine(jw.calls k Aa ca pa Ab cb pb b _ HVA3.out HVA.out.1 HVB.out.2 HVB.out.1 HSM.out).mono ?_;rintro e w4 ⟨rfl,hd4⟩;have hb4:=hd4.below;replace HO3:=am (Kd.Af HO3.out hb4);replace HK3:=am (Kept.below HK3.out hb4);replace HB3:=am (ze HB3.out hb4);replace hcell3:=wcl (am hb4) hcell3;clear hd4 hb4 HVA3 HVA HVB HSM HBQ
              cases b with
              | false=>
                go_wp2_with fail
                go_roundw
                case measure=>rw[HW1.out];simp only[intOf];have:=HLT.out;omega
                case rel=>exact⟨j+1,by rw[HW1.out],⟨HLT.out⟩,⟨by rw[qib HQJ.out];exact wR HO3⟩,⟨HK3.out⟩,⟨bw HB3⟩⟩
              | true=>
                have hfr:∀ k',w4.heap.size<=k'->w9.heap.size<=k':=λk' hk=>Nat.le_trans HK3.out.1 hk;have HFR:=Lib.hid hfr;clear hfr
                go_wp2_with (first
                  | ((with_reducible refine jz (b:=.append) (xs:=#[.tmp 104,.tmp 109]) rfl ?_);at_builtin;refine Kd.Au (Kd.raw 1) (w0:=w) w.heap.size rfl (.tmp 104) (.tmp 109) 24 37 (.slice none 0 0) 24 rfl Tryz.underlying24 Ja rfl (by decide) (by omega) _ (stC arr0 q j) [.slice (some adB) np cP] [.slice (some adB) np cP] (λk=>some k=(Value.slice A17 ([]:List (List Value)).length c17).ownBlock\/w9.heap.size<=k) (λ_=>False) rfl rfl ?aP (λ_ h=>h.elim) ?aF ?aO ?aB ?aS ?aL ?_;(case aP=>exact⟨rfl,rfl,λu hu=>by rw[List.mem_singleton.1 hu];rfl⟩);(case aB=>exact HB3.out);(case aF=>exact(λk' hk=>.inr (HFR.out k' hk)));(case aO=>exact HO3.out);(case aS=>exact HB3.out.size);(case aL=>have:=HJL.out;omega);intro v10 w10 ho hb hg hn)
                  | fail)
                have HO10:=am (show (Kd.raw 1).R 37 w10 w.heap.size (λk=>some k=(Value.slice A17 ([]:List (List Value)).length c17).ownBlock\/w9.heap.size<=k) v10 (stC arr0 q (j+1)) from by rw[qsg HQJ.out HEP.out];exact ho);have HK10:=am (Kept.Bp hg HK3.out (λk' hk=>HO3.out.1 k' hk));have HB10:=am hb;clear ho hb hg hn hcell3
                try go_wp2
                go_roundw
                case measure=>rw[HW1.out];simp only[intOf];have:=HLT.out;omega
                case rel=>exact⟨j+1,by rw[HW1.out],⟨HLT.out⟩,⟨wR HO10⟩,⟨HK10.out⟩,⟨bw HB10⟩⟩
          · have hje:j=P.length:=by have:=HJ.out;omega
            subst hje;have dlt:decide (((P.length:Nat):Int) < (P.length:Int))=false:=decide_eq_false (by omega);have nlt:(P.length < P.length)=False:=eq_false (by omega);obtain⟨A6,c6,e6⟩:=Kd.Ah HO.out;have HSE:=am (show Kd.S KI 37 _ w.heap.size (λ_=>True) _ (P.filter (λx=>(stQ k a0 acc x).getD false)) from by
              have h1:=DL HV29.out arr0 HH.out (stI q P.length) (List.Pairwise.filter _ List.nodup_range) (λt ht=>List.mem_range.1 (List.mem_filter.1 ht).1) (λk' h1 h2=>HK.out.2 k' h2 (λhs=>by have h3:=HS17.out k' hs;have h4:=HW59.out.1;omega)) _ HGB.out HO.out;have h2:=qre P (λx=>(stQ k a0 acc x).getD false);rw[<-h2];rw[hq]at h1;exact h1)
            clear hlt;subst e6;go_wp2_with fail
            go_ret2
            exact⟨_,fq,HSE.out,HB.out⟩
      | succ d=>
        have hlt:decide ((i:Int) < 27)=true:=decide_eq_true (by have:=HD.out;omega);have hl:=HL.out;rw[stL]at hl;obtain⟨row,hrow,hl⟩:=Option.bind_eq_some_iff.1 hl;have HROW:=am hrow;have HN:=am hl;clear hl hrow HL;obtain⟨A9,c9,e9⟩:=Kd.Ah HA.out;subst e9;have HO9b:=am (Kd.Ae (Kd.As HA.out) (λk h=>h.2.2.1));have hw1:wrap64 ((i:Int)+1)=((i+1:Nat):Int):=by have:=HD.out;unfold wrap64;omega
        have HW1:=am hw1;clear hw1;go_wp2_with fail;refine(jr.calls k a0 A1 c1 l1 A6 c6 B (i:Int) row _ (Kd.Ad HR1.out (ze HB.out HW5.out)) HC1.out (Kd.Ad HC6.out HW5.out) HL6.out HROW.out).mono ?_;rintro e w9 ⟨v25,rfl,hv25,hb9⟩;obtain⟨A25,c25,e25⟩:=Kd.Ah hv25;subst e25;have HW9:=am (ze HW5.out hb9);have HV:=am hv25;have HA9:=am (Kd.Af HA.out hb9);have HAL:=am (show acc.length<=27 by have:=HAC.out;have:=HD.out;omega);have HWS:=am (show w5.heap.size<=wr.heap.size from HW5.out.size);clear hv25 hb9 HA HW5 HROW hlt
        go_wp2_with (first
          | ((with_reducible refine jz (b:=.append) (xs:=#[.tmp 31,.tmp 37]) rfl ?_);at_builtin;refine Kd.Au KI (w0:=w5) w5.heap.size rfl (.tmp 31) (.tmp 37) 24 37 (.slice none 0 0) 24 rfl Tryz.underlying24 Ja rfl (by decide) (by omega) (.slice A9 acc.length c9) acc row [.slice A25 row.length c25] (λ_=>True) (λk=>some k=(Value.slice A25 row.length c25).ownBlock) rfl rfl ?aP ?aK ?aF ?aO ?aB ?aS ?aL ?_;(case aP=>exact⟨_,rfl,Kd.AO rfl (Kd.Ai HV.out HWS.out)⟩);(case aK=>exact(λk hk=>⟨trivial,λe=>by have h1:=HO9b.out.1 k e.symm;have h2:wr.heap.size<=k:=Kd.Am HV.out k hk.symm;omega⟩));(case aB=>exact HW9.out);(case aF=>exact(λ_ _=>trivial));(case aO=>exact HA9.out);(case aS=>exact HW9.out.size);(case aL=>have:=HAL.out;omega);intro v10 w10 ho hb hg hn)
          | fail)
        have HA10:=am ho;have HW10:=am hb;clear ho hb hg hn HA9 HW9 HV HO9b
        try go_wp2
        go_roundw
        case measure=>rw[HW1.out];simp only[intOf];have:=HD.out;omega
        case rel=>exact⟨d,i+1,acc++[row],by rw[HW1.out],⟨by have:=HD.out;omega⟩,⟨by rw[List.length_append,HAC.out];rfl⟩,HN,⟨wR HA10⟩,⟨bw HW10⟩⟩
theorem DW (w:World) (A B C:Obj):(((w.alloc A).alloc B).alloc C).heap[w.heap.size+1]? =some B:=by
 show (((w.heap.push A).push B).push C)[w.heap.size+1]? =some B
 rw[Array.getElem?_push,if_neg (by simp),Array.getElem?_push,if_pos (by simp)]
def qbk.f (a0_0 a0_1 a0_2:Int):Option (Int×Int×Int):=some (a0_0,a0_1,a0_2)
theorem qbk.calls (a0_0 a0_1 a0_2:Int) (r1 r2 r3:Int) (w:World) (h:qbk.f a0_0 a0_1 a0_2=some (r1,r2,r3)):
  Calls Tryz.prog 64 #[.agg #[int i64 a0_0,int i64 a0_1,int i64 a0_2]] w λe w'=>e=.returned (.agg #[int i64 r1,int i64 r2,int i64 r3])/\Below w.heap.size w w':=by
 have HB:=Em w;have e:=Option.some.inj h;simp only[Prod.mk.injEq]at e;obtain⟨rfl,rfl,rfl⟩:=e;clear h;go_enter Tryz.func64,Tryz.ntmps64;go_wp2_with fail;refine wp_loop_rounds 4 ?_;rw[rounds_succ];go_wp2_with fail;rw[rounds_succ];go_wp2_with fail;rw[rounds_succ];go_wp2_with fail;rw[rounds_succ];go_wp2_with fail
 (try simp only[Exit.inBlock,Exit.then])
 refine bodyPost_ret (results_cell_row (P:=Tryz.prog) rfl _ _ (w.heap.size+1) 49 #[int i64 a0_0,int i64 a0_1,int i64 a0_2] (0,0) (.array 3 3) rfl (DW w _ _ _) Tryz.underlying49 rfl (by kernel_rfl)) rfl ?_;exact⟨rfl,bw HB⟩
def qbf.f (a0_0:Int) (a0_1:Int) (a0_2:Int):Option (Int×Int×Int):=(qbk.f a0_0 a0_1 a0_2).bind λbt374=>(some (bt374.1,bt374.2.1,bt374.2.2))
theorem qbf.calls (a0_0:Int) (a0_1:Int) (a0_2:Int) (r1:Int) (r2:Int) (r3:Int) (w:World) (h:qbf.f a0_0 a0_1 a0_2=some (r1,r2,r3)):
  Calls Tryz.prog 26 #[.agg #[int i64 a0_0,int i64 a0_1,int i64 a0_2]] w λe w'=>e=.returned (.agg #[int i64 r1,int i64 r2,int i64 r3])/\Below w.heap.size w w':=by
 have HB:=Em w;have H:=h;unfold qbf.f at H;clear h;replace H:=bs H;obtain⟨⟨t374,t375,t376⟩,A2,H⟩:=H;dsimp only at H;simp only[Option.some.injEq,Prod.mk.injEq]at H;obtain⟨rfl,rfl,rfl⟩:=H;go_enter Tryz.func26,Tryz.ntmps26
 go_wp2_with (first|((with_reducible refine zd (N:=1) rfl ?_);refine xe_ 1 53 #[int i64 a0_0,int i64 a0_1,int i64 a0_2] ?_;intro gb371 hg w3 hbox hb;have BK371:=am (hbox);have GW371:=Ek HB hg;replace HB:=bq HB hb;clear hb hbox hg)|((with_reducible refine zd (N:=2) rfl ?_);refine xe_ 2 51 #[int i64 0,int i64 0,int i64 0] ?_;intro gb372 hg w4 hbox hb;have BK372:=am (hbox);have GW372:=am ((by rw[hg];exact(zw (bx_ HB)):w.heap.size<=gb372));replace HB:=am (ze (bx_ HB) hb);have NB371_372:=Eh BK371 hg;have NB372_371:=Ei BK371 hg;replace BK371:=Ej BK371 hb;clear hb hbox hg)|((with_reducible refine zd (N:=3) rfl ?_);refine xe_ 3 51 #[int i64 0,int i64 0,int i64 0] ?_;intro gb373 hg w5 hbox hb;have BK373:=am (hbox);have GW373:=am ((by rw[hg];exact(zw (bx_ HB)):w.heap.size<=gb373));replace HB:=am (ze (bx_ HB) hb);have NB371_373:=Eh BK371 hg;have NB373_371:=Ei BK371 hg;replace BK371:=Ej BK371 hb;have NB372_373:=Eh BK372 hg;have NB373_372:=Ei BK372 hg;replace BK372:=Ej BK372 hb;clear hb hbox hg;have hnb6:=NB371_372.out;have hnc6:=NB372_371.out;have hnb7:=NB371_373.out;have hnc7:=NB373_371.out;have hcz8_0:=En BK371.out;have hcz8_1:=Eo BK371.out;have hcz8_2:=Ep BK371.out;have hfz8_0:=ql BK371.out 0;have hfz8_1:=ql BK371.out 1;have hfz8_2:=ql BK371.out 2)|((with_reducible refine za (f:=64) rfl ?_);refine gl 6 Tryz.func64 #[.agg #[int i64 a0_0,int i64 a0_1,int i64 a0_2]] ?_;(with_reducible refine(qbk.calls a0_0 a0_1 a0_2 t374 t375 t376 _ A2.out).mono ?_);rintro e w9 ⟨rfl,hb⟩;refine⟨_,rfl,?_⟩;replace BK372:=Ej BK372 hb;replace BK373:=Ej BK373 hb;replace HB:=am (ze (bx_ HB) hb);(try clear hb);have hnb10:=NB373_372.out;have hnc10:=NB372_373.out;have hcz11_0:=En BK373.out;have hcz11_1:=Eo BK373.out;have hcz11_2:=Ep BK373.out;have hfz11_0:=ql BK373.out 0;have hfz11_1:=ql BK373.out 1;have hfz11_2:=ql BK373.out 2;have hcz12_0:=En BK372.out;have hcz12_1:=Eo BK372.out;have hcz12_2:=Ep BK372.out;have hfz12_0:=ql BK372.out 0;have hfz12_1:=ql BK372.out 1;have hfz12_2:=ql BK372.out 2))
 refine bodyPost_ret (results_cell_row rfl _ _ gb372 51 #[int i64 t374,int i64 t375,int i64 t376] (0,0) _ rfl (by (with_reducible repeat (first|refine qw ?_ _|refine qy ?_|refine qx ?_ _));refine Zf (cs:=#[int i64 t374,int i64 t375,int i64 0]) ?_ 2 _ rfl;(with_reducible repeat (first|refine qw ?_ _|refine qy ?_|refine qx ?_ _));refine Zf (cs:=#[int i64 t374,int i64 0,int i64 0]) ?_ 1 _ rfl;(with_reducible repeat (first|refine qw ?_ _|refine qy ?_|refine qx ?_ _));refine Zf (cs:=#[int i64 0,int i64 0,int i64 0]) ?_ 0 _ rfl;(with_reducible repeat (first|refine qw ?_ _|refine qy ?_|refine qx ?_ _));refine jh ?_ NB372_373.out _;(with_reducible repeat (first|refine qw ?_ _|refine qy ?_|refine qx ?_ _));refine jh ?_ NB372_373.out _;(with_reducible repeat (first|refine qw ?_ _|refine qy ?_|refine qx ?_ _));refine jh ?_ NB372_373.out _;(with_reducible repeat (first|refine qw ?_ _|refine qy ?_|refine qx ?_ _));exact BK372.out) Tryz.underlying51 rfl (by kernel_rfl)) rfl ?_;exact⟨fq,bx_ HB⟩
def js.l0 :Nat->List (S53)->List (S51)->Int->Option ((List (S51)))
 | 0,_,_,_=>none
 | k+1,x0,x3,x4=>if x4 < (x0.length:Int) then (if 0<=x4 then ((qbf.f ((J9 x0 x4).f0.f0) ((J9 x0 x4).f0.f1) ((J9 x0 x4).f0.f2)).bind λbt381=>(if x4 < (x3.length:Int) then (js.l0 k x0 (x3.set (x4:Int).toNat (⟨(⟨bt381.1,bt381.2.1,bt381.2.2⟩:S49)⟩:S51)) (wrap64 (x4+1))) else (none))) else (none)) else (some x3)
def js.f (k:Nat) (l0:List (S53)):Option ((List (S51))):=if 0<=(l0.length:Int) then (if ((l0.length:Int):Int).toNat<=11728124029610 then (js.l0 k l0 (List.replicate ((l0.length:Int):Int).toNat z51) 0) else (none)) else (none)
theorem js.Ag :∀ k,(∀ y0 y1 y2,LeO (js.l0 k y0 y1 y2) (js.l0 (k+1) y0 y1 y2))
 | 0=>λ_ _ _ r h=>by simp[js.l0]at h
 | k+1=>by
  have ih0:=js.Ag k
  ·intro y0 y1 y2
   unfold js.l0
   repeat' with_reducible first|intro _|apply ih0|apply Eb|apply Ec|apply Ed|apply Ee
theorem js.mono (a0 k):LeO (js.f k a0) (js.f (k+1) a0):=by
 have ih0:=js.Ag k;unfold js.f
 repeat' with_reducible first|intro _|apply ih0|apply Eb|apply Ec|apply Ed|apply Ee
theorem js.calls (k:Nat) (A0:Option Addr) (c0:Nat) (l0:List (S53)) (r:List (S51)) (w:World) (hr0:Kd.C k53 w A0 l0.length l0) (hc0:l0.length<=c0) (h:js.f k l0=some r):
  Calls Tryz.prog 7 #[.slice A0 l0.length c0] w λe w'=>∃ v0_:Value,e=.returned (v0_)/\Kd.R k51 51 w' w.heap.size (λ_=>True) v0_ r/\Below w.heap.size w w':=by
 have HR0:=am hr0;clear hr0 hc0;have HB:=Em w;have H:=h;unfold js.f at H;clear h
 by_cases c2:0<=(l0.length:Int)
 ·rw [if_pos c2] at H
  have c2b0:=eq_true c2;have c2b1:=decide_eq_true c2;clear c2;replace H:=ifn H;obtain⟨c3,H⟩:=H;have c3b0:=eq_true c3;have c3b1:=decide_eq_true c3;clear c3;generalize hy377:(List.replicate ((l0.length:Int):Int).toNat z51:List (S51))=y377 at H;have Ny377:=am hy377.symm;clear hy377;have H':=am H;clear H;go_enter Tryz.func7,Tryz.ntmps7
  go_wp2_with (first|((with_reducible refine zd (N:=7) rfl ?_);refine Kd.C7 k51 _ 51 rfl (N:=7) rfl 27 _ _ rfl (l0.length:Int) rfl rfl Tryz.underlying27 (.agg #[(int i64 0),(int i64 0),(int i64 0)]) 24 qb2 rfl (by decide) (by omega) z51 (ok:=λ_=>True) (okp:=λ_=>True) (qap _ _ _ z51 ) (λ_ hk=>hk) trivial (od) (Nat.le_trans (Nat.mul_le_mul_right _ (od:(l0.length:Int).toNat<=11728124029610)) (by omega)) (Below.refl _ _) (Nat.le_refl _) ?_;intro v378 w4 ho5 hb hg_ hnew_;clear hg_ hnew_;rw[<-Ny377.out]at ho5;have HO379:=am (Kd.Ai ho5 (bz HB));replace HB:=bq HB hb;clear hb ho5))
  go_loopg [4] k (λkq v4 w'=>∃ (x3_1:List (S51)) (x4_1:Int),v4=int i64 x4_1/\qf (js.l0 kq l0 x3_1 x4_1=some r)/\qf (kq<=k)/\qf (Kd.R k51 51 w' w.heap.size (λ_=>True) v378 x3_1)/\qf (Below w.heap.size w w'))
  case atStart=>exact⟨(y377),(0),fr,H',⟨Nat.le_refl _⟩,⟨wR HO379⟩,⟨bw HB⟩⟩
  case round=>
   clear H';try clear c2;try clear c2b0;try clear c2b1;try clear p2;try clear c3;try clear c3b0;try clear c3b1
   obtain⟨x3_1,x4_1,rfl,HA,HK1,HO_3,HB⟩:=hrel
   cases gk with
   | zero=>exact absurd HA.out (by simp[js.l0])
   | succ k1=>
    have H:=HA.out;clear HA;simp only[js.l0]at H;replace H:=Eg H;rcases H with ⟨c6b0,H⟩|⟨c6b0,H⟩
    ·replace H:=Ef H;obtain⟨c7b0,H⟩:=H;replace H:=bs H
     obtain⟨⟨t381,t382,t383⟩,A8,H⟩:=H;dsimp only at H;replace H:=Ef H;obtain⟨c9b0,H⟩:=H;generalize hy384:(x3_1.set (x4_1:Int).toNat (⟨(⟨t381,t382,t383⟩:S49)⟩:S51):List (S51))=y384 at H;have Ny384:=am hy384.symm;clear hy384;have H':=am H;clear H;have p380:0<=(x4_1:Int):=od;have q380:x4_1 < (l0.length:Int):=od;obtain⟨ad380,e380,hx380_0,hx380_1,hx380_2⟩:=DC HR0.out x4_1 p380 q380
     cases e380
     replace hx380_0:=wcl HB hx380_0;replace hx380_1:=wcl HB hx380_1;replace hx380_2:=wcl HB hx380_2;replace p380:=eq_true p380;replace q380:=eq_true q380
     go_wp2_with (first|((with_reducible refine za (f:=26) rfl ?_);refine gl 20 Tryz.func26 #[.agg #[int i64 ((J9 l0 x4_1).f0.f0),int i64 ((J9 l0 x4_1).f0.f1),int i64 ((J9 l0 x4_1).f0.f2)]] ?_;(with_reducible refine(qbf.calls ((J9 l0 x4_1).f0.f0) ((J9 l0 x4_1).f0.f1) ((J9 l0 x4_1).f0.f2) t381 t382 t383 _ A8.out).mono ?_);rintro e w11 ⟨rfl,hb⟩;refine⟨_,rfl,?_⟩;replace HO_3:=am (Kd.Af (wR HO_3) hb);replace HB:=bq HB hb;(try clear hb);have p10:0<=(x4_1:Int):=od;have q10:(x4_1:Int) < ((x3_1.length:Int):Int):=od;obtain⟨go10,co10,eo10,gb10,gl10,cl10,HG10⟩:=Kd.Be HO_3.out (by omega);(first|cases eo10|(injection eo10 with ea_ en_ ec_;(first|subst ea_|(injection ea_ with ea_;subst ea_));subst ec_;clear en_));have GB10:=am gb10;have GG10:=am HG10;clear gb10 gl10 HG10;obtain⟨ce10,hcl10,hM10,hcc10,hfr10⟩:=Kd.Cc HO_3.out z51 (x4_1:Int) p10 q10;obtain rfl:=qf0 hM10;have hx10_0:w11.cell? ⟨go10,(x4_1:Int).toNat*3,none⟩=some (int i64 ((qg x3_1 x4_1).f0.f0)):=hcc10 0 _ rfl;have hx10_1:w11.cell? ⟨go10,(x4_1:Int).toNat*3+1,none⟩=some (int i64 ((qg x3_1 x4_1).f0.f1)):=hcc10 1 _ rfl;have hx10_2:w11.cell? ⟨go10,(x4_1:Int).toNat*3+2,none⟩=some (int i64 ((qg x3_1 x4_1).f0.f2)):=hcc10 2 _ rfl;have hf10_0:w11.frozen? ⟨go10,(x4_1:Int).toNat*3,none⟩=false:=hfr10 0;have hf10_1:w11.frozen? ⟨go10,(x4_1:Int).toNat*3+1,none⟩=false:=hfr10 1;have hf10_2:w11.frozen? ⟨go10,(x4_1:Int).toNat*3+2,none⟩=false:=hfr10 2;clear hcl10 hcc10 hfr10 hM10;replace p10:=eq_true p10;replace q10:=eq_true q10;have HX12:=am (show Kd.R k51 51 w11 w.heap.size (λ_=>True) (.slice (some ⟨go10,0,none⟩) x3_1.length co10) x3_1 from (wR HO_3));obtain⟨ce12,hcl12,hM12,hcc12,hfr12⟩:=Kd.Cc HX12.out z51 (x4_1:Int) (od) (by have h_:(x4_1:Int) < ((x3_1.length:Int):Int):=od;first|exact h_|(have e_:=(Kd.Ac HO_3.out).1;omega)|simpa using h_);obtain rfl:=qf0 hM12;have HP12:=Kd.CV HX12.out (x4_1:Int) (od) (by have h_:(x4_1:Int) < ((x3_1.length:Int):Int):=od;first|exact h_|(have e_:=(Kd.Ac HO_3.out).1;omega)|simpa using h_) (seg:=[int i64 t381,int i64 t382,int i64 t383]) (j:=0) hcl12 hcc12 (show 3<=3 from by decide) (x':=(⟨(⟨t381,t382,t383⟩:S49)⟩:S51)) (qap _ _ _ (⟨(⟨t381,t382,t383⟩:S49)⟩:S51) ) (λ_ hk=>hk);have hx12_0:=hcc12 0 _ rfl;(try simp only[show (k51).sz=3 from rfl,Nat.mul_one,Nat.add_zero]at hx12_0);have hf12_0:=hfr12 0;(try simp only[show (k51).sz=3 from rfl,Nat.mul_one,Nat.add_zero]at hf12_0);have hx12_1:=hcc12 1 _ rfl;(try simp only[show (k51).sz=3 from rfl,Nat.mul_one,Nat.add_zero]at hx12_1);have hf12_1:=hfr12 1;(try simp only[show (k51).sz=3 from rfl,Nat.mul_one,Nat.add_zero]at hf12_1);have hx12_2:=hcc12 2 _ rfl;(try simp only[show (k51).sz=3 from rfl,Nat.mul_one,Nat.add_zero]at hx12_2);have hf12_2:=hfr12 2;(try simp only[show (k51).sz=3 from rfl,Nat.mul_one,Nat.add_zero]at hf12_2);clear hcl12 hcc12 hfr12 hM12)|((with_reducible refine qh1 (t:=51) (p:=21) rfl ?_);refine qgq (t:=51) (p:=21) (v:=?vo_w13) (w1:=(((w11.setCell ⟨go10,(x4_1:Int).toNat*3,none⟩ (int i64 t381)).setCell ⟨go10,(x4_1:Int).toNat*3+1,none⟩ (int i64 t382)).setCell ⟨go10,(x4_1:Int).toNat*3+2,none⟩ (int i64 t383))) ?hg ?ho ?hn ?hr ?_;(case ho=>rfl);(case hg=>rfl);(case hn=>rfl);(case hr=>first|(go_simp;done)|(go_simp;rfl));intro w13 hw;have hg:w11.grownBy w13 (some go10):=(by rw[hw];exact HP12.2);have hp_:Kd.R k51 51 w13 w.heap.size (λ_=>True) (.slice (some ⟨go10,0,none⟩) x3_1.length co10) y384:=(by rw[hw,Ny384.out];exact HP12.1);clear HP12;replace HO_3:=am (hp_);replace HB:=am ((by rw[hw];exact Za (Za (Za (HB.out) GB10.out) GB10.out) GB10.out:Below w.heap.size w w13));clear hg hw hp_))
     go_roundg k1
     case measure=>have:=HK1.out;omega
     case rel=>exact⟨(y384),(wrap64 (x4_1+1)),fr,H',⟨by have:=HK1.out;omega⟩,⟨wR HO_3⟩,⟨bw HB⟩⟩
    ·obtain rfl:=Option.some.inj H;go_wp2;go_ret
     exact⟨_,fq,wR HO_3,bw HB⟩
 ·rw[if_neg c2]at H
  exact absurd H (by simp)
def Zo.f (a0_0:Int) (a0_1:Int) (a0_2:Int) (a1_0:Int) (a1_1:Int) (a1_2:Int):Option (List Int):=some (([wrap64 ((wrap64 (a0_1*a1_2)) - (wrap64 (a0_2*a1_1))),wrap64 ((wrap64 (a0_2*a1_0)) - (wrap64 (a0_0*a1_2))),wrap64 ((wrap64 (a0_0*a1_1)) - (wrap64 (a0_1*a1_0)))]:List Int))
def Zo.T1 :Bool×List (List Nat×List Nat):=(true,[([],[]),([0],[0]),([],[]),([2],[2]),([],[]),([],[]),([4,1,0,1,4,5],[1,4]),([5,3,6,0,1,2,3,4,5,6],[3,5])])
def Zo.B1 :List Nat:=[0,1,0,4,0,0,51,127]
theorem Zo.calls (a0_0:Int) (a0_1:Int) (a0_2:Int) (a1_0:Int) (a1_1:Int) (a1_2:Int) (r:List Int) (w:World) (h:Zo.f a0_0 a0_1 a0_2 a1_0 a1_1 a1_2=some r):
  Calls Tryz.prog 73 #[.agg #[int i64 a0_0,int i64 a0_1,int i64 a0_2],.agg #[int i64 a1_0,int i64 a1_1,int i64 a1_2]] w λe w'=>∃ v0_:Value,e=.returned (v0_)/\Kd.R (Kd.int i64) 3 w' w.heap.size (λ_=>True) v0_ r/\Below w.heap.size w w':=by
 have HB:=Em w;have H:=h;unfold Zo.f at H;clear h;generalize hy389:(([wrap64 ((wrap64 (a0_1*a1_2)) - (wrap64 (a0_2*a1_1))),wrap64 ((wrap64 (a0_2*a1_0)) - (wrap64 (a0_0*a1_2))),wrap64 ((wrap64 (a0_0*a1_1)) - (wrap64 (a0_1*a1_0)))]:List Int))=y389 at H;have Ny389:=am hy389.symm;clear hy389;obtain rfl:=Option.some.inj H;go_enter Tryz.func73,Tryz.ntmps73
 try go_wp2_with (first|((with_reducible refine zd (N:=2) rfl ?_);refine xe_ 2 51 #[int i64 a0_0,int i64 a0_1,int i64 a0_2] ?_;intro gb385 hg w3 hbox hb;have BK385:=am (hbox);have GW385:=Ek HB hg;replace HB:=bq HB hb;clear hb hbox hg)|((with_reducible refine zd (N:=3) rfl ?_);refine xe_ 3 51 #[int i64 a1_0,int i64 a1_1,int i64 a1_2] ?_;intro gb386 hg w4 hbox hb;have BK386:=am (hbox);have GW386:=am ((by rw[hg];exact(zw (bx_ HB)):w.heap.size<=gb386));replace HB:=am (ze (bx_ HB) hb);have NB385_386:=Eh BK385 hg;have NB386_385:=Ei BK385 hg;replace BK385:=Ej BK385 hb;clear hb hbox hg))
 replace BK385:=am (qy BK385.out);replace BK386:=am (qy BK386.out);replace HB:=am (Qn HB.out);refine st (T:=Zo.T1) (B:=Zo.B1) 8 (λw'=>w'.cell? ⟨gb385,0,none⟩=some (int i64 a0_0)/\w'.cell? ⟨gb385,1,none⟩=some (int i64 a0_1)/\w'.cell? ⟨gb385,2,none⟩=some (int i64 a0_2)/\w'.cell? ⟨gb386,0,none⟩=some (int i64 a1_0)/\w'.cell? ⟨gb386,1,none⟩=some (int i64 a1_1)/\w'.cell? ⟨gb386,2,none⟩=some (int i64 a1_2)) [] (by kernel_rfl) (by kernel_rfl) (⟨(qe BK385.out 0).trans rfl,(qe BK385.out 1).trans rfl,(qe BK385.out 2).trans rfl,(qe BK386.out 0).trans rfl,(qe BK386.out 1).trans rfl,(qe BK386.out 2).trans rfl⟩) λhHeld HT_ HW_=>?_;generalize w4.drew=w5 at BK385 BK386 HB hHeld ⊢;refine Et 0 7 2 9 HT_ ?_;refine tk 1 8 HT_ HW_ hHeld ?_;refine tk 3 10 HT_ HW_ hHeld ?_;refine join_ (σ:=Nat×Nat) 2 #[true,true,true,true,true,true,false,false] (λs_=>[(5,.pointer (some ⟨s_.1,0,none⟩)),(6,.pointer (some ⟨s_.2,0,none⟩))]) (λs_ w'=>(w'.cell? ⟨gb385,0,none⟩=some (int i64 a0_0)/\w'.cell? ⟨gb385,1,none⟩=some (int i64 a0_1)/\w'.cell? ⟨gb385,2,none⟩=some (int i64 a0_2)/\w'.cell? ⟨gb386,0,none⟩=some (int i64 a1_0)/\w'.cell? ⟨gb386,1,none⟩=some (int i64 a1_1)/\w'.cell? ⟨gb386,2,none⟩=some (int i64 a1_2))/\(w'.heap[gb385]? =some (.cells #[int i64 a0_0,int i64 a0_1,int i64 a0_2] 51 (0,0)))/\(w'.heap[gb386]? =some (.cells #[int i64 a1_0,int i64 a1_1,int i64 a1_2] 51 (0,0)))/\(w'.heap[s_.1]? =some (.cells #[int i64 0,int i64 0,int i64 0] 49 (0,0)))/\(w'.heap[s_.2]? =some (.cells #[int i64 0,int i64 0,int i64 0] 49 (0,0)))/\(w.heap.size<=s_.1)/\(w.heap.size<=s_.1)/\(gb385≠s_.1)/\(s_.1≠gb385)/\(gb386≠s_.1)/\(s_.1≠gb386)/\(s_.2≠s_.1)/\(s_.1≠s_.2)/\(w.heap.size<=s_.2)/\(w.heap.size<=s_.2)/\(gb385≠s_.2)/\(s_.2≠gb385)/\(gb386≠s_.2)/\(s_.2≠gb386)/\(Below w.heap.size w w')) ?_ ?_
 rotate_left
 ·intro hCont
  refine two_ (i:=4) (j:=5) (Ni:=some 5) (Nj:=some 6) #[true,true,true,true,true,false,false,false] #[true,true,true,true,false,true,false,false] rfl rfl rfl rfl (qkk HT_.out (by kernel_rfl)) (by decide) (by decide) (λK hK=>?_) (λK hK=>?_)
  ·skip
   refine xs_ 5 49 #[int i64 0,int i64 0,int i64 0] ?_;intro gb387 hg w6 hbox hb;have BK387:=am (hbox);have GW387:=am ((by rw[hg];exact(zw (bx_ HB)):w.heap.size<=gb387));have GE387:=am ((by rw[hg];exact(zw (bx_ HB)):w.heap.size<=gb387));replace HB:=am (ze (bx_ HB) hb);have NB385_387:=Eh BK385 hg;have NB387_385:=Ei BK385 hg;replace BK385:=Ej BK385 hb;have NB386_387:=Eh BK386 hg;have NB387_386:=Ei BK386 hg;replace BK386:=Ej BK386 hb;clear hb hbox hg;refine hK.out _ _ ⟨En BK385.out,Eo BK385.out,Ep BK385.out,En BK386.out,Eo BK386.out,Ep BK386.out⟩ λhHeld=>nz ?_;clear hK K;refine on 5 (some 6) HT_ λK hK=>?_;refine xs_ 6 49 #[int i64 0,int i64 0,int i64 0] ?_;intro gb388 hg w7 hbox hb;have BK388:=am (hbox);have GW388:=am ((by rw[hg];exact(zw (bx_ HB)):w.heap.size<=gb388));have GE388:=am ((by rw[hg];exact(zw (bx_ HB)):w.heap.size<=gb388));replace HB:=am (ze (bx_ HB) hb);have NB385_388:=Eh BK385 hg;have NB388_385:=Ei BK385 hg;replace BK385:=Ej BK385 hb;have NB386_388:=Eh BK386 hg;have NB388_386:=Ei BK386 hg;replace BK386:=Ej BK386 hb;have NB387_388:=Eh BK387 hg;have NB388_387:=Ei BK387 hg;replace BK387:=Ej BK387 hb;clear hb hbox hg;refine hK.out _ _ ⟨En BK385.out,Eo BK385.out,Ep BK385.out,En BK386.out,Eo BK386.out,Ep BK386.out⟩ λhHeld=>nz ?_;clear hK K;exact qhi (by first|(simp only[qbj,Act.put,List.setIfInBounds_toArray,List.set_cons_zero,List.set_cons_succ];done)|(simp only[qbj,Act.put,List.setIfInBounds_toArray,List.set_cons_zero,List.set_cons_succ];rfl)) (hCont (gb387,gb388) _ ⟨hHeld,(pk_ BK385),(pk_ BK386),(pk_ BK387),(pk_ BK388),GW387.out,GE387.out,NB385_387.out,NB387_385.out,NB386_387.out,NB387_386.out,NB388_387.out,NB387_388.out,GW388.out,GE388.out,NB385_388.out,NB388_385.out,NB386_388.out,NB388_386.out,(bx_ HB)⟩)
  ·skip
   refine xs_ 6 49 #[int i64 0,int i64 0,int i64 0] ?_;intro gb388 hg w6 hbox hb;have BK388:=am (hbox);have GW388:=am ((by rw[hg];exact(zw (bx_ HB)):w.heap.size<=gb388));have GE388:=am ((by rw[hg];exact(zw (bx_ HB)):w.heap.size<=gb388));replace HB:=am (ze (bx_ HB) hb);have NB385_388:=Eh BK385 hg;have NB388_385:=Ei BK385 hg;replace BK385:=Ej BK385 hb;have NB386_388:=Eh BK386 hg;have NB388_386:=Ei BK386 hg;replace BK386:=Ej BK386 hb;clear hb hbox hg;refine hK.out _ _ ⟨En BK385.out,Eo BK385.out,Ep BK385.out,En BK386.out,Eo BK386.out,Ep BK386.out⟩ λhHeld=>nz ?_;clear hK K;refine on 4 (some 5) HT_ λK hK=>?_;refine xs_ 5 49 #[int i64 0,int i64 0,int i64 0] ?_;intro gb387 hg w7 hbox hb;have BK387:=am (hbox);have GW387:=am ((by rw[hg];exact(zw (bx_ HB)):w.heap.size<=gb387));have GE387:=am ((by rw[hg];exact(zw (bx_ HB)):w.heap.size<=gb387));replace HB:=am (ze (bx_ HB) hb);have NB385_387:=Eh BK385 hg;have NB387_385:=Ei BK385 hg;replace BK385:=Ej BK385 hb;have NB386_387:=Eh BK386 hg;have NB387_386:=Ei BK386 hg;replace BK386:=Ej BK386 hb;have NB388_387:=Eh BK388 hg;have NB387_388:=Ei BK388 hg;replace BK388:=Ej BK388 hb;clear hb hbox hg;refine hK.out _ _ ⟨En BK385.out,Eo BK385.out,Ep BK385.out,En BK386.out,Eo BK386.out,Ep BK386.out⟩ λhHeld=>nz ?_;clear hK K;exact qhi (by first|(simp only[qbj,Act.put,List.setIfInBounds_toArray,List.set_cons_zero,List.set_cons_succ];done)|(simp only[qbj,Act.put,List.setIfInBounds_toArray,List.set_cons_zero,List.set_cons_succ];rfl)) (hCont (gb387,gb388) _ ⟨hHeld,(pk_ BK385),(pk_ BK386),(pk_ BK387),(pk_ BK388),GW387.out,GE387.out,NB385_387.out,NB387_385.out,NB386_387.out,NB387_386.out,NB388_387.out,NB387_388.out,GW388.out,GE388.out,NB385_388.out,NB388_385.out,NB386_388.out,NB388_386.out,(bx_ HB)⟩)
 rintro⟨gb387,gb388⟩ w8 ⟨hS_,h0_,h1_,h2_,h3_,h4_,h5_,h6_,h7_,h8_,h9_,h10_,h11_,h12_,h13_,h14_,h15_,h16_,h17_,h18_⟩;have n0_:qf (w8.heap[gb385]? =some (.cells #[int i64 a0_0,int i64 a0_1,int i64 a0_2] 51 (0,0))):=⟨h0_⟩
 have n1_:qf (w8.heap[gb386]? =some (.cells #[int i64 a1_0,int i64 a1_1,int i64 a1_2] 51 (0,0))):=⟨h1_⟩
 have n2_:qf (w8.heap[gb387]? =some (.cells #[int i64 0,int i64 0,int i64 0] 49 (0,0))):=⟨h2_⟩
 have n3_:qf (w8.heap[gb388]? =some (.cells #[int i64 0,int i64 0,int i64 0] 49 (0,0))):=⟨h3_⟩
 have n4_:qf (w.heap.size<=gb387):=⟨h4_⟩
 have n5_:qf (w.heap.size<=gb387):=⟨h5_⟩
 have n6_:qf (gb385≠gb387):=⟨h6_⟩
 have n7_:qf (gb387≠gb385):=⟨h7_⟩
 have n8_:qf (gb386≠gb387):=⟨h8_⟩
 have n9_:qf (gb387≠gb386):=⟨h9_⟩
 have n10_:qf (gb388≠gb387):=⟨h10_⟩
 have n11_:qf (gb387≠gb388):=⟨h11_⟩
 have n12_:qf (w.heap.size<=gb388):=⟨h12_⟩
 have n13_:qf (w.heap.size<=gb388):=⟨h13_⟩
 have n14_:qf (gb385≠gb388):=⟨h14_⟩
 have n15_:qf (gb388≠gb385):=⟨h15_⟩
 have n16_:qf (gb386≠gb388):=⟨h16_⟩
 have n17_:qf (gb388≠gb386):=⟨h17_⟩
 have n18_:qf (Below w.heap.size w w8):=⟨h18_⟩
 clear BK385;clear BK386;clear HB;clear h0_ h1_ h2_ h3_ h4_ h5_ h6_ h7_ h8_ h9_ h10_ h11_ h12_ h13_ h14_ h15_ h16_ h17_ h18_;have BK387:=n2_;have BK388:=n3_;have GW387:=n4_;have NB385_387:=n6_;have NB387_385:=n7_;have NB386_387:=n8_;have NB387_386:=n9_;have NB388_387:=n10_;have NB387_388:=n11_;have GW388:=n12_;have NB385_388:=n14_;have NB388_385:=n15_;have NB386_388:=n16_;have NB388_386:=n17_;have HB:=n18_;clear n0_ n1_ n2_ n3_ n4_ n5_ n6_ n7_ n8_ n9_ n10_ n11_ n12_ n13_ n14_ n15_ n16_ n17_ n18_;have hHeld:w8.cell? ⟨gb385,0,none⟩=some (int i64 a0_0)/\w8.cell? ⟨gb385,1,none⟩=some (int i64 a0_1)/\w8.cell? ⟨gb385,2,none⟩=some (int i64 a0_2)/\w8.cell? ⟨gb386,0,none⟩=some (int i64 a1_0)/\w8.cell? ⟨gb386,1,none⟩=some (int i64 a1_1)/\w8.cell? ⟨gb386,2,none⟩=some (int i64 a1_2):=hS_;refine qhi (a':=?_) ?_ ?_
 rotate_left
 ·simp only[qbj,Act.put,List.setIfInBounds_toArray,List.set_cons_zero,List.set_cons_succ]
  rfl
 refine on 6 none HT_ λK hK=>?_;have hs9:w8.cell? ⟨gb387,0,none⟩=some (int i64 0):=(qe BK387.out 0).trans rfl;have hfs9:=ql BK387.out 0;have hns9_0:=NB385_387.out;have hns9_1:=NB386_387.out;have hns9_3:=NB388_387.out;have hms9_0:=NB387_385.out;have hms9_1:=NB387_386.out;have hms9_3:=NB387_388.out;have hs10:w8.cell? ⟨gb387,1,none⟩=some (int i64 0):=(qe BK387.out 1).trans rfl;have hfs10:=ql BK387.out 1;have hs11:w8.cell? ⟨gb387,2,none⟩=some (int i64 0):=(qe BK387.out 2).trans rfl;have hfs11:=ql BK387.out 2;refine qhh (w1:=?_) (by rfl) rfl ?_ ?_
 rotate_left
 ·go_simp
  rfl
 refine hK.out _ _ ⟨((Qq (p:=⟨gb387,_,none⟩) NB385_387.out _).trans (((Qq (p:=⟨gb387,_,none⟩) NB385_387.out _).trans (((Qq (p:=⟨gb387,_,none⟩) NB385_387.out _).trans (hHeld.1)))))),((Qq (p:=⟨gb387,_,none⟩) NB385_387.out _).trans (((Qq (p:=⟨gb387,_,none⟩) NB385_387.out _).trans (((Qq (p:=⟨gb387,_,none⟩) NB385_387.out _).trans (hHeld.2.1)))))),((Qq (p:=⟨gb387,_,none⟩) NB385_387.out _).trans (((Qq (p:=⟨gb387,_,none⟩) NB385_387.out _).trans (((Qq (p:=⟨gb387,_,none⟩) NB385_387.out _).trans (hHeld.2.2.1)))))),((Qq (p:=⟨gb387,_,none⟩) NB386_387.out _).trans (((Qq (p:=⟨gb387,_,none⟩) NB386_387.out _).trans (((Qq (p:=⟨gb387,_,none⟩) NB386_387.out _).trans (hHeld.2.2.2.1)))))),((Qq (p:=⟨gb387,_,none⟩) NB386_387.out _).trans (((Qq (p:=⟨gb387,_,none⟩) NB386_387.out _).trans (((Qq (p:=⟨gb387,_,none⟩) NB386_387.out _).trans (hHeld.2.2.2.2.1)))))),((Qq (p:=⟨gb387,_,none⟩) NB386_387.out _).trans (((Qq (p:=⟨gb387,_,none⟩) NB386_387.out _).trans (((Qq (p:=⟨gb387,_,none⟩) NB386_387.out _).trans (hHeld.2.2.2.2.2))))))⟩ (λhHeld=>?_);clear hK K;refine on 7 none HT_ λK hK=>?_;have hs12:w8.cell? ⟨gb388,0,none⟩=some (int i64 0):=(qe BK388.out 0).trans rfl;have hfs12:=ql BK388.out 0;have hns12_0:=NB385_388.out;have hns12_1:=NB386_388.out;have hns12_2:=NB387_388.out;have hms12_0:=NB388_385.out;have hms12_1:=NB388_386.out;have hms12_2:=NB388_387.out;have hs13:w8.cell? ⟨gb388,1,none⟩=some (int i64 0):=(qe BK388.out 1).trans rfl;have hfs13:=ql BK388.out 1;have hs14:w8.cell? ⟨gb388,2,none⟩=some (int i64 0):=(qe BK388.out 2).trans rfl;have hfs14:=ql BK388.out 2;refine qhh (w1:=?_) (by rfl) rfl ?_ ?_
 rotate_left
 ·go_simp
  rfl
 refine hK.out _ _ ⟨((Qq (p:=⟨gb388,_,none⟩) NB385_388.out _).trans (((Qq (p:=⟨gb388,_,none⟩) NB385_388.out _).trans (((Qq (p:=⟨gb388,_,none⟩) NB385_388.out _).trans (hHeld.1)))))),((Qq (p:=⟨gb388,_,none⟩) NB385_388.out _).trans (((Qq (p:=⟨gb388,_,none⟩) NB385_388.out _).trans (((Qq (p:=⟨gb388,_,none⟩) NB385_388.out _).trans (hHeld.2.1)))))),((Qq (p:=⟨gb388,_,none⟩) NB385_388.out _).trans (((Qq (p:=⟨gb388,_,none⟩) NB385_388.out _).trans (((Qq (p:=⟨gb388,_,none⟩) NB385_388.out _).trans (hHeld.2.2.1)))))),((Qq (p:=⟨gb388,_,none⟩) NB386_388.out _).trans (((Qq (p:=⟨gb388,_,none⟩) NB386_388.out _).trans (((Qq (p:=⟨gb388,_,none⟩) NB386_388.out _).trans (hHeld.2.2.2.1)))))),((Qq (p:=⟨gb388,_,none⟩) NB386_388.out _).trans (((Qq (p:=⟨gb388,_,none⟩) NB386_388.out _).trans (((Qq (p:=⟨gb388,_,none⟩) NB386_388.out _).trans (hHeld.2.2.2.2.1)))))),((Qq (p:=⟨gb388,_,none⟩) NB386_388.out _).trans (((Qq (p:=⟨gb388,_,none⟩) NB386_388.out _).trans (((Qq (p:=⟨gb388,_,none⟩) NB386_388.out _).trans (hHeld.2.2.2.2.2))))))⟩ (λhHeld=>?_);clear hK K;refine Zh (Qe HT_.out (by kernel_rfl)) ?_;have hnb15:=NB387_385.out;have hnc15:=NB385_387.out;have hnb16:=NB387_386.out;have hnc16:=NB386_387.out;have hnb17:=NB387_388.out;have hnc17:=NB388_387.out;have hcz18_0:=En BK387.out;have hcz18_1:=Eo BK387.out;have hcz18_2:=Ep BK387.out;have hfz18_0:=ql BK387.out 0;have hfz18_1:=ql BK387.out 1;have hfz18_2:=ql BK387.out 2;have hnb19:=NB388_385.out;have hnc19:=NB385_388.out;have hnb20:=NB388_386.out;have hnc20:=NB386_388.out;have hcz21_0:=En BK388.out;have hcz21_1:=Eo BK388.out;have hcz21_2:=Ep BK388.out;have hfz21_0:=ql BK388.out 0;have hfz21_1:=ql BK388.out 1;have hfz21_2:=ql BK388.out 2
 try go_wp2_with (first|((with_reducible refine zd (N:=44) rfl ?_);refine Kd.AR (Kd.int i64) _ 3 ?hg (N:=44) ?hd (xs:=([wrap64 ((wrap64 (a0_1*a1_2)) - (wrap64 (a0_2*a1_1))),wrap64 ((wrap64 (a0_2*a1_0)) - (wrap64 (a0_0*a1_2))),wrap64 ((wrap64 (a0_0*a1_1)) - (wrap64 (a0_1*a1_0)))]:List Int)) (inner:=[int i64 (wrap64 ((wrap64 (a0_1*a1_2)) - (wrap64 (a0_2*a1_1)))),int i64 (wrap64 ((wrap64 (a0_2*a1_0)) - (wrap64 (a0_0*a1_2)))),int i64 (wrap64 ((wrap64 (a0_0*a1_1)) - (wrap64 (a0_1*a1_0))))]) (ok:=λ_=>True) (okp:=λ_=>True) ?hr ?hp (λ_ hk=>hk) trivial (Below.refl _ _) (Nat.le_refl _) (by simp) ?_;(case hd=>rfl);(case hg=>rfl);(case hr=>first|(go_simp;done)|(go_simp;rfl));(case hp=>exact(Reps.one (show Kd.M (Kd.int i64) _ _ _ (wrap64 ((wrap64 (a0_1*a1_2)) - (wrap64 (a0_2*a1_1)))) [int i64 (wrap64 ((wrap64 (a0_1*a1_2)) - (wrap64 (a0_2*a1_1))))] from rfl) (Reps.one (show Kd.M (Kd.int i64) _ _ _ (wrap64 ((wrap64 (a0_2*a1_0)) - (wrap64 (a0_0*a1_2)))) [int i64 (wrap64 ((wrap64 (a0_2*a1_0)) - (wrap64 (a0_0*a1_2))))] from rfl) (Reps.one (show Kd.M (Kd.int i64) _ _ _ (wrap64 ((wrap64 (a0_0*a1_1)) - (wrap64 (a0_1*a1_0)))) [int i64 (wrap64 ((wrap64 (a0_0*a1_1)) - (wrap64 (a0_1*a1_0))))] from rfl) (Reps.none _ _)))));intro v390 w22 ho23 hb hg_ hnew_;clear hg_ hnew_;rw[<-Ny389.out]at ho23;have HO391:=am (Kd.Ai ho23 (zw (bx_ HB)));replace HB:=am (ze (bx_ HB) hb);clear hb ho23))
 go_ret
 exact⟨_,fq,wR HO391,bx_ HB⟩
def qaf.f (a0:Int) (a1:Int):Option (Int):=if a1=0 then (none) else (some (Int.tmod (wrap64 ((Int.tmod a0 a1)+a1)) a1))
theorem qaf.calls (a0:Int) (a1:Int) (r:Int) (w:World) (h:qaf.f a0 a1=some r):
  Calls Tryz.prog 108 #[int i64 a0,int i64 a1] w λe w'=>e=.returned (int i64 r)/\Drawn0 w w':=by
 have H:=h;unfold qaf.f at H;clear h;replace H:=ifm H;obtain⟨c3,H⟩:=H;have c3b0:=beq_eq_false_iff_ne.mpr c3;have c3b1:=bne_iff_ne.mpr c3;obtain rfl:=Option.some.inj H;go_enter Tryz.func108,Tryz.ntmps108
 go_wp2;go_ret
 exact⟨fr,df⟩
def j4.l0 :Nat->Int->List Int->Int->List Int->Int->Int->Option (Int)
 | 0,_,_,_,_,_,_=>none
 | k+1,x0,x2,x7,x10,x11,x12=>if x12 < x11 then (if 0<=x12 then (if x12 < (x10.length:Int) then (if x12 < (x2.length:Int) then (j4.l0 k x0 x2 (wrap64 (x7+(wrap64 ((rd x10 x12)*(rd x2 x12))))) x10 x11 (wrap64 (x12+1))) else (none)) else (none)) else (none)) else ((qaf.f x7 x0).bind λt394=>(some t394))
def j4.f (k:Nat) (a0:Int) (l1:List Int) (l2:List Int):Option (Int):=j4.l0 k a0 l2 0 l1 (l1.length:Int) 0
theorem j4.Ag :∀ k,(∀ y0 y1 y2 y3 y4 y5,LeO (j4.l0 k y0 y1 y2 y3 y4 y5) (j4.l0 (k+1) y0 y1 y2 y3 y4 y5))
 | 0=>λ_ _ _ _ _ _ r h=>by simp[j4.l0]at h
 | k+1=>by
  have ih0:=j4.Ag k
  ·intro y0 y1 y2 y3 y4 y5
   unfold j4.l0
   repeat' with_reducible first|intro _|apply ih0|apply Eb|apply Ec|apply Ed|apply Ee
theorem j4.mono (a0 a1 a2 k):LeO (j4.f k a0 a1 a2) (j4.f (k+1) a0 a1 a2):=by
 have ih0:=j4.Ag k;unfold j4.f
 repeat' with_reducible first|intro _|apply ih0|apply Eb|apply Ec|apply Ed|apply Ee
theorem j4.calls (k:Nat) (a0:Int) (A1:Option Addr) (c1:Nat) (l1:List Int) (A2:Option Addr) (c2:Nat) (l2:List Int) (r:Int) (w:World) (hr1:Kd.C (Kd.int i64) w A1 l1.length l1) (hc1:l1.length<=c1) (hr2:Kd.C (Kd.int i64) w A2 l2.length l2) (hc2:l2.length<=c2) (h:j4.f k a0 l1 l2=some r):
  Calls Tryz.prog 75 #[int i64 a0,.slice A1 l1.length c1,.slice A2 l2.length c2] w λe w'=>e=.returned (int i64 r)/\Drawn0 w w':=by
 have HR1:=am hr1;clear hr1 hc1;have HR2:=am hr2;clear hr2 hc2;have H:=h;unfold j4.f at H;clear h;have H':=am H;clear H;go_enter Tryz.func75,Tryz.ntmps75
 go_wp2
 go_loopg [7,12] k (λkq v7 v12 w'=>∃ (x7_1:Int) (x12_1:Int),v7=int i64 x7_1/\v12=int i64 x12_1/\qf (j4.l0 kq a0 l2 x7_1 l1 (l1.length:Int) x12_1=some r)/\qf (kq<=k)/\Drawn0 w w')
 case atStart=>exact⟨(0),(0),fr,fr,H',⟨Nat.le_refl _⟩,df⟩
 case round=>
  clear H';try clear c1;try clear c2;try clear p2
  obtain⟨x7_1,x12_1,rfl,rfl,HA,HK1,⟨m1,rfl⟩⟩:=hrel
  cases gk with
  | zero=>exact absurd HA.out (by simp[j4.l0])
  | succ k1=>
   have H:=HA.out;clear HA;simp only[j4.l0]at H;replace H:=Eg H;rcases H with ⟨c4b0,H⟩|⟨c4b0,H⟩
   ·replace H:=Ef H;obtain⟨c5b0,H⟩:=H;replace H:=Ef H;obtain⟨c6b0,H⟩:=H;replace H:=ifn H;obtain⟨c7,H⟩:=H
    have c7b0:=decide_eq_true c7;clear c7;have H':=am H;clear H;obtain⟨ad392,e392,hx392_0,p392,q392⟩:=Es HR1.out x12_1 od od;cases e392
    obtain⟨ad393,e393,hx393_0,p393,q393⟩:=Es HR2.out x12_1 od od;cases e393;go_wp2
    go_roundg k1
    case measure=>have:=HK1.out;omega
    case rel=>exact⟨(wrap64 (x7_1+(wrap64 ((rd l1 x12_1)*(rd l2 x12_1))))),(wrap64 (x12_1+1)),fr,fr,H',⟨by have:=HK1.out;omega⟩,df⟩
   ·replace H:=bs H;obtain⟨t394,A8,H⟩:=H;obtain rfl:=Option.some.inj H
    go_wp2_with (first|((with_reducible refine za (f:=108) rfl ?_);refine gl 28 Tryz.func108 #[int i64 x7_1,int i64 a0] ?_;(with_reducible refine(qaf.calls x7_1 a0 t394 _ A8.out).mono ?_);rintro e w' ⟨rfl,⟨nd,rfl⟩⟩;refine⟨_,rfl,?_⟩))
    go_ret
    exact⟨fr,df⟩
def qp.l0 :Nat->List Int->Int->Int->Int->Option (Int)
 | 0,_,_,_,_=>none
 | k+1,x0,x1,x7,x8=>if x8 < x7 then (if 0<=x8 then (if x8 < (x0.length:Int) then (if x1=(rd x0 x8) then (some x8) else (qp.l0 k x0 x1 x7 (wrap64 (x8+1)))) else (none)) else (none)) else (some (-1))
def qp.f (k:Nat) (l0:List Int) (a1:Int):Option (Int):=qp.l0 k l0 a1 (l0.length:Int) 0
theorem qp.Ag :∀ k,(∀ y0 y1 y2 y3,LeO (qp.l0 k y0 y1 y2 y3) (qp.l0 (k+1) y0 y1 y2 y3))
 | 0=>λ_ _ _ _ r h=>by simp[qp.l0]at h
 | k+1=>by
  have ih0:=qp.Ag k
  ·intro y0 y1 y2 y3
   unfold qp.l0
   repeat' with_reducible first|intro _|apply ih0|apply Eb|apply Ec|apply Ed|apply Ee
theorem qp.mono (a0 a1 k):LeO (qp.f k a0 a1) (qp.f (k+1) a0 a1):=by
 have ih0:=qp.Ag k;unfold qp.f
 repeat' with_reducible first|intro _|apply ih0|apply Eb|apply Ec|apply Ed|apply Ee
theorem qp.calls (k:Nat) (A0:Option Addr) (c0:Nat) (l0:List Int) (a1:Int) (r:Int) (w:World) (hr0:Kd.C (Kd.int i64) w A0 l0.length l0) (hc0:l0.length<=c0) (h:qp.f k l0 a1=some r):
  Calls Tryz.prog 106 #[.slice A0 l0.length c0,int i64 a1] w λe w'=>e=.returned (int i64 r)/\Drawn0 w w':=by
 have HR0:=am hr0;clear hr0 hc0;have H:=h;unfold qp.f at H;clear h;have H':=am H;clear H;go_enter Tryz.func106,Tryz.ntmps106
 go_wp2
 go_loopg [8] k (λkq v8 w'=>∃ (x8_1:Int),v8=int i64 x8_1/\qf (qp.l0 kq l0 a1 (l0.length:Int) x8_1=some r)/\qf (kq<=k)/\Drawn0 w w')
 case atStart=>exact⟨(0),fr,H',⟨Nat.le_refl _⟩,df⟩
 case round=>
  clear H';try clear c1;try clear p2
  obtain⟨x8_1,rfl,HA,HK1,⟨m1,rfl⟩⟩:=hrel
  cases gk with
  | zero=>exact absurd HA.out (by simp[qp.l0])
  | succ k1=>
   have H:=HA.out;clear HA;simp only[qp.l0]at H;replace H:=Eg H;rcases H with ⟨c3b0,H⟩|⟨c3b0,H⟩
   ·replace H:=Ef H;obtain⟨c4b0,H⟩:=H;replace H:=Ef H;obtain⟨c5b0,H⟩:=H
    by_cases c6:a1=(rd l0 x8_1)
    ·rw[if_pos c6]at H
     have c6b0:=beq_iff_eq.mpr c6;have c6b1:=bne_eq_false_iff_eq.mpr c6;clear c6;obtain rfl:=Option.some.inj H;obtain⟨ad395,e395,hx395_0,p395,q395⟩:=Es HR0.out x8_1 od od;cases e395;go_wp2;go_ret
     exact⟨fr,df⟩
    ·rw[if_neg c6]at H
     have c6b0:=beq_eq_false_iff_ne.mpr c6;have c6b1:=bne_iff_ne.mpr c6;have H':=am H;clear H;obtain⟨ad395,e395,hx395_0,p395,q395⟩:=Es HR0.out x8_1 od od;cases e395;go_wp2
     go_roundg k1
     case measure=>have:=HK1.out;omega
     case rel=>exact⟨(wrap64 (x8_1+1)),fr,H',⟨by have:=HK1.out;omega⟩,df⟩
   ·obtain rfl:=Option.some.inj H;go_wp2;go_ret
    exact⟨fr,df⟩
def zf.f (k:Nat) (l0:List Int) (a1:Int):Option (Bool):=(qp.f k l0 a1).bind λt396=>(some (decide (t396>=0)))
theorem zf.mono (a0 a1 k):LeO (zf.f k a0 a1) (zf.f (k+1) a0 a1):=by
 unfold zf.f
 repeat' with_reducible first|intro _|apply qp.mono|apply Eb|apply Ec|apply Ed|apply Ee
theorem zf.calls (k:Nat) (A0:Option Addr) (c0:Nat) (l0:List Int) (a1:Int) (r:Bool) (w:World) (hr0:Kd.C (Kd.int i64) w A0 l0.length l0) (hc0:l0.length<=c0) (h:zf.f k l0 a1=some r):
  Calls Tryz.prog 107 #[.slice A0 l0.length c0,int i64 a1] w λe w'=>e=.returned (.bool r)/\Drawn0 w w':=by
 have HR0:=am hr0;have HC0:=am hc0;clear hr0 hc0;have H:=h;unfold zf.f at H;clear h;replace H:=bs H;obtain⟨t396,A3,H⟩:=H;obtain rfl:=Option.some.inj H;go_enter Tryz.func107,Tryz.ntmps107
 go_wp2_with (first|((with_reducible refine za (f:=106) rfl ?_);refine gl 7 Tryz.func106 #[.slice A0 l0.length c0,int i64 a1] ?_;(with_reducible refine(qp.calls k _ _ l0 a1 t396 _ ?_ ?_ A3.out).mono ?_);exact wC HR0;exact HC0.out;rintro e w' ⟨rfl,⟨nd,rfl⟩⟩;refine⟨_,rfl,?_⟩))
 go_ret
 exact⟨fr,df⟩
def Z6.f (k:Nat) (a0:Int):Option (Bool):=(zf.f k (([7,11,13,17,19,23,29,31]:List Int)) a0).bind λt400=>(some t400)
theorem Z6.mono (a0 k):LeO (Z6.f k a0) (Z6.f (k+1) a0):=by
 unfold Z6.f
 repeat' with_reducible first|intro _|apply zf.mono|apply Eb|apply Ec|apply Ed|apply Ee
theorem Z6.calls (k:Nat) (a0:Int) (r:Bool) (w:World) (h:Z6.f k a0=some r):
  Calls Tryz.prog 121 #[int i64 a0] w λe w'=>e=.returned (.bool r)/\Below w.heap.size w w':=by
 have HB:=Em w;have H:=h;unfold Z6.f at H;clear h;generalize hy397:(([7,11,13,17,19,23,29,31]:List Int))=y397 at H;have Ny397:=am hy397.symm;clear hy397;replace H:=bs H;obtain⟨t400,A2,H⟩:=H;obtain rfl:=Option.some.inj H;go_enter Tryz.func121,Tryz.ntmps121
 go_wp2_with (first|((with_reducible refine zd (N:=3) rfl ?_);refine li 3 [7,11,13,17,19,23,29,31] ?_;intro v398 w3 ho4 hb;rw[<-Ny397.out]at ho4;have HO399:=am (Kd.Ai ho4 (bz HB));replace HB:=bq HB hb;clear hb ho4;obtain⟨Ao5,co5,eo5⟩:=Kd.Ah HO399.out;subst eo5)|((with_reducible refine za (f:=107) rfl ?_);refine gl 5 Tryz.func107 #[.slice Ao5 y397.length co5,int i64 a0] ?_;(with_reducible refine(zf.calls k _ _ y397 a0 t400 _ ?_ ?_ A2.out).mono ?_);exact Kd.Ad (Kd.Ac HO399.out).2.2 gs;exact(Kd.Ac HO399.out).2.1;rintro e w' ⟨rfl,⟨nd,rfl⟩⟩;refine⟨_,rfl,?_⟩))
 go_ret
 exact⟨fq,bw HB⟩
def idxOf (q:Int->Bool):List Int->Int->Int
 | [],_=> -1
 | x :: xs,i=>if q x then i else idxOf q xs (i+1)
theorem qp8 {k:IntKind} {a b:Int} (h:a=b):Ending.returned (.int k a)=.returned (.int k b):=by rw[h]
theorem qdy {a b:Bool} (h:a=b):Ending.returned (.bool a)=.returned (.bool b):=by rw[h]
theorem qt3 (l:List Int) (j:Nat) (h:j < l.length):rd l (j:Int)=l[j]:=by simp[rd,List.getD_eq_getElem?_getD,h]
theorem qen (g:Nat) (lb:Array Value) (q:Int->Bool) (A0:Option Addr) (c0:Nat) (l0:List Int) (w:World) (hr0:Kd.C (Kd.int i64) w A0 l0.length l0)
  (he:∀ args w,(callFunc g args).run Tryz.prog w=.ok (.enter g args) w)
  (hq:∀ (x:Int) (w1:World),Drawn0 w w1->Calls Tryz.prog g (#[int i64 x]++lb) w1 λe w'=>e=.returned (.bool (q x))/\Drawn0 w1 w'):
  Calls Tryz.prog 124 #[.slice A0 l0.length c0,.func (.func g) #[] lb] w λe w'=>e=.returned (int i64 (idxOf q l0 0))/\Drawn0 w w':=by
 have hm:=hr0.2.1;go_enter Tryz.func124,Tryz.ntmps124
 go_wp2
 go_loopw [8] (λi w'=>∃ j:Nat,j<=l0.length/\i=int i64 j/\idxOf q l0 0=idxOf q (l0.drop j) j/\Drawn0 w w') (λi _=>l0.length - (intOf i).toNat)
 case atStart=>exact⟨0,Nat.zero_le _,rfl,by simp,Drawn0.refl _⟩
 case round=>
  obtain⟨j,hj,rfl,hidx,⟨m1,rfl⟩⟩:=hrel;have HIDX:=Lib.hid hidx;clear hidx
  by_cases hlt:j < l0.length
  ·obtain⟨ad,e,hx⟩:=Kd.Aj hr0 (j:Int) (by omega) (by omega)
   subst e;simp only[Int.toNat_natCast]at hx;have hcall:=hq (rd l0 j) (w.drewN m1) ⟨m1,rfl⟩;have HC:=Lib.hid hcall;clear hcall hq
   cases hv:q (rd l0 j)
   all_goals
    go_wp2_with fail;refine(HC.out).mono ?_;rintro e w' ⟨rfl,⟨m2,rfl⟩⟩;simp only[hv]
    go_wp2
   ·go_roundw
    case rel=>exact⟨j+1,by omega,by go_num,by rw[HIDX.out,List.drop_eq_getElem_cons hlt,idxOf,if_neg (by rw[<-qt3 l0 j hlt,hv];simp)];simp,⟨m1+m2,by simp⟩⟩
    case measure=>simp[intOf];omega
   ·go_ret
    exact⟨qp8 (a:=(j:Int)) (by rw[HIDX.out,List.drop_eq_getElem_cons hlt,idxOf,if_pos (by rw[<-qt3 l0 j hlt,hv])]),⟨m1+m2,by simp⟩⟩
  ·go_wp2
   go_ret
   exact⟨qp8 (a:=-1) (by rw[HIDX.out,List.drop_eq_nil_of_le (by omega),idxOf]),⟨m1,rfl⟩⟩
theorem qf2 (g:Nat) (lb:Array Value) (q:Int->Bool) (A0:Option Addr) (c0:Nat) (l0:List Int) (w:World) (hr0:Kd.C (Kd.int i64) w A0 l0.length l0)
  (he:∀ args w,(callFunc g args).run Tryz.prog w=.ok (.enter g args) w)
  (hq:∀ (x:Int) (w1:World),Drawn0 w w1->Calls Tryz.prog g (#[int i64 x]++lb) w1 λe w'=>e=.returned (.bool (q x))/\Drawn0 w1 w'):
  Calls Tryz.prog 122 #[.slice A0 l0.length c0,.func (.func g) #[] lb] w λe w'=>e=.returned (.bool (decide (idxOf q l0 0>=0)))/\Drawn0 w w':=by
 have HC:=Lib.hid (qen g lb q A0 c0 l0 w hr0 he hq);clear hq;go_enter Tryz.func122,Tryz.ntmps122;go_wp2_with fail;refine HC.out.mono ?_;rintro e w' ⟨rfl,⟨m2,rfl⟩⟩
 go_wp2;go_ret
 exact⟨rfl,⟨m2,rfl⟩⟩
theorem qqu (x p:Int) (b:Nat) (w:World) (hc:w.cell? ⟨b,0,none⟩=some (int i64 p)):
  Calls Tryz.prog 123 #[int i64 x,.pointer (some ⟨b,0,none⟩)] w λe w'=>e=.returned (.bool (decide (x < 0) || decide (x>=p)))/\Drawn0 w w':=by
 by_cases h:x < 0
 ·have h1:decide (x < 0)=true:=decide_eq_true h
  go_enter Tryz.func123,Tryz.ntmps123
  go_wp2;go_ret
  exact⟨by simp[h],Drawn0.refl _⟩
 ·have h1:decide (x < 0)=false:=decide_eq_false h
  go_enter Tryz.func123,Tryz.ntmps123
  go_wp2;go_ret
  exact⟨by simp[h],Drawn0.refl _⟩
def zi (p:Int):Bool:=decide (p=7\/p=11\/p=13\/p=17\/p=19\/p=23\/p=29\/p=31)
theorem qfx (a:Int):Z6.f 20 a=some (zi a):=by
 by_cases h:a=7\/a=11\/a=13\/a=17\/a=19\/a=23\/a=29\/a=31
 ·rcases h with rfl|rfl|rfl|rfl|rfl|rfl|rfl|rfl<;>decide+kernel
 ·have h':=h
  simp only[not_or]at h;obtain⟨h1,h2,h3,h4,h5,h6,h7,h8⟩:=h
  simp[Z6.f,zf.f,qp.f,qp.l0,rd,wrap64,h1,h2,h3,h4,h5,h6,h7,h8,zi]
theorem qmb (q:Int->Bool):∀ (l:List Int) (i:Int),0<=i->decide (idxOf q l i>=0)=l.any q
 | [],i,h=>by simp[idxOf]
 | x :: xs,i,h=>by
  unfold idxOf
  cases hq:q x
  ·simp[hq,qmb q xs (i+1) (by omega)]
  ·simp[hq,h]
def Zg.f (a0:Int) (l1:List Int) (a2:Int):Option Bool:=some (zi a0 && decide ((l1.length:Int)=a2) && l1.all λx=>decide (0<=x) && decide (x < a0))
theorem Zg.not (p:Int) (l:List Int):(!decide (idxOf (λx=>decide (x < 0) || decide (x>=p)) l 0>=0))=l.all λx=>decide (0<=x) && decide (x < p):=by
 rw[qmb _ l 0 (by omega),List.not_any_eq_all_not]
 congr 1
 funext x
 rw[Bool.eq_iff_iff];simp only[Bool.not_eq_true',Bool.or_eq_false_iff,decide_eq_false_iff_not,Bool.and_eq_true,decide_eq_true_eq];omega
theorem Zg.calls (a0:Int) (A1:Option Addr) (c1:Nat) (l1:List Int) (a2:Int) (r:Bool) (w:World) (hr1:Kd.C (Kd.int i64) w A1 l1.length l1) (hc1:l1.length<=c1) (h:Zg.f a0 l1 a2=some r):
  Calls Tryz.prog 92 #[int i64 a0,.slice A1 l1.length c1,int i64 a2] w λe w'=>e=.returned (.bool r)/\Below w.heap.size w w':=by
 have H:=Lib.hid h;clear h;have hmf:∀ (fn:Fn) (first cap:Array Value) (w:World),(Instr.makeFunc fn first cap).run Tryz.prog w=.ok (.func fn first cap) w:=λ_ _ _ _=>rfl
 cases hp:zi a0
 ·have HP:=Lib.hid hp
  clear hp;go_enter Tryz.func92,Tryz.ntmps92;go_wp2_with fail;refine(Z6.calls 20 a0 false _ (by rw[qfx,HP.out])).mono ?_;rintro e w1 ⟨rfl,hb⟩
  go_wp2;go_ret
  exact⟨qdy (a:=false) (by simpa [Zg.f,HP.out] using H.out),(Qm (Below.refl _ _) _).trans (hb.mono (by simp))⟩
 ·have HP:=Lib.hid hp
  clear hp
  by_cases hl:(l1.length:Int)=a2
  ·have hl1:((l1.length:Int) == a2)=true:=beq_iff_eq.mpr hl
   have HL:=Lib.hid hl;clear hl;go_enter Tryz.func92,Tryz.ntmps92;go_wp2_with fail;refine(Z6.calls 20 a0 true _ (by rw[qfx,HP.out])).mono ?_;rintro e w1 ⟨rfl,hb⟩;have hcell:w1.cell? ⟨w.heap.size,0,none⟩=some (int i64 a0):=by
    rw[hb.cell (p:=⟨w.heap.size,0,none⟩) (by simp)];simp[go_sem]
   have hr2:=Kd.Ad hr1 ((Qm (Below.refl _ _) _).trans (hb.mono (by simp)));go_wp2_with fail;refine(qf2 123 #[.pointer (some ⟨w.heap.size,0,none⟩)] (λx=>decide (x < 0) || decide (x>=a0)) A1 c1 l1 w1 hr2 (Go.Proofs.enters_of Tryz.func123 (by kernel_rfl) rfl) (λx w2 ⟨m,hm⟩=>by subst hm;exact qqu x a0 w.heap.size _ (by simpa using hcell))).mono ?_;rintro e w2 ⟨rfl,⟨m,rfl⟩⟩
   go_wp2;go_ret
   exact⟨qdy (a:=!decide (idxOf (λx=>decide (x < 0) || decide (x>=a0)) l1 0>=0)) (by rw[Zg.not];simpa [Zg.f,HP.out,HL.out] using H.out),Qs ((Qm (Below.refl _ _) _).trans (hb.mono (by simp))) m⟩
  ·have hl1:((l1.length:Int) == a2)=false:=beq_eq_false_iff_ne.mpr hl
   have HL:=Lib.hid hl;clear hl;go_enter Tryz.func92,Tryz.ntmps92;go_wp2_with fail;refine(Z6.calls 20 a0 true _ (by rw[qfx,HP.out])).mono ?_;rintro e w1 ⟨rfl,hb⟩
   go_wp2;go_ret
   exact⟨qdy (a:=false) (by simpa [Zg.f,HP.out,HL.out] using H.out),(Qm (Below.refl _ _) _).trans (hb.mono (by simp))⟩
theorem qlr (x:Int) (w:World):Calls Tryz.prog 125 #[int i64 x] w λe w'=>e=.returned (.bool (x !=0))/\Drawn0 w w':=by
 go_enter Tryz.func125,Tryz.ntmps125
 go_wp2;go_ret
 exact⟨rfl,Drawn0.refl _⟩
def qfa (l:List Int):Bool:=(l.find? (λx=>x !=0)) == some 1
theorem qhx (q:Int->Bool):∀ (l:List Int) (i:Int),0<=i->(l.find? q=none->idxOf q l i=-1)/\∀ x,l.find? q=some x->i<=idxOf q l i/\idxOf q l i < i+l.length/\l.getD (idxOf q l i - i).toNat 0=x
 | [],i,h=>by simp[idxOf]
 | y :: ys,i,h=>by
  obtain⟨h1,h2⟩:=qhx q ys (i+1) (by omega);unfold idxOf
  cases hq:q y
  ·simp only[List.find?_cons,hq,Bool.false_eq_true,if_false]
   refine⟨h1,λx hx=>?_⟩;obtain⟨h3,h4,h5⟩:=h2 x hx;refine⟨by omega,by simp only[List.length_cons];omega,?_⟩;rw[show (idxOf q ys (i+1) - i).toNat=(idxOf q ys (i+1) - (i+1)).toNat+1 from by omega]
   simpa using h5
  ·simp[List.find?_cons,hq];omega
def qan.f (l0:List Int):Option Bool:=some (qfa l0)
theorem qan.calls (A0:Option Addr) (c0:Nat) (l0:List Int) (r:Bool) (w:World) (hr0:Kd.C (Kd.int i64) w A0 l0.length l0) (hc0:l0.length<=c0) (h:qan.f l0=some r):
  Calls Tryz.prog 94 #[.slice A0 l0.length c0] w λe w'=>e=.returned (.bool r)/\Drawn0 w w':=by
 have H:=Lib.hid h;clear h;have hi:=qhx (λx=>x !=0) l0 0 (by omega);have HC:=Lib.hid (qen 125 #[] (λx=>x !=0) A0 c0 l0 w hr0 (Go.Proofs.enters_of Tryz.func125 (by kernel_rfl) rfl) (λx w1 _=>qlr x w1));generalize hz:idxOf (λx=>x !=0) l0 0=z at*;have HI:=Lib.hid hi;clear hi hz
 by_cases h0:0<=z
 ·have hlt:z < l0.length:=by
   cases hf:l0.find? (λx=>x !=0) with
   | none=>have:=HI.out.1 hf;omega
   | some x=>have:=HI.out.2 x hf;omega
  obtain⟨ad,e,hx⟩:=Kd.Aj hr0 z h0 hlt;subst e;have h1:decide (0<=z)=true:=decide_eq_true h0;have h2:decide (z < (l0.length:Int))=true:=decide_eq_true hlt;go_enter Tryz.func94,Tryz.ntmps94;go_wp2_with fail;refine HC.out.mono ?_;rintro e w' ⟨rfl,⟨m2,rfl⟩⟩
  go_wp2;go_ret
  refine⟨qdy (a:=rd l0 z == 1) ?_,⟨m2,rfl⟩⟩;have hz:=HI.out;have hr:qfa l0=r:=by simpa [qan.f] using H.out
  rw[<-hr,qfa]
  cases hf:l0.find? (λx=>x !=0) with
  | none=>have:=hz.1 hf;omega
  | some x=>
   obtain⟨_,_,h5⟩:=hz.2 x hf;rw[Int.sub_zero]at h5;simp only[rd,h5]
   rfl
 ·have h1:decide (0<=z)=false:=decide_eq_false h0
  go_enter Tryz.func94,Tryz.ntmps94;go_wp2_with fail;refine HC.out.mono ?_;rintro e w' ⟨rfl,⟨m2,rfl⟩⟩
  go_wp2;go_ret
  refine⟨qdy (a:=false) ?_,⟨m2,rfl⟩⟩;have hz:=HI.out;have hr:qfa l0=r:=by simpa [qan.f] using H.out
  rw[<-hr,qfa]
  cases hf:l0.find? (λx=>x !=0) with
  | none=>rfl
  | some x=>have:=(hz.2 x hf).1;omega
def qar.f (a0 a1_0 a1_1 a1_2:Int):Option Bool:=(Zg.f a0 [a1_0,a1_1,a1_2] 3).bind λt=>if t=true then qan.f [a1_0,a1_1,a1_2] else some false
theorem qje {w:World} {b:Nat} {x y z:Int} {t:TypeId} (h:w.heap[b]? =some (.cells #[int i64 x,int i64 y,int i64 z] t (0,0))):Kd.C (Kd.int i64) w (some ⟨b,0,none⟩) 3 [x,y,z]:=by
 refine Kd.Bl (d:=(0:Int)) (h1:=λ_=>rfl) ⟨rfl,by omega,λ_=>⟨_,rfl,λj hj=>?_⟩⟩;have e:=cell_of_row w b j _ _ _ h
 rcases (show j=0\/j=1\/j=2 by omega) with rfl|rfl|rfl<;>exact e
theorem qar.calls (a0 a1_0 a1_1 a1_2:Int) (r:Bool) (w:World) (h:qar.f a0 a1_0 a1_1 a1_2=some r):
  Calls Tryz.prog 105 #[int i64 a0,.agg #[int i64 a1_0,int i64 a1_1,int i64 a1_2]] w λe w'=>e=.returned (.bool r)/\Below w.heap.size w w':=by
 have HB:=Em w;have HX:=am (qje (w:=w.alloc (.cells #[int i64 a1_0,int i64 a1_1,int i64 a1_2] 51)) (heap_alloc_last w _));obtain⟨t,ht,h⟩:=Option.bind_eq_some_iff.1 h
 cases t with
 | false=>
  rw[if_neg (by simp)]at h;obtain rfl:=Option.some.inj h;have HT:=am ht;clear ht h;go_enter Tryz.func105,Tryz.ntmps105;go_wp2_with fail;refine(Zg.calls a0 (some ⟨w.heap.size,0,none⟩) 3 [a1_0,a1_1,a1_2] 3 false _ (wC HX) (Nat.le_refl _) HT.out).mono ?_;rintro e w1 ⟨rfl,hb⟩;replace HB:=bq HB hb;clear hb;go_wp2_with fail
  go_ret
  exact⟨fq,bw HB⟩
 | true=>
  rw[if_pos rfl]at h;have HT:=am ht;have HM:=am h;clear ht h;go_enter Tryz.func105,Tryz.ntmps105;go_wp2_with fail;refine(Zg.calls a0 (some ⟨w.heap.size,0,none⟩) 3 [a1_0,a1_1,a1_2] 3 true _ (wC HX) (Nat.le_refl _) HT.out).mono ?_;rintro e w1 ⟨rfl,hb⟩;replace HX:=am (Kd.Ad (wC HX) hb);replace HB:=bq HB hb;clear hb;go_wp2_with fail;refine(qan.calls (some ⟨w.heap.size,0,none⟩) 3 [a1_0,a1_1,a1_2] r _ (wC HX) (Nat.le_refl _) HM.out).mono ?_;rintro e w2 ⟨rfl,⟨m,rfl⟩⟩;go_wp2_with fail
  go_ret
  exact⟨fq,bw HB⟩
def ap2 (k:Nat) (p:Int) (l:List S51) (i j:Nat):Nat->Nat->Option Bool
 | 0,_=>some false
 | d+1,m=>(Zo.f (qg l (i:Int)).f0.f0 (qg l (i:Int)).f0.f1 (qg l (i:Int)).f0.f2 (qg l (j:Int)).f0.f0 (qg l (j:Int)).f0.f1 (qg l (j:Int)).f0.f2).bind λc=>(j4.f k p c [(qg l (m:Int)).f0.f0,(qg l (m:Int)).f0.f1,(qg l (m:Int)).f0.f2]).bind λt=>if t=0 then some true else ap2 k p l i j d (m+1)
def ap1 (k:Nat) (p:Int) (l:List S51) (i:Nat):Nat->Nat->Option Bool
 | 0,_=>some false
 | d+1,j=>(ap2 k p l i j j 0).bind λb=>if b=true then some true else ap1 k p l i d (j+1)
def ap0 (k:Nat) (p:Int) (l:List S51):Nat->Nat->Option Bool
 | 0,_=>some true
 | d+1,i=>(qar.f p (qg l (i:Int)).f0.f0 (qg l (i:Int)).f0.f1 (qg l (i:Int)).f0.f2).bind λt=>if t=true then (ap1 k p l i i 0).bind λb=>if b=true then some false else ap0 k p l d (i+1) else some false
def Qd.f (k:Nat) (p:Int) (l:List S51):Option Bool:=if l.length<=1000000 then ap0 k p l l.length 0 else none
theorem qm6 (p:Int) (l:List S51) (i j k:Nat):∀ d m,LeO (ap2 k p l i j d m) (ap2 (k+1) p l i j d m)
 | 0,_=>LeO.refl _
 | d+1,m=>by rw[ap2,ap2];exact LeO.bind (LeO.refl _) λ_=>LeO.bind (j4.mono _ _ _ _) λ_=>LeO.ite (LeO.refl _) (qm6 p l i j k d _)
theorem qmp (p:Int) (l:List S51) (i k:Nat):∀ d j,LeO (ap1 k p l i d j) (ap1 (k+1) p l i d j)
 | 0,_=>LeO.refl _
 | d+1,j=>by rw[ap1,ap1];exact LeO.bind (qm6 _ _ _ _ _ _ _) λ_=>LeO.ite (LeO.refl _) (qmp p l i k d _)
theorem ql3 (p:Int) (l:List S51) (k:Nat):∀ d i,LeO (ap0 k p l d i) (ap0 (k+1) p l d i)
 | 0,_=>LeO.refl _
 | d+1,i=>by rw[ap0,ap0];exact LeO.bind (LeO.refl _) λ_=>LeO.ite (LeO.bind (qmp _ _ _ _ _ _) λ_=>LeO.ite (LeO.refl _) (ql3 p l k d _)) (LeO.refl _)
theorem qn8 {w:World} {b:Nat} {o:Obj} (h:w.heap[b]? =some o):b < w.heap.size:=(Array.getElem?_eq_some_iff.1 h).1
theorem qkx {w:World} {b:Nat} {o:Obj} (h:w.heap[b]? =some o) (o2:Obj):(w.alloc o2).heap[b]? =some o:=by rw[Below.heap_alloc _ _ _ (Array.getElem?_eq_some_iff.1 h).1];exact h
theorem qle {i d n:Nat} (h:i+(d+1)=n):n - (((i+1:Nat):Int)).toNat < n - ((i:Int)).toNat:=by omega
theorem Qd.mono (a0 a1 k):LeO (Qd.f k a0 a1) (Qd.f (k+1) a0 a1):=by
 unfold Qd.f;exact LeO.ite (ql3 _ _ _ _ _) (LeO.refl _)
def Qd.T12 :Bool×List (List Nat×List Nat):=(true,[([],[]),([],[]),([],[]),([1,2],[1,2]),([],[]),([4],[4]),([0,3,5,3],[0,3,5]),([6],[6])])
def Qd.B12 :List Nat:=[0,0,0,6,0,16,63,127]
def qai (x:S51):Array Value:=#[int i64 x.f0.f0,int i64 x.f0.f1,int i64 x.f0.f2]
theorem Qd.calls (k:Nat) (a0:Int) (A1:Option Addr) (c1:Nat) (l1:List S51) (r:Bool) (w:World) (hr1:Kd.C k51 w A1 l1.length l1) (hc1:l1.length<=c1) (h:Qd.f k a0 l1=some r):
  Calls Tryz.prog 65 #[int i64 a0,.slice A1 l1.length c1] w λe w'=>e=.returned (.bool r)/\Below w.heap.size w w':=by
 have HR1:=am hr1;have HC1:=am hc1;have HB:=Em w;unfold Qd.f at h
 split at h
 rotate_left
 ·exact absurd h (by simp)
 next hlen=>
 have HLEN:=am hlen;have H:=am h;clear hr1 hc1 h hlen;go_enter Tryz.func65,Tryz.ntmps65
 go_wp2
 go_loopw [13] (λv w'=>∃ d i:Nat,v=int i64 (i:Int)/\qf (i+d=l1.length)/\qf (ap0 k a0 l1 d i=some r)/\qf (Below w.heap.size w w')) (λv _=>l1.length - (intOf v).toNat)
 case atStart=>exact⟨l1.length,0,rfl,⟨by omega⟩,H,⟨bw HB⟩⟩
 case round=>
  clear H HB;obtain⟨d,i,rfl,HD,H,HB⟩:=hrel
  cases d with
  | zero=>
   have hlt:decide (i < l1.length)=false:=decide_eq_false (by have:=HD.out;omega);have hr:=H.out;rw[ap0]at hr;obtain rfl:=Option.some.inj hr;clear hr;go_wp2;go_ret
   exact⟨fq,bw HB⟩
  | succ d=>
   have hlt:decide (i < l1.length)=true:=decide_eq_true (by have:=HD.out;omega);obtain⟨t,ht,H2⟩:=Option.bind_eq_some_iff.1 (show _=some r by have:=H.out;rwa [ap0]at this);have HT:=am ht;have HN:=am H2;clear H ht H2;obtain⟨ad,e1,x0,x1,x2⟩:=Zn HR1.out (i:Int) (by omega) (by have:=HD.out;omega);have HA:=am e1;subst e1;rw[Int.toNat_natCast]at x0 x1 x2;replace x0:=wcl HB x0;replace x1:=wcl HB x1;replace x2:=wcl HB x2;have p0:(0<=(i:Int))=True:=eq_true (by omega);have q0:(i < l1.length)=True:=eq_true (by have:=HD.out;omega);generalize hX:qg l1 (i:Int)=X at*;have HX:=am hX;clear hX;go_wp2_with fail;refine(qar.calls a0 X.f0.f0 X.f0.f1 X.f0.f2 t _ HT.out).mono ?_;rintro e w1 ⟨rfl,hb⟩;have HB1:=bq HB hb;have HX1:=am ((hb.block wr.heap.size (by simp)).trans (heap_alloc_last wr (.cells (qai X) 51)));clear hb x0 x1 x2 p0 q0
   cases t with
   | false=>
    have hr:=HN.out;rw[if_neg (by simp)]at hr;obtain rfl:=Option.some.inj hr;clear hr HN HX1 HB;go_wp2_with fail
    go_ret
    exact⟨fq,bw HB1⟩
   | true=>
    obtain⟨b,hb1,hr⟩:=Option.bind_eq_some_iff.1 (show _=some r by have:=HN.out;rwa [if_pos rfl]at this);have H1:=am hb1;have H0:=am hr;clear hb1 hr HN HB;obtain⟨gi,hgi⟩:∃ g,wr.heap.size=g:=⟨_,rfl⟩
    rw[hgi]at HX1;have HGI:=am hgi;have c0:(i<=c1)=True:=eq_true (by have:=HC1.out;have:=HD.out;omega);have c2:(0<=(i:Int))=True:=eq_true (by omega);go_wp2_with fail;clear hgi
    go_loopw [26] (λv w'=>∃ d2 j:Nat,v=int i64 (j:Int)/\qf (j+d2=i)/\qf (ap1 k a0 l1 i d2 j=some b)/\qf (Below w.heap.size w w')/\qf (w'.heap[gi]? =some (.cells (qai X) 51 (0,0)))) (λv _=>i - (intOf v).toNat)
    case atStart=>exact⟨i,0,rfl,⟨by omega⟩,H1,⟨HB1.out⟩,⟨HX1.out⟩⟩
    case round=>
     clear H1 HB1 HX1;obtain⟨d2,j,rfl,HD2,H1,HB1,HX1⟩:=hrel
     cases d2 with
     | zero=>
      have hj:j=i:=by have:=HD2.out;omega
      subst hj;have hb0:=H1.out;rw[ap1]at hb0;obtain rfl:=Option.some.inj hb0;have h0:=H0.out;rw[if_neg (by simp)]at h0;have hlt2:decide (j < j)=false:=decide_eq_false (by omega);have HN:=am h0;clear hb0 h0;have hw1:wrap64 ((j:Int)+1)=((j+1:Nat):Int):=by have:=HD.out;have:=HLEN.out;unfold wrap64;omega
      go_wp2
      go_roundw
      case measure=>rw[hw1];exact qle HD.out
      case rel=>exact⟨d,j+1,by rw[hw1],⟨by have:=HD.out;omega⟩,HN,⟨bw HB1⟩⟩
     | succ d2=>
      have hlt2:decide (j < i)=true:=decide_eq_true (by have:=HD2.out;omega);obtain⟨b2,hb2,hr⟩:=Option.bind_eq_some_iff.1 (show _=some b by have:=H1.out;rwa [ap1]at this);have H2:=am hb2;have H1n:=am hr;clear H1 hb2 hr;obtain⟨ad2,e1,x0,x1,x2⟩:=Zn HR1.out (j:Int) (by omega) (by have:=HD.out;have:=HD2.out;omega);obtain rfl:=Option.some.inj e1;rw[Int.toNat_natCast]at x0 x1 x2;replace x0:=wcl HB1 x0;replace x1:=wcl HB1 x1;replace x2:=wcl HB1 x2;have p0:(0<=(j:Int))=True:=eq_true (by omega);have q0:(j < i)=True:=eq_true (by have:=HD2.out;omega);have q1:(j<=c1)=True:=eq_true (by have:=HC1.out;have:=HD.out;have:=HD2.out;omega);generalize hY:qg l1 (j:Int)=Y at*;have HY:=am hY;clear hY;go_wp2_with fail;clear x0 x1 x2 hlt2 q0 q1;have HB2:=bq HB1 (Below.refl _ (wr.alloc (.cells (qai Y) 51)));have HX2:=am (qkx HX1.out (.cells (qai Y) 51));have HY2:=am (heap_alloc_last wr (.cells (qai Y) 51));obtain⟨gj,hgj⟩:∃ g,wr.heap.size=g:=⟨_,rfl⟩
      obtain⟨w2,hw2⟩:∃ u,wr.alloc (.cells (qai Y) 51)=u:=⟨_,rfl⟩
      rw[hgj,hw2]at HY2;rw[hw2]at HB2 HX2;have e2:wr.alloc (.cells #[int i64 Y.f0.f0,int i64 Y.f0.f1,int i64 Y.f0.f2] 51)=w2:=hw2;rw[e2,hgj];have HGJ:=am hgj;have HW2:=am hw2;clear hgj hw2 e2
      go_loopw [35] (λv w'=>∃ d3 m:Nat,v=int i64 (m:Int)/\qf (m+d3=j)/\qf (ap2 k a0 l1 i j d3 m=some b2)/\qf (Below w.heap.size w w')/\qf (w'.heap[gi]? =some (.cells (qai X) 51 (0,0)))/\qf (w'.heap[gj]? =some (.cells (qai Y) 51 (0,0)))) (λv _=>j - (intOf v).toNat)
      case atStart=>exact⟨j,0,rfl,⟨by omega⟩,H2,⟨HB2.out⟩,⟨HX2.out⟩,⟨HY2.out⟩⟩
      case round=>
       clear H2 HB2 HX2 HY2 HB1 HX1;obtain⟨d3,m,rfl,HD3,H2,HB2,HX2,HY2⟩:=hrel
       cases d3 with
       | zero=>
        have hm:m=j:=by have:=HD3.out;omega
        subst hm;have hb0:=H2.out;rw[ap2]at hb0;obtain rfl:=Option.some.inj hb0;have h1:=H1n.out;rw[if_neg (by simp)]at h1;have H1':=am h1;clear hb0 h1;have hlt3:decide (m < m)=false:=decide_eq_false (by omega);have hw1:wrap64 ((m:Int)+1)=((m+1:Nat):Int):=by have:=HD.out;have:=HD2.out;have:=HLEN.out;unfold wrap64;omega
        go_wp2
        go_roundw
        case measure=>rw[hw1];exact qle HD2.out
        case rel=>exact⟨d2,m+1,by rw[hw1],⟨by have:=HD2.out;omega⟩,H1',⟨bw HB2⟩,HX2⟩
       | succ d3=>
        have hlt3:decide (m < j)=true:=decide_eq_true (by have:=HD3.out;omega);obtain⟨c,hc,hr⟩:=Option.bind_eq_some_iff.1 (show _=some b2 by have:=H2.out;rwa [ap2]at this);obtain⟨t,ht,hr⟩:=Option.bind_eq_some_iff.1 hr;rw[HX.out,HY.out]at hc;have HC:=am hc;have HDT:=am ht;have H2n:=am hr;clear H2 hc ht hr;obtain⟨ad3,e1,x0,x1,x2⟩:=Zn HR1.out (m:Int) (by omega) (by have:=HD.out;have:=HD2.out;have:=HD3.out;omega);obtain rfl:=Option.some.inj e1;rw[Int.toNat_natCast]at x0 x1 x2;replace x0:=wcl HB2 x0;replace x1:=wcl HB2 x1;replace x2:=wcl HB2 x2;have p0:(0<=(m:Int))=True:=eq_true (by omega);have q0:(m < j)=True:=eq_true (by have:=HD3.out;omega);generalize hZ:qg l1 (m:Int)=Z at*;clear hZ;clear hr e1;go_wp2_with fail;clear x0 x1 x2 hlt3 p0 q0;have HB3:=am (bq HB2 (Below.refl _ ((wr.alloc (.cells (qai Z) 51)).drew))).out;have HX3:=am (qkx HX2.out (.cells (qai Z) 51));have HY3:=am (qkx HY2.out (.cells (qai Z) 51));have HZ3:=am (heap_alloc_last wr (.cells (qai Z) 51));have e2:wr.alloc (.cells #[int i64 Z.f0.f0,int i64 Z.f0.f1,int i64 Z.f0.f2] 51)=wr.alloc (.cells (qai Z) 51):=rfl;rw[e2];clear e2;generalize wr.alloc (.cells (qai Z) 51)=w3 at HB3 HX3 HY3 HZ3 ⊢;have hS:(λw':World=>w'.cell? ⟨gi,0,none⟩=some (int i64 X.f0.f0)/\w'.cell? ⟨gi,1,none⟩=some (int i64 X.f0.f1)/\w'.cell? ⟨gi,2,none⟩=some (int i64 X.f0.f2)/\w'.cell? ⟨gj,0,none⟩=some (int i64 Y.f0.f0)/\w'.cell? ⟨gj,1,none⟩=some (int i64 Y.f0.f1)/\w'.cell? ⟨gj,2,none⟩=some (int i64 Y.f0.f2)) w3.drew:=⟨cell_of_row w3 _ 0 _ _ _ HX3.out,cell_of_row w3 _ 1 _ _ _ HX3.out,cell_of_row w3 _ 2 _ _ _ HX3.out,cell_of_row w3 _ 0 _ _ _ HY3.out,cell_of_row w3 _ 1 _ _ _ HY3.out,cell_of_row w3 _ 2 _ _ _ HY3.out⟩
        refine st (T:=Qd.T12) (B:=Qd.B12) 8 (λw':World=>w'.cell? ⟨gi,0,none⟩=some (int i64 X.f0.f0)/\w'.cell? ⟨gi,1,none⟩=some (int i64 X.f0.f1)/\w'.cell? ⟨gi,2,none⟩=some (int i64 X.f0.f2)/\w'.cell? ⟨gj,0,none⟩=some (int i64 Y.f0.f0)/\w'.cell? ⟨gj,1,none⟩=some (int i64 Y.f0.f1)/\w'.cell? ⟨gj,2,none⟩=some (int i64 Y.f0.f2)) [] (by kernel_rfl) (by kernel_rfl) hS λhHeld HT_ HW_=>?_;clear hS;refine pz 0 39 HT_ ?_;refine tk 1 40 HT_ HW_ hHeld ?_;refine tk 2 41 HT_ HW_ hHeld ?_;refine Et 4 43 5 44 HT_ ?_;refine on 3 (some 42) HT_ λK hK=>?_;refine gs_ Tryz.func73 #[.agg #[int i64 X.f0.f0,int i64 X.f0.f1,int i64 X.f0.f2],.agg #[int i64 Y.f0.f0,int i64 Y.f0.f1,int i64 Y.f0.f2]] ?_;refine(Zo.calls X.f0.f0 X.f0.f1 X.f0.f2 Y.f0.f0 Y.f0.f1 Y.f0.f2 c _ HC.out).mono ?_;rintro e w4 ⟨v0,rfl,hv,hb⟩;obtain⟨B,cb,e1⟩:=Kd.Ah hv;subst e1;have HV:=am (Kd.Ac hv);have hbk:=hb.block;have HX4:=am ((hbk gi (qn8 HX3.out)).trans HX3.out);have HY4:=am ((hbk gj (qn8 HY3.out)).trans HY3.out);have HZ4:=am ((hbk _ (qn8 HZ3.out)).trans HZ3.out);have HB4:=am (ze HB3.out hb);clear hv hb hbk;refine⟨_,rfl,?_⟩;refine hK.out _ _ ⟨cell_of_row w4 _ 0 _ _ _ HX4.out,cell_of_row w4 _ 1 _ _ _ HX4.out,cell_of_row w4 _ 2 _ _ _ HX4.out,cell_of_row w4 _ 0 _ _ _ HY4.out,cell_of_row w4 _ 1 _ _ _ HY4.out,cell_of_row w4 _ 2 _ _ _ HY4.out⟩ λhHeld=>nz ?_;clear hK K HX3 HY3 HZ3 HB3;refine on 6 (some 45) HT_ λK hK=>?_;refine gs_ Tryz.func75 #[int i64 a0,.slice B c.length cb,.slice (some ⟨wr.heap.size,0,none⟩) 3 3] ?_;refine(j4.calls k a0 B cb c (some ⟨wr.heap.size,0,none⟩) 3 [Z.f0.f0,Z.f0.f1,Z.f0.f2] t _ HV.out.2.2 HV.out.2.1 (qje HZ4.out) (Nat.le_refl _) HDT.out).mono ?_;rintro e w5 ⟨rfl,⟨m5,rfl⟩⟩;refine⟨_,rfl,?_⟩;refine hK.out _ _ hHeld λhHeld=>nz ?_;clear hK K;refine pz 7 46 HT_ ?_;refine Zh (Qe HT_.out (by kernel_rfl)) ?_;clear HT_ HW_ hHeld
        by_cases h0:t=0
        ·have hr:=H2n.out
         rw[if_pos h0]at hr;obtain rfl:=Option.some.inj hr;have hr:=H1n.out;rw[if_pos rfl]at hr;obtain rfl:=Option.some.inj hr;have hr:=H0.out;rw[if_pos rfl]at hr;obtain rfl:=Option.some.inj hr;have ht:(t == 0)=true:=by rw[h0];rfl
         clear hr h0;go_wp2_with fail
         go_ret
         exact⟨fq,bw HB4⟩
        ·have hr:=H2n.out
         rw[if_neg h0]at hr;have H2':=am hr;have ht:(t == 0)=false:=beq_eq_false_iff_ne.2 h0;clear hr h0;have hw1:wrap64 ((m:Int)+1)=((m+1:Nat):Int):=by have:=HD.out;have:=HD2.out;have:=HD3.out;have:=HLEN.out;unfold wrap64;omega
         go_wp2_with fail
         go_roundw
         case measure=>rw[hw1];exact qle HD3.out
         case rel=>exact⟨d3,m+1,by rw[hw1],⟨by have:=HD3.out;omega⟩,H2',⟨bw HB4⟩,⟨HX4.out⟩,⟨HY4.out⟩⟩
def Qc.l0 :Nat->Int->Int->Int->Int->Int->Option (Int)
 | 0,_,_,_,_,_=>none
 | k+1,x0,x1,x5,x7,x8=>if x8 < x7 then (if x1=0 then (none) else (Qc.l0 k x0 x1 (Int.tmod (wrap64 (x5*x0)) x1) x7 (wrap64 (x8+1)))) else (some x5)
def Qc.f (k:Nat) (a0:Int) (a1:Int):Option (Int):=Qc.l0 k a0 a1 1 (wrap64 (a1 - 2)) 0
theorem Qc.Ag :∀ k,(∀ y0 y1 y2 y3 y4,LeO (Qc.l0 k y0 y1 y2 y3 y4) (Qc.l0 (k+1) y0 y1 y2 y3 y4))
 | 0=>λ_ _ _ _ _ r h=>by simp[Qc.l0]at h
 | k+1=>by
  have ih0:=Qc.Ag k
  ·intro y0 y1 y2 y3 y4
   unfold Qc.l0
   repeat' with_reducible first|intro _|apply ih0|apply Eb|apply Ec|apply Ed|apply Ee
theorem Qc.mono (a0 a1 k):LeO (Qc.f k a0 a1) (Qc.f (k+1) a0 a1):=by
 have ih0:=Qc.Ag k;unfold Qc.f
 repeat' with_reducible first|intro _|apply ih0|apply Eb|apply Ec|apply Ed|apply Ee
theorem Qc.calls (k:Nat) (a0:Int) (a1:Int) (r:Int) (w:World) (h:Qc.f k a0 a1=some r):
  Calls Tryz.prog 117 #[int i64 a0,int i64 a1] w λe w'=>e=.returned (int i64 r)/\Drawn0 w w':=by
 have H:=h;unfold Qc.f at H;clear h;have H':=am H;clear H;go_enter Tryz.func117,Tryz.ntmps117
 go_wp2
 go_loopg [5,8] k (λkq v5 v8 w'=>∃ (x5_1:Int) (x8_1:Int),v5=int i64 x5_1/\v8=int i64 x8_1/\qf (Qc.l0 kq a0 a1 x5_1 (wrap64 (a1 - 2)) x8_1=some r)/\qf (kq<=k)/\Drawn0 w w')
 case atStart=>exact⟨(1),(0),fr,fr,H',⟨Nat.le_refl _⟩,df⟩
 case round=>
  clear H';try clear c1;try clear p2
  obtain⟨x5_1,x8_1,rfl,rfl,HA,HK1,⟨m1,rfl⟩⟩:=hrel
  cases gk with
  | zero=>exact absurd HA.out (by simp[Qc.l0])
  | succ k1=>
   have H:=HA.out;clear HA;simp only[Qc.l0]at H;replace H:=Eg H;rcases H with ⟨c3b0,H⟩|⟨c3b0,H⟩
   ·replace H:=ifm H;obtain⟨c4,H⟩:=H;have c4b0:=beq_eq_false_iff_ne.mpr c4;have c4b1:=bne_iff_ne.mpr c4;have H':=am H;clear H;go_wp2
    go_roundg k1
    case measure=>have:=HK1.out;omega
    case rel=>exact⟨(Int.tmod (wrap64 (x5_1*a0)) a1),(wrap64 (x8_1+1)),fr,fr,H',⟨by have:=HK1.out;omega⟩,df⟩
   ·obtain rfl:=Option.some.inj H;go_wp2;go_ret
    exact⟨fr,df⟩
end Go.Proofs.YtmgbpmihbljngaaGreat.PA
