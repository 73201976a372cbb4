-- Written by xprint.py, a program of this claim's own (over the kit's print.py)
import Derived.Test.YtmgbpmihbljngaaPAx29
namespace Go.Proofs.Ytmgbpmihbljngaa.PA
open Go.RowKit Go.Proofs.YtmgbpmihbljngaaW.PrintWords Go.Proofs.YtmgbpmihbljngaaW.PrintLast Go.Proofs.YtmgbpmihbljngaaW.PrintMore
attribute [local go_sem] Qg Qj Qp Qo j4 j3 Qh Qf
set_option linter.unusedVariables false
set_option linter.unusedSimpArgs false
mutual
def laws_FnWhole.j0 :Nat→Int→List Int→List Int→Bool→Bool→Bool→Option (Bool)
 | 0,_,_,_,_,_,_=>none
 | k+1,x3,x4,x5,x6,x7,x35=>if x35=true then (some (x6 == x7)) else (laws_FnWhole.l0 k x3 x4 x5 (([]:List Int)) 0)
def laws_FnWhole.l0 :Nat→Int→List Int→List Int→List Int→Int→Option (Bool)
 | 0,_,_,_,_,_=>none
 | k+1,x3,x4,x5,x8,x9=>if x9 < (x4.length:Int) then (if 0≤x9 then (if x3=0 then (none) else (if x8.length < 17592186044416 then (laws_FnWhole.l0 k x3 x4 x5 (x8++[Int.tmod (wrap64 (2*(rd x4 x9))) x3]) (wrap64 (x9+1))) else (none))) else (none)) else ((some (([]:List Int):List Int)).bind fun y789=>(if 4≤(x5.length:Int) then ((some (x5.drop 4:List Int)).bind fun y792=>(if y789.length+y792.length < 17592186044416 then ((j7.f k x3 x4 (y789++y792)).bind fun bt799=>(if bt799.2=true then (if bt799.1=0 then ((qo.f k x3 x8 x5).bind fun t801=>(some t801)) else (some false)) else (some false))) else (none))) else (none)))
end
def laws_FnWhole.f (k:Nat) (l0:List Int):Option (Bool):=if (l0.length:Int)>1048576 then (some true) else ((qr.f k l0).bind fun bt773=>((qo.f k bt773.1 bt773.2.1 bt773.2.2).bind fun t780=>((qg.f k bt773.1 bt773.2.1 bt773.2.2).bind fun t781=>(if (t780 !=t781)=true then (laws_FnWhole.j0 k bt773.1 bt773.2.1 bt773.2.2 t780 t781 true) else (laws_FnWhole.j0 k bt773.1 bt773.2.1 bt773.2.2 t780 t781 (!t780))))))
theorem laws_FnWhole.mono_l :∀ k,(∀ y0 y1 y2 y3 y4 y5,LeO (laws_FnWhole.j0 k y0 y1 y2 y3 y4 y5) (laws_FnWhole.j0 (k+1) y0 y1 y2 y3 y4 y5))∧(∀ y0 y1 y2 y3 y4,LeO (laws_FnWhole.l0 k y0 y1 y2 y3 y4) (laws_FnWhole.l0 (k+1) y0 y1 y2 y3 y4))
 | 0=>⟨fun _ _ _ _ _ _ r h=>by simp[laws_FnWhole.j0]at h,fun _ _ _ _ _ r h=>by simp[laws_FnWhole.l0]at h⟩
 | k+1=>by
  obtain⟨ih0,ih1⟩:=laws_FnWhole.mono_l k
  refine⟨?_,?_⟩
  ·intro y0 y1 y2 y3 y4 y5
   unfold laws_FnWhole.j0
   repeat' first | (with_reducible first | apply ih0 | apply ih1 | apply j7.mono | apply qo.mono | apply qr.mono | apply qg.mono | exact LeO.refl _ | exact LeO.none _ | refine LeO.ite ?_ ?_ | refine LeO.bind ?_ (fun _=>?_)) | (first | apply ih0 | apply ih1 | apply j7.mono | apply qo.mono | apply qr.mono | apply qg.mono | exact LeO.none _ | refine LeO.ite ?_ ?_ | refine LeO.bind ?_ (fun _=>?_))
  ·intro y0 y1 y2 y3 y4
   unfold laws_FnWhole.l0
   repeat' first | (with_reducible first | apply ih0 | apply ih1 | apply j7.mono | apply qo.mono | apply qr.mono | apply qg.mono | exact LeO.refl _ | exact LeO.none _ | refine LeO.ite ?_ ?_ | refine LeO.bind ?_ (fun _=>?_)) | (first | apply ih0 | apply ih1 | apply j7.mono | apply qo.mono | apply qr.mono | apply qg.mono | exact LeO.none _ | refine LeO.ite ?_ ?_ | refine LeO.bind ?_ (fun _=>?_))
theorem laws_FnWhole.mono :∀ a0 k,LeO (laws_FnWhole.f k a0) (laws_FnWhole.f (k+1) a0):=by
 intro a0 k
 obtain⟨ih0,ih1⟩:=laws_FnWhole.mono_l k
 unfold laws_FnWhole.f
 repeat' first | (with_reducible first | apply ih0 | apply ih1 | apply j7.mono | apply qo.mono | apply qr.mono | apply qg.mono | exact LeO.refl _ | exact LeO.none _ | refine LeO.ite ?_ ?_ | refine LeO.bind ?_ (fun _=>?_)) | (first | apply ih0 | apply ih1 | apply j7.mono | apply qo.mono | apply qr.mono | apply qg.mono | exact LeO.none _ | refine LeO.ite ?_ ?_ | refine LeO.bind ?_ (fun _=>?_))
set_option maxHeartbeats 8000000 in
set_option maxRecDepth 100000 in
theorem laws_FnWhole.calls (k:Nat) (A0:Option Addr) (c0:Nat) (l0:List Int) (r:Bool) (w:World) (hr0:Kd.C (Kd.int .u8) w A0 l0.length l0) (hc0:l0.length≤c0) (hT:r=true) (h:laws_FnWhole.f k l0=some r):
  Calls Try.prog 11 #[.slice A0 l0.length c0] w fun e w'=>e=.returned (.bool r)∧Below w.heap.size w w':=by
 have HT:=am hT
 clear hT
 have HR0:=am hr0
 have HC0:=am hc0
 clear hr0 hc0
 have HB:=am (Below.refl w.heap.size w)
 have H:(if (l0.length:Int)>1048576 then (some true) else ((qr.f k l0).bind fun bt773=>((qo.f k bt773.1 bt773.2.1 bt773.2.2).bind fun t780=>((qg.f k bt773.1 bt773.2.1 bt773.2.2).bind fun t781=>(if (t780 !=t781)=true then (laws_FnWhole.j0 k bt773.1 bt773.2.1 bt773.2.2 t780 t781 true) else (laws_FnWhole.j0 k bt773.1 bt773.2.1 bt773.2.2 t780 t781 (!t780)))))))=some r:=h
 clear h
 by_cases c2:(l0.length:Int)>1048576
 ·rw[if_pos c2]at H
  have c2b0:=decide_eq_true c2
  have c2b1:decide (1048576 < l0.length)=true:=decide_eq_true (by omega)
  clear c2;obtain rfl:=Option.some.inj H
  go_enter Try.func11,Try.ntmps11
  go_wp2;go_ret
  exact⟨fq,bw HB⟩
 ·rw [if_neg c2] at H
  have c2b0:=decide_eq_false c2
  have c2b1:decide (1048576 < l0.length)=false:=decide_eq_false (by omega)
  clear c2;replace H:=bs H
  obtain⟨⟨t773,t774,t777⟩,A3,H⟩:=H
  dsimp only at H
  replace H:=bs H;obtain⟨t780,A4,H⟩:=H;replace H:=bs H;obtain⟨t781,A5,H⟩:=H
  have HC6:=am H
  clear H
  go_enter Try.func11,Try.ntmps11
  go_upto_region 6 with (first | ((with_reducible refine qe (f:=44) rfl ?_);refine gl 17 Try.func44 #[.slice A0 l0.length c0] ?_;(with_reducible refine(qr.calls k _ _ l0 t773 t774 t777 _ ?_ ?_ A3.out).mono ?_);exact wC HR0;exact HC0.out;rintro e w7 ⟨v775,v778,rfl,ho0,ho1,hb⟩;refine⟨_,rfl,?_⟩;have HO776:=am (Kd.V_lower (Kd.V_mono (ok':=fun k_=>some k_≠(v778:Value).ownBlock) ho0 (fun k_ hk_=>hk_.2)) (bz HB));have HO779:=am (Kd.R_lower (Kd.R_mono (ok':=fun k_=>True) ho1 (fun _ hk_=>trivial)) (bz HB));replace HB:=bq HB hb;(try clear hb);(try clear ho0);(try clear ho1);obtain⟨Ao8,co8,eo8⟩:=Kd.V_slice HO776.out;subst eo8;obtain⟨Ao9,co9,eo9⟩:=Kd.R_slice HO779.out;subst eo9) | ((with_reducible refine qe (f:=45) rfl ?_);refine gl 24 Try.func45 #[.int .i64 t773,.slice Ao8 t774.length co8,.slice Ao9 t777.length co9] ?_;(with_reducible refine(qo.calls k t773 _ _ t774 _ _ t777 t780 _ ?_ ?_ ?_ ?_ A4.out).mono ?_);exact Kd.C_below (Kd.V_reads' HO776.out).2.2 gs;exact(Kd.V_reads' HO776.out).2.1;exact Kd.C_below (Kd.R_reads' HO779.out).2.2 gs;exact(Kd.R_reads' HO779.out).2.1;rintro e w10 ⟨rfl,hb⟩;refine⟨_,rfl,?_⟩;replace HO776:=am (Kd.V_below (wV HO776) hb);replace HO779:=am (Kd.R_below (wR HO779) hb);replace HB:=bq HB hb;(try clear hb)) | ((with_reducible refine qe (f:=46) rfl ?_);refine gl 28 Try.func46 #[.int .i64 t773,.slice Ao8 t774.length co8,.slice Ao9 t777.length co9] ?_;(with_reducible refine(qg.calls k t773 _ _ t774 _ _ t777 t781 _ ?_ ?_ ?_ ?_ A5.out).mono ?_);exact Kd.C_below (Kd.V_reads' HO776.out).2.2 gs;exact(Kd.V_reads' HO776.out).2.1;exact Kd.C_below (Kd.R_reads' HO779.out).2.2 gs;exact(Kd.R_reads' HO779.out).2.1;rintro e w11 ⟨rfl,hb⟩;refine⟨_,rfl,?_⟩;replace HO776:=am (Kd.V_below (wV HO776) hb);replace HO779:=am (Kd.R_below (wR HO779) hb);replace HB:=bq HB hb;(try clear hb)))
  (try simp only[Act.put,List.setIfInBounds_toArray,List.set_cons_zero,List.set_cons_succ])
  go_cut [35] (fun v35 wc=>∃ (kq:Nat) (x35_5:Bool),v35=.bool x35_5∧qa (laws_FnWhole.j0 kq t773 t774 t777 t780 t781 x35_5=some r)∧qa (kq≤k)∧qa (Kd.V (Kd.int .i64) 3 wc w.heap.size (fun k_=>some k_≠((.slice Ao9 t777.length co9):Value).ownBlock) (.slice Ao8 t774.length co8) t774)∧qa (Kd.R (Kd.int .i64) 3 wc w.heap.size (fun _=>True) (.slice Ao9 t777.length co9) t777)∧qa (Below w.heap.size w wc))
  case first=>
   have H:=HC6.out
   clear HC6
   by_cases c12:(t780 !=t781)=true
   ·rw[if_pos c12]at H
    have c12b0:(t780 !=t781)=true:=c12
    (try (have c12b1:decide (t780=t781)=false:=by simpa using c12))
    (try (have c12b2:(t780 == t781)=false:=by simpa using c12))
    (try (have c12b3:¬ (t780=t781):=by simpa using c12))
    clear c12
    (first | rw[c12b0] | (simp only[Z7,J6];rw[c12b0]) | skip)
    have H':=am H;clear H;go_wp2
    go_meet
    case rel=>exact⟨_,(true),fr,H',⟨by first | omega | exact Nat.le_refl _⟩,⟨wV HO776⟩,⟨wR HO779⟩,⟨bw HB⟩⟩
   ·rw[if_neg c12]at H
    have c12b0:(t780 !=t781)=false:=by simpa using c12
    (try (have c12b1:decide (t780=t781)=true:=by simpa using c12))
    (try (have c12b2:(t780 == t781)=true:=by simpa using c12))
    clear c12
    (first | rw[c12b0] | (simp only[Z7,J6];rw[c12b0]) | skip)
    have H':=am H;clear H;go_wp2
    go_meet
    case rel=>exact⟨_,(!t780),fr,H',⟨by first | omega | exact Nat.le_refl _⟩,⟨wV HO776⟩,⟨wR HO779⟩,⟨bw HB⟩⟩
  case rest=>
   clear HC6;try clear c1;try clear c2;try clear c2b0;try clear c2b1;try clear p2;try clear c4;try clear c11;try clear c12;try clear c12b0;try clear c12b1;try clear c12b2
   obtain⟨kq,x35_5,rfl,HA,HJ5,HO_4,HO_5,HB⟩:=hcut
   cases kq with
   | zero=>exact absurd HA.out (by simp[laws_FnWhole.j0])
   | succ kj5=>
    have H:=HA.out;clear HA
    simp only[laws_FnWhole.j0]at H
    by_cases c13:x35_5=true
    ·subst c13
     rw[if_pos rfl]at H
     obtain rfl:=Option.some.inj H;go_wp2;go_ret
     exact⟨fq,bw HB⟩
    ·replace c13:=Bool.eq_false_iff.mpr c13
     subst c13
     rw[if_neg (show ¬ (false=true) by decide)]at H
     generalize hy782:(([]:List Int))=y782 at H
     have Ny782:=am hy782.symm;clear hy782;have H':=am H;clear H
     go_wp2_with (first | ((with_reducible refine q7 (N:=39) rfl ?_);refine li 3 ([]:List Int) ?_;intro v783 w14 ho15 hb;(first | rw[← Ny782.out]at ho15 | (simp only[Int.reduceToNat]at ho15;rw[← Ny782.out]at ho15));replace HO_4:=eV HO_4 (Kd.R_base ho15) hb;have HO784:=am (Kd.R_lower (Kd.R_new' ho15 (Kd.R_lt (wR HO_5))) (bz HB));replace HO_5:=eR HO_5 (Kd.R_base ho15) hb;replace HB:=bq HB hb;clear hb ho15))
     go_loopg [8,9] kj5 (fun kq v8 v9 w'=>∃ (x8_2:List Int) (x9_2:Int),v9=.int .i64 x9_2∧qa (laws_FnWhole.l0 kq t773 t774 t777 x8_2 x9_2=some r)∧qa (kq≤kj5)∧qa (Kd.V (Kd.int .i64) 3 w' w.heap.size (fun k_=>some k_≠((.slice Ao9 t777.length co9):Value).ownBlock∧some k_≠(v8:Value).ownBlock) (.slice Ao8 t774.length co8) t774)∧qa (Kd.R (Kd.int .i64) 3 w' w.heap.size (fun k_=>some k_≠(v8:Value).ownBlock) (.slice Ao9 t777.length co9) t777)∧qa (Kd.R (Kd.int .i64) 3 w' w.heap.size (fun k_=>some k_≠((.slice Ao9 t777.length co9):Value).ownBlock) v8 x8_2)∧qa (Below w.heap.size w w'))
     case atStart=>exact⟨(y782),(0),fr,H',⟨Nat.le_refl _⟩,⟨wV HO_4⟩,⟨Kd.R_below (Kd.R_mono HO_5.out (fun _ hk=>hk.2)) gs⟩,⟨Kd.R_below (Kd.R_mono HO784.out (fun _ hk=>hk.2)) gs⟩,⟨bw HB⟩⟩
     case round=>
      clear H';try clear c1;try clear c2;try clear c2b0;try clear c2b1;try clear p2;try clear c4;try clear c11;try clear c12;try clear c12b0;try clear c12b1;try clear c12b2;try clear c13;try clear p2
      obtain⟨x8_2,x9_2,rfl,HA,HK2,HO_4,HO_5,HO_8,HB⟩:=hrel
      cases gk with
      | zero=>exact absurd HA.out (by simp[laws_FnWhole.l0])
      | succ k2=>
       have H:=HA.out;clear HA
       simp only[laws_FnWhole.l0]at H
       by_cases c16:x9_2 < (t774.length:Int)
       ·rw[if_pos c16]at H
        have c16b0:=decide_eq_true c16;clear c16;replace H:=ifn H;obtain⟨c17,H⟩:=H;have c17b0:=decide_eq_true c17;clear c17;replace H:=ifm H;obtain⟨c18,H⟩:=H;have c18b0:=beq_eq_false_iff_ne.mpr c18;have c18b1:=bne_iff_ne.mpr c18
        replace H:=ifn H;obtain⟨c19,H⟩:=H;have LMc19:=am c19;clear c19
        generalize hy786:(x8_2++[Int.tmod (wrap64 (2*(rd t774 x9_2))) t773]:List Int)=y786 at H
        have Ny786:=am hy786.symm;clear hy786;have H':=am H;clear H
        have p785:0≤(x9_2:Int):=od
        have q785:x9_2 < (t774.length:Int):=od
        obtain⟨ad785,e785,hx785_0⟩:=Kd.at_int (Kd.V_reads' HO_4.out).2.2 x9_2 p785 q785
        cases e785;replace p785:=eq_true p785;replace q785:=eq_true q785
        go_wp2_with (first | ((with_reducible refine ji (b:=.append) (xs:=#[.tmp 46,.tmp 54]) rfl ?_);at_builtin;refine Kd.R_append (Kd.int .i64) (w0:=w) w.heap.size rfl (.tmp 46) (.tmp 54) 23 3 (.int .i64 0) 8 rfl Try.underlying23 Q1 rfl (by decide) (by omega) u8 x8_2 (Int.tmod (wrap64 (2*(rd t774 x9_2))) t773) [.int .i64 (Int.tmod (wrap64 (2*(rd t774 x9_2))) t773)] (fun k_=>some k_≠(.slice Ao9 t777.length co9:Value).ownBlock) (fun _=>False) rfl rfl ?aP (fun _ hk=>hk.elim) ?aF ?aO ?aB ?aS ?aL ?_;(case aP=>exact rfl);(case aB=>exact(bw HB));(case aF=>exact(fun k_ hk=>Kd.fresh' (Kd.R_lt (wR HO_5)) k_ hk));(case aO=>exact(wR HO_8));(case aS=>exact(bz HB));(case aL=>have:=LMc19.out;omega);intro v787 w20 ho hb hg hat;rw[← Ny786.out]at ho;replace HO_4:=am (Kd.V_afterv (ok:=(fun k_=>some k_≠(.slice Ao9 t777.length co9:Value).ownBlock)) (wV HO_4) hg hat);replace HO_5:=am (Kd.R_after (ok:=(fun _=>True)) (oR_ HO_5 (fun _ hk=>⟨trivial,hk⟩)) hg hat);replace HB:=am (hb);have HO788:=am (ho);clear HO_8;clear ho hb hg hat))
        go_roundg k2
        case measure=>have:=HJ5.out;have:=HK2.out;omega
        case rel=>exact⟨(y786),(wrap64 (x9_2+1)),fr,H',⟨by have:=HJ5.out;have:=HK2.out;omega⟩,⟨wV HO_4⟩,⟨Kd.R_below (Kd.R_mono HO_5.out (fun _ hk=>hk.2)) gs⟩,⟨wR HO788⟩,⟨bw HB⟩⟩
       ·rw [if_neg c16] at H
        have c16b0:=decide_eq_false c16;clear c16;replace H:=bsy H;obtain⟨y789,Ny789,H⟩:=H
        by_cases c21:4≤(t777.length:Int)
        ·rw[if_pos c21]at H
         have c21b0:=eq_true c21;have c21b1:=decide_eq_true c21;clear c21;replace H:=bsy H;obtain⟨y792,Ny792,H⟩:=H;replace H:=ifn H;obtain⟨c22,H⟩:=H;have LMc22:=am c22;clear c22
         generalize hy796:(y789++y792:List Int)=y796 at H
         have Ny796:=am hy796.symm;clear hy796;replace H:=bs H
         obtain⟨⟨t799,t800⟩,A23,H⟩:=H
         dsimp only at H
         by_cases c24:t800=true
         ·subst c24
          rw[if_pos rfl]at H
          by_cases c25:t799=0
          ·rw[if_pos c25]at H
           have c25b0:=beq_iff_eq.mpr c25;have c25b1:=bne_eq_false_iff_eq.mpr c25;clear c25;replace H:=bs H;obtain⟨t801,A26,H⟩:=H;obtain rfl:=Option.some.inj H
           go_wp2_with (first | ((with_reducible refine q7 (N:=59) rfl ?_);refine li 3 ([]:List Int) ?_;intro v790 w27 ho28 hb;(first | rw[← Ny789.out]at ho28 | (simp only[Int.reduceToNat]at ho28;rw[← Ny789.out]at ho28));replace HO_4:=eV HO_4 (Kd.R_base ho28) hb;have HO791:=am (Kd.R_lower (Kd.R_new' (Kd.R_new' ho28 (Kd.R_lt (wR HO_5))) (Kd.R_lt (wR HO_8))) (bz HB));replace HO_5:=eR HO_5 (Kd.R_base ho28) hb;replace HO_8:=eR HO_8 (Kd.R_base ho28) hb;replace HB:=bq HB hb;clear hb ho28;have q29:(4:Int)≤((t777.length:Int):Int):=od;obtain⟨i029,hi029,_,hsz29,_⟩:=info_parts Q1;have hroom29:t777.length≤co9:=(Kd.R_reads' HO_5.out).2.1;have hC29:Kd.C (Kd.int .i64) _ Ao9 t777.length t777:=(Kd.R_reads' HO_5.out).2.2;have hcut29:=qh8 (P:=Try.prog) 23 3 .i64 Try.underlying23 hi029 1 hsz29 Ao9 t777.length co9 4 (by omega) q29;have hr29:=Kd.C_drop (m:=(4:Int).toNat) (c:=co9) hC29 (by omega) hroom29;obtain⟨A29,hA29⟩:∃ Az_,Az_=(if co9=(4:Int).toNat then Ao9 else (Ao9:Option Addr).map (·.add ((4:Int).toNat*1))):=⟨_,rfl⟩;obtain⟨c29,hc29⟩:∃ cz_,cz_=co9 - (4:Int).toNat:=⟨_,rfl⟩;have hy29:y792.length=t777.length - (4:Int).toNat:=(by rw[Ny792.out,List.length_drop]<;>omega);rw[show (t777).drop (4:Int).toNat=y792 from Ny792.out.symm]at hr29;replace hr29:Kd.C (Kd.int .i64) _ A29 y792.length y792:=(by rw[hA29];exact hr29);rw[← hy29,← hA29,← hc29]at hcut29;have HR795:=am hr29;have HC795:=am (show y792.length≤c29 from by rw[hy29,hc29];exact Nat.sub_le_sub_right hroom29 _);clear hr29 hC29 hroom29 hi029 hsz29 hc29;have KY29:=am hy29;have KA29:=am hA29;clear hy29 hA29;have KL29:=am (show 4≤t777.length from by omega);replace q29:=eq_true q29) | ((with_reducible refine ji (b:=.append) (xs:=#[.tmp 59,.tmp 61]) rfl ?_);at_builtin;refine Kd.R_append_rows (Kd.int .i64) (w0:=w) w.heap.size rfl (.tmp 59) (.tmp 61) 23 3 (.int .i64 0) 8 rfl Try.underlying23 Q1 rfl (by decide) (by omega) v790 y789 y792 _ _ _ (fun k_=>some k_≠(.slice Ao9 t777.length co9:Value).ownBlock∧some k_≠(u8:Value).ownBlock) (fun _=>False) rfl rfl ?aO ?aR (fun _ _ h=>h) (fun _ h=>h.elim) ?aF ?aB ?aS ?aL ?_;(case aR=>exact wC HR795);(case aB=>exact(bw HB));(case aF=>exact(fun k_ hk=>⟨Kd.fresh' (Kd.R_lt (wR HO_5)) k_ hk,Kd.fresh' (Kd.R_lt (wR HO_8)) k_ hk⟩));(case aO=>exact(oR_ HO791 (fun _ hk=>⟨hk.1.2,hk.2⟩)));(case aS=>exact(bz HB));(case aL=>have:=LMc22.out;omega);intro v797 w30 ho hb hg hat;rw[← Ny796.out]at ho;replace HO_4:=am (Kd.V_afterv (ok:=(fun k_=>some k_≠(.slice Ao9 t777.length co9:Value).ownBlock∧some k_≠(u8:Value).ownBlock)) (wV HO_4) hg hat);replace HO_8:=am (Kd.R_after (ok:=(fun k_=>some k_≠(.slice Ao9 t777.length co9:Value).ownBlock)) (wR HO_8) hg hat);replace HB:=am (hb);replace HR795:=am ((show Kd.C (Kd.int .i64) w30 A29 y792.length y792 from by rw[Ny792.out,KA29.out];exact Kd.C_drop (m:=4) (c:=co9) ((Kd.R_reads' (Kd.R_after (ok:=(fun k_=>some k_≠(u8:Value).ownBlock)) (wR HO_5) hg hat)).2.2) KL29.out ((Kd.R_reads' (Kd.R_after (ok:=(fun k_=>some k_≠(u8:Value).ownBlock)) (wR HO_5) hg hat)).2.1)));replace HO_5:=am (Kd.R_after (ok:=(fun k_=>some k_≠(u8:Value).ownBlock)) (wR HO_5) hg hat);have HO798:=am (ho);clear HO791;clear ho hb hg hat;obtain⟨Ao31,co31,eo31⟩:=Kd.R_slice HO798.out;subst eo31) | ((with_reducible refine qe (f:=41) rfl ?_);refine gl 63 Try.func41 #[.int .i64 t773,.slice Ao8 t774.length co8,.slice Ao31 y796.length co31] ?_;(with_reducible refine(j7.calls k2 t773 _ _ t774 _ _ y796 t799 true _ ?_ ?_ ?_ ?_ A23.out).mono ?_);exact Kd.C_below (Kd.V_reads' HO_4.out).2.2 gs;exact(Kd.V_reads' HO_4.out).2.1;exact Kd.C_below (Kd.R_reads' HO798.out).2.2 gs;exact(Kd.R_reads' HO798.out).2.1;rintro e w32 ⟨rfl,hb⟩;refine⟨_,rfl,?_⟩;replace HO_4:=am (Kd.V_below (wV HO_4) hb);replace HO_5:=am (Kd.R_below (wR HO_5) hb);replace HO_8:=am (Kd.R_below (wR HO_8) hb);replace HO798:=am (Kd.R_below (wR HO798) hb);replace HR795:=am (Kd.C_below (wC HR795) hb);replace HB:=bq HB hb;(try clear hb);obtain⟨Ao33,co33,eo33⟩:=Kd.R_slice HO_8.out;subst eo33) | (go_at_call 45;(with_reducible refine(qo.calls k2 t773 _ _ x8_2 _ _ t777 t801 _ ?_ ?_ ?_ ?_ A26.out).mono ?_);exact Kd.C_below (Kd.R_reads' HO_8.out).2.2 gs;exact(Kd.R_reads' HO_8.out).2.1;exact Kd.C_below (Kd.R_reads' HO_5.out).2.2 gs;exact(Kd.R_reads' HO_5.out).2.1;rintro e w34 ⟨rfl,hb⟩;replace HO_4:=am (Kd.V_below (wV HO_4) hb);replace HO_5:=am (Kd.R_below (wR HO_5) hb);replace HO_8:=am (Kd.R_below (wR HO_8) hb);replace HO798:=am (Kd.R_below (wR HO798) hb);replace HR795:=am (Kd.C_below (wC HR795) hb);replace HB:=bq HB hb;(try clear hb)))
           go_ret
           exact⟨fq,bw HB⟩
          ·rw[if_neg c25]at H
           have c25b0:=beq_eq_false_iff_ne.mpr c25;have c25b1:=bne_iff_ne.mpr c25
           exact absurd (H.trans (congrArg some HT.out)) (by simp)
         ·replace c24:=Bool.eq_false_iff.mpr c24
          subst c24
          rw[if_neg (show ¬ (false=true) by decide)]at H
          exact absurd (H.trans (congrArg some HT.out)) (by simp)
        ·rw[if_neg c21]at H
         exact absurd H (by simp)
def laws_FnWhole.Pure :Prop:=∀ (l0:List Int),l0.length≤maxLen→l0.length*1≤140737488351232→(∀ x∈l0,(Lit.int .u8 x).wf=true)→∃ k,laws_FnWhole.f k l0=some true
theorem laws_FnWhole.walk (P:laws_FnWhole.Pure) (a0:Option Addr) (len0 cap0:Nat) (z0:List Int) (w:World) (w0:(a0=none∧len0=0∧cap0=0∧z0=[])∨∃ x,a0=some x∧len0≤cap0∧cap0≤maxLen∧z0.length=cap0∧(∀ i,i < z0.length→w.cell? (x.add i)=some (.int .u8 (z0.getD i 0)))∧∀ n∈z0,(Lit.int .u8 n).wf=true) (y0:len0*1≤140737488351232):
  Calls Try.prog 11 #[.slice a0 len0 cap0] w fun e w'=>e=.returned (.bool true)∧Below w.heap.size w w':=by
 obtain⟨l0,rfl,hr0,hm0,hw0,hc0⟩:=ReadsInt.ofRowC w0
 obtain⟨k,h⟩:=P l0 hm0 y0 hw0
 refine(laws_FnWhole.calls k _ _ l0 true w (Kd.C_of_reads (d:=(0:Int)) (h1:=fun _=>rfl) hr0) hc0 rfl h).mono ?_
 rintro e w' ⟨rfl,hd⟩
 exact⟨rfl,hd⟩
end Go.Proofs.Ytmgbpmihbljngaa.PA
