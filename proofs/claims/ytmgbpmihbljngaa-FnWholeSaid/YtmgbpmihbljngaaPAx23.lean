-- Written by xprint.py, a program of this claim's own (over the kit's print.py)
import Derived.Test.YtmgbpmihbljngaaPAx22
namespace Go.Proofs.Ytmgbpmihbljngaa.PA
set_option maxHeartbeats 8000000
set_option maxRecDepth 100000
open Go.RowKit Go.Proofs.YtmgbpmihbljngaaW.PrintWords Go.Proofs.YtmgbpmihbljngaaW.PrintLast Go.Proofs.YtmgbpmihbljngaaW.PrintMore
attribute [local go_sem] Qg Qj Qp Qo j4 j3 Qh Qf
set_option linter.unusedVariables false
set_option linter.unusedSimpArgs false
def js.f (k:Nat) (a0:Int) (l1:List Int) (l2:List Int):Option (List Int×Bool):=(Qe.f k a0 l1).bind fun t617=>(if t617=true then ((Qe.f k a0 l2).bind fun t618=>(if t618=true then ((Qa.f k a0 (([l1,l2]:List (List Int)))).bind fun bt622=>(some (bt622.1,bt622.2))) else (some ((([]:List Int)),false)))) else (some ((([]:List Int)),false)))
theorem js.mono :∀ a0 a1 a2 k,LeO (js.f k a0 a1 a2) (js.f (k+1) a0 a1 a2):=by
 intro a0 a1 a2 k
 unfold js.f
 repeat' first | (with_reducible first | apply Qe.mono | apply Qa.mono | exact LeO.refl _ | exact LeO.none _ | refine LeO.ite ?_ ?_ | refine LeO.bind ?_ (fun _=>?_)) | (first | apply Qe.mono | apply Qa.mono | exact LeO.none _ | refine LeO.ite ?_ ?_ | refine LeO.bind ?_ (fun _=>?_))
theorem js.calls (k:Nat) (a0:Int) (P1_:Nat→Prop) (A1:Option Addr) (c1:Nat) (l1:List Int) (P2_:Nat→Prop) (A2:Option Addr) (c2:Nat) (l2:List Int) (r1:List Int) (r2:Bool) (w:World) (hs1:Kd.V (Kd.int .i64) 3 w w.heap.size (fun k_=>P1_ k_) (.slice A1 l1.length c1) l1) (hs2:Kd.V (Kd.int .i64) 3 w w.heap.size (fun k_=>P2_ k_) (.slice A2 l2.length c2) l2) (h:js.f k a0 l1 l2=some (r1,r2)):
  Calls Try.prog 147 #[.int .i64 a0,.slice A1 l1.length c1,.slice A2 l2.length c2] w fun e w'=>∃ v0_:Value,e=.returned (.tuple #[v0_,.bool r2])∧Kd.R (Kd.int .i64) 3 w' w.heap.size (fun k_=>(w.heap.size≤k_)) v0_ r1∧Below w.heap.size w w':=by
 have HO1:=am (show Kd.V (Kd.int .i64) 3 w w.heap.size (fun k_=>((P1_ k_∨P2_ k_)∨w.heap.size≤k_)) (.slice A1 l1.length c1) l1 from Kd.V_mono hs1 (fun k_ hk=>.inl (.inl hk)))
 have HO2:=am (show Kd.V (Kd.int .i64) 3 w w.heap.size (fun k_=>((P1_ k_∨P2_ k_)∨w.heap.size≤k_)) (.slice A2 l2.length c2) l2 from Kd.V_mono hs2 (fun k_ hk=>.inl (.inr hk)))
 have HB:=am (Below.refl w.heap.size w)
 have H:((Qe.f k a0 l1).bind fun t617=>(if t617=true then ((Qe.f k a0 l2).bind fun t618=>(if t618=true then ((Qa.f k a0 (([l1,l2]:List (List Int)))).bind fun bt622=>(some (bt622.1,bt622.2))) else (some ((([]:List Int)),false)))) else (some ((([]:List Int)),false))))=some (r1,r2):=h
 clear h;replace H:=bs H;obtain⟨t617,A4,H⟩:=H
 by_cases c5:t617=true
 ·subst c5
  rw[if_pos rfl]at H
  replace H:=bs H;obtain⟨t618,A6,H⟩:=H
  by_cases c7:t618=true
  ·subst c7
   rw[if_pos rfl]at H
   generalize hy619:(([l1,l2]:List (List Int)))=y619 at H
   have Ny619:=am hy619.symm;clear hy619;replace H:=bs H
   obtain⟨⟨t622,t623⟩,A8,H⟩:=H
   dsimp only at H
   simp only[Option.some.injEq,Prod.mk.injEq]at H
   obtain⟨rfl,rfl⟩:=H
   go_enter Try.func147,Try.ntmps147
   go_wp2_with (first | ((with_reducible refine qe (f:=84) rfl ?_);refine gl 10 Try.func84 #[.int .i64 a0,.slice A1 l1.length c1] ?_;(with_reducible refine(Qe.calls k a0 _ _ l1 true _ ?_ ?_ A4.out).mono ?_);exact Kd.C_below (Kd.V_reads' HO1.out).2.2 gs;exact(Kd.V_reads' HO1.out).2.1;rintro e w9 ⟨rfl,hb⟩;refine⟨_,rfl,?_⟩;replace HO1:=am (Kd.V_below (wV HO1) hb);replace HO2:=am (Kd.V_below (wV HO2) hb);replace HB:=bq HB hb;(try clear hb)) | (go_at_call 84;(with_reducible refine(Qe.calls k a0 _ _ l2 true _ ?_ ?_ A6.out).mono ?_);exact Kd.C_below (Kd.V_reads' HO2.out).2.2 gs;exact(Kd.V_reads' HO2.out).2.1;rintro e w10 ⟨rfl,hb⟩;replace HO1:=am (Kd.V_below (wV HO1) hb);replace HO2:=am (Kd.V_below (wV HO2) hb);replace HB:=bq HB hb;(try clear hb)) | ((with_reducible refine q7 (N:=22) rfl ?_);refine Kd.N_lit (Kd.slice 3 (Kd.int .i64)) _ 23 ?hg (N':=22) ?hd (xs:=([l1,l2]:List (List Int))) (inner:=[.slice A1 l1.length c1,.slice A2 l2.length c2]) (ok:=(fun k_=>((P1_ k_∨P2_ k_)∨w.heap.size≤k_))) (okp:=(fun k_=>((P1_ k_∨P2_ k_)∨w.heap.size≤k_))) ?hr ?hp (fun _ hk=>hk) ((show ∀ k_,w10.heap.size≤k_→(fun k_=>((P1_ k_∨P2_ k_)∨w.heap.size≤k_)) k_ from fun k_ hk=>(.inr (Nat.le_trans (bz HB) hk))) _ (Nat.le_refl _)) (Below.refl _ _) (Nat.le_refl _) (by simp) ?_;(case hd=>rfl);(case hg=>rfl);(case hr=>first | (go_simp;done) | (go_simp;rfl));(case hp=>exact(Reps.one (show Kd.FK (Kd.slice 3 (Kd.int .i64)) _ _ l1 [.slice A1 l1.length c1] from (Kd.FK_slice_mk (Kd.V_reads' (HO1.out)).2.1 (Kd.V_F (wV HO1)))) (Reps.one (show Kd.FK (Kd.slice 3 (Kd.int .i64)) _ _ l2 [.slice A2 l2.length c2] from (Kd.FK_slice_mk (Kd.V_reads' (HO2.out)).2.1 (Kd.V_F (wV HO2)))) (Reps.none _ _))));intro v620 w11 ho12 hb hg_ hnew_;clear hg_ hnew_;(first | rw[← Ny619.out]at ho12 | (simp only[Int.reduceToNat]at ho12;rw[← Ny619.out]at ho12));replace HO1:=eV HO1 (Kd.N_base ho12) hb;replace HO2:=eV HO2 (Kd.N_base ho12) hb;have HO621:=am (Kd.N_lower ho12 (bz HB));replace HB:=bq HB hb;clear hb ho12;obtain⟨Ao13,co13,eo13⟩:=Kd.N_slice HO621.out;subst eo13) | ((with_reducible refine qe (f:=134) rfl ?_);refine gl 23 Try.func134 #[.int .i64 a0,.slice Ao13 y619.length co13] ?_;(with_reducible refine(Qa.calls k a0 _ _ y619 t622 t623 _ ?_ ?_ A8.out).mono ?_);exact Kd.C_below (Kd.N_reads' HO621.out).2.2 gs;exact(Kd.N_reads' HO621.out).2.1;rintro e w14 ⟨v624,rfl,ho0,hb⟩;refine⟨_,rfl,?_⟩;replace HO1:=eV HO1 (Kd.R_base ho0) hb;replace HO2:=eV HO2 (Kd.R_base ho0) hb;replace HO621:=eN HO621 (Kd.R_base ho0) hb;have HO625:=am (mR ho0 HB);replace HB:=bq HB hb;(try clear hb);(try clear ho0)))
   go_ret2
   exact⟨_,fq,Kd.R_below (Kd.R_mono HO625.out (fun _ hk=>hk.1)) gs,bw HB⟩
  ·replace c7:=Bool.eq_false_iff.mpr c7
   subst c7
   rw[if_neg (show ¬ (false=true) by decide)]at H
   generalize hy626:(([]:List Int))=y626 at H
   have Ny626:=am hy626.symm;clear hy626
   simp only[Option.some.injEq,Prod.mk.injEq]at H
   obtain⟨rfl,rfl⟩:=H
   go_enter Try.func147,Try.ntmps147
   go_wp2_with (first | ((with_reducible refine qe (f:=84) rfl ?_);refine gl 10 Try.func84 #[.int .i64 a0,.slice A1 l1.length c1] ?_;(with_reducible refine(Qe.calls k a0 _ _ l1 true _ ?_ ?_ A4.out).mono ?_);exact Kd.C_below (Kd.V_reads' HO1.out).2.2 gs;exact(Kd.V_reads' HO1.out).2.1;rintro e w15 ⟨rfl,hb⟩;refine⟨_,rfl,?_⟩;replace HO1:=am (Kd.V_below (wV HO1) hb);replace HO2:=am (Kd.V_below (wV HO2) hb);replace HB:=bq HB hb;(try clear hb)) | (go_at_call 84;(with_reducible refine(Qe.calls k a0 _ _ l2 false _ ?_ ?_ A6.out).mono ?_);exact Kd.C_below (Kd.V_reads' HO2.out).2.2 gs;exact(Kd.V_reads' HO2.out).2.1;rintro e w16 ⟨rfl,hb⟩;replace HO1:=am (Kd.V_below (wV HO1) hb);replace HO2:=am (Kd.V_below (wV HO2) hb);replace HB:=bq HB hb;(try clear hb)) | ((with_reducible refine q7 (N:=18) rfl ?_);refine li 3 ([]:List Int) ?_;intro v627 w17 ho18 hb;(first | rw[← Ny626.out]at ho18 | (simp only[Int.reduceToNat]at ho18;rw[← Ny626.out]at ho18));replace HO1:=eV HO1 (Kd.R_base ho18) hb;replace HO2:=eV HO2 (Kd.R_base ho18) hb;have HO628:=am (mR ho18 HB);replace HB:=bq HB hb;clear hb ho18))
   go_ret2
   exact⟨_,fq,Kd.R_below (Kd.R_mono HO628.out (fun _ hk=>hk.1)) gs,bw HB⟩
 ·replace c5:=Bool.eq_false_iff.mpr c5
  subst c5
  rw[if_neg (show ¬ (false=true) by decide)]at H
  generalize hy629:(([]:List Int))=y629 at H
  have Ny629:=am hy629.symm;clear hy629
  simp only[Option.some.injEq,Prod.mk.injEq]at H
  obtain⟨rfl,rfl⟩:=H
  go_enter Try.func147,Try.ntmps147
  go_wp2_with (first | ((with_reducible refine qe (f:=84) rfl ?_);refine gl 10 Try.func84 #[.int .i64 a0,.slice A1 l1.length c1] ?_;(with_reducible refine(Qe.calls k a0 _ _ l1 false _ ?_ ?_ A4.out).mono ?_);exact Kd.C_below (Kd.V_reads' HO1.out).2.2 gs;exact(Kd.V_reads' HO1.out).2.1;rintro e w19 ⟨rfl,hb⟩;refine⟨_,rfl,?_⟩;replace HO1:=am (Kd.V_below (wV HO1) hb);replace HO2:=am (Kd.V_below (wV HO2) hb);replace HB:=bq HB hb;(try clear hb)) | ((with_reducible refine q7 (N:=18) rfl ?_);refine li 3 ([]:List Int) ?_;intro v630 w20 ho21 hb;(first | rw[← Ny629.out]at ho21 | (simp only[Int.reduceToNat]at ho21;rw[← Ny629.out]at ho21));replace HO1:=eV HO1 (Kd.R_base ho21) hb;replace HO2:=eV HO2 (Kd.R_base ho21) hb;have HO631:=am (mR ho21 HB);replace HB:=bq HB hb;clear hb ho21))
  go_ret2
  exact⟨_,fq,Kd.R_below (Kd.R_mono HO631.out (fun _ hk=>hk.1)) gs,bw HB⟩
def jb.j0 :Nat→Int→List Int→Bool→List Int→Int→Option (List Int×Int)
 | 0,_,_,_,_,_=>none
 | k+1,x1,x5,x20,x1000,x1001=>if x20=true then (some (x5,x1001)) else ((jz.f k x1000 x1001 x1).bind fun bt640=>((jz.f k x1000 bt640.2 x1).bind fun bt644=>((js.f k x1 bt640.1 bt644.1).bind fun bt648=>(if bt648.2=true then ((qb.f k x1000 bt644.2 24).bind fun bt652=>(if bt652.1=0 then (if 7≤(bt648.1.length:Int) then (some ((bt648.1.take (7:Int).toNat),bt652.2)) else (none)) else (some (bt648.1,bt652.2)))) else (some ((([1,0,0,0,0,1,0,0]:List Int)),bt644.2))))))
def jb.f (k:Nat) (s0_0:List Int) (s0_1:Int) (a1:Int):Option (List Int×Int):=(qb.f k s0_0 s0_1 27).bind fun bt632=>((Qn.f k a1 bt632.1).bind fun bt634=>(if bt634.2=true then ((qb.f k s0_0 bt632.2 2).bind fun bt638=>(jb.j0 k a1 bt634.1 (bt638.1 == 0) s0_0 bt638.2)) else (jb.j0 k a1 bt634.1 false s0_0 bt632.2)))
theorem jb.mono_l :∀ k,(∀ y0 y1 y2 y3 y4,LeO (jb.j0 k y0 y1 y2 y3 y4) (jb.j0 (k+1) y0 y1 y2 y3 y4))
 | 0=>fun _ _ _ _ _ r h=>by simp[jb.j0]at h
 | k+1=>by
  have ih0:=jb.mono_l k
  ·intro y0 y1 y2 y3 y4
   unfold jb.j0
   repeat' first | (with_reducible first | apply ih0 | apply Qn.mono | apply js.mono | apply qb.mono | apply jz.mono | exact LeO.refl _ | exact LeO.none _ | refine LeO.ite ?_ ?_ | refine LeO.bind ?_ (fun _=>?_)) | (first | apply ih0 | apply Qn.mono | apply js.mono | apply qb.mono | apply jz.mono | exact LeO.none _ | refine LeO.ite ?_ ?_ | refine LeO.bind ?_ (fun _=>?_))
theorem jb.mono :∀ a0 a1 a2 k,LeO (jb.f k a0 a1 a2) (jb.f (k+1) a0 a1 a2):=by
 intro a0 a1 a2 k
 have ih0:=jb.mono_l k
 unfold jb.f
 repeat' first | (with_reducible first | apply ih0 | apply Qn.mono | apply js.mono | apply qb.mono | apply jz.mono | exact LeO.refl _ | exact LeO.none _ | refine LeO.ite ?_ ?_ | refine LeO.bind ?_ (fun _=>?_)) | (first | apply ih0 | apply Qn.mono | apply js.mono | apply qb.mono | apply jz.mono | exact LeO.none _ | refine LeO.ite ?_ ?_ | refine LeO.bind ?_ (fun _=>?_))
theorem jb.calls (k:Nat) (g:Nat) (s0_0:List Int) (s0_1:Int) (a1:Int) (r1:List Int) (r2:Int) (w0 w:World) (hI:IsS112 w0 w g s0_0 s0_1) (hB:Below w0.heap.size w0 w) (h:jb.f k s0_0 s0_1 a1=some (r1,r2)):
  Calls Try.prog 92 #[.pointer (some ⟨g,0,none⟩),.int .i64 a1] w fun e w'=>∃ v0_:Value,e=.returned (v0_)∧Kd.R (Kd.int .i64) 3 w' w.heap.size (fun _=>True) v0_ r1∧IsS112 w0 w' g s0_0 r2∧Below w0.heap.size w0 w'∧KeepBut w w' g none:=by
 have HI0:=am hI
 have HK:=am (KeepBut.refl w g none)
 have HL:=am hB.size
 clear hI
 have HW0:=am hB.size
 have HB:=am hB
 clear hB
 have H:((qb.f k s0_0 s0_1 27).bind fun bt632=>((Qn.f k a1 bt632.1).bind fun bt634=>(if bt634.2=true then ((qb.f k s0_0 bt632.2 2).bind fun bt638=>(jb.j0 k a1 bt634.1 (bt638.1 == 0) s0_0 bt638.2)) else (jb.j0 k a1 bt634.1 false s0_0 bt632.2))))=some (r1,r2):=h
 clear h;replace H:=bs H
 obtain⟨⟨t632,t633⟩,A3,H⟩:=H
 dsimp only at H
 replace H:=bs H
 obtain⟨⟨t634,t635⟩,A4,H⟩:=H
 dsimp only at H
 have HC5:=am H
 clear H
 go_enter Try.func92,Try.ntmps92
 go_upto_region 2 with (first | ((with_reducible refine qe (f:=71) rfl ?_);refine gl 11 Try.func71 #[.pointer (some ⟨g,0,none⟩),.int .i64 27] ?_;(with_reducible refine(qb.calls k g s0_0 s0_1 27 t632 t633 w0 _ ?_ ?_ A3.out).mono ?_);(· repeat (first | (with_reducible first | exact HI0.out | apply IsS112.alloc | apply IsS112.drewN | apply IsS112.drew | apply IsS112.set_1) | exact HI0.out));(· repeat (first | (with_reducible first | exact HB.out | apply qy | apply qh | apply qv | refine zd ?_ (IsS112.ge HI0.out)) | exact HB.out));rintro e w6 ⟨rfl,hi,hb,hk⟩;refine⟨_,rfl,?_⟩;replace HK:=am (KeepBut.trans (kw HK) hk (.inl rfl));replace HB:=am (hb);replace HI0:=am (hi);(try clear hb);(try clear hk);(try clear hi)) | ((with_reducible refine qe (f:=146) rfl ?_);refine gl 12 Try.func146 #[.int .i64 a1,.int .i64 t632] ?_;(with_reducible refine(Qn.calls k a1 t632 t634 t635 _ A4.out).mono ?_);rintro e w7 ⟨v636,rfl,ho0,hb⟩;refine⟨_,rfl,?_⟩;have HO637:=am (Kd.R_lower ho0 (jg (w:=w) (g:=g) (row:=none) (kw HK)));replace HK:=am (KeepBut.trans (kw HK) (KeepBut.of_below hb g none) (.inl rfl));replace HB:=am (zp (jr HB HI0) hb);replace HI0:=am (IsS112.below (zt HI0) hb);(try clear hb);(try clear ho0)))
 (try simp only[Act.put,List.setIfInBounds_toArray,List.set_cons_zero,List.set_cons_succ])
 go_cut [20] (fun v20 wc=>∃ (kq:Nat) (x20_4:Bool) (x1001_4:Int),v20=.bool x20_4∧qa (jb.j0 kq a1 t634 x20_4 s0_0 x1001_4=some (r1,r2))∧qa (kq≤k)∧qa (Kd.R (Kd.int .i64) 3 wc w.heap.size (fun _=>True) v636 t634)∧qa (IsS112 w0 wc g s0_0 x1001_4)∧qa (KeepBut w wc g none)∧qa (Below w0.heap.size w0 wc))
 case first=>
  have H:=HC5.out
  clear HC5
  by_cases c8:t635=true
  ·subst c8
   rw[if_pos rfl]at H
   replace H:=bs H
   obtain⟨⟨t638,t639⟩,A9,H⟩:=H
   dsimp only at H
   have H':=am H;clear H
   go_wp2_with (first | (go_at_call 71;(with_reducible refine(qb.calls k g s0_0 t633 2 t638 t639 w0 _ ?_ ?_ A9.out).mono ?_);(· repeat (first | (with_reducible first | exact HI0.out | apply IsS112.alloc | apply IsS112.drewN | apply IsS112.drew | apply IsS112.set_1) | exact HI0.out));(· repeat (first | (with_reducible first | exact HB.out | apply qy | apply qh | apply qv | refine zd ?_ (IsS112.ge HI0.out)) | exact HB.out));rintro e w10 ⟨rfl,hi,hb,hk⟩;replace HO637:=am (Kd.R_mono (Kd.R_keep (IsS112.apart (show IsS112 w0 _ g s0_0 t633 from zt HI0) (wR HO637) (by decide)) hk (fun _ h=>h.2)) (fun _ h=>h.1));replace HK:=am (KeepBut.trans (kw HK) hk (.inl rfl));replace HB:=am (hb);replace HI0:=am (hi);(try clear hb);(try clear hk);(try clear hi)))
   go_meet
   case rel=>exact⟨_,((t638 == 0)),(t639),fr,H',⟨by first | omega | exact Nat.le_refl _⟩,⟨wR HO637⟩,⟨zt HI0⟩,⟨kw HK⟩,⟨jr HB HI0⟩⟩
  ·replace c8:=Bool.eq_false_iff.mpr c8
   subst c8
   rw[if_neg (show ¬ (false=true) by decide)]at H
   have H':=am H;clear H;go_wp2
   go_meet
   case rel=>exact⟨_,(false),(t633),fr,H',⟨by first | omega | exact Nat.le_refl _⟩,⟨wR HO637⟩,⟨zt HI0⟩,⟨kw HK⟩,⟨jr HB HI0⟩⟩
 case rest=>
  clear HC5;try clear c1;try clear p2;try clear c7;try clear c8;try clear c9
  obtain⟨kq,x20_4,x1001_4,rfl,HA,HJ4,HO_5,HI0,HK,HB⟩:=hcut
  cases kq with
  | zero=>exact absurd HA.out (by simp[jb.j0])
  | succ kj4=>
   have H:=HA.out;clear HA
   simp only[jb.j0]at H
   by_cases c11:x20_4=true
   ·subst c11
    rw[if_pos rfl]at H
    simp only[Option.some.injEq,Prod.mk.injEq]at H
    obtain⟨rfl,rfl⟩:=H;go_wp2;go_ret
    exact⟨_,fq,wR HO_5,zt HI0,jr HB HI0,kw HK⟩
   ·replace c11:=Bool.eq_false_iff.mpr c11
    subst c11
    rw[if_neg (show ¬ (false=true) by decide)]at H
    replace H:=bs H
    obtain⟨⟨t640,t643⟩,A12,H⟩:=H
    dsimp only at H
    replace H:=bs H
    obtain⟨⟨t644,t647⟩,A13,H⟩:=H
    dsimp only at H
    replace H:=bs H
    obtain⟨⟨t648,t651⟩,A14,H⟩:=H
    dsimp only at H
    by_cases c15:t651=true
    ·subst c15
     rw[if_pos rfl]at H
     replace H:=bs H
     obtain⟨⟨t652,t653⟩,A16,H⟩:=H
     dsimp only at H
     by_cases c17:t652=0
     ·rw[if_pos c17]at H
      have c17b0:=beq_iff_eq.mpr c17;have c17b1:=bne_eq_false_iff_eq.mpr c17;clear c17;replace H:=ifn H;obtain⟨c18,H⟩:=H;have c18b0:=eq_true c18;have c18b1:=decide_eq_true c18;clear c18
      generalize hy654:(t648.take (7:Int).toNat:List Int)=y654 at H
      have Ny654:=am hy654.symm;clear hy654
      simp only[Option.some.injEq,Prod.mk.injEq]at H
      obtain⟨rfl,rfl⟩:=H
      go_wp2_with (first | ((with_reducible refine qe (f:=86) rfl ?_);refine gl 24 Try.func86 #[.pointer (some ⟨g,0,none⟩),.int .i64 a1] ?_;(with_reducible refine(jz.calls kj4 g s0_0 x1001_4 a1 t640 t643 w0 _ ?_ ?_ A12.out).mono ?_);(· repeat (first | (with_reducible first | exact HI0.out | apply IsS112.alloc | apply IsS112.drewN | apply IsS112.drew | apply IsS112.set_1) | exact HI0.out));(· repeat (first | (with_reducible first | exact HB.out | apply qy | apply qh | apply qv | refine zd ?_ (IsS112.ge HI0.out)) | exact HB.out));rintro e w19 ⟨v641,rfl,ho0,hi,hb,hk⟩;refine⟨_,rfl,?_⟩;have HO642:=am (Kd.R_lower (Kd.R_new' ho0 (Kd.R_lt (wR HO_5))) (jg (w:=w) (g:=g) (row:=none) (kw HK)));replace HO_5:=am (Kd.R_mono (Kd.R_told (Kd.R_oldK (IsS112.apart (show IsS112 w0 _ g s0_0 x1001_4 from zt HI0) (wR HO_5) (by decide)) hk) (Kd.R_base ho0)) (fun _ h_=>h_.1));replace HK:=am (KeepBut.trans (kw HK) hk (.inl rfl));replace HB:=am (hb);replace HI0:=am (hi);(try clear hb);(try clear hk);(try clear hi);(try clear ho0)) | ((with_reducible refine qe (f:=86) rfl ?_);refine gl 30 Try.func86 #[.pointer (some ⟨g,0,none⟩),.int .i64 a1] ?_;(with_reducible refine(jz.calls kj4 g s0_0 t643 a1 t644 t647 w0 _ ?_ ?_ A13.out).mono ?_);(· repeat (first | (with_reducible first | exact HI0.out | apply IsS112.alloc | apply IsS112.drewN | apply IsS112.drew | apply IsS112.set_1) | exact HI0.out));(· repeat (first | (with_reducible first | exact HB.out | apply qy | apply qh | apply qv | refine zd ?_ (IsS112.ge HI0.out)) | exact HB.out));rintro e w20 ⟨v645,rfl,ho0,hi,hb,hk⟩;refine⟨_,rfl,?_⟩;have HO646:=am (Kd.R_lower (Kd.R_new' (Kd.R_new' ho0 (Kd.R_lt (wR HO_5))) (Kd.R_lt (wR HO642))) (jg (w:=w) (g:=g) (row:=none) (kw HK)));replace HO_5:=am (Kd.R_mono (Kd.R_told (Kd.R_oldK (IsS112.apart (show IsS112 w0 _ g s0_0 t643 from zt HI0) (wR HO_5) (by decide)) hk) (Kd.R_base ho0)) (fun _ h_=>h_.1));replace HO642:=am (Kd.R_mono (Kd.R_told (Kd.R_oldK (IsS112.apart (show IsS112 w0 _ g s0_0 t643 from zt HI0) (wR HO642) (by decide)) hk) (Kd.R_base ho0)) (fun _ h_=>h_.1));replace HK:=am (KeepBut.trans (kw HK) hk (.inl rfl));replace HB:=am (hb);replace HI0:=am (hi);(try clear hb);(try clear hk);(try clear hi);(try clear ho0);obtain⟨Ao21,co21,eo21⟩:=Kd.R_slice HO642.out;subst eo21;obtain⟨Ao22,co22,eo22⟩:=Kd.R_slice HO646.out;subst eo22) | ((with_reducible refine qe (f:=147) rfl ?_);refine gl 31 Try.func147 #[.int .i64 a1,.slice Ao21 t640.length co21,.slice Ao22 t644.length co22] ?_;(with_reducible refine(js.calls kj4 a1 (fun k_=>some k_=(.slice Ao21 t640.length co21:Value).ownBlock) _ _ t640 (fun k_=>some k_=(.slice Ao22 t644.length co22:Value).ownBlock) _ _ t644 t648 true _ ?_ ?_ A14.out).mono ?_);exact Kd.R_V (Kd.R_tight rfl (IsS112.apart HI0.out (HO642.out) (by decide)));exact Kd.R_V (Kd.R_tight rfl (IsS112.apart HI0.out (HO646.out) (by decide)));rintro e w23 ⟨v649,rfl,ho0,hb⟩;refine⟨_,rfl,?_⟩;have HO650:=am (Kd.R_lower (Kd.R_new' (Kd.R_new' (Kd.R_new' (Kd.R_mono (ok':=fun k_=>True) ho0 (fun _ hk_=>trivial)) (Kd.R_lt (wR HO_5))) (Kd.R_lt (wR HO642))) (Kd.R_lt (wR HO646))) (jg (w:=w) (g:=g) (row:=none) (kw HK)));replace HO_5:=eR HO_5 (Kd.R_base ho0) hb;replace HO642:=eR HO642 (Kd.R_base ho0) hb;replace HO646:=eR HO646 (Kd.R_base ho0) hb;replace HK:=am (KeepBut.trans (kw HK) (KeepBut.of_below hb g none) (.inl rfl));replace HB:=am (zp (jr HB HI0) hb);replace HI0:=am (IsS112.below (zt HI0) hb);(try clear hb);(try clear ho0)) | ((with_reducible refine qe (f:=71) rfl ?_);refine gl 38 Try.func71 #[.pointer (some ⟨g,0,none⟩),.int .i64 24] ?_;(with_reducible refine(qb.calls kj4 g s0_0 t647 24 t652 t653 w0 _ ?_ ?_ A16.out).mono ?_);(· repeat (first | (with_reducible first | exact HI0.out | apply IsS112.alloc | apply IsS112.drewN | apply IsS112.drew | apply IsS112.set_1) | exact HI0.out));(· repeat (first | (with_reducible first | exact HB.out | apply qy | apply qh | apply qv | refine zd ?_ (IsS112.ge HI0.out)) | exact HB.out));rintro e w24 ⟨rfl,hi,hb,hk⟩;refine⟨_,rfl,?_⟩;replace HO_5:=am (Kd.R_mono (Kd.R_keep (IsS112.apart (show IsS112 w0 _ g s0_0 t647 from zt HI0) (wR HO_5) (by decide)) hk (fun _ h=>h.2)) (fun _ h=>h.1));replace HO642:=am (Kd.R_mono (Kd.R_keep (IsS112.apart (show IsS112 w0 _ g s0_0 t647 from zt HI0) (wR HO642) (by decide)) hk (fun _ h=>h.2)) (fun _ h=>h.1));replace HO646:=am (Kd.R_mono (Kd.R_keep (IsS112.apart (show IsS112 w0 _ g s0_0 t647 from zt HI0) (wR HO646) (by decide)) hk (fun _ h=>h.2)) (fun _ h=>h.1));replace HO650:=am (Kd.R_mono (Kd.R_keep (IsS112.apart (show IsS112 w0 _ g s0_0 t647 from zt HI0) (wR HO650) (by decide)) hk (fun _ h=>h.2)) (fun _ h=>h.1));replace HK:=am (KeepBut.trans (kw HK) hk (.inl rfl));replace HB:=am (hb);replace HI0:=am (hi);(try clear hb);(try clear hk);(try clear hi);obtain⟨Ao25,co25,eo25⟩:=Kd.R_slice HO650.out;subst eo25;have q26:(7:Int)≤((t648.length:Int):Int):=od;obtain⟨i026,hi026,_,hsz26,_⟩:=info_parts Q1;have hcut26:=qkn (P:=Try.prog) 23 3 .i64 Try.underlying23 hi026 Ao25 t648.length co25 7 (by omega) q26 (Kd.R_reads' HO650.out).2.1;have hr26:=Kd.R_take (m:=(7:Int).toNat) HO650.out (by omega);have hy26:y654.length=(7:Int).toNat:=(by rw[Ny654.out,List.length_take];omega);rw[← Ny654.out]at hr26;rw[← hy26]at hr26 hcut26;clear hy26 hi026 hsz26 HO650;have HO656:=am hr26;clear hr26;replace q26:=eq_true q26))
      go_ret
      exact⟨_,fq,Kd.R_below (Kd.R_mono HO656.out (fun _ hk=>trivial)) gs,zt HI0,jr HB HI0,kw HK⟩
     ·rw[if_neg c17]at H
      have c17b0:=beq_eq_false_iff_ne.mpr c17;have c17b1:=bne_iff_ne.mpr c17
      simp only[Option.some.injEq,Prod.mk.injEq]at H
      obtain⟨rfl,rfl⟩:=H
      go_wp2_with (first | ((with_reducible refine qe (f:=86) rfl ?_);refine gl 24 Try.func86 #[.pointer (some ⟨g,0,none⟩),.int .i64 a1] ?_;(with_reducible refine(jz.calls kj4 g s0_0 x1001_4 a1 t640 t643 w0 _ ?_ ?_ A12.out).mono ?_);(· repeat (first | (with_reducible first | exact HI0.out | apply IsS112.alloc | apply IsS112.drewN | apply IsS112.drew | apply IsS112.set_1) | exact HI0.out));(· repeat (first | (with_reducible first | exact HB.out | apply qy | apply qh | apply qv | refine zd ?_ (IsS112.ge HI0.out)) | exact HB.out));rintro e w27 ⟨v641,rfl,ho0,hi,hb,hk⟩;refine⟨_,rfl,?_⟩;have HO642:=am (Kd.R_lower (Kd.R_new' ho0 (Kd.R_lt (wR HO_5))) (jg (w:=w) (g:=g) (row:=none) (kw HK)));replace HO_5:=am (Kd.R_mono (Kd.R_told (Kd.R_oldK (IsS112.apart (show IsS112 w0 _ g s0_0 x1001_4 from zt HI0) (wR HO_5) (by decide)) hk) (Kd.R_base ho0)) (fun _ h_=>h_.1));replace HK:=am (KeepBut.trans (kw HK) hk (.inl rfl));replace HB:=am (hb);replace HI0:=am (hi);(try clear hb);(try clear hk);(try clear hi);(try clear ho0)) | ((with_reducible refine qe (f:=86) rfl ?_);refine gl 30 Try.func86 #[.pointer (some ⟨g,0,none⟩),.int .i64 a1] ?_;(with_reducible refine(jz.calls kj4 g s0_0 t643 a1 t644 t647 w0 _ ?_ ?_ A13.out).mono ?_);(· repeat (first | (with_reducible first | exact HI0.out | apply IsS112.alloc | apply IsS112.drewN | apply IsS112.drew | apply IsS112.set_1) | exact HI0.out));(· repeat (first | (with_reducible first | exact HB.out | apply qy | apply qh | apply qv | refine zd ?_ (IsS112.ge HI0.out)) | exact HB.out));rintro e w28 ⟨v645,rfl,ho0,hi,hb,hk⟩;refine⟨_,rfl,?_⟩;have HO646:=am (Kd.R_lower (Kd.R_new' (Kd.R_new' ho0 (Kd.R_lt (wR HO_5))) (Kd.R_lt (wR HO642))) (jg (w:=w) (g:=g) (row:=none) (kw HK)));replace HO_5:=am (Kd.R_mono (Kd.R_told (Kd.R_oldK (IsS112.apart (show IsS112 w0 _ g s0_0 t643 from zt HI0) (wR HO_5) (by decide)) hk) (Kd.R_base ho0)) (fun _ h_=>h_.1));replace HO642:=am (Kd.R_mono (Kd.R_told (Kd.R_oldK (IsS112.apart (show IsS112 w0 _ g s0_0 t643 from zt HI0) (wR HO642) (by decide)) hk) (Kd.R_base ho0)) (fun _ h_=>h_.1));replace HK:=am (KeepBut.trans (kw HK) hk (.inl rfl));replace HB:=am (hb);replace HI0:=am (hi);(try clear hb);(try clear hk);(try clear hi);(try clear ho0);obtain⟨Ao29,co29,eo29⟩:=Kd.R_slice HO642.out;subst eo29;obtain⟨Ao30,co30,eo30⟩:=Kd.R_slice HO646.out;subst eo30) | ((with_reducible refine qe (f:=147) rfl ?_);refine gl 31 Try.func147 #[.int .i64 a1,.slice Ao29 t640.length co29,.slice Ao30 t644.length co30] ?_;(with_reducible refine(js.calls kj4 a1 (fun k_=>some k_=(.slice Ao29 t640.length co29:Value).ownBlock) _ _ t640 (fun k_=>some k_=(.slice Ao30 t644.length co30:Value).ownBlock) _ _ t644 t648 true _ ?_ ?_ A14.out).mono ?_);exact Kd.R_V (Kd.R_tight rfl (IsS112.apart HI0.out (HO642.out) (by decide)));exact Kd.R_V (Kd.R_tight rfl (IsS112.apart HI0.out (HO646.out) (by decide)));rintro e w31 ⟨v649,rfl,ho0,hb⟩;refine⟨_,rfl,?_⟩;have HO650:=am (Kd.R_lower (Kd.R_new' (Kd.R_new' (Kd.R_new' (Kd.R_mono (ok':=fun k_=>True) ho0 (fun _ hk_=>trivial)) (Kd.R_lt (wR HO_5))) (Kd.R_lt (wR HO642))) (Kd.R_lt (wR HO646))) (jg (w:=w) (g:=g) (row:=none) (kw HK)));replace HO_5:=eR HO_5 (Kd.R_base ho0) hb;replace HO642:=eR HO642 (Kd.R_base ho0) hb;replace HO646:=eR HO646 (Kd.R_base ho0) hb;replace HK:=am (KeepBut.trans (kw HK) (KeepBut.of_below hb g none) (.inl rfl));replace HB:=am (zp (jr HB HI0) hb);replace HI0:=am (IsS112.below (zt HI0) hb);(try clear hb);(try clear ho0)) | ((with_reducible refine qe (f:=71) rfl ?_);refine gl 38 Try.func71 #[.pointer (some ⟨g,0,none⟩),.int .i64 24] ?_;(with_reducible refine(qb.calls kj4 g s0_0 t647 24 t652 t653 w0 _ ?_ ?_ A16.out).mono ?_);(· repeat (first | (with_reducible first | exact HI0.out | apply IsS112.alloc | apply IsS112.drewN | apply IsS112.drew | apply IsS112.set_1) | exact HI0.out));(· repeat (first | (with_reducible first | exact HB.out | apply qy | apply qh | apply qv | refine zd ?_ (IsS112.ge HI0.out)) | exact HB.out));rintro e w32 ⟨rfl,hi,hb,hk⟩;refine⟨_,rfl,?_⟩;replace HO_5:=am (Kd.R_mono (Kd.R_keep (IsS112.apart (show IsS112 w0 _ g s0_0 t647 from zt HI0) (wR HO_5) (by decide)) hk (fun _ h=>h.2)) (fun _ h=>h.1));replace HO642:=am (Kd.R_mono (Kd.R_keep (IsS112.apart (show IsS112 w0 _ g s0_0 t647 from zt HI0) (wR HO642) (by decide)) hk (fun _ h=>h.2)) (fun _ h=>h.1));replace HO646:=am (Kd.R_mono (Kd.R_keep (IsS112.apart (show IsS112 w0 _ g s0_0 t647 from zt HI0) (wR HO646) (by decide)) hk (fun _ h=>h.2)) (fun _ h=>h.1));replace HO650:=am (Kd.R_mono (Kd.R_keep (IsS112.apart (show IsS112 w0 _ g s0_0 t647 from zt HI0) (wR HO650) (by decide)) hk (fun _ h=>h.2)) (fun _ h=>h.1));replace HK:=am (KeepBut.trans (kw HK) hk (.inl rfl));replace HB:=am (hb);replace HI0:=am (hi);(try clear hb);(try clear hk);(try clear hi)))
      go_ret
      exact⟨_,fq,Kd.R_below (Kd.R_mono HO650.out (fun _ hk=>trivial)) gs,zt HI0,jr HB HI0,kw HK⟩
    ·replace c15:=Bool.eq_false_iff.mpr c15
     subst c15
     rw[if_neg (show ¬ (false=true) by decide)]at H
     generalize hy657:(([1,0,0,0,0,1,0,0]:List Int))=y657 at H
     have Ny657:=am hy657.symm;clear hy657
     simp only[Option.some.injEq,Prod.mk.injEq]at H
     obtain⟨rfl,rfl⟩:=H
     go_wp2_with (first | ((with_reducible refine qe (f:=86) rfl ?_);refine gl 24 Try.func86 #[.pointer (some ⟨g,0,none⟩),.int .i64 a1] ?_;(with_reducible refine(jz.calls kj4 g s0_0 x1001_4 a1 t640 t643 w0 _ ?_ ?_ A12.out).mono ?_);(· repeat (first | (with_reducible first | exact HI0.out | apply IsS112.alloc | apply IsS112.drewN | apply IsS112.drew | apply IsS112.set_1) | exact HI0.out));(· repeat (first | (with_reducible first | exact HB.out | apply qy | apply qh | apply qv | refine zd ?_ (IsS112.ge HI0.out)) | exact HB.out));rintro e w33 ⟨v641,rfl,ho0,hi,hb,hk⟩;refine⟨_,rfl,?_⟩;have HO642:=am (Kd.R_lower (Kd.R_new' ho0 (Kd.R_lt (wR HO_5))) (jg (w:=w) (g:=g) (row:=none) (kw HK)));replace HO_5:=am (Kd.R_mono (Kd.R_told (Kd.R_oldK (IsS112.apart (show IsS112 w0 _ g s0_0 x1001_4 from zt HI0) (wR HO_5) (by decide)) hk) (Kd.R_base ho0)) (fun _ h_=>h_.1));replace HK:=am (KeepBut.trans (kw HK) hk (.inl rfl));replace HB:=am (hb);replace HI0:=am (hi);(try clear hb);(try clear hk);(try clear hi);(try clear ho0)) | ((with_reducible refine qe (f:=86) rfl ?_);refine gl 30 Try.func86 #[.pointer (some ⟨g,0,none⟩),.int .i64 a1] ?_;(with_reducible refine(jz.calls kj4 g s0_0 t643 a1 t644 t647 w0 _ ?_ ?_ A13.out).mono ?_);(· repeat (first | (with_reducible first | exact HI0.out | apply IsS112.alloc | apply IsS112.drewN | apply IsS112.drew | apply IsS112.set_1) | exact HI0.out));(· repeat (first | (with_reducible first | exact HB.out | apply qy | apply qh | apply qv | refine zd ?_ (IsS112.ge HI0.out)) | exact HB.out));rintro e w34 ⟨v645,rfl,ho0,hi,hb,hk⟩;refine⟨_,rfl,?_⟩;have HO646:=am (Kd.R_lower (Kd.R_new' (Kd.R_new' ho0 (Kd.R_lt (wR HO_5))) (Kd.R_lt (wR HO642))) (jg (w:=w) (g:=g) (row:=none) (kw HK)));replace HO_5:=am (Kd.R_mono (Kd.R_told (Kd.R_oldK (IsS112.apart (show IsS112 w0 _ g s0_0 t643 from zt HI0) (wR HO_5) (by decide)) hk) (Kd.R_base ho0)) (fun _ h_=>h_.1));replace HO642:=am (Kd.R_mono (Kd.R_told (Kd.R_oldK (IsS112.apart (show IsS112 w0 _ g s0_0 t643 from zt HI0) (wR HO642) (by decide)) hk) (Kd.R_base ho0)) (fun _ h_=>h_.1));replace HK:=am (KeepBut.trans (kw HK) hk (.inl rfl));replace HB:=am (hb);replace HI0:=am (hi);(try clear hb);(try clear hk);(try clear hi);(try clear ho0);obtain⟨Ao35,co35,eo35⟩:=Kd.R_slice HO642.out;subst eo35;obtain⟨Ao36,co36,eo36⟩:=Kd.R_slice HO646.out;subst eo36) | ((with_reducible refine qe (f:=147) rfl ?_);refine gl 31 Try.func147 #[.int .i64 a1,.slice Ao35 t640.length co35,.slice Ao36 t644.length co36] ?_;(with_reducible refine(js.calls kj4 a1 (fun k_=>some k_=(.slice Ao35 t640.length co35:Value).ownBlock) _ _ t640 (fun k_=>some k_=(.slice Ao36 t644.length co36:Value).ownBlock) _ _ t644 t648 false _ ?_ ?_ A14.out).mono ?_);exact Kd.R_V (Kd.R_tight rfl (IsS112.apart HI0.out (HO642.out) (by decide)));exact Kd.R_V (Kd.R_tight rfl (IsS112.apart HI0.out (HO646.out) (by decide)));rintro e w37 ⟨v649,rfl,ho0,hb⟩;refine⟨_,rfl,?_⟩;have HO650:=am (Kd.R_lower (Kd.R_new' (Kd.R_new' (Kd.R_new' (Kd.R_mono (ok':=fun k_=>True) ho0 (fun _ hk_=>trivial)) (Kd.R_lt (wR HO_5))) (Kd.R_lt (wR HO642))) (Kd.R_lt (wR HO646))) (jg (w:=w) (g:=g) (row:=none) (kw HK)));replace HO_5:=eR HO_5 (Kd.R_base ho0) hb;replace HO642:=eR HO642 (Kd.R_base ho0) hb;replace HO646:=eR HO646 (Kd.R_base ho0) hb;replace HK:=am (KeepBut.trans (kw HK) (KeepBut.of_below hb g none) (.inl rfl));replace HB:=am (zp (jr HB HI0) hb);replace HI0:=am (IsS112.below (zt HI0) hb);(try clear hb);(try clear ho0)) | ((with_reducible refine q7 (N:=36) rfl ?_);refine li 3 [1,0,0,0,0,1,0,0] ?_;intro v658 w38 ho39 hb;(first | rw[← Ny657.out]at ho39 | (simp only[Int.reduceToNat]at ho39;rw[← Ny657.out]at ho39));have HO659:=am (Kd.R_lower (Kd.R_new' (Kd.R_new' (Kd.R_new' (Kd.R_new' ho39 (Kd.R_lt (wR HO_5))) (Kd.R_lt (wR HO642))) (Kd.R_lt (wR HO646))) (Kd.R_lt (wR HO650))) (jg (w:=w) (g:=g) (row:=none) (kw HK)));replace HO_5:=eR HO_5 (Kd.R_base ho39) hb;replace HO642:=eR HO642 (Kd.R_base ho39) hb;replace HO646:=eR HO646 (Kd.R_base ho39) hb;replace HO650:=eR HO650 (Kd.R_base ho39) hb;replace HK:=am (KeepBut.trans (kw HK) (KeepBut.of_below hb g none) (.inl rfl));replace HB:=am (zp (jr HB HI0) hb);replace HI0:=am (IsS112.below (zt HI0) hb);clear hb ho39))
     go_ret
     exact⟨_,fq,Kd.R_below (Kd.R_mono HO659.out (fun _ hk=>trivial)) gs,zt HI0,jr HB HI0,kw HK⟩
end Go.Proofs.Ytmgbpmihbljngaa.PA
