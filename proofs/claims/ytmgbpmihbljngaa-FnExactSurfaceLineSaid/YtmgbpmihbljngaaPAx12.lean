-- Written by xprint.py, a program of this claim's own (over the kit's print.py)
import Derived.Test.YtmgbpmihbljngaaPAx11
namespace Go.Proofs.Ytmgbpmihbljngaa.PA
set_option maxHeartbeats 8000000
set_option maxRecDepth 100000
open Go.RowKit Go.Proofs.YtmgbpmihbljngaaW.PrintWords Go.Proofs.YtmgbpmihbljngaaW.PrintLast Go.Proofs.YtmgbpmihbljngaaW.PrintMore
attribute [local go_sem] Qs Qr Qx Qw Qf Qe Qq Qp
set_option linter.unusedVariables false
set_option linter.unusedSimpArgs false
def z9.l0 :Nat→Int→List (List Int)→List (S43)→List (List Int)→Int→Option ((List (List Int)))
 | 0,_,_,_,_,_=>none
 | k+1,x0,x2,x3,x9,x10=>if x10 < (x3.length:Int) then (if 0≤x10 then ((je.f k x0 x2 ((qd x3 x10).f0.f0) ((qd x3 x10).f0.f1) ((qd x3 x10).f0.f2)).bind fun t316=>((zl.f k t316).bind fun t319=>(if t319=true then (z9.l0 k x0 x2 x3 x9 (wrap64 (x10+1))) else (if x9.length < 5864062014805 then (z9.l0 k x0 x2 x3 (x9++[t316]) (wrap64 (x10+1))) else (none))))) else (none)) else (some x9)
def z9.f (k:Nat) (a0:Int) (l1:List (S43)) (l2:List (List Int)) (l3:List (S43)):Option ((List (List Int))):=z9.l0 k a0 l2 l3 (([]:List (List Int))) 0
theorem z9.mono_l :∀ k,(∀ y0 y1 y2 y3 y4,LeO (z9.l0 k y0 y1 y2 y3 y4) (z9.l0 (k+1) y0 y1 y2 y3 y4))
 | 0=>fun _ _ _ _ _ r h=>by simp[z9.l0]at h
 | k+1=>by
  have ih0:=z9.mono_l k
  ·intro y0 y1 y2 y3 y4
   unfold z9.l0
   repeat' first | (with_reducible first | apply ih0 | apply zl.mono | apply je.mono | exact LeO.refl _ | exact LeO.none _ | refine LeO.ite ?_ ?_ | refine LeO.bind ?_ (fun _=>?_)) | (first | apply ih0 | apply zl.mono | apply je.mono | exact LeO.none _ | refine LeO.ite ?_ ?_ | refine LeO.bind ?_ (fun _=>?_))
theorem z9.mono :∀ a0 a1 a2 a3 k,LeO (z9.f k a0 a1 a2 a3) (z9.f (k+1) a0 a1 a2 a3):=by
 intro a0 a1 a2 a3 k
 have ih0:=z9.mono_l k
 unfold z9.f
 repeat' first | (with_reducible first | apply ih0 | apply zl.mono | apply je.mono | exact LeO.refl _ | exact LeO.none _ | refine LeO.ite ?_ ?_ | refine LeO.bind ?_ (fun _=>?_)) | (first | apply ih0 | apply zl.mono | apply je.mono | exact LeO.none _ | refine LeO.ite ?_ ?_ | refine LeO.bind ?_ (fun _=>?_))
theorem z9.calls (k:Nat) (a0:Int) (A1:Option Addr) (c1:Nat) (l1:List (S43)) (A2:Option Addr) (c2:Nat) (l2:List (List Int)) (A3:Option Addr) (c3:Nat) (l3:List (S43)) (r:List (List Int)) (w:World) (hr1:Kd.C k43 w A1 l1.length l1) (hc1:l1.length≤c1) (hr2:Kd.C (Kd.slice 3 (Kd.int .i64)) w A2 l2.length l2) (hc2:l2.length≤c2) (hr3:Kd.C k43 w A3 l3.length l3) (hc3:l3.length≤c3) (h:z9.f k a0 l1 l2 l3=some r):
  Calls Try.prog 132 #[.int .i64 a0,.slice A1 l1.length c1,.slice A2 l2.length c2,.slice A3 l3.length c3] w fun e w'=>∃ v0_:Value,e=.returned (v0_)∧Kd.S (Kd.slice 3 (Kd.int .i64)) 23 w' w.heap.size (fun _=>True) v0_ r∧Below w.heap.size w w':=by
 have hu43:=Try.underlying43
 have HR1:=am hr1
 have HC1:=am hc1
 clear hr1 hc1
 have HR2:=am hr2
 have HC2:=am hc2
 clear hr2 hc2
 have HR3:=am hr3
 have HC3:=am hc3
 clear hr3 hc3
 have HB:=am (Below.refl w.heap.size w)
 have H:(z9.l0 k a0 l2 l3 (([]:List (List Int))) 0)=some r:=h
 clear h
 generalize hy312:(([]:List (List Int)))=y312 at H
 have Ny312:=am hy312.symm;clear hy312;have H':=am H;clear H
 go_enter Try.func132,Try.ntmps132
 go_wp2_with (first | ((with_reducible refine zb (N:=12) rfl ?_);refine Kd.S_lit (Kd.slice 3 (Kd.int .i64)) _ 23 ?hg (N:=12) ?hd (xs:=([]:List (List Int))) (inner:=[]) (ok:=fun _=>True) (okp:=fun _=>True) ?hr ?hp (fun _ hk=>hk) trivial (Below.refl _ _) (Nat.le_refl _) (by simp) ?_;(case hd=>rfl);(case hg=>rfl);(case hr=>first | (go_simp;done) | (go_simp;rfl));(case hp=>exact(Reps.none _ _));intro v313 w5 ho6 hb hg_ hnew_;clear hg_ hnew_;(first | rw[← Ny312.out]at ho6 | (simp only[Int.reduceToNat]at ho6;rw[← Ny312.out]at ho6));have HO314:=am (Kd.S_lower ho6 (bz HB));replace HB:=bq HB hb;clear hb ho6))
 go_loopg [9,10] k (fun kq v9 v10 w'=>∃ (x9_1:List (List Int)) (x10_1:Int),v10=.int .i64 x10_1∧qf (z9.l0 kq a0 l2 l3 x9_1 x10_1=some r)∧qf (kq≤k)∧qf (Kd.S (Kd.slice 3 (Kd.int .i64)) 23 w' w.heap.size (fun _=>True) v9 x9_1)∧qf (Below w.heap.size w w'))
 case atStart=>exact⟨(y312),(0),fr,H',⟨Nat.le_refl _⟩,⟨wS HO314⟩,⟨bw HB⟩⟩
 case round=>
  clear H';try clear c1;try clear c2;try clear p2;try clear c3
  obtain⟨x9_1,x10_1,rfl,HA,HK1,HO_9,HB⟩:=hrel
  cases gk with
  | zero=>exact absurd HA.out (by simp[z9.l0])
  | succ k1=>
   have H:=HA.out;clear HA
   simp only[z9.l0]at H
   by_cases c7:x10_1 < (l3.length:Int)
   ·rw[if_pos c7]at H
    have c7b0:=decide_eq_true c7;clear c7;replace H:=ifn H;obtain⟨c8,H⟩:=H;have c8b0:=decide_eq_true c8;clear c8;replace H:=bs H;obtain⟨t316,A9,H⟩:=H;replace H:=bs H;obtain⟨t319,A10,H⟩:=H
    by_cases c11:t319=true
    ·subst c11
     rw[if_pos rfl]at H
     have H':=am H;clear H
     have p315:0≤(x10_1:Int):=od
     have q315:x10_1 < (l3.length:Int):=od
     obtain⟨ad315,e315,hx315_0,hx315_1,hx315_2⟩:=Qo HR3.out x10_1 p315 q315
     cases e315
     replace hx315_0:=wcl HB hx315_0
     replace hx315_1:=wcl HB hx315_1
     replace hx315_2:=wcl HB hx315_2
     replace p315:=eq_true p315;replace q315:=eq_true q315
     go_wp2_with (first | ((with_reducible refine qt (f:=77) rfl ?_);refine gl 25 Try.func77 #[.int .i64 a0,.slice A2 l2.length c2,.agg #[.int .i64 ((qd l3 x10_1).f0.f0),.int .i64 ((qd l3 x10_1).f0.f1),.int .i64 ((qd l3 x10_1).f0.f2)]] ?_;(with_reducible refine(je.calls k1 a0 _ _ l2 ((qd l3 x10_1).f0.f0) ((qd l3 x10_1).f0.f1) ((qd l3 x10_1).f0.f2) t316 _ ?_ ?_ A9.out).mono ?_);exact Kd.C_below HR2.out (bw HB);exact HC2.out;rintro e w12 ⟨v317,rfl,ho0,hb⟩;refine⟨_,rfl,?_⟩;replace HO_9:=eS HO_9 (Kd.R_base ho0) hb;have HO318:=am (Kd.R_lower ho0 (bz HB));replace HB:=bq HB hb;(try clear hb);(try clear ho0);obtain⟨Ao13,co13,eo13⟩:=Kd.R_slice HO318.out;subst eo13) | ((with_reducible refine qt (f:=79) rfl ?_);refine gl 27 Try.func79 #[.slice Ao13 t316.length co13] ?_;(with_reducible refine(zl.calls k1 _ _ t316 true _ ?_ ?_ A10.out).mono ?_);exact Kd.C_below (Kd.R_reads' HO318.out).2.2 gs;exact(Kd.R_reads' HO318.out).2.1;rintro e w' ⟨rfl,⟨nd,rfl⟩⟩;refine⟨_,rfl,?_⟩))
     go_roundg k1
     case measure=>have:=HK1.out;omega
     case rel=>exact⟨(x9_1),(wrap64 (x10_1+1)),fr,H',⟨by have:=HK1.out;omega⟩,⟨Kd.S_below (Kd.S_mono HO_9.out (fun _ hk=>trivial)) gs⟩,⟨bw HB⟩⟩
    ·replace c11:=Bool.eq_false_iff.mpr c11
     subst c11
     rw[if_neg (show ¬ (false=true) by decide)]at H
     replace H:=ifn H;obtain⟨c14,H⟩:=H;have LMc14:=am c14;clear c14
     generalize hy320:(x9_1++[t316]:List (List Int))=y320 at H
     have Ny320:=am hy320.symm;clear hy320;have H':=am H;clear H
     have p315:0≤(x10_1:Int):=od
     have q315:x10_1 < (l3.length:Int):=od
     obtain⟨ad315,e315,hx315_0,hx315_1,hx315_2⟩:=Qo HR3.out x10_1 p315 q315
     cases e315
     replace hx315_0:=wcl HB hx315_0
     replace hx315_1:=wcl HB hx315_1
     replace hx315_2:=wcl HB hx315_2
     replace p315:=eq_true p315;replace q315:=eq_true q315
     go_wp2_with (first | ((with_reducible refine qt (f:=77) rfl ?_);refine gl 25 Try.func77 #[.int .i64 a0,.slice A2 l2.length c2,.agg #[.int .i64 ((qd l3 x10_1).f0.f0),.int .i64 ((qd l3 x10_1).f0.f1),.int .i64 ((qd l3 x10_1).f0.f2)]] ?_;(with_reducible refine(je.calls k1 a0 _ _ l2 ((qd l3 x10_1).f0.f0) ((qd l3 x10_1).f0.f1) ((qd l3 x10_1).f0.f2) t316 _ ?_ ?_ A9.out).mono ?_);exact Kd.C_below HR2.out (bw HB);exact HC2.out;rintro e w15 ⟨v317,rfl,ho0,hb⟩;refine⟨_,rfl,?_⟩;replace HO_9:=eS HO_9 (Kd.R_base ho0) hb;have HO318:=am (Kd.R_lower ho0 (bz HB));replace HB:=bq HB hb;(try clear hb);(try clear ho0);obtain⟨Ao16,co16,eo16⟩:=Kd.R_slice HO318.out;subst eo16) | ((with_reducible refine qt (f:=79) rfl ?_);refine gl 27 Try.func79 #[.slice Ao16 t316.length co16] ?_;(with_reducible refine(zl.calls k1 _ _ t316 false _ ?_ ?_ A10.out).mono ?_);exact Kd.C_below (Kd.R_reads' HO318.out).2.2 gs;exact(Kd.R_reads' HO318.out).2.1;rintro e w' ⟨rfl,⟨nd,rfl⟩⟩;refine⟨_,rfl,?_⟩) | ((with_reducible refine jr (b:=.append) (xs:=#[.tmp 29,.tmp 31]) rfl ?_);at_builtin;refine Kd.S_append (Kd.slice 3 (Kd.int .i64)) (w0:=w) w.heap.size rfl (.tmp 29) (.tmp 31) 47 23 (.slice none 0 0) 24 rfl Try.underlying47 Zu rfl (by decide) (by omega) u9 x9_1 t316 [.slice Ao16 t316.length co16] (fun _=>True) (fun k_=>some k_=(.slice Ao16 t316.length co16:Value).ownBlock) rfl rfl ?aP (fun k_ hk_=>((Kd.R_mono (ok':=fun k_=>((fun _=>True)) k_∧some k_≠(u9:Value).ownBlock) (Kd.R_apart' (HO318.out) (Kd.S_typed HO_9.out) (by decide)) (fun k_ hk=>⟨trivial,hk.2⟩))).1 k_ hk_.symm) ?aF ?aO ?aB ?aS ?aL ?_;(case aP=>exact Kd.M_row (Kd.R_mono (Kd.R_tight rfl (Kd.R_mono (ok':=fun k_=>((fun _=>True)) k_∧some k_≠(u9:Value).ownBlock) (Kd.R_apart' (HO318.out) (Kd.S_typed HO_9.out) (by decide)) (fun k_ hk=>⟨trivial,hk.2⟩))) (fun _ h_=>h_)));(case aB=>exact(bw HB));(case aF=>exact(fun _ _=>trivial));(case aO=>exact(oS_ HO_9 (fun k_ hk=>⟨trivial,fun e_=>hk.2 e_⟩)));(case aS=>exact(bz HB));(case aL=>have:=LMc14.out;omega);intro v321 w17 ho hb hg hat;rw[← Ny320.out]at ho;replace HB:=am (hb);have HO322:=am (ho);clear HO_9 HO318;clear ho hb hg hat))
     go_roundg k1
     case measure=>have:=HK1.out;omega
     case rel=>exact⟨(y320),(wrap64 (x10_1+1)),fr,H',⟨by have:=HK1.out;omega⟩,⟨wS HO322⟩,⟨bw HB⟩⟩
   ·rw[if_neg c7]at H
    have c7b0:=decide_eq_false c7;clear c7;obtain rfl:=Option.some.inj H;go_wp2;go_ret
    exact⟨_,fq,wS HO_9,bw HB⟩
theorem qef (w:World) (e:Nat) (base:Nat) (hb:base≤w.heap.size):(w.alloc (.cells #[] e)).ownsRow base e 1 (.slice (some ⟨w.heap.size,0,none⟩) 0 0) 0 []:=
 ⟨rfl,.inr ⟨w.heap.size,0,#[],rfl,hb,(by show (w.heap.push _)[w.heap.size]? =_;simp),Nat.le_refl _,Nat.zero_le _,rfl,rfl⟩⟩
theorem qc8 {w:World} {A:Option Addr} {n:Nat} {rows:List (List Int)} (h:Kd.C (Kd.slice 3 (Kd.int .i64)) w A n rows) (j:Nat) (hj:j < rows.length):∃ ad B c,A=some ad∧w.cell? (ad.add j)=some (.slice B (rows[j]).length c)∧(rows[j]).length≤c∧Kd.C (Kd.int .i64) w B (rows[j]).length rows[j]:=by
 obtain⟨hl,hm,hr⟩:=h
 obtain⟨ad,rfl,hc⟩:=hr (by omega)
 obtain⟨cs,_,⟨B,c,rfl,h1,h2⟩,hcell⟩:=hc j _ (List.getElem?_eq_getElem hj)
 refine⟨ad,B,c,rfl,?_,h1,h2⟩
 have:=hcell 0 (.slice B (rows[j]).length c) rfl
 simpa [Kd.slice] using this
theorem qaa {w1 w2:World} {g o:Nat} {v:Value} (hlt:g < w1.heap.size) (hb:Below w1.heap.size w1 w2) (hx:w1.cell? ⟨g,o,none⟩=some v):w2.cell? ⟨g,o,none⟩=some v:=
 (World.cell?_of_block (a:=⟨g,o,none⟩) (hb.block g hlt)).trans hx
def Zh.f (k:Nat) (a0:Int) (l1:List (List Int)):Option (List Int×Bool):=(qg.f k a0 l1 4).bind fun t=>
 if t.1.length=2 then (if (t.1.getD 0 []).length < 1000000∧(t.1.getD 1 []).length < 1000000 then some (t.1.getD 0 []++t.1.getD 1 [],true) else none) else some ([],false)
theorem Zh.mono :∀ a0 a1 k,LeO (Zh.f k a0 a1) (Zh.f (k+1) a0 a1):=by
 intro a0 a1 k
 unfold Zh.f
 exact LeO.bind (qg.mono _ _ _ _) fun _=>LeO.refl _
theorem Zh.calls (k:Nat) (a0:Int) (A1:Option Addr) (c1:Nat) (l1:List (List Int)) (r1:List Int) (r2:Bool) (w:World) (hr1:Kd.C (Kd.slice 3 (Kd.int .i64)) w A1 l1.length l1) (hc1:l1.length≤c1) (h:Zh.f k a0 l1=some (r1,r2)):
  Calls Try.prog 134 #[.int .i64 a0,.slice A1 l1.length c1] w fun e w'=>∃ v0_:Value,e=.returned (.tuple #[v0_,.bool r2])∧Kd.R (Kd.int .i64) 3 w' w.heap.size (fun _=>True) v0_ r1∧Below w.heap.size w w':=by
 obtain⟨⟨L,hs⟩,hred,h'⟩:=Option.bind_eq_some_iff.1 h
 clear h
 have HRED:=Lib.hid hred
 have H:=Lib.hid h'
 have HV:Hid (Kd.V (Kd.slice 3 (Kd.int .i64)) 23 w w.heap.size (fun k_=>k_ < w.heap.size) (.slice A1 l1.length c1) l1):=Lib.hid (Kd.V_mk hc1 (Kd.C_F (Kd.heap_slice 3 (Kd.heap_int .i64)) hr1))
 clear h' hred hr1 hc1
 go_enter Try.func134,Try.ntmps134
 go_wp2_with fail
 refine(qg.calls k a0 (fun k_=>k_ < w.heap.size) A1 c1 l1 4 L hs w HV.out HRED.out).mono ?_
 rintro e w1 ⟨v0,v1,rfl,ho0,_,hb⟩
 have HB:=Lib.hid hb
 by_cases h2:L.length=2
 ·obtain⟨x,y,rfl⟩:∃ x y,L=[x,y]:=by
   match L,h2 with
   | [x,y],_=>exact⟨x,y,rfl⟩
  obtain⟨g,c0,rfl,_,hgl,_⟩:=Kd.N_form ho0 (by simp)
  have HGL:=Lib.hid hgl
  clear hgl
  obtain⟨ad,B0,k0,e0,hx0,hb0,hC0⟩:=qc8 (Kd.F_now (Kd.N_F ho0)) 0 (by simp)
  obtain⟨_,B1,k1,e1,hx1,hb1,hC1⟩:=qc8 (Kd.F_now (Kd.N_F ho0)) 1 (by simp)
  injection e0 with e0
  subst e0
  injection e1 with e1
  subst e1
  rw[Jw]at hx0 hx1
  simp only[List.getElem_cons_zero,List.getElem_cons_succ]at hx0 hb0 hC0 hx1 hb1 hC1
  clear ho0 hb HV
  have HC0:=Lib.hid hC0
  have HC1:=Lib.hid hC1
  have HBN:Hid (x.length < 1000000∧y.length < 1000000∧r1=x++y∧r2=true):=Lib.hid (by
   have h:=H.out
   simp only[List.length_cons,List.length_nil,if_true,List.getD_cons_zero,List.getD_cons_succ]at h
   split at h
   ·next hh=>simp at h;exact⟨hh.1,hh.2,h.1.symm,h.2⟩
   ·simp at h)
  clear H hC0 hC1 hb0 hb1 h2
  go_wp2_with fail
  go_region_held3 (fun w'=>w'.cell? ⟨g,0,none⟩=some (.slice B0 x.length k0)∧w'.cell? ⟨g,1,none⟩=some (.slice B1 y.length k1)) (first | exact⟨qaa HGL.out hb2 hx0,qaa HGL.out hb2 hx1⟩ | exact⟨qaa HGL.out hb1 hx0,qaa HGL.out hb1 hx1⟩ | go_keep)
   (first
    | ((refine Kd.R_append_rows_step (Kd.int .i64) (Rr:=fun x c=>c=[Value.int .i64 x]) (w0:=w1) w1.heap.size (by rfl) (.tmp 18) (.tmp 21) 23 3 (.int .i64 0) 8 (by rfl) Try.underlying23 Jm rfl (by decide) (by decide) (.slice (some ⟨w1.heap.size,0,none⟩) 0 0) [] x B0 x.length k0 (fun _=>True) (fun _=>False) (by rfl) (by rfl) ⟨fun _ _=>trivial,[],qef _ 3 _ (Nat.le_refl _),Reps.none _ _⟩ (Kd.C_alloc (Kd.C_drew HC0.out) _) (fun _ _ h=>h) (fun _ h=>h.elim) (fun _ _=>trivial) (((Below.refl _ _).drew).alloc (Nat.le_refl _) _) (by simp) (by have:=HBN.out.1;simp;omega) ?_;intro v2 w2 hown1 hb1 hg1 hat1))
    | ((refine Kd.R_append_rows_step (Kd.int .i64) (Rr:=fun x c=>c=[Value.int .i64 x]) (w0:=w1) w1.heap.size (by rfl) (.tmp 22) (.tmp 25) 23 3 (.int .i64 0) 8 (by rfl) Try.underlying23 Jm rfl (by decide) (by decide) v2 ([]++x) y B1 y.length k1 (fun _=>True) (fun _=>False) (by rfl) (by rfl) hown1 (Kd.C_below HC1.out hb1) (fun _ _ h=>h) (fun _ h=>h.elim) (fun _ _=>trivial) hb1 hb1.size (by have:=HBN.out.1;have:=HBN.out.2.1;simp;omega) ?_;intro v3 w3 hown2 hb2 hg2 hat2)))
  obtain⟨_,_,rfl,rfl⟩:=HBN.out
  go_wp2
  go_ret2
  exact⟨v3,rfl,Kd.R_lower hown2 HB.out.size,HB.out.trans (hb2.mono HB.out.size)⟩
 ·obtain⟨A0,c0,rfl⟩:=Kd.N_slice ho0
  have HR:Hid (r1=[]∧r2=false):=Lib.hid (by
   have h:=H.out
   rw[if_neg h2]at h
   simp at h
   exact h)
  have h3:((L.length:Int) == 2)=false:=beq_eq_false_iff_ne.mpr (by omega)
  have h4:((L.length:Int) !=2)=true:=bne_iff_ne.mpr (by omega)
  clear ho0 hb HV H h2
  obtain⟨rfl,rfl⟩:=HR.out
  go_wp2
  go_ret2
  exact⟨_,rfl,Kd.R_lower ⟨fun _ _=>trivial,[],qef w1 3 _ (Nat.le_refl _),Reps.none _ _⟩ HB.out.size,HB.out.trans ((Below.refl _ _).alloc HB.out.size _)⟩
end Go.Proofs.Ytmgbpmihbljngaa.PA
