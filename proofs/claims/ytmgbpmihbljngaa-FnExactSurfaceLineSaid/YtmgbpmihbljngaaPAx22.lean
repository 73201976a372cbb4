-- Written by xprint.py, a program of this claim's own (over the kit's print.py)
import Derived.Test.YtmgbpmihbljngaaPAx20
import Derived.Test.YtmgbpmihbljngaaPAx21
namespace Go.Proofs.Ytmgbpmihbljngaa.PA
set_option maxHeartbeats 8000000
set_option maxRecDepth 100000
open Go.RowKit Go.Proofs.YtmgbpmihbljngaaW.PrintWords Go.Proofs.YtmgbpmihbljngaaW.PrintLast Go.Proofs.YtmgbpmihbljngaaW.PrintMore
attribute [local go_sem] Qs Qr Qx Qw Qf Qe Qq Qp
set_option linter.unusedVariables false
set_option linter.unusedSimpArgs false
theorem qm2 {w:World} {b:Nat} {x y z:Int} {t:TypeId} (h:w.heap[b]? =some (.cells #[.int .i64 x,.int .i64 y,.int .i64 z] t (0,0))):Kd.C (Kd.int .i64) w (some ⟨b,0,none⟩) 3 [x,y,z]:=by
 refine Kd.C_of_reads (d:=(0:Int)) (h1:=fun _=>rfl) ⟨rfl,by omega,fun _=>⟨_,rfl,fun j hj=>?_⟩⟩
 have e:=cell_of_row w b j _ _ _ h
 rcases (show j=0∨j=1∨j=2 by omega) with rfl | rfl | rfl<;>exact e
def sf2.T1 :Bool×List (List Nat×List Nat):=(true,[([],[]),([],[]),([],[]),([2],[2]),([0,1,3],[0,1,3]),([4],[4]),([5,4,0,1,2,3,4,5],[5])])
def sf2.B1 :List Nat:=[0,0,0,4,15,31,63]
theorem sf2.tab1 :rtab .any (Z0 Try.f140 1)=sf2.T1:=by kernel_rfl
theorem sf2.bits1 :Qj sf2.T1.2 sf2.B1=true:=by kernel_rfl
def sf3.T1 :Bool×List (List Nat×List Nat):=(true,[([],[]),([],[]),([],[]),([2],[2]),([3],[3]),([4],[4]),([5],[5]),([0,1,6,4],[0,1,6]),([7],[7]),([8,7,0,1,2,3,4,5,6,7,8],[8])])
def sf3.B1 :List Nat:=[0,0,0,4,12,28,60,127,255,511]
theorem sf3.tab1 :rtab .any (Z0 Try.f143 1)=sf3.T1:=by kernel_rfl
theorem sf3.bits1 :Qj sf3.T1.2 sf3.B1=true:=by kernel_rfl
theorem sf2.calls (k:Nat) (p:Int) (gp gl:Nat) (A:Option Addr) (c:Nat) (l:List Int) (x0 x1 x2 t:Int) (w:World) (hp:w.cell? ⟨gp,0,none⟩=some (.int .i64 p)) (hl:w.cell? ⟨gl,0,none⟩=some (.slice A l.length c)) (hc:Kd.C (Kd.int .i64) w A l.length l) (hlc:l.length≤c) (h:jh.f k p l [x0,x1,x2]=some t):
  Calls Try.prog 140 #[.agg #[.int .i64 x0,.int .i64 x1,.int .i64 x2],.pointer (some ⟨gp,0,none⟩),.pointer (some ⟨gl,0,none⟩)] w fun e w'=>e=.returned (.bool (t == 0))∧Below w.heap.size w w':=by
 have hu43:=Try.underlying43
 have hu41:=Try.underlying41
 have HX:=am (heap_alloc_last w (.cells #[.int .i64 x0,.int .i64 x1,.int .i64 x2] 43))
 have HB:=am (show Below w.heap.size w (w.alloc (.cells #[.int .i64 x0,.int .i64 x1,.int .i64 x2] 43)) from jx (Below.refl _ _) _)
 have hp1:=wcl HB hp
 have hl1:=wcl HB hl
 have HC:=am (Kd.C_below hc HB.out)
 have HLC:=am hlc
 have HD:=am h
 clear hp hl hc hlc h
 go_enter Try.func140,Try.ntmps140
 go_upto_region 1 with fail
 generalize w.alloc (.cells #[.int .i64 x0,.int .i64 x1,.int .i64 x2] 43)=w1 at*
 have hS:(fun w':World=>w'.cell? ⟨gp,0,none⟩=some (.int .i64 p)∧w'.cell? ⟨gl,0,none⟩=some (.slice A l.length c)) w1.drew:=⟨hp1,hl1⟩
 refine st 7 (fun w':World=>w'.cell? ⟨gp,0,none⟩=some (.int .i64 p)∧w'.cell? ⟨gl,0,none⟩=some (.slice A l.length c)) [] sf2.tab1 sf2.bits1 hS fun hHeld HT_ HW_=>?_
 clear hS hp1 hl1;refine pz 2 7 HT_ ?_;refine pz 3 8 HT_ ?_;refine tk 0 5 HT_ HW_ hHeld ?_;refine tk 1 6 HT_ HW_ hHeld ?_
 refine on 4 (some 9) HT_ fun K hK=>?_
 refine gs_ Try.func81 #[.int .i64 p,.slice A l.length c,.slice (some ⟨w.heap.size,0,none⟩) 3 3] ?_
 refine(jh.calls k p A c l (some ⟨w.heap.size,0,none⟩) 3 [x0,x1,x2] t _ (wC HC) HLC.out (qm2 (qw HX.out)) (Nat.le_refl _) HD.out).mono ?_
 rintro e w' ⟨rfl,⟨nd,rfl⟩⟩
 refine⟨_,rfl,?_⟩
 refine hK.out _ _ hHeld fun hHeld=>nz ?_
 clear hK K;refine pz 5 10 HT_ ?_;refine pz 6 4 HT_ ?_
 refine Q3 (Qa HT_.out (by kernel_rfl)) ?_
 go_wp2;go_ret
 exact⟨fq,bw HB⟩
theorem qd1 {w:World} {A:Option Addr} {n:Nat} {rows:List (List Int)} (h:Kd.C (Kd.slice 3 (Kd.int .i64)) w A n rows) (j:Nat) (hj:j < rows.length):∃ ad B c,A=some ad∧w.cell? (ad.add j)=some (.slice B (rows.getD j []).length c)∧(rows.getD j []).length≤c∧Kd.C (Kd.int .i64) w B (rows.getD j []).length (rows.getD j []):=by
 obtain⟨hl,hm,hr⟩:=h
 obtain⟨ad,rfl,hc⟩:=hr (by omega)
 obtain⟨cs,_,⟨B,c,rfl,h1,h2⟩,hcell⟩:=hc j _ (List.getElem?_eq_getElem hj)
 have e:rows.getD j []=rows[j]:=by rw[List.getD_eq_getElem?_getD,List.getElem?_eq_getElem hj];rfl
 rw[e]
 refine⟨ad,B,c,rfl,?_,h1,h2⟩
 have:=hcell 0 (.slice B (rows[j]).length c) rfl
 simpa [Kd.slice] using this
theorem sf3.calls (k:Nat) (p:Int) (gp gl:Nat) (A:Option Addr) (c:Nat) (l:List Int) (X:S43) (sq:List (List Int)) (t:Int) (w:World) (hp:w.cell? ⟨gp,0,none⟩=some (.int .i64 p)) (hl:w.cell? ⟨gl,0,none⟩=some (.slice A l.length c)) (hc:Kd.C (Kd.int .i64) w A l.length l) (hlc:l.length≤c) (hq:zn.f k [X]=some sq) (h0:0 < sq.length) (h:jh.f k p l (sq.getD 0 [])=some t):
  Calls Try.prog 143 #[.agg #[.int .i64 X.f0.f0,.int .i64 X.f0.f1,.int .i64 X.f0.f2],.pointer (some ⟨gp,0,none⟩),.pointer (some ⟨gl,0,none⟩)] w fun e w'=>e=.returned (.bool (t == 0))∧Below w.heap.size w w':=by
 have hu43:=Try.underlying43
 have hu41:=Try.underlying41
 have hu34:=Try.underlying34
 have hu47:=Try.underlying47
 have HX:=am (heap_alloc_last w (.cells #[.int .i64 X.f0.f0,.int .i64 X.f0.f1,.int .i64 X.f0.f2] 43))
 have HB:=am (show Below w.heap.size w (w.alloc (.cells #[.int .i64 X.f0.f0,.int .i64 X.f0.f1,.int .i64 X.f0.f2] 43)) from jx (Below.refl _ _) _)
 have hp1:=wcl HB hp
 have hl1:=wcl HB hl
 have HC:=am (Kd.C_below hc HB.out)
 have HLC:=am hlc
 have HD:=am h
 have HQ:=am hq
 have H0:=am h0
 clear hp hl hc hlc h hq h0
 go_enter Try.func143,Try.ntmps143
 go_upto_region 1 with fail
 generalize w.alloc (.cells #[.int .i64 X.f0.f0,.int .i64 X.f0.f1,.int .i64 X.f0.f2] 43)=w1 at*
 have HW1:=am (Below.refl w1.heap.size w1)
 have x0:w1.cell? ⟨w.heap.size,0,none⟩=some (.int .i64 X.f0.f0):=(qe HX.out 0).trans rfl
 have x1:w1.cell? ⟨w.heap.size,1,none⟩=some (.int .i64 X.f0.f1):=(qe HX.out 1).trans rfl
 have x2:w1.cell? ⟨w.heap.size,2,none⟩=some (.int .i64 X.f0.f2):=(qe HX.out 2).trans rfl
 have HP:=Lib.hid (show ∀ w':World,Below w1.heap.size w1 w'→w'.cell? ⟨gp,0,none⟩=some (.int .i64 p)∧w'.cell? ⟨gl,0,none⟩=some (.slice A l.length c)∧w'.cell? ⟨w.heap.size,0,none⟩=some (.int .i64 X.f0.f0)∧w'.cell? ⟨w.heap.size,1,none⟩=some (.int .i64 X.f0.f1)∧w'.cell? ⟨w.heap.size,2,none⟩=some (.int .i64 X.f0.f2) from fun w' hb=>⟨wcl (am hb) hp1,wcl (am hb) hl1,wcl (am hb) x0,wcl (am hb) x1,wcl (am hb) x2⟩)
 refine st 10 (fun w':World=>w'.cell? ⟨gp,0,none⟩=some (.int .i64 p)∧w'.cell? ⟨gl,0,none⟩=some (.slice A l.length c)∧w'.cell? ⟨w.heap.size,0,none⟩=some (.int .i64 X.f0.f0)∧w'.cell? ⟨w.heap.size,1,none⟩=some (.int .i64 X.f0.f1)∧w'.cell? ⟨w.heap.size,2,none⟩=some (.int .i64 X.f0.f2)) [] sf3.tab1 sf3.bits1 (HP.out w1.drew (Za (Below.refl _ _))) fun hHeld HT_ HW_=>?_
 clear hp1 hl1 x0 x1 x2
 refine tk 0 5 HT_ HW_ hHeld ?_;refine tk 1 6 HT_ HW_ hHeld ?_;refine tk 2 7 HT_ HW_ hHeld ?_
 clear hHeld
 refine on 3 (some 8) HT_ fun K hK=>?_
 refine Kd.R_lit_step k43 (w0:=w1) w1.heap.size 43 ?hg (N:=8) ?hd (xs:=[X]) (inner:=[.int .i64 X.f0.f0,.int .i64 X.f0.f1,.int .i64 X.f0.f2]) (ok:=fun _=>True) (okp:=fun _=>True) ?hr ?hp (fun _ hk=>hk) trivial (Za (Below.refl _ _)) (Nat.le_refl _) (by simp) ?_
 (case hd=>rfl)
 (case hg=>rfl)
 (case hr=>first | (go_simp;done) | (go_simp;rfl))
 (case hp=>exact Reps.c3 (Jb _ _ _ X) (Reps.none _ _))
 intro v8 w5 ho5 hb5 hg5 hnew5
 show K (Act.put _ (some 8) v8) w5
 refine hK.out _ _ (HP.out w5 hb5) fun hHeld=>nz ?_
 obtain⟨A8,c8,e8⟩:=Kd.R_slice ho5
 subst e8
 have HC8:=am (Kd.R_reads' ho5).2.2
 have HL8:=am (Kd.R_reads' ho5).2.1
 have HW5:=am hb5
 clear hK K ho5 hb5 hg5 hnew5 HW1 hHeld
 refine on 4 (some 9) HT_ fun K hK=>?_
 refine gs_ Try.func113 #[.slice A8 ([X]:List S43).length c8] ?_
 refine(zn.calls k A8 c8 [X] sq _ HC8.out HL8.out HQ.out).mono ?_
 rintro e w6 ⟨v9,rfl,hv9,hb9⟩
 have HW6:=bq HW5 hb9
 refine⟨_,rfl,?_⟩
 refine hK.out _ _ (HP.out w6 HW6.out) fun hHeld=>nz ?_
 obtain⟨A9,c9,e9⟩:=Kd.R_slice (Kd.S_R hv9)
 subst e9
 have HC9:=am (Kd.S_reads' hv9).2.2
 clear hK K hv9 hb9 HW5 HC8 HL8 hHeld
 obtain⟨adB,B,cB,eB,b0,hB2,hB3⟩:=qd1 HC9.out 0 H0.out
 subst eB
 obtain⟨bi,hbi⟩:∃ b,sq.getD 0 []=b:=⟨_,rfl⟩
 rw[hbi]at b0 hB2 hB3 HD
 have hq0:(0 < sq.length)=True:=eq_true H0.out
 have hq1:((0:Int) < (sq.length:Int))=True:=eq_true (by have:=H0.out;omega)
 refine pz 5 10 HT_ ?_
 have b1:w6.cell? adB=some (.slice B bi.length cB):=by have:=b0;rwa [show adB.add 0=adB from rfl]at this
 refine on 6 (some 11) HT_ fun K hK=>?_
 refine qbm (w1:=?_) (v:=?_) (by rfl) rfl ?_ ?_
 rotate_left 2
 ·go_simp
  constructor
  ·rfl
  ·rfl
 refine hK.out _ _ (HP.out w6 HW6.out) fun hHeld=>nz ?_
 clear hK K b0 b1 hq0 hq1 hHeld
 refine on 7 (some 12) HT_ fun K hK=>?_
 refine gs_ Try.func81 #[.int .i64 p,.slice A l.length c,.slice B bi.length cB] ?_
 refine(jh.calls k p A c l B cB bi t _ (Kd.C_below HC.out HW6.out) HLC.out hB3 hB2 HD.out).mono ?_
 rintro e w' ⟨rfl,⟨nd,rfl⟩⟩
 refine⟨_,rfl,?_⟩
 have HW7:=bq HW6 (show Below w6.heap.size w6 (w6.drewN nd) from Drawn0.below ⟨nd,rfl⟩)
 refine hK.out _ _ (HP.out _ HW7.out) fun hHeld=>nz ?_
 clear hK K hHeld;refine pz 8 13 HT_ ?_;refine pz 9 4 HT_ ?_
 refine Q3 (Qa HT_.out (by kernel_rfl)) ?_
 go_wp2;go_ret
 exact⟨fq,jg HB.out HW7.out⟩
def sfR (k:Nat) (p:Int) (base:List (List Int)) (X:S43) (c:Nat):Nat→Nat→List Int→Option (List Int)
 | 0,_,acc=>some acc
 | d+1,i,acc=>(Qc.f k p (base.getD i []) X.f0.f0 X.f0.f1 X.f0.f2).bind fun t=>if c < t.length then sfR k p base X c d (i+1) (acc++[rd t (c:Int)]) else none
def sfRs (k:Nat) (p:Int) (base:List (List Int)) (X:S43):Nat→Nat→List (List Int)→Option (List (List Int))
 | 0,_,acc=>some acc
 | d+1,c,acc=>(sfR k p base X c base.length 0 []).bind fun row=>sfRs k p base X d (c+1) (acc++[row])
def sfOn (k:Nat) (p:Int) (line:List Int) (X:S43):Option Bool:=(jh.f k p line [X.f0.f0,X.f0.f1,X.f0.f2]).bind fun t=>some (t == 0)
def sfOq (k:Nat) (p:Int) (con:List Int) (X:S43):Option Bool:=(zn.f k [X]).bind fun sq=>if 0 < sq.length then (jh.f k p con (sq.getD 0 [])).bind fun t=>some (t == 0) else none
def sfL (on:S43→Option Bool) (k:Nat) (p:Int) (base:List (List Int)) (six:List S43):List S43→List (List Int)→Option (List (List Int))
 | [],acc=>some acc
 | X :: r,acc=>(on X).bind fun b=>if b=true then (Qt.f k six X.f0.f0 X.f0.f1 X.f0.f2).bind fun c=>if c=true then sfL on k p base six r acc else (jl.f k p base X.f0.f0 X.f0.f1 X.f0.f2).bind fun row=>if 0 < row.length then sfL on k p base six r (acc++[row]) else none else sfL on k p base six r acc
def qeg (on:S43→Option Bool) (k:Nat) (p:Int) (base:List (List Int)) (six:List S43):Option (List Int):=
 (qo.f k p).bind fun all=>if all.length≤1000000 then (sfL on k p base six all []).bind fun rows=>jk.f k p rows else none
def sfPt (six:List S43) (i:Int):S43:=qd six i
def zd.f (k:Nat) (p:Int) (six:List S43) (base:List (List Int)) (kk:Int):Option (List Int):=
 if six.length≤1000∧0 < base.length∧base.length≤1000 then
  if kk < 6 then (if 0≤kk∧kk < six.length then (sfRs k p base (sfPt six kk) 3 0 []).bind fun rows=>jk.f k p rows else none)
  else if kk < 21 then (jw.f k (wrap64 (kk - 6))).bind fun ij=>if (0≤ij.1∧ij.1 < six.length)∧0≤ij.2∧ij.2 < six.length then (Qm.f (sfPt six ij.1).f0.f0 (sfPt six ij.1).f0.f1 (sfPt six ij.1).f0.f2 (sfPt six ij.2).f0.f0 (sfPt six ij.2).f0.f1 (sfPt six ij.2).f0.f2).bind fun line=>qeg (sfOn k p line) k p base six else none
  else if kk - 21 < six.length then (Qz.f k p (six.take (kk - 21).toNat++six.drop ((kk - 21).toNat+1))).bind fun con=>qeg (sfOq k p con) k p base six else none
 else none
theorem qin (k:Nat) (p:Int) (base:List (List Int)) (X:S43) (c:Nat):∀ d i acc,LeO (sfR k p base X c d i acc) (sfR (k+1) p base X c d i acc)
 | 0,_,_=>LeO.refl _
 | d+1,i,acc=>by rw[sfR,sfR];exact LeO.bind (Qc.mono _ _ _ _ _ _) fun _=>LeO.ite (qin k p base X c d _ _) (LeO.refl _)
theorem qg4 (k:Nat) (p:Int) (base:List (List Int)) (X:S43):∀ d c acc,LeO (sfRs k p base X d c acc) (sfRs (k+1) p base X d c acc)
 | 0,_,_=>LeO.refl _
 | d+1,c,acc=>by rw[sfRs,sfRs];exact LeO.bind (qin _ _ _ _ _ _ _ _) fun _=>qg4 k p base X d _ _
theorem qml (k:Nat) (p:Int) (line:List Int) (X:S43):LeO (sfOn k p line X) (sfOn (k+1) p line X):=LeO.bind (jh.mono _ _ _ _) fun _=>LeO.refl _
theorem qmy (k:Nat) (p:Int) (line:List Int) (X:S43):LeO (sfOq k p line X) (sfOq (k+1) p line X):=LeO.bind (zn.mono _ _) fun _=>LeO.ite (LeO.bind (jh.mono _ _ _ _) fun _=>LeO.refl _) (LeO.refl _)
theorem qcq {on on':S43→Option Bool} (ho:∀ X,LeO (on X) (on' X)) (k:Nat) (p:Int) (base:List (List Int)) (six:List S43):∀ l acc,LeO (sfL on k p base six l acc) (sfL on' (k+1) p base six l acc)
 | [],_=>LeO.refl _
 | X :: r,acc=>by
  rw[sfL,sfL]
  exact LeO.bind (ho X) fun _=>LeO.ite (LeO.bind (Qt.mono _ _ _ _ _) fun _=>LeO.ite (qcq ho k p base six r _) (LeO.bind (jl.mono _ _ _ _ _ _) fun _=>LeO.ite (qcq ho k p base six r _) (LeO.refl _))) (qcq ho k p base six r _)
theorem qe3 {on on':S43→Option Bool} (ho:∀ X,LeO (on X) (on' X)) (k:Nat) (p:Int) (base:List (List Int)) (six:List S43):LeO (qeg on k p base six) (qeg on' (k+1) p base six):=
 LeO.bind (qo.mono _ _) fun _=>LeO.ite (LeO.bind (qcq ho _ _ _ _ _ _) fun _=>jk.mono _ _ _) (LeO.refl _)
theorem zd.mono :∀ a0 a1 a2 a3 k,LeO (zd.f k a0 a1 a2 a3) (zd.f (k+1) a0 a1 a2 a3):=fun a0 a1 a2 a3 k=>by
 unfold zd.f
 exact LeO.ite (LeO.ite (LeO.ite (LeO.bind (qg4 _ _ _ _ _ _ _) fun _=>jk.mono _ _ _) (LeO.refl _)) (LeO.ite (LeO.bind (jw.mono _ _) fun _=>LeO.ite (LeO.bind (LeO.refl _) fun _=>qe3 (qml _ _ _) _ _ _ _) (LeO.refl _)) (LeO.ite (LeO.bind (Qz.mono _ _ _) fun _=>qe3 (qmy _ _ _) _ _ _ _) (LeO.refl _)))) (LeO.refl _)
theorem qlf {i d n:Nat} (h:i+(d+1)=n):n - (((i+1:Nat):Int)).toNat < n - ((i:Int)).toNat:=by omega
theorem qay {i n:Nat} (h:i < n):n - (((i+1:Nat):Int)).toNat < n - ((i:Int)).toNat:=by omega
def zd.T10 :Bool×List (List Nat×List Nat):=(true,[([],[]),([],[]),([],[]),([],[]),([],[]),([3,4],[3,4]),([5],[5]),([1,2,6],[1,2,6]),([],[]),([7,8],[7,8]),([9],[9]),([10],[10]),([0,11,7],[0,11]),([12,12,0,1,2,3,4,5,6,7,8,9,10,11,12],[0,12])])
def zd.B10 :List Nat:=[0,0,0,0,0,24,56,126,0,510,1022,2046,4095,8191]
theorem zd.tab10 :rtab .any (Z0 Try.f90 10)=zd.T10:=by kernel_rfl
theorem zd.bits10 :Qj zd.T10.2 zd.B10=true:=by kernel_rfl
def zd.T18 :Bool×List (List Nat×List Nat):=(true,[([],[]),([],[]),([0,1],[0,1]),([2],[2]),([],[]),([],[]),([4,5],[4,5]),([6],[6]),([3,7],[3,7]),([],[]),([9,8,8,0,1,2,3,4,5,6,7,8,9],[8,9])])
def zd.B18 :List Nat:=[0,0,3,7,0,0,48,112,255,0,1023]
theorem zd.tab18 :rtab .any (Z0 Try.f90 18)=zd.T18:=by kernel_rfl
theorem zd.bits18 :Qj zd.T18.2 zd.B18=true:=by kernel_rfl
theorem zd.calls (k:Nat) (a0:Int) (A1:Option Addr) (c1:Nat) (l1:List S43) (A2:Option Addr) (c2:Nat) (l2:List (List Int)) (a3:Int) (r:List Int) (w:World) (hr1:Kd.C k43 w A1 l1.length l1) (hc1:l1.length≤c1) (hr2:Kd.C (Kd.slice 3 (Kd.int .i64)) w A2 l2.length l2) (hc2:l2.length≤c2) (h:zd.f k a0 l1 l2 a3=some r):
  Calls Try.prog 90 #[.int .i64 a0,.slice A1 l1.length c1,.slice A2 l2.length c2,.int .i64 a3] w fun e w'=>∃ v0_:Value,e=.returned (v0_)∧Kd.R (Kd.int .i64) 3 w' w.heap.size (fun _=>True) v0_ r∧Below w.heap.size w w':=by
 have hu43:=Try.underlying43
 have hu41:=Try.underlying41
 have hu34:=Try.underlying34
 have hu47:=Try.underlying47
 have hu23:=Try.underlying23
 have HR1:=am hr1
 have HC1:=am hc1
 have HR2:=am hr2
 have HC2:=am hc2
 have HB:=am (Below.refl w.heap.size w)
 unfold zd.f at h
 by_cases hs:l1.length≤1000∧0 < l2.length∧l2.length≤1000
 rotate_left
 ·rw[if_neg hs]at h;cases h
 rw[if_pos hs]at h
 have HS:=am hs
 have HF:=am h
 clear hr1 hc1 hr2 hc2 hs h
 go_enter Try.func90,Try.ntmps90
 go_upto_region 2 with (first
  | ((with_reducible refine zb (N:=4) rfl ?_);refine xe_ 4 3 #[.int .i64 a0] ?_;intro g4 hg w3 hbox hb;have BK4:=am (hbox);have GE4:=am ((by rw[hg];exact(bz HB):w.heap.size≤g4));replace HB:=bq HB hb;clear hb hbox hg)
  | ((with_reducible refine zb (N:=22) rfl ?_);refine Kd.R_lit (Kd.slice 3 (Kd.int .i64)) _ 23 ?hg (N:=22) ?hd (xs:=([]:List (List Int))) (inner:=[]) (ok:=fun _=>True) (okp:=fun _=>True) ?hr ?hp (fun _ hk=>hk) trivial (Below.refl _ _) (Nat.le_refl _) (by simp) ?_;(case hd=>rfl);(case hg=>rfl);(case hr=>first | (go_simp;done) | (go_simp;rfl));(case hp=>exact(Reps.none _ _));intro v9 w2 ho9 hb9 hg9 hnew9;have HO9:=am (Kd.R_lower ho9 (bz HB));replace BK4:=am (qv (pk_ BK4) hb9);replace HB:=bq HB hb9;clear ho9 hb9 hg9 hnew9))
 have h:=HF.out
 clear HF
 by_cases c6:a3 < 6
 ·rw [if_pos c6] at h
  by_cases ck:0≤a3∧a3 < l1.length
  rotate_left
  ·rw[if_neg ck]at h;cases h
  rw[if_pos ck]at h
  obtain⟨rows,hrows,hspan⟩:=Option.bind_eq_some_iff.1 h
  have HROW:=am hrows
  have HSPAN:=am hspan
  have d6:decide (a3 < 6)=true:=decide_eq_true c6
  obtain⟨adX,eX,x0,x1,x2⟩:=Qo HR1.out a3 ck.1 ck.2
  subst eX
  have X0:=am x0
  have X1:=am x1
  have X2:=am x2
  have HCK:=am ck
  clear h hrows hspan c6 ck x0 x1 x2
  unfold sfPt at HROW
  generalize qd l1 a3=X at X0 X1 X2 HROW
  go_wp2
  go_loopw [9,25] (fun v9 v25 w'=>∃ (d c:Nat) (acc:List (List Int)),v25=.int .i64 (c:Int)∧qf (c+d=3)∧qf (acc.length=c)∧qf (sfRs k a0 l2 X d c acc=some rows)∧qf (Kd.R (Kd.slice 3 (Kd.int .i64)) 23 w' w.heap.size (fun _=>True) v9 acc)∧qf (w'.heap[g4]? =some (.cells #[.int .i64 a0] 3 (0,0)))∧qf (Below w.heap.size w w')) (fun _ v25 _=>3 - (intOf v25).toNat)
  case atStart=>exact⟨3,0,[],rfl,⟨by omega⟩,⟨rfl⟩,HROW,⟨wR HO9⟩,⟨pk_ BK4⟩,⟨bw HB⟩⟩
  case round=>
   clear HROW HO9 HB BK4
   obtain⟨d,c,acc,rfl,HD,HAC,HROW,HO9,BK4,HB⟩:=hrel
   cases d with
   | zero=>
    have hlt:decide ((c:Int) < 3)=false:=decide_eq_false (by have:=HD.out;omega)
    have hr:=HROW.out
    rw[sfRs]at hr
    obtain rfl:=Option.some.inj hr
    clear hr
    obtain⟨A9,c9,e9⟩:=Kd.R_slice HO9.out
    subst e9
    have y4:=(qe BK4.out 0).trans rfl
    go_wp2_with fail
    refine(jk.calls k a0 A9 c9 acc r _ (Kd.R_reads' HO9.out).2.2 (Kd.R_reads' HO9.out).2.1 HSPAN.out).mono ?_
    rintro e w5 ⟨v5,rfl,hv5,hb5⟩
    have HB5:=bq HB hb5
    have HV5:=am (Kd.R_lower hv5 (bz HB))
    clear hv5 hb5
    go_wp2_with fail
    go_ret
    exact⟨_,fq,wR HV5,bw HB5⟩
   | succ d=>
    have hlt:decide ((c:Int) < 3)=true:=decide_eq_true (by have:=HD.out;omega)
    obtain⟨row,hrow,hn⟩:=Option.bind_eq_some_iff.1 (show _=some rows by have:=HROW.out;rwa [sfRs]at this)
    have HR:=am hrow
    have HN:=am hn
    clear hrow hn HROW
    have HO9b:=am (Kd.R_mono (Kd.R_bound HO9.out) (fun k h=>h.2.2.1))
    obtain⟨w4,e4⟩:∃ x,x=wr:=⟨_,rfl⟩
    subst e4
    have HW4:=am (Below.refl w4.heap.size w4)
    go_wp2_with (first
     | ((with_reducible refine zb (N:=28) rfl ?_);refine Kd.R_lit (Kd.int .i64) _ 3 ?hg (N:=28) ?hd (xs:=([]:List Int)) (inner:=[]) (ok:=fun _=>True) (okp:=fun _=>True) ?hr ?hp (fun _ hk=>hk) trivial (Below.refl _ _) (Nat.le_refl _) (by simp) ?_;(case hd=>rfl);(case hg=>rfl);(case hr=>first | (go_simp;done) | (go_simp;rfl));(case hp=>exact(Reps.none _ _));intro v11 w5 ho13 hb5 hg5 hnew5)
     | go_in)
    have HR11:=am (Kd.R_lower ho13 (bz HW4))
    have HW5:=bq HW4 hb5
    clear ho13 hb5 hg5 hnew5 hlt
    go_loopw [11,31] (fun v11 v31 w'=>∃ (d2 i:Nat) (ra:List Int),v31=.int .i64 (i:Int)∧qf (i+d2=l2.length)∧qf (ra.length=i)∧qf (sfR k a0 l2 X c d2 i ra=some row)∧qf (Kd.R (Kd.int .i64) 3 w' w4.heap.size (fun _=>True) v11 ra)∧qf (Below w4.heap.size w4 w')) (fun _ v31 _=>l2.length - (intOf v31).toNat)
    case atStart=>exact⟨l2.length,0,[],rfl,⟨by omega⟩,⟨rfl⟩,HR,⟨wR HR11⟩,⟨bw HW5⟩⟩
    case round=>
     clear HR HR11 HW5 HW4
     obtain⟨d2,i,ra,rfl,HD2,HRL,HR,HR11,HW5⟩:=hrel
     cases d2 with
     | zero=>
      have nlt:(i < l2.length)=False:=eq_false (by have:=HD2.out;omega)
      have hlt2:decide ((i:Int) < (l2.length:Int))=false:=decide_eq_false (by have:=HD2.out;omega)
      have hr:=HR.out
      rw[sfR]at hr
      obtain rfl:=Option.some.inj hr
      clear hr
      obtain⟨gr,capr,rfl,hgr,_,_⟩:=Kd.R_form HR11.out (by have:=HRL.out;have:=HD2.out;have:=HS.out;omega)
      have HGR:=am hgr
      have HR14:=am (Kd.R_lower HR11.out (bz HB))
      have HO10:=am (Kd.R_below HO9b.out HW5.out)
      have BK5:=am (qv BK4.out HW5.out)
      have HB10:=bq HB HW5.out
      clear hgr HR11 HO9b HO9 HB HW5 BK4
      go_upto_region 12 with fail
      iterate 10 go_step
      refine Kd.R_append (Kd.slice 3 (Kd.int .i64)) (w0:=w) w.heap.size rfl (.tmp 49) (.tmp 51) 47 23 (.slice none 0 0) 24 rfl hu47 Zu rfl (by decide) (by omega) u9 acc ra [.slice (some ⟨gr,0,none⟩) ra.length capr] (fun _=>True) (fun k=>some k=(Value.slice (some ⟨gr,0,none⟩) ra.length capr).ownBlock) rfl rfl ?aP (fun k hk=>⟨trivial,fun e=>by have h1:=HO10.out.1 k e.symm;have h2:k=gr:=Option.some.inj hk;have:=HGR.out;omega⟩) ?aF ?aO ?aB ?aS ?aL ?_
      (case aP=>exact⟨_,rfl,fun k hk=>hk.symm,HR14.out.2⟩)
      (case aB=>exact HB10.out)
      (case aF=>exact(fun _ _=>trivial))
      (case aO=>exact Kd.R_mono HO10.out (fun _ _=>trivial))
      (case aS=>exact HB10.out.size)
      (case aL=>have:=HAC.out;have:=HD.out;omega)
      intro v9' w9 ho9 hb9 hg9 hn9
      have BK6:=am (Q2 (pk_ BK5) hg9 (Kd.R_ne HO10.out BK5.out (by decide)))
      have hw1:wrap64 ((c:Int)+1)=((c+1:Nat):Int):=by have:=HD.out;unfold wrap64;omega
      try go_wp2
      refine⟨?rel,?measure⟩
      case measure=>rw[hw1];exact qlf HD.out
      case rel=>exact⟨d,c+1,acc++[ra],by rw[hw1],⟨by have:=HD.out;omega⟩,⟨by rw[List.length_append,HAC.out];rfl⟩,HN,⟨ho9⟩,⟨pk_ BK6⟩,⟨hb9⟩⟩
     | succ d2=>
      have qi:(i < l2.length)=True:=eq_true (by have:=HD2.out;omega)
      have hlt2:decide ((i:Int) < (l2.length:Int))=true:=decide_eq_true (by have:=HD2.out;omega)
      have h2:=HR.out
      rw[sfR]at h2
      obtain⟨t,ht,h3⟩:=Option.bind_eq_some_iff.1 h2
      by_cases hct:c < t.length
      rotate_left
      ·rw[if_neg hct]at h3;cases h3
      rw[if_pos hct]at h3
      have HT:=am ht
      have HN2:=am h3
      have HCT:=am hct
      clear h2 h3 ht hct HR
      obtain⟨adB,B,cB,eB,b0,hB2,hB3⟩:=qd1 HR2.out i (by have:=HD2.out;omega)
      subst eB
      obtain⟨bi,hbi⟩:∃ b,l2.getD i []=b:=⟨_,rfl⟩
      rw[hbi]at b0 hB2 hB3 HT
      clear hbi
      have HBW:=bq HB HW5.out
      have b1:=wcl HBW b0
      have pi:(0≤(i:Int))=True:=eq_true (by omega)
      go_upto_region 10 with fail
      have y0:=wcl HBW X0.out
      have y1:=wcl HBW X1.out
      have y2:=wcl HBW X2.out
      have y4:=(qe (qv BK4.out HW5.out) 0).trans rfl
      have HB3:=am hB3
      have HB2:=am hB2
      have HVC:=am (Kd.C_below hB3 HBW.out)
      clear b0 hB2 hB3 pi qi b1 hlt2
      have p3:(0≤a3)=True:=eq_true HCK.out.1
      have q3:(a3 < l1.length)=True:=eq_true HCK.out.2
      have hS:(fun w':World=>w'.cell? ⟨g4,0,none⟩=some (.int .i64 a0)∧w'.cell? (adX.add (a3.toNat*3))=some (.int .i64 X.f0.f0)∧w'.cell? ⟨(adX.add (a3.toNat*3)).block,(adX.add (a3.toNat*3)).off+1,none⟩=some (.int .i64 X.f0.f1)∧w'.cell? ⟨(adX.add (a3.toNat*3)).block,(adX.add (a3.toNat*3)).off+2,none⟩=some (.int .i64 X.f0.f2)) wr.drew:=⟨y4,y0,y1,y2⟩
      clear y0 y1 y2 y4
      refine st 14 (fun w':World=>w'.cell? ⟨g4,0,none⟩=some (.int .i64 a0)∧w'.cell? (adX.add (a3.toNat*3))=some (.int .i64 X.f0.f0)∧w'.cell? ⟨(adX.add (a3.toNat*3)).block,(adX.add (a3.toNat*3)).off+1,none⟩=some (.int .i64 X.f0.f1)∧w'.cell? ⟨(adX.add (a3.toNat*3)).block,(adX.add (a3.toNat*3)).off+2,none⟩=some (.int .i64 X.f0.f2)) [7,10,11,12] zd.tab10 zd.bits10 hS fun hHeld HT_ HW_=>?_
      clear hS
      refine pz 0 35 HT_ ?_;refine pz 2 37 HT_ ?_;refine pz 3 38 HT_ ?_;refine pz 4 39 HT_ ?_;refine pz 8 43 HT_ ?_;refine pz 5 40 HT_ ?_
      refine tk 1 36 HT_ HW_ hHeld ?_;refine tk 6 41 HT_ HW_ hHeld ?_;clear hHeld p3 q3
      refine la 7 (some 42) HT_ fun K hK=>?_
      refine gs_ Try.func135 #[.int .i64 a0,.slice B bi.length cB,.agg #[.int .i64 X.f0.f0,.int .i64 X.f0.f1,.int .i64 X.f0.f2]] ?_
      refine(Qc.calls k a0 B cB bi X.f0.f0 X.f0.f1 X.f0.f2 t _ (Kd.C_below (w:=wr) HVC.out gs) HB2.out HT.out).mono ?_
      rintro e w6 ⟨v6,rfl,hv6,hb6⟩
      obtain⟨A6,c6',e6⟩:=Kd.R_slice hv6
      subst e6
      have HC6:=am (Kd.R_reads' hv6).2.2
      have HW6:=bq HW5 hb6
      have HR6:=am (Kd.R_below (wR HR11 (W':=wr.drew)) hb6)
      clear hb6 hv6
      refine⟨_,rfl,?_⟩
      refine hK.out _ _ (nz ?_)
      clear hK K
      obtain⟨ad6,e6,z6⟩:=Kd.at_int HC6.out (c:Int) (by omega) (by have:=HCT.out;omega)
      subst e6
      rw[Int.toNat_natCast]at z6
      have pc:(0≤(c:Int))=True:=eq_true (by omega)
      have qc:(c < t.length)=True:=eq_true HCT.out
      have qc2:((c:Int) < (t.length:Int))=True:=eq_true (by have:=HCT.out;omega)
      refine pz 9 44 HT_ ?_
      refine la 10 (some 45) HT_ fun K hK=>?_
      refine qbm (w1:=?_) (v:=?_) (by rfl) rfl ?_ ?_
      rotate_left 2
      ·go_simp
       constructor
       ·rfl
       ·rfl
      refine hK.out _ _ (nz ?_)
      clear hK K z6 pc qc qc2
      refine la 11 (some 46) HT_ fun K hK=>?_
      refine qbm (w1:=?_) (v:=?_) (by rfl) rfl ?_ ?_
      rotate_left 2
      ·go_simp
       constructor
       ·rfl
       ·rfl
      refine hK.out _ _ (nz ?_)
      clear hK K
      refine la 12 (some 47) HT_ fun K hK=>?_
      refine Kd.R_append_step (Kd.int .i64) (w0:=w4) w4.heap.size (by rfl) (.tmp 35) (.tmp 46) 23 3 (.int .i64 0) 8 rfl hu23 Jm rfl (by decide) (by omega) u11 ra (rd t (c:Int)) [.int .i64 (rd t (c:Int))] (fun _=>True) (fun _=>False) rfl rfl ?aP (fun _ hk=>hk.elim) ?aF ?aO ?aB ?aS ?aL ?_
      (case aP=>rfl)
      (case aB=>exact HW6.out)
      (case aF=>exact(fun _ _=>trivial))
      (case aO=>exact HR6.out)
      (case aS=>exact HW6.out.size)
      (case aL=>have:=HRL.out;have:=HD2.out;have:=HS.out;omega)
      intro v9' w9 ho9 hb9 hg9 hn9
      refine hK.out _ _ (nz ?_)
      clear hK K;refine pz 13 11 HT_ ?_
      refine Q3 (Qa HT_.out (by kernel_rfl)) ?_
      clear HT_ HW_
      have hw1:wrap64 ((i:Int)+1)=((i+1:Nat):Int):=by have:=HD2.out;have:=HS.out;unfold wrap64;omega
      try go_wp2
      go_roundw
      case measure=>rw[hw1];exact qlf HD2.out
      case rel=>exact⟨d2,i+1,ra++[rd t (c:Int)],by rw[hw1],⟨by have:=HD2.out;omega⟩,⟨by rw[List.length_append,HRL.out];rfl⟩,HN2,⟨Kd.R_below ho9 gs⟩,⟨bw (am hb9)⟩⟩
 ·rw [if_neg c6] at h
  have d6:decide (a3 < 6)=false:=decide_eq_false c6
  by_cases c21:a3 < 21
  ·rw [if_pos c21] at h
   have d21:decide (a3 < 21)=true:=decide_eq_true c21
   obtain⟨⟨i1,i2⟩,hij,h2⟩:=Option.bind_eq_some_iff.1 h
   by_cases hi:(0≤i1∧i1 < l1.length)∧0≤i2∧i2 < l1.length
   rotate_left
   ·rw[if_neg hi]at h2;cases h2
   rw[if_pos hi]at h2
   obtain⟨line,hline,hall⟩:=Option.bind_eq_some_iff.1 h2
   have HIJ:=am hij
   have HI:=am hi
   have HALL:=am hall
   have HLINE:=am hline
   clear h h2 hij hi hall hline c6 c21
   unfold qeg at HALL
   unfold sfPt at HLINE
   obtain⟨ad,e1,x0,x1,x2⟩:=Qo HR1.out i1 HI.out.1.1 HI.out.1.2
   subst e1
   obtain⟨ad',e2,x3,x4,x5⟩:=Qo HR1.out i2 HI.out.2.1 HI.out.2.2
   obtain rfl:=Option.some.inj e2
   have X0:=am x0;have X1:=am x1;have X2:=am x2;have X3:=am x3;have X4:=am x4;have X5:=am x5
   clear x0 x1 x2 x3 x4 x5 e2
   generalize qd l1 i1=X at X0 X1 X2 HLINE
   generalize qd l1 i2=Y at X3 X4 X5 HLINE
   go_wp2_with fail
   refine(jw.calls k (wrap64 (a3 - 6)) i1 i2 _ HIJ.out).mono ?_
   rintro e w3 ⟨rfl,hdr⟩
   have hb3:=hdr.below
   have HO3:=am (Kd.R_below HO9.out hb3)
   have BK3:=am (qv (pk_ BK4) hb3)
   have HB3:=bq HB hb3
   clear hdr hb3 HO9 BK4 HB HIJ
   go_upto_region 18 with fail
   have y0:=wcl HB3 X0.out
   have y1:=wcl HB3 X1.out
   have y2:=wcl HB3 X2.out
   have y3:=wcl HB3 X3.out
   have y4:=wcl HB3 X4.out
   have y5:=wcl HB3 X5.out
   have p1:(0≤i1)=True:=eq_true HI.out.1.1
   have q1:(i1 < l1.length)=True:=eq_true HI.out.1.2
   have p2:(0≤i2)=True:=eq_true HI.out.2.1
   have q2:(i2 < l1.length)=True:=eq_true HI.out.2.2
   obtain⟨S1,hS1⟩:∃ S1:World→Prop,S1=fun w':World=>w'.cell? (ad.add (i1.toNat*3))=some (.int .i64 X.f0.f0)∧w'.cell? ⟨(ad.add (i1.toNat*3)).block,(ad.add (i1.toNat*3)).off+1,none⟩=some (.int .i64 X.f0.f1)∧w'.cell? ⟨(ad.add (i1.toNat*3)).block,(ad.add (i1.toNat*3)).off+2,none⟩=some (.int .i64 X.f0.f2)∧w'.cell? (ad.add (i2.toNat*3))=some (.int .i64 Y.f0.f0)∧w'.cell? ⟨(ad.add (i2.toNat*3)).block,(ad.add (i2.toNat*3)).off+1,none⟩=some (.int .i64 Y.f0.f1)∧w'.cell? ⟨(ad.add (i2.toNat*3)).block,(ad.add (i2.toNat*3)).off+2,none⟩=some (.int .i64 Y.f0.f2):=⟨_,rfl⟩
   have HP:=Lib.hid (show ∀ w':World,Below w3.heap.size w3 w'→S1 w' from fun w' hb=>by rw[hS1];exact⟨wcl (am hb) y0,wcl (am hb) y1,wcl (am hb) y2,wcl (am hb) y3,wcl (am hb) y4,wcl (am hb) y5⟩)
   refine st 11 S1 [] zd.tab18 zd.bits18 (HP.out w3.drew (Za (Below.refl _ _))) fun hHeld HT_ HW_=>?_
   clear y0 y1 y2 y3 y4 y5
   refine pz 0 65 HT_ ?_;refine pz 1 66 HT_ ?_;refine pz 2 67 HT_ ?_;refine pz 4 69 HT_ ?_;refine pz 5 70 HT_ ?_;refine pz 6 71 HT_ ?_
   refine tk 3 68 HT_ HW_ hHeld ?_ (hy:=by rw[hS1];rintro w' ⟨s0,s1,s2,s3,s4,s5⟩;go_simp;with_reducible rfl)
   refine tk 7 72 HT_ HW_ hHeld ?_ (hy:=by rw[hS1];rintro w' ⟨s0,s1,s2,s3,s4,s5⟩;go_simp;with_reducible rfl)
   clear hHeld p1 q1 p2 q2 hS1
   refine join_ (σ:=Value×Nat) 1 #[true,true,true,true,true,true,true,true,true,true,false] (fun s_=>[(73,s_.1),(17,.pointer (some ⟨s_.2,0,none⟩))]) (fun s_ w'=>S1 w'∧Kd.R (Kd.int .i64) 3 w' w.heap.size (fun k=>k≠s_.2) s_.1 line∧w'.heap[s_.2]? =some (.cells #[.slice none 0 0] 23 (0,0))∧w3.heap.size≤s_.2∧Below w3.heap.size w3 w') ?_ ?_
   rotate_left
   ·intro hCont
    refine two_ (i:=8) (j:=9) (Ni:=some 73) (Nj:=some 17) #[true,true,true,true,true,true,true,true,true,false,false] #[true,true,true,true,true,true,true,true,false,true,false] rfl rfl rfl rfl (qpb HT_.out (by kernel_rfl)) (by decide) (by decide) (fun K hK=>?_) (fun K hK=>?_)
    ·refine gs_ Try.func139 #[.agg #[.int .i64 X.f0.f0,.int .i64 X.f0.f1,.int .i64 X.f0.f2],.agg #[.int .i64 Y.f0.f0,.int .i64 Y.f0.f1,.int .i64 Y.f0.f2]] ?_
     refine(Qm.calls X.f0.f0 X.f0.f1 X.f0.f2 Y.f0.f0 Y.f0.f1 Y.f0.f2 line _ HLINE.out).mono ?_
     rintro e w6 ⟨v6,rfl,hv6,hb6⟩
     have hb6:Below w3.heap.size w3 w6:=jg (Za (Below.refl _ _)) hb6
     have HV6:=am (Kd.R_mono (Kd.R_bound (Kd.R_lower hv6 (bz HB3))) (fun k h=>h.2.2.1))
     have HW6:=am hb6
     refine⟨_,rfl,?_⟩
     refine hK.out _ _ (HP.out w6 hb6) fun hHeld=>nz ?_
     clear hK K hv6 hb6
     refine on 9 (some 17) HT_ fun K hK=>?_
     refine xs_ 17 23 #[.slice none 0 0] ?_
     intro g17 hg w7 hbox hb
     have hb7:=bq HW6 hb
     refine hK.out _ _ (HP.out w7 hb7.out) fun hHeld=>nz ?_
     clear hK K
     exact qe5 (by first | (simp only[Jq,Act.put,List.setIfInBounds_toArray,List.set_cons_zero,List.set_cons_succ];done) | (simp only[Jq,Act.put,List.setIfInBounds_toArray,List.set_cons_zero,List.set_cons_succ];rfl)) (hCont (v6,g17) _ ⟨hHeld,Kd.R_mono (Kd.R_below HV6.out hb) (fun k h=>by rw[hg];exact Nat.ne_of_lt h),hbox,by rw[hg];exact HW6.out.size,hb7.out⟩)
    ·refine xs_ 17 23 #[.slice none 0 0] ?_
     intro g17 hg w7 hbox hb
     have hb7:Below w3.heap.size w3 w7:=jg (Za (Below.refl _ _)) hb
     have HG17:=am hbox
     have HW7:=am hb7
     have hg3:g17=w3.heap.size:=hg
     have HGE:=am hg3
     refine hK.out _ _ (HP.out w7 hb7) fun hHeld=>nz ?_
     clear hK K hbox hb hb7 hg hg3
     refine on 8 (some 73) HT_ fun K hK=>?_
     refine gs_ Try.func139 #[.agg #[.int .i64 X.f0.f0,.int .i64 X.f0.f1,.int .i64 X.f0.f2],.agg #[.int .i64 Y.f0.f0,.int .i64 Y.f0.f1,.int .i64 Y.f0.f2]] ?_
     refine(Qm.calls X.f0.f0 X.f0.f1 X.f0.f2 Y.f0.f0 Y.f0.f1 Y.f0.f2 line _ HLINE.out).mono ?_
     rintro e w6 ⟨v6,rfl,hv6,hb6⟩
     have hb8:=bq HW7 hb6
     refine⟨_,rfl,?_⟩
     refine hK.out _ _ (HP.out w6 hb8.out) fun hHeld=>nz ?_
     clear hK K
     exact qe5 (by first | (simp only[Jq,Act.put,List.setIfInBounds_toArray,List.set_cons_zero,List.set_cons_succ];done) | (simp only[Jq,Act.put,List.setIfInBounds_toArray,List.set_cons_zero,List.set_cons_succ];rfl)) (hCont (v6,g17) _ ⟨hHeld,Kd.R_mono (Kd.R_lower (Kd.R_mono (Kd.R_bound hv6) (fun k h=>h.2.1)) (Nat.le_trans HB3.out.size HW7.out.size)) (fun k h=>by have:=jy HG17.out;omega),qv HG17.out hb6,by rw[HGE.out];exact Nat.le_refl _,hb8.out⟩)
   rintro⟨v73,g17⟩ w8 ⟨hHeld,hv,hbox,hge,hb⟩
   have c17:=(qe hbox 0).trans rfl
   have f17:=ql hbox 0
   have HV:=am hv
   have HG:=am hbox
   have HGE:=am hge
   have HW8:=am hb
   clear hv hbox hge hb hHeld
   obtain⟨AV,cV,eV⟩:=Kd.R_slice HV.out
   subst eV
   refine qe5 (a':=?_) (by first | (simp only[Jq,Act.put,List.setIfInBounds_toArray,List.set_cons_zero,List.set_cons_succ];done) | (simp only[Jq,Act.put,List.setIfInBounds_toArray,List.set_cons_zero,List.set_cons_succ];rfl)) ?_
   rotate_left
   refine on 10 none HT_ fun K hK=>?_
   refine qgw (w1:=?_) (by rfl) rfl ?_ ?_
   rotate_left
   ·go_simp
    rfl
   have HO8:=am (Kd.R_mono (Kd.R_below (Kd.R_mono (Kd.R_bound HO3.out) (fun k h=>h.2.2.1)) HW8.out) (fun k (h:k < w3.heap.size)=>(show k≠g17 by have:=HGE.out;omega)))
   have HRW:=am (Kd.R_far (p:=⟨g17,0,none⟩) HO8.out (fun k h=>h) (.slice AV line.length cV))
   have HLN:=am (Kd.R_far (p:=⟨g17,0,none⟩) HV.out (fun k h=>h) (.slice AV line.length cV))
   have BK17:=am (show (w8.setCell ⟨g17,0,none⟩ (.slice AV line.length cV)).heap[g17]? =some (.cells #[.slice AV line.length cV] 23 (0,0)) from Zw HG.out 0 _)
   have BK4:=am (show (w8.setCell ⟨g17,0,none⟩ (.slice AV line.length cV)).heap[g4]? =some (.cells #[.int .i64 a0] 3 (0,0)) from Qk (qv BK3.out HW8.out) (Nat.ne_of_lt (Nat.lt_of_lt_of_le (jy BK3.out) HGE.out)) _)
   have HB:=bq HB3 (Qi HW8.out HGE.out (j:=0) (v:=.slice AV line.length cV))
   have hS1w:S1 (w8.setCell ⟨g17,0,none⟩ (.slice AV line.length cV)):=HP.out _ (Qi HW8.out HGE.out)
   clear c17 f17 HO8 HV HG HGE HW8 HO3 BK3 HB3 HP
   generalize w8.setCell ⟨g17,0,none⟩ (.slice AV line.length cV)=w9 at HRW HLN BK17 BK4 HB hS1w ⊢
   refine hK.out _ _ hS1w fun _=>?_
   clear hK K hS1w
   refine Q3 (Qa HT_.out (by kernel_rfl)) ?_
   clear HT_ HW_
   obtain⟨all,hall,hR2⟩:=Option.bind_eq_some_iff.1 (show _=some r from HALL.out)
   by_cases hal:all.length≤1000000
   rotate_left
   ·rw[if_neg hal]at hR2;cases hR2
   rw[if_pos hal]at hR2
   obtain⟨rows,hrows,hspan⟩:=Option.bind_eq_some_iff.1 hR2
   have HAL:=am hal
   have HA:=am hall
   have HRO:=am hrows
   have HSP:=am hspan
   have y4:=(qe BK4.out 0).trans rfl
   clear hall hR2 hal hrows hspan HALL
   go_wp2_with fail
   refine(qo.calls k a0 all _ HA.out).mono ?_
   rintro e wa ⟨v88,rfl,hv88,hb88⟩
   obtain⟨AL,cL,eL⟩:=Kd.R_slice hv88
   subst eL
   have HAA:=am (Kd.R_lower hv88 (bz HB))
   have HLN2:=am (Kd.R_below HLN.out hb88)
   have HRW2:=am (Kd.R_below HRW.out hb88)
   have BK4b:=am (qv (pk_ BK4) hb88)
   have BK17b:=am (qv (pk_ BK17) hb88)
   have HB2:=bq HB hb88
   clear hv88 hb88 HLN HRW BK4 BK17 HB y4 HA;go_wp2
   go_loopw [9,90] (fun v9 v90 w'=>∃ (i:Nat) (acc:List (List Int)),v90=.int .i64 (i:Int)∧qf (i≤all.length)∧qf (acc.length≤i)∧qf (sfL (sfOn k a0 line) k a0 l2 l1 (all.drop i) acc=some rows)∧qf (Kd.R (Kd.slice 3 (Kd.int .i64)) 23 w' w.heap.size (fun k=>k≠g17) v9 acc)∧qf (Kd.R k43 43 w' w.heap.size (fun _=>True) (.slice AL all.length cL) all)∧qf (Kd.R (Kd.int .i64) 3 w' w.heap.size (fun _=>True) (.slice AV line.length cV) line)∧qf (w'.heap[g4]? =some (.cells #[.int .i64 a0] 3 (0,0)))∧qf (w'.heap[g17]? =some (.cells #[.slice AV line.length cV] 23 (0,0)))∧qf (Below w.heap.size w w')) (fun _ v90 _=>all.length - (intOf v90).toNat)
   case atStart=>exact⟨0,[],rfl,⟨Nat.zero_le _⟩,⟨Nat.le_refl _⟩,HRO,⟨wR HRW2⟩,⟨wR HAA⟩,⟨Kd.R_mono (wR HLN2) (fun _ _=>trivial)⟩,⟨pk_ BK4b⟩,⟨pk_ BK17b⟩,⟨bw HB2⟩⟩
   case round=>
    clear HRO HRW2 HAA HLN2 BK4b BK17b HB2
    obtain⟨i,acc,rfl,HI,HAC,HRO,HRW,HAA,HLN,BK4,BK17,HB⟩:=hrel
    by_cases hi:i < all.length
    rotate_left
    ·have hlt:decide ((i:Int) < (all.length:Int))=false:=decide_eq_false (by omega)
     have nlt:(i < all.length)=False:=eq_false hi
     have hr:=HRO.out
     rw[List.drop_eq_nil_of_le (by omega),sfL]at hr
     obtain rfl:=Option.some.inj hr
     clear hr hi
     obtain⟨A9,c9,e9⟩:=Kd.R_slice HRW.out
     subst e9
     have y4:=(qe BK4.out 0).trans rfl
     go_wp2_with fail
     refine(jk.calls k a0 A9 c9 acc r _ (Kd.R_reads' HRW.out).2.2 (Kd.R_reads' HRW.out).2.1 HSP.out).mono ?_
     rintro e w5 ⟨v5,rfl,hv5,hb5⟩
     have HB5:=bq HB hb5
     have HV5:=am (Kd.R_lower hv5 (bz HB))
     clear hv5 hb5
     go_wp2_with fail
     go_ret
     exact⟨_,fq,wR HV5,bw HB5⟩
    ·have hlt:decide ((i:Int) < (all.length:Int))=true:=decide_eq_true (by omega)
     have qi:(i < all.length)=True:=eq_true hi
     have pi:(0≤(i:Int))=True:=eq_true (by omega)
     have hr:=HRO.out
     have hX:all.drop i=qd all (i:Int) :: all.drop (i+1):=by
      rw[List.drop_eq_getElem_cons hi]
      congr 1
      have:qd all (i:Int)=all.getD i z43:=rfl
      rw[this,List.getD_eq_getElem?_getD,List.getElem?_eq_getElem hi];rfl
     rw[hX,sfL]at hr
     obtain⟨b,hb,h2⟩:=Option.bind_eq_some_iff.1 hr
     obtain⟨adL,eL,x0,x1,x2⟩:=Qo (Kd.R_reads' HAA.out).2.2 (i:Int) (by omega) (by omega)
     rw[Int.toNat_natCast]at x0 x1 x2
     have HBB:=am hb
     have H2:=am h2
     have HLT:=am hi
     have HEL:=am eL
     clear hr hb h2 hX HRO hi
     have hw1:wrap64 ((i:Int)+1)=((i+1:Nat):Int):=by have:=HLT.out;have:=HAL.out;unfold wrap64;omega
     have HW1:=am hw1
     clear hw1
     generalize qd all (i:Int)=X at x0 x1 x2 HBB H2
     rw[eL]at HAA ⊢
     clear eL
     go_upto_region 26 with fail
     clear x0 x1 x2 qi pi hlt
     have hbw:Below wr.heap.size wr (wr.alloc (.cells #[.int .i64 X.f0.f0,.int .i64 X.f0.f1,.int .i64 X.f0.f2] 43)):=jx (Below.refl _ _) _
     have HX:=am (heap_alloc_last wr (.cells #[.int .i64 X.f0.f0,.int .i64 X.f0.f1,.int .i64 X.f0.f2] 43))
     have HRW3:=am (Kd.R_below (Kd.R_mono (Kd.R_bound HRW.out) (fun k h=>(⟨h.1,h.2.2.1⟩:k≠g17∧k < wr.heap.size))) hbw)
     have HLN3:=am (Kd.R_below HLN.out hbw)
     have HAA3:=am (Kd.R_below HAA.out hbw)
     have BK4c:=am (qv BK4.out hbw)
     have BK17c:=am (qv BK17.out hbw)
     have HB3:=bq HB hbw
     have HGB:=am (show wr.heap.size < (wr.alloc (.cells #[.int .i64 X.f0.f0,.int .i64 X.f0.f1,.int .i64 X.f0.f2] 43)).heap.size from jy (heap_alloc_last wr (.cells #[.int .i64 X.f0.f0,.int .i64 X.f0.f1,.int .i64 X.f0.f2] 43)))
     have G4L:=am (jy BK4.out)
     have G17L:=am (jy BK17.out)
     clear hbw HRW HLN HAA BK4 BK17 HB
     generalize wr.alloc (.cells #[.int .i64 X.f0.f0,.int .i64 X.f0.f1,.int .i64 X.f0.f2] 43)=wb at HX HRW3 HLN3 HAA3 BK4c BK17c HB3 HGB ⊢
     generalize wr.heap.size=g21 at HX HRW3 HGB G4L G17L ⊢
     have y4:wb.cell? ⟨g4,0,none⟩=some (.int .i64 a0):=(qe BK4c.out 0).trans rfl
     have y17:wb.cell? ⟨g17,0,none⟩=some (.slice AV line.length cV):=(qe BK17c.out 0).trans rfl
     have z0:wb.cell? ⟨g21,0,none⟩=some (.int .i64 X.f0.f0):=(qe HX.out 0).trans rfl
     have z1:wb.cell? ⟨g21,1,none⟩=some (.int .i64 X.f0.f1):=(qe HX.out 1).trans rfl
     have z2:wb.cell? ⟨g21,2,none⟩=some (.int .i64 X.f0.f2):=(qe HX.out 2).trans rfl
     have he:∀ args w,(callFunc 140 args).run Try.prog w=.ok (.enter 140 args) w:=fun args w=>qeo Try.func140 (by kernel_rfl) (by kernel_rfl) args w
     go_wp2_with fail
     unfold sfOn at HBB
     obtain⟨tt,htt,hbb⟩:=Option.bind_eq_some_iff.1 HBB.out
     obtain rfl:=Option.some.inj hbb
     refine(sf2.calls k a0 g4 g17 AV cV line X.f0.f0 X.f0.f1 X.f0.f2 tt _ y4 y17 (Kd.R_reads' HLN3.out).2.2 (Kd.R_reads' HLN3.out).2.1 htt).mono ?_
     rintro e w8 ⟨rfl,hb8⟩
     clear htt hbb
     have HX8:=am (qv HX.out hb8)
     have HRW8:=am (Kd.R_below HRW3.out hb8)
     have HLN8:=am (Kd.R_below HLN3.out hb8)
     have HAA8:=am (Kd.R_below HAA3.out hb8)
     have BK48:=am (qv BK4c.out hb8)
     have BK178:=am (qv BK17c.out hb8)
     have HB8:=bq HB3 hb8
     have HGB8:=am (Nat.lt_of_lt_of_le HGB.out hb8.size)
     clear y4 y17 z0 z1 z2 he hb8 HX HRW3 HLN3 HAA3 BK4c BK17c HB3 HGB HBB
     have z0:w8.cell? ⟨g21,0,none⟩=some (.int .i64 X.f0.f0):=(qe HX8.out 0).trans rfl
     have z1:w8.cell? ⟨g21,1,none⟩=some (.int .i64 X.f0.f1):=(qe HX8.out 1).trans rfl
     have z2:w8.cell? ⟨g21,2,none⟩=some (.int .i64 X.f0.f2):=(qe HX8.out 2).trans rfl
     have h2:=H2.out
     clear H2
     cases hz:(tt == 0) with
     | false=>
      rw[hz,if_neg Bool.false_ne_true]at h2
      have HN:=am h2
      clear h2 hz
      go_wp2_with fail
      go_roundw
      case measure=>rw[HW1.out];exact qay HLT.out
      case rel=>exact⟨i+1,acc,by rw[HW1.out],⟨HLT.out⟩,⟨by have:=HAC.out;omega⟩,HN,⟨Kd.R_mono (wR HRW8) (fun k h=>h.1)⟩,⟨wR HAA8⟩,⟨wR HLN8⟩,⟨pk_ BK48⟩,⟨pk_ BK178⟩,⟨bw HB8⟩⟩
     | true=>
      rw[hz,if_pos rfl]at h2
      obtain⟨cc,hcc,h3⟩:=Option.bind_eq_some_iff.1 h2
      have HCC:=am hcc
      have H3:=am h3
      clear h2 hz hcc h3
      go_wp2_with fail
      refine(Qt.calls k (some ad) c1 l1 X.f0.f0 X.f0.f1 X.f0.f2 cc _ (Kd.C_below HR1.out HB8.out) HC1.out HCC.out).mono ?_
      rintro e w9 ⟨rfl,hb9⟩
      have HX9:=am (qv HX8.out hb9)
      have HRW9:=am (Kd.R_below HRW8.out hb9)
      have HLN9:=am (Kd.R_below HLN8.out hb9)
      have HAA9:=am (Kd.R_below HAA8.out hb9)
      have BK49:=am (qv BK48.out hb9)
      have BK179:=am (qv BK178.out hb9)
      have HB9:=bq HB8 hb9
      have HGB9:=am (Nat.lt_of_lt_of_le HGB8.out hb9.size)
      clear z0 z1 z2 hb9 HX8 HRW8 HLN8 HAA8 BK48 BK178 HB8 HGB8 HCC
      have h3:=H3.out
      clear H3
      cases cc with
      | true=>
       rw[if_pos rfl]at h3
       have HN:=am h3
       clear h3
       go_wp2_with fail
       go_roundw
       case measure=>rw[HW1.out];exact qay HLT.out
       case rel=>exact⟨i+1,acc,by rw[HW1.out],⟨HLT.out⟩,⟨by have:=HAC.out;omega⟩,HN,⟨Kd.R_mono (wR HRW9) (fun k h=>h.1)⟩,⟨wR HAA9⟩,⟨wR HLN9⟩,⟨pk_ BK49⟩,⟨pk_ BK179⟩,⟨bw HB9⟩⟩
      | false=>
       rw[if_neg Bool.false_ne_true]at h3
       obtain⟨row,hrow,h4⟩:=Option.bind_eq_some_iff.1 h3
       by_cases hl:0 < row.length
       rotate_left
       ·rw[if_neg hl]at h4;cases h4
       rw[if_pos hl]at h4
       have HROW:=am hrow
       have HN:=am h4
       have HRL:=am hl
       clear h3 h4 hrow hl
       have y4:w9.cell? ⟨g4,0,none⟩=some (.int .i64 a0):=(qe BK49.out 0).trans rfl
       have z0:w9.cell? ⟨g21,0,none⟩=some (.int .i64 X.f0.f0):=(qe HX9.out 0).trans rfl
       have z1:w9.cell? ⟨g21,1,none⟩=some (.int .i64 X.f0.f1):=(qe HX9.out 1).trans rfl
       have z2:w9.cell? ⟨g21,2,none⟩=some (.int .i64 X.f0.f2):=(qe HX9.out 2).trans rfl
       go_wp2_with fail
       refine(jl.calls k a0 A2 c2 l2 X.f0.f0 X.f0.f1 X.f0.f2 row _ (Kd.C_below HR2.out HB9.out) HC2.out HROW.out).mono ?_
       rintro e w10 ⟨v107,rfl,hv,hb10⟩
       obtain⟨gr,capr,rfl,hgr,_,_⟩:=Kd.R_form hv HRL.out
       have HGR:=am hgr
       have HR14:=am (Kd.R_lower hv (bz HB9))
       have HRW10:=am (Kd.R_below HRW9.out hb10)
       have HLN10:=am (Kd.R_below HLN9.out hb10)
       have HAA10:=am (Kd.R_below HAA9.out hb10)
       have BK410:=am (qv BK49.out hb10)
       have BK1710:=am (qv BK179.out hb10)
       have HB10:=bq HB9 hb10
       have HGB10:=am (Nat.lt_of_lt_of_le HGB9.out hb10.size)
       clear y4 z0 z1 z2 hb10 hv hgr HX9 HRW9 HLN9 HAA9 BK49 BK179 HB9 HROW
       have F1:=am (show gr≠g17 by have:=HGR.out;have:=HGB9.out;have:=G17L.out;omega)
       have F2:=am (show ∀ k,some k=(Value.slice (some ⟨gr,0,none⟩) row.length capr).ownBlock→k≠g17∧some k≠(u9:Value).ownBlock from fun k hk=>by have h2:k=gr:=Option.some.inj hk;have h3:=HGR.out;have h4:=HGB9.out;have h5:=F1.out;exact⟨by omega,fun e=>by have h1:=HRW10.out.1 k e.symm;omega⟩)
       have F3:=am (show ∀ k,w10.heap.size≤k→k≠g17 from fun k hk=>by have h4:=HGB10.out;have h5:=G17L.out;omega)
       have F4:=am (show acc.length≤1000000 by have:=HAC.out;have:=HLT.out;have:=HAL.out;omega)
       go_wp2_with (first
        | ((with_reducible refine jr (b:=.append) (xs:=#[.tmp 103,.tmp 108]) rfl ?_);at_builtin;refine Kd.R_append (Kd.slice 3 (Kd.int .i64)) (w0:=w) w.heap.size rfl (.tmp 103) (.tmp 108) 47 23 (.slice none 0 0) 24 rfl hu47 Zu rfl (by decide) (by omega) u9 acc row [.slice (some ⟨gr,0,none⟩) row.length capr] (fun k=>k≠g17) (fun k=>some k=(Value.slice (some ⟨gr,0,none⟩) row.length capr).ownBlock) rfl rfl ?aP F2.out ?aF ?aO ?aB ?aS ?aL ?_;(case aP=>exact⟨_,rfl,fun k hk=>hk.symm,HR14.out.2⟩);(case aB=>exact HB10.out);(case aF=>exact F3.out);(case aO=>exact Kd.R_mono HRW10.out (fun k h=>h.1));(case aS=>exact HB10.out.size);(case aL=>have:=F4.out;omega);intro v9' w11 ho11 hb11 hg11 hn11)
        | fail)
       have HAA11:=am (Kd.R_mono (Kd.R_over' HAA10.out (Kd.R_typed HRW10.out) (by decide) hg11) (fun _ _=>trivial))
       have HLN11:=am (Kd.R_mono (Kd.R_over' HLN10.out (Kd.R_typed HRW10.out) (by decide) hg11) (fun _ _=>trivial))
       have BK411:=am (Q2 BK410.out hg11 (Kd.R_ne HRW10.out BK410.out (by decide)))
       have BK1711:=am (Q2 BK1710.out hg11 (fun e=>(HRW10.out.1 _ e.symm).1 rfl))
       try go_wp2
       refine⟨?rel,?measure⟩
       case measure=>rw[HW1.out];exact qay HLT.out
       case rel=>exact⟨i+1,acc++[row],by rw[HW1.out],⟨HLT.out⟩,⟨by have:=HAC.out;rw[List.length_append,List.length_singleton];omega⟩,HN,⟨ho11⟩,⟨wR HAA11⟩,⟨wR HLN11⟩,⟨pk_ BK411⟩,⟨pk_ BK1711⟩,⟨hb11⟩⟩
  ·rw [if_neg c21] at h
   have d21:decide (a3 < 21)=false:=decide_eq_false c21
   by_cases hk:a3 - 21 < l1.length
   rotate_left
   ·rw[if_neg hk]at h;cases h
   rw[if_pos hk]at h
   obtain⟨line,hcon,hall⟩:=Option.bind_eq_some_iff.1 h
   obtain⟨n,hn⟩:∃ n:Nat,(a3 - 21).toNat=n:=⟨_,rfl⟩
   rw[hn]at hcon
   have HCON:=am hcon
   have HALL:=am hall
   unfold qeg at HALL
   have HNL:=am (show n < l1.length by omega)
   have E1:=am (show wrap64 (a3 - 21)=(n:Int) by have:=HS.out;unfold wrap64;omega)
   have E2:=am (show wrap64 (a3 - 20)=(n:Int)+1 by have:=HS.out;unfold wrap64;omega)
   obtain⟨five,hfive⟩:∃ five,l1.take n++l1.drop (n+1)=five:=⟨_,rfl⟩
   rw[hfive]at HCON
   have HFL:=am (show five.length=l1.length - 1 by rw[← hfive];simp only[List.length_append,List.length_take,List.length_drop];omega)
   have HFIVE:=am hfive
   clear h hcon hall hk c6 c21 hn hfive
   go_wp2_with (first
    | ((with_reducible refine zb (N:=75) rfl ?_);refine Kd.R_lit k43 w2.heap.size 43 ?hg (N:=75) ?hd (w0:=w2) (xs:=([]:List S43)) (inner:=[]) (ok:=fun _=>True) (okp:=fun _=>True) ?hr ?hp (fun _ hk=>hk) trivial (Below.refl _ _) (Nat.le_refl _) (by simp) ?_;(case hd=>rfl);(case hg=>rfl);(case hr=>first | (go_simp;done) | (go_simp;rfl));(case hp=>exact(Reps.none _ _));intro v75 w3 ho75 hb75 hg75 hnew75;have HO75:=am ho75;have HW3:=am hb75;clear ho75 hb75 hg75 hnew75)
    | ((with_reducible refine jr (b:=.append) (xs:=#[.tmp 75,.tmp 76]) rfl ?_);at_builtin;refine Kd.R_append_rows k43 (w0:=w2) w2.heap.size rfl (.tmp 75) (.tmp 76) 34 43 (.agg #[.int .i64 0,.int .i64 0,.int .i64 0]) 24 rfl hu34 J4 rfl (by decide) (by omega) v75 [] l1 A1 l1.length c1 (fun _=>True) (fun _=>False) rfl rfl HO75.out (Kd.C_below (Kd.C_below HR1.out HB.out) HW3.out) (fun _ _ h=>h) (fun _ h=>h.elim) (fun _ _=>trivial) HW3.out HW3.out.size ?aL ?_;(case aL=>have:=HS.out;simp only[List.length_nil];omega);intro v77 w4 ho77 hb77 hg77 hn77;have HO77:=am ho77;have HW4:=am hb77;clear ho77 hb77 hg77 hn77 HO75 HW3)
    | fail)
   rw[E1.out,E2.out]
   have ho77:=HO77.out
   rw[List.nil_append]at ho77
   obtain⟨g18,cap18,e77,hge,hcap,hcalls⟩:=delPt.row ho77 n HNL.out HS.out.1
   refine hcalls.mono ?_
   rintro e w5 ⟨rfl,hC5,hB5⟩
   have HW5:=am (hB5 w2.heap.size w2 hge HW4.out)
   rw[HFIVE.out,← HFL.out]at hC5
   rw[← HFL.out]
   have HC5:=am hC5
   have HCAP:=am (show five.length≤cap18 by have:=HFL.out;omega)
   have HO5:=am (Kd.R_below HO9.out HW5.out)
   have BK5:=am (qv BK4.out HW5.out)
   have HB5:=bq HB HW5.out
   clear hC5 hB5 hcalls hge hcap e77 ho77 HO77 HW4 HO9 BK4 HB HW5 E1 E2
   have y4:w5.cell? ⟨g4,0,none⟩=some (.int .i64 a0):=(qe BK5.out 0).trans rfl
   go_wp2_with fail
   refine(Qz.calls k a0 (some ⟨g18,0,none⟩) cap18 five line _ HC5.out HCAP.out HCON.out).mono ?_
   rintro e w6 ⟨v85,rfl,hv6,hb6⟩
   obtain⟨AV,cV,eV⟩:=Kd.R_slice hv6
   subst eV
   have HV6:=am (Kd.R_mono (Kd.R_bound (Kd.R_lower hv6 (bz HB5))) (fun k h=>h.2.2.1))
   have HO6:=am (Kd.R_mono (Kd.R_bound (Kd.R_below HO5.out hb6)) (fun k h=>h.2.2.1))
   have BK6:=am (qv BK5.out hb6)
   have HB6:=bq HB5 hb6
   clear hv6 hb6 HC5 HO5 BK5 HB5 y4
   go_upto_region 22 with fail
   have hbw:Below w6.heap.size w6 (w6.alloc (.cells #[.slice AV line.length cV] 23)):=jx (Below.refl _ _) _
   have BK17:=am (heap_alloc_last w6 (.cells #[.slice AV line.length cV] 23))
   obtain⟨g17,hg17⟩:∃ g,g=w6.heap.size:=⟨_,rfl⟩
   rw[← hg17]at BK17 HV6 HO6 ⊢
   have HRW:=am (Kd.R_mono (Kd.R_below HO6.out hbw) (fun k (h:k < g17)=>(Nat.ne_of_lt h:k≠g17)))
   have HLN:=am (Kd.R_mono (Kd.R_below HV6.out hbw) (fun k (h:k < g17)=>(Nat.ne_of_lt h:k≠g17)))
   have BK4:=am (qv BK6.out hbw)
   have HB:=bq HB6 hbw
   clear hbw hg17 HV6 HO6 BK6 HB6
   generalize w6.alloc (.cells #[.slice AV line.length cV] 23)=w9 at HRW HLN BK17 BK4 HB ⊢
   obtain⟨all,hall,hR2⟩:=Option.bind_eq_some_iff.1 (show _=some r from HALL.out)
   by_cases hal:all.length≤1000000
   rotate_left
   ·rw[if_neg hal]at hR2;cases hR2
   rw[if_pos hal]at hR2
   obtain⟨rows,hrows,hspan⟩:=Option.bind_eq_some_iff.1 hR2
   have HAL:=am hal
   have HA:=am hall
   have HRO:=am hrows
   have HSP:=am hspan
   have y4:=(qe BK4.out 0).trans rfl
   clear hall hR2 hal hrows hspan HALL
   go_wp2_with fail
   refine(qo.calls k a0 all _ HA.out).mono ?_
   rintro e wa ⟨v88,rfl,hv88,hb88⟩
   obtain⟨AL,cL,eL⟩:=Kd.R_slice hv88
   subst eL
   have HAA:=am (Kd.R_lower hv88 (bz HB))
   have HLN2:=am (Kd.R_below HLN.out hb88)
   have HRW2:=am (Kd.R_below HRW.out hb88)
   have BK4b:=am (qv (pk_ BK4) hb88)
   have BK17b:=am (qv (pk_ BK17) hb88)
   have HB2:=bq HB hb88
   clear hv88 hb88 HLN HRW BK4 BK17 HB y4 HA;go_wp2
   go_loopw [9,90] (fun v9 v90 w'=>∃ (i:Nat) (acc:List (List Int)),v90=.int .i64 (i:Int)∧qf (i≤all.length)∧qf (acc.length≤i)∧qf (sfL (sfOq k a0 line) k a0 l2 l1 (all.drop i) acc=some rows)∧qf (Kd.R (Kd.slice 3 (Kd.int .i64)) 23 w' w.heap.size (fun k=>k≠g17) v9 acc)∧qf (Kd.R k43 43 w' w.heap.size (fun _=>True) (.slice AL all.length cL) all)∧qf (Kd.R (Kd.int .i64) 3 w' w.heap.size (fun _=>True) (.slice AV line.length cV) line)∧qf (w'.heap[g4]? =some (.cells #[.int .i64 a0] 3 (0,0)))∧qf (w'.heap[g17]? =some (.cells #[.slice AV line.length cV] 23 (0,0)))∧qf (Below w.heap.size w w')) (fun _ v90 _=>all.length - (intOf v90).toNat)
   case atStart=>exact⟨0,[],rfl,⟨Nat.zero_le _⟩,⟨Nat.le_refl _⟩,HRO,⟨wR HRW2⟩,⟨wR HAA⟩,⟨Kd.R_mono (wR HLN2) (fun _ _=>trivial)⟩,⟨pk_ BK4b⟩,⟨pk_ BK17b⟩,⟨bw HB2⟩⟩
   case round=>
    clear HRO HRW2 HAA HLN2 BK4b BK17b HB2
    obtain⟨i,acc,rfl,HI,HAC,HRO,HRW,HAA,HLN,BK4,BK17,HB⟩:=hrel
    by_cases hi:i < all.length
    rotate_left
    ·have hlt:decide ((i:Int) < (all.length:Int))=false:=decide_eq_false (by omega)
     have nlt:(i < all.length)=False:=eq_false hi
     have hr:=HRO.out
     rw[List.drop_eq_nil_of_le (by omega),sfL]at hr
     obtain rfl:=Option.some.inj hr
     clear hr hi
     obtain⟨A9,c9,e9⟩:=Kd.R_slice HRW.out
     subst e9
     have y4:=(qe BK4.out 0).trans rfl
     go_wp2_with fail
     refine(jk.calls k a0 A9 c9 acc r _ (Kd.R_reads' HRW.out).2.2 (Kd.R_reads' HRW.out).2.1 HSP.out).mono ?_
     rintro e w5 ⟨v5,rfl,hv5,hb5⟩
     have HB5:=bq HB hb5
     have HV5:=am (Kd.R_lower hv5 (bz HB))
     clear hv5 hb5
     go_wp2_with fail
     go_ret
     exact⟨_,fq,wR HV5,bw HB5⟩
    ·have hlt:decide ((i:Int) < (all.length:Int))=true:=decide_eq_true (by omega)
     have qi:(i < all.length)=True:=eq_true hi
     have pi:(0≤(i:Int))=True:=eq_true (by omega)
     have hr:=HRO.out
     have hX:all.drop i=qd all (i:Int) :: all.drop (i+1):=by
      rw[List.drop_eq_getElem_cons hi]
      congr 1
      have:qd all (i:Int)=all.getD i z43:=rfl
      rw[this,List.getD_eq_getElem?_getD,List.getElem?_eq_getElem hi];rfl
     rw[hX,sfL]at hr
     obtain⟨b,hb,h2⟩:=Option.bind_eq_some_iff.1 hr
     obtain⟨adL,eL,x0,x1,x2⟩:=Qo (Kd.R_reads' HAA.out).2.2 (i:Int) (by omega) (by omega)
     rw[Int.toNat_natCast]at x0 x1 x2
     have HBB:=am hb
     have H2:=am h2
     have HLT:=am hi
     have HEL:=am eL
     clear hr hb h2 hX HRO hi
     have hw1:wrap64 ((i:Int)+1)=((i+1:Nat):Int):=by have:=HLT.out;have:=HAL.out;unfold wrap64;omega
     have HW1:=am hw1
     clear hw1
     generalize qd all (i:Int)=X at x0 x1 x2 HBB H2
     rw[eL]at HAA ⊢
     clear eL
     go_upto_region 26 with fail
     clear x0 x1 x2 qi pi hlt
     have hbw:Below wr.heap.size wr (wr.alloc (.cells #[.int .i64 X.f0.f0,.int .i64 X.f0.f1,.int .i64 X.f0.f2] 43)):=jx (Below.refl _ _) _
     have HX:=am (heap_alloc_last wr (.cells #[.int .i64 X.f0.f0,.int .i64 X.f0.f1,.int .i64 X.f0.f2] 43))
     have HRW3:=am (Kd.R_below (Kd.R_mono (Kd.R_bound HRW.out) (fun k h=>(⟨h.1,h.2.2.1⟩:k≠g17∧k < wr.heap.size))) hbw)
     have HLN3:=am (Kd.R_below HLN.out hbw)
     have HAA3:=am (Kd.R_below HAA.out hbw)
     have BK4c:=am (qv BK4.out hbw)
     have BK17c:=am (qv BK17.out hbw)
     have HB3:=bq HB hbw
     have HGB:=am (show wr.heap.size < (wr.alloc (.cells #[.int .i64 X.f0.f0,.int .i64 X.f0.f1,.int .i64 X.f0.f2] 43)).heap.size from jy (heap_alloc_last wr (.cells #[.int .i64 X.f0.f0,.int .i64 X.f0.f1,.int .i64 X.f0.f2] 43)))
     have G4L:=am (jy BK4.out)
     have G17L:=am (jy BK17.out)
     clear hbw HRW HLN HAA BK4 BK17 HB
     generalize wr.alloc (.cells #[.int .i64 X.f0.f0,.int .i64 X.f0.f1,.int .i64 X.f0.f2] 43)=wb at HX HRW3 HLN3 HAA3 BK4c BK17c HB3 HGB ⊢
     generalize wr.heap.size=g21 at HX HRW3 HGB G4L G17L ⊢
     have y4:wb.cell? ⟨g4,0,none⟩=some (.int .i64 a0):=(qe BK4c.out 0).trans rfl
     have y17:wb.cell? ⟨g17,0,none⟩=some (.slice AV line.length cV):=(qe BK17c.out 0).trans rfl
     have z0:wb.cell? ⟨g21,0,none⟩=some (.int .i64 X.f0.f0):=(qe HX.out 0).trans rfl
     have z1:wb.cell? ⟨g21,1,none⟩=some (.int .i64 X.f0.f1):=(qe HX.out 1).trans rfl
     have z2:wb.cell? ⟨g21,2,none⟩=some (.int .i64 X.f0.f2):=(qe HX.out 2).trans rfl
     have he:∀ args w,(callFunc 143 args).run Try.prog w=.ok (.enter 143 args) w:=fun args w=>qeo Try.func143 (by kernel_rfl) (by kernel_rfl) args w
     go_wp2_with fail
     unfold sfOq at HBB
     obtain⟨sq,hsq,hbb⟩:=Option.bind_eq_some_iff.1 HBB.out
     by_cases h0:0 < sq.length
     rotate_left
     ·rw[if_neg h0]at hbb;cases hbb
     rw[if_pos h0]at hbb
     obtain⟨tt,htt,hbb⟩:=Option.bind_eq_some_iff.1 hbb
     obtain rfl:=Option.some.inj hbb
     refine(sf3.calls k a0 g4 g17 AV cV line X sq tt _ y4 y17 (Kd.R_reads' HLN3.out).2.2 (Kd.R_reads' HLN3.out).2.1 hsq h0 htt).mono ?_
     rintro e w8 ⟨rfl,hb8⟩
     clear htt hbb hsq h0
     have HX8:=am (qv HX.out hb8)
     have HRW8:=am (Kd.R_below HRW3.out hb8)
     have HLN8:=am (Kd.R_below HLN3.out hb8)
     have HAA8:=am (Kd.R_below HAA3.out hb8)
     have BK48:=am (qv BK4c.out hb8)
     have BK178:=am (qv BK17c.out hb8)
     have HB8:=bq HB3 hb8
     have HGB8:=am (Nat.lt_of_lt_of_le HGB.out hb8.size)
     clear y4 y17 z0 z1 z2 he hb8 HX HRW3 HLN3 HAA3 BK4c BK17c HB3 HGB HBB
     have z0:w8.cell? ⟨g21,0,none⟩=some (.int .i64 X.f0.f0):=(qe HX8.out 0).trans rfl
     have z1:w8.cell? ⟨g21,1,none⟩=some (.int .i64 X.f0.f1):=(qe HX8.out 1).trans rfl
     have z2:w8.cell? ⟨g21,2,none⟩=some (.int .i64 X.f0.f2):=(qe HX8.out 2).trans rfl
     have h2:=H2.out
     clear H2
     cases hz:(tt == 0) with
     | false=>
      rw[hz,if_neg Bool.false_ne_true]at h2
      have HN:=am h2
      clear h2 hz
      go_wp2_with fail
      go_roundw
      case measure=>rw[HW1.out];exact qay HLT.out
      case rel=>exact⟨i+1,acc,by rw[HW1.out],⟨HLT.out⟩,⟨by have:=HAC.out;omega⟩,HN,⟨Kd.R_mono (wR HRW8) (fun k h=>h.1)⟩,⟨wR HAA8⟩,⟨wR HLN8⟩,⟨pk_ BK48⟩,⟨pk_ BK178⟩,⟨bw HB8⟩⟩
     | true=>
      rw[hz,if_pos rfl]at h2
      obtain⟨cc,hcc,h3⟩:=Option.bind_eq_some_iff.1 h2
      have HCC:=am hcc
      have H3:=am h3
      clear h2 hz hcc h3
      go_wp2_with fail
      refine(Qt.calls k A1 c1 l1 X.f0.f0 X.f0.f1 X.f0.f2 cc _ (Kd.C_below HR1.out HB8.out) HC1.out HCC.out).mono ?_
      rintro e w9 ⟨rfl,hb9⟩
      have HX9:=am (qv HX8.out hb9)
      have HRW9:=am (Kd.R_below HRW8.out hb9)
      have HLN9:=am (Kd.R_below HLN8.out hb9)
      have HAA9:=am (Kd.R_below HAA8.out hb9)
      have BK49:=am (qv BK48.out hb9)
      have BK179:=am (qv BK178.out hb9)
      have HB9:=bq HB8 hb9
      have HGB9:=am (Nat.lt_of_lt_of_le HGB8.out hb9.size)
      clear z0 z1 z2 hb9 HX8 HRW8 HLN8 HAA8 BK48 BK178 HB8 HGB8 HCC
      have h3:=H3.out
      clear H3
      cases cc with
      | true=>
       rw[if_pos rfl]at h3
       have HN:=am h3
       clear h3
       go_wp2_with fail
       go_roundw
       case measure=>rw[HW1.out];exact qay HLT.out
       case rel=>exact⟨i+1,acc,by rw[HW1.out],⟨HLT.out⟩,⟨by have:=HAC.out;omega⟩,HN,⟨Kd.R_mono (wR HRW9) (fun k h=>h.1)⟩,⟨wR HAA9⟩,⟨wR HLN9⟩,⟨pk_ BK49⟩,⟨pk_ BK179⟩,⟨bw HB9⟩⟩
      | false=>
       rw[if_neg Bool.false_ne_true]at h3
       obtain⟨row,hrow,h4⟩:=Option.bind_eq_some_iff.1 h3
       by_cases hl:0 < row.length
       rotate_left
       ·rw[if_neg hl]at h4;cases h4
       rw[if_pos hl]at h4
       have HROW:=am hrow
       have HN:=am h4
       have HRL:=am hl
       clear h3 h4 hrow hl
       have y4:w9.cell? ⟨g4,0,none⟩=some (.int .i64 a0):=(qe BK49.out 0).trans rfl
       have z0:w9.cell? ⟨g21,0,none⟩=some (.int .i64 X.f0.f0):=(qe HX9.out 0).trans rfl
       have z1:w9.cell? ⟨g21,1,none⟩=some (.int .i64 X.f0.f1):=(qe HX9.out 1).trans rfl
       have z2:w9.cell? ⟨g21,2,none⟩=some (.int .i64 X.f0.f2):=(qe HX9.out 2).trans rfl
       go_wp2_with fail
       refine(jl.calls k a0 A2 c2 l2 X.f0.f0 X.f0.f1 X.f0.f2 row _ (Kd.C_below HR2.out HB9.out) HC2.out HROW.out).mono ?_
       rintro e w10 ⟨v107,rfl,hv,hb10⟩
       obtain⟨gr,capr,rfl,hgr,_,_⟩:=Kd.R_form hv HRL.out
       have HGR:=am hgr
       have HR14:=am (Kd.R_lower hv (bz HB9))
       have HRW10:=am (Kd.R_below HRW9.out hb10)
       have HLN10:=am (Kd.R_below HLN9.out hb10)
       have HAA10:=am (Kd.R_below HAA9.out hb10)
       have BK410:=am (qv BK49.out hb10)
       have BK1710:=am (qv BK179.out hb10)
       have HB10:=bq HB9 hb10
       have HGB10:=am (Nat.lt_of_lt_of_le HGB9.out hb10.size)
       clear y4 z0 z1 z2 hb10 hv hgr HX9 HRW9 HLN9 HAA9 BK49 BK179 HB9 HROW
       have F1:=am (show gr≠g17 by have:=HGR.out;have:=HGB9.out;have:=G17L.out;omega)
       have F2:=am (show ∀ k,some k=(Value.slice (some ⟨gr,0,none⟩) row.length capr).ownBlock→k≠g17∧some k≠(u9:Value).ownBlock from fun k hk=>by have h2:k=gr:=Option.some.inj hk;have h3:=HGR.out;have h4:=HGB9.out;have h5:=F1.out;exact⟨by omega,fun e=>by have h1:=HRW10.out.1 k e.symm;omega⟩)
       have F3:=am (show ∀ k,w10.heap.size≤k→k≠g17 from fun k hk=>by have h4:=HGB10.out;have h5:=G17L.out;omega)
       have F4:=am (show acc.length≤1000000 by have:=HAC.out;have:=HLT.out;have:=HAL.out;omega)
       go_wp2_with (first
        | ((with_reducible refine jr (b:=.append) (xs:=#[.tmp 103,.tmp 108]) rfl ?_);at_builtin;refine Kd.R_append (Kd.slice 3 (Kd.int .i64)) (w0:=w) w.heap.size rfl (.tmp 103) (.tmp 108) 47 23 (.slice none 0 0) 24 rfl hu47 Zu rfl (by decide) (by omega) u9 acc row [.slice (some ⟨gr,0,none⟩) row.length capr] (fun k=>k≠g17) (fun k=>some k=(Value.slice (some ⟨gr,0,none⟩) row.length capr).ownBlock) rfl rfl ?aP F2.out ?aF ?aO ?aB ?aS ?aL ?_;(case aP=>exact⟨_,rfl,fun k hk=>hk.symm,HR14.out.2⟩);(case aB=>exact HB10.out);(case aF=>exact F3.out);(case aO=>exact Kd.R_mono HRW10.out (fun k h=>h.1));(case aS=>exact HB10.out.size);(case aL=>have:=F4.out;omega);intro v9' w11 ho11 hb11 hg11 hn11)
        | fail)
       have HAA11:=am (Kd.R_mono (Kd.R_over' HAA10.out (Kd.R_typed HRW10.out) (by decide) hg11) (fun _ _=>trivial))
       have HLN11:=am (Kd.R_mono (Kd.R_over' HLN10.out (Kd.R_typed HRW10.out) (by decide) hg11) (fun _ _=>trivial))
       have BK411:=am (Q2 BK410.out hg11 (Kd.R_ne HRW10.out BK410.out (by decide)))
       have BK1711:=am (Q2 BK1710.out hg11 (fun e=>(HRW10.out.1 _ e.symm).1 rfl))
       try go_wp2
       refine⟨?rel,?measure⟩
       case measure=>rw[HW1.out];exact qay HLT.out
       case rel=>exact⟨i+1,acc++[row],by rw[HW1.out],⟨HLT.out⟩,⟨by have:=HAC.out;rw[List.length_append,List.length_singleton];omega⟩,HN,⟨ho11⟩,⟨wR HAA11⟩,⟨wR HLN11⟩,⟨pk_ BK411⟩,⟨pk_ BK1711⟩,⟨hb11⟩⟩
end Go.Proofs.Ytmgbpmihbljngaa.PA
