-- by xprint.py and mergepa.py
import Derived.Test.YtmgbpmihbljngaaGreatPAx23
namespace Go.Proofs.YtmgbpmihbljngaaGreat.PA
open Value (int)
open IntKind (i64)
set_option maxHeartbeats 8000000
set_option maxRecDepth 100000
open RowKit YtmgbpmihbljngaaGreatW.PrintWords YtmgbpmihbljngaaGreatW.PrintLast YtmgbpmihbljngaaGreatW.PrintMore
attribute [local go_sem] Q3 Q0 Zk Zj Qo Qp Q5 Q4 Tryz.underlying24 Tryz.underlying27 Tryz.underlying37 Tryz.underlying49 Tryz.underlying51
set_option linter.unusedVariables false
set_option linter.unusedSimpArgs false
theorem qq3 {w:World} {b:Nat} {x y z:Int} {t:TypeId} (h:w.heap[b]? =some (.cells #[int i64 x,int i64 y,int i64 z] t (0,0))):Kd.C (Kd.int i64) w (some ⟨b,0,none⟩) 3 [x,y,z]:=by
 refine Kd.Bl (d:=(0:Int)) (h1:=λ_=>rfl) ⟨rfl,by omega,λ_=>⟨_,rfl,λj hj=>?_⟩⟩;have e:=cell_of_row w b j _ _ _ h
 rcases (show j=0\/j=1\/j=2 by omega) with rfl|rfl|rfl<;>exact e
def sf2.T1 :Bool×List (List Nat×List Nat):=(true,[([],[]),([],[]),([],[]),([2],[2]),([0,1,3],[0,1,3]),([4],[4]),([5,4,0,1,2,3,4,5],[5])])
def sf2.B1 :List Nat:=[0,0,0,4,15,31,63]
def sf3.T1 :Bool×List (List Nat×List Nat):=(true,[([],[]),([],[]),([],[]),([2],[2]),([3],[3]),([4],[4]),([5],[5]),([0,1,6,4],[0,1,6]),([7],[7]),([8,7,0,1,2,3,4,5,6,7,8],[8])])
def sf3.B1 :List Nat:=[0,0,0,4,12,28,60,127,255,511]
theorem sf2.calls (k:Nat) (p:Int) (gp gl:Nat) (A:Option Addr) (c:Nat) (l:List Int) (x0 x1 x2 t:Int) (w:World) (hp:w.cell? ⟨gp,0,none⟩=some (int i64 p)) (hl:w.cell? ⟨gl,0,none⟩=some (.slice A l.length c)) (hc:Kd.C (Kd.int i64) w A l.length l) (hlc:l.length<=c) (h:j4.f k p l [x0,x1,x2]=some t):
  Calls Tryz.prog 74 #[.agg #[int i64 x0,int i64 x1,int i64 x2],.pointer (some ⟨gp,0,none⟩),.pointer (some ⟨gl,0,none⟩)] w λe w'=>e=.returned (.bool (t == 0))/\Below w.heap.size w w':=by
 have HX:=am (heap_alloc_last w (.cells #[int i64 x0,int i64 x1,int i64 x2] 51));have HB:=am (show Below w.heap.size w (w.alloc (.cells #[int i64 x0,int i64 x1,int i64 x2] 51)) from Qm (Below.refl _ _) _);have hp1:=wcl HB hp;have hl1:=wcl HB hl;have HC:=am (Kd.Ad hc HB.out);have HLC:=am hlc;have HD:=am h;clear hp hl hc hlc h;go_enter Tryz.func74,Tryz.ntmps74
 go_upto_region 1 with fail
 generalize w.alloc (.cells #[int i64 x0,int i64 x1,int i64 x2] 51)=w1 at*;have hS:(λw':World=>w'.cell? ⟨gp,0,none⟩=some (int i64 p)/\w'.cell? ⟨gl,0,none⟩=some (.slice A l.length c)) w1.drew:=⟨hp1,hl1⟩
 refine st (T:=sf2.T1) (B:=sf2.B1) 7 (λw':World=>w'.cell? ⟨gp,0,none⟩=some (int i64 p)/\w'.cell? ⟨gl,0,none⟩=some (.slice A l.length c)) [] (by kernel_rfl) (by kernel_rfl) hS λhHeld HT_ HW_=>?_;clear hS hp1 hl1;refine Et 2 7 3 8 HT_ ?_;refine tk 0 5 HT_ HW_ hHeld ?_;refine tk 1 6 HT_ HW_ hHeld ?_;refine on 4 (some 9) HT_ λK hK=>?_;refine gs_ Tryz.func75 #[int i64 p,.slice A l.length c,.slice (some ⟨w.heap.size,0,none⟩) 3 3] ?_;refine(j4.calls k p A c l (some ⟨w.heap.size,0,none⟩) 3 [x0,x1,x2] t _ (wC HC) HLC.out (qq3 (qy HX.out)) (Nat.le_refl _) HD.out).mono ?_;rintro e w' ⟨rfl,⟨nd,rfl⟩⟩;refine⟨_,rfl,?_⟩;refine hK.out _ _ hHeld λhHeld=>nz ?_;clear hK K;refine Et 5 10 6 4 HT_ ?_;refine Zh (Qe HT_.out (by kernel_rfl)) ?_
 go_wp2;go_ret
 exact⟨fq,bw HB⟩
theorem qby {w:World} {A:Option Addr} {n:Nat} {rows:List (List Int)} (h:Kd.C KI w A n rows) (j:Nat) (hj:j < rows.length):∃ ad B c,A=some ad/\w.cell? (ad.add j)=some (.slice B (rows.getD j []).length c)/\(rows.getD j []).length<=c/\Kd.C (Kd.int i64) w B (rows.getD j []).length (rows.getD j []):=by
 obtain⟨hl,hm,hr⟩:=h;obtain⟨ad,rfl,hc⟩:=hr (by omega);obtain⟨cs,_,⟨B,c,rfl,h1,h2⟩,hcell⟩:=hc j _ (List.getElem?_eq_getElem hj);have e:rows.getD j []=rows[j]:=by rw[List.getD_eq_getElem?_getD,List.getElem?_eq_getElem hj];rfl
 rw[e];refine⟨ad,B,c,rfl,?_,h1,h2⟩
 have:=hcell 0 (.slice B (rows[j]).length c) rfl
 simpa [KI,Kd.slice] using this
theorem sf3.calls (k:Nat) (p:Int) (gp gl:Nat) (A:Option Addr) (c:Nat) (l:List Int) (X:S51) (sq:List (List Int)) (t:Int) (w:World) (hp:w.cell? ⟨gp,0,none⟩=some (int i64 p)) (hl:w.cell? ⟨gl,0,none⟩=some (.slice A l.length c)) (hc:Kd.C (Kd.int i64) w A l.length l) (hlc:l.length<=c) (hq:z9.f k [X]=some sq) (h0:0 < sq.length) (h:j4.f k p l (sq.getD 0 [])=some t):
  Calls Tryz.prog 78 #[.agg #[int i64 X.f0.f0,int i64 X.f0.f1,int i64 X.f0.f2],.pointer (some ⟨gp,0,none⟩),.pointer (some ⟨gl,0,none⟩)] w λe w'=>e=.returned (.bool (t == 0))/\Below w.heap.size w w':=by
 have HX:=am (heap_alloc_last w (.cells #[int i64 X.f0.f0,int i64 X.f0.f1,int i64 X.f0.f2] 51));have HB:=am (show Below w.heap.size w (w.alloc (.cells #[int i64 X.f0.f0,int i64 X.f0.f1,int i64 X.f0.f2] 51)) from Qm (Below.refl _ _) _);have hp1:=wcl HB hp;have hl1:=wcl HB hl;have HC:=am (Kd.Ad hc HB.out);have HLC:=am hlc;have HD:=am h;have HQ:=am hq;have H0:=am h0;clear hp hl hc hlc h hq h0;go_enter Tryz.func78,Tryz.ntmps78
 go_upto_region 1 with fail
 generalize w.alloc (.cells #[int i64 X.f0.f0,int i64 X.f0.f1,int i64 X.f0.f2] 51)=w1 at*;have HW1:=am (Below.refl w1.heap.size w1);have x0:w1.cell? ⟨w.heap.size,0,none⟩=some (int i64 X.f0.f0):=(qe HX.out 0).trans rfl;have x1:w1.cell? ⟨w.heap.size,1,none⟩=some (int i64 X.f0.f1):=(qe HX.out 1).trans rfl;have x2:w1.cell? ⟨w.heap.size,2,none⟩=some (int i64 X.f0.f2):=(qe HX.out 2).trans rfl;have HP:=Lib.hid (show ∀ w':World,Below w1.heap.size w1 w'->w'.cell? ⟨gp,0,none⟩=some (int i64 p)/\w'.cell? ⟨gl,0,none⟩=some (.slice A l.length c)/\w'.cell? ⟨w.heap.size,0,none⟩=some (int i64 X.f0.f0)/\w'.cell? ⟨w.heap.size,1,none⟩=some (int i64 X.f0.f1)/\w'.cell? ⟨w.heap.size,2,none⟩=some (int i64 X.f0.f2) from λw' hb=>⟨wcl (am hb) hp1,wcl (am hb) hl1,wcl (am hb) x0,wcl (am hb) x1,wcl (am hb) x2⟩);refine st (T:=sf3.T1) (B:=sf3.B1) 10 (λw':World=>w'.cell? ⟨gp,0,none⟩=some (int i64 p)/\w'.cell? ⟨gl,0,none⟩=some (.slice A l.length c)/\w'.cell? ⟨w.heap.size,0,none⟩=some (int i64 X.f0.f0)/\w'.cell? ⟨w.heap.size,1,none⟩=some (int i64 X.f0.f1)/\w'.cell? ⟨w.heap.size,2,none⟩=some (int i64 X.f0.f2)) [] (by kernel_rfl) (by kernel_rfl) (HP.out w1.drew (Qw (Below.refl _ _))) λhHeld HT_ HW_=>?_;clear hp1 hl1 x0 x1 x2;refine tk 0 5 HT_ HW_ hHeld ?_;refine tk 1 6 HT_ HW_ hHeld ?_;refine tk 2 7 HT_ HW_ hHeld ?_;clear hHeld;refine on 3 (some 8) HT_ λK hK=>?_;refine Kd.AX k51 (w0:=w1) w1.heap.size 51 ?hg (N:=8) ?hd (xs:=[X]) (inner:=[int i64 X.f0.f0,int i64 X.f0.f1,int i64 X.f0.f2]) (ok:=λ_=>True) (okp:=λ_=>True) ?hr ?hp (λ_ hk=>hk) trivial (Qw (Below.refl _ _)) (Nat.le_refl _) (by simp) ?_
 (case hd=>rfl)
 (case hg=>rfl)
 (case hr=>first|(go_simp;done)|(go_simp;rfl))
 (case hp=>exact Reps.c3 (qap _ _ _ X) (Reps.none _ _))
 intro v8 w5 ho5 hb5 hg5 hnew5
 show K (Act.put _ (some 8) v8) w5
 refine hK.out _ _ (HP.out w5 hb5) λhHeld=>nz ?_;obtain⟨A8,c8,e8⟩:=Kd.Ah ho5;subst e8;have HC8:=am (Kd.Ac ho5).2.2;have HL8:=am (Kd.Ac ho5).2.1;have HW5:=am hb5;clear hK K ho5 hb5 hg5 hnew5 HW1 hHeld;refine on 4 (some 9) HT_ λK hK=>?_;refine gs_ Tryz.func67 #[.slice A8 ([X]:List S51).length c8] ?_;refine(z9.calls k A8 c8 [X] sq _ HC8.out HL8.out HQ.out).mono ?_;rintro e w6 ⟨v9,rfl,hv9,hb9⟩;have HW6:=bq HW5 hb9;refine⟨_,rfl,?_⟩;refine hK.out _ _ (HP.out w6 HW6.out) λhHeld=>nz ?_;obtain⟨A9,c9,e9⟩:=Kd.Ah (Kd.S_R hv9);subst e9;have HC9:=am (Kd.Al hv9).2.2;clear hK K hv9 hb9 HW5 HC8 HL8 hHeld;obtain⟨adB,B,cB,eB,b0,hB2,hB3⟩:=qby HC9.out 0 H0.out;subst eB;obtain⟨bi,hbi⟩:∃ b,sq.getD 0 []=b:=⟨_,rfl⟩
 rw[hbi]at b0 hB2 hB3 HD;have hq0:(0 < sq.length)=True:=eq_true H0.out;have hq1:((0:Int) < (sq.length:Int))=True:=eq_true (by have:=H0.out;omega);refine pz 5 10 HT_ ?_;have b1:w6.cell? adB=some (.slice B bi.length cB):=by have:=b0;rwa [show adB.add 0=adB from rfl]at this
 refine on 6 (some 11) HT_ λK hK=>?_;refine qbq (w1:=?_) (v:=?_) (by rfl) rfl ?_ ?_
 rotate_left 2
 ·go_simp
  constructor
  ·rfl
  ·rfl
 refine hK.out _ _ (HP.out w6 HW6.out) λhHeld=>nz ?_;clear hK K b0 b1 hq0 hq1 hHeld;refine on 7 (some 12) HT_ λK hK=>?_;refine gs_ Tryz.func75 #[int i64 p,.slice A l.length c,.slice B bi.length cB] ?_;refine(j4.calls k p A c l B cB bi t _ (Kd.Ad HC.out HW6.out) HLC.out hB3 hB2 HD.out).mono ?_;rintro e w' ⟨rfl,⟨nd,rfl⟩⟩;refine⟨_,rfl,?_⟩;have HW7:=bq HW6 (show Below w6.heap.size w6 (w6.drewN nd) from Drawn0.below ⟨nd,rfl⟩);refine hK.out _ _ (HP.out _ HW7.out) λhHeld=>nz ?_;clear hK K hHeld;refine Et 8 13 9 4 HT_ ?_;refine Zh (Qe HT_.out (by kernel_rfl)) ?_
 go_wp2;go_ret
 exact⟨fq,ze HB.out HW7.out⟩
def sfR (k:Nat) (p:Int) (base:List (List Int)) (X:S51) (c:Nat):Nat->Nat->List Int->Option (List Int)
 | 0,_,acc=>some acc
 | d+1,i,acc=>(Q6.f k p (base.getD i []) X.f0.f0 X.f0.f1 X.f0.f2).bind λt=>if c < t.length then sfR k p base X c d (i+1) (acc++[rd t (c:Int)]) else none
def sfRs (k:Nat) (p:Int) (base:List (List Int)) (X:S51):Nat->Nat->List (List Int)->Option (List (List Int))
 | 0,_,acc=>some acc
 | d+1,c,acc=>(sfR k p base X c base.length 0 []).bind λrow=>sfRs k p base X d (c+1) (acc++[row])
def sfOn (k:Nat) (p:Int) (line:List Int) (X:S51):Option Bool:=(j4.f k p line [X.f0.f0,X.f0.f1,X.f0.f2]).bind λt=>some (t == 0)
def sfOq (k:Nat) (p:Int) (con:List Int) (X:S51):Option Bool:=(z9.f k [X]).bind λsq=>if 0 < sq.length then (j4.f k p con (sq.getD 0 [])).bind λt=>some (t == 0) else none
def sfL (on:S51->Option Bool) (k:Nat) (p:Int) (base:List (List Int)) (six:List S51):List S51->List (List Int)->Option (List (List Int))
 | [],acc=>some acc
 | X :: r,acc=>(on X).bind λb=>if b=true then (Zs.f k six X.f0.f0 X.f0.f1 X.f0.f2).bind λc=>if c=true then sfL on k p base six r acc else (Qb.f k p base X.f0.f0 X.f0.f1 X.f0.f2).bind λrow=>if 0 < row.length then sfL on k p base six r (acc++[row]) else none else sfL on k p base six r acc
def qgg (on:S51->Option Bool) (k:Nat) (p:Int) (base:List (List Int)) (six:List S51):Option (List Int):=
 (q9.f k p).bind λall=>if all.length<=1000000 then (sfL on k p base six all []).bind λrows=>Qa.f k p rows else none
def sfPt (six:List S51) (i:Int):S51:=qg six i
def zu.f (k:Nat) (p:Int) (six:List S51) (base:List (List Int)) (kk:Int):Option (List Int):=
 if six.length<=1000/\0 < base.length/\base.length<=1000 then
  if kk < 6 then (if 0<=kk/\kk < six.length then (sfRs k p base (sfPt six kk) 3 0 []).bind λrows=>Qa.f k p rows else none)
  else if kk < 21 then (jj.f k (wrap64 (kk - 6))).bind λij=>if (0<=ij.1/\ij.1 < six.length)/\0<=ij.2/\ij.2 < six.length then (Zo.f (sfPt six ij.1).f0.f0 (sfPt six ij.1).f0.f1 (sfPt six ij.1).f0.f2 (sfPt six ij.2).f0.f0 (sfPt six ij.2).f0.f1 (sfPt six ij.2).f0.f2).bind λline=>qgg (sfOn k p line) k p base six else none
  else if kk - 21 < six.length then (Z9.f k p (six.take (kk - 21).toNat++six.drop ((kk - 21).toNat+1))).bind λcon=>qgg (sfOq k p con) k p base six else none
 else none
theorem qmj (k:Nat) (p:Int) (base:List (List Int)) (X:S51) (c:Nat):∀ d i acc,LeO (sfR k p base X c d i acc) (sfR (k+1) p base X c d i acc)
 | 0,_,_=>LeO.refl _
 | d+1,i,acc=>by rw[sfR,sfR];exact LeO.bind (Q6.mono _ _ _ _ _ _) λ_=>LeO.ite (qmj k p base X c d _ _) (LeO.refl _)
theorem qjm (k:Nat) (p:Int) (base:List (List Int)) (X:S51):∀ d c acc,LeO (sfRs k p base X d c acc) (sfRs (k+1) p base X d c acc)
 | 0,_,_=>LeO.refl _
 | d+1,c,acc=>by rw[sfRs,sfRs];exact LeO.bind (qmj _ _ _ _ _ _ _ _) λ_=>qjm k p base X d _ _
theorem qqt (k:Nat) (p:Int) (line:List Int) (X:S51):LeO (sfOn k p line X) (sfOn (k+1) p line X):=LeO.bind (j4.mono _ _ _ _) λ_=>LeO.refl _
theorem qqr (k:Nat) (p:Int) (line:List Int) (X:S51):LeO (sfOq k p line X) (sfOq (k+1) p line X):=LeO.bind (z9.mono _ _) λ_=>LeO.ite (LeO.bind (j4.mono _ _ _ _) λ_=>LeO.refl _) (LeO.refl _)
theorem qff {on on':S51->Option Bool} (ho:∀ X,LeO (on X) (on' X)) (k:Nat) (p:Int) (base:List (List Int)) (six:List S51):∀ l acc,LeO (sfL on k p base six l acc) (sfL on' (k+1) p base six l acc)
 | [],_=>LeO.refl _
 | X :: r,acc=>by
  rw[sfL,sfL];exact LeO.bind (ho X) λ_=>LeO.ite (LeO.bind (Zs.mono _ _ _ _ _) λ_=>LeO.ite (qff ho k p base six r _) (LeO.bind (Qb.mono _ _ _ _ _ _) λ_=>LeO.ite (qff ho k p base six r _) (LeO.refl _))) (qff ho k p base six r _)
theorem qhs {on on':S51->Option Bool} (ho:∀ X,LeO (on X) (on' X)) (k:Nat) (p:Int) (base:List (List Int)) (six:List S51):LeO (qgg on k p base six) (qgg on' (k+1) p base six):=
 LeO.bind (q9.mono _ _) λ_=>LeO.ite (LeO.bind (qff ho _ _ _ _ _ _) λ_=>Qa.mono _ _ _) (LeO.refl _)
theorem zu.mono :∀ a0 a1 a2 a3 k,LeO (zu.f k a0 a1 a2 a3) (zu.f (k+1) a0 a1 a2 a3):=λa0 a1 a2 a3 k=>by
 unfold zu.f;exact LeO.ite (LeO.ite (LeO.ite (LeO.bind (qjm _ _ _ _ _ _ _) λ_=>Qa.mono _ _ _) (LeO.refl _)) (LeO.ite (LeO.bind (jj.mono _ _) λ_=>LeO.ite (LeO.bind (LeO.refl _) λ_=>qhs (qqt _ _ _) _ _ _ _) (LeO.refl _)) (LeO.ite (LeO.bind (Z9.mono _ _ _) λ_=>qhs (qqr _ _ _) _ _ _ _) (LeO.refl _)))) (LeO.refl _)
theorem qp7 {i d n:Nat} (h:i+(d+1)=n):n - (((i+1:Nat):Int)).toNat < n - ((i:Int)).toNat:=by omega
theorem qc1 {i n:Nat} (h:i < n):n - (((i+1:Nat):Int)).toNat < n - ((i:Int)).toNat:=by omega
def zu.T10 :Bool×List (List Nat×List Nat):=(true,[([],[]),([],[]),([],[]),([],[]),([],[]),([3,4],[3,4]),([5],[5]),([1,2,6],[1,2,6]),([],[]),([7,8],[7,8]),([9],[9]),([10],[10]),([0,11,7],[0,11]),([12,12,0,1,2,3,4,5,6,7,8,9,10,11,12],[0,12])])
def zu.B10 :List Nat:=[0,0,0,0,0,24,56,126,0,510,1022,2046,4095,8191]
def zu.T18 :Bool×List (List Nat×List Nat):=(true,[([],[]),([],[]),([0,1],[0,1]),([2],[2]),([],[]),([],[]),([4,5],[4,5]),([6],[6]),([3,7],[3,7]),([],[]),([9,8,8,0,1,2,3,4,5,6,7,8,9],[8,9])])
def zu.B18 :List Nat:=[0,0,3,7,0,0,48,112,255,0,1023]
theorem zu.calls (k:Nat) (a0:Int) (A1:Option Addr) (c1:Nat) (l1:List S51) (A2:Option Addr) (c2:Nat) (l2:List (List Int)) (a3:Int) (r:List Int) (w:World) (hr1:Kd.C k51 w A1 l1.length l1) (hc1:l1.length<=c1) (hr2:Kd.C KI w A2 l2.length l2) (hc2:l2.length<=c2) (h:zu.f k a0 l1 l2 a3=some r):
  Calls Tryz.prog 29 #[int i64 a0,.slice A1 l1.length c1,.slice A2 l2.length c2,int i64 a3] w λe w'=>∃ v0_:Value,e=.returned (v0_)/\Kd.R (Kd.int i64) 3 w' w.heap.size (λ_=>True) v0_ r/\Below w.heap.size w w':=by
 have HR1:=am hr1;have HC1:=am hc1;have HR2:=am hr2;have HC2:=am hc2;have HB:=Em w;unfold zu.f at h
 by_cases hs:l1.length<=1000/\0 < l2.length/\l2.length<=1000
 rotate_left
 ·rw[if_neg hs]at h;cases h
 rw[if_pos hs]at h;have HS:=am hs;have HF:=am h;clear hr1 hc1 hr2 hc2 hs h;go_enter Tryz.func29,Tryz.ntmps29
 go_upto_region 2 with (first
  | ((with_reducible refine zd (N:=4) rfl ?_);refine xe_ 4 3 #[int i64 a0] ?_;intro g4 hg w3 hbox hb;have BK4:=am (hbox);replace HB:=bq HB hb;clear hb hbox hg)
  | ((with_reducible refine zd (N:=22) rfl ?_);refine Kd.AR KI _ 37 ?hg (N:=22) ?hd (xs:=([]:List (List Int))) (inner:=[]) (ok:=λ_=>True) (okp:=λ_=>True) ?hr ?hp (λ_ hk=>hk) trivial (Below.refl _ _) (Nat.le_refl _) (by simp) ?_;(case hd=>rfl);(case hg=>rfl);(case hr=>first|(go_simp;done)|(go_simp;rfl));(case hp=>exact(Reps.none _ _));intro v9 w2 ho9 hb9 hg9 hnew9;have HO9:=am (Kd.Ai ho9 (bz HB));replace BK4:=am (qt (pk_ BK4) hb9);replace HB:=bq HB hb9;clear ho9 hb9 hg9 hnew9))
 have h:=HF.out;clear HF
 by_cases c6:a3 < 6
 ·rw [if_pos c6] at h
  by_cases ck:0<=a3/\a3 < l1.length
  rotate_left
  ·rw[if_neg ck]at h;cases h
  rw[if_pos ck]at h;obtain⟨rows,hrows,hspan⟩:=Option.bind_eq_some_iff.1 h;have HROW:=am hrows;have HSPAN:=am hspan;have d6:decide (a3 < 6)=true:=decide_eq_true c6;obtain⟨adX,eX,x0,x1,x2⟩:=Zn HR1.out a3 ck.1 ck.2;subst eX;have X0:=am x0;have X1:=am x1;have X2:=am x2;have HCK:=am ck;clear h hrows hspan c6 ck x0 x1 x2;unfold sfPt at HROW;generalize qg l1 a3=X at X0 X1 X2 HROW
  go_wp2
  go_loopw [9,25] (λv9 v25 w'=>∃ (d c:Nat) (acc:List (List Int)),v25=int i64 (c:Int)/\qf (c+d=3)/\qf (acc.length=c)/\qf (sfRs k a0 l2 X d c acc=some rows)/\qf (Kd.R KI 37 w' w.heap.size (λ_=>True) v9 acc)/\qf (w'.heap[g4]? =some (.cells #[int i64 a0] 3 (0,0)))/\qf (Below w.heap.size w w')) (λ_ v25 _=>3 - (intOf v25).toNat)
  case atStart=>exact⟨3,0,[],rfl,⟨by omega⟩,⟨rfl⟩,HROW,⟨wR HO9⟩,⟨pk_ BK4⟩,⟨bw HB⟩⟩
  case round=>
   clear HROW HO9 HB BK4;obtain⟨d,c,acc,rfl,HD,HAC,HROW,HO9,BK4,HB⟩:=hrel
   cases d with
   | zero=>
    have hlt:decide ((c:Int) < 3)=false:=decide_eq_false (by have:=HD.out;omega);have hr:=HROW.out;rw[sfRs]at hr;obtain rfl:=Option.some.inj hr;clear hr;obtain⟨A9,c9,e9⟩:=Kd.Ah HO9.out;subst e9;have y4:=(qe BK4.out 0).trans rfl;go_wp2_with fail;refine(Qa.calls k a0 A9 c9 acc r _ (Kd.Ac HO9.out).2.2 (Kd.Ac HO9.out).2.1 HSPAN.out).mono ?_;rintro e w5 ⟨v5,rfl,hv5,hb5⟩;have HB5:=bq HB hb5;have HV5:=am (Kd.Ai hv5 (bz HB));clear hv5 hb5;go_wp2_with fail
    go_ret
    exact⟨_,fq,wR HV5,bw HB5⟩
   | succ d=>
    have hlt:decide ((c:Int) < 3)=true:=decide_eq_true (by have:=HD.out;omega);obtain⟨row,hrow,hn⟩:=Option.bind_eq_some_iff.1 (show _=some rows by have:=HROW.out;rwa [sfRs]at this);have HR:=am hrow;have HN:=am hn;clear hrow hn HROW;have HO9b:=am (Kd.Ae (Kd.As HO9.out) (λk h=>h.2.2.1));obtain⟨w4,e4⟩:∃ x,x=wr:=⟨_,rfl⟩
    subst e4;have HW4:=am (Below.refl w4.heap.size w4)
    go_wp2_with (first
     | ((with_reducible refine zd (N:=28) rfl ?_);refine Kd.AR (Kd.int i64) _ 3 ?hg (N:=28) ?hd (xs:=([]:List Int)) (inner:=[]) (ok:=λ_=>True) (okp:=λ_=>True) ?hr ?hp (λ_ hk=>hk) trivial (Below.refl _ _) (Nat.le_refl _) (by simp) ?_;(case hd=>rfl);(case hg=>rfl);(case hr=>first|(go_simp;done)|(go_simp;rfl));(case hp=>exact(Reps.none _ _));intro v11 w5 ho13 hb5 hg5 hnew5)
     | go_in)
    have HR11:=am (Kd.Ai ho13 (bz HW4));have HW5:=bq HW4 hb5;clear ho13 hb5 hg5 hnew5 hlt
    go_loopw [11,31] (λv11 v31 w'=>∃ (d2 i:Nat) (ra:List Int),v31=int i64 (i:Int)/\qf (i+d2=l2.length)/\qf (ra.length=i)/\qf (sfR k a0 l2 X c d2 i ra=some row)/\qf (Kd.R (Kd.int i64) 3 w' w4.heap.size (λ_=>True) v11 ra)/\qf (Below w4.heap.size w4 w')) (λ_ v31 _=>l2.length - (intOf v31).toNat)
    case atStart=>exact⟨l2.length,0,[],rfl,⟨by omega⟩,⟨rfl⟩,HR,⟨wR HR11⟩,⟨bw HW5⟩⟩
    case round=>
     clear HR HR11 HW5 HW4;obtain⟨d2,i,ra,rfl,HD2,HRL,HR,HR11,HW5⟩:=hrel
     cases d2 with
     | zero=>
      have nlt:(i < l2.length)=False:=eq_false (by have:=HD2.out;omega);have hlt2:decide ((i:Int) < (l2.length:Int))=false:=decide_eq_false (by have:=HD2.out;omega);have hr:=HR.out;rw[sfR]at hr;obtain rfl:=Option.some.inj hr;clear hr;obtain⟨gr,capr,rfl,hgr,_,_⟩:=Kd.Be HR11.out (by have:=HRL.out;have:=HD2.out;have:=HS.out;omega);have HGR:=am hgr;have HR14:=am (Kd.Ai HR11.out (bz HB));have HO10:=am (Kd.Af HO9b.out HW5.out);have BK5:=am (qt BK4.out HW5.out);have HB10:=bq HB HW5.out;clear hgr HR11 HO9b HO9 HB HW5 BK4
      go_upto_region 12 with fail
      iterate 10 go_step
      refine Kd.Au KI (w0:=w) w.heap.size rfl (.tmp 49) (.tmp 51) 24 37 (.slice none 0 0) 24 rfl Tryz.underlying24 Ja rfl (by decide) (by omega) u9 acc ra [.slice (some ⟨gr,0,none⟩) ra.length capr] (λ_=>True) (λk=>some k=(Value.slice (some ⟨gr,0,none⟩) ra.length capr).ownBlock) rfl rfl ?aP (λk hk=>⟨trivial,λe=>by have h1:=HO10.out.1 k e.symm;have h2:k=gr:=Option.some.inj hk;have:=HGR.out;omega⟩) ?aF ?aO ?aB ?aS ?aL ?_
      (case aP=>exact⟨_,rfl,λk hk=>hk.symm,HR14.out.2⟩)
      (case aB=>exact HB10.out)
      (case aF=>exact(λ_ _=>trivial))
      (case aO=>exact Kd.Ae HO10.out (λ_ _=>trivial))
      (case aS=>exact HB10.out.size)
      (case aL=>have:=HAC.out;have:=HD.out;omega)
      intro v9' w9 ho9 hb9 hg9 hn9;have BK6:=am (Z2 (pk_ BK5) hg9 (Kd.R_ne HO10.out BK5.out (by decide)));have hw1:wrap64 ((c:Int)+1)=((c+1:Nat):Int):=by have:=HD.out;unfold wrap64;omega
      try go_wp2
      refine⟨?rel,?measure⟩
      case measure=>rw[hw1];exact qp7 HD.out
      case rel=>exact⟨d,c+1,acc++[ra],by rw[hw1],⟨by have:=HD.out;omega⟩,⟨by rw[List.length_append,HAC.out];rfl⟩,HN,⟨ho9⟩,⟨pk_ BK6⟩,⟨hb9⟩⟩
     | succ d2=>
      have qi:(i < l2.length)=True:=eq_true (by have:=HD2.out;omega);have hlt2:decide ((i:Int) < (l2.length:Int))=true:=decide_eq_true (by have:=HD2.out;omega);have h2:=HR.out;rw[sfR]at h2;obtain⟨t,ht,h3⟩:=Option.bind_eq_some_iff.1 h2
      by_cases hct:c < t.length
      rotate_left
      ·rw[if_neg hct]at h3;cases h3
      rw[if_pos hct]at h3;have HT:=am ht;have HN2:=am h3;have HCT:=am hct;clear h2 h3 ht hct HR;obtain⟨adB,B,cB,eB,b0,hB2,hB3⟩:=qby HR2.out i (by have:=HD2.out;omega);subst eB;obtain⟨bi,hbi⟩:∃ b,l2.getD i []=b:=⟨_,rfl⟩
      rw[hbi]at b0 hB2 hB3 HT;clear hbi;have HBW:=bq HB HW5.out;have b1:=wcl HBW b0;have pi:(0<=(i:Int))=True:=eq_true (by omega)
      go_upto_region 10 with fail
      have y0:=wcl HBW X0.out;have y1:=wcl HBW X1.out;have y2:=wcl HBW X2.out;have y4:=(qe (qt BK4.out HW5.out) 0).trans rfl;have HB3:=am hB3;have HB2:=am hB2;have HVC:=am (Kd.Ad hB3 HBW.out);clear b0 hB2 hB3 pi qi b1 hlt2;have p3:(0<=a3)=True:=eq_true HCK.out.1;have q3:(a3 < l1.length)=True:=eq_true HCK.out.2;have hS:(λw':World=>w'.cell? ⟨g4,0,none⟩=some (int i64 a0)/\w'.cell? (adX.add (a3.toNat*3))=some (int i64 X.f0.f0)/\w'.cell? ⟨(adX.add (a3.toNat*3)).block,(adX.add (a3.toNat*3)).off+1,none⟩=some (int i64 X.f0.f1)/\w'.cell? ⟨(adX.add (a3.toNat*3)).block,(adX.add (a3.toNat*3)).off+2,none⟩=some (int i64 X.f0.f2)) wr.drew:=⟨y4,y0,y1,y2⟩
      clear y0 y1 y2 y4;refine st (T:=zu.T10) (B:=zu.B10) 14 (λw':World=>w'.cell? ⟨g4,0,none⟩=some (int i64 a0)/\w'.cell? (adX.add (a3.toNat*3))=some (int i64 X.f0.f0)/\w'.cell? ⟨(adX.add (a3.toNat*3)).block,(adX.add (a3.toNat*3)).off+1,none⟩=some (int i64 X.f0.f1)/\w'.cell? ⟨(adX.add (a3.toNat*3)).block,(adX.add (a3.toNat*3)).off+2,none⟩=some (int i64 X.f0.f2)) [7,10,11,12] (by kernel_rfl) (by kernel_rfl) hS λhHeld HT_ HW_=>?_;clear hS;refine Et 0 35 2 37 HT_ ?_;refine Et 3 38 4 39 HT_ ?_;refine Et 8 43 5 40 HT_ ?_;refine tk 1 36 HT_ HW_ hHeld ?_;refine tk 6 41 HT_ HW_ hHeld ?_;clear hHeld p3 q3;refine la 7 (some 42) HT_ λK hK=>?_;refine gs_ Tryz.func69 #[int i64 a0,.slice B bi.length cB,.agg #[int i64 X.f0.f0,int i64 X.f0.f1,int i64 X.f0.f2]] ?_;refine(Q6.calls k a0 B cB bi X.f0.f0 X.f0.f1 X.f0.f2 t _ (Kd.Ad (w:=wr) HVC.out gs) HB2.out HT.out).mono ?_;rintro e w6 ⟨v6,rfl,hv6,hb6⟩;obtain⟨A6,c6',e6⟩:=Kd.Ah hv6;subst e6;have HC6:=am (Kd.Ac hv6).2.2;have HW6:=bq HW5 hb6;have HR6:=am (Kd.Af (wR HR11 (W':=wr.drew)) hb6);clear hb6 hv6;refine⟨_,rfl,?_⟩;refine hK.out _ _ (nz ?_);clear hK K;obtain⟨ad6,e6,z6⟩:=Kd.Aj HC6.out (c:Int) (by omega) (by have:=HCT.out;omega);subst e6;rw[Int.toNat_natCast]at z6;have pc:(0<=(c:Int))=True:=eq_true (by omega);have qc:(c < t.length)=True:=eq_true HCT.out;have qc2:((c:Int) < (t.length:Int))=True:=eq_true (by have:=HCT.out;omega);refine pz 9 44 HT_ ?_;refine la 10 (some 45) HT_ λK hK=>?_;refine qbq (w1:=?_) (v:=?_) (by rfl) rfl ?_ ?_
      rotate_left 2
      ·go_simp
       constructor
       ·rfl
       ·rfl
      refine hK.out _ _ (nz ?_);clear hK K z6 pc qc qc2;refine la 11 (some 46) HT_ λK hK=>?_;refine qbq (w1:=?_) (v:=?_) (by rfl) rfl ?_ ?_
      rotate_left 2
      ·go_simp
       constructor
       ·rfl
       ·rfl
      refine hK.out _ _ (nz ?_);clear hK K;refine la 12 (some 47) HT_ λK hK=>?_;refine Kd.AA (Kd.int i64) (w0:=w4) w4.heap.size (by rfl) (.tmp 35) (.tmp 46) 37 3 (int i64 0) 8 rfl Tryz.underlying37 Ju rfl (by decide) (by omega) u11 ra (rd t (c:Int)) [int i64 (rd t (c:Int))] (λ_=>True) (λ_=>False) rfl rfl ?aP (λ_ hk=>hk.elim) ?aF ?aO ?aB ?aS ?aL ?_
      (case aP=>rfl)
      (case aB=>exact HW6.out)
      (case aF=>exact(λ_ _=>trivial))
      (case aO=>exact HR6.out)
      (case aS=>exact HW6.out.size)
      (case aL=>have:=HRL.out;have:=HD2.out;have:=HS.out;omega)
      intro v9' w9 ho9 hb9 hg9 hn9;refine hK.out _ _ (nz ?_);clear hK K;refine pz 13 11 HT_ ?_;refine Zh (Qe HT_.out (by kernel_rfl)) ?_;clear HT_ HW_;have hw1:wrap64 ((i:Int)+1)=((i+1:Nat):Int):=by have:=HD2.out;have:=HS.out;unfold wrap64;omega
      try go_wp2
      go_roundw
      case measure=>rw[hw1];exact qp7 HD2.out
      case rel=>exact⟨d2,i+1,ra++[rd t (c:Int)],by rw[hw1],⟨by have:=HD2.out;omega⟩,⟨by rw[List.length_append,HRL.out];rfl⟩,HN2,⟨Kd.Af ho9 gs⟩,⟨bw (am hb9)⟩⟩
 ·rw [if_neg c6] at h
  have d6:decide (a3 < 6)=false:=decide_eq_false c6
  by_cases c21:a3 < 21
  ·rw [if_pos c21] at h
   have d21:decide (a3 < 21)=true:=decide_eq_true c21;obtain⟨⟨i1,i2⟩,hij,h2⟩:=Option.bind_eq_some_iff.1 h
   by_cases hi:(0<=i1/\i1 < l1.length)/\0<=i2/\i2 < l1.length
   rotate_left
   ·rw[if_neg hi]at h2;cases h2
   rw[if_pos hi]at h2;obtain⟨line,hline,hall⟩:=Option.bind_eq_some_iff.1 h2;have HIJ:=am hij;have HI:=am hi;have HALL:=am hall;have HLINE:=am hline;clear h h2 hij hi hall hline c6 c21;unfold qgg at HALL;unfold sfPt at HLINE;obtain⟨ad,e1,x0,x1,x2⟩:=Zn HR1.out i1 HI.out.1.1 HI.out.1.2;subst e1;obtain⟨ad',e2,x3,x4,x5⟩:=Zn HR1.out i2 HI.out.2.1 HI.out.2.2;obtain rfl:=Option.some.inj e2;have X0:=am x0;have X1:=am x1;have X2:=am x2;have X3:=am x3;have X4:=am x4;have X5:=am x5;clear x0 x1 x2 x3 x4 x5 e2;generalize qg l1 i1=X at X0 X1 X2 HLINE;generalize qg l1 i2=Y at X3 X4 X5 HLINE;go_wp2_with fail;refine(jj.calls k (wrap64 (a3 - 6)) i1 i2 _ HIJ.out).mono ?_;rintro e w3 ⟨rfl,hdr⟩;have hb3:=hdr.below;have HO3:=am (Kd.Af HO9.out hb3);have BK3:=am (qt (pk_ BK4) hb3);have HB3:=bq HB hb3;clear hdr hb3 HO9 BK4 HB HIJ
   go_upto_region 18 with fail
   have y0:=wcl HB3 X0.out;have y1:=wcl HB3 X1.out;have y2:=wcl HB3 X2.out;have y3:=wcl HB3 X3.out;have y4:=wcl HB3 X4.out;have y5:=wcl HB3 X5.out;have p1:(0<=i1)=True:=eq_true HI.out.1.1;have q1:(i1 < l1.length)=True:=eq_true HI.out.1.2;have p2:(0<=i2)=True:=eq_true HI.out.2.1;have q2:(i2 < l1.length)=True:=eq_true HI.out.2.2;obtain⟨S1,hS1⟩:∃ S1:World->Prop,S1=λw':World=>w'.cell? (ad.add (i1.toNat*3))=some (int i64 X.f0.f0)/\w'.cell? ⟨(ad.add (i1.toNat*3)).block,(ad.add (i1.toNat*3)).off+1,none⟩=some (int i64 X.f0.f1)/\w'.cell? ⟨(ad.add (i1.toNat*3)).block,(ad.add (i1.toNat*3)).off+2,none⟩=some (int i64 X.f0.f2)/\w'.cell? (ad.add (i2.toNat*3))=some (int i64 Y.f0.f0)/\w'.cell? ⟨(ad.add (i2.toNat*3)).block,(ad.add (i2.toNat*3)).off+1,none⟩=some (int i64 Y.f0.f1)/\w'.cell? ⟨(ad.add (i2.toNat*3)).block,(ad.add (i2.toNat*3)).off+2,none⟩=some (int i64 Y.f0.f2):=⟨_,rfl⟩
   have HP:=Lib.hid (show ∀ w':World,Below w3.heap.size w3 w'->S1 w' from λw' hb=>by rw[hS1];exact⟨wcl (am hb) y0,wcl (am hb) y1,wcl (am hb) y2,wcl (am hb) y3,wcl (am hb) y4,wcl (am hb) y5⟩);refine st (T:=zu.T18) (B:=zu.B18) 11 S1 [] (by kernel_rfl) (by kernel_rfl) (HP.out w3.drew (Qw (Below.refl _ _))) λhHeld HT_ HW_=>?_;clear y0 y1 y2 y3 y4 y5;refine Et 0 65 1 66 HT_ ?_;refine Et 2 67 4 69 HT_ ?_;refine Et 5 70 6 71 HT_ ?_;refine tk 3 68 HT_ HW_ hHeld ?_ (hy:=by rw[hS1];rintro w' ⟨s0,s1,s2,s3,s4,s5⟩;go_simp;with_reducible rfl);refine tk 7 72 HT_ HW_ hHeld ?_ (hy:=by rw[hS1];rintro w' ⟨s0,s1,s2,s3,s4,s5⟩;go_simp;with_reducible rfl);clear hHeld p1 q1 p2 q2 hS1;refine join_ (σ:=Value×Nat) 1 #[true,true,true,true,true,true,true,true,true,true,false] (λs_=>[(73,s_.1),(17,.pointer (some ⟨s_.2,0,none⟩))]) (λs_ w'=>S1 w'/\Kd.R (Kd.int i64) 3 w' w.heap.size (λk=>k≠s_.2) s_.1 line/\w'.heap[s_.2]? =some (.cells #[.slice none 0 0] 37 (0,0))/\w3.heap.size<=s_.2/\Below w3.heap.size w3 w') ?_ ?_
   rotate_left
   ·intro hCont
    refine two_ (i:=8) (j:=9) (Ni:=some 73) (Nj:=some 17) #[true,true,true,true,true,true,true,true,true,false,false] #[true,true,true,true,true,true,true,true,false,true,false] rfl rfl rfl rfl (qkk HT_.out (by kernel_rfl)) (by decide) (by decide) (λK hK=>?_) (λK hK=>?_)
    ·refine gs_ Tryz.func73 #[.agg #[int i64 X.f0.f0,int i64 X.f0.f1,int i64 X.f0.f2],.agg #[int i64 Y.f0.f0,int i64 Y.f0.f1,int i64 Y.f0.f2]] ?_
     refine(Zo.calls X.f0.f0 X.f0.f1 X.f0.f2 Y.f0.f0 Y.f0.f1 Y.f0.f2 line _ HLINE.out).mono ?_;rintro e w6 ⟨v6,rfl,hv6,hb6⟩;have hb6:Below w3.heap.size w3 w6:=ze (Qw (Below.refl _ _)) hb6;have HV6:=am (Kd.Ae (Kd.As (Kd.Ai hv6 (bz HB3))) (λk h=>h.2.2.1));have HW6:=am hb6;refine⟨_,rfl,?_⟩;refine hK.out _ _ (HP.out w6 hb6) λhHeld=>nz ?_;clear hK K hv6 hb6;refine on 9 (some 17) HT_ λK hK=>?_;refine xs_ 17 37 #[.slice none 0 0] ?_;intro g17 hg w7 hbox hb;have hb7:=bq HW6 hb;refine hK.out _ _ (HP.out w7 hb7.out) λhHeld=>nz ?_;clear hK K;exact qhi (by first|(simp only[qbj,Act.put,List.setIfInBounds_toArray,List.set_cons_zero,List.set_cons_succ];done)|(simp only[qbj,Act.put,List.setIfInBounds_toArray,List.set_cons_zero,List.set_cons_succ];rfl)) (hCont (v6,g17) _ ⟨hHeld,Kd.Ae (Kd.Af HV6.out hb) (λk h=>by rw[hg];exact Nat.ne_of_lt h),hbox,by rw[hg];exact HW6.out.size,hb7.out⟩)
    ·refine xs_ 17 37 #[.slice none 0 0] ?_
     intro g17 hg w7 hbox hb;have hb7:Below w3.heap.size w3 w7:=ze (Qw (Below.refl _ _)) hb;have HG17:=am hbox;have HW7:=am hb7;have hg3:g17=w3.heap.size:=hg;have HGE:=am hg3;refine hK.out _ _ (HP.out w7 hb7) λhHeld=>nz ?_;clear hK K hbox hb hb7 hg hg3;refine on 8 (some 73) HT_ λK hK=>?_;refine gs_ Tryz.func73 #[.agg #[int i64 X.f0.f0,int i64 X.f0.f1,int i64 X.f0.f2],.agg #[int i64 Y.f0.f0,int i64 Y.f0.f1,int i64 Y.f0.f2]] ?_;refine(Zo.calls X.f0.f0 X.f0.f1 X.f0.f2 Y.f0.f0 Y.f0.f1 Y.f0.f2 line _ HLINE.out).mono ?_;rintro e w6 ⟨v6,rfl,hv6,hb6⟩;have hb8:=bq HW7 hb6;refine⟨_,rfl,?_⟩;refine hK.out _ _ (HP.out w6 hb8.out) λhHeld=>nz ?_;clear hK K;exact qhi (by first|(simp only[qbj,Act.put,List.setIfInBounds_toArray,List.set_cons_zero,List.set_cons_succ];done)|(simp only[qbj,Act.put,List.setIfInBounds_toArray,List.set_cons_zero,List.set_cons_succ];rfl)) (hCont (v6,g17) _ ⟨hHeld,Kd.Ae (Kd.Ai (Kd.Ae (Kd.As hv6) (λk h=>h.2.1)) (Nat.le_trans HB3.out.size HW7.out.size)) (λk h=>by have:=Qj HG17.out;omega),qt HG17.out hb6,by rw[HGE.out];exact Nat.le_refl _,hb8.out⟩)
   rintro⟨v73,g17⟩ w8 ⟨hHeld,hv,hbox,hge,hb⟩;have c17:=(qe hbox 0).trans rfl;have f17:=ql hbox 0;have HV:=am hv;have HG:=am hbox;have HGE:=am hge;have HW8:=am hb;clear hv hbox hge hb hHeld;obtain⟨AV,cV,eV⟩:=Kd.Ah HV.out;subst eV;refine qhi (a':=?_) (by first|(simp only[qbj,Act.put,List.setIfInBounds_toArray,List.set_cons_zero,List.set_cons_succ];done)|(simp only[qbj,Act.put,List.setIfInBounds_toArray,List.set_cons_zero,List.set_cons_succ];rfl)) ?_
   rotate_left
   refine on 10 none HT_ λK hK=>?_;refine qhh (w1:=?_) (by rfl) rfl ?_ ?_
   rotate_left
   ·go_simp
    rfl
   have HO8:=am (Kd.Ae (Kd.Af (Kd.Ae (Kd.As HO3.out) (λk h=>h.2.2.1)) HW8.out) (λk (h:k < w3.heap.size)=>(show k≠g17 by have:=HGE.out;omega)));have HRW:=am (Kd.AZ (p:=⟨g17,0,none⟩) HO8.out (λk h=>h) (.slice AV line.length cV));have HLN:=am (Kd.AZ (p:=⟨g17,0,none⟩) HV.out (λk h=>h) (.slice AV line.length cV));have BK17:=am (show (w8.setCell ⟨g17,0,none⟩ (.slice AV line.length cV)).heap[g17]? =some (.cells #[.slice AV line.length cV] 37 (0,0)) from zc HG.out 0 _);have BK4:=am (show (w8.setCell ⟨g17,0,none⟩ (.slice AV line.length cV)).heap[g4]? =some (.cells #[int i64 a0] 3 (0,0)) from jh (qt BK3.out HW8.out) (Nat.ne_of_lt (Nat.lt_of_lt_of_le (Qj BK3.out) HGE.out)) _);have HB:=bq HB3 (Za HW8.out HGE.out (j:=0) (v:=.slice AV line.length cV));have hS1w:S1 (w8.setCell ⟨g17,0,none⟩ (.slice AV line.length cV)):=HP.out _ (Za HW8.out HGE.out);clear c17 f17 HO8 HV HG HGE HW8 HO3 BK3 HB3 HP;generalize w8.setCell ⟨g17,0,none⟩ (.slice AV line.length cV)=w9 at HRW HLN BK17 BK4 HB hS1w ⊢;refine hK.out _ _ hS1w λ_=>?_;clear hK K hS1w;refine Zh (Qe HT_.out (by kernel_rfl)) ?_;clear HT_ HW_;obtain⟨all,hall,hR2⟩:=Option.bind_eq_some_iff.1 (show _=some r from HALL.out)
   by_cases hal:all.length<=1000000
   rotate_left
   ·rw[if_neg hal]at hR2;cases hR2
   rw[if_pos hal]at hR2;obtain⟨rows,hrows,hspan⟩:=Option.bind_eq_some_iff.1 hR2;have HAL:=am hal;have HA:=am hall;have HRO:=am hrows;have HSP:=am hspan;have y4:=(qe BK4.out 0).trans rfl;clear hall hR2 hal hrows hspan HALL;go_wp2_with fail;refine(q9.calls k a0 all _ HA.out).mono ?_;rintro e wa ⟨v88,rfl,hv88,hb88⟩;obtain⟨AL,cL,eL⟩:=Kd.Ah hv88;subst eL;have HAA:=am (Kd.Ai hv88 (bz HB));have HLN2:=am (Kd.Af HLN.out hb88);have HRW2:=am (Kd.Af HRW.out hb88);have BK4b:=am (qt (pk_ BK4) hb88);have BK17b:=am (qt (pk_ BK17) hb88);have HB2:=bq HB hb88;clear hv88 hb88 HLN HRW BK4 BK17 HB y4 HA;go_wp2
   go_loopw [9,90] (λv9 v90 w'=>∃ (i:Nat) (acc:List (List Int)),v90=int i64 (i:Int)/\qf (i<=all.length)/\qf (acc.length<=i)/\qf (sfL (sfOn k a0 line) k a0 l2 l1 (all.drop i) acc=some rows)/\qf (Kd.R KI 37 w' w.heap.size (λk=>k≠g17) v9 acc)/\qf (Kd.R k51 51 w' w.heap.size (λ_=>True) (.slice AL all.length cL) all)/\qf (Kd.R (Kd.int i64) 3 w' w.heap.size (λ_=>True) (.slice AV line.length cV) line)/\qf (w'.heap[g4]? =some (.cells #[int i64 a0] 3 (0,0)))/\qf (w'.heap[g17]? =some (.cells #[.slice AV line.length cV] 37 (0,0)))/\qf (Below w.heap.size w w')) (λ_ v90 _=>all.length - (intOf v90).toNat)
   case atStart=>exact⟨0,[],rfl,⟨Nat.zero_le _⟩,⟨Nat.le_refl _⟩,HRO,⟨wR HRW2⟩,⟨wR HAA⟩,⟨Kd.Ae (wR HLN2) (λ_ _=>trivial)⟩,⟨pk_ BK4b⟩,⟨pk_ BK17b⟩,⟨bw HB2⟩⟩
   case round=>
    clear HRO HRW2 HAA HLN2 BK4b BK17b HB2;obtain⟨i,acc,rfl,HI,HAC,HRO,HRW,HAA,HLN,BK4,BK17,HB⟩:=hrel
    by_cases hi:i < all.length
    rotate_left
    ·have hlt:decide ((i:Int) < (all.length:Int))=false:=decide_eq_false (by omega)
     have nlt:(i < all.length)=False:=eq_false hi;have hr:=HRO.out;rw[List.drop_eq_nil_of_le (by omega),sfL]at hr;obtain rfl:=Option.some.inj hr;clear hr hi;obtain⟨A9,c9,e9⟩:=Kd.Ah HRW.out;subst e9;have y4:=(qe BK4.out 0).trans rfl;go_wp2_with fail;refine(Qa.calls k a0 A9 c9 acc r _ (Kd.Ac HRW.out).2.2 (Kd.Ac HRW.out).2.1 HSP.out).mono ?_;rintro e w5 ⟨v5,rfl,hv5,hb5⟩;have HB5:=bq HB hb5;have HV5:=am (Kd.Ai hv5 (bz HB));clear hv5 hb5;go_wp2_with fail
     go_ret
     exact⟨_,fq,wR HV5,bw HB5⟩
    ·have hlt:decide ((i:Int) < (all.length:Int))=true:=decide_eq_true (by omega)
     have qi:(i < all.length)=True:=eq_true hi;have pi:(0<=(i:Int))=True:=eq_true (by omega);have hr:=HRO.out;have hX:all.drop i=qg all (i:Int) :: all.drop (i+1):=by
      rw[List.drop_eq_getElem_cons hi]
      congr 1
      have:qg all (i:Int)=all.getD i z51:=rfl
      rw[this,List.getD_eq_getElem?_getD,List.getElem?_eq_getElem hi];rfl
     rw[hX,sfL]at hr;obtain⟨b,hb,h2⟩:=Option.bind_eq_some_iff.1 hr;obtain⟨adL,eL,x0,x1,x2⟩:=Zn (Kd.Ac HAA.out).2.2 (i:Int) (by omega) (by omega);rw[Int.toNat_natCast]at x0 x1 x2;have HBB:=am hb;have H2:=am h2;have HLT:=am hi;have HEL:=am eL;clear hr hb h2 hX HRO hi;have hw1:wrap64 ((i:Int)+1)=((i+1:Nat):Int):=by have:=HLT.out;have:=HAL.out;unfold wrap64;omega
     have HW1:=am hw1;clear hw1;generalize qg all (i:Int)=X at x0 x1 x2 HBB H2;rw[eL]at HAA ⊢;clear eL
     go_upto_region 26 with fail
     clear x0 x1 x2 qi pi hlt;have hbw:Below wr.heap.size wr (wr.alloc (.cells #[int i64 X.f0.f0,int i64 X.f0.f1,int i64 X.f0.f2] 51)):=Qm (Below.refl _ _) _;have HX:=am (heap_alloc_last wr (.cells #[int i64 X.f0.f0,int i64 X.f0.f1,int i64 X.f0.f2] 51));have HRW3:=am (Kd.Af (Kd.Ae (Kd.As HRW.out) (λk h=>(⟨h.1,h.2.2.1⟩:k≠g17/\k < wr.heap.size))) hbw);have HLN3:=am (Kd.Af HLN.out hbw);have HAA3:=am (Kd.Af HAA.out hbw);have BK4c:=am (qt BK4.out hbw);have BK17c:=am (qt BK17.out hbw);have HB3:=bq HB hbw;have HGB:=am (show wr.heap.size < (wr.alloc (.cells #[int i64 X.f0.f0,int i64 X.f0.f1,int i64 X.f0.f2] 51)).heap.size from Qj (heap_alloc_last wr (.cells #[int i64 X.f0.f0,int i64 X.f0.f1,int i64 X.f0.f2] 51)));have G4L:=am (Qj BK4.out);have G17L:=am (Qj BK17.out);clear hbw HRW HLN HAA BK4 BK17 HB;generalize wr.alloc (.cells #[int i64 X.f0.f0,int i64 X.f0.f1,int i64 X.f0.f2] 51)=wb at HX HRW3 HLN3 HAA3 BK4c BK17c HB3 HGB ⊢;generalize wr.heap.size=g21 at HX HRW3 HGB G4L G17L ⊢;have y4:wb.cell? ⟨g4,0,none⟩=some (int i64 a0):=(qe BK4c.out 0).trans rfl;have y17:wb.cell? ⟨g17,0,none⟩=some (.slice AV line.length cV):=(qe BK17c.out 0).trans rfl;have z0:wb.cell? ⟨g21,0,none⟩=some (int i64 X.f0.f0):=(qe HX.out 0).trans rfl;have z1:wb.cell? ⟨g21,1,none⟩=some (int i64 X.f0.f1):=(qe HX.out 1).trans rfl;have z2:wb.cell? ⟨g21,2,none⟩=some (int i64 X.f0.f2):=(qe HX.out 2).trans rfl;have he:∀ args w,(callFunc 74 args).run Tryz.prog w=.ok (.enter 74 args) w:=λargs w=>qft Tryz.func74 (by kernel_rfl) (by kernel_rfl) args w;go_wp2_with fail;unfold sfOn at HBB;obtain⟨tt,htt,hbb⟩:=Option.bind_eq_some_iff.1 HBB.out;obtain rfl:=Option.some.inj hbb;refine(sf2.calls k a0 g4 g17 AV cV line X.f0.f0 X.f0.f1 X.f0.f2 tt _ y4 y17 (Kd.Ac HLN3.out).2.2 (Kd.Ac HLN3.out).2.1 htt).mono ?_;rintro e w8 ⟨rfl,hb8⟩;clear htt hbb;have HX8:=am (qt HX.out hb8);have HRW8:=am (Kd.Af HRW3.out hb8);have HLN8:=am (Kd.Af HLN3.out hb8);have HAA8:=am (Kd.Af HAA3.out hb8);have BK48:=am (qt BK4c.out hb8);have BK178:=am (qt BK17c.out hb8);have HB8:=bq HB3 hb8;have HGB8:=am (Nat.lt_of_lt_of_le HGB.out hb8.size);clear y4 y17 z0 z1 z2 he hb8 HX HRW3 HLN3 HAA3 BK4c BK17c HB3 HGB HBB;have z0:w8.cell? ⟨g21,0,none⟩=some (int i64 X.f0.f0):=(qe HX8.out 0).trans rfl;have z1:w8.cell? ⟨g21,1,none⟩=some (int i64 X.f0.f1):=(qe HX8.out 1).trans rfl;have z2:w8.cell? ⟨g21,2,none⟩=some (int i64 X.f0.f2):=(qe HX8.out 2).trans rfl;have h2:=H2.out;clear H2
     cases hz:(tt == 0) with
     | false=>
      rw[hz,if_neg Bool.false_ne_true]at h2;have HN:=am h2;clear h2 hz;go_wp2_with fail
      go_roundw
      case measure=>rw[HW1.out];exact qc1 HLT.out
      case rel=>exact⟨i+1,acc,by rw[HW1.out],⟨HLT.out⟩,⟨by have:=HAC.out;omega⟩,HN,⟨Kd.Ae (wR HRW8) (λk h=>h.1)⟩,⟨wR HAA8⟩,⟨wR HLN8⟩,⟨pk_ BK48⟩,⟨pk_ BK178⟩,⟨bw HB8⟩⟩
     | true=>
      rw[hz,if_pos rfl]at h2;obtain⟨cc,hcc,h3⟩:=Option.bind_eq_some_iff.1 h2;have HCC:=am hcc;have H3:=am h3;clear h2 hz hcc h3;go_wp2_with fail;refine(Zs.calls k (some ad) c1 l1 X.f0.f0 X.f0.f1 X.f0.f2 cc _ (Kd.Ad HR1.out HB8.out) HC1.out HCC.out).mono ?_;rintro e w9 ⟨rfl,hb9⟩;have HX9:=am (qt HX8.out hb9);have HRW9:=am (Kd.Af HRW8.out hb9);have HLN9:=am (Kd.Af HLN8.out hb9);have HAA9:=am (Kd.Af HAA8.out hb9);have BK49:=am (qt BK48.out hb9);have BK179:=am (qt BK178.out hb9);have HB9:=bq HB8 hb9;have HGB9:=am (Nat.lt_of_lt_of_le HGB8.out hb9.size);clear z0 z1 z2 hb9 HX8 HRW8 HLN8 HAA8 BK48 BK178 HB8 HGB8 HCC;have h3:=H3.out;clear H3
      cases cc with
      | true=>
       rw[if_pos rfl]at h3;have HN:=am h3;clear h3;go_wp2_with fail
       go_roundw
       case measure=>rw[HW1.out];exact qc1 HLT.out
       case rel=>exact⟨i+1,acc,by rw[HW1.out],⟨HLT.out⟩,⟨by have:=HAC.out;omega⟩,HN,⟨Kd.Ae (wR HRW9) (λk h=>h.1)⟩,⟨wR HAA9⟩,⟨wR HLN9⟩,⟨pk_ BK49⟩,⟨pk_ BK179⟩,⟨bw HB9⟩⟩
      | false=>
       rw[if_neg Bool.false_ne_true]at h3;obtain⟨row,hrow,h4⟩:=Option.bind_eq_some_iff.1 h3
       by_cases hl:0 < row.length
       rotate_left
       ·rw[if_neg hl]at h4;cases h4
       rw[if_pos hl]at h4;have HROW:=am hrow;have HN:=am h4;have HRL:=am hl;clear h3 h4 hrow hl;have y4:w9.cell? ⟨g4,0,none⟩=some (int i64 a0):=(qe BK49.out 0).trans rfl;have z0:w9.cell? ⟨g21,0,none⟩=some (int i64 X.f0.f0):=(qe HX9.out 0).trans rfl;have z1:w9.cell? ⟨g21,1,none⟩=some (int i64 X.f0.f1):=(qe HX9.out 1).trans rfl;have z2:w9.cell? ⟨g21,2,none⟩=some (int i64 X.f0.f2):=(qe HX9.out 2).trans rfl;go_wp2_with fail;refine(Qb.calls k a0 A2 c2 l2 X.f0.f0 X.f0.f1 X.f0.f2 row _ (Kd.Ad HR2.out HB9.out) HC2.out HROW.out).mono ?_;rintro e w10 ⟨v107,rfl,hv,hb10⟩;obtain⟨gr,capr,rfl,hgr,_,_⟩:=Kd.Be hv HRL.out;have HGR:=am hgr;have HR14:=am (Kd.Ai hv (bz HB9));have HRW10:=am (Kd.Af HRW9.out hb10);have HLN10:=am (Kd.Af HLN9.out hb10);have HAA10:=am (Kd.Af HAA9.out hb10);have BK410:=am (qt BK49.out hb10);have BK1710:=am (qt BK179.out hb10);have HB10:=bq HB9 hb10;have HGB10:=am (Nat.lt_of_lt_of_le HGB9.out hb10.size);clear y4 z0 z1 z2 hb10 hv hgr HX9 HRW9 HLN9 HAA9 BK49 BK179 HB9 HROW;have F1:=am (show gr≠g17 by have:=HGR.out;have:=HGB9.out;have:=G17L.out;omega);have F2:=am (show ∀ k,some k=(Value.slice (some ⟨gr,0,none⟩) row.length capr).ownBlock->k≠g17/\some k≠(u9:Value).ownBlock from λk hk=>by have h2:k=gr:=Option.some.inj hk;have h3:=HGR.out;have h4:=HGB9.out;have h5:=F1.out;exact⟨by omega,λe=>by have h1:=HRW10.out.1 k e.symm;omega⟩);have F3:=am (show ∀ k,w10.heap.size<=k->k≠g17 from λk hk=>by have h4:=HGB10.out;have h5:=G17L.out;omega);have F4:=am (show acc.length<=1000000 by have:=HAC.out;have:=HLT.out;have:=HAL.out;omega)
       go_wp2_with (first
        | ((with_reducible refine jz (b:=.append) (xs:=#[.tmp 103,.tmp 108]) rfl ?_);at_builtin;refine Kd.Au KI (w0:=w) w.heap.size rfl (.tmp 103) (.tmp 108) 24 37 (.slice none 0 0) 24 rfl Tryz.underlying24 Ja rfl (by decide) (by omega) u9 acc row [.slice (some ⟨gr,0,none⟩) row.length capr] (λk=>k≠g17) (λk=>some k=(Value.slice (some ⟨gr,0,none⟩) row.length capr).ownBlock) rfl rfl ?aP F2.out ?aF ?aO ?aB ?aS ?aL ?_;(case aP=>exact⟨_,rfl,λk hk=>hk.symm,HR14.out.2⟩);(case aB=>exact HB10.out);(case aF=>exact F3.out);(case aO=>exact Kd.Ae HRW10.out (λk h=>h.1));(case aS=>exact HB10.out.size);(case aL=>have:=F4.out;omega);intro v9' w11 ho11 hb11 hg11 hn11)
        | fail)
       have HAA11:=am (Kd.Ae (Kd.Bb HAA10.out (Kd.Bj HRW10.out) (by decide) hg11) (λ_ _=>trivial));have HLN11:=am (Kd.Ae (Kd.Bb HLN10.out (Kd.Bj HRW10.out) (by decide) hg11) (λ_ _=>trivial));have BK411:=am (Z2 BK410.out hg11 (Kd.R_ne HRW10.out BK410.out (by decide)));have BK1711:=am (Z2 BK1710.out hg11 (λe=>(HRW10.out.1 _ e.symm).1 rfl))
       try go_wp2
       refine⟨?rel,?measure⟩
       case measure=>rw[HW1.out];exact qc1 HLT.out
       case rel=>exact⟨i+1,acc++[row],by rw[HW1.out],⟨HLT.out⟩,⟨by have:=HAC.out;rw[List.length_append,List.length_singleton];omega⟩,HN,⟨ho11⟩,⟨wR HAA11⟩,⟨wR HLN11⟩,⟨pk_ BK411⟩,⟨pk_ BK1711⟩,⟨hb11⟩⟩
  ·rw [if_neg c21] at h
   have d21:decide (a3 < 21)=false:=decide_eq_false c21
   by_cases hk:a3 - 21 < l1.length
   rotate_left
   ·rw[if_neg hk]at h;cases h
   rw[if_pos hk]at h;obtain⟨line,hcon,hall⟩:=Option.bind_eq_some_iff.1 h;obtain⟨n,hn⟩:∃ n:Nat,(a3 - 21).toNat=n:=⟨_,rfl⟩
   rw[hn]at hcon;have HCON:=am hcon;have HALL:=am hall;unfold qgg at HALL;have HNL:=am (show n < l1.length by omega);have E1:=am (show wrap64 (a3 - 21)=(n:Int) by have:=HS.out;unfold wrap64;omega);have E2:=am (show wrap64 (a3 - 20)=(n:Int)+1 by have:=HS.out;unfold wrap64;omega);obtain⟨five,hfive⟩:∃ five,l1.take n++l1.drop (n+1)=five:=⟨_,rfl⟩
   rw[hfive]at HCON;have HFL:=am (show five.length=l1.length - 1 by rw[<-hfive];simp only[List.length_append,List.length_take,List.length_drop];omega);have HFIVE:=am hfive;clear h hcon hall hk c6 c21 hn hfive
   go_wp2_with (first
    | ((with_reducible refine zd (N:=75) rfl ?_);refine Kd.AR k51 w2.heap.size 51 ?hg (N:=75) ?hd (w0:=w2) (xs:=([]:List S51)) (inner:=[]) (ok:=λ_=>True) (okp:=λ_=>True) ?hr ?hp (λ_ hk=>hk) trivial (Below.refl _ _) (Nat.le_refl _) (by simp) ?_;(case hd=>rfl);(case hg=>rfl);(case hr=>first|(go_simp;done)|(go_simp;rfl));(case hp=>exact(Reps.none _ _));intro v75 w3 ho75 hb75 hg75 hnew75;have HO75:=am ho75;have HW3:=am hb75;clear ho75 hb75 hg75 hnew75)
    | ((with_reducible refine jz (b:=.append) (xs:=#[.tmp 75,.tmp 76]) rfl ?_);at_builtin;refine Kd.Bo k51 (w0:=w2) w2.heap.size rfl (.tmp 75) (.tmp 76) 27 51 (.agg #[int i64 0,int i64 0,int i64 0]) 24 rfl Tryz.underlying27 qb2 rfl (by decide) (by omega) v75 [] l1 A1 l1.length c1 (λ_=>True) (λ_=>False) rfl rfl HO75.out (Kd.Ad (Kd.Ad HR1.out HB.out) HW3.out) (λ_ _ h=>h) (λ_ h=>h.elim) (λ_ _=>trivial) HW3.out HW3.out.size ?aL ?_;(case aL=>have:=HS.out;simp only[List.length_nil];omega);intro v77 w4 ho77 hb77 hg77 hn77;have HO77:=am ho77;have HW4:=am hb77;clear ho77 hb77 hg77 hn77 HO75 HW3)
    | fail)
   rw[E1.out,E2.out];have ho77:=HO77.out;rw[List.nil_append]at ho77;obtain⟨g18,cap18,e77,hge,hcap,hcalls⟩:=delPt.row ho77 n HNL.out HS.out.1;refine hcalls.mono ?_;rintro e w5 ⟨rfl,hC5,hB5⟩;have HW5:=am (hB5 w2.heap.size w2 hge HW4.out);rw[HFIVE.out,<-HFL.out]at hC5;rw[<-HFL.out];have HC5:=am hC5;have HCAP:=am (show five.length<=cap18 by have:=HFL.out;omega);have HO5:=am (Kd.Af HO9.out HW5.out);have BK5:=am (qt BK4.out HW5.out);have HB5:=bq HB HW5.out;clear hC5 hB5 hcalls hge hcap e77 ho77 HO77 HW4 HO9 BK4 HB HW5 E1 E2;have y4:w5.cell? ⟨g4,0,none⟩=some (int i64 a0):=(qe BK5.out 0).trans rfl;go_wp2_with fail;refine(Z9.calls k a0 (some ⟨g18,0,none⟩) cap18 five line _ HC5.out HCAP.out HCON.out).mono ?_;rintro e w6 ⟨v85,rfl,hv6,hb6⟩;obtain⟨AV,cV,eV⟩:=Kd.Ah hv6;subst eV;have HV6:=am (Kd.Ae (Kd.As (Kd.Ai hv6 (bz HB5))) (λk h=>h.2.2.1));have HO6:=am (Kd.Ae (Kd.As (Kd.Af HO5.out hb6)) (λk h=>h.2.2.1));have BK6:=am (qt BK5.out hb6);have HB6:=bq HB5 hb6;clear hv6 hb6 HC5 HO5 BK5 HB5 y4
   go_upto_region 22 with fail
   have hbw:Below w6.heap.size w6 (w6.alloc (.cells #[.slice AV line.length cV] 37)):=Qm (Below.refl _ _) _;have BK17:=am (heap_alloc_last w6 (.cells #[.slice AV line.length cV] 37));obtain⟨g17,hg17⟩:∃ g,g=w6.heap.size:=⟨_,rfl⟩
   rw[<-hg17]at BK17 HV6 HO6 ⊢;have HRW:=am (Kd.Ae (Kd.Af HO6.out hbw) (λk (h:k < g17)=>(Nat.ne_of_lt h:k≠g17)));have HLN:=am (Kd.Ae (Kd.Af HV6.out hbw) (λk (h:k < g17)=>(Nat.ne_of_lt h:k≠g17)));have BK4:=am (qt BK6.out hbw);have HB:=bq HB6 hbw;clear hbw hg17 HV6 HO6 BK6 HB6;generalize w6.alloc (.cells #[.slice AV line.length cV] 37)=w9 at HRW HLN BK17 BK4 HB ⊢;obtain⟨all,hall,hR2⟩:=Option.bind_eq_some_iff.1 (show _=some r from HALL.out)
   by_cases hal:all.length<=1000000
   rotate_left
   ·rw[if_neg hal]at hR2;cases hR2
   rw[if_pos hal]at hR2;obtain⟨rows,hrows,hspan⟩:=Option.bind_eq_some_iff.1 hR2;have HAL:=am hal;have HA:=am hall;have HRO:=am hrows;have HSP:=am hspan;have y4:=(qe BK4.out 0).trans rfl;clear hall hR2 hal hrows hspan HALL;go_wp2_with fail;refine(q9.calls k a0 all _ HA.out).mono ?_;rintro e wa ⟨v88,rfl,hv88,hb88⟩;obtain⟨AL,cL,eL⟩:=Kd.Ah hv88;subst eL;have HAA:=am (Kd.Ai hv88 (bz HB));have HLN2:=am (Kd.Af HLN.out hb88);have HRW2:=am (Kd.Af HRW.out hb88);have BK4b:=am (qt (pk_ BK4) hb88);have BK17b:=am (qt (pk_ BK17) hb88);have HB2:=bq HB hb88;clear hv88 hb88 HLN HRW BK4 BK17 HB y4 HA;go_wp2
   go_loopw [9,90] (λv9 v90 w'=>∃ (i:Nat) (acc:List (List Int)),v90=int i64 (i:Int)/\qf (i<=all.length)/\qf (acc.length<=i)/\qf (sfL (sfOq k a0 line) k a0 l2 l1 (all.drop i) acc=some rows)/\qf (Kd.R KI 37 w' w.heap.size (λk=>k≠g17) v9 acc)/\qf (Kd.R k51 51 w' w.heap.size (λ_=>True) (.slice AL all.length cL) all)/\qf (Kd.R (Kd.int i64) 3 w' w.heap.size (λ_=>True) (.slice AV line.length cV) line)/\qf (w'.heap[g4]? =some (.cells #[int i64 a0] 3 (0,0)))/\qf (w'.heap[g17]? =some (.cells #[.slice AV line.length cV] 37 (0,0)))/\qf (Below w.heap.size w w')) (λ_ v90 _=>all.length - (intOf v90).toNat)
   case atStart=>exact⟨0,[],rfl,⟨Nat.zero_le _⟩,⟨Nat.le_refl _⟩,HRO,⟨wR HRW2⟩,⟨wR HAA⟩,⟨Kd.Ae (wR HLN2) (λ_ _=>trivial)⟩,⟨pk_ BK4b⟩,⟨pk_ BK17b⟩,⟨bw HB2⟩⟩
   case round=>
    clear HRO HRW2 HAA HLN2 BK4b BK17b HB2;obtain⟨i,acc,rfl,HI,HAC,HRO,HRW,HAA,HLN,BK4,BK17,HB⟩:=hrel
    by_cases hi:i < all.length
    rotate_left
    ·have hlt:decide ((i:Int) < (all.length:Int))=false:=decide_eq_false (by omega)
     have nlt:(i < all.length)=False:=eq_false hi;have hr:=HRO.out;rw[List.drop_eq_nil_of_le (by omega),sfL]at hr;obtain rfl:=Option.some.inj hr;clear hr hi;obtain⟨A9,c9,e9⟩:=Kd.Ah HRW.out;subst e9;have y4:=(qe BK4.out 0).trans rfl;go_wp2_with fail;refine(Qa.calls k a0 A9 c9 acc r _ (Kd.Ac HRW.out).2.2 (Kd.Ac HRW.out).2.1 HSP.out).mono ?_;rintro e w5 ⟨v5,rfl,hv5,hb5⟩;have HB5:=bq HB hb5;have HV5:=am (Kd.Ai hv5 (bz HB));clear hv5 hb5;go_wp2_with fail
     go_ret
     exact⟨_,fq,wR HV5,bw HB5⟩
    ·have hlt:decide ((i:Int) < (all.length:Int))=true:=decide_eq_true (by omega)
     have qi:(i < all.length)=True:=eq_true hi;have pi:(0<=(i:Int))=True:=eq_true (by omega);have hr:=HRO.out;have hX:all.drop i=qg all (i:Int) :: all.drop (i+1):=by
      rw[List.drop_eq_getElem_cons hi]
      congr 1
      have:qg all (i:Int)=all.getD i z51:=rfl
      rw[this,List.getD_eq_getElem?_getD,List.getElem?_eq_getElem hi];rfl
     rw[hX,sfL]at hr;obtain⟨b,hb,h2⟩:=Option.bind_eq_some_iff.1 hr;obtain⟨adL,eL,x0,x1,x2⟩:=Zn (Kd.Ac HAA.out).2.2 (i:Int) (by omega) (by omega);rw[Int.toNat_natCast]at x0 x1 x2;have HBB:=am hb;have H2:=am h2;have HLT:=am hi;have HEL:=am eL;clear hr hb h2 hX HRO hi;have hw1:wrap64 ((i:Int)+1)=((i+1:Nat):Int):=by have:=HLT.out;have:=HAL.out;unfold wrap64;omega
     have HW1:=am hw1;clear hw1;generalize qg all (i:Int)=X at x0 x1 x2 HBB H2;rw[eL]at HAA ⊢;clear eL
     go_upto_region 26 with fail
     clear x0 x1 x2 qi pi hlt;have hbw:Below wr.heap.size wr (wr.alloc (.cells #[int i64 X.f0.f0,int i64 X.f0.f1,int i64 X.f0.f2] 51)):=Qm (Below.refl _ _) _;have HX:=am (heap_alloc_last wr (.cells #[int i64 X.f0.f0,int i64 X.f0.f1,int i64 X.f0.f2] 51));have HRW3:=am (Kd.Af (Kd.Ae (Kd.As HRW.out) (λk h=>(⟨h.1,h.2.2.1⟩:k≠g17/\k < wr.heap.size))) hbw);have HLN3:=am (Kd.Af HLN.out hbw);have HAA3:=am (Kd.Af HAA.out hbw);have BK4c:=am (qt BK4.out hbw);have BK17c:=am (qt BK17.out hbw);have HB3:=bq HB hbw;have HGB:=am (show wr.heap.size < (wr.alloc (.cells #[int i64 X.f0.f0,int i64 X.f0.f1,int i64 X.f0.f2] 51)).heap.size from Qj (heap_alloc_last wr (.cells #[int i64 X.f0.f0,int i64 X.f0.f1,int i64 X.f0.f2] 51)));have G4L:=am (Qj BK4.out);have G17L:=am (Qj BK17.out);clear hbw HRW HLN HAA BK4 BK17 HB;generalize wr.alloc (.cells #[int i64 X.f0.f0,int i64 X.f0.f1,int i64 X.f0.f2] 51)=wb at HX HRW3 HLN3 HAA3 BK4c BK17c HB3 HGB ⊢;generalize wr.heap.size=g21 at HX HRW3 HGB G4L G17L ⊢;have y4:wb.cell? ⟨g4,0,none⟩=some (int i64 a0):=(qe BK4c.out 0).trans rfl;have y17:wb.cell? ⟨g17,0,none⟩=some (.slice AV line.length cV):=(qe BK17c.out 0).trans rfl;have z0:wb.cell? ⟨g21,0,none⟩=some (int i64 X.f0.f0):=(qe HX.out 0).trans rfl;have z1:wb.cell? ⟨g21,1,none⟩=some (int i64 X.f0.f1):=(qe HX.out 1).trans rfl;have z2:wb.cell? ⟨g21,2,none⟩=some (int i64 X.f0.f2):=(qe HX.out 2).trans rfl;have he:∀ args w,(callFunc 78 args).run Tryz.prog w=.ok (.enter 78 args) w:=λargs w=>qft Tryz.func78 (by kernel_rfl) (by kernel_rfl) args w;go_wp2_with fail;unfold sfOq at HBB;obtain⟨sq,hsq,hbb⟩:=Option.bind_eq_some_iff.1 HBB.out
     by_cases h0:0 < sq.length
     rotate_left
     ·rw[if_neg h0]at hbb;cases hbb
     rw[if_pos h0]at hbb;obtain⟨tt,htt,hbb⟩:=Option.bind_eq_some_iff.1 hbb;obtain rfl:=Option.some.inj hbb;refine(sf3.calls k a0 g4 g17 AV cV line X sq tt _ y4 y17 (Kd.Ac HLN3.out).2.2 (Kd.Ac HLN3.out).2.1 hsq h0 htt).mono ?_;rintro e w8 ⟨rfl,hb8⟩;clear htt hbb hsq h0;have HX8:=am (qt HX.out hb8);have HRW8:=am (Kd.Af HRW3.out hb8);have HLN8:=am (Kd.Af HLN3.out hb8);have HAA8:=am (Kd.Af HAA3.out hb8);have BK48:=am (qt BK4c.out hb8);have BK178:=am (qt BK17c.out hb8);have HB8:=bq HB3 hb8;have HGB8:=am (Nat.lt_of_lt_of_le HGB.out hb8.size);clear y4 y17 z0 z1 z2 he hb8 HX HRW3 HLN3 HAA3 BK4c BK17c HB3 HGB HBB;have z0:w8.cell? ⟨g21,0,none⟩=some (int i64 X.f0.f0):=(qe HX8.out 0).trans rfl;have z1:w8.cell? ⟨g21,1,none⟩=some (int i64 X.f0.f1):=(qe HX8.out 1).trans rfl;have z2:w8.cell? ⟨g21,2,none⟩=some (int i64 X.f0.f2):=(qe HX8.out 2).trans rfl;have h2:=H2.out;clear H2
     cases hz:(tt == 0) with
     | false=>
      rw[hz,if_neg Bool.false_ne_true]at h2;have HN:=am h2;clear h2 hz;go_wp2_with fail
      go_roundw
      case measure=>rw[HW1.out];exact qc1 HLT.out
      case rel=>exact⟨i+1,acc,by rw[HW1.out],⟨HLT.out⟩,⟨by have:=HAC.out;omega⟩,HN,⟨Kd.Ae (wR HRW8) (λk h=>h.1)⟩,⟨wR HAA8⟩,⟨wR HLN8⟩,⟨pk_ BK48⟩,⟨pk_ BK178⟩,⟨bw HB8⟩⟩
     | true=>
      rw[hz,if_pos rfl]at h2;obtain⟨cc,hcc,h3⟩:=Option.bind_eq_some_iff.1 h2;have HCC:=am hcc;have H3:=am h3;clear h2 hz hcc h3;go_wp2_with fail;refine(Zs.calls k A1 c1 l1 X.f0.f0 X.f0.f1 X.f0.f2 cc _ (Kd.Ad HR1.out HB8.out) HC1.out HCC.out).mono ?_;rintro e w9 ⟨rfl,hb9⟩;have HX9:=am (qt HX8.out hb9);have HRW9:=am (Kd.Af HRW8.out hb9);have HLN9:=am (Kd.Af HLN8.out hb9);have HAA9:=am (Kd.Af HAA8.out hb9);have BK49:=am (qt BK48.out hb9);have BK179:=am (qt BK178.out hb9);have HB9:=bq HB8 hb9;have HGB9:=am (Nat.lt_of_lt_of_le HGB8.out hb9.size);clear z0 z1 z2 hb9 HX8 HRW8 HLN8 HAA8 BK48 BK178 HB8 HGB8 HCC;have h3:=H3.out;clear H3
      cases cc with
      | true=>
       rw[if_pos rfl]at h3;have HN:=am h3;clear h3;go_wp2_with fail
       go_roundw
       case measure=>rw[HW1.out];exact qc1 HLT.out
       case rel=>exact⟨i+1,acc,by rw[HW1.out],⟨HLT.out⟩,⟨by have:=HAC.out;omega⟩,HN,⟨Kd.Ae (wR HRW9) (λk h=>h.1)⟩,⟨wR HAA9⟩,⟨wR HLN9⟩,⟨pk_ BK49⟩,⟨pk_ BK179⟩,⟨bw HB9⟩⟩
      | false=>
       rw[if_neg Bool.false_ne_true]at h3;obtain⟨row,hrow,h4⟩:=Option.bind_eq_some_iff.1 h3
       by_cases hl:0 < row.length
       rotate_left
       ·rw[if_neg hl]at h4;cases h4
       rw[if_pos hl]at h4;have HROW:=am hrow;have HN:=am h4;have HRL:=am hl;clear h3 h4 hrow hl;have y4:w9.cell? ⟨g4,0,none⟩=some (int i64 a0):=(qe BK49.out 0).trans rfl;have z0:w9.cell? ⟨g21,0,none⟩=some (int i64 X.f0.f0):=(qe HX9.out 0).trans rfl;have z1:w9.cell? ⟨g21,1,none⟩=some (int i64 X.f0.f1):=(qe HX9.out 1).trans rfl;have z2:w9.cell? ⟨g21,2,none⟩=some (int i64 X.f0.f2):=(qe HX9.out 2).trans rfl;go_wp2_with fail;refine(Qb.calls k a0 A2 c2 l2 X.f0.f0 X.f0.f1 X.f0.f2 row _ (Kd.Ad HR2.out HB9.out) HC2.out HROW.out).mono ?_;rintro e w10 ⟨v107,rfl,hv,hb10⟩;obtain⟨gr,capr,rfl,hgr,_,_⟩:=Kd.Be hv HRL.out;have HGR:=am hgr;have HR14:=am (Kd.Ai hv (bz HB9));have HRW10:=am (Kd.Af HRW9.out hb10);have HLN10:=am (Kd.Af HLN9.out hb10);have HAA10:=am (Kd.Af HAA9.out hb10);have BK410:=am (qt BK49.out hb10);have BK1710:=am (qt BK179.out hb10);have HB10:=bq HB9 hb10;have HGB10:=am (Nat.lt_of_lt_of_le HGB9.out hb10.size);clear y4 z0 z1 z2 hb10 hv hgr HX9 HRW9 HLN9 HAA9 BK49 BK179 HB9 HROW;have F1:=am (show gr≠g17 by have:=HGR.out;have:=HGB9.out;have:=G17L.out;omega);have F2:=am (show ∀ k,some k=(Value.slice (some ⟨gr,0,none⟩) row.length capr).ownBlock->k≠g17/\some k≠(u9:Value).ownBlock from λk hk=>by have h2:k=gr:=Option.some.inj hk;have h3:=HGR.out;have h4:=HGB9.out;have h5:=F1.out;exact⟨by omega,λe=>by have h1:=HRW10.out.1 k e.symm;omega⟩);have F3:=am (show ∀ k,w10.heap.size<=k->k≠g17 from λk hk=>by have h4:=HGB10.out;have h5:=G17L.out;omega);have F4:=am (show acc.length<=1000000 by have:=HAC.out;have:=HLT.out;have:=HAL.out;omega)
       go_wp2_with (first
        | ((with_reducible refine jz (b:=.append) (xs:=#[.tmp 103,.tmp 108]) rfl ?_);at_builtin;refine Kd.Au KI (w0:=w) w.heap.size rfl (.tmp 103) (.tmp 108) 24 37 (.slice none 0 0) 24 rfl Tryz.underlying24 Ja rfl (by decide) (by omega) u9 acc row [.slice (some ⟨gr,0,none⟩) row.length capr] (λk=>k≠g17) (λk=>some k=(Value.slice (some ⟨gr,0,none⟩) row.length capr).ownBlock) rfl rfl ?aP F2.out ?aF ?aO ?aB ?aS ?aL ?_;(case aP=>exact⟨_,rfl,λk hk=>hk.symm,HR14.out.2⟩);(case aB=>exact HB10.out);(case aF=>exact F3.out);(case aO=>exact Kd.Ae HRW10.out (λk h=>h.1));(case aS=>exact HB10.out.size);(case aL=>have:=F4.out;omega);intro v9' w11 ho11 hb11 hg11 hn11)
        | fail)
       have HAA11:=am (Kd.Ae (Kd.Bb HAA10.out (Kd.Bj HRW10.out) (by decide) hg11) (λ_ _=>trivial));have HLN11:=am (Kd.Ae (Kd.Bb HLN10.out (Kd.Bj HRW10.out) (by decide) hg11) (λ_ _=>trivial));have BK411:=am (Z2 BK410.out hg11 (Kd.R_ne HRW10.out BK410.out (by decide)));have BK1711:=am (Z2 BK1710.out hg11 (λe=>(HRW10.out.1 _ e.symm).1 rfl))
       try go_wp2
       refine⟨?rel,?measure⟩
       case measure=>rw[HW1.out];exact qc1 HLT.out
       case rel=>exact⟨i+1,acc++[row],by rw[HW1.out],⟨HLT.out⟩,⟨by have:=HAC.out;rw[List.length_append,List.length_singleton];omega⟩,HN,⟨ho11⟩,⟨wR HAA11⟩,⟨wR HLN11⟩,⟨pk_ BK411⟩,⟨pk_ BK1711⟩,⟨hb11⟩⟩
set_option maxRecDepth 1000000
attribute [local go_sem] Tryz.underlying66 Tryz.underlying68
theorem indexF.any (fn:Nat) (lb:Array Value) (g n cap:Nat) (cs:Nat->Value) (q:Nat->Bool) (w:World) (hn:n<=1000000) (hc:∀ j,j < n->w.cell? ⟨g,j,none⟩=some (cs j))
  (he:∀ args w,(callFunc fn args).run Tryz.prog w=.ok (.enter fn args) w)
  (hq:∀ (j:Nat) (W:World),j < n->Below w.heap.size w W->Calls Tryz.prog fn (#[cs j]++lb) W λe w'=>e=.returned (.bool (q j))/\Below W.heap.size W w'):
  Calls Tryz.prog 82 #[.slice (some ⟨g,0,none⟩) n cap,.func (.func fn) #[] lb] w λe w'=>Below w.heap.size w w'/\((e=.returned (int i64 (-1))/\∀ j,j < n->q j=false)\/∃ i,i < n/\e=.returned (int i64 (i:Int))/\q i=true/\∀ j,j < i->q j=false):=by
 have HQ:=Lib.hid hq;have HC:=Lib.hid hc;have HN:=am hn;have HW:=Em w;clear hq hc hn;go_enter Tryz.func82,Tryz.ntmps82
 go_wp2
 go_loopw [8] (λv8 w'=>∃ j:Nat,v8=int i64 (j:Int)/\qf (j<=n)/\qf (∀ t,t < j->q t=false)/\qf (Below w.heap.size w w')) (λv8 _=>n - (intOf v8).toNat)
 case atStart=>exact⟨0,rfl,⟨Nat.zero_le _⟩,⟨λt ht=>absurd ht (Nat.not_lt_zero _)⟩,⟨bw HW⟩⟩
 case round=>
  clear HW;obtain⟨j,rfl,HJ,HL,HW⟩:=hrel
  by_cases hlt:j < n
  ·have hx:=wcl HW (HC.out j hlt)
   have hcall:=am (HQ.out j wr hlt HW.out);have qlt:(j < n)=True:=eq_true hlt;have dlt:decide ((j:Int) < (n:Int))=true:=decide_eq_true (by omega);have pj:(0<=(j:Int))=True:=eq_true (by omega);have HLT:=am hlt;clear hlt;have hw1:wrap64 ((j:Int)+1)=((j+1:Nat):Int):=by have:=HLT.out;have:=HN.out;unfold wrap64;omega
   have HW1:=am hw1;clear hw1
   cases hv:q j with
   | false=>
    rw[hv]at hcall;have HV:=am hv;clear hv;go_wp2_with fail;refine(hcall.out).mono ?_;rintro e w1 ⟨rfl,hb1⟩;have HB1:=bq HW hb1;clear hb1;go_wp2
    go_roundw
    case measure=>rw[HW1.out];simp only[intOf];have:=HLT.out;omega
    case rel=>exact⟨j+1,by rw[HW1.out],⟨HLT.out⟩,⟨λt ht=>by by_cases e:t=j;rw[e];exact HV.out;exact HL.out t (by omega)⟩,HB1⟩
   | true=>
    rw[hv]at hcall;have HV:=am hv;clear hv;go_wp2_with fail;refine(hcall.out).mono ?_;rintro e w1 ⟨rfl,hb1⟩;have HB1:=bq HW hb1;clear hb1;go_wp2;go_ret
    exact⟨HB1.out,.inr ⟨j,HLT.out,rfl,HV.out,HL.out⟩⟩
  ·have hje:j=n:=by have:=HJ.out;omega
   subst hje;have qlt:(j < j)=False:=eq_false (by omega);have dlt:decide ((j:Int) < (j:Int))=false:=decide_eq_false (by omega);clear hlt;go_wp2;go_ret
   exact⟨HW.out,.inl ⟨rfl,HL.out⟩⟩
def SameBut (g:Nat) (w W:World):Prop:=(∀ B a,B<=g->Below B a w->Below B a W)/\w.heap.size<=W.heap.size/\∀ k,k < w.heap.size->k≠g->W.heap[k]? =w.heap[k]?
theorem SameBut.refl (g:Nat) (w:World):SameBut g w w:=⟨λ_ _ _ h=>h,Nat.le_refl _,λ_ _ _=>rfl⟩
theorem SameBut.step {g:Nat} {w W W':World} (hg:g < w.heap.size) (h:SameBut g w W) (k:Below W.heap.size W W'):SameBut g w W':=
 ⟨λB a hB hb=>(h.1 B a hB hb).trans (k.mono (by have:=h.2.1;omega)),Nat.le_trans h.2.1 k.size,λi hi hne=>(k.block i (by have:=h.2.1;omega)).trans (h.2.2 i hi hne)⟩
theorem SameBut.set {g:Nat} {w W:World} (h:SameBut g w W) (j:Nat) (v:Value):SameBut g w (W.setCell ⟨g,j,none⟩ v):=
 ⟨λB a hB hb=>(h.1 B a hB hb).setCell (p:=⟨g,j,none⟩) hB v,by have:=h.2.1;rw[World.size_setCell];exact this,λi hi hne=>(Below.heap_setCell W ⟨g,j,none⟩ v i hne).trans (h.2.2 i hi hne)⟩
theorem SameBut.sets {g:Nat} {w:World}:∀ (vs:List Value) (o:Nat) {W:World},SameBut g w W->SameBut g w (W.setCells g o vs)
 | [],_,_,h=>h
 | v :: r,o,_,h=>SameBut.sets r (o+1) (h.set o v)
theorem qno {g:Nat} {ty:TypeId}:∀ (vs:List Value) (o:Nat) {W:World} {arr:Array Value},W.heap[g]? =some (.cells arr ty (0,0))->∃ arr',(W.setCells g o vs).heap[g]? =some (.cells arr' ty (0,0))/\arr'.size=arr.size/\∀ t,t < o->arr'[t]? =arr[t]?
 | [],_,_,arr,h=>⟨arr,h,rfl,λ_ _=>rfl⟩
 | v :: r,o,_,arr,h=>by
  obtain⟨a',h1,h2,h3⟩:=qno r (o+1) (zc h o v);refine⟨a',h1,by rw[h2];simp,λt ht=>?_⟩;rw[h3 t (by omega),Array.getElem?_setIfInBounds_ne (by omega)]
def Zm (q:Nat->Bool) (j:Nat):List Nat:=(List.range j).filter λt=>!q t
theorem qex (q:Nat->Bool) (j:Nat):Zm q (j+1)=Zm q j++(if q j=true then [] else [j]):=by
 unfold Zm;rw[List.range_succ,List.filter_append]
 cases h:q j<;>simp[h]
theorem qrt (q:Nat->Bool) (j:Nat):(Zm q j).length<=j:=by
 unfold Zm;exact Nat.le_trans (List.length_filter_le _ _) (by simp)
theorem qjo (q:Nat->Bool) (j:Nat) (h:∀ t,t < j->q t=false):Zm q j=List.range j:=by
 unfold Zm;rw[List.filter_eq_self];intro t ht;rw[h t (List.mem_range.1 ht)];rfl
theorem deleteF.any (fn:Nat) (lb:Array Value) (g n cap:Nat) (ty:TypeId) (arr0:Array Value) (A:Nat->Option Addr) (l c:Nat->Nat) (q:Nat->Bool) (w:World) (hn:n<=1000000) (hcap:n<=cap) (hm:cap<=9223372036854775807) (hh:w.heap[g]? =some (.cells arr0 ty (0,0))) (hsz:n<=arr0.size) (hcs:∀ j,j < n->arr0[j]? =some (.slice (A j) (l j) (c j)))
  (he:∀ args w,(callFunc fn args).run Tryz.prog w=.ok (.enter fn args) w)
  (hq:∀ (j:Nat) (W:World),j < n->SameBut g w W->Calls Tryz.prog fn (#[.slice (A j) (l j) (c j)]++lb) W λe w'=>e=.returned (.bool (q j))/\Below W.heap.size W w'):
  Calls Tryz.prog 30 #[.slice (some ⟨g,0,none⟩) n cap,.func (.func fn) #[] lb] w λe w'=>∃ arr,e=.returned (.slice (some ⟨g,0,none⟩) (Zm q n).length cap)/\w'.heap[g]? =some (.cells arr ty (0,0))/\arr.size=arr0.size/\(∀ t,t < (Zm q n).length->arr[t]? =some (.slice (A ((Zm q n).getD t 0)) (l ((Zm q n).getD t 0)) (c ((Zm q n).getD t 0))))/\SameBut g w w':=by
 have hg:g < w.heap.size:=Qj hh;have HQ:=Lib.hid hq;have HCS:=Lib.hid hcs;have HN:=am hn;have HCAP:=am hcap;have HM:=am hm;have HH:=am hh;have HSZ:=am hsz;have HG:=am hg;have hI:=indexF.any fn lb g n cap (λj=>.slice (A j) (l j) (c j)) q w hn (λj hj=>(qe hh j).trans (hcs j hj)) he (λj W hj hb=>hq j W hj ((SameBut.refl g w).step hg hb));have HI:=Lib.hid hI;clear hq hcs hn hcap hm hh hsz hg hI;go_enter Tryz.func30,Tryz.ntmps30;go_wp2_with fail;refine(HI.out).mono ?_;rintro e w1 ⟨hb,⟨rfl,hall⟩|⟨i0,hi0,rfl,hq0,hlo⟩⟩
 ·have HB:=am hb
  have HALL:=am hall;clear hb hall;go_wp2_with fail
  go_ret
  have hk:=qjo q n HALL.out;refine⟨arr0,by rw[hk,List.length_range];first|rfl|exact fq,qt HH.out HB.out,rfl,λt ht=>?_,(SameBut.refl g w).step HG.out HB.out⟩;rw[hk,List.length_range]at ht;rw[hk,List.getD_eq_getElem?_getD,List.getElem?_range ht];exact HCS.out t ht
 ·have HB:=am ((SameBut.refl g w).step HG.out hb)
  have HH1:=am (qt HH.out hb);have HI0:=am hi0;have hk0:Zm q i0=List.range i0:=qjo q i0 hlo;have HK1:=am (show (Zm q (i0+1)).length=i0/\∀ t,t < i0->(Zm q (i0+1)).getD t 0=t by
   rw[qex,if_pos hq0,List.append_nil,hk0];exact⟨List.length_range,λt ht=>by rw[List.getD_eq_getElem?_getD,List.getElem?_range ht];rfl⟩)
  have hne:((i0:Int) == -1)=false:=beq_eq_false_iff_ne.2 (by omega);have hw1:wrap64 ((i0:Int)+1)=((i0+1:Nat):Int):=by have:=HN.out;unfold wrap64;omega
  have HW1:=am hw1;clear hb hi0 hq0 hlo hk0 hw1;go_wp2_with fail
  go_loopw [5,6] (λv5 v6 w'=>∃ (j:Nat) (arr:Array Value),v5=int i64 (((Zm q j).length:Nat):Int)/\v6=int i64 (j:Int)/\qf ((Zm q j).length < j/\j<=n)/\qf (w'.heap[g]? =some (.cells arr ty (0,0)))/\qf (arr.size=arr0.size)/\qf (∀ t,t < (Zm q j).length->arr[t]? =some (.slice (A ((Zm q j).getD t 0)) (l ((Zm q j).getD t 0)) (c ((Zm q j).getD t 0))))/\qf (∀ t,j<=t->t < n->arr[t]? =some (.slice (A t) (l t) (c t)))/\qf (SameBut g w w')) (λ_ v6 _=>n - (intOf v6).toNat)
  case atStart=>exact⟨i0+1,arr0,by rw[HK1.out.1],by rw[HW1.out],⟨by have:=HK1.out.1;have:=HI0.out;omega⟩,HH1,⟨rfl⟩,⟨λt ht=>by have h1:=HK1.out.1;rw[HK1.out.2 t (by omega)];exact HCS.out t (by have:=HI0.out;omega)⟩,⟨λt h1 h2=>HCS.out t h2⟩,HB⟩
  case round=>
   clear HH1 HB HK1 HW1 HI0;obtain⟨j,arr,rfl,rfl,HJ,HH1,HAS,HLO,HHI,HB⟩:=hrel
   by_cases hlt:j < n
   ·have hx:wr.cell? ⟨g,j,none⟩=some (.slice (A j) (l j) (c j)):=(qe HH1.out j).trans (HHI.out j (Nat.le_refl _) hlt)
    have hcall:=am (HQ.out j wr hlt HB.out);have qlt:(j < n)=True:=eq_true hlt;have dlt:decide ((j:Int) < (n:Int))=true:=decide_eq_true (by omega);have pj:(0<=(j:Int))=True:=eq_true (by omega);have HLT:=am hlt;clear hlt;have hw1:wrap64 ((j:Int)+1)=((j+1:Nat):Int):=by have:=HLT.out;have:=HN.out;unfold wrap64;omega
    have HW1:=am hw1;clear hw1
    cases hv:q j with
    | true=>
     rw[hv]at hcall;have hk:Zm q (j+1)=Zm q j:=by rw[qex,if_pos hv,List.append_nil]
     have HK:=am hk;clear hv hk;go_wp2_with fail;refine(hcall.out).mono ?_;rintro e w2 ⟨rfl,hb2⟩;have HH2:=am (qt HH1.out hb2);have HB2:=am (HB.out.step HG.out hb2);clear hb2 hx HH1 HB;go_wp2_with fail
     go_roundw
     case measure=>rw[HW1.out];simp only[intOf];have:=HLT.out;omega
     case rel=>exact⟨j+1,arr,by rw[HK.out],by rw[HW1.out],⟨by rw[HK.out];have:=HJ.out;have:=HLT.out;omega⟩,⟨pk_ HH2⟩,HAS,⟨by rw[HK.out];exact HLO.out⟩,⟨λt h1 h2=>HHI.out t (by omega) h2⟩,HB2⟩
    | false=>
     rw[hv]at hcall;have hk:Zm q (j+1)=Zm q j++[j]:=by rw[qex,if_neg (by rw[hv];simp)]
     have HK:=am hk;clear hv hk;go_wp2_with fail;refine(hcall.out).mono ?_;rintro e w2 ⟨rfl,hb2⟩;have HH2:=am (qt HH1.out hb2);have HB2:=am (HB.out.step HG.out hb2);clear hb2 hx HH1 HB;have hil:(Zm q j).length < arr.size:=by have:=HJ.out;have:=HAS.out;have:=HSZ.out;have:=HLT.out;omega
     have HIL:=am hil;obtain⟨u,hu⟩:∃ u,arr[(Zm q j).length]? =some u:=⟨_,Array.getElem?_eq_getElem hil⟩
     have hcell:w2.cell? ⟨g,(Zm q j).length,none⟩=some u:=(qe HH2.out _).trans hu;have fz:=ql HH2.out (Zm q j).length;have pi:(0<=(((Zm q j).length:Nat):Int))=True:=eq_true (by omega);have qi:((Zm q j).length < n)=True:=eq_true (by have:=HJ.out;have:=HLT.out;omega);have hwi:wrap64 ((((Zm q j).length:Nat):Int)+1)=(((Zm q j).length+1:Nat):Int):=by have:=HJ.out;have:=HLT.out;have:=HN.out;unfold wrap64;omega
     have HWI:=am hwi;clear hil hwi hu;obtain⟨i,hL⟩:∃ i,(Zm q j).length=i:=⟨_,rfl⟩
     rw[hL]at hcell fz pi qi HWI HJ HLO HIL ⊢;have HL:=am hL;clear hL;go_wp2_with fail;have HSB:=am (HB2.out.set i (.slice (A j) (l j) (c j)));have HH3:=am (zc HH2.out i (.slice (A j) (l j) (c j)));clear hcell fz pi qi HH2 HB2;generalize w2.setCell ⟨g,i,none⟩ (.slice (A j) (l j) (c j))=w3 at HSB HH3 ⊢
     go_roundw
     case measure=>rw[HW1.out];simp only[intOf];have:=HLT.out;omega
     case rel=>
      have hlen:(Zm q (j+1)).length=i+1:=by rw[HK.out,List.length_append,HL.out];rfl
      refine⟨j+1,arr.setIfInBounds i (.slice (A j) (l j) (c j)),by rw[HWI.out,hlen],by rw[HW1.out],⟨by rw[hlen];have:=HJ.out;have:=HLT.out;omega⟩,⟨pk_ HH3⟩,⟨by rw[Array.size_setIfInBounds];exact HAS.out⟩,⟨λt ht=>?_⟩,⟨λt h1 h2=>?_⟩,HSB⟩
      ·rw[hlen]at ht
       by_cases hti:t=i
       ·subst hti
        have e:(Zm q (j+1)).getD t 0=j:=by
         rw[HK.out,List.getD_eq_getElem?_getD,List.getElem?_append_right (by rw[HL.out];exact Nat.le_refl _),HL.out,Nat.sub_self];rfl
        rw[e,Array.getElem?_setIfInBounds_self_of_lt HIL.out]
       ·have e:(Zm q (j+1)).getD t 0=(Zm q j).getD t 0:=by
         rw[HK.out,List.getD_eq_getElem?_getD,List.getElem?_append_left (by rw[HL.out];omega),<-List.getD_eq_getElem?_getD]
        rw[e,Array.getElem?_setIfInBounds_ne (λh=>hti h.symm)];exact HLO.out t (by omega)
      ·rw[Array.getElem?_setIfInBounds_ne (by have:=HJ.out;omega)]
       exact HHI.out t (by omega) h2
   ·have hje:j=n:=by have:=HJ.out;omega
    subst hje;have qlt:(j < j)=False:=eq_false (by omega);have dlt:decide ((j:Int) < (j:Int))=false:=decide_eq_false (by omega);obtain⟨i,hL⟩:∃ i,(Zm q j).length=i:=⟨_,rfl⟩
    rw[hL]at HJ HLO ⊢;have HL:=am hL;have hij:i < j:=HJ.out.1;have hic:i<=cap:=by have:=HCAP.out;omega
    have HIJ:=am hij;have hij2:i<=j:=by omega
    have hci:(cap=i)=False:=eq_false (by have:=HCAP.out;omega);have hcl:∀ ty,(Builtin.clear_ #[24] ty #[.slice (some ⟨g,i,none⟩) (j - i) (cap - i)]).run Tryz.prog wr=.ok (.tuple #[]) (wr.setCells g i (List.replicate (j - i) (.slice none 0 0))):=λty=>
     Lib.run_clear_slice wr 24 37 ty (.slice none 0 0) Tryz.underlying24 Tryz.zeroValue37 rfl rfl g i _ _ (by omega) (λt ht=>by
      have h2:i+t < arr.size:=by have:=HAS.out;have:=HSZ.out;omega
      rw[qe HH1.out (i+t),Array.getElem?_eq_getElem h2];rfl) (λt _=>ql HH1.out (i+t))
    clear hL hlt hij;go_wp2_with fail
    all_goals
     go_ret
     obtain⟨arr',e1,e2,e3⟩:=qno (List.replicate (j - i) (.slice none 0 0)) i HH1.out;refine⟨arr',by rw[HL.out];first|rfl|exact fq,e1,by rw[e2,HAS.out],λt ht=>?_,SameBut.sets _ _ HB.out⟩;rw[HL.out]at ht;rw[e3 t ht];exact HLO.out t ht
def qbl.f (a0 a1 a2 a3 a4 a5 a6 b0 b1 b2 b3 b4 b5 b6:Int):Option Int:=some (wrap64 (wrap64 (wrap64 (wrap64 (wrap64 (wrap64 (wrap64 (a0*b0) - wrap64 (a1*b1)) - wrap64 (a2*b2)) - wrap64 (a3*b3)) - wrap64 (a4*b4)) - wrap64 (a5*b5)) - wrap64 (a6*b6)))
theorem qbl.calls (a0 a1 a2 a3 a4 a5 a6 b0 b1 b2 b3 b4 b5 b6:Int) (r:Int) (w:World) (h:qbl.f a0 a1 a2 a3 a4 a5 a6 b0 b1 b2 b3 b4 b5 b6=some r):
  Calls Tryz.prog 90 #[.agg #[int i64 a0,int i64 a1,int i64 a2,int i64 a3,int i64 a4,int i64 a5,int i64 a6],.agg #[int i64 b0,int i64 b1,int i64 b2,int i64 b3,int i64 b4,int i64 b5,int i64 b6]] w λe w'=>e=.returned (int i64 r)/\Below w.heap.size w w':=by
 have x0:∀ W:World,(Instr.index 66 (.agg #[int i64 a1,int i64 a2,int i64 a3,int i64 a4,int i64 a5,int i64 a6]) (int i64 0)).run Tryz.prog W=.ok (int i64 a1) W:=λW=>by kernel_rfl
 have x1:∀ W:World,(Instr.index 66 (.agg #[int i64 a1,int i64 a2,int i64 a3,int i64 a4,int i64 a5,int i64 a6]) (int i64 1)).run Tryz.prog W=.ok (int i64 a2) W:=λW=>by kernel_rfl
 have x2:∀ W:World,(Instr.index 66 (.agg #[int i64 a1,int i64 a2,int i64 a3,int i64 a4,int i64 a5,int i64 a6]) (int i64 2)).run Tryz.prog W=.ok (int i64 a3) W:=λW=>by kernel_rfl
 have x3:∀ W:World,(Instr.index 66 (.agg #[int i64 a1,int i64 a2,int i64 a3,int i64 a4,int i64 a5,int i64 a6]) (int i64 3)).run Tryz.prog W=.ok (int i64 a4) W:=λW=>by kernel_rfl
 have x4:∀ W:World,(Instr.index 66 (.agg #[int i64 a1,int i64 a2,int i64 a3,int i64 a4,int i64 a5,int i64 a6]) (int i64 4)).run Tryz.prog W=.ok (int i64 a5) W:=λW=>by kernel_rfl
 have x5:∀ W:World,(Instr.index 66 (.agg #[int i64 a1,int i64 a2,int i64 a3,int i64 a4,int i64 a5,int i64 a6]) (int i64 5)).run Tryz.prog W=.ok (int i64 a6) W:=λW=>by kernel_rfl
 have HB:=Em w;obtain rfl:=Option.some.inj h;clear h;go_enter Tryz.func90,Tryz.ntmps90;go_wp2_with fail;refine wp_loop_rounds 7 ?_;rw[rounds_succ];go_wp2_with fail;rw[rounds_succ];go_wp2_with fail;rw[rounds_succ];go_wp2_with fail;rw[rounds_succ];go_wp2_with fail;rw[rounds_succ];go_wp2_with fail;rw[rounds_succ];go_wp2_with fail;rw[rounds_succ];go_wp2_with fail
 go_ret
 exact⟨fq,bw HB⟩
def clsT :List (Int×Int×Int×Int×Int×Int×Int):=[(0,-1,0,0,0,0,0),(0,0,-1,0,0,0,0),(0,0,0,-1,0,0,0),(0,0,0,0,-1,0,0),(0,0,0,0,0,-1,0),(0,0,0,0,0,0,-1),(1,1,1,0,0,0,0),(1,1,0,1,0,0,0),(1,1,0,0,1,0,0),(1,1,0,0,0,1,0),(1,1,0,0,0,0,1),(1,0,1,1,0,0,0),(1,0,1,0,1,0,0),(1,0,1,0,0,1,0),(1,0,1,0,0,0,1),(1,0,0,1,1,0,0),(1,0,0,1,0,1,0),(1,0,0,1,0,0,1),(1,0,0,0,1,1,0),(1,0,0,0,1,0,1),(1,0,0,0,0,1,1),(2,0,1,1,1,1,1),(2,1,0,1,1,1,1),(2,1,1,0,1,1,1),(2,1,1,1,0,1,1),(2,1,1,1,1,0,1),(2,1,1,1,1,1,0)]
def Qk.f (k:Int):Option (Int×Int×Int×Int×Int×Int×Int):=if 0<=k/\k < 27 then some (clsT.getD k.toNat (0,0,0,0,0,0,0)) else none
def clsV (n:Nat):Value:=.agg #[int i64 (clsT.getD n (0,0,0,0,0,0,0)).1,int i64 (clsT.getD n (0,0,0,0,0,0,0)).2.1,int i64 (clsT.getD n (0,0,0,0,0,0,0)).2.2.1,int i64 (clsT.getD n (0,0,0,0,0,0,0)).2.2.2.1,int i64 (clsT.getD n (0,0,0,0,0,0,0)).2.2.2.2.1,int i64 (clsT.getD n (0,0,0,0,0,0,0)).2.2.2.2.2.1,int i64 (clsT.getD n (0,0,0,0,0,0,0)).2.2.2.2.2.2]
theorem Jh (w:World) (A B:Obj):((w.alloc A).alloc B).heap[w.heap.size]? =some A:=by
 show ((w.heap.push A).push B)[w.heap.size]? =some A
 rw[Array.getElem?_push,if_neg (by simp),Array.getElem?_push,if_pos rfl]
def Zq (n:Nat):Prop:=∀ w:World,Calls Tryz.prog 91 #[int i64 (n:Int)] w λe w'=>e=.returned (clsV n)/\Below w.heap.size w w'
theorem cls0 :Zq 0:=λw=>by
 have HB:=Em w;go_enter Tryz.func91,Tryz.ntmps91;go_wp2_with fail;refine bodyPost_ret (results_cell_row (P:=Tryz.prog) rfl _ _ w.heap.size 68 _ (0,0) _ rfl (Jh w _ _) Tryz.underlying68 rfl (by kernel_rfl)) rfl ?_;exact⟨rfl,bw HB⟩
theorem cls1 :Zq 1:=λw=>by
 have HB:=Em w;go_enter Tryz.func91,Tryz.ntmps91;go_wp2_with fail;refine bodyPost_ret (results_cell_row (P:=Tryz.prog) rfl _ _ w.heap.size 68 _ (0,0) _ rfl (Jh w _ _) Tryz.underlying68 rfl (by kernel_rfl)) rfl ?_;exact⟨rfl,bw HB⟩
theorem cls2 :Zq 2:=λw=>by
 have HB:=Em w;go_enter Tryz.func91,Tryz.ntmps91;go_wp2_with fail;refine bodyPost_ret (results_cell_row (P:=Tryz.prog) rfl _ _ w.heap.size 68 _ (0,0) _ rfl (Jh w _ _) Tryz.underlying68 rfl (by kernel_rfl)) rfl ?_;exact⟨rfl,bw HB⟩
theorem cls3 :Zq 3:=λw=>by
 have HB:=Em w;go_enter Tryz.func91,Tryz.ntmps91;go_wp2_with fail;refine bodyPost_ret (results_cell_row (P:=Tryz.prog) rfl _ _ w.heap.size 68 _ (0,0) _ rfl (Jh w _ _) Tryz.underlying68 rfl (by kernel_rfl)) rfl ?_;exact⟨rfl,bw HB⟩
theorem cls4 :Zq 4:=λw=>by
 have HB:=Em w;go_enter Tryz.func91,Tryz.ntmps91;go_wp2_with fail;refine bodyPost_ret (results_cell_row (P:=Tryz.prog) rfl _ _ w.heap.size 68 _ (0,0) _ rfl (Jh w _ _) Tryz.underlying68 rfl (by kernel_rfl)) rfl ?_;exact⟨rfl,bw HB⟩
theorem cls5 :Zq 5:=λw=>by
 have HB:=Em w;go_enter Tryz.func91,Tryz.ntmps91;go_wp2_with fail;refine bodyPost_ret (results_cell_row (P:=Tryz.prog) rfl _ _ w.heap.size 68 _ (0,0) _ rfl (Jh w _ _) Tryz.underlying68 rfl (by kernel_rfl)) rfl ?_;exact⟨rfl,bw HB⟩
theorem cls6 :Zq 6:=λw=>by
 have HB:=Em w;go_enter Tryz.func91,Tryz.ntmps91;go_wp2_with fail;refine(jj.calls 20 0 0 1 _ (by decide+kernel)).mono ?_;rintro e w' ⟨rfl,⟨nd,rfl⟩⟩;go_wp2_with fail;have hne:w.heap.size≠w.heap.size+1:=by omega
 have G0:=am (Nat.le_refl w.heap.size);have G1:=am (Nat.le_succ w.heap.size);refine bodyPost_ret (results_cell_row (P:=Tryz.prog) rfl _ _ w.heap.size 68 _ (0,0) _ rfl (zc (zc (zc (zc (zc (zc (zc (jh (jh (jh (qw (Jh w _ _) nd) hne _) hne _) hne _) 0 _) 1 _) 2 _) 3 _) 4 _) 5 _) 6 _) Tryz.underlying68 rfl (by kernel_rfl)) rfl ?_;exact⟨rfl,bx_ HB⟩
theorem cls7 :Zq 7:=λw=>by
 have HB:=Em w;go_enter Tryz.func91,Tryz.ntmps91;go_wp2_with fail;refine(jj.calls 20 1 0 2 _ (by decide+kernel)).mono ?_;rintro e w' ⟨rfl,⟨nd,rfl⟩⟩;go_wp2_with fail;have hne:w.heap.size≠w.heap.size+1:=by omega
 have G0:=am (Nat.le_refl w.heap.size);have G1:=am (Nat.le_succ w.heap.size);refine bodyPost_ret (results_cell_row (P:=Tryz.prog) rfl _ _ w.heap.size 68 _ (0,0) _ rfl (zc (zc (zc (zc (zc (zc (zc (jh (jh (jh (qw (Jh w _ _) nd) hne _) hne _) hne _) 0 _) 1 _) 2 _) 3 _) 4 _) 5 _) 6 _) Tryz.underlying68 rfl (by kernel_rfl)) rfl ?_;exact⟨rfl,bx_ HB⟩
theorem cls8 :Zq 8:=λw=>by
 have HB:=Em w;go_enter Tryz.func91,Tryz.ntmps91;go_wp2_with fail;refine(jj.calls 20 2 0 3 _ (by decide+kernel)).mono ?_;rintro e w' ⟨rfl,⟨nd,rfl⟩⟩;go_wp2_with fail;have hne:w.heap.size≠w.heap.size+1:=by omega
 have G0:=am (Nat.le_refl w.heap.size);have G1:=am (Nat.le_succ w.heap.size);refine bodyPost_ret (results_cell_row (P:=Tryz.prog) rfl _ _ w.heap.size 68 _ (0,0) _ rfl (zc (zc (zc (zc (zc (zc (zc (jh (jh (jh (qw (Jh w _ _) nd) hne _) hne _) hne _) 0 _) 1 _) 2 _) 3 _) 4 _) 5 _) 6 _) Tryz.underlying68 rfl (by kernel_rfl)) rfl ?_;exact⟨rfl,bx_ HB⟩
theorem cls9 :Zq 9:=λw=>by
 have HB:=Em w;go_enter Tryz.func91,Tryz.ntmps91;go_wp2_with fail;refine(jj.calls 20 3 0 4 _ (by decide+kernel)).mono ?_;rintro e w' ⟨rfl,⟨nd,rfl⟩⟩;go_wp2_with fail;have hne:w.heap.size≠w.heap.size+1:=by omega
 have G0:=am (Nat.le_refl w.heap.size);have G1:=am (Nat.le_succ w.heap.size);refine bodyPost_ret (results_cell_row (P:=Tryz.prog) rfl _ _ w.heap.size 68 _ (0,0) _ rfl (zc (zc (zc (zc (zc (zc (zc (jh (jh (jh (qw (Jh w _ _) nd) hne _) hne _) hne _) 0 _) 1 _) 2 _) 3 _) 4 _) 5 _) 6 _) Tryz.underlying68 rfl (by kernel_rfl)) rfl ?_;exact⟨rfl,bx_ HB⟩
theorem cls10 :Zq 10:=λw=>by
 have HB:=Em w;go_enter Tryz.func91,Tryz.ntmps91;go_wp2_with fail;refine(jj.calls 20 4 0 5 _ (by decide+kernel)).mono ?_;rintro e w' ⟨rfl,⟨nd,rfl⟩⟩;go_wp2_with fail;have hne:w.heap.size≠w.heap.size+1:=by omega
 have G0:=am (Nat.le_refl w.heap.size);have G1:=am (Nat.le_succ w.heap.size);refine bodyPost_ret (results_cell_row (P:=Tryz.prog) rfl _ _ w.heap.size 68 _ (0,0) _ rfl (zc (zc (zc (zc (zc (zc (zc (jh (jh (jh (qw (Jh w _ _) nd) hne _) hne _) hne _) 0 _) 1 _) 2 _) 3 _) 4 _) 5 _) 6 _) Tryz.underlying68 rfl (by kernel_rfl)) rfl ?_;exact⟨rfl,bx_ HB⟩
theorem cls11 :Zq 11:=λw=>by
 have HB:=Em w;go_enter Tryz.func91,Tryz.ntmps91;go_wp2_with fail;refine(jj.calls 20 5 1 2 _ (by decide+kernel)).mono ?_;rintro e w' ⟨rfl,⟨nd,rfl⟩⟩;go_wp2_with fail;have hne:w.heap.size≠w.heap.size+1:=by omega
 have G0:=am (Nat.le_refl w.heap.size);have G1:=am (Nat.le_succ w.heap.size);refine bodyPost_ret (results_cell_row (P:=Tryz.prog) rfl _ _ w.heap.size 68 _ (0,0) _ rfl (zc (zc (zc (zc (zc (zc (zc (jh (jh (jh (qw (Jh w _ _) nd) hne _) hne _) hne _) 0 _) 1 _) 2 _) 3 _) 4 _) 5 _) 6 _) Tryz.underlying68 rfl (by kernel_rfl)) rfl ?_;exact⟨rfl,bx_ HB⟩
theorem cls12 :Zq 12:=λw=>by
 have HB:=Em w;go_enter Tryz.func91,Tryz.ntmps91;go_wp2_with fail;refine(jj.calls 20 6 1 3 _ (by decide+kernel)).mono ?_;rintro e w' ⟨rfl,⟨nd,rfl⟩⟩;go_wp2_with fail;have hne:w.heap.size≠w.heap.size+1:=by omega
 have G0:=am (Nat.le_refl w.heap.size);have G1:=am (Nat.le_succ w.heap.size);refine bodyPost_ret (results_cell_row (P:=Tryz.prog) rfl _ _ w.heap.size 68 _ (0,0) _ rfl (zc (zc (zc (zc (zc (zc (zc (jh (jh (jh (qw (Jh w _ _) nd) hne _) hne _) hne _) 0 _) 1 _) 2 _) 3 _) 4 _) 5 _) 6 _) Tryz.underlying68 rfl (by kernel_rfl)) rfl ?_;exact⟨rfl,bx_ HB⟩
theorem cls13 :Zq 13:=λw=>by
 have HB:=Em w;go_enter Tryz.func91,Tryz.ntmps91;go_wp2_with fail;refine(jj.calls 20 7 1 4 _ (by decide+kernel)).mono ?_;rintro e w' ⟨rfl,⟨nd,rfl⟩⟩;go_wp2_with fail;have hne:w.heap.size≠w.heap.size+1:=by omega
 have G0:=am (Nat.le_refl w.heap.size);have G1:=am (Nat.le_succ w.heap.size);refine bodyPost_ret (results_cell_row (P:=Tryz.prog) rfl _ _ w.heap.size 68 _ (0,0) _ rfl (zc (zc (zc (zc (zc (zc (zc (jh (jh (jh (qw (Jh w _ _) nd) hne _) hne _) hne _) 0 _) 1 _) 2 _) 3 _) 4 _) 5 _) 6 _) Tryz.underlying68 rfl (by kernel_rfl)) rfl ?_;exact⟨rfl,bx_ HB⟩
theorem cls14 :Zq 14:=λw=>by
 have HB:=Em w;go_enter Tryz.func91,Tryz.ntmps91;go_wp2_with fail;refine(jj.calls 20 8 1 5 _ (by decide+kernel)).mono ?_;rintro e w' ⟨rfl,⟨nd,rfl⟩⟩;go_wp2_with fail;have hne:w.heap.size≠w.heap.size+1:=by omega
 have G0:=am (Nat.le_refl w.heap.size);have G1:=am (Nat.le_succ w.heap.size);refine bodyPost_ret (results_cell_row (P:=Tryz.prog) rfl _ _ w.heap.size 68 _ (0,0) _ rfl (zc (zc (zc (zc (zc (zc (zc (jh (jh (jh (qw (Jh w _ _) nd) hne _) hne _) hne _) 0 _) 1 _) 2 _) 3 _) 4 _) 5 _) 6 _) Tryz.underlying68 rfl (by kernel_rfl)) rfl ?_;exact⟨rfl,bx_ HB⟩
theorem cls15 :Zq 15:=λw=>by
 have HB:=Em w;go_enter Tryz.func91,Tryz.ntmps91;go_wp2_with fail;refine(jj.calls 20 9 2 3 _ (by decide+kernel)).mono ?_;rintro e w' ⟨rfl,⟨nd,rfl⟩⟩;go_wp2_with fail;have hne:w.heap.size≠w.heap.size+1:=by omega
 have G0:=am (Nat.le_refl w.heap.size);have G1:=am (Nat.le_succ w.heap.size);refine bodyPost_ret (results_cell_row (P:=Tryz.prog) rfl _ _ w.heap.size 68 _ (0,0) _ rfl (zc (zc (zc (zc (zc (zc (zc (jh (jh (jh (qw (Jh w _ _) nd) hne _) hne _) hne _) 0 _) 1 _) 2 _) 3 _) 4 _) 5 _) 6 _) Tryz.underlying68 rfl (by kernel_rfl)) rfl ?_;exact⟨rfl,bx_ HB⟩
theorem cls16 :Zq 16:=λw=>by
 have HB:=Em w;go_enter Tryz.func91,Tryz.ntmps91;go_wp2_with fail;refine(jj.calls 20 10 2 4 _ (by decide+kernel)).mono ?_;rintro e w' ⟨rfl,⟨nd,rfl⟩⟩;go_wp2_with fail;have hne:w.heap.size≠w.heap.size+1:=by omega
 have G0:=am (Nat.le_refl w.heap.size);have G1:=am (Nat.le_succ w.heap.size);refine bodyPost_ret (results_cell_row (P:=Tryz.prog) rfl _ _ w.heap.size 68 _ (0,0) _ rfl (zc (zc (zc (zc (zc (zc (zc (jh (jh (jh (qw (Jh w _ _) nd) hne _) hne _) hne _) 0 _) 1 _) 2 _) 3 _) 4 _) 5 _) 6 _) Tryz.underlying68 rfl (by kernel_rfl)) rfl ?_;exact⟨rfl,bx_ HB⟩
theorem cls17 :Zq 17:=λw=>by
 have HB:=Em w;go_enter Tryz.func91,Tryz.ntmps91;go_wp2_with fail;refine(jj.calls 20 11 2 5 _ (by decide+kernel)).mono ?_;rintro e w' ⟨rfl,⟨nd,rfl⟩⟩;go_wp2_with fail;have hne:w.heap.size≠w.heap.size+1:=by omega
 have G0:=am (Nat.le_refl w.heap.size);have G1:=am (Nat.le_succ w.heap.size);refine bodyPost_ret (results_cell_row (P:=Tryz.prog) rfl _ _ w.heap.size 68 _ (0,0) _ rfl (zc (zc (zc (zc (zc (zc (zc (jh (jh (jh (qw (Jh w _ _) nd) hne _) hne _) hne _) 0 _) 1 _) 2 _) 3 _) 4 _) 5 _) 6 _) Tryz.underlying68 rfl (by kernel_rfl)) rfl ?_;exact⟨rfl,bx_ HB⟩
theorem cls18 :Zq 18:=λw=>by
 have HB:=Em w;go_enter Tryz.func91,Tryz.ntmps91;go_wp2_with fail;refine(jj.calls 20 12 3 4 _ (by decide+kernel)).mono ?_;rintro e w' ⟨rfl,⟨nd,rfl⟩⟩;go_wp2_with fail;have hne:w.heap.size≠w.heap.size+1:=by omega
 have G0:=am (Nat.le_refl w.heap.size);have G1:=am (Nat.le_succ w.heap.size);refine bodyPost_ret (results_cell_row (P:=Tryz.prog) rfl _ _ w.heap.size 68 _ (0,0) _ rfl (zc (zc (zc (zc (zc (zc (zc (jh (jh (jh (qw (Jh w _ _) nd) hne _) hne _) hne _) 0 _) 1 _) 2 _) 3 _) 4 _) 5 _) 6 _) Tryz.underlying68 rfl (by kernel_rfl)) rfl ?_;exact⟨rfl,bx_ HB⟩
theorem cls19 :Zq 19:=λw=>by
 have HB:=Em w;go_enter Tryz.func91,Tryz.ntmps91;go_wp2_with fail;refine(jj.calls 20 13 3 5 _ (by decide+kernel)).mono ?_;rintro e w' ⟨rfl,⟨nd,rfl⟩⟩;go_wp2_with fail;have hne:w.heap.size≠w.heap.size+1:=by omega
 have G0:=am (Nat.le_refl w.heap.size);have G1:=am (Nat.le_succ w.heap.size);refine bodyPost_ret (results_cell_row (P:=Tryz.prog) rfl _ _ w.heap.size 68 _ (0,0) _ rfl (zc (zc (zc (zc (zc (zc (zc (jh (jh (jh (qw (Jh w _ _) nd) hne _) hne _) hne _) 0 _) 1 _) 2 _) 3 _) 4 _) 5 _) 6 _) Tryz.underlying68 rfl (by kernel_rfl)) rfl ?_;exact⟨rfl,bx_ HB⟩
theorem cls20 :Zq 20:=λw=>by
 have HB:=Em w;go_enter Tryz.func91,Tryz.ntmps91;go_wp2_with fail;refine(jj.calls 20 14 4 5 _ (by decide+kernel)).mono ?_;rintro e w' ⟨rfl,⟨nd,rfl⟩⟩;go_wp2_with fail;have hne:w.heap.size≠w.heap.size+1:=by omega
 have G0:=am (Nat.le_refl w.heap.size);have G1:=am (Nat.le_succ w.heap.size);refine bodyPost_ret (results_cell_row (P:=Tryz.prog) rfl _ _ w.heap.size 68 _ (0,0) _ rfl (zc (zc (zc (zc (zc (zc (zc (jh (jh (jh (qw (Jh w _ _) nd) hne _) hne _) hne _) 0 _) 1 _) 2 _) 3 _) 4 _) 5 _) 6 _) Tryz.underlying68 rfl (by kernel_rfl)) rfl ?_;exact⟨rfl,bx_ HB⟩
theorem cls21 :Zq 21:=λw=>by
 have HB:=Em w;go_enter Tryz.func91,Tryz.ntmps91;go_wp2_with fail;refine bodyPost_ret (results_cell_row (P:=Tryz.prog) rfl _ _ w.heap.size 68 _ (0,0) _ rfl (Jh w _ _) Tryz.underlying68 rfl (by kernel_rfl)) rfl ?_;exact⟨rfl,bw HB⟩
theorem cls22 :Zq 22:=λw=>by
 have HB:=Em w;go_enter Tryz.func91,Tryz.ntmps91;go_wp2_with fail;refine bodyPost_ret (results_cell_row (P:=Tryz.prog) rfl _ _ w.heap.size 68 _ (0,0) _ rfl (Jh w _ _) Tryz.underlying68 rfl (by kernel_rfl)) rfl ?_;exact⟨rfl,bw HB⟩
theorem cls23 :Zq 23:=λw=>by
 have HB:=Em w;go_enter Tryz.func91,Tryz.ntmps91;go_wp2_with fail;refine bodyPost_ret (results_cell_row (P:=Tryz.prog) rfl _ _ w.heap.size 68 _ (0,0) _ rfl (Jh w _ _) Tryz.underlying68 rfl (by kernel_rfl)) rfl ?_;exact⟨rfl,bw HB⟩
theorem cls24 :Zq 24:=λw=>by
 have HB:=Em w;go_enter Tryz.func91,Tryz.ntmps91;go_wp2_with fail;refine bodyPost_ret (results_cell_row (P:=Tryz.prog) rfl _ _ w.heap.size 68 _ (0,0) _ rfl (Jh w _ _) Tryz.underlying68 rfl (by kernel_rfl)) rfl ?_;exact⟨rfl,bw HB⟩
theorem cls25 :Zq 25:=λw=>by
 have HB:=Em w;go_enter Tryz.func91,Tryz.ntmps91;go_wp2_with fail;refine bodyPost_ret (results_cell_row (P:=Tryz.prog) rfl _ _ w.heap.size 68 _ (0,0) _ rfl (Jh w _ _) Tryz.underlying68 rfl (by kernel_rfl)) rfl ?_;exact⟨rfl,bw HB⟩
theorem cls26 :Zq 26:=λw=>by
 have HB:=Em w;go_enter Tryz.func91,Tryz.ntmps91;go_wp2_with fail;refine bodyPost_ret (results_cell_row (P:=Tryz.prog) rfl _ _ w.heap.size 68 _ (0,0) _ rfl (Jh w _ _) Tryz.underlying68 rfl (by kernel_rfl)) rfl ?_;exact⟨rfl,bw HB⟩
theorem qu1 (n:Nat) (hn:n < 27):Zq n:=by
 rcases (show n=0\/n=1\/n=2\/n=3\/n=4\/n=5\/n=6\/n=7\/n=8\/n=9\/n=10\/n=11\/n=12\/n=13\/n=14\/n=15\/n=16\/n=17\/n=18\/n=19\/n=20\/n=21\/n=22\/n=23\/n=24\/n=25\/n=26 by omega) with rfl|rfl|rfl|rfl|rfl|rfl|rfl|rfl|rfl|rfl|rfl|rfl|rfl|rfl|rfl|rfl|rfl|rfl|rfl|rfl|rfl|rfl|rfl|rfl|rfl|rfl|rfl
 ·exact cls0
 ·exact cls1
 ·exact cls2
 ·exact cls3
 ·exact cls4
 ·exact cls5
 ·exact cls6
 ·exact cls7
 ·exact cls8
 ·exact cls9
 ·exact cls10
 ·exact cls11
 ·exact cls12
 ·exact cls13
 ·exact cls14
 ·exact cls15
 ·exact cls16
 ·exact cls17
 ·exact cls18
 ·exact cls19
 ·exact cls20
 ·exact cls21
 ·exact cls22
 ·exact cls23
 ·exact cls24
 ·exact cls25
 ·exact cls26
theorem Qk.calls (a0:Int) (r1 r2 r3 r4 r5 r6 r7:Int) (w:World) (h:Qk.f a0=some (r1,r2,r3,r4,r5,r6,r7)):
  Calls Tryz.prog 91 #[int i64 a0] w λe w'=>e=.returned (.agg #[int i64 r1,int i64 r2,int i64 r3,int i64 r4,int i64 r5,int i64 r6,int i64 r7])/\Below w.heap.size w w':=by
 unfold Qk.f at h
 by_cases hk:0<=a0/\a0 < 27
 ·rw[if_pos hk]at h
  obtain⟨n,rfl⟩:=Int.eq_ofNat_of_zero_le hk.1;have h2:=Option.some.inj h
  have:=qu1 n (by omega) w
  rw[Int.toNat_natCast]at h2;rw[clsV,h2]at this;exact this
 ·rw[if_neg hk]at h;cases h
def qbm.f (a0:Int) (a1:Int):Option (Bool):=(Qk.f a0).bind λbt529=>((Qk.f a1).bind λbt536=>((qbl.f bt529.1 bt529.2.1 bt529.2.2.1 bt529.2.2.2.1 bt529.2.2.2.2.1 bt529.2.2.2.2.2.1 bt529.2.2.2.2.2.2 bt536.1 bt536.2.1 bt536.2.2.1 bt536.2.2.2.1 bt536.2.2.2.2.1 bt536.2.2.2.2.2.1 bt536.2.2.2.2.2.2).bind λt543=>(some (t543 == 1))))
theorem qbm.calls (a0:Int) (a1:Int) (r:Bool) (w:World) (h:qbm.f a0 a1=some r):
  Calls Tryz.prog 43 #[int i64 a0,int i64 a1] w λe w'=>e=.returned (.bool r)/\Below w.heap.size w w':=by
 have HB:=Em w;have H:=h;unfold qbm.f at H;clear h;replace H:=bs H;obtain⟨⟨t529,t530,t531,t532,t533,t534,t535⟩,A3,H⟩:=H;dsimp only at H;replace H:=bs H;obtain⟨⟨t536,t537,t538,t539,t540,t541,t542⟩,A4,H⟩:=H;dsimp only at H;replace H:=bs H;obtain⟨t543,A5,H⟩:=H;obtain rfl:=Option.some.inj H;go_enter Tryz.func43,Tryz.ntmps43
 go_wp2_with (first|((with_reducible refine za (f:=91) rfl ?_);refine gl 6 Tryz.func91 #[int i64 a0] ?_;(with_reducible refine(Qk.calls a0 t529 t530 t531 t532 t533 t534 t535 _ A3.out).mono ?_);rintro e w6 ⟨rfl,hb⟩;refine⟨_,rfl,?_⟩;replace HB:=bq HB hb;(try clear hb))|((with_reducible refine za (f:=91) rfl ?_);refine gl 8 Tryz.func91 #[int i64 a1] ?_;(with_reducible refine(Qk.calls a1 t536 t537 t538 t539 t540 t541 t542 _ A4.out).mono ?_);rintro e w7 ⟨rfl,hb⟩;refine⟨_,rfl,?_⟩;replace HB:=bq HB hb;(try clear hb))|((with_reducible refine za (f:=90) rfl ?_);refine gl 9 Tryz.func90 #[.agg #[int i64 t529,int i64 t530,int i64 t531,int i64 t532,int i64 t533,int i64 t534,int i64 t535],.agg #[int i64 t536,int i64 t537,int i64 t538,int i64 t539,int i64 t540,int i64 t541,int i64 t542]] ?_;(with_reducible refine(qbl.calls t529 t530 t531 t532 t533 t534 t535 t536 t537 t538 t539 t540 t541 t542 t543 _ A5.out).mono ?_);rintro e w8 ⟨rfl,hb⟩;refine⟨_,rfl,?_⟩;replace HB:=bq HB hb;(try clear hb)))
 go_ret
 exact⟨fq,bw HB⟩
theorem qbd (a x:Int) (d:Nat) (W:World):(Op.equalIn (d+1) 3 (int i64 a) (int i64 x)).run Tryz.prog W=.ok (a == x) W:=by
 unfold Op.equalIn
 simp[Sem.run_bind,run_underlying Tryz.underlying3]
theorem D1 (a1 a2 a3 a4 a5 a6 x1 x2 x3 x4 x5 x6:Int) (W:World):(Op.equalIn 9999 66 (.agg #[int i64 a1,int i64 a2,int i64 a3,int i64 a4,int i64 a5,int i64 a6]) (.agg #[int i64 x1,int i64 x2,int i64 x3,int i64 x4,int i64 x5,int i64 x6])).run Tryz.prog W=.ok (a1 == x1 && (a2 == x2 && (a3 == x3 && (a4 == x4 && (a5 == x5 && (a6 == x6)))))) W:=by
 obtain⟨i,hi,_⟩:=Option.map_eq_some_iff.1 Ju;have p0:∀ a b c d e f:Int,(part 3 #[int i64 a,int i64 b,int i64 c,int i64 d,int i64 e,int i64 f] 0).run Tryz.prog W=.ok (int i64 a) W:=λa b c d e f=>by kernel_rfl
 have p1:∀ a b c d e f:Int,(part 3 #[int i64 a,int i64 b,int i64 c,int i64 d,int i64 e,int i64 f] 1).run Tryz.prog W=.ok (int i64 b) W:=λa b c d e f=>by kernel_rfl
 have p2:∀ a b c d e f:Int,(part 3 #[int i64 a,int i64 b,int i64 c,int i64 d,int i64 e,int i64 f] 2).run Tryz.prog W=.ok (int i64 c) W:=λa b c d e f=>by kernel_rfl
 have p3:∀ a b c d e f:Int,(part 3 #[int i64 a,int i64 b,int i64 c,int i64 d,int i64 e,int i64 f] 3).run Tryz.prog W=.ok (int i64 d) W:=λa b c d e f=>by kernel_rfl
 have p4:∀ a b c d e f:Int,(part 3 #[int i64 a,int i64 b,int i64 c,int i64 d,int i64 e,int i64 f] 4).run Tryz.prog W=.ok (int i64 e) W:=λa b c d e f=>by kernel_rfl
 have p5:∀ a b c d e f:Int,(part 3 #[int i64 a,int i64 b,int i64 c,int i64 d,int i64 e,int i64 f] 5).run Tryz.prog W=.ok (int i64 f) W:=λa b c d e f=>by kernel_rfl
 rw[run_equalIn_array (P:=Tryz.prog) (w:=W) 9998 _ _ Tryz.underlying66 hi,show Tryz.prog.cellsOf 3=1 by kernel_rfl,show List.range 6=[0,1,2,3,4,5] from rfl];simp only[Op.eqItems,Nat.mul_one,Sem.run_bind,p0,p1,p2,p3,p4,p5,Result.andThen_ok,qbd a1 x1 9997 W,qbd a2 x2 9997 W,qbd a3 x3 9997 W,qbd a4 x4 9997 W,qbd a5 x5 9997 W,qbd a6 x6 9997 W]
 by_cases h1:a1=x1
 rotate_left
 ·simp[h1,p0,p1,p2,p3,p4,p5,qbd]
 by_cases h2:a2=x2
 rotate_left
 ·simp[h1,h2,p0,p1,p2,p3,p4,p5,qbd]
 by_cases h3:a3=x3
 rotate_left
 ·simp[h1,h2,h3,p0,p1,p2,p3,p4,p5,qbd]
 by_cases h4:a4=x4
 rotate_left
 ·simp[h1,h2,h3,h4,p0,p1,p2,p3,p4,p5,qbd]
 by_cases h5:a5=x5
 rotate_left
 ·simp[h1,h2,h3,h4,h5,p0,p1,p2,p3,p4,p5,qbd]
 by_cases h6:a6=x6
 rotate_left
 ·simp[h1,h2,h3,h4,h5,h6,p0,p1,p2,p3,p4,p5,qbd]
 simp[h1,h2,h3,h4,h5,h6,p0,p1,p2,p3,p4,p5,qbd]
theorem DJ (a0 a1 a2 a3 a4 a5 a6 x0 x1 x2 x3 x4 x5 x6:Int) (W:World):(Op.equalIn 10000 68 (.agg #[int i64 a0,int i64 a1,int i64 a2,int i64 a3,int i64 a4,int i64 a5,int i64 a6]) (.agg #[int i64 x0,int i64 x1,int i64 x2,int i64 x3,int i64 x4,int i64 x5,int i64 x6])).run Tryz.prog W=.ok (a0 == x0 && (a1 == x1 && (a2 == x2 && (a3 == x3 && (a4 == x4 && (a5 == x5 && (a6 == x6))))))) W:=by
 refine quo (d:=9999) Tryz.underlying68 (by kernel_rfl) ?_;exact qr5 rfl (by kernel_rfl) (by kernel_rfl) (qbd a0 x0 9998 W) (qlx rfl (by kernel_rfl) (by kernel_rfl) (D1 a1 a2 a3 a4 a5 a6 x1 x2 x3 x4 x5 x6 W))
def qin (a:Int×Int×Int×Int×Int×Int×Int):Nat->Nat->Int
 | 0,_=> -1
 | d+1,n=>if clsT.getD n (0,0,0,0,0,0,0)=a then (n:Int) else qin a d (n+1)
def Zb.f (a0 a1 a2 a3 a4 a5 a6:Int):Option Int:=some (qin (a0,a1,a2,a3,a4,a5,a6) 27 0)
def Zb.T4 :Bool×List (List Nat×List Nat):=(true,[([],[]),([0],[0]),([],[]),([1,2],[1,2])])
def Zb.B4 :List Nat:=[0,1,0,7]
theorem qux {i d n:Nat} (h:i+(d+1)=n):n - (((i+1:Nat):Int)).toNat < n - ((i:Int)).toNat:=by omega
theorem Zb.calls (a0 a1 a2 a3 a4 a5 a6:Int) (r:Int) (w:World) (h:Zb.f a0 a1 a2 a3 a4 a5 a6=some r):
  Calls Tryz.prog 112 #[.agg #[int i64 a0,int i64 a1,int i64 a2,int i64 a3,int i64 a4,int i64 a5,int i64 a6]] w λe w'=>e=.returned (int i64 r)/\Below w.heap.size w w':=by
 have H:=am (Option.some.inj h);clear h;have HX:=am (heap_alloc_last w (.cells #[int i64 a0,int i64 a1,int i64 a2,int i64 a3,int i64 a4,int i64 a5,int i64 a6] 68));have HB:=am (show Below w.heap.size w (w.alloc (.cells #[int i64 a0,int i64 a1,int i64 a2,int i64 a3,int i64 a4,int i64 a5,int i64 a6] 68)) from bw (Em w));go_enter Tryz.func112,Tryz.ntmps112;go_wp2_with fail;generalize w.alloc (.cells #[int i64 a0,int i64 a1,int i64 a2,int i64 a3,int i64 a4,int i64 a5,int i64 a6] 68)=w2 at HX HB ⊢;have HW:=am (Below.refl w2.heap.size w2)
 go_loopw [4] (λv4 w'=>∃ (d n:Nat),v4=int i64 (n:Int)/\qf (n+d=27)/\qf (qin (a0,a1,a2,a3,a4,a5,a6) d n=r)/\qf (Below w2.heap.size w2 w')) (λv4 _=>27 - (intOf v4).toNat)
 case atStart=>exact⟨27,0,rfl,⟨by omega⟩,H,⟨bw HW⟩⟩
 case round=>
  clear H HW;obtain⟨d,n,rfl,HD,H,HW⟩:=hrel
  cases d with
  | zero=>
   have hlt:decide ((n:Int) < 27)=false:=decide_eq_false (by have:=HD.out;omega);have hr:=H.out;rw[qin]at hr;subst hr;go_wp2;go_ret
   exact⟨fq,ze HB.out (bw HW)⟩
  | succ d=>
   have hlt:decide ((n:Int) < 27)=true:=decide_eq_true (by have:=HD.out;omega);have hr:=H.out;rw[qin]at hr;have HR:=am hr;have HL:=am (show Qk.f (n:Int)=some (clsT.getD n (0,0,0,0,0,0,0)) by rw[Qk.f,if_pos (by have:=HD.out;omega),Int.toNat_natCast]);clear hr H;generalize clsT.getD n (0,0,0,0,0,0,0)=T at HR HL;obtain⟨x0,x1,x2,x3,x4,x5,x6⟩:=T
   go_upto_region 4 with fail
   have y0:wr.drew.cell? ⟨w.heap.size,0,none⟩=some (int i64 a0):=(qe (qy (qt HX.out HW.out)) 0).trans rfl;have y1:wr.drew.cell? ⟨w.heap.size,1,none⟩=some (int i64 a1):=(qe (qy (qt HX.out HW.out)) 1).trans rfl;have y2:wr.drew.cell? ⟨w.heap.size,2,none⟩=some (int i64 a2):=(qe (qy (qt HX.out HW.out)) 2).trans rfl;have y3:wr.drew.cell? ⟨w.heap.size,3,none⟩=some (int i64 a3):=(qe (qy (qt HX.out HW.out)) 3).trans rfl;have y4:wr.drew.cell? ⟨w.heap.size,4,none⟩=some (int i64 a4):=(qe (qy (qt HX.out HW.out)) 4).trans rfl;have y5:wr.drew.cell? ⟨w.heap.size,5,none⟩=some (int i64 a5):=(qe (qy (qt HX.out HW.out)) 5).trans rfl;have y6:wr.drew.cell? ⟨w.heap.size,6,none⟩=some (int i64 a6):=(qe (qy (qt HX.out HW.out)) 6).trans rfl;have HP:=Lib.hid (show ∀ w':World,Below wr.heap.size wr w'->w'.cell? ⟨w.heap.size,0,none⟩=some (int i64 a0)/\w'.cell? ⟨w.heap.size,1,none⟩=some (int i64 a1)/\w'.cell? ⟨w.heap.size,2,none⟩=some (int i64 a2)/\w'.cell? ⟨w.heap.size,3,none⟩=some (int i64 a3)/\w'.cell? ⟨w.heap.size,4,none⟩=some (int i64 a4)/\w'.cell? ⟨w.heap.size,5,none⟩=some (int i64 a5)/\w'.cell? ⟨w.heap.size,6,none⟩=some (int i64 a6) from λw' hb=>⟨wcl (am hb) (show wr.cell? _=_ from y0),wcl (am hb) (show wr.cell? _=_ from y1),wcl (am hb) (show wr.cell? _=_ from y2),wcl (am hb) (show wr.cell? _=_ from y3),wcl (am hb) (show wr.cell? _=_ from y4),wcl (am hb) (show wr.cell? _=_ from y5),wcl (am hb) (show wr.cell? _=_ from y6)⟩);refine st (T:=Zb.T4) (B:=Zb.B4) 4 (λw':World=>w'.cell? ⟨w.heap.size,0,none⟩=some (int i64 a0)/\w'.cell? ⟨w.heap.size,1,none⟩=some (int i64 a1)/\w'.cell? ⟨w.heap.size,2,none⟩=some (int i64 a2)/\w'.cell? ⟨w.heap.size,3,none⟩=some (int i64 a3)/\w'.cell? ⟨w.heap.size,4,none⟩=some (int i64 a4)/\w'.cell? ⟨w.heap.size,5,none⟩=some (int i64 a5)/\w'.cell? ⟨w.heap.size,6,none⟩=some (int i64 a6)) [] (by kernel_rfl) (by kernel_rfl) (HP.out wr.drew (Qw (Below.refl _ _))) λhHeld HT_ HW_=>?_;clear y0 y1 y2 y3 y4 y5 y6;refine pz 0 7 HT_ ?_;refine tk 2 9 HT_ HW_ hHeld ?_ (hy:=by rintro w' ⟨s0,s1,s2,s3,s4,s5,s6⟩;go_simp;with_reducible rfl);clear hHeld;refine on 1 (some 8) HT_ λK hK=>?_;refine gs_ Tryz.func91 #[int i64 (n:Int)] ?_;refine(Qk.calls n x0 x1 x2 x3 x4 x5 x6 _ HL.out).mono ?_;rintro e w6 ⟨rfl,hb6⟩;have hb7:Below wr.heap.size wr w6:=ze (Qw (Below.refl _ _)) hb6;refine⟨_,rfl,?_⟩;refine hK.out _ _ (HP.out w6 hb7) λhHeld=>nz ?_;have HW6:=bq HW hb7;clear hK K hb6 hb7 hHeld HP;have he:∀ W:World,(Op.equalIn 10000 68 (.agg #[int i64 x0,int i64 x1,int i64 x2,int i64 x3,int i64 x4,int i64 x5,int i64 x6]) (.agg #[int i64 a0,int i64 a1,int i64 a2,int i64 a3,int i64 a4,int i64 a5,int i64 a6])).run Tryz.prog W=.ok (x0 == a0 && (x1 == a1 && (x2 == a2 && (x3 == a3 && (x4 == a4 && (x5 == a5 && (x6 == a6))))))) W:=λW=>DJ _ _ _ _ _ _ _ _ _ _ _ _ _ _ W;obtain⟨b,hb⟩:∃ b,(x0 == a0 && (x1 == a1 && (x2 == a2 && (x3 == a3 && (x4 == a4 && (x5 == a5 && (x6 == a6)))))))=b:=⟨_,rfl⟩
   rw[hb]at he;refine pz 3 10 HT_ ?_;refine Zh (Qe HT_.out (by kernel_rfl)) ?_;clear HT_ HW_ he;have hw1:wrap64 ((n:Int)+1)=((n+1:Nat):Int):=by have:=HD.out;unfold wrap64;omega
   have HW1:=am hw1;have hiff:b=true↔(x0,x1,x2,x3,x4,x5,x6)=(a0,a1,a2,a3,a4,a5,a6):=by
    rw[<-hb];simp only[Bool.and_eq_true,beq_iff_eq,Prod.mk.injEq]
   have HIFF:=am hiff;clear hw1 hb hiff
   cases b with
   | true=>
    have hr:=HR.out;rw[if_pos (HIFF.out.1 rfl)]at hr;subst hr;go_wp2;go_ret
    exact⟨fq,ze HB.out (bw HW6)⟩
   | false=>
    have hr:=HR.out;rw[if_neg (λe=>by have:=HIFF.out.2 e;cases this)]at hr;have HN:=am hr;clear hr;go_wp2
    go_roundw
    case measure=>rw[HW1.out];exact qux HD.out
    case rel=>exact⟨d,n+1,by rw[HW1.out],⟨by have:=HD.out;omega⟩,HN,⟨bw HW6⟩⟩
theorem DX (w:World) (A B C:Obj):(((w.alloc A).alloc B).alloc C).heap[w.heap.size+2]? =some C:=by
 show (((w.heap.push A).push B).push C)[w.heap.size+2]? =some C
 rw[Array.getElem?_push,if_pos (by simp)]
def Jq.f (a0 a1 a2 a3 a4 a5 a6 n b0 b1 b2 b3 b4 b5 b6:Int):Option (Int×Int×Int×Int×Int×Int×Int):=some (wrap64 (a0+wrap64 (n*b0)),wrap64 (a1+wrap64 (n*b1)),wrap64 (a2+wrap64 (n*b2)),wrap64 (a3+wrap64 (n*b3)),wrap64 (a4+wrap64 (n*b4)),wrap64 (a5+wrap64 (n*b5)),wrap64 (a6+wrap64 (n*b6)))
theorem Jq.calls (a0 a1 a2 a3 a4 a5 a6 n b0 b1 b2 b3 b4 b5 b6:Int) (r1 r2 r3 r4 r5 r6 r7:Int) (w:World) (h:Jq.f a0 a1 a2 a3 a4 a5 a6 n b0 b1 b2 b3 b4 b5 b6=some (r1,r2,r3,r4,r5,r6,r7)):
  Calls Tryz.prog 113 #[.agg #[int i64 a0,int i64 a1,int i64 a2,int i64 a3,int i64 a4,int i64 a5,int i64 a6],int i64 n,.agg #[int i64 b0,int i64 b1,int i64 b2,int i64 b3,int i64 b4,int i64 b5,int i64 b6]] w λe w'=>e=.returned (.agg #[int i64 r1,int i64 r2,int i64 r3,int i64 r4,int i64 r5,int i64 r6,int i64 r7])/\Below w.heap.size w w':=by
 have x0:∀ W:World,(Instr.index 66 (.agg #[int i64 b1,int i64 b2,int i64 b3,int i64 b4,int i64 b5,int i64 b6]) (int i64 0)).run Tryz.prog W=.ok (int i64 b1) W:=λW=>by kernel_rfl
 have x1:∀ W:World,(Instr.index 66 (.agg #[int i64 b1,int i64 b2,int i64 b3,int i64 b4,int i64 b5,int i64 b6]) (int i64 1)).run Tryz.prog W=.ok (int i64 b2) W:=λW=>by kernel_rfl
 have x2:∀ W:World,(Instr.index 66 (.agg #[int i64 b1,int i64 b2,int i64 b3,int i64 b4,int i64 b5,int i64 b6]) (int i64 2)).run Tryz.prog W=.ok (int i64 b3) W:=λW=>by kernel_rfl
 have x3:∀ W:World,(Instr.index 66 (.agg #[int i64 b1,int i64 b2,int i64 b3,int i64 b4,int i64 b5,int i64 b6]) (int i64 3)).run Tryz.prog W=.ok (int i64 b4) W:=λW=>by kernel_rfl
 have x4:∀ W:World,(Instr.index 66 (.agg #[int i64 b1,int i64 b2,int i64 b3,int i64 b4,int i64 b5,int i64 b6]) (int i64 4)).run Tryz.prog W=.ok (int i64 b5) W:=λW=>by kernel_rfl
 have x5:∀ W:World,(Instr.index 66 (.agg #[int i64 b1,int i64 b2,int i64 b3,int i64 b4,int i64 b5,int i64 b6]) (int i64 5)).run Tryz.prog W=.ok (int i64 b6) W:=λW=>by kernel_rfl
 have HB:=Em w;have e:=Option.some.inj h;simp only[Prod.mk.injEq]at e;obtain⟨rfl,rfl,rfl,rfl,rfl,rfl,rfl⟩:=e;clear h;go_enter Tryz.func113,Tryz.ntmps113;go_wp2_with fail;refine wp_loop_rounds 7 ?_;rw[rounds_succ];go_wp2_with fail;rw[rounds_succ];go_wp2_with fail;rw[rounds_succ];go_wp2_with fail;rw[rounds_succ];go_wp2_with fail;rw[rounds_succ];go_wp2_with fail;rw[rounds_succ];go_wp2_with fail;rw[rounds_succ];go_wp2_with fail;refine bodyPost_ret (results_cell_row (P:=Tryz.prog) rfl _ _ (w.heap.size+2) 68 #[int i64 (wrap64 (a0+wrap64 (n*b0))),int i64 (wrap64 (a1+wrap64 (n*b1))),int i64 (wrap64 (a2+wrap64 (n*b2))),int i64 (wrap64 (a3+wrap64 (n*b3))),int i64 (wrap64 (a4+wrap64 (n*b4))),int i64 (wrap64 (a5+wrap64 (n*b5))),int i64 (wrap64 (a6+wrap64 (n*b6)))] (0,0) _ rfl (DX w _ _ _) Tryz.underlying68 rfl (by kernel_rfl)) rfl ?_;exact⟨rfl,bw HB⟩
def qac.f  :Option (Int×Int×Int×Int×Int×Int×Int):=some (3,1,1,1,1,1,1)
theorem qac.calls  (r1:Int) (r2:Int) (r3:Int) (r4:Int) (r5:Int) (r6:Int) (r7:Int) (w:World) (h:qac.f=some (r1,r2,r3,r4,r5,r6,r7)):
  Calls Tryz.prog 114 #[] w λe w'=>e=.returned (.agg #[int i64 r1,int i64 r2,int i64 r3,int i64 r4,int i64 r5,int i64 r6,int i64 r7])/\Below w.heap.size w w':=by
 have HB:=Em w;have H:(some (3,1,1,1,1,1,1))=some (r1,r2,r3,r4,r5,r6,r7):=h;clear h;simp only[Option.some.injEq,Prod.mk.injEq]at H;obtain⟨rfl,rfl,rfl,rfl,rfl,rfl,rfl⟩:=H;go_enter Tryz.func114,Tryz.ntmps114
 go_wp2_with (first|((with_reducible refine zd (N:=0) rfl ?_);refine xe_ 0 68 #[int i64 0,int i64 0,int i64 0,int i64 0,int i64 0,int i64 0,int i64 0] ?_;intro gb544 hg w1 hbox hb;have BK544:=am (hbox);have GW544:=Ek HB hg;replace HB:=bq HB hb;clear hb hbox hg;have hcz2_0:w1.cell? ⟨gb544,0,none⟩=some (int i64 0):=(qe BK544.out 0).trans rfl;have hcz2_1:w1.cell? ⟨gb544,1,none⟩=some (int i64 0):=(qe BK544.out 1).trans rfl;have hcz2_2:w1.cell? ⟨gb544,2,none⟩=some (int i64 0):=(qe BK544.out 2).trans rfl;have hcz2_3:w1.cell? ⟨gb544,3,none⟩=some (int i64 0):=(qe BK544.out 3).trans rfl;have hcz2_4:w1.cell? ⟨gb544,4,none⟩=some (int i64 0):=(qe BK544.out 4).trans rfl;have hcz2_5:w1.cell? ⟨gb544,5,none⟩=some (int i64 0):=(qe BK544.out 5).trans rfl;have hcz2_6:w1.cell? ⟨gb544,6,none⟩=some (int i64 0):=(qe BK544.out 6).trans rfl;have hfz2_0:=ql BK544.out 0;have hfz2_1:=ql BK544.out 1;have hfz2_2:=ql BK544.out 2;have hfz2_3:=ql BK544.out 3;have hfz2_4:=ql BK544.out 4;have hfz2_5:=ql BK544.out 5;have hfz2_6:=ql BK544.out 6))
 refine bodyPost_ret (results_cell_row rfl _ _ gb544 68 #[int i64 3,int i64 1,int i64 1,int i64 1,int i64 1,int i64 1,int i64 1] (0,0) _ rfl (by (with_reducible repeat (first|refine qw ?_ _|refine qy ?_|refine qx ?_ _));refine Zf (cs:=#[int i64 3,int i64 1,int i64 1,int i64 1,int i64 1,int i64 1,int i64 0]) ?_ 6 _ rfl;(with_reducible repeat (first|refine qw ?_ _|refine qy ?_|refine qx ?_ _));refine Zf (cs:=#[int i64 3,int i64 1,int i64 1,int i64 1,int i64 1,int i64 0,int i64 0]) ?_ 5 _ rfl;(with_reducible repeat (first|refine qw ?_ _|refine qy ?_|refine qx ?_ _));refine Zf (cs:=#[int i64 3,int i64 1,int i64 1,int i64 1,int i64 0,int i64 0,int i64 0]) ?_ 4 _ rfl;(with_reducible repeat (first|refine qw ?_ _|refine qy ?_|refine qx ?_ _));refine Zf (cs:=#[int i64 3,int i64 1,int i64 1,int i64 0,int i64 0,int i64 0,int i64 0]) ?_ 3 _ rfl;(with_reducible repeat (first|refine qw ?_ _|refine qy ?_|refine qx ?_ _));refine Zf (cs:=#[int i64 3,int i64 1,int i64 0,int i64 0,int i64 0,int i64 0,int i64 0]) ?_ 2 _ rfl;(with_reducible repeat (first|refine qw ?_ _|refine qy ?_|refine qx ?_ _));refine Zf (cs:=#[int i64 3,int i64 0,int i64 0,int i64 0,int i64 0,int i64 0,int i64 0]) ?_ 1 _ rfl;(with_reducible repeat (first|refine qw ?_ _|refine qy ?_|refine qx ?_ _));refine Zf (cs:=#[int i64 0,int i64 0,int i64 0,int i64 0,int i64 0,int i64 0,int i64 0]) ?_ 0 _ rfl;(with_reducible repeat (first|refine qw ?_ _|refine qy ?_|refine qx ?_ _));exact BK544.out) Tryz.underlying68 rfl (by kernel_rfl)) rfl ?_;exact⟨fq,bx_ HB⟩
def qcd.f (a0:Int) (a1:Int):Option (Int):=(qac.f).bind λbt545=>((Qk.f a0).bind λbt552=>((Jq.f bt545.1 bt545.2.1 bt545.2.2.1 bt545.2.2.2.1 bt545.2.2.2.2.1 bt545.2.2.2.2.2.1 bt545.2.2.2.2.2.2 (-1) bt552.1 bt552.2.1 bt552.2.2.1 bt552.2.2.2.1 bt552.2.2.2.2.1 bt552.2.2.2.2.2.1 bt552.2.2.2.2.2.2).bind λbt559=>((Qk.f a1).bind λbt566=>((Jq.f bt559.1 bt559.2.1 bt559.2.2.1 bt559.2.2.2.1 bt559.2.2.2.2.1 bt559.2.2.2.2.2.1 bt559.2.2.2.2.2.2 (-1) bt566.1 bt566.2.1 bt566.2.2.1 bt566.2.2.2.1 bt566.2.2.2.2.1 bt566.2.2.2.2.2.1 bt566.2.2.2.2.2.2).bind λbt573=>((Zb.f bt573.1 bt573.2.1 bt573.2.2.1 bt573.2.2.2.1 bt573.2.2.2.2.1 bt573.2.2.2.2.2.1 bt573.2.2.2.2.2.2).bind λt580=>(some t580))))))
theorem qcd.calls (a0:Int) (a1:Int) (r:Int) (w:World) (h:qcd.f a0 a1=some r):
  Calls Tryz.prog 83 #[int i64 a0,int i64 a1] w λe w'=>e=.returned (int i64 r)/\Below w.heap.size w w':=by
 have HB:=Em w;have H:=h;unfold qcd.f at H;clear h;replace H:=bs H;obtain⟨⟨t545,t546,t547,t548,t549,t550,t551⟩,A3,H⟩:=H;dsimp only at H;replace H:=bs H;obtain⟨⟨t552,t553,t554,t555,t556,t557,t558⟩,A4,H⟩:=H;dsimp only at H;replace H:=bs H;obtain⟨⟨t559,t560,t561,t562,t563,t564,t565⟩,A5,H⟩:=H;dsimp only at H;replace H:=bs H;obtain⟨⟨t566,t567,t568,t569,t570,t571,t572⟩,A6,H⟩:=H;dsimp only at H;replace H:=bs H;obtain⟨⟨t573,t574,t575,t576,t577,t578,t579⟩,A7,H⟩:=H;dsimp only at H;replace H:=bs H;obtain⟨t580,A8,H⟩:=H;obtain rfl:=Option.some.inj H;go_enter Tryz.func83,Tryz.ntmps83
 go_wp2_with (first|((with_reducible refine za (f:=114) rfl ?_);refine gl 5 Tryz.func114 #[] ?_;(with_reducible refine(qac.calls  t545 t546 t547 t548 t549 t550 t551 _ A3.out).mono ?_);rintro e w9 ⟨rfl,hb⟩;refine⟨_,rfl,?_⟩;replace HB:=bq HB hb;(try clear hb))|((with_reducible refine za (f:=91) rfl ?_);refine gl 7 Tryz.func91 #[int i64 a0] ?_;(with_reducible refine(Qk.calls a0 t552 t553 t554 t555 t556 t557 t558 _ A4.out).mono ?_);rintro e w10 ⟨rfl,hb⟩;refine⟨_,rfl,?_⟩;replace HB:=bq HB hb;(try clear hb))|((with_reducible refine za (f:=113) rfl ?_);refine gl 8 Tryz.func113 #[.agg #[int i64 t545,int i64 t546,int i64 t547,int i64 t548,int i64 t549,int i64 t550,int i64 t551],int i64 (-1),.agg #[int i64 t552,int i64 t553,int i64 t554,int i64 t555,int i64 t556,int i64 t557,int i64 t558]] ?_;(with_reducible refine(Jq.calls t545 t546 t547 t548 t549 t550 t551 (-1) t552 t553 t554 t555 t556 t557 t558 t559 t560 t561 t562 t563 t564 t565 _ A5.out).mono ?_);rintro e w11 ⟨rfl,hb⟩;refine⟨_,rfl,?_⟩;replace HB:=bq HB hb;(try clear hb))|((with_reducible refine za (f:=91) rfl ?_);refine gl 10 Tryz.func91 #[int i64 a1] ?_;(with_reducible refine(Qk.calls a1 t566 t567 t568 t569 t570 t571 t572 _ A6.out).mono ?_);rintro e w12 ⟨rfl,hb⟩;refine⟨_,rfl,?_⟩;replace HB:=bq HB hb;(try clear hb))|((with_reducible refine za (f:=113) rfl ?_);refine gl 11 Tryz.func113 #[.agg #[int i64 t559,int i64 t560,int i64 t561,int i64 t562,int i64 t563,int i64 t564,int i64 t565],int i64 (-1),.agg #[int i64 t566,int i64 t567,int i64 t568,int i64 t569,int i64 t570,int i64 t571,int i64 t572]] ?_;(with_reducible refine(Jq.calls t559 t560 t561 t562 t563 t564 t565 (-1) t566 t567 t568 t569 t570 t571 t572 t573 t574 t575 t576 t577 t578 t579 _ A7.out).mono ?_);rintro e w13 ⟨rfl,hb⟩;refine⟨_,rfl,?_⟩;replace HB:=bq HB hb;(try clear hb))|((with_reducible refine za (f:=112) rfl ?_);refine gl 12 Tryz.func112 #[.agg #[int i64 t573,int i64 t574,int i64 t575,int i64 t576,int i64 t577,int i64 t578,int i64 t579]] ?_;(with_reducible refine(Zb.calls t573 t574 t575 t576 t577 t578 t579 t580 _ A8.out).mono ?_);rintro e w14 ⟨rfl,hb⟩;refine⟨_,rfl,?_⟩;replace HB:=bq HB hb;(try clear hb)))
 go_ret
 exact⟨fq,bw HB⟩
mutual
def jt.l0 :Nat->List (List Int)->Int->Option ((List (List Int)))
 | 0,_,_=>none
 | k+1,x1,x6=>if x6 < 27 then (jt.l1 k x1 x6 (wrap64 (x6+1)) x6) else (some x1)
def jt.l1 :Nat->List (List Int)->Int->Int->Int->Option ((List (List Int)))
 | 0,_,_,_,_=>none
 | k+1,x1,x2,x3,x6=>if x3 < 27 then ((qbm.f x2 x3).bind λt584=>(if t584=true then ((qcd.f x2 x3).bind λt585=>(if t585>x3 then (if x1.length < 5864062014805 then (jt.l1 k (x1++[(([x2,x3,t585]:List Int))]) x2 (wrap64 (x3+1)) x6) else (none)) else (jt.l1 k x1 x2 (wrap64 (x3+1)) x6))) else (jt.l1 k x1 x2 (wrap64 (x3+1)) x6))) else (jt.l0 k x1 (wrap64 (x6+1)))
end
def jt.f (k:Nat):Option ((List (List Int))):=jt.l0 k (([]:List (List Int))) 0
theorem jt.Ag :∀ k,(∀ y0 y1,LeO (jt.l0 k y0 y1) (jt.l0 (k+1) y0 y1))/\(∀ y0 y1 y2 y3,LeO (jt.l1 k y0 y1 y2 y3) (jt.l1 (k+1) y0 y1 y2 y3))
 | 0=>⟨λ_ _ r h=>by simp[jt.l0]at h,λ_ _ _ _ r h=>by simp[jt.l1]at h⟩
 | k+1=>by
  obtain⟨ih0,ih1⟩:=jt.Ag k;refine⟨?_,?_⟩
  ·intro y0 y1
   unfold jt.l0
   repeat' with_reducible first|intro _|apply ih0|apply ih1|apply Eb|apply Ec|apply Ed|apply Ee
  ·intro y0 y1 y2 y3
   unfold jt.l1
   repeat' with_reducible first|intro _|apply ih0|apply ih1|apply Eb|apply Ec|apply Ed|apply Ee
theorem jt.mono :∀ k,LeO (jt.f k ) (jt.f (k+1) ):=by
 intro  k;obtain⟨ih0,ih1⟩:=jt.Ag k;unfold jt.f
 repeat' with_reducible first|intro _|apply ih0|apply ih1|apply Eb|apply Ec|apply Ed|apply Ee
theorem jt.calls (k:Nat)  (r:List (List Int)) (w:World) (h:jt.f k=some r):
  Calls Tryz.prog 31 #[] w λe w'=>∃ v0_:Value,e=.returned (v0_)/\Kd.S KI 37 w' w.heap.size (λ_=>True) v0_ r/\Below w.heap.size w w':=by
 have HB:=Em w;have H:=h;unfold jt.f at H;clear h;generalize hy581:(([]:List (List Int)))=y581 at H;have Ny581:=am hy581.symm;clear hy581;have H':=am H;clear H;go_enter Tryz.func31,Tryz.ntmps31
 go_wp2_with (first|((with_reducible refine zd (N:=5) rfl ?_);refine Kd.BC KI _ 37 ?hg (N:=5) ?hd (xs:=([]:List (List Int))) (inner:=[]) (ok:=λ_=>True) (okp:=λ_=>True) ?hr ?hp (λ_ hk=>hk) trivial (Below.refl _ _) (Nat.le_refl _) (by simp) ?_;(case hd=>rfl);(case hg=>rfl);(case hr=>first|(go_simp;done)|(go_simp;rfl));(case hp=>exact(Reps.none _ _));intro v582 w1 ho2 hb hg_ hnew_;clear hg_ hnew_;rw[<-Ny581.out]at ho2;have HO583:=am (Kd.AD ho2 (bz HB));replace HB:=bq HB hb;clear hb ho2))
 go_loopg [1,6] k (λkq v1 v6 w'=>∃ (x1_1:List (List Int)) (x6_1:Int),v6=int i64 x6_1/\qf (jt.l0 kq x1_1 x6_1=some r)/\qf (kq<=k)/\qf (Kd.S KI 37 w' w.heap.size (λ_=>True) v1 x1_1)/\qf (Below w.heap.size w w'))
 case atStart=>exact⟨(y581),(0),fr,H',⟨Nat.le_refl _⟩,⟨wS HO583⟩,⟨bw HB⟩⟩
 case round=>
  clear H';try clear p2
  obtain⟨x1_1,x6_1,rfl,HA,HK1,HO_1,HB⟩:=hrel
  cases gk with
  | zero=>exact absurd HA.out (by simp[jt.l0])
  | succ k1=>
   have H:=HA.out;clear HA;simp only[jt.l0]at H;replace H:=Eg H;rcases H with ⟨c3b0,H⟩|⟨c3b0,H⟩
   ·have H':=am H;clear H;go_wp2
    go_loopg [1,3] k1 (λkq v1 v3 w'=>∃ (x1_2:List (List Int)) (x3_2:Int),v3=int i64 x3_2/\qf (jt.l1 kq x1_2 x6_1 x3_2 x6_1=some r)/\qf (kq<=k1)/\qf (Kd.S KI 37 w' w.heap.size (λ_=>True) v1 x1_2)/\qf (Below w.heap.size w w'))
    case atStart=>exact⟨(x1_1),(wrap64 (x6_1+1)),fr,H',⟨Nat.le_refl _⟩,⟨wS HO_1⟩,⟨bw HB⟩⟩
    case round=>
     clear H';try clear p2;try clear c3;try clear c3b0;try clear p2
     obtain⟨x1_2,x3_2,rfl,HA,HK2,HO_1,HB⟩:=hrel
     cases gk with
     | zero=>exact absurd HA.out (by simp[jt.l1])
     | succ k2=>
      have H:=HA.out;clear HA;simp only[jt.l1]at H;replace H:=Eg H;rcases H with ⟨c4b0,H⟩|⟨c4b0,H⟩
      ·replace H:=bs H;obtain⟨t584,A5,H⟩:=H
       by_cases c6:t584=true
       ·subst c6
        rw[if_pos rfl]at H;replace H:=bs H;obtain⟨t585,A7,H⟩:=H
        by_cases c8:t585>x3_2
        ·rw[if_pos c8]at H
         have c8b0:=decide_eq_true c8;clear c8;generalize hy586:(([x6_1,x3_2,t585]:List Int))=y586 at H;have Ny586:=am hy586.symm;clear hy586;replace H:=ifn H;obtain⟨c9,H⟩:=H;have LMc9:=am c9;clear c9;generalize hy589:(x1_2++[y586]:List (List Int))=y589 at H;have Ny589:=am hy589.symm;clear hy589;have H':=am H;clear H
         go_wp2_with (first|((with_reducible refine za (f:=43) rfl ?_);refine gl 17 Tryz.func43 #[int i64 x6_1,int i64 x3_2] ?_;(with_reducible refine(qbm.calls x6_1 x3_2 true _ A5.out).mono ?_);rintro e w10 ⟨rfl,hb⟩;refine⟨_,rfl,?_⟩;replace HO_1:=am (Kd.Ap (wS HO_1) hb);replace HB:=bq HB hb;(try clear hb))|((with_reducible refine za (f:=83) rfl ?_);refine gl 21 Tryz.func83 #[int i64 x6_1,int i64 x3_2] ?_;(with_reducible refine(qcd.calls x6_1 x3_2 t585 _ A7.out).mono ?_);rintro e w11 ⟨rfl,hb⟩;refine⟨_,rfl,?_⟩;replace HO_1:=am (Kd.Ap (wS HO_1) hb);replace HB:=bq HB hb;(try clear hb))|((with_reducible refine zd (N:=29) rfl ?_);refine li 3 [x6_1,x3_2,t585] ?_;intro v587 w12 ho13 hb;rw[<-Ny586.out]at ho13;replace HO_1:=eS HO_1 (Kd.Am ho13) hb;have HO588:=am (Kd.Ai ho13 (bz HB));replace HB:=bq HB hb;clear hb ho13;obtain⟨Ao15,co15,eo15⟩:=Kd.Ah HO588.out;subst eo15)|((with_reducible refine jz (b:=.append) (xs:=#[.tmp 25,.tmp 30]) rfl ?_);at_builtin;refine Kd.Bg KI (w0:=w) w.heap.size rfl (.tmp 25) (.tmp 30) 24 37 (.slice none 0 0) 24 rfl Tryz.underlying24 Ja rfl (by decide) (by omega) u1 x1_2 y586 [.slice Ao15 y586.length co15] (λ_=>True) (λk_=>some k_=(.slice Ao15 y586.length co15:Value).ownBlock) rfl rfl ?aP (λk_ hk_=>((Kd.Ae (ok':=λk_=>((λ_=>True)) k_/\some k_≠(u1:Value).ownBlock) (Kd.Ak (HO588.out) (Kd.AB HO_1.out) (by decide)) (λk_ hk=>⟨trivial,hk.2⟩))).1 k_ hk_.symm) ?aF ?aO ?aB ?aS ?aL ?_;(case aP=>exact Kd.BM (Kd.Ae (Kd.AO rfl (Kd.Ae (ok':=λk_=>((λ_=>True)) k_/\some k_≠(u1:Value).ownBlock) (Kd.Ak (HO588.out) (Kd.AB HO_1.out) (by decide)) (λk_ hk=>⟨trivial,hk.2⟩))) (λ_ h_=>h_)));(case aB=>exact(bw HB));(case aF=>exact(λ_ _=>trivial));(case aO=>exact(oS_ HO_1 (λk_ hk=>⟨trivial,λe_=>hk.2 e_⟩)));(case aS=>exact(bz HB));(case aL=>have:=LMc9.out;omega);intro v590 w14 ho hb hg hat;rw[<-Ny589.out]at ho;replace HB:=am (hb);have HO591:=am (ho);clear HO_1 HO588;clear ho hb hg hat))
         go_roundg k2
         case measure=>have:=HK1.out;have:=HK2.out;omega
         case rel=>exact⟨(y589),(wrap64 (x3_2+1)),fr,H',⟨by have:=HK1.out;have:=HK2.out;omega⟩,⟨wS HO591⟩,⟨bw HB⟩⟩
        ·rw[if_neg c8]at H
         have c8b0:=decide_eq_false c8;clear c8;have H':=am H;clear H
         go_wp2_with (first|((with_reducible refine za (f:=43) rfl ?_);refine gl 17 Tryz.func43 #[int i64 x6_1,int i64 x3_2] ?_;(with_reducible refine(qbm.calls x6_1 x3_2 true _ A5.out).mono ?_);rintro e w16 ⟨rfl,hb⟩;refine⟨_,rfl,?_⟩;replace HO_1:=am (Kd.Ap (wS HO_1) hb);replace HB:=bq HB hb;(try clear hb))|((with_reducible refine za (f:=83) rfl ?_);refine gl 21 Tryz.func83 #[int i64 x6_1,int i64 x3_2] ?_;(with_reducible refine(qcd.calls x6_1 x3_2 t585 _ A7.out).mono ?_);rintro e w17 ⟨rfl,hb⟩;refine⟨_,rfl,?_⟩;replace HO_1:=am (Kd.Ap (wS HO_1) hb);replace HB:=bq HB hb;(try clear hb)))
         go_roundg k2
         case measure=>have:=HK1.out;have:=HK2.out;omega
         case rel=>exact⟨(x1_2),(wrap64 (x3_2+1)),fr,H',⟨by have:=HK1.out;have:=HK2.out;omega⟩,⟨wS HO_1⟩,⟨bw HB⟩⟩
       ·replace c6:=Bool.eq_false_iff.mpr c6
        subst c6;rw[if_neg (show ¬ (false=true) by decide)]at H;have H':=am H;clear H
        go_wp2_with (first|((with_reducible refine za (f:=43) rfl ?_);refine gl 17 Tryz.func43 #[int i64 x6_1,int i64 x3_2] ?_;(with_reducible refine(qbm.calls x6_1 x3_2 false _ A5.out).mono ?_);rintro e w18 ⟨rfl,hb⟩;refine⟨_,rfl,?_⟩;replace HO_1:=am (Kd.Ap (wS HO_1) hb);replace HB:=bq HB hb;(try clear hb)))
        go_roundg k2
        case measure=>have:=HK1.out;have:=HK2.out;omega
        case rel=>exact⟨(x1_2),(wrap64 (x3_2+1)),fr,H',⟨by have:=HK1.out;have:=HK2.out;omega⟩,⟨wS HO_1⟩,⟨bw HB⟩⟩
      ·have H':=am H;clear H;go_wp2
       go_roundg k2
       case measure=>have:=HK1.out;have:=HK2.out;omega
       case rel=>exact⟨(x1_2),(wrap64 (x6_1+1)),fr,H',⟨by have:=HK1.out;have:=HK2.out;omega⟩,⟨wS HO_1⟩,⟨bw HB⟩⟩
   ·obtain rfl:=Option.some.inj H;go_wp2;go_ret
    exact⟨_,fq,wS HO_1,bw HB⟩
def Z1.f (l0:List Int):Option ((List (List Int))):=if 4<=(l0.length:Int) then (some (([(l0.take 4),(l0.drop 4)]:List (List Int)))) else (none)
theorem Z1.calls (P0_:Nat->Prop) (A0:Option Addr) (c0:Nat) (l0:List Int) (r:List (List Int)) (w:World) (hs0:Kd.V (Kd.int i64) 3 w w.heap.size (λk_=>P0_ k_) (.slice A0 l0.length c0) l0) (h:Z1.f l0=some r):
  Calls Tryz.prog 85 #[.slice A0 l0.length c0] w λe w'=>∃ v0_:Value,e=.returned (v0_)/\Kd.N KI 37 w' w.heap.size (λk_=>(P0_ k_\/w.heap.size<=k_)) v0_ r/\Below w.heap.size w w':=by
 have HO0:=am (show Kd.V (Kd.int i64) 3 w w.heap.size (λk_=>(P0_ k_\/w.heap.size<=k_)) (.slice A0 l0.length c0) l0 from Kd.AP hs0 (λk_ hk=>.inl hk));have HB:=Em w;have H:=h;unfold Z1.f at H;clear h
 by_cases c2:4<=(l0.length:Int)
 ·rw[if_pos c2]at H
  have c2b0:=eq_true c2;have c2b1:=decide_eq_true c2;clear c2;generalize hy592:(l0.take 4:List Int)=y592 at H;have Ny592:=am hy592.symm;clear hy592;have c3b0:=eq_true (od:4<=(l0.length:Int));generalize hy597:(l0.drop 4:List Int)=y597 at H;have Ny597:=am hy597.symm;clear hy597;generalize hy602:(([y592,y597]:List (List Int)))=y602 at H;have Ny602:=am hy602.symm;clear hy602;obtain rfl:=Option.some.inj H;go_enter Tryz.func85,Tryz.ntmps85
  try go_wp2
  replace HO0:=am (Kd.Bs HO0.out);replace HB:=am (Qn HB.out);have q5:(4:Int)<=((l0.length:Int):Int):=od;obtain⟨i05,hi05,_,hsz5,_⟩:=info_parts Ju;have hroom5:l0.length<=c0:=(Kd.An HO0.out).2.1;have hC5:Kd.F (Kd.int i64) _ _ A0 l0.length l0:=(Kd.V_at (base:=w.heap.size) HO0.out).2.2;have hcut5:=qo3 (P:=Tryz.prog) 37 3 .i64 Tryz.underlying37 hi05 A0 l0.length c0 4 (by omega) q5 hroom5;have hr5:=Kd.C6 (m:=4) hC5 (by omega);have hy5:y592.length=(4:Int).toNat:=(by rw[Ny592.out,List.length_take];omega)
  rw[<-Ny592.out]at hr5;rw[<-hy5]at hcut5;have HO596:=am (show Kd.V (Kd.int i64) 3 _ w.heap.size _ (.slice A0 y592.length c0) y592 from Kd.V_mk (by omega) hr5);clear hr5 hC5 hroom5 hi05 hsz5;have KY5:=am hy5;clear hy5;replace q5:=eq_true q5;have q6:(4:Int)<=((l0.length:Int):Int):=od;obtain⟨i06,hi06,_,hsz6,_⟩:=info_parts Ju;have hroom6:l0.length<=c0:=(Kd.An HO0.out).2.1;have hC6:Kd.F (Kd.int i64) _ _ A0 l0.length l0:=(Kd.V_at (base:=w.heap.size) HO0.out).2.2;have hcut6:=qih (P:=Tryz.prog) 37 3 .i64 Tryz.underlying37 hi06 1 hsz6 A0 l0.length c0 4 (by omega) q6;have hr6:=Kd.CP (m:=(4:Int).toNat) (c:=c0) hC6 (by omega) hroom6;obtain⟨A6,hA6⟩:∃ Az_,Az_=(if c0=(4:Int).toNat then A0 else (A0:Option Addr).map (·.add ((4:Int).toNat*1))):=⟨_,rfl⟩
  obtain⟨c6,hc6⟩:∃ cz_,cz_=c0 - (4:Int).toNat:=⟨_,rfl⟩
  have hy6:y597.length=l0.length - (4:Int).toNat:=(by rw[Ny597.out,List.length_drop]<;>omega)
  rw[show (l0).drop (4:Int).toNat=y597 from Ny597.out.symm]at hr6;replace hr6:Kd.F (Kd.int i64) _ _ A6 y597.length y597:=(by rw[hA6];exact hr6)
  rw[<-hy6,<-hA6,<-hc6]at hcut6;have HO601:=am (show Kd.V (Kd.int i64) 3 _ w.heap.size _ (.slice A6 y597.length c6) y597 from Kd.V_mk (by rw[hy6,hc6];exact Nat.sub_le_sub_right hroom6 _) hr6);clear hr6 hC6 hroom6 hi06 hsz6 hc6;have KY6:=am hy6;have KA6:=am hA6;clear hy6 hA6;replace q6:=eq_true q6;refine qse (n:=6) (S:=λw'=>True) (ds:=[]) #[false,false,false,false,false,false] (by kernel_rfl) rfl rfl trivial (λhHeld=>?_);generalize w.drew=w4 at HO0 HB HO596 HO601 hHeld ⊢;refine qhn (i:=0) (N:=some 3) (v:=?_) (a':=?_) #[true,false,false,false,false,false] rfl rfl (by kernel_rfl) (λ_ _ _ h=>h) (Or.inl ⟨by rfl,?_⟩) ?_ ?_
  rotate_left
  ·intro w'
   go_simp
   with_reducible rfl
  rotate_left
  ·simp only[Act.put,List.setIfInBounds_toArray,List.set_cons_zero,List.set_cons_succ,qa6,qb3]
   rfl
  refine qhn (i:=1) (N:=some 4) (v:=?_) (a':=?_) #[true,true,false,false,false,false] rfl rfl (by kernel_rfl) (λ_ _ _ h=>h) (Or.inl ⟨by rfl,?_⟩) ?_ ?_
  rotate_left
  ·intro w'
   go_simp
   with_reducible rfl
  rotate_left
  ·simp only[Act.put,List.setIfInBounds_toArray,List.set_cons_zero,List.set_cons_succ,qa6,qb3]
   rfl
  refine qhn (i:=2) (N:=some 5) (v:=?_) (a':=?_) #[true,true,true,false,false,false] rfl rfl (by kernel_rfl) (λ_ _ _ h=>h) (Or.inl ⟨by rfl,?_⟩) ?_ ?_
  rotate_left
  ·intro w'
   go_simp
   with_reducible rfl
  rotate_left
  ·simp only[Act.put,List.setIfInBounds_toArray,List.set_cons_zero,List.set_cons_succ,qa6,qb3]
   rfl
  refine qhn (i:=3) (N:=some 6) (v:=?_) (a':=?_) #[true,true,true,true,false,false] rfl rfl (by kernel_rfl) (λ_ _ _ h=>h) (Or.inl ⟨by rfl,?_⟩) ?_ ?_
  rotate_left
  ·intro w'
   go_simp
   with_reducible rfl
  rotate_left
  ·simp only[Act.put,List.setIfInBounds_toArray,List.set_cons_zero,List.set_cons_succ,qa6,qb3]
   rfl
  refine one_ (i:=4) (N:=some 7) #[true,true,true,true,true,false] rfl rfl (by kernel_rfl) (by decide) (λK hK=>?_);refine Kd.BZ KI _ 37 ?hg (N':=7) ?hd (xs:=([y592,y597]:List (List Int))) (inner:=[.slice A0 y592.length c0,.slice A6 y597.length c6]) (ok:=(λk_=>(P0_ k_\/w.heap.size<=k_))) (okp:=(λk_=>(P0_ k_\/w.heap.size<=k_))) ?hr ?hp (λ_ hk=>hk) ((show ∀ k_,w4.heap.size<=k_->(λk_=>(P0_ k_\/w.heap.size<=k_)) k_ from λk_ hk=>(.inr (Nat.le_trans (bz HB) hk))) _ (Nat.le_refl _)) (Below.refl _ _) (Nat.le_refl _) (by simp) ?_;(case hd=>rfl);(case hg=>rfl);(case hr=>first|(go_simp;done)|(go_simp;rfl));(case hp=>exact(Reps.one (show Kd.FK KI _ _ y592 [.slice A0 y592.length c0] from (Kd.Aw (Kd.An (HO596.out)).2.1 (Kd.V_F (wV HO596)))) (Reps.one (show Kd.FK KI _ _ y597 [.slice A6 y597.length c6] from (Kd.Aw (Kd.An (HO601.out)).2.1 (Kd.V_F (wV HO601)))) (Reps.none _ _))))
  intro v603 w7 ho8 hb hg_ hnew_;clear hg_ hnew_;rw[<-Ny602.out]at ho8;replace HO0:=eV HO0 (Kd.AH ho8) hb;replace HO596:=eV HO596 (Kd.AH ho8) hb;replace HO601:=eV HO601 (Kd.AH ho8) hb;have HO604:=am (Kd.AG ho8 (bz HB));replace HB:=bq HB hb;clear hb ho8;refine hK.out _ _ trivial λhHeld=>nz ?_;clear hK K;refine qhn (i:=5) (N:=some 2) (v:=?_) (a':=?_) #[true,true,true,true,true,true] rfl rfl (by kernel_rfl) (λ_ _ _ h=>h) (Or.inl ⟨by rfl,?_⟩) ?_ ?_
  rotate_left
  ·intro w'
   go_simp
   with_reducible rfl
  rotate_left
  ·simp only[Act.put,List.setIfInBounds_toArray,List.set_cons_zero,List.set_cons_succ,qa6,qb3]
   rfl
  refine Zh (by kernel_rfl) ?_
  try go_wp2
  go_ret
  exact⟨_,fq,wN HO604,bw HB⟩
 ·rw[if_neg c2]at H
  exact absurd H (by simp)
def Z4.f (k:Nat) (a0:Int) (l1:List Int) (l2:List Int):Option (Bool):=(Z1.f l1).bind λt605=>((Z1.f l2).bind λt608=>(if t605.length+t608.length < 5864062014805 then ((zl.f k a0 (t605++t608)).bind λt614=>(some ((t614.length:Int) == 3))) else (none)))
theorem Z4.mono (a0 a1 a2 k):LeO (Z4.f k a0 a1 a2) (Z4.f (k+1) a0 a1 a2):=by
 unfold Z4.f
 repeat' with_reducible first|intro _|apply zl.mono|apply Eb|apply Ec|apply Ed|apply Ee
theorem Z4.calls (k:Nat) (a0:Int) (A1:Option Addr) (c1:Nat) (l1:List Int) (A2:Option Addr) (c2:Nat) (l2:List Int) (r:Bool) (w:World) (hr1:Kd.C (Kd.int i64) w A1 l1.length l1) (hc1:l1.length<=c1) (hr2:Kd.C (Kd.int i64) w A2 l2.length l2) (hc2:l2.length<=c2) (h:Z4.f k a0 l1 l2=some r):
  Calls Tryz.prog 33 #[int i64 a0,.slice A1 l1.length c1,.slice A2 l2.length c2] w λe w'=>e=.returned (.bool r)/\Below w.heap.size w w':=by
 have HR1:=am hr1;have HC1:=am hc1;clear hr1 hc1;have HR2:=am hr2;have HC2:=am hc2;clear hr2 hc2;have HB:=Em w;have H:=h;unfold Z4.f at H;clear h;replace H:=bs H;obtain⟨t605,A4,H⟩:=H;replace H:=bs H;obtain⟨t608,A5,H⟩:=H
 by_cases c6:t605.length+t608.length < 5864062014805
 ·rw[if_pos c6]at H
  have LMc6:=am c6;clear c6;generalize hy611:(t605++t608:List (List Int))=y611 at H;have Ny611:=am hy611.symm;clear hy611;replace H:=bs H;obtain⟨t614,A7,H⟩:=H;obtain rfl:=Option.some.inj H;go_enter Tryz.func33,Tryz.ntmps33
  go_wp2_with (first|((with_reducible refine za (f:=85) rfl ?_);refine gl 9 Tryz.func85 #[.slice A1 l1.length c1] ?_;(with_reducible refine(Z1.calls (λk_=>k_ < w.heap.size) _ _ l1 t605 _ ?_ A4.out).mono ?_);exact Kd.V_mk HC1.out (Kd.BL (Kd.C_F (Kd.AY .i64) HR1.out) (bw HB));rintro e w8 ⟨v606,rfl,ho0,hb⟩;refine⟨_,rfl,?_⟩;have HO607:=am (Kd.AG (Kd.Ar (ok':=λk_=>True) ho0 (λk_ hk_=>trivial)) (bz HB));replace HB:=bq HB hb;(try clear hb);(try clear ho0))|((with_reducible refine za (f:=85) rfl ?_);refine gl 11 Tryz.func85 #[.slice A2 l2.length c2] ?_;(with_reducible refine(Z1.calls (λk_=>k_ < w.heap.size) _ _ l2 t608 _ ?_ A5.out).mono ?_);exact Kd.V_mk HC2.out (Kd.BL (Kd.C_F (Kd.AY .i64) HR2.out) (bw HB));rintro e w9 ⟨v609,rfl,ho0,hb⟩;refine⟨_,rfl,?_⟩;have HO610:=am (Kd.AG (Kd.Ar (ok':=λk_=>some k_≠(v606:Value).ownBlock) ho0 (λk_ hk_=>Or.elim hk_ (λhs_=>λe_=>Nat.not_le.2 hs_ (Kd.AH HO607.out k_ e_.symm)) (λhn_=>(Kd.fresh' (Kd.N_lt (wN HO607)) k_ hn_)))) (bz HB));replace HO607:=eN HO607 (Kd.AH ho0) hb;replace HB:=bq HB hb;(try clear hb);(try clear ho0);obtain⟨Ao11,co11,eo11⟩:=Kd.AF HO610.out;subst eo11)|((with_reducible refine jz (b:=.append) (xs:=#[.tmp 9,.tmp 11]) rfl ?_);at_builtin;refine Kd.Cf KI (w0:=w) w.heap.size rfl (.tmp 9) (.tmp 11) 24 37 (.slice none 0 0) 24 rfl Tryz.underlying24 Ja rfl (by decide) (by omega) v606 t605 t608 _ _ _ (λ_=>True) (λk_=>((λ_=>True)) k_/\some k_≠(v606:Value).ownBlock) rfl rfl ?aO ?aR (λ_ hk=>hk) ?aF ?aB ?aS ?aL ?_;(case aR=>exact(by skip;exact Kd.N_F (Kd.Ar (ok':=(λk_=>((λ_=>True)) k_/\some k_≠(v606:Value).ownBlock)) (HO610.out) (λk_ hk=>⟨trivial,hk⟩))));(case aB=>exact(bw HB));(case aF=>exact(λ_ _=>trivial));(case aO=>exact(oN_ HO607 (λ_ hk=>trivial)));(case aS=>exact(bz HB));(case aL=>have:=LMc6.out;omega);intro v612 w10 ho hb hg hat;rw[<-Ny611.out]at ho;replace HO610:=am (Kd.Bh (ok:=(λ_=>True)) (oN_ HO610 (λ_ hk=>⟨trivial,hk⟩)) hg hat);replace HB:=am (hb);have HO613:=am (ho);clear HO607;clear ho hb hg hat;obtain⟨Ao12,co12,eo12⟩:=Kd.AF HO613.out;subst eo12)|((with_reducible refine za (f:=84) rfl ?_);refine gl 13 Tryz.func84 #[int i64 a0,.slice Ao12 y611.length co12] ?_;(with_reducible refine(zl.calls k a0 _ _ y611 t614 _ ?_ ?_ A7.out).mono ?_);exact Kd.Ad (Kd.Az HO613.out).2.2 gs;exact(Kd.Az HO613.out).2.1;rintro e w13 ⟨v615,rfl,ho0,hb⟩;refine⟨_,rfl,?_⟩;have HO616:=am (Kd.AG (Kd.Ar (ok':=λk_=>some k_≠(.slice Ao11 t608.length co11:Value).ownBlock/\some k_≠(.slice Ao12 y611.length co12:Value).ownBlock) (Kd.S_N (Kd.BU ho0)) (λk_ hk_=>⟨(Kd.fresh' (Kd.N_lt (wN HO610)) k_ hk_.2.1),(Kd.fresh' (Kd.N_lt (wN HO613)) k_ hk_.2.1)⟩)) (bz HB));replace HO610:=eN HO610 (Kd.Bf ho0) hb;replace HO613:=eN HO613 (Kd.Bf ho0) hb;replace HB:=bq HB hb;(try clear hb);(try clear ho0);obtain⟨Ao14,co14,eo14⟩:=Kd.AF HO616.out;subst eo14))
  go_ret
  exact⟨fq,bw HB⟩
 ·rw[if_neg c6]at H
  exact absurd H (by simp)
def J0.f (k:Nat) (a0:Int) (l1:List Int) (l2:List Int):Option (Bool):=(Z1.f l2).bind λt617=>(if t617.length < 5864062014805 then ((zl.f k a0 (t617++[l1])).bind λt623=>(some ((t623.length:Int) == 2))) else (none))
theorem J0.mono (a0 a1 a2 k):LeO (J0.f k a0 a1 a2) (J0.f (k+1) a0 a1 a2):=by
 unfold J0.f
 repeat' with_reducible first|intro _|apply zl.mono|apply Eb|apply Ec|apply Ed|apply Ee
theorem J0.calls (k:Nat) (a0:Int) (P1_:Nat->Prop) (A1:Option Addr) (c1:Nat) (l1:List Int) (P2_:Nat->Prop) (A2:Option Addr) (c2:Nat) (l2:List Int) (r:Bool) (w:World) (hs1:Kd.V (Kd.int i64) 3 w w.heap.size (λk_=>P1_ k_) (.slice A1 l1.length c1) l1) (hs2:Kd.V (Kd.int i64) 3 w w.heap.size (λk_=>P2_ k_) (.slice A2 l2.length c2) l2) (h:J0.f k a0 l1 l2=some r):
  Calls Tryz.prog 34 #[int i64 a0,.slice A1 l1.length c1,.slice A2 l2.length c2] w λe w'=>e=.returned (.bool r)/\Below w.heap.size w w':=by
 have HO1:=am (show Kd.V (Kd.int i64) 3 w w.heap.size (λk_=>((P1_ k_\/P2_ k_)\/w.heap.size<=k_)) (.slice A1 l1.length c1) l1 from Kd.AP hs1 (λk_ hk=>.inl (.inl hk)));have HO2:=am (show Kd.V (Kd.int i64) 3 w w.heap.size (λk_=>((P1_ k_\/P2_ k_)\/w.heap.size<=k_)) (.slice A2 l2.length c2) l2 from Kd.AP hs2 (λk_ hk=>.inl (.inr hk)));have HB:=Em w;have H:=h;unfold J0.f at H;clear h;replace H:=bs H;obtain⟨t617,A4,H⟩:=H
 by_cases c5:t617.length < 5864062014805
 ·rw[if_pos c5]at H
  have LMc5:=am c5;clear c5;generalize hy620:(t617++[l1]:List (List Int))=y620 at H;have Ny620:=am hy620.symm;clear hy620;replace H:=bs H;obtain⟨t623,A6,H⟩:=H;obtain rfl:=Option.some.inj H;go_enter Tryz.func34,Tryz.ntmps34
  go_wp2_with (first|((with_reducible refine za (f:=85) rfl ?_);refine gl 9 Tryz.func85 #[.slice A2 l2.length c2] ?_;(with_reducible refine(Z1.calls (λk_=>((P1_ k_\/P2_ k_)\/w.heap.size<=k_)) _ _ l2 t617 _ ?_ A4.out).mono ?_);exact HO2.out;rintro e w7 ⟨v618,rfl,ho0,hb⟩;refine⟨_,rfl,?_⟩;replace HO1:=eV HO1 (Kd.AH ho0) hb;replace HO2:=eV HO2 (Kd.AH ho0) hb;have HO619:=am (Kd.AG (Kd.Ar (ok':=λk_=>((P1_ k_\/P2_ k_)\/w.heap.size<=k_)) ho0 (λk_ hk_=>Or.elim hk_ (λhs_=>hs_) (λhn_=>(.inr (Nat.le_trans (bz HB) hn_))))) (bz HB));replace HB:=bq HB hb;(try clear hb);(try clear ho0))|((with_reducible refine jz (b:=.append) (xs:=#[.tmp 9,.tmp 11]) rfl ?_);at_builtin;refine Kd.B9 KI (w0:=w) w.heap.size rfl (.tmp 9) (.tmp 11) 24 37 (.slice none 0 0) 24 rfl Tryz.underlying24 Ja rfl (by decide) (by omega) v618 t617 l1 [.slice A1 l1.length c1] (λk_=>((P1_ k_\/P2_ k_)\/w.heap.size<=k_)) (λk_=>((λk_=>((P1_ k_\/P2_ k_)\/w.heap.size<=k_))) k_/\some k_≠(v618:Value).ownBlock) rfl rfl ?aP (λ_ hk=>hk) ?aF ?aO ?aB ?aS ?aL ?_;(case aP=>exact(Kd.Aw (Kd.An (Kd.AP (ok':=(λk_=>((λk_=>((P1_ k_\/P2_ k_)\/w.heap.size<=k_))) k_/\some k_≠(v618:Value).ownBlock)) (HO1.out) (λk_ hk=>⟨hk.1,hk.2⟩))).2.1 (Kd.V_F (Kd.AP (ok':=(λk_=>((λk_=>((P1_ k_\/P2_ k_)\/w.heap.size<=k_))) k_/\some k_≠(v618:Value).ownBlock)) (HO1.out) (λk_ hk=>⟨hk.1,hk.2⟩)))));(case aB=>exact(bw HB));(case aF=>exact(λk_ hk=>(.inr (Nat.le_trans (bz HB) hk))));(case aO=>exact(wN HO619));(case aS=>exact(bz HB));(case aL=>have:=LMc5.out;omega);intro v621 w8 ho hb hg hat;rw[<-Ny620.out]at ho;replace HO1:=am (Kd.Bq (ok:=(λk_=>((P1_ k_\/P2_ k_)\/w.heap.size<=k_))) (wV HO1) hg hat);replace HO2:=am (Kd.Bq (ok:=(λk_=>((P1_ k_\/P2_ k_)\/w.heap.size<=k_))) (wV HO2) hg hat);replace HB:=am (hb);have HO622:=am (ho);clear HO619;clear ho hb hg hat;obtain⟨Ao9,co9,eo9⟩:=Kd.AF HO622.out;subst eo9)|((with_reducible refine za (f:=84) rfl ?_);refine gl 13 Tryz.func84 #[int i64 a0,.slice Ao9 y620.length co9] ?_;(with_reducible refine(zl.calls k a0 _ _ y620 t623 _ ?_ ?_ A6.out).mono ?_);exact Kd.Ad (Kd.Az HO622.out).2.2 gs;exact(Kd.Az HO622.out).2.1;rintro e w10 ⟨v624,rfl,ho0,hb⟩;refine⟨_,rfl,?_⟩;replace HO1:=eV HO1 (Kd.Bf ho0) hb;replace HO2:=eV HO2 (Kd.Bf ho0) hb;have HO625:=am (Kd.AG (Kd.Ar (ok':=λk_=>((P1_ k_\/P2_ k_)\/w.heap.size<=k_)/\some k_≠(.slice Ao9 y620.length co9:Value).ownBlock) (Kd.S_N (Kd.BU ho0)) (λk_ hk_=>⟨(.inr (Nat.le_trans (bz HB) hk_.2.1)),(Kd.fresh' (Kd.N_lt (wN HO622)) k_ hk_.2.1)⟩)) (bz HB));replace HO622:=eN HO622 (Kd.Bf ho0) hb;replace HB:=bq HB hb;(try clear hb);(try clear ho0);obtain⟨Ao11,co11,eo11⟩:=Kd.AF HO625.out;subst eo11))
  go_ret
  exact⟨fq,bw HB⟩
 ·rw[if_neg c5]at H
  exact absurd H (by simp)
end Go.Proofs.YtmgbpmihbljngaaGreat.PA
