-- Written by xprint.py, a program of this claim's own (over the kit's print.py)
import Derived.Test.YtmgbpmihbljngaaPAx10
namespace Go.Proofs.Ytmgbpmihbljngaa.PA
set_option maxHeartbeats 8000000
set_option maxRecDepth 100000
open Go.RowKit Go.Proofs.YtmgbpmihbljngaaW.PrintWords Go.Proofs.YtmgbpmihbljngaaW.PrintLast Go.Proofs.YtmgbpmihbljngaaW.PrintMore
attribute [local go_sem] Qs Qr Qx Qw Qf Qe Qq Qp
set_option linter.unusedVariables false
set_option linter.unusedSimpArgs false
mutual
def ze.l0 :Nat→Int→List (S43)→Int→Option ((List (S43)))
 | 0,_,_,_=>none
 | k+1,x0,x3,x4=>if x4 < x0 then (if x3.length < 5864062014805 then (ze.l0 k x0 (x3++[(⟨(⟨0,1,x4⟩:S41)⟩:S43)]) (wrap64 (x4+1))) else (none)) else (ze.l1 k x0 x3 0)
def ze.l1 :Nat→Int→List (S43)→Int→Option ((List (S43)))
 | 0,_,_,_=>none
 | k+1,x0,x3,x5=>if x5 < x0 then (ze.l2 k x0 x3 x5 0) else (some x3)
def ze.l2 :Nat→Int→List (S43)→Int→Int→Option ((List (S43)))
 | 0,_,_,_,_=>none
 | k+1,x0,x3,x5,x6=>if x6 < x0 then (if x3.length < 5864062014805 then (ze.l2 k x0 (x3++[(⟨(⟨1,x5,x6⟩:S41)⟩:S43)]) x5 (wrap64 (x6+1))) else (none)) else (ze.l1 k x0 x3 (wrap64 (x5+1)))
end
def ze.f (k:Nat) (a0:Int):Option ((List (S43))):=ze.l0 k a0 (([(⟨(⟨0,0,1⟩:S41)⟩:S43)]:List (S43))) 0
theorem ze.mono_l :∀ k,(∀ y0 y1 y2,LeO (ze.l0 k y0 y1 y2) (ze.l0 (k+1) y0 y1 y2))∧(∀ y0 y1 y2,LeO (ze.l1 k y0 y1 y2) (ze.l1 (k+1) y0 y1 y2))∧(∀ y0 y1 y2 y3,LeO (ze.l2 k y0 y1 y2 y3) (ze.l2 (k+1) y0 y1 y2 y3))
 | 0=>⟨fun _ _ _ r h=>by simp[ze.l0]at h,fun _ _ _ r h=>by simp[ze.l1]at h,fun _ _ _ _ r h=>by simp[ze.l2]at h⟩
 | k+1=>by
  obtain⟨ih0,ih1,ih2⟩:=ze.mono_l k
  refine⟨?_,?_,?_⟩
  ·intro y0 y1 y2
   unfold ze.l0
   repeat' first | (with_reducible first | apply ih0 | apply ih1 | apply ih2 | exact LeO.refl _ | exact LeO.none _ | refine LeO.ite ?_ ?_ | refine LeO.bind ?_ (fun _=>?_)) | (first | apply ih0 | apply ih1 | apply ih2 | exact LeO.none _ | refine LeO.ite ?_ ?_ | refine LeO.bind ?_ (fun _=>?_))
  ·intro y0 y1 y2
   unfold ze.l1
   repeat' first | (with_reducible first | apply ih0 | apply ih1 | apply ih2 | exact LeO.refl _ | exact LeO.none _ | refine LeO.ite ?_ ?_ | refine LeO.bind ?_ (fun _=>?_)) | (first | apply ih0 | apply ih1 | apply ih2 | exact LeO.none _ | refine LeO.ite ?_ ?_ | refine LeO.bind ?_ (fun _=>?_))
  ·intro y0 y1 y2 y3
   unfold ze.l2
   repeat' first | (with_reducible first | apply ih0 | apply ih1 | apply ih2 | exact LeO.refl _ | exact LeO.none _ | refine LeO.ite ?_ ?_ | refine LeO.bind ?_ (fun _=>?_)) | (first | apply ih0 | apply ih1 | apply ih2 | exact LeO.none _ | refine LeO.ite ?_ ?_ | refine LeO.bind ?_ (fun _=>?_))
theorem ze.mono :∀ a0 k,LeO (ze.f k a0) (ze.f (k+1) a0):=by
 intro a0 k
 obtain⟨ih0,ih1,ih2⟩:=ze.mono_l k
 unfold ze.f
 repeat' first | (with_reducible first | apply ih0 | apply ih1 | apply ih2 | exact LeO.refl _ | exact LeO.none _ | refine LeO.ite ?_ ?_ | refine LeO.bind ?_ (fun _=>?_)) | (first | apply ih0 | apply ih1 | apply ih2 | exact LeO.none _ | refine LeO.ite ?_ ?_ | refine LeO.bind ?_ (fun _=>?_))
theorem ze.calls (k:Nat) (a0:Int) (r:List (S43)) (w:World) (h:ze.f k a0=some r):
  Calls Try.prog 127 #[.int .i64 a0] w fun e w'=>∃ v0_:Value,e=.returned (v0_)∧Kd.R k43 43 w' w.heap.size (fun _=>True) v0_ r∧Below w.heap.size w w':=by
 have hu41:=Try.underlying41
 have hu43:=Try.underlying43
 have HB:=am (Below.refl w.heap.size w)
 have H:(ze.l0 k a0 (([(⟨(⟨0,0,1⟩:S41)⟩:S43)]:List (S43))) 0)=some r:=h
 clear h
 generalize hy291:(([(⟨(⟨0,0,1⟩:S41)⟩:S43)]:List (S43)))=y291 at H
 have Ny291:=am hy291.symm;clear hy291;have H':=am H;clear H
 go_enter Try.func127,Try.ntmps127
 go_wp2_with (first | ((with_reducible refine zb (N:=9) rfl ?_);refine Kd.R_lit k43 _ 43 ?hg (N:=9) ?hd (xs:=([(⟨(⟨0,0,1⟩:S41)⟩:S43)]:List (S43))) (inner:=[.int .i64 0,.int .i64 0,.int .i64 1]) (ok:=fun _=>True) (okp:=fun _=>True) ?hr ?hp (fun _ hk=>hk) trivial (Below.refl _ _) (Nat.le_refl _) (by simp) ?_;(case hd=>rfl);(case hg=>rfl);(case hr=>first | (go_simp;done) | (go_simp;rfl));(case hp=>exact(Reps.c3 (show Kd.M k43 _ _ _ (⟨(⟨0,0,1⟩:S41)⟩:S43) [.int .i64 0,.int .i64 0,.int .i64 1] from (Jb _ _ _ (⟨(⟨0,0,1⟩:S41)⟩:S43) )) (Reps.none _ _)));intro v292 w2 ho3 hb hg_ hnew_;clear hg_ hnew_;(first | rw[← Ny291.out]at ho3 | (simp only[Int.reduceToNat]at ho3;rw[← Ny291.out]at ho3));have HO293:=am (Kd.R_lower ho3 (bz HB));replace HB:=bq HB hb;clear hb ho3))
 go_loopg [3,4] k (fun kq v3 v4 w'=>∃ (x3_1:List (S43)) (x4_1:Int),v4=.int .i64 x4_1∧qf (ze.l0 kq a0 x3_1 x4_1=some r)∧qf (kq≤k)∧qf (Kd.R k43 43 w' w.heap.size (fun _=>True) v3 x3_1)∧qf (Below w.heap.size w w'))
 case atStart=>exact⟨(y291),(0),fr,H',⟨Nat.le_refl _⟩,⟨wR HO293⟩,⟨bw HB⟩⟩
 case round=>
  clear H';try clear c1;try clear p2;try clear c3
  obtain⟨x3_1,x4_1,rfl,HA,HK1,HO_3,HB⟩:=hrel
  cases gk with
  | zero=>exact absurd HA.out (by simp[ze.l0])
  | succ k1=>
   have H:=HA.out;clear HA
   simp only[ze.l0]at H
   by_cases c4:x4_1 < a0
   ·rw[if_pos c4]at H
    have c4b0:=decide_eq_true c4;clear c4;replace H:=ifn H;obtain⟨c5,H⟩:=H;have LMc5:=am c5;clear c5
    generalize hy294:(x3_1++[(⟨(⟨0,1,x4_1⟩:S41)⟩:S43)]:List (S43))=y294 at H
    have Ny294:=am hy294.symm;clear hy294;have H':=am H;clear H
    go_wp2_with (first | ((with_reducible refine jr (b:=.append) (xs:=#[.tmp 15,.tmp 19]) rfl ?_);at_builtin;refine Kd.R_append k43 (w0:=w) w.heap.size rfl (.tmp 15) (.tmp 19) 34 43 (.agg #[(.int .i64 0),(.int .i64 0),(.int .i64 0)]) 24 rfl Try.underlying34 J4 rfl (by decide) (by omega) u3 x3_1 (⟨(⟨0,1,x4_1⟩:S41)⟩:S43) [.int .i64 0,.int .i64 1,.int .i64 x4_1] (fun _=>True) (fun _=>False) rfl rfl ?aP (fun _ hk=>hk.elim) ?aF ?aO ?aB ?aS ?aL ?_;(case aP=>exact Jb _ _ _ (⟨(⟨0,1,x4_1⟩:S41)⟩:S43));(case aB=>exact(bw HB));(case aF=>exact(fun _ _=>trivial));(case aO=>exact(wR HO_3));(case aS=>exact(bz HB));(case aL=>have:=LMc5.out;omega);intro v295 w6 ho hb hg hat;rw[← Ny294.out]at ho;replace HB:=am (hb);have HO296:=am (ho);clear HO_3;clear ho hb hg hat))
    go_roundg k1
    case measure=>have:=HK1.out;omega
    case rel=>exact⟨(y294),(wrap64 (x4_1+1)),fr,H',⟨by have:=HK1.out;omega⟩,⟨wR HO296⟩,⟨bw HB⟩⟩
   ·rw [if_neg c4] at H
    have c4b0:=decide_eq_false c4;clear c4;have H':=am H;clear H;go_wp2
    go_loopg [3,5] k1 (fun kq v3 v5 w'=>∃ (x3_2:List (S43)) (x5_2:Int),v5=.int .i64 x5_2∧qf (ze.l1 kq a0 x3_2 x5_2=some r)∧qf (kq≤k1)∧qf (Kd.R k43 43 w' w.heap.size (fun _=>True) v3 x3_2)∧qf (Below w.heap.size w w'))
    case atStart=>exact⟨(x3_1),(0),fr,H',⟨Nat.le_refl _⟩,⟨wR HO_3⟩,⟨bw HB⟩⟩
    case round=>
     clear H';try clear c1;try clear p2;try clear c3;try clear c4;try clear c4b0;try clear c5;try clear p6;try clear p2
     obtain⟨x3_2,x5_2,rfl,HA,HK2,HO_3,HB⟩:=hrel
     cases gk with
     | zero=>exact absurd HA.out (by simp[ze.l1])
     | succ k2=>
      have H:=HA.out;clear HA
      simp only[ze.l1]at H
      by_cases c7:x5_2 < a0
      ·rw [if_pos c7] at H
       have c7b0:=decide_eq_true c7;clear c7;have H':=am H;clear H;go_wp2
       go_loopg [3,6] k2 (fun kq v3 v6 w'=>∃ (x3_3:List (S43)) (x6_3:Int),v6=.int .i64 x6_3∧qf (ze.l2 kq a0 x3_3 x5_2 x6_3=some r)∧qf (kq≤k2)∧qf (Kd.R k43 43 w' w.heap.size (fun _=>True) v3 x3_3)∧qf (Below w.heap.size w w'))
       case atStart=>exact⟨(x3_2),(0),fr,H',⟨Nat.le_refl _⟩,⟨wR HO_3⟩,⟨bw HB⟩⟩
       case round=>
        clear H';try clear c1;try clear p2;try clear c3;try clear c4;try clear c4b0;try clear c5;try clear p6;try clear c7;try clear c7b0;try clear p2;try clear p6
        obtain⟨x3_3,x6_3,rfl,HA,HK3,HO_3,HB⟩:=hrel
        cases gk with
        | zero=>exact absurd HA.out (by simp[ze.l2])
        | succ k3=>
         have H:=HA.out;clear HA
         simp only[ze.l2]at H
         by_cases c8:x6_3 < a0
         ·rw[if_pos c8]at H
          have c8b0:=decide_eq_true c8;clear c8;replace H:=ifn H;obtain⟨c9,H⟩:=H;have LMc9:=am c9;clear c9
          generalize hy297:(x3_3++[(⟨(⟨1,x5_2,x6_3⟩:S41)⟩:S43)]:List (S43))=y297 at H
          have Ny297:=am hy297.symm;clear hy297;have H':=am H;clear H
          go_wp2_with (first | ((with_reducible refine jr (b:=.append) (xs:=#[.tmp 31,.tmp 36]) rfl ?_);at_builtin;refine Kd.R_append k43 (w0:=w) w.heap.size rfl (.tmp 31) (.tmp 36) 34 43 (.agg #[(.int .i64 0),(.int .i64 0),(.int .i64 0)]) 24 rfl Try.underlying34 J4 rfl (by decide) (by omega) u3 x3_3 (⟨(⟨1,x5_2,x6_3⟩:S41)⟩:S43) [.int .i64 1,.int .i64 x5_2,.int .i64 x6_3] (fun _=>True) (fun _=>False) rfl rfl ?aP (fun _ hk=>hk.elim) ?aF ?aO ?aB ?aS ?aL ?_;(case aP=>exact Jb _ _ _ (⟨(⟨1,x5_2,x6_3⟩:S41)⟩:S43));(case aB=>exact(bw HB));(case aF=>exact(fun _ _=>trivial));(case aO=>exact(wR HO_3));(case aS=>exact(bz HB));(case aL=>have:=LMc9.out;omega);intro v298 w10 ho hb hg hat;rw[← Ny297.out]at ho;replace HB:=am (hb);have HO299:=am (ho);clear HO_3;clear ho hb hg hat))
          go_roundg k3
          case measure=>have:=HK1.out;have:=HK2.out;have:=HK3.out;omega
          case rel=>exact⟨(y297),(wrap64 (x6_3+1)),fr,H',⟨by have:=HK1.out;have:=HK2.out;have:=HK3.out;omega⟩,⟨wR HO299⟩,⟨bw HB⟩⟩
         ·rw[if_neg c8]at H
          have c8b0:=decide_eq_false c8;clear c8;have H':=am H;clear H;go_wp2
          go_roundg k3
          case measure=>have:=HK1.out;have:=HK2.out;have:=HK3.out;omega
          case rel=>exact⟨(x3_3),(wrap64 (x5_2+1)),fr,H',⟨by have:=HK1.out;have:=HK2.out;have:=HK3.out;omega⟩,⟨wR HO_3⟩,⟨bw HB⟩⟩
      ·rw[if_neg c7]at H
       have c7b0:=decide_eq_false c7;clear c7;obtain rfl:=Option.some.inj H;go_wp2;go_ret
       exact⟨_,fq,wR HO_3,bw HB⟩
def slE (e0 e1 e2:Int) (j:Nat):Int:=if j=0 then e0 else if j=1 then e1 else e2
def slC (k:Nat) (p x0 x1 x2 e0 e1 e2:Int):Nat→Nat→Int→Option Int
 | 0,_,n=>some n
 | d+1,c,n=>(zt.f k p (slE x0 x1 x2 c) (slE e0 e1 e2 c)).bind fun q=>slC k p x0 x1 x2 e0 e1 e2 d (c+1) (Int.tmod (wrap64 (n*q)) p)
def slT (k:Nat) (p ai vj ej x0 x1 x2 e0 e1 e2:Int):Option Int:=slC k p x0 x1 x2 e0 e1 e2 3 0 (Int.tmod (wrap64 (Int.tmod (wrap64 (ej*ai)) p*vj)) p)
def slL (e:Int) (i j:Nat):Int:=if i=j then wrap64 (e - 1) else e
def slJ (k:Nat) (p ai x0 x1 x2 v0 v1 v2 e0 e1 e2:Int):Nat→Nat→Int→Option Int
 | 0,_,n=>some n
 | d+1,j,n=>if slE e0 e1 e2 j=0 then slJ k p ai x0 x1 x2 v0 v1 v2 e0 e1 e2 d (j+1) n else (slT k p ai (slE v0 v1 v2 j) (slE e0 e1 e2 j) x0 x1 x2 (slL e0 0 j) (slL e1 1 j) (slL e2 2 j)).bind fun t=>slJ k p ai x0 x1 x2 v0 v1 v2 e0 e1 e2 d (j+1) (Int.tmod (wrap64 (n+t)) p)
def slI (k:Nat) (p:Int) (a:List Int) (x0 x1 x2 v0 v1 v2:Int) (L:List S41):Nat→Nat→Int→Option Int
 | 0,_,n=>some n
 | d+1,i,n=>if i < a.length then (slJ k p (rd a (i:Int)) x0 x1 x2 v0 v1 v2 (zg L (i:Int)).f0 (zg L (i:Int)).f1 (zg L (i:Int)).f2 3 0 n).bind fun m=>slI k p a x0 x1 x2 v0 v1 v2 L d (i+1) m else none
def ji.f (k:Nat) (p:Int) (a:List Int) (x0 x1 x2 v0 v1 v2:Int):Option Int:=Zf.f.bind fun L=>if L.length=10∧p≠0 then slI k p a x0 x1 x2 v0 v1 v2 L 10 0 0 else none
theorem qje (k:Nat) (p x0 x1 x2 e0 e1 e2:Int):∀ d c n,LeO (slC k p x0 x1 x2 e0 e1 e2 d c n) (slC (k+1) p x0 x1 x2 e0 e1 e2 d c n)
 | 0,_,_=>LeO.refl _
 | d+1,c,n=>by rw[slC,slC];exact LeO.bind (zt.mono _ _ _ _) fun _=>qje k p x0 x1 x2 e0 e1 e2 d _ _
theorem qo8 (k:Nat) (p ai vj ej x0 x1 x2 e0 e1 e2:Int):LeO (slT k p ai vj ej x0 x1 x2 e0 e1 e2) (slT (k+1) p ai vj ej x0 x1 x2 e0 e1 e2):=qje _ _ _ _ _ _ _ _ _ _ _
theorem qe6 (k:Nat) (p ai x0 x1 x2 v0 v1 v2 e0 e1 e2:Int):∀ d j n,LeO (slJ k p ai x0 x1 x2 v0 v1 v2 e0 e1 e2 d j n) (slJ (k+1) p ai x0 x1 x2 v0 v1 v2 e0 e1 e2 d j n)
 | 0,_,_=>LeO.refl _
 | d+1,j,n=>by rw[slJ,slJ];exact LeO.ite (qe6 k p ai x0 x1 x2 v0 v1 v2 e0 e1 e2 d _ _) (LeO.bind (qo8 _ _ _ _ _ _ _ _ _ _ _) fun _=>qe6 k p ai x0 x1 x2 v0 v1 v2 e0 e1 e2 d _ _)
theorem qi9 (k:Nat) (p:Int) (a:List Int) (x0 x1 x2 v0 v1 v2:Int) (L:List S41):∀ d i n,LeO (slI k p a x0 x1 x2 v0 v1 v2 L d i n) (slI (k+1) p a x0 x1 x2 v0 v1 v2 L d i n)
 | 0,_,_=>LeO.refl _
 | d+1,i,n=>by rw[slI,slI];exact LeO.ite (LeO.bind (qe6 _ _ _ _ _ _ _ _ _ _ _ _ _ _ _) fun _=>qi9 k p a x0 x1 x2 v0 v1 v2 L d _ _) (LeO.refl _)
theorem ji.mono :∀ a0 a1 a2 a3 a4 a5 a6 a7 k,LeO (ji.f k a0 a1 a2 a3 a4 a5 a6 a7) (ji.f (k+1) a0 a1 a2 a3 a4 a5 a6 a7):=by
 intro a0 a1 a2 a3 a4 a5 a6 a7 k
 unfold ji.f
 exact LeO.bind (LeO.refl _) fun _=>LeO.ite (qi9 _ _ _ _ _ _ _ _ _ _ _ _ _) (LeO.refl _)
def ji.T11 :Bool×List (List Nat×List Nat):=(true,[([],[]),([0],[0]),([1],[1]),([],[]),([],[]),([3,4],[3,4]),([5],[5]),([2,6],[2,6]),([],[]),([7,8],[7,8]),([],[]),([10],[10]),([11],[11]),([9,12],[9,12]),([],[]),([13,14],[13,14]),([15,0,1,2,3,4,5,6,7,8,9,10,11,12,13,14,15],[15])])
def ji.B11 :List Nat:=[0,1,3,0,0,24,56,127,0,511,0,1024,3072,8191,0,32767,65535]
theorem ji.tab11 :rtab .any (Z0 Try.f128 11)=ji.T11:=by kernel_rfl
theorem ji.bits11 :Qj ji.T11.2 ji.B11=true:=by kernel_rfl
def ji.T16 :Bool×List (List Nat×List Nat):=(true,[([],[]),([],[]),([],[]),([],[]),([3,2],[2,3]),([4],[4]),([],[]),([6],[6]),([7],[7]),([1,5,8],[1,5,8]),([0,9],[0,9]),([],[]),([10,11],[10,11]),([12,9,0,1,2,3,4,5,6,7,8,9,10,11,12],[0,12])])
def ji.B16 :List Nat:=[0,0,0,0,12,28,0,64,192,510,1023,0,4095,8191]
theorem ji.tab16 :rtab .any (Z0 Try.f128 16)=ji.T16:=by kernel_rfl
theorem ji.bits16 :Qj ji.T16.2 ji.B16=true:=by kernel_rfl
theorem qbj {w:World} {g:Nat} {t:TypeId} {e0 e1 e2:Int} (h:w.heap[g]? =some (.cells #[.int .i64 e0,.int .i64 e1,.int .i64 e2] t (0,0))) {j:Nat} (hj:j < 3):w.cell? ⟨g,j,none⟩=some (.int .i64 (slE e0 e1 e2 j)):=by
 rcases (show j=0∨j=1∨j=2 by omega) with rfl | rfl | rfl<;>exact qe h _
theorem qnc {w:World} {g:Nat} {t:TypeId} {e0 e1 e2:Int} (h:w.heap[g]? =some (.cells #[.int .i64 e0,.int .i64 e1,.int .i64 e2] t (0,0))) {j:Nat} (hj:j < 3):(w.setCell ⟨g,j,none⟩ (.int .i64 (wrap64 (slE e0 e1 e2 j - 1)))).heap[g]? =some (.cells #[.int .i64 (slL e0 0 j),.int .i64 (slL e1 1 j),.int .i64 (slL e2 2 j)] t (0,0)):=by
 rcases (show j=0∨j=1∨j=2 by omega) with rfl | rfl | rfl<;>exact Zw h _ _
theorem sl_lt {w:World} {b:Nat} {o:Obj} (h:w.heap[b]? =some o):b < w.heap.size:=(Array.getElem?_eq_some_iff.1 h).1
theorem qeu {i d n:Nat} (h:i+(d+1)=n):n - (((i+1:Nat):Int)).toNat < n - ((i:Int)).toNat:=by omega
theorem ji.calls (k:Nat) (a0:Int) (A1:Option Addr) (c1:Nat) (l1:List Int) (x0 x1 x2 v0 v1 v2:Int) (r:Int) (w:World) (hr1:Kd.C (Kd.int .i64) w A1 l1.length l1) (hc1:l1.length≤c1) (h:ji.f k a0 l1 x0 x1 x2 v0 v1 v2=some r):
  Calls Try.prog 128 #[.int .i64 a0,.slice A1 l1.length c1,.agg #[.int .i64 x0,.int .i64 x1,.int .i64 x2],.agg #[.int .i64 v0,.int .i64 v1,.int .i64 v2]] w fun e w'=>e=.returned (.int .i64 r)∧Below w.heap.size w w':=by
 have hu43:=Try.underlying43
 have hu41:=Try.underlying41
 have HR1:=am hr1
 have HC1:=am hc1
 have HB:=am (Below.refl w.heap.size w)
 unfold ji.f at h
 obtain⟨L,hL,h2⟩:=Option.bind_eq_some_iff.1 h
 clear h
 by_cases hl:L.length=10∧a0≠0
 rotate_left
 ·rw[if_neg hl]at h2;cases h2
 rw[if_pos hl]at h2
 obtain⟨hl10,hp⟩:=hl
 have HL:=am hL
 have HL10:=am hl10
 have p0:(a0=0)=False:=eq_false hp
 have H:=am h2
 clear hr1 hc1 h2 hL hl10 hp
 go_enter Try.func128,Try.ntmps128
 go_wp2_with fail
 refine(Zf.calls L _ HL.out).mono ?_
 rintro e w1 ⟨u,rfl,hv,hb⟩
 obtain⟨AL,cL,e1⟩:=Kd.R_slice hv
 subst e1
 have HB1:=bq HB hb
 have HX:=am ((hb.block w.heap.size (by simp<;>omega)).trans (qq (heap_alloc_last w (.cells #[.int .i64 x0,.int .i64 x1,.int .i64 x2] 43)) (.cells #[.int .i64 v0,.int .i64 v1,.int .i64 v2] 41)))
 have HV:=am ((hb.block (w.alloc (.cells #[.int .i64 x0,.int .i64 x1,.int .i64 x2] 43)).heap.size (by simp<;>omega)).trans (heap_alloc_last (w.alloc (.cells #[.int .i64 x0,.int .i64 x1,.int .i64 x2] 43)) (.cells #[.int .i64 v0,.int .i64 v1,.int .i64 v2] 41)))
 have es:(w.alloc (.cells #[.int .i64 x0,.int .i64 x1,.int .i64 x2] 43)).heap.size=w.heap.size+1:=by
  show (w.heap.push _).size=_
  exact Array.size_push _
 rw[es]at HV
 clear es
 have HC:=am (Kd.R_reads' hv).2.2
 have HCL:=am (Kd.R_reads' hv).2.1
 clear hv hb HB
 have HBR:=am (Below.refl w1.heap.size w1)
 go_wp2
 go_loopw [9,11] (fun v9 v11 w'=>∃ (d i:Nat) (n:Int),v9=.int .i64 n∧v11=.int .i64 (i:Int)∧qf (i+d=10)∧qf (slI k a0 l1 x0 x1 x2 v0 v1 v2 L d i n=some r)∧qf (Below w1.heap.size w1 w')) (fun _ v11 _=>10 - (intOf v11).toNat)
 case atStart=>exact⟨10,0,0,rfl,rfl,⟨by omega⟩,H,⟨bw HBR⟩⟩
 case round=>
  clear H HBR
  obtain⟨d,i,n,rfl,rfl,HD,H,HBR⟩:=hrel
  cases d with
  | zero=>
   have hlt:decide ((i:Int) < 10)=false:=decide_eq_false (by have:=HD.out;omega)
   have hr:=H.out
   rw[slI]at hr
   obtain rfl:=Option.some.inj hr
   clear hr;go_wp2;go_ret
   exact⟨fq,jg HB1.out (bw HBR)⟩
  | succ d=>
   have hlt:decide ((i:Int) < 10)=true:=decide_eq_true (by have:=HD.out;omega)
   have h2:=H.out
   rw[slI]at h2
   by_cases hi:i < l1.length
   rotate_left
   ·rw[if_neg hi]at h2;cases h2
   rw[if_pos hi]at h2
   obtain⟨t,ht,hn⟩:=Option.bind_eq_some_iff.1 h2
   clear h2
   obtain⟨ad,e1,y0,y1,y2⟩:=qh2 HC.out (i:Int) (by omega) (by have:=HL10.out;have:=HD.out;omega)
   obtain⟨ad2,e2,z0⟩:=Kd.at_int HR1.out (i:Int) (by omega) (by omega)
   subst e1;subst e2
   rw[Int.toNat_natCast]at y0 y1 y2 z0
   have z1:=am (wcl HB1 z0)
   have HI:=am hi
   have HT:=am ht
   have HN:=am hn
   clear H ht hn hi z0
   obtain⟨Y,hY⟩:∃ Y,zg L (i:Int)=Y:=⟨_,rfl⟩
   rw[hY]at y0 y1 y2
   rw[hY]at HT
   have Y0:=am y0
   have Y1:=am y1
   have Y2:=am y2
   clear y0 y1 y2 hY;go_wp2
   go_loopw [9,12] (fun v9 v12 w'=>∃ (d2 j:Nat) (m:Int),v9=.int .i64 m∧v12=.int .i64 (j:Int)∧qf (j+d2=3)∧qf (slJ k a0 (rd l1 (i:Int)) x0 x1 x2 v0 v1 v2 Y.f0 Y.f1 Y.f2 d2 j m=some t)∧qf (Below w1.heap.size w1 w')) (fun _ v12 _=>3 - (intOf v12).toNat)
   case atStart=>exact⟨3,0,n,rfl,rfl,⟨by omega⟩,HT,⟨bw HBR⟩⟩
   case round=>
    clear HT HBR
    obtain⟨d2,j,m,rfl,rfl,HD2,HJ,HBR⟩:=hrel
    cases d2 with
    | zero=>
     have hlt2:decide ((j:Int) < 3)=false:=decide_eq_false (by have:=HD2.out;omega)
     have hr:=HJ.out
     rw[slJ]at hr
     obtain rfl:=Option.some.inj hr
     clear hr
     have hw1:wrap64 ((i:Int)+1)=((i+1:Nat):Int):=by have:=HD.out;unfold wrap64;omega
     go_wp2
     go_roundw
     case measure=>rw[hw1];exact qeu HD.out
     case rel=>exact⟨d,i+1,m,rfl,by rw[hw1],⟨by have:=HD.out;omega⟩,HN,⟨bw HBR⟩⟩
    | succ d2=>
     have hlt2:decide ((j:Int) < 3)=true:=decide_eq_true (by have:=HD2.out;omega)
     have y0:=wcl HBR Y0.out
     have y1:=wcl HBR Y1.out
     have y2:=wcl HBR Y2.out
     have p1:(0≤(i:Int))=True:=eq_true (by omega)
     have q1:((i:Int) < L.length)=True:=eq_true (by have:=HL10.out;have:=HD.out;omega)
     go_upto_region 10 with fail
     clear y0 y1 y2 p1 q1
     have HE:=am (heap_alloc_last wr (.cells #[.int .i64 Y.f0,.int .i64 Y.f1,.int .i64 Y.f2] 41))
     have HB2:=am (show Below w1.heap.size w1 (wr.alloc (.cells #[.int .i64 Y.f0,.int .i64 Y.f1,.int .i64 Y.f2] 41)) from bw HBR)
     have HG:=am (show w1.heap.size≤wr.heap.size from HBR.out.size)
     clear HBR
     generalize wr.alloc (.cells #[.int .i64 Y.f0,.int .i64 Y.f1,.int .i64 Y.f2] 41)=w2 at HE HB2 ⊢
     generalize wr.heap.size=gE at HE HG ⊢
     have hj3:j < 3:=by have:=HD2.out;omega
     have p2:(0≤(j:Int))=True:=eq_true (by omega)
     have q2:((j:Int) < 3)=True:=eq_true (by omega)
     have yj:=qbj HE.out hj3
     have h3:=HJ.out
     rw[slJ]at h3
     have HJ3:=am hj3
     clear hj3
     by_cases hz:slE Y.f0 Y.f1 Y.f2 j=0
     ·rw[if_pos hz]at h3
      have HJ2:=am h3
      have bz:(slE Y.f0 Y.f1 Y.f2 j == 0)=true:=beq_iff_eq.mpr hz
      clear h3 hz
      have hw1:wrap64 ((j:Int)+1)=((j+1:Nat):Int):=by have:=HJ3.out;unfold wrap64;omega
      go_wp2_with fail
      go_roundw
      case measure=>rw[hw1];exact qeu HD2.out
      case rel=>exact⟨d2,j+1,m,rfl,by rw[hw1],⟨by have:=HD2.out;omega⟩,HJ2,⟨bw HB2⟩⟩
     ·rw[if_neg hz]at h3
      obtain⟨q,hq,hn⟩:=Option.bind_eq_some_iff.1 h3
      have bz:(slE Y.f0 Y.f1 Y.f2 j == 0)=false:=beq_eq_false_iff_ne.mpr hz
      have HQ:=am hq
      have HJN:=am hn
      clear h3 hz hq hn
      go_upto_region 11 with fail
      have yx:=qbj ((HB2.out.block _ (sl_lt HV.out)).trans HV.out) HJ3.out
      have zz:=wcl HB2 z1.out
      have p1:(0≤(i:Int))=True:=eq_true (by omega)
      have q1:(i < l1.length)=True:=eq_true HI.out
      have hS:(fun w':World=>w'.cell? ⟨gE,j,none⟩=some (.int .i64 (slE Y.f0 Y.f1 Y.f2 j))∧w'.cell? ⟨w.heap.size+1,j,none⟩=some (.int .i64 (slE v0 v1 v2 j))∧w'.cell? (ad2.add i)=some (.int .i64 (rd l1 (i:Int)))) w2.drew:=⟨yj,yx,zz⟩
      refine st 17 (fun w':World=>w'.cell? ⟨gE,j,none⟩=some (.int .i64 (slE Y.f0 Y.f1 Y.f2 j))∧w'.cell? ⟨w.heap.size+1,j,none⟩=some (.int .i64 (slE v0 v1 v2 j))∧w'.cell? (ad2.add i)=some (.int .i64 (rd l1 (i:Int)))) [] ji.tab11 ji.bits11 hS fun hHeld HT_ HW_=>?_
      clear hS yj yx zz
      refine pz 0 33 HT_ ?_;refine pz 1 34 HT_ ?_;refine tk 2 35 HT_ HW_ hHeld ?_;refine pz 3 36 HT_ ?_;refine pz 4 37 HT_ ?_;refine pz 5 38 HT_ ?_
      refine tk 6 39 HT_ HW_ hHeld ?_
      refine pz 7 40 HT_ ?_;refine pz 8 41 HT_ ?_;refine pz 9 42 HT_ ?_;refine pz 10 43 HT_ ?_;refine pz 11 44 HT_ ?_
      refine tk 12 45 HT_ HW_ hHeld ?_
      refine pz 13 46 HT_ ?_;refine pz 14 47 HT_ ?_;refine pz 15 48 HT_ ?_;refine pz 16 14 HT_ ?_
      refine Q3 (Qa HT_.out (by kernel_rfl)) ?_
      clear HT_ HW_ hHeld p1 q1 bz
      have yj:=qbj (qw HE.out) HJ3.out
      have fz:=ql (qw HE.out) j
      go_upto_region 13 with fail
      have HE3:=am (qnc HE.out HJ3.out)
      have HB3:=am (Qi HB2.out HG.out (j:=j) (v:=.int .i64 (wrap64 (slE Y.f0 Y.f1 Y.f2 j - 1))))
      clear yj fz HE HB2 p2 q2
      generalize w2.setCell ⟨gE,j,none⟩ (.int .i64 (wrap64 (slE Y.f0 Y.f1 Y.f2 j - 1)))=w3 at HE3 HB3 ⊢
      unfold slT at HQ
      obtain⟨K0,hK0⟩:∃ K0,Int.tmod (wrap64 (Int.tmod (wrap64 (slE Y.f0 Y.f1 Y.f2 j*rd l1 (i:Int))) a0*slE v0 v1 v2 j)) a0=K0:=⟨_,rfl⟩
      rw[hK0]at HQ ⊢
      clear hK0;go_wp2
      go_loopw [14,15] (fun v14 v15 w'=>∃ (d3 c:Nat) (kk:Int),v14=.int .i64 kk∧v15=.int .i64 (c:Int)∧qf (c+d3=3)∧qf (slC k a0 x0 x1 x2 (slL Y.f0 0 j) (slL Y.f1 1 j) (slL Y.f2 2 j) d3 c kk=some q)∧qf (Below w1.heap.size w1 w')∧qf (w'.heap[gE]? =some (.cells #[.int .i64 (slL Y.f0 0 j),.int .i64 (slL Y.f1 1 j),.int .i64 (slL Y.f2 2 j)] 41 (0,0)))) (fun _ v15 _=>3 - (intOf v15).toNat)
      case atStart=>exact⟨3,0,K0,rfl,rfl,⟨by omega⟩,HQ,⟨bw HB3⟩,⟨pk_ HE3⟩⟩
      case round=>
       clear HQ HB3 HE3
       obtain⟨d3,c,kk,rfl,rfl,HD3,HQ,HB3,HE3⟩:=hrel
       cases d3 with
       | zero=>
        have hlt3:decide ((c:Int) < 3)=false:=decide_eq_false (by have:=HD3.out;omega)
        have hr:=HQ.out
        rw[slC]at hr
        obtain rfl:=Option.some.inj hr
        clear hr
        have hw1:wrap64 ((j:Int)+1)=((j+1:Nat):Int):=by have:=HJ3.out;unfold wrap64;omega
        go_wp2
        go_roundw
        case measure=>rw[hw1];exact qeu HD2.out
        case rel=>exact⟨d2,j+1,_,rfl,by rw[hw1],⟨by have:=HD2.out;omega⟩,HJN,⟨bw HB3⟩⟩
       | succ d3=>
        have hlt3:decide ((c:Int) < 3)=true:=decide_eq_true (by have:=HD3.out;omega)
        have hc3:c < 3:=by have:=HD3.out;omega
        have h3:=HQ.out
        rw[slC]at h3
        obtain⟨u,hu,hn⟩:=Option.bind_eq_some_iff.1 h3
        have HU:=am hu
        have HN3:=am hn
        have p2:(0≤(c:Int))=True:=eq_true (by omega)
        have q2:((c:Int) < 3)=True:=eq_true (by omega)
        clear h3 hu hn HQ
        go_upto_region 16 with fail
        have xx:=qbj ((HB3.out.block _ (sl_lt HX.out)).trans HX.out) hc3
        have yy:=qbj HE3.out hc3
        have HC3:=am hc3
        clear hc3
        generalize slE x0 x1 x2 c=xc at*
        generalize slE (slL Y.f0 0 j) (slL Y.f1 1 j) (slL Y.f2 2 j) c=ec at*
        have hS:(fun w':World=>w'.cell? ⟨w.heap.size,c,none⟩=some (.int .i64 xc)∧w'.cell? ⟨gE,c,none⟩=some (.int .i64 ec)) wr.drew:=⟨xx,yy⟩
        refine st 14 (fun w':World=>w'.cell? ⟨w.heap.size,c,none⟩=some (.int .i64 xc)∧w'.cell? ⟨gE,c,none⟩=some (.int .i64 ec)) [] ji.tab16 ji.bits16 hS fun hHeld HT_ HW_=>?_
        clear hS xx yy
        refine pz 0 59 HT_ ?_;refine pz 1 60 HT_ ?_;refine pz 2 61 HT_ ?_;refine pz 3 62 HT_ ?_;refine pz 4 63 HT_ ?_
        refine tk 5 64 HT_ HW_ hHeld ?_;refine pz 6 65 HT_ ?_;refine pz 7 66 HT_ ?_;refine tk 8 67 HT_ HW_ hHeld ?_;refine pz 11 70 HT_ ?_
        refine on 9 (some 68) HT_ fun K hK=>?_
        refine gs_ Try.func162 #[.int .i64 a0,.int .i64 xc,.int .i64 ec] ?_
        refine(zt.calls k a0 xc ec u _ HU.out).mono ?_
        rintro e w5 ⟨rfl,⟨m5,rfl⟩⟩
        refine⟨_,rfl,?_⟩
        refine hK.out _ _ hHeld fun hHeld=>nz ?_
        clear hK K;refine pz 10 69 HT_ ?_;refine pz 12 71 HT_ ?_;refine pz 13 14 HT_ ?_
        refine Q3 (Qa HT_.out (by kernel_rfl)) ?_
        clear HT_ HW_ hHeld p2 q2
        have hw1:wrap64 ((c:Int)+1)=((c+1:Nat):Int):=by have:=HC3.out;unfold wrap64;omega
        go_wp2
        go_roundw
        case measure=>rw[hw1];exact qeu HD3.out
        case rel=>exact⟨d3,c+1,_,rfl,by rw[hw1],⟨by have:=HD3.out;omega⟩,HN3,⟨bw HB3⟩,⟨pk_ HE3⟩⟩
def l1T :List (Nat×Nat):=[(0,1),(0,2),(0,3),(0,4),(0,5),(1,2),(1,3),(1,4),(1,5),(2,3),(2,4),(2,5),(3,4),(3,5),(4,5)]
def l1M (k:Int) (q:Nat):Int:=if q=(l1T.getD (k - 6).toNat (0,0)).1∨q=(l1T.getD (k - 6).toNat (0,0)).2 then 1 else 0
def l1B (k n:Int) (q:Nat):Int:=if k < n then l1M k q else 0
def l1A (k n:Int):Array Value:=#[.int .i64 1,.int .i64 (l1B k n 0),.int .i64 (l1B k n 1),.int .i64 (l1B k n 2),.int .i64 (l1B k n 3),.int .i64 (l1B k n 4),.int .i64 (l1B k n 5)]
def l1N (i:Nat):Nat:=i*(11 - i) / 2
def qb9.f (k:Int):Option (Int×Int×Int×Int×Int×Int×Int):=if 6≤k∧k < 21 then some (1,l1M k 0,l1M k 1,l1M k 2,l1M k 3,l1M k 4,l1M k 5) else none
theorem qhi {i d n:Nat} (h:i+(d+1)=n):n - (((i+1:Nat):Int)).toNat < n - ((i:Int)).toNat:=by omega
theorem qo9 {k n:Int} (h:n≠k):l1A k (n+1)=l1A k n:=by
 have:∀ q,l1B k (n+1) q=l1B k n q:=fun q=>by
  unfold l1B
  by_cases h1:k < n
  ·rw[if_pos (by omega),if_pos h1]
  ·rw[if_neg (by omega),if_neg h1]
 simp[l1A,this]
theorem qpq :∀ i,i < 6→l1N (i+1)=l1N i+(5 - i):=by decide
theorem qhk {k n:Int} (h:¬ k < n):l1A k n=#[.int .i64 1,.int .i64 0,.int .i64 0,.int .i64 0,.int .i64 0,.int .i64 0,.int .i64 0]:=by
 have:∀ q,l1B k n q=0:=fun q=>if_neg h
 simp[l1A,this]
theorem qls {k n:Int} (h:k < n):l1A k n=#[.int .i64 1,.int .i64 (l1M k 0),.int .i64 (l1M k 1),.int .i64 (l1M k 2),.int .i64 (l1M k 3),.int .i64 (l1M k 4),.int .i64 (l1M k 5)]:=by
 have:∀ q,l1B k n q=l1M k q:=fun q=>if_pos h
 simp[l1A,this]
theorem qqv {i j:Nat} (hi:i < j) (hj:j < 6) {k:Int} (hk:((6+l1N i+(j - i - 1):Nat):Int)=k):((l1A k k).setIfInBounds (1+i) (.int .i64 1)).setIfInBounds (1+j) (.int .i64 1)=l1A k (k+1):=by
 rw[qhk (by omega),qls (by omega)]
 subst hk
 rcases (show i=0∨i=1∨i=2∨i=3∨i=4 by omega) with rfl | rfl | rfl | rfl | rfl<;>rcases (show j=1∨j=2∨j=3∨j=4∨j=5 by omega) with rfl | rfl | rfl | rfl | rfl<;>first | omega | rfl
theorem qjz {k:Int} {i:Nat} (h:i < 6):(l1A k k)[1+i]? =some (.int .i64 0):=by
 rw[qhk (by omega)]
 rcases (show i=0∨i=1∨i=2∨i=3∨i=4∨i=5 by omega) with rfl | rfl | rfl | rfl | rfl | rfl<;>rfl
theorem qb9.calls (k:Int) (r1 r2 r3 r4 r5 r6 r7:Int) (w:World) (h:qb9.f k=some (r1,r2,r3,r4,r5,r6,r7)):
  Calls Try.prog 129 #[.int .i64 k] w fun e w'=>e=.returned (.agg #[.int .i64 r1,.int .i64 r2,.int .i64 r3,.int .i64 r4,.int .i64 r5,.int .i64 r6,.int .i64 r7])∧Below w.heap.size w w':=by
 have hu121:=Try.underlying121
 have hu119:=Try.underlying119
 have HB:=am (Below.refl w.heap.size w)
 unfold qb9.f at h
 by_cases hk:6≤k∧k < 21
 rotate_left
 ·rw[if_neg hk]at h;cases h
 rw[if_pos hk]at h
 simp only[Option.some.injEq,Prod.mk.injEq]at h
 obtain⟨rfl,rfl,rfl,rfl,rfl,rfl,rfl⟩:=h
 have c6:decide (k < 6)=false:=decide_eq_false (by omega)
 have c21:decide (k≥21)=false:=decide_eq_false (by omega)
 have HK:=am hk
 clear hk
 go_enter Try.func129,Try.ntmps129
 go_wp2_with fail
 have hz:=qq (heap_alloc_last w (.cells #[.int .i64 0,.int .i64 0,.int .i64 0,.int .i64 0,.int .i64 0,.int .i64 0,.int .i64 0] 121)) (.cells #[.int .i64 1,.int .i64 0,.int .i64 0,.int .i64 0,.int .i64 0,.int .i64 0,.int .i64 0] 121)
 have hm:=heap_alloc_last (w.alloc (.cells #[.int .i64 0,.int .i64 0,.int .i64 0,.int .i64 0,.int .i64 0,.int .i64 0,.int .i64 0] 121)) (.cells #[.int .i64 1,.int .i64 0,.int .i64 0,.int .i64 0,.int .i64 0,.int .i64 0,.int .i64 0] 121)
 have es:(w.alloc (.cells #[.int .i64 0,.int .i64 0,.int .i64 0,.int .i64 0,.int .i64 0,.int .i64 0,.int .i64 0] 121)).heap.size=w.heap.size+1:=by
  show (w.heap.push _).size=_
  exact Array.size_push _
 rw[es]at hm
 have hb:=(show Below w.heap.size w ((w.alloc (.cells #[.int .i64 0,.int .i64 0,.int .i64 0,.int .i64 0,.int .i64 0,.int .i64 0,.int .i64 0] 121)).alloc (.cells #[.int .i64 1,.int .i64 0,.int .i64 0,.int .i64 0,.int .i64 0,.int .i64 0,.int .i64 0] 121)) from bw HB)
 clear es HB
 generalize (w.alloc (.cells #[.int .i64 0,.int .i64 0,.int .i64 0,.int .i64 0,.int .i64 0,.int .i64 0,.int .i64 0] 121)).alloc (.cells #[.int .i64 1,.int .i64 0,.int .i64 0,.int .i64 0,.int .i64 0,.int .i64 0,.int .i64 0] 121)=w1 at hz hm hb ⊢
 rw[← qhk (k:=k) (n:=((6+l1N 0:Nat):Int)) (by have:=HK.out;show ¬ k < 6;omega)]at hm
 have HZ:=am hz
 have HM:=am hm
 have HB:=am hb
 clear hz hm hb
 go_loopw [5,6] (fun v5 v6 w'=>∃ d i:Nat,v5=.int .i64 ((6+l1N i:Nat):Int)∧v6=.int .i64 (i:Int)∧qf (i+d=6)∧qf (Below w.heap.size w w')∧qf (w'.heap[w.heap.size+1]? =some (.cells (l1A k ((6+l1N i:Nat):Int)) 121 (0,0)))∧qf (w'.heap[w.heap.size]? =some (.cells #[.int .i64 0,.int .i64 0,.int .i64 0,.int .i64 0,.int .i64 0,.int .i64 0,.int .i64 0] 121 (0,0)))) (fun _ v6 _=>6 - (intOf v6).toNat)
 case atStart=>exact⟨6,0,rfl,rfl,⟨by omega⟩,⟨HB.out⟩,⟨HM.out⟩,⟨HZ.out⟩⟩
 case round=>
  clear HB HM HZ
  obtain⟨d,i,rfl,rfl,HD,HB,HM,HZ⟩:=hrel
  cases d with
  | zero=>
   have hi:i=6:=by have:=HD.out;omega
   subst hi
   have hlt:decide (((6:Nat):Int) < 6)=false:=rfl
   have hm:=HM.out
   rw[qls (by have:=HK.out;show k < 21;omega)]at hm
   have HM2:=am hm
   clear hm HM
   have y0:wr.cell? ⟨w.heap.size+1,0,none⟩=some (.int .i64 1):=(qe HM2.out 0).trans rfl
   have y1:wr.cell? ⟨w.heap.size+1,1,none⟩=some (.int .i64 (l1M k 0)):=(qe HM2.out 1).trans rfl
   have y2:wr.cell? ⟨w.heap.size+1,2,none⟩=some (.int .i64 (l1M k 1)):=(qe HM2.out 2).trans rfl
   have y3:wr.cell? ⟨w.heap.size+1,3,none⟩=some (.int .i64 (l1M k 2)):=(qe HM2.out 3).trans rfl
   have y4:wr.cell? ⟨w.heap.size+1,4,none⟩=some (.int .i64 (l1M k 3)):=(qe HM2.out 4).trans rfl
   have y5:wr.cell? ⟨w.heap.size+1,5,none⟩=some (.int .i64 (l1M k 4)):=(qe HM2.out 5).trans rfl
   have y6:wr.cell? ⟨w.heap.size+1,6,none⟩=some (.int .i64 (l1M k 5)):=(qe HM2.out 6).trans rfl
   have z0:wr.cell? ⟨w.heap.size,0,none⟩=some (.int .i64 0):=(qe HZ.out 0).trans rfl
   have z1:wr.cell? ⟨w.heap.size,1,none⟩=some (.int .i64 0):=(qe HZ.out 1).trans rfl
   have z2:wr.cell? ⟨w.heap.size,2,none⟩=some (.int .i64 0):=(qe HZ.out 2).trans rfl
   have z3:wr.cell? ⟨w.heap.size,3,none⟩=some (.int .i64 0):=(qe HZ.out 3).trans rfl
   have z4:wr.cell? ⟨w.heap.size,4,none⟩=some (.int .i64 0):=(qe HZ.out 4).trans rfl
   have z5:wr.cell? ⟨w.heap.size,5,none⟩=some (.int .i64 0):=(qe HZ.out 5).trans rfl
   have z6:wr.cell? ⟨w.heap.size,6,none⟩=some (.int .i64 0):=(qe HZ.out 6).trans rfl
   have f0:=ql HZ.out 0;have f1:=ql HZ.out 1;have f2:=ql HZ.out 2;have f3:=ql HZ.out 3
   have f4:=ql HZ.out 4;have f5:=ql HZ.out 5;have f6:=ql HZ.out 6
   go_wp2_with fail
   have hblk:(((((((wr.setCell ⟨w.heap.size,0,none⟩ (.int .i64 1)).setCell ⟨w.heap.size,1,none⟩ (.int .i64 (l1M k 0))).setCell ⟨w.heap.size,2,none⟩ (.int .i64 (l1M k 1))).setCell ⟨w.heap.size,3,none⟩ (.int .i64 (l1M k 2))).setCell ⟨w.heap.size,4,none⟩ (.int .i64 (l1M k 3))).setCell ⟨w.heap.size,5,none⟩ (.int .i64 (l1M k 4))).setCell ⟨w.heap.size,6,none⟩ (.int .i64 (l1M k 5))).heap[w.heap.size]? =some (.cells #[.int .i64 1,.int .i64 (l1M k 0),.int .i64 (l1M k 1),.int .i64 (l1M k 2),.int .i64 (l1M k 3),.int .i64 (l1M k 4),.int .i64 (l1M k 5)] 121 (0,0)):=(Zw (Zw (Zw (Zw (Zw (Zw (Zw HZ.out 0 _) 1 _) 2 _) 3 _) 4 _) 5 _) 6 _)
   refine bodyPost_ret (results_cell_row (P:=Try.prog) rfl _ _ w.heap.size 121 #[.int .i64 1,.int .i64 (l1M k 0),.int .i64 (l1M k 1),.int .i64 (l1M k 2),.int .i64 (l1M k 3),.int .i64 (l1M k 4),.int .i64 (l1M k 5)] (0,0) _ rfl hblk hu121 rfl (by kernel_rfl)) rfl ?_
   exact⟨rfl,(Qi (Qi (Qi (Qi (Qi (Qi (Qi HB.out (Nat.le_refl _)) (Nat.le_refl _)) (Nat.le_refl _)) (Nat.le_refl _)) (Nat.le_refl _)) (Nat.le_refl _)) (Nat.le_refl _))⟩
  | succ d=>
   have hlt:decide ((i:Int) < 6)=true:=decide_eq_true (by have:=HD.out;omega)
   have hi6:i < 6:=by have:=HD.out;omega
   have hw0:wrap64 ((i:Int)+1)=((i+1:Nat):Int):=by unfold wrap64;omega
   have HI:=am hi6
   clear hi6;go_wp2
   rw[hw0]
   go_loopw [5,7] (fun v5 v7 w'=>∃ d2 j:Nat,v5=.int .i64 ((6+l1N i+(j - i - 1):Nat):Int)∧v7=.int .i64 (j:Int)∧qf (j+d2=6)∧qf (i < j)∧qf (Below w.heap.size w w')∧qf (w'.heap[w.heap.size+1]? =some (.cells (l1A k ((6+l1N i+(j - i - 1):Nat):Int)) 121 (0,0)))∧qf (w'.heap[w.heap.size]? =some (.cells #[.int .i64 0,.int .i64 0,.int .i64 0,.int .i64 0,.int .i64 0,.int .i64 0,.int .i64 0] 121 (0,0)))) (fun _ v7 _=>6 - (intOf v7).toNat)
   case atStart=>exact⟨d,i+1,by rw[show i+1 - i - 1=0 by omega];rfl,rfl,⟨by have:=HD.out;omega⟩,⟨by omega⟩,⟨bw HB⟩,⟨by rw[show i+1 - i - 1=0 by omega];exact pk_ HM⟩,⟨pk_ HZ⟩⟩
   case round=>
    clear HB HM HZ hw0
    obtain⟨d2,j,rfl,rfl,HD2,HIJ,HB,HM,HZ⟩:=hrel
    cases d2 with
    | zero=>
     have hj:j=6:=by have:=HD2.out;omega
     subst hj
     have hlt2:decide (((6:Nat):Int) < 6)=false:=rfl
     have hn:6+l1N i+(6 - i - 1)=6+l1N (i+1):=by rw[qpq i HI.out];omega
     have hw1:wrap64 ((i:Int)+1)=((i+1:Nat):Int):=by have:=HI.out;unfold wrap64;omega
     rw[hn]at HM ⊢
     clear hn;go_wp2
     go_roundw
     case measure=>rw[hw1];exact qhi HD.out
     case rel=>exact⟨d,i+1,rfl,by rw[hw1],⟨by have:=HD.out;omega⟩,⟨bw HB⟩,⟨pk_ HM⟩,⟨pk_ HZ⟩⟩
    | succ d2=>
     have hlt2:decide ((j:Int) < 6)=true:=decide_eq_true (by have:=HD2.out;omega)
     obtain⟨nn,hnn⟩:∃ nn:Int,((6+l1N i+(j - i - 1):Nat):Int)=nn:=⟨_,rfl⟩
     have HN:=am hnn
     rw[hnn]at HM ⊢
     clear hnn
     have hn1:wrap64 (nn+1)=((6+l1N i+(j+1 - i - 1):Nat):Int):=by
      have h1:=HN.out
      have h2:=HIJ.out
      have h3:=HD2.out
      have h4:l1N i≤15:=by
       have h5:∀ q,q < 6→l1N q≤15:=by decide
       exact h5 i HI.out
      unfold wrap64;omega
     have hj1:wrap64 ((j:Int)+1)=((j+1:Nat):Int):=by have:=HD2.out;unfold wrap64;omega
     have hn2:((6+l1N i+(j+1 - i - 1):Nat):Int)=nn+1:=by have h1:=HN.out;have h2:=HIJ.out;omega
     have HN1:=am hn1
     have HN2:=am hn2
     have HJ1:=am hj1
     clear hn1 hn2 hj1
     by_cases he:nn=k
     ·subst he
      have bz:(nn == nn)=true:=beq_self_eq_true nn
      have hz:=HM.out
      have yi:wr.cell? ⟨w.heap.size+1,1+i,none⟩=some (.int .i64 0):=(qe HM.out (1+i)).trans (qjz HI.out)
      have yj:wr.cell? ⟨w.heap.size+1,1+j,none⟩=some (.int .i64 0):=(qe HM.out (1+j)).trans (qjz (by have:=HD2.out;omega))
      have fi:=ql HM.out (1+i)
      have fj:=ql HM.out (1+j)
      have pi:(0≤(i:Int))=True:=eq_true (by omega)
      have pj:(0≤(j:Int))=True:=eq_true (by omega)
      have qi:((i:Int) < 6)=True:=eq_true (by have:=HI.out;omega)
      have qj:((j:Int) < 6)=True:=eq_true (by have:=HD2.out;omega)
      have nij:(j=i)=False:=eq_false (by have:=HIJ.out;omega)
      have nji:(i=j)=False:=eq_false (by have:=HIJ.out;omega)
      go_wp2_with fail
      go_roundw
      case measure=>rw[HJ1.out];exact qhi HD2.out
      case rel=>
       refine⟨d2,j+1,by rw[HN1.out],by rw[HJ1.out],⟨by have:=HD2.out;omega⟩,⟨by have:=HIJ.out;omega⟩,⟨Qi (Qi HB.out (by omega)) (by omega)⟩,⟨?_⟩,⟨Qk (Qk HZ.out (by show w.heap.size≠w.heap.size+1;omega) _) (by show w.heap.size≠w.heap.size+1;omega) _⟩⟩
       rw[HN2.out,← qqv HIJ.out (by have:=HD2.out;omega) HN.out]
       exact Zw (Zw HM.out _ _) _ _
     ·have bz:(nn == k)=false:=beq_eq_false_iff_ne.mpr he
      have HM2:=am HM.out
      rw[← qo9 he]at HM2
      clear HM he;go_wp2
      go_roundw
      case measure=>rw[HJ1.out];exact qhi HD2.out
      case rel=>exact⟨d2,j+1,by rw[HN1.out],by rw[HJ1.out],⟨by have:=HD2.out;omega⟩,⟨by have:=HIJ.out;omega⟩,⟨bw HB⟩,⟨by rw[HN2.out];exact pk_ HM2⟩,⟨pk_ HZ⟩⟩
def je.l0 :Nat→Int→List (List Int)→List Int→List Int→Int→Option (List Int)
 | 0,_,_,_,_,_=>none
 | k+1,x0,x1,x7,x8,x9=>if x9 < (x1.length:Int) then (if 0≤x9 then ((jf.f k x0 (ju x1 x9) x8).bind fun t308=>(if x7.length < 17592186044416 then (je.l0 k x0 x1 (x7++[t308]) x8 (wrap64 (x9+1))) else (none))) else (none)) else (some x7)
def je.f (k:Nat) (a0:Int) (l1:List (List Int)) (a2_0:Int) (a2_1:Int) (a2_2:Int):Option (List Int):=(qr.f k a0 a2_0 a2_1 a2_2).bind fun t304=>(je.l0 k a0 l1 (([]:List Int)) t304 0)
theorem je.mono_l :∀ k,(∀ y0 y1 y2 y3 y4,LeO (je.l0 k y0 y1 y2 y3 y4) (je.l0 (k+1) y0 y1 y2 y3 y4))
 | 0=>fun _ _ _ _ _ r h=>by simp[je.l0]at h
 | k+1=>by
  have ih0:=je.mono_l k
  ·intro y0 y1 y2 y3 y4
   unfold je.l0
   repeat' first | (with_reducible first | apply ih0 | apply jf.mono | apply qr.mono | exact LeO.refl _ | exact LeO.none _ | refine LeO.ite ?_ ?_ | refine LeO.bind ?_ (fun _=>?_)) | (first | apply ih0 | apply jf.mono | apply qr.mono | exact LeO.none _ | refine LeO.ite ?_ ?_ | refine LeO.bind ?_ (fun _=>?_))
theorem je.mono :∀ a0 a1 a2 a3 a4 k,LeO (je.f k a0 a1 a2 a3 a4) (je.f (k+1) a0 a1 a2 a3 a4):=by
 intro a0 a1 a2 a3 a4 k
 have ih0:=je.mono_l k
 unfold je.f
 repeat' first | (with_reducible first | apply ih0 | apply jf.mono | apply qr.mono | exact LeO.refl _ | exact LeO.none _ | refine LeO.ite ?_ ?_ | refine LeO.bind ?_ (fun _=>?_)) | (first | apply ih0 | apply jf.mono | apply qr.mono | exact LeO.none _ | refine LeO.ite ?_ ?_ | refine LeO.bind ?_ (fun _=>?_))
theorem je.calls (k:Nat) (a0:Int) (A1:Option Addr) (c1:Nat) (l1:List (List Int)) (a2_0:Int) (a2_1:Int) (a2_2:Int) (r:List Int) (w:World) (hr1:Kd.C (Kd.slice 3 (Kd.int .i64)) w A1 l1.length l1) (hc1:l1.length≤c1) (h:je.f k a0 l1 a2_0 a2_1 a2_2=some r):
  Calls Try.prog 77 #[.int .i64 a0,.slice A1 l1.length c1,.agg #[.int .i64 a2_0,.int .i64 a2_1,.int .i64 a2_2]] w fun e w'=>∃ v0_:Value,e=.returned (v0_)∧Kd.R (Kd.int .i64) 3 w' w.heap.size (fun _=>True) v0_ r∧Below w.heap.size w w':=by
 have hu43:=Try.underlying43
 have HR1:=am hr1
 have HC1:=am hc1
 clear hr1 hc1
 have HB:=am (Below.refl w.heap.size w)
 have H:((qr.f k a0 a2_0 a2_1 a2_2).bind fun t304=>(je.l0 k a0 l1 (([]:List Int)) t304 0))=some r:=h
 clear h
 generalize hy301:(([]:List Int))=y301 at H
 have Ny301:=am hy301.symm;clear hy301;replace H:=bs H;obtain⟨t304,A4,H⟩:=H;have H':=am H;clear H
 go_enter Try.func77,Try.ntmps77
 go_wp2_with (first | ((with_reducible refine zb (N:=5) rfl ?_);refine xe_ 5 43 #[.int .i64 a2_0,.int .i64 a2_1,.int .i64 a2_2] ?_;intro gb300 hg w5 hbox hb;have BK300:=am (hbox);have GW300:=am ((by rw[hg];exact(bz HB):w.heap.size≤gb300));have GE300:=am ((by rw[hg];exact(bz HB):w.heap.size≤gb300));replace HB:=bq HB hb;clear hb hbox hg) | ((with_reducible refine zb (N:=10) rfl ?_);refine li 3 ([]:List Int) ?_;intro v302 w6 ho7 hb;(first | rw[← Ny301.out]at ho7 | (simp only[Int.reduceToNat]at ho7;rw[← Ny301.out]at ho7));have HO303:=am (Kd.R_lower ho7 (zo (bx_ HB)));replace BK300:=am (qv (g:=gb300) (o:=.cells #[.int .i64 a2_0,.int .i64 a2_1,.int .i64 a2_2] 43 (0,0)) (pk_ BK300) hb);replace HB:=am (jg (bx_ HB) hb);clear hb ho7;have hcz8_0:w6.cell? ⟨gb300,0,none⟩=some (.int .i64 a2_0):=(qe BK300.out 0).trans rfl;have hcz8_1:w6.cell? ⟨gb300,1,none⟩=some (.int .i64 a2_1):=(qe BK300.out 1).trans rfl;have hcz8_2:w6.cell? ⟨gb300,2,none⟩=some (.int .i64 a2_2):=(qe BK300.out 2).trans rfl;have hfz8_0:=ql BK300.out 0;have hfz8_1:=ql BK300.out 1;have hfz8_2:=ql BK300.out 2) | ((with_reducible refine qt (f:=123) rfl ?_);refine gl 13 Try.func123 #[.int .i64 a0,.agg #[.int .i64 a2_0,.int .i64 a2_1,.int .i64 a2_2]] ?_;(with_reducible refine(qr.calls k a0 a2_0 a2_1 a2_2 t304 _ A4.out).mono ?_);rintro e w9 ⟨v305,rfl,ho0,hb⟩;refine⟨_,rfl,?_⟩;have HO306:=am (Kd.R_lower (Kd.R_new' ho0 (Kd.R_lt (wR HO303))) (zo (bx_ HB)));replace HO303:=eR HO303 (Kd.R_base ho0) hb;replace BK300:=am (qv (g:=gb300) (o:=.cells #[.int .i64 a2_0,.int .i64 a2_1,.int .i64 a2_2] 43 (0,0)) (pk_ BK300) hb);replace HB:=am (jg (bx_ HB) hb);(try clear hb);(try clear ho0)))
 go_loopg [7,9] k (fun kq v7 v9 w'=>∃ (x7_1:List Int) (x9_1:Int),v9=.int .i64 x9_1∧qf (je.l0 kq a0 l1 x7_1 t304 x9_1=some r)∧qf (kq≤k)∧qf (Kd.R (Kd.int .i64) 3 w' w.heap.size (fun k_=>some k_≠(v305:Value).ownBlock) v7 x7_1)∧qf (Kd.R (Kd.int .i64) 3 w' w.heap.size (fun k_=>some k_≠(v7:Value).ownBlock) v305 t304)∧qf (w'.heap[gb300]? =some (.cells #[.int .i64 a2_0,.int .i64 a2_1,.int .i64 a2_2] 43 (0,0)))∧qf (Below w.heap.size w w'))
 case atStart=>exact⟨(y301),(0),fr,H',⟨Nat.le_refl _⟩,⟨Kd.R_below (Kd.R_mono HO303.out (fun _ hk=>hk.2)) gs⟩,⟨Kd.R_below (Kd.R_mono HO306.out (fun _ hk=>hk.2)) gs⟩,⟨by (with_reducible repeat (first | refine qx ?_ _ | refine qw ?_ | refine qq ?_ _));exact BK300.out⟩,⟨bx_ HB⟩⟩
 case round=>
  clear H';try clear c1;try clear p2;try clear c7;try clear hcz8_0;try clear hcz8_1;try clear hcz8_2;try clear hfz8_0;try clear hfz8_1;try clear hfz8_2
  obtain⟨x7_1,x9_1,rfl,HA,HK1,HO_7,HO_8,BK300,HB⟩:=hrel
  cases gk with
  | zero=>exact absurd HA.out (by simp[je.l0])
  | succ k1=>
   have H:=HA.out;clear HA
   simp only[je.l0]at H
   by_cases c10:x9_1 < (l1.length:Int)
   ·rw[if_pos c10]at H
    have c10b0:=decide_eq_true c10;clear c10;replace H:=ifn H;obtain⟨c11,H⟩:=H;have c11b0:=decide_eq_true c11;clear c11;replace H:=bs H;obtain⟨t308,A12,H⟩:=H;replace H:=ifn H;obtain⟨c13,H⟩:=H;have LMc13:=am c13
    clear c13
    generalize hy309:(x7_1++[t308]:List Int)=y309 at H
    have Ny309:=am hy309.symm;clear hy309;have H':=am H;clear H
    have p307:0≤(x9_1:Int):=od
    have q307:x9_1 < (l1.length:Int):=od
    obtain⟨ad307,A307_0,c307_0,e307,hx307_0,hl307_0,hi307_0⟩:=qak HR1.out x9_1 p307 q307
    cases e307
    replace hx307_0:=wcl HB hx307_0
    have HR307_0:=am hi307_0
    have HC307_0:=am hl307_0
    clear hi307_0 hl307_0;replace p307:=eq_true p307;replace q307:=eq_true q307
    obtain⟨Ao14,co14,eo14⟩:=Kd.R_slice HO_8.out
    subst eo14
    go_wp2_with (first | ((with_reducible refine qt (f:=124) rfl ?_);refine gl 27 Try.func124 #[.int .i64 a0,.slice A307_0 (ju l1 x9_1).length c307_0,.slice Ao14 t304.length co14] ?_;(with_reducible refine(jf.calls k1 a0 _ _ (ju l1 x9_1) _ _ t304 t308 _ ?_ ?_ ?_ ?_ A12.out).mono ?_);exact Kd.C_below (Kd.C_below HR307_0.out HB.out) gs;exact HC307_0.out;exact Kd.C_below (Kd.R_reads' HO_8.out).2.2 gs;exact(Kd.R_reads' HO_8.out).2.1;rintro e w' ⟨rfl,⟨nd,rfl⟩⟩;refine⟨_,rfl,?_⟩) | ((with_reducible refine jr (b:=.append) (xs:=#[.tmp 20,.tmp 28]) rfl ?_);at_builtin;refine Kd.R_append (Kd.int .i64) (w0:=w) w.heap.size rfl (.tmp 20) (.tmp 28) 23 3 (.int .i64 0) 8 rfl Try.underlying23 Jm rfl (by decide) (by omega) u7 x7_1 t308 [.int .i64 t308] (fun k_=>some k_≠(.slice Ao14 t304.length co14:Value).ownBlock) (fun _=>False) rfl rfl ?aP (fun _ hk=>hk.elim) ?aF ?aO ?aB ?aS ?aL ?_;(case aP=>exact rfl);(case aB=>exact(bx_ HB));(case aF=>exact(fun k_ hk=>Kd.fresh' (Kd.R_lt (wR HO_8)) k_ hk));(case aO=>exact(wR HO_7));(case aS=>exact(zo (bx_ HB)));(case aL=>have:=LMc13.out;omega);intro v310 w15 ho hb hg hat;rw[← Ny309.out]at ho;replace HO_8:=am (Kd.R_after (ok:=(fun _=>True)) (oR_ HO_8 (fun _ hk=>⟨trivial,hk⟩)) hg hat);replace BK300:=am (Q2 (g:=gb300) (o:=.cells #[.int .i64 a2_0,.int .i64 a2_1,.int .i64 a2_2] 43 (0,0)) (pk_ BK300) hg (Kd.R_ne HO_7.out BK300.out (by decide)));replace HB:=am (hb);have HO311:=am (ho);clear HO_7;clear ho hb hg hat))
    go_roundg k1
    case measure=>have:=HK1.out;omega
    case rel=>exact⟨(y309),(wrap64 (x9_1+1)),fr,H',⟨by have:=HK1.out;omega⟩,⟨wR HO311⟩,⟨Kd.R_below (Kd.R_mono HO_8.out (fun _ hk=>hk.2)) gs⟩,⟨by (with_reducible repeat (first | refine qx ?_ _ | refine qw ?_ | refine qq ?_ _));exact BK300.out⟩,⟨bx_ HB⟩⟩
   ·rw[if_neg c10]at H
    have c10b0:=decide_eq_false c10;clear c10;obtain rfl:=Option.some.inj H;go_wp2;go_ret
    exact⟨_,fq,Kd.R_below (Kd.R_mono HO_7.out (fun _ hk=>trivial)) gs,bx_ HB⟩
end Go.Proofs.Ytmgbpmihbljngaa.PA
