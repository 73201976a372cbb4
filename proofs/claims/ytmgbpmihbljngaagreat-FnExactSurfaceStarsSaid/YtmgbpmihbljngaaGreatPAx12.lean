-- by xprint.py and mergepa.py
import Derived.Test.YtmgbpmihbljngaaGreatPAx8
namespace Go.Proofs.YtmgbpmihbljngaaGreat.PA
open Value (int)
open IntKind (i64)
set_option maxHeartbeats 8000000
set_option maxRecDepth 100000
open RowKit YtmgbpmihbljngaaGreatW.PrintWords YtmgbpmihbljngaaGreatW.PrintLast YtmgbpmihbljngaaGreatW.PrintMore
attribute [local go_sem] Q3 Q0 Zk Zj Qo Qp Q5 Q4 Tryz.underlying49 Tryz.underlying51 Tryz.underlying66 Tryz.underlying68
set_option linter.unusedVariables false
set_option linter.unusedSimpArgs false
def slE (e0 e1 e2:Int) (j:Nat):Int:=if j=0 then e0 else if j=1 then e1 else e2
def slC (k:Nat) (p x0 x1 x2 e0 e1 e2:Int):Nat->Nat->Int->Option Int
 | 0,_,n=>some n
 | d+1,c,n=>(jf.f k p (slE x0 x1 x2 c) (slE e0 e1 e2 c)).bind λq=>slC k p x0 x1 x2 e0 e1 e2 d (c+1) (Int.tmod (wrap64 (n*q)) p)
def slT (k:Nat) (p ai vj ej x0 x1 x2 e0 e1 e2:Int):Option Int:=slC k p x0 x1 x2 e0 e1 e2 3 0 (Int.tmod (wrap64 (Int.tmod (wrap64 (ej*ai)) p*vj)) p)
def slL (e:Int) (i j:Nat):Int:=if i=j then wrap64 (e - 1) else e
def slJ (k:Nat) (p ai x0 x1 x2 v0 v1 v2 e0 e1 e2:Int):Nat->Nat->Int->Option Int
 | 0,_,n=>some n
 | d+1,j,n=>if slE e0 e1 e2 j=0 then slJ k p ai x0 x1 x2 v0 v1 v2 e0 e1 e2 d (j+1) n else (slT k p ai (slE v0 v1 v2 j) (slE e0 e1 e2 j) x0 x1 x2 (slL e0 0 j) (slL e1 1 j) (slL e2 2 j)).bind λt=>slJ k p ai x0 x1 x2 v0 v1 v2 e0 e1 e2 d (j+1) (Int.tmod (wrap64 (n+t)) p)
def slI (k:Nat) (p:Int) (a:List Int) (x0 x1 x2 v0 v1 v2:Int) (L:List S49):Nat->Nat->Int->Option Int
 | 0,_,n=>some n
 | d+1,i,n=>if i < a.length then (slJ k p (rd a (i:Int)) x0 x1 x2 v0 v1 v2 (zp L (i:Int)).f0 (zp L (i:Int)).f1 (zp L (i:Int)).f2 3 0 n).bind λm=>slI k p a x0 x1 x2 v0 v1 v2 L d (i+1) m else none
def j8.f (k:Nat) (p:Int) (a:List Int) (x0 x1 x2 v0 v1 v2:Int):Option Int:=Jr.f.bind λL=>if L.length=10/\p≠0 then slI k p a x0 x1 x2 v0 v1 v2 L 10 0 0 else none
theorem qnm (k:Nat) (p x0 x1 x2 e0 e1 e2:Int):∀ d c n,LeO (slC k p x0 x1 x2 e0 e1 e2 d c n) (slC (k+1) p x0 x1 x2 e0 e1 e2 d c n)
 | 0,_,_=>LeO.refl _
 | d+1,c,n=>by rw[slC,slC];exact LeO.bind (jf.mono _ _ _ _) λ_=>qnm k p x0 x1 x2 e0 e1 e2 d _ _
theorem qr9 (k:Nat) (p ai vj ej x0 x1 x2 e0 e1 e2:Int):LeO (slT k p ai vj ej x0 x1 x2 e0 e1 e2) (slT (k+1) p ai vj ej x0 x1 x2 e0 e1 e2):=qnm _ _ _ _ _ _ _ _ _ _ _
theorem qim (k:Nat) (p ai x0 x1 x2 v0 v1 v2 e0 e1 e2:Int):∀ d j n,LeO (slJ k p ai x0 x1 x2 v0 v1 v2 e0 e1 e2 d j n) (slJ (k+1) p ai x0 x1 x2 v0 v1 v2 e0 e1 e2 d j n)
 | 0,_,_=>LeO.refl _
 | d+1,j,n=>by rw[slJ,slJ];exact LeO.ite (qim k p ai x0 x1 x2 v0 v1 v2 e0 e1 e2 d _ _) (LeO.bind (qr9 _ _ _ _ _ _ _ _ _ _ _) λ_=>qim k p ai x0 x1 x2 v0 v1 v2 e0 e1 e2 d _ _)
theorem qns (k:Nat) (p:Int) (a:List Int) (x0 x1 x2 v0 v1 v2:Int) (L:List S49):∀ d i n,LeO (slI k p a x0 x1 x2 v0 v1 v2 L d i n) (slI (k+1) p a x0 x1 x2 v0 v1 v2 L d i n)
 | 0,_,_=>LeO.refl _
 | d+1,i,n=>by rw[slI,slI];exact LeO.ite (LeO.bind (qim _ _ _ _ _ _ _ _ _ _ _ _ _ _ _) λ_=>qns k p a x0 x1 x2 v0 v1 v2 L d _ _) (LeO.refl _)
theorem j8.mono (a0 a1 a2 a3 a4 a5 a6 a7 k):LeO (j8.f k a0 a1 a2 a3 a4 a5 a6 a7) (j8.f (k+1) a0 a1 a2 a3 a4 a5 a6 a7):=by
 unfold j8.f;exact LeO.bind (LeO.refl _) λ_=>LeO.ite (qns _ _ _ _ _ _ _ _ _ _ _ _ _) (LeO.refl _)
def j8.T11 :Bool×List (List Nat×List Nat):=(true,[([],[]),([0],[0]),([1],[1]),([],[]),([],[]),([3,4],[3,4]),([5],[5]),([2,6],[2,6]),([],[]),([7,8],[7,8]),([],[]),([10],[10]),([11],[11]),([9,12],[9,12]),([],[]),([13,14],[13,14]),([15,0,1,2,3,4,5,6,7,8,9,10,11,12,13,14,15],[15])])
def j8.B11 :List Nat:=[0,1,3,0,0,24,56,127,0,511,0,1024,3072,8191,0,32767,65535]
def j8.T16 :Bool×List (List Nat×List Nat):=(true,[([],[]),([],[]),([],[]),([],[]),([3,2],[2,3]),([4],[4]),([],[]),([6],[6]),([7],[7]),([1,5,8],[1,5,8]),([0,9],[0,9]),([],[]),([10,11],[10,11]),([12,9,0,1,2,3,4,5,6,7,8,9,10,11,12],[0,12])])
def j8.B16 :List Nat:=[0,0,0,0,12,28,0,64,192,510,1023,0,4095,8191]
theorem qd4 {w:World} {g:Nat} {t:TypeId} {e0 e1 e2:Int} (h:w.heap[g]? =some (.cells #[int i64 e0,int i64 e1,int i64 e2] t (0,0))) {j:Nat} (hj:j < 3):w.cell? ⟨g,j,none⟩=some (int i64 (slE e0 e1 e2 j)):=by
 rcases (show j=0\/j=1\/j=2 by omega) with rfl|rfl|rfl<;>exact qe h _
theorem qrb {w:World} {g:Nat} {t:TypeId} {e0 e1 e2:Int} (h:w.heap[g]? =some (.cells #[int i64 e0,int i64 e1,int i64 e2] t (0,0))) {j:Nat} (hj:j < 3):(w.setCell ⟨g,j,none⟩ (int i64 (wrap64 (slE e0 e1 e2 j - 1)))).heap[g]? =some (.cells #[int i64 (slL e0 0 j),int i64 (slL e1 1 j),int i64 (slL e2 2 j)] t (0,0)):=by
 rcases (show j=0\/j=1\/j=2 by omega) with rfl|rfl|rfl<;>exact zc h _ _
theorem Dl {w:World} {b:Nat} {o:Obj} (h:w.heap[b]? =some o):b < w.heap.size:=(Array.getElem?_eq_some_iff.1 h).1
theorem qhc {i d n:Nat} (h:i+(d+1)=n):n - (((i+1:Nat):Int)).toNat < n - ((i:Int)).toNat:=by omega
theorem j8.calls (k:Nat) (a0:Int) (A1:Option Addr) (c1:Nat) (l1:List Int) (x0 x1 x2 v0 v1 v2:Int) (r:Int) (w:World) (hr1:Kd.C (Kd.int i64) w A1 l1.length l1) (hc1:l1.length<=c1) (h:j8.f k a0 l1 x0 x1 x2 v0 v1 v2=some r):
  Calls Tryz.prog 51 #[int i64 a0,.slice A1 l1.length c1,.agg #[int i64 x0,int i64 x1,int i64 x2],.agg #[int i64 v0,int i64 v1,int i64 v2]] w λe w'=>e=.returned (int i64 r)/\Below w.heap.size w w':=by
 have HR1:=am hr1;have HB:=Em w;unfold j8.f at h;obtain⟨L,hL,h2⟩:=Option.bind_eq_some_iff.1 h;clear h
 by_cases hl:L.length=10/\a0≠0
 rotate_left
 ·rw[if_neg hl]at h2;cases h2
 rw[if_pos hl]at h2;obtain⟨hl10,hp⟩:=hl;have HL:=am hL;have HL10:=am hl10;have p0:(a0=0)=False:=eq_false hp;have H:=am h2;clear hr1 hc1 h2 hL hl10 hp;go_enter Tryz.func51,Tryz.ntmps51;go_wp2_with fail;refine(Jr.calls L _ HL.out).mono ?_;rintro e w1 ⟨u,rfl,hv,hb⟩;obtain⟨AL,cL,e1⟩:=Kd.Ah hv;subst e1;have HB1:=bq HB hb;have HX:=am ((hb.block w.heap.size (by simp<;>omega)).trans (qx (heap_alloc_last w (.cells #[int i64 x0,int i64 x1,int i64 x2] 51)) (.cells #[int i64 v0,int i64 v1,int i64 v2] 49)));have HV:=am ((hb.block (w.alloc (.cells #[int i64 x0,int i64 x1,int i64 x2] 51)).heap.size (by simp<;>omega)).trans (heap_alloc_last (w.alloc (.cells #[int i64 x0,int i64 x1,int i64 x2] 51)) (.cells #[int i64 v0,int i64 v1,int i64 v2] 49)));have es:(w.alloc (.cells #[int i64 x0,int i64 x1,int i64 x2] 51)).heap.size=w.heap.size+1:=by
  show (w.heap.push _).size=_
  exact Array.size_push _
 rw[es]at HV;clear es;have HC:=am (Kd.Ac hv).2.2;clear hv hb HB;have HBR:=am (Below.refl w1.heap.size w1)
 go_wp2
 go_loopw [9,11] (λv9 v11 w'=>∃ (d i:Nat) (n:Int),v9=int i64 n/\v11=int i64 (i:Int)/\qf (i+d=10)/\qf (slI k a0 l1 x0 x1 x2 v0 v1 v2 L d i n=some r)/\qf (Below w1.heap.size w1 w')) (λ_ v11 _=>10 - (intOf v11).toNat)
 case atStart=>exact⟨10,0,0,rfl,rfl,⟨by omega⟩,H,⟨bw HBR⟩⟩
 case round=>
  clear H HBR;obtain⟨d,i,n,rfl,rfl,HD,H,HBR⟩:=hrel
  cases d with
  | zero=>
   have hlt:decide ((i:Int) < 10)=false:=decide_eq_false (by have:=HD.out;omega);have hr:=H.out;rw[slI]at hr;obtain rfl:=Option.some.inj hr;clear hr;go_wp2;go_ret
   exact⟨fq,ze HB1.out (bw HBR)⟩
  | succ d=>
   have hlt:decide ((i:Int) < 10)=true:=decide_eq_true (by have:=HD.out;omega);have h2:=H.out;rw[slI]at h2
   by_cases hi:i < l1.length
   rotate_left
   ·rw[if_neg hi]at h2;cases h2
   rw[if_pos hi]at h2;obtain⟨t,ht,hn⟩:=Option.bind_eq_some_iff.1 h2;clear h2;obtain⟨ad,e1,y0,y1,y2⟩:=qlo HC.out (i:Int) (by omega) (by have:=HL10.out;have:=HD.out;omega);obtain⟨ad2,e2,z0⟩:=Kd.Aj HR1.out (i:Int) (by omega) (by omega);subst e1;subst e2;rw[Int.toNat_natCast]at y0 y1 y2 z0;have z1:=am (wcl HB1 z0);have HI:=am hi;have HT:=am ht;have HN:=am hn;clear H ht hn hi z0;obtain⟨Y,hY⟩:∃ Y,zp L (i:Int)=Y:=⟨_,rfl⟩
   rw[hY]at y0 y1 y2;rw[hY]at HT;have Y0:=am y0;have Y1:=am y1;have Y2:=am y2;clear y0 y1 y2 hY;go_wp2
   go_loopw [9,12] (λv9 v12 w'=>∃ (d2 j:Nat) (m:Int),v9=int i64 m/\v12=int i64 (j:Int)/\qf (j+d2=3)/\qf (slJ k a0 (rd l1 (i:Int)) x0 x1 x2 v0 v1 v2 Y.f0 Y.f1 Y.f2 d2 j m=some t)/\qf (Below w1.heap.size w1 w')) (λ_ v12 _=>3 - (intOf v12).toNat)
   case atStart=>exact⟨3,0,n,rfl,rfl,⟨by omega⟩,HT,⟨bw HBR⟩⟩
   case round=>
    clear HT HBR;obtain⟨d2,j,m,rfl,rfl,HD2,HJ,HBR⟩:=hrel
    cases d2 with
    | zero=>
     have hlt2:decide ((j:Int) < 3)=false:=decide_eq_false (by have:=HD2.out;omega);have hr:=HJ.out;rw[slJ]at hr;obtain rfl:=Option.some.inj hr;clear hr;have hw1:wrap64 ((i:Int)+1)=((i+1:Nat):Int):=by have:=HD.out;unfold wrap64;omega
     go_wp2
     go_roundw
     case measure=>rw[hw1];exact qhc HD.out
     case rel=>exact⟨d,i+1,m,rfl,by rw[hw1],⟨by have:=HD.out;omega⟩,HN,⟨bw HBR⟩⟩
    | succ d2=>
     have hlt2:decide ((j:Int) < 3)=true:=decide_eq_true (by have:=HD2.out;omega);have y0:=wcl HBR Y0.out;have y1:=wcl HBR Y1.out;have y2:=wcl HBR Y2.out;have p1:(0<=(i:Int))=True:=eq_true (by omega);have q1:((i:Int) < L.length)=True:=eq_true (by have:=HL10.out;have:=HD.out;omega)
     go_upto_region 10 with fail
     clear y0 y1 y2 p1 q1;have HE:=am (heap_alloc_last wr (.cells #[int i64 Y.f0,int i64 Y.f1,int i64 Y.f2] 49));have HB2:=am (show Below w1.heap.size w1 (wr.alloc (.cells #[int i64 Y.f0,int i64 Y.f1,int i64 Y.f2] 49)) from bw HBR);have HG:=am (show w1.heap.size<=wr.heap.size from HBR.out.size);clear HBR;generalize wr.alloc (.cells #[int i64 Y.f0,int i64 Y.f1,int i64 Y.f2] 49)=w2 at HE HB2 ⊢;generalize wr.heap.size=gE at HE HG ⊢;have hj3:j < 3:=by have:=HD2.out;omega
     have p2:(0<=(j:Int))=True:=eq_true (by omega);have q2:((j:Int) < 3)=True:=eq_true (by omega);have yj:=qd4 HE.out hj3;have h3:=HJ.out;rw[slJ]at h3;have HJ3:=am hj3;clear hj3
     by_cases hz:slE Y.f0 Y.f1 Y.f2 j=0
     ·rw[if_pos hz]at h3
      have HJ2:=am h3;have bz:(slE Y.f0 Y.f1 Y.f2 j == 0)=true:=beq_iff_eq.mpr hz;clear h3 hz;have hw1:wrap64 ((j:Int)+1)=((j+1:Nat):Int):=by have:=HJ3.out;unfold wrap64;omega
      go_wp2_with fail
      go_roundw
      case measure=>rw[hw1];exact qhc HD2.out
      case rel=>exact⟨d2,j+1,m,rfl,by rw[hw1],⟨by have:=HD2.out;omega⟩,HJ2,⟨bw HB2⟩⟩
     ·rw[if_neg hz]at h3
      obtain⟨q,hq,hn⟩:=Option.bind_eq_some_iff.1 h3;have bz:(slE Y.f0 Y.f1 Y.f2 j == 0)=false:=beq_eq_false_iff_ne.mpr hz;have HQ:=am hq;have HJN:=am hn;clear h3 hz hq hn
      go_upto_region 11 with fail
      have yx:=qd4 ((HB2.out.block _ (Dl HV.out)).trans HV.out) HJ3.out;have zz:=wcl HB2 z1.out;have p1:(0<=(i:Int))=True:=eq_true (by omega);have q1:(i < l1.length)=True:=eq_true HI.out;have hS:(λw':World=>w'.cell? ⟨gE,j,none⟩=some (int i64 (slE Y.f0 Y.f1 Y.f2 j))/\w'.cell? ⟨w.heap.size+1,j,none⟩=some (int i64 (slE v0 v1 v2 j))/\w'.cell? (ad2.add i)=some (int i64 (rd l1 (i:Int)))) w2.drew:=⟨yj,yx,zz⟩
      refine st (T:=j8.T11) (B:=j8.B11) 17 (λw':World=>w'.cell? ⟨gE,j,none⟩=some (int i64 (slE Y.f0 Y.f1 Y.f2 j))/\w'.cell? ⟨w.heap.size+1,j,none⟩=some (int i64 (slE v0 v1 v2 j))/\w'.cell? (ad2.add i)=some (int i64 (rd l1 (i:Int)))) [] (by kernel_rfl) (by kernel_rfl) hS λhHeld HT_ HW_=>?_;clear hS yj yx zz;refine Et 0 33 1 34 HT_ ?_;refine tk 2 35 HT_ HW_ hHeld ?_;refine Et 3 36 4 37 HT_ ?_;refine pz 5 38 HT_ ?_;refine tk 6 39 HT_ HW_ hHeld ?_;refine Et 7 40 8 41 HT_ ?_;refine Et 9 42 10 43 HT_ ?_;refine pz 11 44 HT_ ?_;refine tk 12 45 HT_ HW_ hHeld ?_;refine Et 13 46 14 47 HT_ ?_;refine Et 15 48 16 14 HT_ ?_;refine Zh (Qe HT_.out (by kernel_rfl)) ?_;clear HT_ HW_ hHeld p1 q1 bz;have yj:=qd4 (qy HE.out) HJ3.out;have fz:=ql (qy HE.out) j
      go_upto_region 13 with fail
      have HE3:=am (qrb HE.out HJ3.out);have HB3:=am (Za HB2.out HG.out (j:=j) (v:=int i64 (wrap64 (slE Y.f0 Y.f1 Y.f2 j - 1))));clear yj fz HE HB2 p2 q2;generalize w2.setCell ⟨gE,j,none⟩ (int i64 (wrap64 (slE Y.f0 Y.f1 Y.f2 j - 1)))=w3 at HE3 HB3 ⊢;unfold slT at HQ;obtain⟨K0,hK0⟩:∃ K0,Int.tmod (wrap64 (Int.tmod (wrap64 (slE Y.f0 Y.f1 Y.f2 j*rd l1 (i:Int))) a0*slE v0 v1 v2 j)) a0=K0:=⟨_,rfl⟩
      rw[hK0]at HQ ⊢;clear hK0;go_wp2
      go_loopw [14,15] (λv14 v15 w'=>∃ (d3 c:Nat) (kk:Int),v14=int i64 kk/\v15=int i64 (c:Int)/\qf (c+d3=3)/\qf (slC k a0 x0 x1 x2 (slL Y.f0 0 j) (slL Y.f1 1 j) (slL Y.f2 2 j) d3 c kk=some q)/\qf (Below w1.heap.size w1 w')/\qf (w'.heap[gE]? =some (.cells #[int i64 (slL Y.f0 0 j),int i64 (slL Y.f1 1 j),int i64 (slL Y.f2 2 j)] 49 (0,0)))) (λ_ v15 _=>3 - (intOf v15).toNat)
      case atStart=>exact⟨3,0,K0,rfl,rfl,⟨by omega⟩,HQ,⟨bw HB3⟩,⟨pk_ HE3⟩⟩
      case round=>
       clear HQ HB3 HE3;obtain⟨d3,c,kk,rfl,rfl,HD3,HQ,HB3,HE3⟩:=hrel
       cases d3 with
       | zero=>
        have hlt3:decide ((c:Int) < 3)=false:=decide_eq_false (by have:=HD3.out;omega);have hr:=HQ.out;rw[slC]at hr;obtain rfl:=Option.some.inj hr;clear hr;have hw1:wrap64 ((j:Int)+1)=((j+1:Nat):Int):=by have:=HJ3.out;unfold wrap64;omega
        go_wp2
        go_roundw
        case measure=>rw[hw1];exact qhc HD2.out
        case rel=>exact⟨d2,j+1,_,rfl,by rw[hw1],⟨by have:=HD2.out;omega⟩,HJN,⟨bw HB3⟩⟩
       | succ d3=>
        have hlt3:decide ((c:Int) < 3)=true:=decide_eq_true (by have:=HD3.out;omega);have hc3:c < 3:=by have:=HD3.out;omega
        have h3:=HQ.out;rw[slC]at h3;obtain⟨u,hu,hn⟩:=Option.bind_eq_some_iff.1 h3;have HU:=am hu;have HN3:=am hn;have p2:(0<=(c:Int))=True:=eq_true (by omega);have q2:((c:Int) < 3)=True:=eq_true (by omega);clear h3 hu hn HQ
        go_upto_region 16 with fail
        have xx:=qd4 ((HB3.out.block _ (Dl HX.out)).trans HX.out) hc3;have yy:=qd4 HE3.out hc3;have HC3:=am hc3;clear hc3;generalize slE x0 x1 x2 c=xc at*;generalize slE (slL Y.f0 0 j) (slL Y.f1 1 j) (slL Y.f2 2 j) c=ec at*;have hS:(λw':World=>w'.cell? ⟨w.heap.size,c,none⟩=some (int i64 xc)/\w'.cell? ⟨gE,c,none⟩=some (int i64 ec)) wr.drew:=⟨xx,yy⟩
        refine st (T:=j8.T16) (B:=j8.B16) 14 (λw':World=>w'.cell? ⟨w.heap.size,c,none⟩=some (int i64 xc)/\w'.cell? ⟨gE,c,none⟩=some (int i64 ec)) [] (by kernel_rfl) (by kernel_rfl) hS λhHeld HT_ HW_=>?_;clear hS xx yy;refine Et 0 59 1 60 HT_ ?_;refine Et 2 61 3 62 HT_ ?_;refine pz 4 63 HT_ ?_;refine tk 5 64 HT_ HW_ hHeld ?_;refine Et 6 65 7 66 HT_ ?_;refine tk 8 67 HT_ HW_ hHeld ?_;refine pz 11 70 HT_ ?_;refine on 9 (some 68) HT_ λK hK=>?_;refine gs_ Tryz.func97 #[int i64 a0,int i64 xc,int i64 ec] ?_;refine(jf.calls k a0 xc ec u _ HU.out).mono ?_;rintro e w5 ⟨rfl,⟨m5,rfl⟩⟩;refine⟨_,rfl,?_⟩;refine hK.out _ _ hHeld λhHeld=>nz ?_;clear hK K;refine Et 10 69 12 71 HT_ ?_;refine pz 13 14 HT_ ?_;refine Zh (Qe HT_.out (by kernel_rfl)) ?_;clear HT_ HW_ hHeld p2 q2;have hw1:wrap64 ((c:Int)+1)=((c+1:Nat):Int):=by have:=HC3.out;unfold wrap64;omega
        go_wp2
        go_roundw
        case measure=>rw[hw1];exact qhc HD3.out
        case rel=>exact⟨d3,c+1,_,rfl,by rw[hw1],⟨by have:=HD3.out;omega⟩,HN3,⟨bw HB3⟩,⟨pk_ HE3⟩⟩
def l1T :List (Nat×Nat):=[(0,1),(0,2),(0,3),(0,4),(0,5),(1,2),(1,3),(1,4),(1,5),(2,3),(2,4),(2,5),(3,4),(3,5),(4,5)]
def l1M (k:Int) (q:Nat):Int:=if q=(l1T.getD (k - 6).toNat (0,0)).1\/q=(l1T.getD (k - 6).toNat (0,0)).2 then 1 else 0
def l1B (k n:Int) (q:Nat):Int:=if k < n then l1M k q else 0
def l1A (k n:Int):Array Value:=#[int i64 1,int i64 (l1B k n 0),int i64 (l1B k n 1),int i64 (l1B k n 2),int i64 (l1B k n 3),int i64 (l1B k n 4),int i64 (l1B k n 5)]
def l1N (i:Nat):Nat:=i*(11 - i) / 2
def l1Md (k:Int):Option (Int×Int×Int×Int×Int×Int×Int):=if 6<=k/\k < 21 then some (1,l1M k 0,l1M k 1,l1M k 2,l1M k 3,l1M k 4,l1M k 5) else none
theorem qlg {i d n:Nat} (h:i+(d+1)=n):n - (((i+1:Nat):Int)).toNat < n - ((i:Int)).toNat:=by omega
theorem quj {k n:Int} (h:n≠k):l1A k (n+1)=l1A k n:=by
 have:∀ q,l1B k (n+1) q=l1B k n q:=λq=>by
  unfold l1B
  by_cases h1:k < n
  ·rw[if_pos (by omega),if_pos h1]
  ·rw[if_neg (by omega),if_neg h1]
 simp[l1A,this]
theorem qte :∀ i,i < 6->l1N (i+1)=l1N i+(5 - i):=by decide
theorem qkm {k n:Int} (h:¬ k < n):l1A k n=#[int i64 1,int i64 0,int i64 0,int i64 0,int i64 0,int i64 0,int i64 0]:=by
 have:∀ q,l1B k n q=0:=λq=>if_neg h
 simp[l1A,this]
theorem qpu {k n:Int} (h:k < n):l1A k n=#[int i64 1,int i64 (l1M k 0),int i64 (l1M k 1),int i64 (l1M k 2),int i64 (l1M k 3),int i64 (l1M k 4),int i64 (l1M k 5)]:=by
 have:∀ q,l1B k n q=l1M k q:=λq=>if_pos h
 simp[l1A,this]
theorem qvw {i j:Nat} (hi:i < j) (hj:j < 6) {k:Int} (hk:((6+l1N i+(j - i - 1):Nat):Int)=k):((l1A k k).setIfInBounds (1+i) (int i64 1)).setIfInBounds (1+j) (int i64 1)=l1A k (k+1):=by
 rw[qkm (by omega),qpu (by omega)];subst hk
 rcases (show i=0\/i=1\/i=2\/i=3\/i=4 by omega) with rfl|rfl|rfl|rfl|rfl<;>rcases (show j=1\/j=2\/j=3\/j=4\/j=5 by omega) with rfl|rfl|rfl|rfl|rfl<;>first|omega|rfl
theorem qlq {k:Int} {i:Nat} (h:i < 6):(l1A k k)[1+i]? =some (int i64 0):=by
 rw[qkm (by omega)]
 rcases (show i=0\/i=1\/i=2\/i=3\/i=4\/i=5 by omega) with rfl|rfl|rfl|rfl|rfl|rfl<;>rfl
theorem l1Md.calls (k:Int) (r1 r2 r3 r4 r5 r6 r7:Int) (w:World) (h:l1Md k=some (r1,r2,r3,r4,r5,r6,r7)):
  Calls Tryz.prog 52 #[int i64 k] w λe w'=>e=.returned (.agg #[int i64 r1,int i64 r2,int i64 r3,int i64 r4,int i64 r5,int i64 r6,int i64 r7])/\Below w.heap.size w w':=by
 have HB:=Em w;unfold l1Md at h
 by_cases hk:6<=k/\k < 21
 rotate_left
 ·rw[if_neg hk]at h;cases h
 rw[if_pos hk]at h;simp only[Option.some.injEq,Prod.mk.injEq]at h;obtain⟨rfl,rfl,rfl,rfl,rfl,rfl,rfl⟩:=h;have c6:decide (k < 6)=false:=decide_eq_false (by omega);have c21:decide (k>=21)=false:=decide_eq_false (by omega);have HK:=am hk;clear hk;go_enter Tryz.func52,Tryz.ntmps52;go_wp2_with fail;have hz:=qx (heap_alloc_last w (.cells #[int i64 0,int i64 0,int i64 0,int i64 0,int i64 0,int i64 0,int i64 0] 68)) (.cells #[int i64 1,int i64 0,int i64 0,int i64 0,int i64 0,int i64 0,int i64 0] 68);have hm:=heap_alloc_last (w.alloc (.cells #[int i64 0,int i64 0,int i64 0,int i64 0,int i64 0,int i64 0,int i64 0] 68)) (.cells #[int i64 1,int i64 0,int i64 0,int i64 0,int i64 0,int i64 0,int i64 0] 68);have es:(w.alloc (.cells #[int i64 0,int i64 0,int i64 0,int i64 0,int i64 0,int i64 0,int i64 0] 68)).heap.size=w.heap.size+1:=by
  show (w.heap.push _).size=_
  exact Array.size_push _
 rw[es]at hm;have hb:=(show Below w.heap.size w ((w.alloc (.cells #[int i64 0,int i64 0,int i64 0,int i64 0,int i64 0,int i64 0,int i64 0] 68)).alloc (.cells #[int i64 1,int i64 0,int i64 0,int i64 0,int i64 0,int i64 0,int i64 0] 68)) from bw HB)
 clear es HB;generalize (w.alloc (.cells #[int i64 0,int i64 0,int i64 0,int i64 0,int i64 0,int i64 0,int i64 0] 68)).alloc (.cells #[int i64 1,int i64 0,int i64 0,int i64 0,int i64 0,int i64 0,int i64 0] 68)=w1 at hz hm hb ⊢;rw[<-qkm (k:=k) (n:=((6+l1N 0:Nat):Int)) (by have:=HK.out;show ¬ k < 6;omega)]at hm;have HZ:=am hz;have HM:=am hm;have HB:=am hb;clear hz hm hb
 go_loopw [5,6] (λv5 v6 w'=>∃ d i:Nat,v5=int i64 ((6+l1N i:Nat):Int)/\v6=int i64 (i:Int)/\qf (i+d=6)/\qf (Below w.heap.size w w')/\qf (w'.heap[w.heap.size+1]? =some (.cells (l1A k ((6+l1N i:Nat):Int)) 68 (0,0)))/\qf (w'.heap[w.heap.size]? =some (.cells #[int i64 0,int i64 0,int i64 0,int i64 0,int i64 0,int i64 0,int i64 0] 68 (0,0)))) (λ_ v6 _=>6 - (intOf v6).toNat)
 case atStart=>exact⟨6,0,rfl,rfl,⟨by omega⟩,⟨HB.out⟩,⟨HM.out⟩,⟨HZ.out⟩⟩
 case round=>
  clear HB HM HZ;obtain⟨d,i,rfl,rfl,HD,HB,HM,HZ⟩:=hrel
  cases d with
  | zero=>
   have hi:i=6:=by have:=HD.out;omega
   subst hi;have hlt:decide (((6:Nat):Int) < 6)=false:=rfl;have hm:=HM.out;rw[qpu (by have:=HK.out;show k < 21;omega)]at hm;have HM2:=am hm;clear hm HM;have y0:wr.cell? ⟨w.heap.size+1,0,none⟩=some (int i64 1):=(qe HM2.out 0).trans rfl;have y1:wr.cell? ⟨w.heap.size+1,1,none⟩=some (int i64 (l1M k 0)):=(qe HM2.out 1).trans rfl;have y2:wr.cell? ⟨w.heap.size+1,2,none⟩=some (int i64 (l1M k 1)):=(qe HM2.out 2).trans rfl;have y3:wr.cell? ⟨w.heap.size+1,3,none⟩=some (int i64 (l1M k 2)):=(qe HM2.out 3).trans rfl;have y4:wr.cell? ⟨w.heap.size+1,4,none⟩=some (int i64 (l1M k 3)):=(qe HM2.out 4).trans rfl;have y5:wr.cell? ⟨w.heap.size+1,5,none⟩=some (int i64 (l1M k 4)):=(qe HM2.out 5).trans rfl;have y6:wr.cell? ⟨w.heap.size+1,6,none⟩=some (int i64 (l1M k 5)):=(qe HM2.out 6).trans rfl;have z0:wr.cell? ⟨w.heap.size,0,none⟩=some (int i64 0):=(qe HZ.out 0).trans rfl;have z1:wr.cell? ⟨w.heap.size,1,none⟩=some (int i64 0):=(qe HZ.out 1).trans rfl;have z2:wr.cell? ⟨w.heap.size,2,none⟩=some (int i64 0):=(qe HZ.out 2).trans rfl;have z3:wr.cell? ⟨w.heap.size,3,none⟩=some (int i64 0):=(qe HZ.out 3).trans rfl;have z4:wr.cell? ⟨w.heap.size,4,none⟩=some (int i64 0):=(qe HZ.out 4).trans rfl;have z5:wr.cell? ⟨w.heap.size,5,none⟩=some (int i64 0):=(qe HZ.out 5).trans rfl;have z6:wr.cell? ⟨w.heap.size,6,none⟩=some (int i64 0):=(qe HZ.out 6).trans rfl;have f0:=ql HZ.out 0;have f1:=ql HZ.out 1;have f2:=ql HZ.out 2;have f3:=ql HZ.out 3;have f4:=ql HZ.out 4;have f5:=ql HZ.out 5;have f6:=ql HZ.out 6;go_wp2_with fail;have hblk:(((((((wr.setCell ⟨w.heap.size,0,none⟩ (int i64 1)).setCell ⟨w.heap.size,1,none⟩ (int i64 (l1M k 0))).setCell ⟨w.heap.size,2,none⟩ (int i64 (l1M k 1))).setCell ⟨w.heap.size,3,none⟩ (int i64 (l1M k 2))).setCell ⟨w.heap.size,4,none⟩ (int i64 (l1M k 3))).setCell ⟨w.heap.size,5,none⟩ (int i64 (l1M k 4))).setCell ⟨w.heap.size,6,none⟩ (int i64 (l1M k 5))).heap[w.heap.size]? =some (.cells #[int i64 1,int i64 (l1M k 0),int i64 (l1M k 1),int i64 (l1M k 2),int i64 (l1M k 3),int i64 (l1M k 4),int i64 (l1M k 5)] 68 (0,0)):=(zc (zc (zc (zc (zc (zc (zc HZ.out 0 _) 1 _) 2 _) 3 _) 4 _) 5 _) 6 _)
   refine bodyPost_ret (results_cell_row (P:=Tryz.prog) rfl _ _ w.heap.size 68 #[int i64 1,int i64 (l1M k 0),int i64 (l1M k 1),int i64 (l1M k 2),int i64 (l1M k 3),int i64 (l1M k 4),int i64 (l1M k 5)] (0,0) _ rfl hblk Tryz.underlying68 rfl (by kernel_rfl)) rfl ?_;exact⟨rfl,(Za (Za (Za (Za (Za (Za (Za HB.out (Nat.le_refl _)) (Nat.le_refl _)) (Nat.le_refl _)) (Nat.le_refl _)) (Nat.le_refl _)) (Nat.le_refl _)) (Nat.le_refl _))⟩
  | succ d=>
   have hlt:decide ((i:Int) < 6)=true:=decide_eq_true (by have:=HD.out;omega);have hi6:i < 6:=by have:=HD.out;omega
   have hw0:wrap64 ((i:Int)+1)=((i+1:Nat):Int):=by unfold wrap64;omega
   have HI:=am hi6;clear hi6;go_wp2
   rw[hw0]
   go_loopw [5,7] (λv5 v7 w'=>∃ d2 j:Nat,v5=int i64 ((6+l1N i+(j - i - 1):Nat):Int)/\v7=int i64 (j:Int)/\qf (j+d2=6)/\qf (i < j)/\qf (Below w.heap.size w w')/\qf (w'.heap[w.heap.size+1]? =some (.cells (l1A k ((6+l1N i+(j - i - 1):Nat):Int)) 68 (0,0)))/\qf (w'.heap[w.heap.size]? =some (.cells #[int i64 0,int i64 0,int i64 0,int i64 0,int i64 0,int i64 0,int i64 0] 68 (0,0)))) (λ_ v7 _=>6 - (intOf v7).toNat)
   case atStart=>exact⟨d,i+1,by rw[show i+1 - i - 1=0 by omega];rfl,rfl,⟨by have:=HD.out;omega⟩,⟨by omega⟩,⟨bw HB⟩,⟨by rw[show i+1 - i - 1=0 by omega];exact pk_ HM⟩,⟨pk_ HZ⟩⟩
   case round=>
    clear HB HM HZ hw0;obtain⟨d2,j,rfl,rfl,HD2,HIJ,HB,HM,HZ⟩:=hrel
    cases d2 with
    | zero=>
     have hj:j=6:=by have:=HD2.out;omega
     subst hj;have hlt2:decide (((6:Nat):Int) < 6)=false:=rfl;have hn:6+l1N i+(6 - i - 1)=6+l1N (i+1):=by rw[qte i HI.out];omega
     have hw1:wrap64 ((i:Int)+1)=((i+1:Nat):Int):=by have:=HI.out;unfold wrap64;omega
     rw[hn]at HM ⊢;clear hn;go_wp2
     go_roundw
     case measure=>rw[hw1];exact qlg HD.out
     case rel=>exact⟨d,i+1,rfl,by rw[hw1],⟨by have:=HD.out;omega⟩,⟨bw HB⟩,⟨pk_ HM⟩,⟨pk_ HZ⟩⟩
    | succ d2=>
     have hlt2:decide ((j:Int) < 6)=true:=decide_eq_true (by have:=HD2.out;omega);obtain⟨nn,hnn⟩:∃ nn:Int,((6+l1N i+(j - i - 1):Nat):Int)=nn:=⟨_,rfl⟩
     have HN:=am hnn;rw[hnn]at HM ⊢;clear hnn;have hn1:wrap64 (nn+1)=((6+l1N i+(j+1 - i - 1):Nat):Int):=by
      have h1:=HN.out;have h2:=HIJ.out;have h3:=HD2.out;have h4:l1N i<=15:=by
       have h5:∀ q,q < 6->l1N q<=15:=by decide
       exact h5 i HI.out
      unfold wrap64;omega
     have hj1:wrap64 ((j:Int)+1)=((j+1:Nat):Int):=by have:=HD2.out;unfold wrap64;omega
     have hn2:((6+l1N i+(j+1 - i - 1):Nat):Int)=nn+1:=by have h1:=HN.out;have h2:=HIJ.out;omega
     have HN1:=am hn1;have HN2:=am hn2;have HJ1:=am hj1;clear hn1 hn2 hj1
     by_cases he:nn=k
     ·subst he
      have bz:(nn == nn)=true:=beq_self_eq_true nn;have hz:=HM.out;have yi:wr.cell? ⟨w.heap.size+1,1+i,none⟩=some (int i64 0):=(qe HM.out (1+i)).trans (qlq HI.out);have yj:wr.cell? ⟨w.heap.size+1,1+j,none⟩=some (int i64 0):=(qe HM.out (1+j)).trans (qlq (by have:=HD2.out;omega));have fi:=ql HM.out (1+i);have fj:=ql HM.out (1+j);have pi:(0<=(i:Int))=True:=eq_true (by omega);have pj:(0<=(j:Int))=True:=eq_true (by omega);have qi:((i:Int) < 6)=True:=eq_true (by have:=HI.out;omega);have qj:((j:Int) < 6)=True:=eq_true (by have:=HD2.out;omega);have nij:(j=i)=False:=eq_false (by have:=HIJ.out;omega);have nji:(i=j)=False:=eq_false (by have:=HIJ.out;omega);go_wp2_with fail
      go_roundw
      case measure=>rw[HJ1.out];exact qlg HD2.out
      case rel=>
       refine⟨d2,j+1,by rw[HN1.out],by rw[HJ1.out],⟨by have:=HD2.out;omega⟩,⟨by have:=HIJ.out;omega⟩,⟨Za (Za HB.out (by omega)) (by omega)⟩,⟨?_⟩,⟨jh (jh HZ.out (by show w.heap.size≠w.heap.size+1;omega) _) (by show w.heap.size≠w.heap.size+1;omega) _⟩⟩;rw[HN2.out,<-qvw HIJ.out (by have:=HD2.out;omega) HN.out];exact zc (zc HM.out _ _) _ _
     ·have bz:(nn == k)=false:=beq_eq_false_iff_ne.mpr he
      have HM2:=am HM.out;rw[<-quj he]at HM2;clear HM he;go_wp2
      go_roundw
      case measure=>rw[HJ1.out];exact qlg HD2.out
      case rel=>exact⟨d2,j+1,by rw[HN1.out],by rw[HJ1.out],⟨by have:=HD2.out;omega⟩,⟨by have:=HIJ.out;omega⟩,⟨bw HB⟩,⟨by rw[HN2.out];exact pk_ HM2⟩,⟨pk_ HZ⟩⟩
def l1E :List (Int×Int×Int×Int×Int×Int×Int):=[(0,-1,0,0,0,0,0),(0,0,-1,0,0,0,0),(0,0,0,-1,0,0,0),(0,0,0,0,-1,0,0),(0,0,0,0,0,-1,0),(0,0,0,0,0,0,-1),(2,0,1,1,1,1,1),(2,1,0,1,1,1,1),(2,1,1,0,1,1,1),(2,1,1,1,0,1,1),(2,1,1,1,1,0,1),(2,1,1,1,1,1,0)]
def l1W (k:Int):Int×Int×Int×Int×Int×Int×Int:=l1E.getD (if k < 6 then k.toNat else (k - 15).toNat) (0,0,0,0,0,0,0)
def qag.f (k:Int):Option (Int×Int×Int×Int×Int×Int×Int):=if 6<=k/\k < 21 then some (1,l1M k 0,l1M k 1,l1M k 2,l1M k 3,l1M k 4,l1M k 5) else if 0<=k/\k < 27 then some (l1W k) else none
def l1V (k:Int):Value:=.agg #[int i64 (l1W k).1,int i64 (l1W k).2.1,int i64 (l1W k).2.2.1,int i64 (l1W k).2.2.2.1,int i64 (l1W k).2.2.2.2.1,int i64 (l1W k).2.2.2.2.2.1,int i64 (l1W k).2.2.2.2.2.2]
def qbn (k:Int):Prop:=∀ w:World,Calls Tryz.prog 52 #[int i64 k] w λe w'=>e=.returned (l1V k)/\Below w.heap.size w w'
theorem qb0 (w:World) (A B:Obj):((w.alloc A).alloc B).heap[w.heap.size]? =some A:=by
 show ((w.heap.push A).push B)[w.heap.size]? =some A
 rw[Array.getElem?_push,if_neg (by simp),Array.getElem?_push,if_pos rfl]
theorem l1k0 :qbn 0:=λw=>by
 have HB:=Em w;go_enter Tryz.func52,Tryz.ntmps52;go_wp2_with fail;refine bodyPost_ret (results_cell_row (P:=Tryz.prog) rfl _ _ w.heap.size 68 _ (0,0) _ rfl (qb0 w _ _) Tryz.underlying68 rfl (by kernel_rfl)) rfl ?_;exact⟨rfl,bw HB⟩
theorem l1k1 :qbn 1:=λw=>by
 have HB:=Em w;go_enter Tryz.func52,Tryz.ntmps52;go_wp2_with fail;refine bodyPost_ret (results_cell_row (P:=Tryz.prog) rfl _ _ w.heap.size 68 _ (0,0) _ rfl (qb0 w _ _) Tryz.underlying68 rfl (by kernel_rfl)) rfl ?_;exact⟨rfl,bw HB⟩
theorem l1k2 :qbn 2:=λw=>by
 have HB:=Em w;go_enter Tryz.func52,Tryz.ntmps52;go_wp2_with fail;refine bodyPost_ret (results_cell_row (P:=Tryz.prog) rfl _ _ w.heap.size 68 _ (0,0) _ rfl (qb0 w _ _) Tryz.underlying68 rfl (by kernel_rfl)) rfl ?_;exact⟨rfl,bw HB⟩
theorem l1k3 :qbn 3:=λw=>by
 have HB:=Em w;go_enter Tryz.func52,Tryz.ntmps52;go_wp2_with fail;refine bodyPost_ret (results_cell_row (P:=Tryz.prog) rfl _ _ w.heap.size 68 _ (0,0) _ rfl (qb0 w _ _) Tryz.underlying68 rfl (by kernel_rfl)) rfl ?_;exact⟨rfl,bw HB⟩
theorem l1k4 :qbn 4:=λw=>by
 have HB:=Em w;go_enter Tryz.func52,Tryz.ntmps52;go_wp2_with fail;refine bodyPost_ret (results_cell_row (P:=Tryz.prog) rfl _ _ w.heap.size 68 _ (0,0) _ rfl (qb0 w _ _) Tryz.underlying68 rfl (by kernel_rfl)) rfl ?_;exact⟨rfl,bw HB⟩
theorem l1k5 :qbn 5:=λw=>by
 have HB:=Em w;go_enter Tryz.func52,Tryz.ntmps52;go_wp2_with fail;refine bodyPost_ret (results_cell_row (P:=Tryz.prog) rfl _ _ w.heap.size 68 _ (0,0) _ rfl (qb0 w _ _) Tryz.underlying68 rfl (by kernel_rfl)) rfl ?_;exact⟨rfl,bw HB⟩
theorem l1k21 :qbn 21:=λw=>by
 have HB:=Em w;go_enter Tryz.func52,Tryz.ntmps52;go_wp2_with fail;refine wp_loop_rounds 7 ?_;rw[rounds_succ];go_wp2_with fail;rw[rounds_succ];go_wp2_with fail;rw[rounds_succ];go_wp2_with fail;rw[rounds_succ];go_wp2_with fail;rw[rounds_succ];go_wp2_with fail;rw[rounds_succ];go_wp2_with fail;rw[rounds_succ];go_wp2_with fail;refine bodyPost_ret (results_cell_row (P:=Tryz.prog) rfl _ _ w.heap.size 68 _ (0,0) _ rfl (qb0 w _ _) Tryz.underlying68 rfl (by kernel_rfl)) rfl ?_;exact⟨rfl,bw HB⟩
theorem l1k22 :qbn 22:=λw=>by
 have HB:=Em w;go_enter Tryz.func52,Tryz.ntmps52;go_wp2_with fail;refine wp_loop_rounds 7 ?_;rw[rounds_succ];go_wp2_with fail;rw[rounds_succ];go_wp2_with fail;rw[rounds_succ];go_wp2_with fail;rw[rounds_succ];go_wp2_with fail;rw[rounds_succ];go_wp2_with fail;rw[rounds_succ];go_wp2_with fail;rw[rounds_succ];go_wp2_with fail;refine bodyPost_ret (results_cell_row (P:=Tryz.prog) rfl _ _ w.heap.size 68 _ (0,0) _ rfl (qb0 w _ _) Tryz.underlying68 rfl (by kernel_rfl)) rfl ?_;exact⟨rfl,bw HB⟩
theorem l1k23 :qbn 23:=λw=>by
 have HB:=Em w;go_enter Tryz.func52,Tryz.ntmps52;go_wp2_with fail;refine wp_loop_rounds 7 ?_;rw[rounds_succ];go_wp2_with fail;rw[rounds_succ];go_wp2_with fail;rw[rounds_succ];go_wp2_with fail;rw[rounds_succ];go_wp2_with fail;rw[rounds_succ];go_wp2_with fail;rw[rounds_succ];go_wp2_with fail;rw[rounds_succ];go_wp2_with fail;refine bodyPost_ret (results_cell_row (P:=Tryz.prog) rfl _ _ w.heap.size 68 _ (0,0) _ rfl (qb0 w _ _) Tryz.underlying68 rfl (by kernel_rfl)) rfl ?_;exact⟨rfl,bw HB⟩
theorem l1k24 :qbn 24:=λw=>by
 have HB:=Em w;go_enter Tryz.func52,Tryz.ntmps52;go_wp2_with fail;refine wp_loop_rounds 7 ?_;rw[rounds_succ];go_wp2_with fail;rw[rounds_succ];go_wp2_with fail;rw[rounds_succ];go_wp2_with fail;rw[rounds_succ];go_wp2_with fail;rw[rounds_succ];go_wp2_with fail;rw[rounds_succ];go_wp2_with fail;rw[rounds_succ];go_wp2_with fail;refine bodyPost_ret (results_cell_row (P:=Tryz.prog) rfl _ _ w.heap.size 68 _ (0,0) _ rfl (qb0 w _ _) Tryz.underlying68 rfl (by kernel_rfl)) rfl ?_;exact⟨rfl,bw HB⟩
theorem l1k25 :qbn 25:=λw=>by
 have HB:=Em w;go_enter Tryz.func52,Tryz.ntmps52;go_wp2_with fail;refine wp_loop_rounds 7 ?_;rw[rounds_succ];go_wp2_with fail;rw[rounds_succ];go_wp2_with fail;rw[rounds_succ];go_wp2_with fail;rw[rounds_succ];go_wp2_with fail;rw[rounds_succ];go_wp2_with fail;rw[rounds_succ];go_wp2_with fail;rw[rounds_succ];go_wp2_with fail;refine bodyPost_ret (results_cell_row (P:=Tryz.prog) rfl _ _ w.heap.size 68 _ (0,0) _ rfl (qb0 w _ _) Tryz.underlying68 rfl (by kernel_rfl)) rfl ?_;exact⟨rfl,bw HB⟩
theorem l1k26 :qbn 26:=λw=>by
 have HB:=Em w;go_enter Tryz.func52,Tryz.ntmps52;go_wp2_with fail;refine wp_loop_rounds 7 ?_;rw[rounds_succ];go_wp2_with fail;rw[rounds_succ];go_wp2_with fail;rw[rounds_succ];go_wp2_with fail;rw[rounds_succ];go_wp2_with fail;rw[rounds_succ];go_wp2_with fail;rw[rounds_succ];go_wp2_with fail;rw[rounds_succ];go_wp2_with fail;refine bodyPost_ret (results_cell_row (P:=Tryz.prog) rfl _ _ w.heap.size 68 _ (0,0) _ rfl (qb0 w _ _) Tryz.underlying68 rfl (by kernel_rfl)) rfl ?_;exact⟨rfl,bw HB⟩
theorem qag.calls (k:Int) (r1 r2 r3 r4 r5 r6 r7:Int) (w:World) (h:qag.f k=some (r1,r2,r3,r4,r5,r6,r7)):
  Calls Tryz.prog 52 #[int i64 k] w λe w'=>e=.returned (.agg #[int i64 r1,int i64 r2,int i64 r3,int i64 r4,int i64 r5,int i64 r6,int i64 r7])/\Below w.heap.size w w':=by
 unfold qag.f at h
 by_cases hk:6<=k/\k < 21
 ·exact l1Md.calls k r1 r2 r3 r4 r5 r6 r7 w (by rw[l1Md,if_pos hk];rw[if_pos hk]at h;exact h)
 ·rw[if_neg hk]at h
  by_cases h2:0<=k/\k < 27
  ·rw[if_pos h2]at h
   have e:=Option.some.inj h;have hg:qbn k:=by
    rcases (show k=0\/k=1\/k=2\/k=3\/k=4\/k=5\/k=21\/k=22\/k=23\/k=24\/k=25\/k=26 by omega) with rfl|rfl|rfl|rfl|rfl|rfl|rfl|rfl|rfl|rfl|rfl|rfl
    ·exact l1k0
    ·exact l1k1
    ·exact l1k2
    ·exact l1k3
    ·exact l1k4
    ·exact l1k5
    ·exact l1k21
    ·exact l1k22
    ·exact l1k23
    ·exact l1k24
    ·exact l1k25
    ·exact l1k26
   have:=hg w
   rw[l1V,e]at this;exact this
  ·rw[if_neg h2]at h;cases h
def jy.l0 :Nat->Int->List Int->List Int->Int->Int->Option (Int)
 | 0,_,_,_,_,_=>none
 | k+1,x0,x1,x2,x7,x8=>if x8 < (x1.length:Int) then (if 0<=x8 then (if x8 < (x2.length:Int) then (if x0=0 then (none) else (jy.l0 k x0 x1 x2 (Int.tmod (wrap64 (x7+(wrap64 ((rd x1 x8)*(rd x2 x8))))) x0) (wrap64 (x8+1)))) else (none)) else (none)) else (some x7)
def jy.f (k:Nat) (a0:Int) (l1:List Int) (l2:List Int):Option (Int):=jy.l0 k a0 l1 l2 0 0
theorem jy.Ag :∀ k,(∀ y0 y1 y2 y3 y4,LeO (jy.l0 k y0 y1 y2 y3 y4) (jy.l0 (k+1) y0 y1 y2 y3 y4))
 | 0=>λ_ _ _ _ _ r h=>by simp[jy.l0]at h
 | k+1=>by
  have ih0:=jy.Ag k
  ·intro y0 y1 y2 y3 y4
   unfold jy.l0
   repeat' with_reducible first|intro _|apply ih0|apply Eb|apply Ec|apply Ed|apply Ee
theorem jy.mono (a0 a1 a2 k):LeO (jy.f k a0 a1 a2) (jy.f (k+1) a0 a1 a2):=by
 have ih0:=jy.Ag k;unfold jy.f
 repeat' with_reducible first|intro _|apply ih0|apply Eb|apply Ec|apply Ed|apply Ee
theorem jy.calls (k:Nat) (a0:Int) (A1:Option Addr) (c1:Nat) (l1:List Int) (A2:Option Addr) (c2:Nat) (l2:List Int) (r:Int) (w:World) (hr1:Kd.C (Kd.int i64) w A1 l1.length l1) (hc1:l1.length<=c1) (hr2:Kd.C (Kd.int i64) w A2 l2.length l2) (hc2:l2.length<=c2) (h:jy.f k a0 l1 l2=some r):
  Calls Tryz.prog 56 #[int i64 a0,.slice A1 l1.length c1,.slice A2 l2.length c2] w λe w'=>e=.returned (int i64 r)/\Drawn0 w w':=by
 have HR1:=am hr1;clear hr1 hc1;have HR2:=am hr2;clear hr2 hc2;have H:=h;unfold jy.f at H;clear h;have H':=am H;clear H;go_enter Tryz.func56,Tryz.ntmps56
 go_wp2
 repeat (go_quiet (fail);try go_wp2)
 go_loopg [7,8] k (λkq v7 v8 w'=>∃ (x7_1:Int) (x8_1:Int),v7=int i64 x7_1/\v8=int i64 x8_1/\qf (jy.l0 kq a0 l1 l2 x7_1 x8_1=some r)/\qf (kq<=k)/\Drawn0 w w')
 case atStart=>exact⟨(0),(0),fr,fr,H',⟨Nat.le_refl _⟩,df⟩
 case round=>
  clear H';try clear c1;try clear c2;try clear p2
  obtain⟨x7_1,x8_1,rfl,rfl,HA,HK1,⟨m1,rfl⟩⟩:=hrel
  cases gk with
  | zero=>exact absurd HA.out (by simp[jy.l0])
  | succ k1=>
   have H:=HA.out;clear HA;simp only[jy.l0]at H;replace H:=Eg H;rcases H with ⟨c4b0,H⟩|⟨c4b0,H⟩
   ·replace H:=Ef H;obtain⟨c5b0,H⟩:=H;replace H:=Ef H;obtain⟨c6b0,H⟩:=H;replace H:=ifm H;obtain⟨c7,H⟩:=H
    have c7b0:=beq_eq_false_iff_ne.mpr c7;have c7b1:=bne_iff_ne.mpr c7;have H':=am H;clear H;obtain⟨ad274,e274,hx274_0,p274,q274⟩:=Es HR1.out x8_1 od od;cases e274
    obtain⟨ad275,e275,hx275_0,p275,q275⟩:=Es HR2.out x8_1 od od;cases e275;go_wp2
    repeat (go_quiet (fail);try go_wp2)
    go_roundg k1
    case measure=>have:=HK1.out;omega
    case rel=>exact⟨(Int.tmod (wrap64 (x7_1+(wrap64 ((rd l1 x8_1)*(rd l2 x8_1))))) a0),(wrap64 (x8_1+1)),fr,fr,H',⟨by have:=HK1.out;omega⟩,df⟩
   ·obtain rfl:=Option.some.inj H;go_wp2
    repeat (go_quiet (fail);try go_wp2)
    go_ret
    exact⟨fr,df⟩
def jx.l0 :Nat->Int->List (List Int)->List Int->List Int->Int->Option (List Int)
 | 0,_,_,_,_,_=>none
 | k+1,x0,x1,x7,x8,x9=>if x9 < (x1.length:Int) then (if 0<=x9 then ((jy.f k x0 (zt x1 x9) x8).bind λt284=>(if x7.length < 17592186044416 then (jx.l0 k x0 x1 (x7++[t284]) x8 (wrap64 (x9+1))) else (none))) else (none)) else (some x7)
def jx.f (k:Nat) (a0:Int) (l1:List (List Int)) (a2_0:Int) (a2_1:Int) (a2_2:Int):Option (List Int):=(zb.f k a0 a2_0 a2_1 a2_2).bind λt280=>(jx.l0 k a0 l1 (([]:List Int)) t280 0)
theorem jx.Ag :∀ k,(∀ y0 y1 y2 y3 y4,LeO (jx.l0 k y0 y1 y2 y3 y4) (jx.l0 (k+1) y0 y1 y2 y3 y4))
 | 0=>λ_ _ _ _ _ r h=>by simp[jx.l0]at h
 | k+1=>by
  have ih0:=jx.Ag k
  ·intro y0 y1 y2 y3 y4
   unfold jx.l0
   repeat' with_reducible first|intro _|apply ih0|apply jy.mono|apply zb.mono|apply Eb|apply Ec|apply Ed|apply Ee
theorem jx.mono (a0 a1 a2 a3 a4 k):LeO (jx.f k a0 a1 a2 a3 a4) (jx.f (k+1) a0 a1 a2 a3 a4):=by
 have ih0:=jx.Ag k;unfold jx.f
 repeat' with_reducible first|intro _|apply ih0|apply jy.mono|apply zb.mono|apply Eb|apply Ec|apply Ed|apply Ee
theorem jx.calls (k:Nat) (a0:Int) (A1:Option Addr) (c1:Nat) (l1:List (List Int)) (a2_0:Int) (a2_1:Int) (a2_2:Int) (r:List Int) (w:World) (hr1:Kd.C KI w A1 l1.length l1) (hc1:l1.length<=c1) (h:jx.f k a0 l1 a2_0 a2_1 a2_2=some r):
  Calls Tryz.prog 99 #[int i64 a0,.slice A1 l1.length c1,.agg #[int i64 a2_0,int i64 a2_1,int i64 a2_2]] w λe w'=>∃ v0_:Value,e=.returned (v0_)/\Kd.R (Kd.int i64) 3 w' w.heap.size (λ_=>True) v0_ r/\Below w.heap.size w w':=by
 have HR1:=am hr1;clear hr1 hc1;have HB:=Em w;have H:=h;unfold jx.f at H;clear h;generalize hy277:(([]:List Int))=y277 at H;have Ny277:=am hy277.symm;clear hy277;replace H:=bs H;obtain⟨t280,A4,H⟩:=H;have H':=am H;clear H;go_enter Tryz.func99,Tryz.ntmps99
 go_wp2_with (first|((with_reducible refine zd (N:=5) rfl ?_);refine xe_ 5 51 #[int i64 a2_0,int i64 a2_1,int i64 a2_2] ?_;intro gb276 hg w5 hbox hb;have BK276:=am (hbox);have GW276:=Ek HB hg;replace HB:=bq HB hb;clear hb hbox hg)|((with_reducible refine zd (N:=10) rfl ?_);refine li 3 ([]:List Int) ?_;intro v278 w6 ho7 hb;rw[<-Ny277.out]at ho7;have HO279:=am (Kd.Ai ho7 (zw (bx_ HB)));replace BK276:=Ej BK276 hb;replace HB:=am (ze (bx_ HB) hb);clear hb ho7;have hcz8_0:=En BK276.out;have hcz8_1:=Eo BK276.out;have hcz8_2:=Ep BK276.out;have hfz8_0:=ql BK276.out 0;have hfz8_1:=ql BK276.out 1;have hfz8_2:=ql BK276.out 2)|((with_reducible refine za (f:=48) rfl ?_);refine gl 13 Tryz.func48 #[int i64 a0,.agg #[int i64 a2_0,int i64 a2_1,int i64 a2_2]] ?_;(with_reducible refine(zb.calls k a0 a2_0 a2_1 a2_2 t280 _ A4.out).mono ?_);rintro e w9 ⟨v281,rfl,ho0,hb⟩;refine⟨_,rfl,?_⟩;have HO282:=am (Kd.Ai (Kd.AW ho0 (Kd.R_lt (wR HO279))) (zw (bx_ HB)));replace HO279:=eR HO279 (Kd.Am ho0) hb;replace BK276:=Ej BK276 hb;replace HB:=am (ze (bx_ HB) hb);(try clear hb);(try clear ho0)))
 go_loopg [7,9] k (λkq v7 v9 w'=>∃ (x7_1:List Int) (x9_1:Int),v9=int i64 x9_1/\qf (jx.l0 kq a0 l1 x7_1 t280 x9_1=some r)/\qf (kq<=k)/\qf (Kd.R (Kd.int i64) 3 w' w.heap.size (λk_=>some k_≠(v281:Value).ownBlock) v7 x7_1)/\qf (Kd.R (Kd.int i64) 3 w' w.heap.size (λk_=>some k_≠(v7:Value).ownBlock) v281 t280)/\qf (w'.heap[gb276]? =some (.cells #[int i64 a2_0,int i64 a2_1,int i64 a2_2] 51 (0,0)))/\qf (Below w.heap.size w w'))
 case atStart=>exact⟨(y277),(0),fr,H',⟨Nat.le_refl _⟩,⟨Kd.Af (Kd.Ae HO279.out (λ_ hk=>hk.2)) gs⟩,⟨Kd.Af (Kd.Ae HO282.out (λ_ hk=>hk.2)) gs⟩,⟨by (with_reducible repeat (first|refine qw ?_ _|refine qy ?_|refine qx ?_ _));exact BK276.out⟩,⟨bx_ HB⟩⟩
 case round=>
  clear H';try clear c1;try clear p2;try clear c4;try clear c9;try clear hcz8_0;try clear hcz8_1;try clear hcz8_2;try clear hfz8_0;try clear hfz8_1;try clear hfz8_2
  obtain⟨x7_1,x9_1,rfl,HA,HK1,HO_7,HO_8,BK276,HB⟩:=hrel
  cases gk with
  | zero=>exact absurd HA.out (by simp[jx.l0])
  | succ k1=>
   have H:=HA.out;clear HA;simp only[jx.l0]at H;replace H:=Eg H;rcases H with ⟨c10b0,H⟩|⟨c10b0,H⟩
   ·replace H:=Ef H;obtain⟨c11b0,H⟩:=H;replace H:=bs H;obtain⟨t284,A12,H⟩:=H;replace H:=ifn H;obtain⟨c13,H⟩:=H;have LMc13:=am c13
    clear c13;generalize hy285:(x7_1++[t284]:List Int)=y285 at H;have Ny285:=am hy285.symm;clear hy285;have H':=am H;clear H;have p283:0<=(x9_1:Int):=od;have q283:x9_1 < (l1.length:Int):=od;obtain⟨ad283,A283_0,c283_0,e283,hx283_0,hl283_0,hi283_0⟩:=qat HR1.out x9_1 p283 q283
    cases e283
    replace hx283_0:=wcl HB hx283_0;have HR283_0:=am hi283_0;have HC283_0:=am hl283_0;clear hi283_0 hl283_0;replace p283:=eq_true p283;replace q283:=eq_true q283;obtain⟨Ao14,co14,eo14⟩:=Kd.Ah HO_8.out;subst eo14
    go_wp2_with (first|((with_reducible refine za (f:=56) rfl ?_);refine gl 27 Tryz.func56 #[int i64 a0,.slice A283_0 (zt l1 x9_1).length c283_0,.slice Ao14 t280.length co14] ?_;(with_reducible refine(jy.calls k1 a0 _ _ (zt l1 x9_1) _ _ t280 t284 _ ?_ ?_ ?_ ?_ A12.out).mono ?_);exact Kd.Ad (Kd.Ad HR283_0.out HB.out) gs;exact HC283_0.out;exact Kd.Ad (Kd.Ac HO_8.out).2.2 gs;exact(Kd.Ac HO_8.out).2.1;rintro e w' ⟨rfl,⟨nd,rfl⟩⟩;refine⟨_,rfl,?_⟩)|((with_reducible refine jz (b:=.append) (xs:=#[.tmp 20,.tmp 28]) rfl ?_);at_builtin;refine Kd.Au (Kd.int i64) (w0:=w) w.heap.size rfl (.tmp 20) (.tmp 28) 37 3 (int i64 0) 8 rfl Tryz.underlying37 Ju rfl (by decide) (by omega) u7 x7_1 t284 [int i64 t284] (λk_=>some k_≠(.slice Ao14 t280.length co14:Value).ownBlock) (λ_=>False) rfl rfl ?aP (λ_ hk=>hk.elim) ?aF ?aO ?aB ?aS ?aL ?_;(case aP=>exact rfl);(case aB=>exact(bx_ HB));(case aF=>exact(λk_ hk=>Kd.fresh' (Kd.R_lt (wR HO_8)) k_ hk));(case aO=>exact(wR HO_7));(case aS=>exact(zw (bx_ HB)));(case aL=>have:=LMc13.out;omega);intro v286 w15 ho hb hg hat;rw[<-Ny285.out]at ho;replace HO_8:=am (Kd.Bn (ok:=(λ_=>True)) (oR_ HO_8 (λ_ hk=>⟨trivial,hk⟩)) hg hat);replace BK276:=am (Z2 (g:=gb276) (o:=.cells #[int i64 a2_0,int i64 a2_1,int i64 a2_2] 51 (0,0)) (pk_ BK276) hg (Kd.R_ne HO_7.out BK276.out (by decide)));replace HB:=am (hb);have HO287:=am (ho);clear HO_7;clear ho hb hg hat))
    go_roundg k1
    case measure=>have:=HK1.out;omega
    case rel=>exact⟨(y285),(wrap64 (x9_1+1)),fr,H',⟨by have:=HK1.out;omega⟩,⟨wR HO287⟩,⟨Kd.Af (Kd.Ae HO_8.out (λ_ hk=>hk.2)) gs⟩,⟨by (with_reducible repeat (first|refine qw ?_ _|refine qy ?_|refine qx ?_ _));exact BK276.out⟩,⟨bx_ HB⟩⟩
   ·obtain rfl:=Option.some.inj H;go_wp2;go_ret
    exact⟨_,fq,Kd.Af (Kd.Ae HO_7.out (λ_ hk=>trivial)) gs,bx_ HB⟩
def ju.l0 :Nat->Int->List (List Int)->List (S51)->List (List Int)->Int->Option ((List (List Int)))
 | 0,_,_,_,_,_=>none
 | k+1,x0,x2,x3,x9,x10=>if x10 < (x3.length:Int) then (if 0<=x10 then ((jx.f k x0 x2 ((qg x3 x10).f0.f0) ((qg x3 x10).f0.f1) ((qg x3 x10).f0.f2)).bind λt292=>((z8.f k t292).bind λt295=>(if t295=true then (ju.l0 k x0 x2 x3 x9 (wrap64 (x10+1))) else (if x9.length < 5864062014805 then (ju.l0 k x0 x2 x3 (x9++[t292]) (wrap64 (x10+1))) else (none))))) else (none)) else (some x9)
def ju.f (k:Nat) (a0:Int) (l1:List (S51)) (l2:List (List Int)) (l3:List (S51)):Option ((List (List Int))):=ju.l0 k a0 l2 l3 (([]:List (List Int))) 0
theorem ju.Ag :∀ k,(∀ y0 y1 y2 y3 y4,LeO (ju.l0 k y0 y1 y2 y3 y4) (ju.l0 (k+1) y0 y1 y2 y3 y4))
 | 0=>λ_ _ _ _ _ r h=>by simp[ju.l0]at h
 | k+1=>by
  have ih0:=ju.Ag k
  ·intro y0 y1 y2 y3 y4
   unfold ju.l0
   repeat' with_reducible first|intro _|apply ih0|apply z8.mono|apply jx.mono|apply Eb|apply Ec|apply Ed|apply Ee
theorem ju.mono (a0 a1 a2 a3 k):LeO (ju.f k a0 a1 a2 a3) (ju.f (k+1) a0 a1 a2 a3):=by
 have ih0:=ju.Ag k;unfold ju.f
 repeat' with_reducible first|intro _|apply ih0|apply z8.mono|apply jx.mono|apply Eb|apply Ec|apply Ed|apply Ee
theorem ju.calls (k:Nat) (a0:Int) (A1:Option Addr) (c1:Nat) (l1:List (S51)) (A2:Option Addr) (c2:Nat) (l2:List (List Int)) (A3:Option Addr) (c3:Nat) (l3:List (S51)) (r:List (List Int)) (w:World) (hr1:Kd.C k51 w A1 l1.length l1) (hc1:l1.length<=c1) (hr2:Kd.C KI w A2 l2.length l2) (hc2:l2.length<=c2) (hr3:Kd.C k51 w A3 l3.length l3) (hc3:l3.length<=c3) (h:ju.f k a0 l1 l2 l3=some r):
  Calls Tryz.prog 55 #[int i64 a0,.slice A1 l1.length c1,.slice A2 l2.length c2,.slice A3 l3.length c3] w λe w'=>∃ v0_:Value,e=.returned (v0_)/\Kd.S KI 37 w' w.heap.size (λ_=>True) v0_ r/\Below w.heap.size w w':=by
 clear hr1 hc1;have HR2:=am hr2;have HC2:=am hc2;clear hr2 hc2;have HR3:=am hr3;clear hr3 hc3;have HB:=Em w;have H:=h;unfold ju.f at H;clear h;generalize hy288:(([]:List (List Int)))=y288 at H;have Ny288:=am hy288.symm;clear hy288;have H':=am H;clear H;go_enter Tryz.func55,Tryz.ntmps55
 go_wp2_with (first|((with_reducible refine zd (N:=12) rfl ?_);refine Kd.BC KI _ 37 ?hg (N:=12) ?hd (xs:=([]:List (List Int))) (inner:=[]) (ok:=λ_=>True) (okp:=λ_=>True) ?hr ?hp (λ_ hk=>hk) trivial (Below.refl _ _) (Nat.le_refl _) (by simp) ?_;(case hd=>rfl);(case hg=>rfl);(case hr=>first|(go_simp;done)|(go_simp;rfl));(case hp=>exact(Reps.none _ _));intro v289 w5 ho6 hb hg_ hnew_;clear hg_ hnew_;rw[<-Ny288.out]at ho6;have HO290:=am (Kd.AD ho6 (bz HB));replace HB:=bq HB hb;clear hb ho6))
 go_loopg [9,10] k (λkq v9 v10 w'=>∃ (x9_1:List (List Int)) (x10_1:Int),v10=int i64 x10_1/\qf (ju.l0 kq a0 l2 l3 x9_1 x10_1=some r)/\qf (kq<=k)/\qf (Kd.S KI 37 w' w.heap.size (λ_=>True) v9 x9_1)/\qf (Below w.heap.size w w'))
 case atStart=>exact⟨(y288),(0),fr,H',⟨Nat.le_refl _⟩,⟨wS HO290⟩,⟨bw HB⟩⟩
 case round=>
  clear H';try clear c1;try clear c2;try clear p2;try clear c3;try clear c5
  obtain⟨x9_1,x10_1,rfl,HA,HK1,HO_9,HB⟩:=hrel
  cases gk with
  | zero=>exact absurd HA.out (by simp[ju.l0])
  | succ k1=>
   have H:=HA.out;clear HA;simp only[ju.l0]at H;replace H:=Eg H;rcases H with ⟨c7b0,H⟩|⟨c7b0,H⟩
   ·replace H:=Ef H;obtain⟨c8b0,H⟩:=H;replace H:=bs H;obtain⟨t292,A9,H⟩:=H;replace H:=bs H;obtain⟨t295,A10,H⟩:=H
    by_cases c11:t295=true
    ·subst c11
     rw[if_pos rfl]at H;have H':=am H;clear H;have p291:0<=(x10_1:Int):=od;have q291:x10_1 < (l3.length:Int):=od;obtain⟨ad291,e291,hx291_0,hx291_1,hx291_2⟩:=Zn HR3.out x10_1 p291 q291
     cases e291
     replace hx291_0:=wcl HB hx291_0;replace hx291_1:=wcl HB hx291_1;replace hx291_2:=wcl HB hx291_2;replace p291:=eq_true p291;replace q291:=eq_true q291
     go_wp2_with (first|((with_reducible refine za (f:=99) rfl ?_);refine gl 25 Tryz.func99 #[int i64 a0,.slice A2 l2.length c2,.agg #[int i64 ((qg l3 x10_1).f0.f0),int i64 ((qg l3 x10_1).f0.f1),int i64 ((qg l3 x10_1).f0.f2)]] ?_;(with_reducible refine(jx.calls k1 a0 _ _ l2 ((qg l3 x10_1).f0.f0) ((qg l3 x10_1).f0.f1) ((qg l3 x10_1).f0.f2) t292 _ ?_ ?_ A9.out).mono ?_);exact Kd.Ad HR2.out (bw HB);exact HC2.out;rintro e w12 ⟨v293,rfl,ho0,hb⟩;refine⟨_,rfl,?_⟩;replace HO_9:=eS HO_9 (Kd.Am ho0) hb;have HO294:=am (Kd.Ai ho0 (bz HB));replace HB:=bq HB hb;(try clear hb);(try clear ho0);obtain⟨Ao13,co13,eo13⟩:=Kd.Ah HO294.out;subst eo13)|((with_reducible refine za (f:=100) rfl ?_);refine gl 27 Tryz.func100 #[.slice Ao13 t292.length co13] ?_;(with_reducible refine(z8.calls k1 _ _ t292 true _ ?_ ?_ A10.out).mono ?_);exact Kd.Ad (Kd.Ac HO294.out).2.2 gs;exact(Kd.Ac HO294.out).2.1;rintro e w' ⟨rfl,⟨nd,rfl⟩⟩;refine⟨_,rfl,?_⟩))
     go_roundg k1
     case measure=>have:=HK1.out;omega
     case rel=>exact⟨(x9_1),(wrap64 (x10_1+1)),fr,H',⟨by have:=HK1.out;omega⟩,⟨Kd.Ap (Kd.At HO_9.out (λ_ hk=>trivial)) gs⟩,⟨bw HB⟩⟩
    ·replace c11:=Bool.eq_false_iff.mpr c11
     subst c11;rw[if_neg (show ¬ (false=true) by decide)]at H;replace H:=ifn H;obtain⟨c14,H⟩:=H;have LMc14:=am c14;clear c14;generalize hy296:(x9_1++[t292]:List (List Int))=y296 at H;have Ny296:=am hy296.symm;clear hy296;have H':=am H;clear H;have p291:0<=(x10_1:Int):=od;have q291:x10_1 < (l3.length:Int):=od;obtain⟨ad291,e291,hx291_0,hx291_1,hx291_2⟩:=Zn HR3.out x10_1 p291 q291
     cases e291
     replace hx291_0:=wcl HB hx291_0;replace hx291_1:=wcl HB hx291_1;replace hx291_2:=wcl HB hx291_2;replace p291:=eq_true p291;replace q291:=eq_true q291
     go_wp2_with (first|((with_reducible refine za (f:=99) rfl ?_);refine gl 25 Tryz.func99 #[int i64 a0,.slice A2 l2.length c2,.agg #[int i64 ((qg l3 x10_1).f0.f0),int i64 ((qg l3 x10_1).f0.f1),int i64 ((qg l3 x10_1).f0.f2)]] ?_;(with_reducible refine(jx.calls k1 a0 _ _ l2 ((qg l3 x10_1).f0.f0) ((qg l3 x10_1).f0.f1) ((qg l3 x10_1).f0.f2) t292 _ ?_ ?_ A9.out).mono ?_);exact Kd.Ad HR2.out (bw HB);exact HC2.out;rintro e w15 ⟨v293,rfl,ho0,hb⟩;refine⟨_,rfl,?_⟩;replace HO_9:=eS HO_9 (Kd.Am ho0) hb;have HO294:=am (Kd.Ai ho0 (bz HB));replace HB:=bq HB hb;(try clear hb);(try clear ho0);obtain⟨Ao16,co16,eo16⟩:=Kd.Ah HO294.out;subst eo16)|((with_reducible refine za (f:=100) rfl ?_);refine gl 27 Tryz.func100 #[.slice Ao16 t292.length co16] ?_;(with_reducible refine(z8.calls k1 _ _ t292 false _ ?_ ?_ A10.out).mono ?_);exact Kd.Ad (Kd.Ac HO294.out).2.2 gs;exact(Kd.Ac HO294.out).2.1;rintro e w' ⟨rfl,⟨nd,rfl⟩⟩;refine⟨_,rfl,?_⟩)|((with_reducible refine jz (b:=.append) (xs:=#[.tmp 29,.tmp 31]) rfl ?_);at_builtin;refine Kd.Bg KI (w0:=w) w.heap.size rfl (.tmp 29) (.tmp 31) 24 37 (.slice none 0 0) 24 rfl Tryz.underlying24 Ja rfl (by decide) (by omega) u9 x9_1 t292 [.slice Ao16 t292.length co16] (λ_=>True) (λk_=>some k_=(.slice Ao16 t292.length co16:Value).ownBlock) rfl rfl ?aP (λk_ hk_=>((Kd.Ae (ok':=λk_=>((λ_=>True)) k_/\some k_≠(u9:Value).ownBlock) (Kd.Ak (HO294.out) (Kd.AB HO_9.out) (by decide)) (λk_ hk=>⟨trivial,hk.2⟩))).1 k_ hk_.symm) ?aF ?aO ?aB ?aS ?aL ?_;(case aP=>exact Kd.BM (Kd.Ae (Kd.AO rfl (Kd.Ae (ok':=λk_=>((λ_=>True)) k_/\some k_≠(u9:Value).ownBlock) (Kd.Ak (HO294.out) (Kd.AB HO_9.out) (by decide)) (λk_ hk=>⟨trivial,hk.2⟩))) (λ_ h_=>h_)));(case aB=>exact(bw HB));(case aF=>exact(λ_ _=>trivial));(case aO=>exact(oS_ HO_9 (λk_ hk=>⟨trivial,λe_=>hk.2 e_⟩)));(case aS=>exact(bz HB));(case aL=>have:=LMc14.out;omega);intro v297 w17 ho hb hg hat;rw[<-Ny296.out]at ho;replace HB:=am (hb);have HO298:=am (ho);clear HO_9 HO294;clear ho hb hg hat))
     go_roundg k1
     case measure=>have:=HK1.out;omega
     case rel=>exact⟨(y296),(wrap64 (x10_1+1)),fr,H',⟨by have:=HK1.out;omega⟩,⟨wS HO298⟩,⟨bw HB⟩⟩
   ·obtain rfl:=Option.some.inj H;go_wp2;go_ret
    exact⟨_,fq,wS HO_9,bw HB⟩
theorem qgi (w:World) (e:Nat) (base:Nat) (hb:base<=w.heap.size):(w.alloc (.cells #[] e)).ownsRow base e 1 (.slice (some ⟨w.heap.size,0,none⟩) 0 0) 0 []:=
 ⟨rfl,.inr ⟨w.heap.size,0,#[],rfl,hb,(by show (w.heap.push _)[w.heap.size]? =_;simp),Nat.le_refl _,Nat.zero_le _,rfl,rfl⟩⟩
theorem qfh {w:World} {A:Option Addr} {n:Nat} {rows:List (List Int)} (h:Kd.C KI w A n rows) (j:Nat) (hj:j < rows.length):∃ ad B c,A=some ad/\w.cell? (ad.add j)=some (.slice B (rows[j]).length c)/\(rows[j]).length<=c/\Kd.C (Kd.int i64) w B (rows[j]).length rows[j]:=by
 obtain⟨hl,hm,hr⟩:=h;obtain⟨ad,rfl,hc⟩:=hr (by omega);obtain⟨cs,_,⟨B,c,rfl,h1,h2⟩,hcell⟩:=hc j _ (List.getElem?_eq_getElem hj);refine⟨ad,B,c,rfl,?_,h1,h2⟩
 have:=hcell 0 (.slice B (rows[j]).length c) rfl
 simpa [KI,Kd.slice] using this
theorem qb7 {w1 w2:World} {g o:Nat} {v:Value} (hlt:g < w1.heap.size) (hb:Below w1.heap.size w1 w2) (hx:w1.cell? ⟨g,o,none⟩=some v):w2.cell? ⟨g,o,none⟩=some v:=
 (World.cell?_of_block (a:=⟨g,o,none⟩) (hb.block g hlt)).trans hx
def Js.f (k:Nat) (a0:Int) (l1:List (List Int)):Option (List Int×Bool):=(qh.f k a0 l1 4).bind λt=>
 if t.1.length=2 then (if (t.1.getD 0 []).length < 1000000/\(t.1.getD 1 []).length < 1000000 then some (t.1.getD 0 []++t.1.getD 1 [],true) else none) else some ([],false)
theorem Js.mono (a0 a1 k):LeO (Js.f k a0 a1) (Js.f (k+1) a0 a1):=by
 unfold Js.f;exact LeO.bind (qh.mono _ _ _ _) λ_=>LeO.refl _
theorem Js.calls (k:Nat) (a0:Int) (A1:Option Addr) (c1:Nat) (l1:List (List Int)) (r1:List Int) (r2:Bool) (w:World) (hr1:Kd.C KI w A1 l1.length l1) (hc1:l1.length<=c1) (h:Js.f k a0 l1=some (r1,r2)):
  Calls Tryz.prog 58 #[int i64 a0,.slice A1 l1.length c1] w λe w'=>∃ v0_:Value,e=.returned (.tuple #[v0_,.bool r2])/\Kd.R (Kd.int i64) 3 w' w.heap.size (λ_=>True) v0_ r1/\Below w.heap.size w w':=by
 obtain⟨⟨L,hs⟩,hred,h'⟩:=Option.bind_eq_some_iff.1 h;clear h;have HRED:=Lib.hid hred;have H:=Lib.hid h';have HV:Hid (Kd.V KI 37 w w.heap.size (λk_=>k_ < w.heap.size) (.slice A1 l1.length c1) l1):=Lib.hid (Kd.V_mk hc1 (Kd.C_F (Kd.BG 3 (Kd.AY .i64)) hr1));clear h' hred hr1 hc1;go_enter Tryz.func58,Tryz.ntmps58;go_wp2_with fail;refine(qh.calls k a0 (λk_=>k_ < w.heap.size) A1 c1 l1 4 L hs w HV.out HRED.out).mono ?_;rintro e w1 ⟨v0,v1,rfl,ho0,_,hb⟩;have HB:=Lib.hid hb
 by_cases h2:L.length=2
 ·obtain⟨x,y,rfl⟩:∃ x y,L=[x,y]:=by
   match L,h2 with
   | [x,y],_=>exact⟨x,y,rfl⟩
  obtain⟨g,c0,rfl,_,hgl,_⟩:=Kd.Cl ho0 (by simp);have HGL:=Lib.hid hgl;clear hgl;obtain⟨ad,B0,k0,e0,hx0,hb0,hC0⟩:=qfh (Kd.BW (Kd.N_F ho0)) 0 (by simp);obtain⟨_,B1,k1,e1,hx1,hb1,hC1⟩:=qfh (Kd.BW (Kd.N_F ho0)) 1 (by simp);injection e0 with e0
  subst e0;injection e1 with e1
  subst e1;rw[Jz]at hx0 hx1;simp only[List.getElem_cons_zero,List.getElem_cons_succ]at hx0 hb0 hC0 hx1 hb1 hC1;clear ho0 hb HV;have HC0:=Lib.hid hC0;have HC1:=Lib.hid hC1;have HBN:Hid (x.length < 1000000/\y.length < 1000000/\r1=x++y/\r2=true):=Lib.hid (by
   have h:=H.out;simp only[List.length_cons,List.length_nil,if_true,List.getD_cons_zero,List.getD_cons_succ]at h
   split at h
   ·next hh=>simp at h;exact⟨hh.1,hh.2,h.1.symm,h.2⟩
   ·simp at h)
  clear H hC0 hC1 hb0 hb1 h2;go_wp2_with fail
  go_region_held3 (λw'=>w'.cell? ⟨g,0,none⟩=some (.slice B0 x.length k0)/\w'.cell? ⟨g,1,none⟩=some (.slice B1 y.length k1)) (first|exact⟨qb7 HGL.out hb2 hx0,qb7 HGL.out hb2 hx1⟩|exact⟨qb7 HGL.out hb1 hx0,qb7 HGL.out hb1 hx1⟩|go_keep)
   (first
    | ((refine Kd.AE (Kd.int i64) (Rr:=λx c=>c=[Value.int .i64 x]) (w0:=w1) w1.heap.size (by rfl) (.tmp 18) (.tmp 21) 37 3 (int i64 0) 8 (by rfl) Tryz.underlying37 Ju rfl (by decide) (by decide) (.slice (some ⟨w1.heap.size,0,none⟩) 0 0) [] x B0 x.length k0 (λ_=>True) (λ_=>False) (by rfl) (by rfl) ⟨λ_ _=>trivial,[],qgi _ 3 _ (Nat.le_refl _),Reps.none _ _⟩ (Kd.BI (Kd.Cb HC0.out) _) (λ_ _ h=>h) (λ_ h=>h.elim) (λ_ _=>trivial) (((Below.refl _ _).drew).alloc (Nat.le_refl _) _) (by simp) (by have:=HBN.out.1;simp;omega) ?_;intro v2 w2 hown1 hb1 hg1 hat1))
    | ((refine Kd.AE (Kd.int i64) (Rr:=λx c=>c=[Value.int .i64 x]) (w0:=w1) w1.heap.size (by rfl) (.tmp 22) (.tmp 25) 37 3 (int i64 0) 8 (by rfl) Tryz.underlying37 Ju rfl (by decide) (by decide) v2 ([]++x) y B1 y.length k1 (λ_=>True) (λ_=>False) (by rfl) (by rfl) hown1 (Kd.Ad HC1.out hb1) (λ_ _ h=>h) (λ_ h=>h.elim) (λ_ _=>trivial) hb1 hb1.size (by have:=HBN.out.1;have:=HBN.out.2.1;simp;omega) ?_;intro v3 w3 hown2 hb2 hg2 hat2)))
  obtain⟨_,_,rfl,rfl⟩:=HBN.out
  go_wp2
  go_ret2
  exact⟨v3,rfl,Kd.Ai hown2 HB.out.size,HB.out.trans (hb2.mono HB.out.size)⟩
 ·obtain⟨A0,c0,rfl⟩:=Kd.AF ho0
  have HR:Hid (r1=[]/\r2=false):=Lib.hid (by
   have h:=H.out;rw[if_neg h2]at h
   simp at h
   exact h)
  have h3:((L.length:Int) == 2)=false:=beq_eq_false_iff_ne.mpr (by omega);have h4:((L.length:Int) !=2)=true:=bne_iff_ne.mpr (by omega);clear ho0 hb HV H h2;obtain⟨rfl,rfl⟩:=HR.out
  go_wp2
  go_ret2
  exact⟨_,rfl,Kd.Ai ⟨λ_ _=>trivial,[],qgi w1 3 _ (Nat.le_refl _),Reps.none _ _⟩ HB.out.size,HB.out.trans ((Below.refl _ _).alloc HB.out.size _)⟩
attribute [local go_sem] Tryz.underlying24 Tryz.underlying27 Tryz.underlying37
def l7V (c q:Nat):Int:=if q=c then 1 else 0
def l7Pt (six:List S51) (i:Nat):S51:=qg six (i:Int)
def l7Ra (k:Nat) (p:Int) (base:List (List Int)) (X:S51) (c:Nat):Nat->Nat->List Int->Option (List Int)
 | 0,_,acc=>some acc
 | d+1,i,acc=>if i < base.length then (j8.f k p (base.getD i []) X.f0.f0 X.f0.f1 X.f0.f2 (l7V c 0) (l7V c 1) (l7V c 2)).bind λt=>l7Ra k p base X c d (i+1) (acc++[t]) else none
def l7Rs (k:Nat) (p:Int) (base:List (List Int)) (X:S51):Nat->Nat->List (List Int)->Option (List (List Int))
 | 0,_,acc=>some acc
 | d+1,c,acc=>(l7Ra k p base X c 4 0 []).bind λrow=>l7Rs k p base X d (c+1) (acc++[row])
theorem qjg (k:Nat) (p:Int) (base:List (List Int)) (X:S51) (c:Nat):∀ d i acc,LeO (l7Ra k p base X c d i acc) (l7Ra (k+1) p base X c d i acc)
 | 0,_,_=>LeO.refl _
 | d+1,i,acc=>by rw[l7Ra,l7Ra];exact LeO.ite (LeO.bind (j8.mono _ _ _ _ _ _ _ _ _) λ_=>qjg k p base X c d _ _) (LeO.refl _)
theorem qjv (k:Nat) (p:Int) (base:List (List Int)) (X:S51):∀ d c acc,LeO (l7Rs k p base X d c acc) (l7Rs (k+1) p base X d c acc)
 | 0,_,_=>LeO.refl _
 | d+1,c,acc=>by rw[l7Rs,l7Rs];exact LeO.bind (qjg k p base X c _ _ _) λ_=>qjv k p base X d _ _
def filO {α:Type} (t:α->Option Bool):List α->List α->Option (List α)
 | [],acc=>some acc
 | x :: xs,acc=>(t x).bind λb=>filO t xs (if b=true then acc++[x] else acc)
theorem qjy {α:Type} {t u:α->Option Bool} (h:∀ x,LeO (t x) (u x)):∀ l acc,LeO (filO t l acc) (filO u l acc)
 | [],_=>LeO.refl _
 | x :: xs,acc=>by rw[filO,filO];exact LeO.bind (h x) λ_=>qjy h xs _
theorem qqh {α:Type} {t:α->Option Bool} {l:List α} {i:Nat} {acc r:List α} (hi:i < l.length) (z:α) (h:filO t (l.drop i) acc=some r):∃ b,t (l.getD i z)=some b/\filO t (l.drop (i+1)) (if b=true then acc++[l.getD i z] else acc)=some r:=by
 have e:l.getD i z=l[i]:=by rw[List.getD_eq_getElem?_getD,List.getElem?_eq_getElem hi];rfl
 rw[List.drop_eq_getElem_cons hi,filO]at h;rw[e];exact Option.bind_eq_some_iff.1 h
def l7En (M:Nat->Int) (six:List S51):Nat->Nat->List S51->Option (List S51)
 | 0,_,acc=>some acc
 | d+1,i,acc=>if M i=1 then (if i < six.length then l7En M six d (i+1) (acc++[l7Pt six i]) else none) else l7En M six d (i+1) acc
def qhk (k:Nat) (p:Int) (six:List S51) (base:List (List Int)) (kk:Int) (all:List S51):Option (List (List Int)):=
 if kk < 6 then (if 0<=kk/\kk < six.length then l7Rs k p base (qg six kk) 3 0 [] else none)
 else if kk < 21 then (l7En (l1M kk) six 6 0 []).bind λends=>if 1 < ends.length then (Qy.f p (l7Pt ends 0).f0.f0 (l7Pt ends 0).f0.f1 (l7Pt ends 0).f0.f2 (l7Pt ends 1).f0.f0 (l7Pt ends 1).f0.f1 (l7Pt ends 1).f0.f2).bind λline=>(filO (λx=>Jy.f p x.f0.f0 x.f0.f1 x.f0.f2 line) all []).bind λpts=>ju.f k p six base pts else none
 else if kk - 20<=six.length then (jl.f k p (six.take (kk - 21).toNat++six.drop (kk - 20).toNat)).bind λcs=>if 0 < cs.length then (filO (λx=>(Qh.f p x.f0.f0 x.f0.f1 x.f0.f2).bind λs=>(jy.f k p (cs.getD 0 []) s).bind λt=>some (t == 0)) all []).bind λpts=>ju.f k p six base pts else none
 else none
def jr.f (k:Nat) (p:Int) (six:List S51) (base:List (List Int)) (kk:Int):Option (List Int):=
 if six.length<=1000 then (zn.f k p).bind λall=>if all.length<=1000000 then (qhk k p six base kk all).bind λrows=>(Js.f k p rows).bind λo=>some o.1 else none else none
theorem qo0 (k:Nat) (p:Int) (six:List S51) (base:List (List Int)) (kk:Int) (all:List S51):LeO (qhk k p six base kk all) (qhk (k+1) p six base kk all):=by
 unfold qhk;refine LeO.ite (LeO.ite (qjv _ _ _ _ _ _ _) (LeO.refl _)) (LeO.ite (LeO.bind (LeO.refl _) λ_=>LeO.ite (LeO.bind (LeO.refl _) λ_=>LeO.bind (LeO.refl _) λ_=>ju.mono _ _ _ _ _) (LeO.refl _)) (LeO.ite (LeO.bind (jl.mono _ _ _) λ_=>LeO.ite (LeO.bind (qjy (λ_=>LeO.bind (LeO.refl _) λ_=>LeO.bind (jy.mono _ _ _ _) λ_=>LeO.refl _) _ _) λ_=>ju.mono _ _ _ _ _) (LeO.refl _)) (LeO.refl _)))
theorem jr.mono (a0 a1 a2 a3 k):LeO (jr.f k a0 a1 a2 a3) (jr.f (k+1) a0 a1 a2 a3):=by
 unfold jr.f;exact LeO.ite (LeO.bind (zn.mono _ _) λ_=>LeO.ite (LeO.bind (qo0 _ _ _ _ _ _) λ_=>LeO.bind (Js.mono _ _ _) λ_=>LeO.refl _) (LeO.refl _)) (LeO.refl _)
def jr.T22 :Bool×List (List Nat×List Nat):=(true,[([],[]),([],[]),([],[]),([],[]),([2,3],[2,3]),([4],[4]),([],[]),([],[]),([6,7],[6,7]),([8],[8]),([],[]),([1,5,9,10],[1,5,9,10]),([11],[11]),([0,12,11],[0,12]),([13,13,0,1,2,3,4,5,6,7,8,9,10,11,12,13],[0,13])])
def jr.B22 :List Nat:=[0,0,0,0,12,28,0,0,192,448,0,2046,4094,8191,16383]
def jr.T32 :Bool×List (List Nat×List Nat):=(true,[([],[]),([],[]),([1],[1]),([2],[2]),([],[]),([4],[4]),([5],[5]),([0,3,6],[0,3,6]),([7,7,0,1,2,3,4,5,6,7],[7])])
def jr.B32 :List Nat:=[0,0,2,6,0,16,48,127,255]
def jr.T3 :Bool×List (List Nat×List Nat):=(true,[([],[]),([],[]),([],[]),([2],[2]),([1,3],[1,3]),([0,4],[0,4]),([],[]),([],[]),([7],[7]),([6,8],[6,8]),([5,9,5],[5,9]),([10,10,0,1,2,3,4,5,6,7,8,9,10],[10])])
def jr.B3 :List Nat:=[0,0,0,4,14,31,0,0,128,448,1023,2047]
theorem qgn {w:World} {A:Option Addr} {n:Nat} {rows:List (List Int)} (h:Kd.C KI w A n rows) (j:Nat) (hj:j < rows.length):∃ ad B c,A=some ad/\w.cell? (ad.add j)=some (.slice B (rows.getD j []).length c)/\(rows.getD j []).length<=c/\Kd.C (Kd.int i64) w B (rows.getD j []).length (rows.getD j []):=by
 obtain⟨hl,hm,hr⟩:=h;obtain⟨ad,rfl,hc⟩:=hr (by omega);obtain⟨cs,_,⟨B,c,rfl,h1,h2⟩,hcell⟩:=hc j _ (List.getElem?_eq_getElem hj);have e:rows.getD j []=rows[j]:=by rw[List.getD_eq_getElem?_getD,List.getElem?_eq_getElem hj];rfl
 rw[e];refine⟨ad,B,c,rfl,?_,h1,h2⟩
 have:=hcell 0 (.slice B (rows[j]).length c) rfl
 simpa [KI,Kd.slice] using this
theorem qg4 {i d n:Nat} (h:i+(d+1)=n):n - (((i+1:Nat):Int)).toNat < n - ((i:Int)).toNat:=by omega
theorem qe7 {i n:Nat} (h:i < n):n - (((i+1:Nat):Int)).toNat < n - ((i:Int)).toNat:=by omega
theorem qu8 {α:Type} {d:Kd α} {w:World} {A:Option Addr} {xs:List α} (h:Kd.C d w A xs.length xs) {m:Nat} (hm:m<=xs.length):Kd.C d w A m (xs.take m):=by
 obtain⟨h0,h1,h2⟩:=h;refine⟨by rw[List.length_take];omega,by omega,λhp=>?_⟩;obtain⟨ad,e,hc⟩:=h2 (by omega);refine⟨ad,e,λj p hj=>hc j p ?_⟩;rw[List.getElem?_take]at hj
 split at hj
 ·exact hj
 ·cases hj
theorem qvd {α:Type} {d:Kd α} {w:World} {A:Option Addr} {xs:List α} (h:Kd.C d w A xs.length xs) {c:Nat} (hl:xs.length<=c) {m:Nat} (hm:m<=xs.length):Kd.C d w (if c=m then A else A.map λx=>x.add (m*d.sz)) (xs.length - m) (xs.drop m):=by
 obtain⟨h0,h1,h2⟩:=h;refine⟨by rw[List.length_drop],by omega,λhp=>?_⟩;obtain⟨ad,e,hc⟩:=h2 (by omega);rw[if_neg (by omega),e];refine⟨_,rfl,λj p hj=>?_⟩;rw[List.getElem?_drop]at hj;obtain⟨cs,hs,hk,hcell⟩:=hc (m+j) p hj;refine⟨cs,hs,hk,λi u hu=>?_⟩;rw[qp0,<-Nat.add_assoc,<-Nat.add_mul];exact hcell i u hu
theorem qto {w:World} {g:Nat} {t:TypeId} (h:w.heap[g]? =some (.cells #[int i64 0,int i64 0,int i64 0] t (0,0))) {j:Nat} (hj:j < 3):w.cell? ⟨g,j,none⟩=some (int i64 0):=by
 rcases (show j=0\/j=1\/j=2 by omega) with rfl|rfl|rfl<;>exact qe h _
theorem jr.calls (k:Nat) (a0:Int) (A1:Option Addr) (c1:Nat) (l1:List S51) (A2:Option Addr) (c2:Nat) (l2:List (List Int)) (a3:Int) (r:List Int) (w:World) (hr1:Kd.C k51 w A1 l1.length l1) (hc1:l1.length<=c1) (hr2:Kd.C KI w A2 l2.length l2) (hc2:l2.length<=c2) (h:jr.f k a0 l1 l2 a3=some r):
  Calls Tryz.prog 22 #[int i64 a0,.slice A1 l1.length c1,.slice A2 l2.length c2,int i64 a3] w λe w'=>∃ v0_:Value,e=.returned (v0_)/\Kd.R (Kd.int i64) 3 w' w.heap.size (λ_=>True) v0_ r/\Below w.heap.size w w':=by
 have HR1:=am hr1;have HC1:=am hc1;have HR2:=am hr2;have HC2:=am hc2;have HB:=Em w;unfold jr.f at h
 by_cases hs:l1.length<=1000
 rotate_left
 ·rw[if_neg hs]at h;cases h
 rw[if_pos hs]at h;obtain⟨all,hall,h2⟩:=Option.bind_eq_some_iff.1 h;clear h
 by_cases ha:all.length<=1000000
 rotate_left
 ·rw[if_neg ha]at h2;cases h2
 rw[if_pos ha]at h2;obtain⟨rows,hrows,h3⟩:=Option.bind_eq_some_iff.1 h2;clear h2;obtain⟨⟨o1,o2⟩,ho,h4⟩:=Option.bind_eq_some_iff.1 h3;clear h3;have hr:o1=r:=Option.some.inj h4;subst hr;have HS:=am hs;have HALL:=am hall;have HAL:=am ha;have HROWS:=am hrows;have HOF:=am ho;clear hr1 hc1 hr2 hc2 hs hall ha hrows ho h4;go_enter Tryz.func22,Tryz.ntmps22
 go_wp2_with (first
  | ((with_reducible refine zd (N:=27) rfl ?_);refine Kd.AR KI _ 37 ?hg (N:=27) ?hd (xs:=([]:List (List Int))) (inner:=[]) (ok:=λ_=>True) (okp:=λ_=>True) ?hr ?hp (λ_ hk=>hk) trivial (Below.refl _ _) (Nat.le_refl _) (by simp) ?_;(case hd=>rfl);(case hg=>rfl);(case hr=>first|(go_simp;done)|(go_simp;rfl));(case hp=>exact(Reps.none _ _));intro v9 w1 ho9 hb9 hg9 hnew9)
  | fail)
 refine(zn.calls k a0 all _ HALL.out).mono ?_;rintro e w2 ⟨u10,rfl,hv,hb⟩;obtain⟨AL,cL,e1⟩:=Kd.Ah hv;subst e1;have HO9:=am (Kd.Af ho9 hb);have HLA:=am (Kd.Ac hv).2.2;replace HB:=bq HB hb9;replace HB:=bq HB hb;clear hv hb ho9 hb9 hg9 hnew9;have hrow:=HROWS.out;unfold qhk at hrow;clear HROWS
 by_cases c6:a3 < 6
 ·rw [if_pos c6] at hrow
  by_cases ck:0<=a3/\a3 < l1.length
  rotate_left
  ·rw[if_neg ck]at hrow;cases hrow
  rw[if_pos ck]at hrow;have HROW:=am hrow;have d6:decide (a3 < 6)=true:=decide_eq_true c6;obtain⟨adX,eX,x0,x1,x2⟩:=Zn HR1.out a3 ck.1 ck.2;subst eX;have X0:=am x0;have X1:=am x1;have X2:=am x2;have HCK:=am ck;clear hrow c6 ck x0 x1 x2;generalize qg l1 a3=X at X0 X1 X2 HROW
  go_wp2
  go_loopw [9,11] (λv9 v11 w'=>∃ (d c:Nat) (acc:List (List Int)),v11=int i64 (c:Int)/\qf (c+d=3)/\qf (acc.length=c)/\qf (l7Rs k a0 l2 X d c acc=some rows)/\qf (Kd.R KI 37 w' w.heap.size (λ_=>True) v9 acc)/\qf (Below w.heap.size w w')) (λ_ v11 _=>3 - (intOf v11).toNat)
  case atStart=>exact⟨3,0,[],rfl,⟨by omega⟩,⟨rfl⟩,HROW,⟨wR HO9⟩,⟨bw HB⟩⟩
  case round=>
   clear HROW HO9 HB;obtain⟨d,c,acc,rfl,HD,HAC,HROW,HO9,HB⟩:=hrel
   cases d with
   | zero=>
    have hlt:decide ((c:Int) < 3)=false:=decide_eq_false (by have:=HD.out;omega);have hr:=HROW.out;rw[l7Rs]at hr;obtain rfl:=Option.some.inj hr;clear hr;obtain⟨A9,c9,e9⟩:=Kd.Ah HO9.out;subst e9;go_wp2_with fail;refine(Js.calls k a0 A9 c9 acc o1 o2 _ (Kd.Ac HO9.out).2.2 (Kd.Ac HO9.out).2.1 HOF.out).mono ?_;rintro e w5 ⟨v5,rfl,hv5,hb5⟩;have HB5:=bq HB hb5;have HV5:=am (Kd.Ai hv5 (bz HB));clear hv5 hb5;go_wp2_with fail
    go_ret
    exact⟨_,fq,wR HV5,bw HB5⟩
   | succ d=>
    have hlt:decide ((c:Int) < 3)=true:=decide_eq_true (by have:=HD.out;omega);obtain⟨row,hrow,hn⟩:=Option.bind_eq_some_iff.1 (show _=some rows by have:=HROW.out;rwa [l7Rs]at this);have HR:=am hrow;have HN:=am hn;clear hrow hn HROW
    go_upto_region 17 with fail
    have hc3:c < 3:=by have:=HD.out;omega
    have hg:=heap_alloc_last wr (.cells #[int i64 0,int i64 0,int i64 0] 49);have yv:=qto hg hc3;have fz:=ql hg c;have pc:(0<=(c:Int))=True:=eq_true (by omega);have qc:((c:Int) < 3)=True:=eq_true (by omega);have ec:(([int i64 0,int i64 0,int i64 0]:List Value).set c (int i64 1)).toArray=#[int i64 (l7V c 0),int i64 (l7V c 1),int i64 (l7V c 2)]:=by
     rcases (show c=0\/c=1\/c=2 by omega) with rfl|rfl|rfl<;>rfl
    have hbw:Below wr.heap.size wr (wr.alloc (.cells #[int i64 (l7V c 0),int i64 (l7V c 1),int i64 (l7V c 2)] 49)):=Qm (Below.refl _ _) _;have HG:=am (heap_alloc_last wr (.cells #[int i64 (l7V c 0),int i64 (l7V c 1),int i64 (l7V c 2)] 49));have HO9b:=am (Kd.Ae (Kd.As (Kd.Af HO9.out hbw)) (λk h=>h.2.2.1));have HB4:=bq HB hbw;have EC:=am ec;clear hg hbw hc3 HO9 HB ec
    go_upto_region 18 with fail
    rw[EC.out];clear yv fz pc qc EC;generalize wr.alloc (.cells #[int i64 (l7V c 0),int i64 (l7V c 1),int i64 (l7V c 2)] 49)=w4 at HG HO9b HB4 ⊢;generalize wr.heap.size=gV at HG ⊢;have HW4:=am (Below.refl w4.heap.size w4)
    go_wp2_with (first
     | ((with_reducible refine zd (N:=85) rfl ?_);refine Kd.AR (Kd.int i64) _ 3 ?hg (N:=85) ?hd (xs:=([]:List Int)) (inner:=[]) (ok:=λ_=>True) (okp:=λ_=>True) ?hr ?hp (λ_ hk=>hk) trivial (Below.refl _ _) (Nat.le_refl _) (by simp) ?_;(case hd=>rfl);(case hg=>rfl);(case hr=>first|(go_simp;done)|(go_simp;rfl));(case hp=>exact(Reps.none _ _));intro v13 w5 ho13 hb5 hg5 hnew5)
     | go_in)
    have HR13:=am (Kd.Ai ho13 (bz HW4));have HW5:=bq HW4 hb5;clear ho13 hb5 hg5 hnew5 hlt
    go_loopw [13,14] (λv13 v14 w'=>∃ (d2 i:Nat) (ra:List Int),v14=int i64 (i:Int)/\qf (i+d2=4)/\qf (ra.length=i)/\qf (l7Ra k a0 l2 X c d2 i ra=some row)/\qf (Kd.R (Kd.int i64) 3 w' w4.heap.size (λ_=>True) v13 ra)/\qf (Below w4.heap.size w4 w')) (λ_ v14 _=>4 - (intOf v14).toNat)
    case atStart=>exact⟨4,0,[],rfl,⟨by omega⟩,⟨rfl⟩,HR,⟨wR HR13⟩,⟨bw HW5⟩⟩
    case round=>
     clear HR HR13 HW5 HW4;obtain⟨d2,i,ra,rfl,HD2,HRL,HR,HR13,HW5⟩:=hrel
     cases d2 with
     | zero=>
      have hlt2:decide ((i:Int) < 4)=false:=decide_eq_false (by have:=HD2.out;omega);have hr:=HR.out;rw[l7Ra]at hr;obtain rfl:=Option.some.inj hr;clear hr;have h4:4=i:=HD2.out.symm;subst h4;obtain⟨gr,capr,rfl,hgr,_,_⟩:=Kd.Be HR13.out (by have:=HRL.out;omega);have HGR:=am hgr;rw[HRL.out]at HR13 ⊢;have HR14:=am (Kd.Ai HR13.out (bz HB4));have HO10:=am (Kd.Af HO9b.out HW5.out);have HB10:=bq HB4 HW5.out;clear hgr HR13 HO9b HB4 HW5
      go_upto_region 23 with fail
      iterate 10 go_step
      refine Kd.Au KI (w0:=w) w.heap.size rfl (.tmp 104) (.tmp 106) 24 37 (.slice none 0 0) 24 rfl Tryz.underlying24 Ja rfl (by decide) (by omega) u9 acc ra [.slice (some ⟨gr,0,none⟩) 4 capr] (λ_=>True) (λk=>some k=(Value.slice (some ⟨gr,0,none⟩) 4 capr).ownBlock) rfl rfl ?aP (λk hk=>⟨trivial,λe=>by have h1:=HO10.out.1 k e.symm;have h2:k=gr:=Option.some.inj hk;have:=HGR.out;omega⟩) ?aF ?aO ?aB ?aS ?aL ?_
      (case aP=>exact⟨_,rfl,λk hk=>hk.symm,HR14.out.2⟩)
      (case aB=>exact HB10.out)
      (case aF=>exact(λ_ _=>trivial))
      (case aO=>exact Kd.Ae HO10.out (λ_ _=>trivial))
      (case aS=>exact HB10.out.size)
      (case aL=>have:=HAC.out;have:=HD.out;omega)
      intro v9' w9 ho9 hb9 hg9 hn9;have hw1:wrap64 ((c:Int)+1)=((c+1:Nat):Int):=by have:=HD.out;unfold wrap64;omega
      try go_wp2
      refine⟨?rel,?measure⟩
      case measure=>rw[hw1];exact qg4 HD.out
      case rel=>exact⟨d,c+1,acc++[ra],by rw[hw1],⟨by have:=HD.out;omega⟩,⟨by rw[List.length_append,HAC.out];rfl⟩,HN,⟨ho9⟩,⟨hb9⟩⟩
     | succ d2=>
      have hlt2:decide ((i:Int) < 4)=true:=decide_eq_true (by have:=HD2.out;omega);have h2:=HR.out;rw[l7Ra]at h2
      by_cases hi:i < l2.length
      rotate_left
      ·rw[if_neg hi]at h2;cases h2
      rw[if_pos hi]at h2;obtain⟨t,ht,hn⟩:=Option.bind_eq_some_iff.1 h2;have HI:=am hi;have HT:=am ht;have HN2:=am hn;clear h2 hi ht hn HR
      go_upto_region 22 with fail
      obtain⟨adB,B,cB,eB,b0,hB2,hB3⟩:=qgn HR2.out i HI.out;subst eB;obtain⟨bi,hbi⟩:∃ b,l2.getD i []=b:=⟨_,rfl⟩
      rw[hbi]at b0 hB2 hB3 HT;clear hbi;have HBW:=bq HB4 HW5.out;have b1:=wcl HBW b0;have y0:=wcl HBW X0.out;have y1:=wcl HBW X1.out;have y2:=wcl HBW X2.out;have hgv:=(HW5.out.block gV (Qj HG.out)).trans HG.out;have v0:wr.cell? ⟨gV,0,none⟩=some (int i64 (l7V c 0)):=(qe hgv 0).trans rfl;have v1:wr.cell? ⟨gV,1,none⟩=some (int i64 (l7V c 1)):=(qe hgv 1).trans rfl;have v2:wr.cell? ⟨gV,2,none⟩=some (int i64 (l7V c 2)):=(qe hgv 2).trans rfl;have HB3:=am hB3;have HB2:=am hB2;have HVC:=am (Kd.Ad hB3 HBW.out);clear b0 hgv hB2 hB3;have pi:(0<=(i:Int))=True:=eq_true (by omega);have qi:(i < l2.length)=True:=eq_true HI.out;have p3:(0<=a3)=True:=eq_true HCK.out.1;have q3:(a3 < l1.length)=True:=eq_true HCK.out.2;have hS:(λw':World=>w'.cell? (adB.add i)=some (.slice B bi.length cB)/\w'.cell? (adX.add (a3.toNat*3))=some (int i64 X.f0.f0)/\w'.cell? ⟨(adX.add (a3.toNat*3)).block,(adX.add (a3.toNat*3)).off+1,none⟩=some (int i64 X.f0.f1)/\w'.cell? ⟨(adX.add (a3.toNat*3)).block,(adX.add (a3.toNat*3)).off+2,none⟩=some (int i64 X.f0.f2)/\w'.cell? ⟨gV,0,none⟩=some (int i64 (l7V c 0))/\w'.cell? ⟨gV,1,none⟩=some (int i64 (l7V c 1))/\w'.cell? ⟨gV,2,none⟩=some (int i64 (l7V c 2))) wr.drew:=⟨b1,y0,y1,y2,v0,v1,v2⟩
      clear b1 y0 y1 y2 v0 v1 v2;refine st (T:=jr.T22) (B:=jr.B22) 15 (λw':World=>w'.cell? (adB.add i)=some (.slice B bi.length cB)/\w'.cell? (adX.add (a3.toNat*3))=some (int i64 X.f0.f0)/\w'.cell? ⟨(adX.add (a3.toNat*3)).block,(adX.add (a3.toNat*3)).off+1,none⟩=some (int i64 X.f0.f1)/\w'.cell? ⟨(adX.add (a3.toNat*3)).block,(adX.add (a3.toNat*3)).off+2,none⟩=some (int i64 X.f0.f2)/\w'.cell? ⟨gV,0,none⟩=some (int i64 (l7V c 0))/\w'.cell? ⟨gV,1,none⟩=some (int i64 (l7V c 1))/\w'.cell? ⟨gV,2,none⟩=some (int i64 (l7V c 2))) [11,12,13] (by kernel_rfl) (by kernel_rfl) hS λhHeld HT_ HW_=>?_;clear hS;refine Et 0 90 1 91 HT_ ?_;refine Et 2 92 3 93 HT_ ?_;refine pz 4 94 HT_ ?_;refine tk 5 95 HT_ HW_ hHeld ?_;refine Et 6 96 7 97 HT_ ?_;refine pz 8 98 HT_ ?_;refine tk 9 99 HT_ HW_ hHeld ?_;refine tk 10 100 HT_ HW_ hHeld ?_;clear hHeld;refine la 11 (some 101) HT_ λK hK=>?_;refine gs_ Tryz.func51 #[int i64 a0,.slice B bi.length cB,.agg #[int i64 X.f0.f0,int i64 X.f0.f1,int i64 X.f0.f2],.agg #[int i64 (l7V c 0),int i64 (l7V c 1),int i64 (l7V c 2)]] ?_;refine(j8.calls k a0 B cB bi X.f0.f0 X.f0.f1 X.f0.f2 (l7V c 0) (l7V c 1) (l7V c 2) t _ (Kd.Ad (w:=wr) HVC.out gs) HB2.out HT.out).mono ?_;rintro e w6 ⟨rfl,hb6⟩;have HW6:=bq HW5 hb6;have HR6:=am (Kd.Af (wR HR13 (W':=wr.drew)) hb6);clear hb6;refine⟨_,rfl,?_⟩;refine hK.out _ _ (nz ?_);clear hK K;refine la 12 (some 102) HT_ λK hK=>?_;refine qbq (w1:=?_) (v:=?_) (by rfl) rfl ?_ ?_
      rotate_left 2
      ·go_simp
       constructor
       ·rfl
       ·rfl
      refine hK.out _ _ (nz ?_);clear hK K;refine la 13 (some 103) HT_ λK hK=>?_;refine Kd.AA (Kd.int i64) (w0:=w4) w4.heap.size (by rfl) (.tmp 90) (.tmp 102) 37 3 (int i64 0) 8 rfl Tryz.underlying37 Ju rfl (by decide) (by omega) u13 ra t [int i64 t] (λ_=>True) (λ_=>False) rfl rfl ?aP (λ_ hk=>hk.elim) ?aF ?aO ?aB ?aS ?aL ?_
      (case aP=>rfl)
      (case aB=>exact HW6.out)
      (case aF=>exact(λ_ _=>trivial))
      (case aO=>exact HR6.out)
      (case aS=>exact HW6.out.size)
      (case aL=>have:=HRL.out;have:=HD2.out;omega)
      intro v9' w9 ho9 hb9 hg9 hn9;refine hK.out _ _ (nz ?_);clear hK K;refine pz 14 13 HT_ ?_;refine Zh (Qe HT_.out (by kernel_rfl)) ?_;clear HT_ HW_;have hw1:wrap64 ((i:Int)+1)=((i+1:Nat):Int):=by have:=HD2.out;unfold wrap64;omega
      try go_wp2
      go_roundw
      case measure=>rw[hw1];exact qg4 HD2.out
      case rel=>exact⟨d2,i+1,ra++[t],by rw[hw1],⟨by have:=HD2.out;omega⟩,⟨by rw[List.length_append,HRL.out];rfl⟩,HN2,⟨Kd.Af ho9 gs⟩,⟨bw (am hb9)⟩⟩
 ·rw [if_neg c6] at hrow
  have d6:decide (a3 < 6)=false:=decide_eq_false c6
  by_cases c21:a3 < 21
  ·rw [if_pos c21] at hrow
   have d21:decide (a3 < 21)=true:=decide_eq_true c21;obtain⟨ends,hends,hr2⟩:=Option.bind_eq_some_iff.1 hrow
   by_cases he:1 < ends.length
   rotate_left
   ·rw[if_neg he]at hr2;cases hr2
   rw[if_pos he]at hr2;obtain⟨line,hline,hr3⟩:=Option.bind_eq_some_iff.1 hr2;obtain⟨pts,hpts,hcurve⟩:=Option.bind_eq_some_iff.1 hr3;have hk:6<=a3/\a3 < 21:=⟨by omega,c21⟩
   have HENDS:=am hends;have HE:=am he;have HLINE:=am hline;have HPTS:=am hpts;have HCURVE:=am hcurve;clear hrow hr2 hr3 hends he hline hpts hcurve c6 c21 HO9;go_wp2_with fail;refine(qag.calls a3 1 (l1M a3 0) (l1M a3 1) (l1M a3 2) (l1M a3 3) (l1M a3 4) (l1M a3 5) _ (if_pos hk)).mono ?_;rintro e w3 ⟨rfl,hb3⟩;have HB3:=bq HB hb3;have HLA3:=am (Kd.Ad HLA.out hb3);clear hb3 HB HLA hk
   go_upto_region 26 with fail
   have HG:=am (heap_alloc_last w3 (.cells #[int i64 1,int i64 (l1M a3 0),int i64 (l1M a3 1),int i64 (l1M a3 2),int i64 (l1M a3 3),int i64 (l1M a3 4),int i64 (l1M a3 5)] 68));have hbw:Below w3.heap.size w3 (w3.alloc (.cells #[int i64 1,int i64 (l1M a3 0),int i64 (l1M a3 1),int i64 (l1M a3 2),int i64 (l1M a3 3),int i64 (l1M a3 4),int i64 (l1M a3 5)] 68)):=Qm (Below.refl _ _) _;have HB4:=bq HB3 hbw;have HLA4:=am (Kd.Ad HLA3.out hbw);clear hbw HLA3 HB3;generalize w3.alloc (.cells #[int i64 1,int i64 (l1M a3 0),int i64 (l1M a3 1),int i64 (l1M a3 2),int i64 (l1M a3 3),int i64 (l1M a3 4),int i64 (l1M a3 5)] 68)=w4 at HG HB4 HLA4 ⊢;generalize w3.heap.size=gB at HG ⊢;have HW4:=am (Below.refl w4.heap.size w4)
   go_wp2_with (first
    | ((with_reducible refine zd (N:=113) rfl ?_);refine Kd.AR k51 _ 51 ?hg (N:=113) ?hd (xs:=([]:List S51)) (inner:=[]) (ok:=λ_=>True) (okp:=λ_=>True) ?hr ?hp (λ_ hk=>hk) trivial (Below.refl _ _) (Nat.le_refl _) (by simp) ?_;(case hd=>rfl);(case hg=>rfl);(case hr=>first|(go_simp;done)|(go_simp;rfl));(case hp=>exact(Reps.none _ _));intro v16 w5 ho16 hb5 hg5 hnew5)
    | go_in)
   have HR16:=am (Kd.Ai ho16 (bz HW4));have HW5:=bq HW4 hb5;clear ho16 hb5 hg5 hnew5
   go_loopw [16,17] (λv16 v17 w'=>∃ (d i:Nat) (acc:List S51),v17=int i64 (i:Int)/\qf (i+d=6)/\qf (acc.length<=i)/\qf (l7En (l1M a3) l1 d i acc=some ends)/\qf (Kd.R k51 51 w' w4.heap.size (λ_=>True) v16 acc)/\qf (Below w4.heap.size w4 w')) (λ_ v17 _=>6 - (intOf v17).toNat)
   case atStart=>exact⟨6,0,[],rfl,⟨rfl⟩,⟨Nat.le_refl _⟩,HENDS,⟨wR HR16⟩,⟨bw HW5⟩⟩
   case round=>
    clear HENDS HR16 HW5 HW4;obtain⟨d,i,acc,rfl,HD,HAC,HEN,HR16,HW5⟩:=hrel
    cases d with
    | zero=>
     have hlt:decide ((i:Int) < 6)=false:=decide_eq_false (by have:=HD.out;omega);have hr:=HEN.out;rw[l7En]at hr;obtain rfl:=Option.some.inj hr;clear hr;obtain⟨g16,c16,rfl,_,_,_⟩:=Kd.Be HR16.out (by have:=HE.out;omega);have HC16:=am (Kd.Ac HR16.out).2.2;have HL16:=am (Kd.Ac HR16.out).2.1;obtain⟨ad,e1,x0,x1,x2⟩:=Zn HC16.out 0 (by omega) (by have:=HE.out;omega);obtain rfl:=Option.some.inj e1;obtain⟨ad,e2,x3,x4,x5⟩:=Zn HC16.out 1 (by omega) (by have:=HE.out;omega);obtain rfl:=Option.some.inj e2;have HB5:=bq HB4 HW5.out;have HLA5:=am (Kd.Ad HLA4.out HW5.out);clear e1 e2 HB4 HLA4 HW5 HG HR16;generalize hX0:qg acc 0=X0 at x0 x1 x2;generalize hX1:qg acc 1=X1 at x3 x4 x5;have HX:=am (show Qy.f a0 X0.f0.f0 X0.f0.f1 X0.f0.f2 X1.f0.f0 X1.f0.f1 X1.f0.f2=some line by rw[<-hX0,<-hX1];exact HLINE.out);have p0:(0 < acc.length)=True:=eq_true (by have:=HE.out;omega);have p1:((1:Int) < (acc.length:Int))=True:=eq_true (by have:=HE.out;omega);clear hX0 hX1 HLINE HE
     go_upto_region 32 with fail
     have hS:(λw':World=>w'.cell? (⟨g16,0,none⟩:Addr)=some (int i64 X0.f0.f0)/\w'.cell? (⟨g16,1,none⟩:Addr)=some (int i64 X0.f0.f1)/\w'.cell? (⟨g16,2,none⟩:Addr)=some (int i64 X0.f0.f2)/\w'.cell? (⟨g16,3,none⟩:Addr)=some (int i64 X1.f0.f0)/\w'.cell? (⟨g16,4,none⟩:Addr)=some (int i64 X1.f0.f1)/\w'.cell? (⟨g16,5,none⟩:Addr)=some (int i64 X1.f0.f2)) wr.drew:=⟨x0,x1,x2,x3,x4,x5⟩
     clear x0 x1 x2 x3 x4 x5;refine st (T:=jr.T32) (B:=jr.B32) 9 (λw':World=>w'.cell? (⟨g16,0,none⟩:Addr)=some (int i64 X0.f0.f0)/\w'.cell? (⟨g16,1,none⟩:Addr)=some (int i64 X0.f0.f1)/\w'.cell? (⟨g16,2,none⟩:Addr)=some (int i64 X0.f0.f2)/\w'.cell? (⟨g16,3,none⟩:Addr)=some (int i64 X1.f0.f0)/\w'.cell? (⟨g16,4,none⟩:Addr)=some (int i64 X1.f0.f1)/\w'.cell? (⟨g16,5,none⟩:Addr)=some (int i64 X1.f0.f2)) [7] (by kernel_rfl) (by kernel_rfl) hS λhHeld HT_ HW_=>?_;clear hS;refine Et 0 130 1 131 HT_ ?_;refine pz 2 132 HT_ ?_;refine tk 3 133 HT_ HW_ hHeld ?_;refine Et 4 134 5 135 HT_ ?_;refine tk 6 136 HT_ HW_ hHeld ?_;clear hHeld;refine la 7 (some 137) HT_ λK hK=>?_;refine gs_ Tryz.func53 #[int i64 a0,.agg #[int i64 X0.f0.f0,int i64 X0.f0.f1,int i64 X0.f0.f2],.agg #[int i64 X1.f0.f0,int i64 X1.f0.f1,int i64 X1.f0.f2]] ?_;refine(Qy.calls a0 X0.f0.f0 X0.f0.f1 X0.f0.f2 X1.f0.f0 X1.f0.f1 X1.f0.f2 line _ HX.out).mono ?_;rintro e w6 ⟨v6,rfl,hv6,hb6⟩;obtain⟨AV,cV,e6⟩:=Kd.Ah hv6;subst e6;have HCV:=am (Kd.Ac hv6).2.2;have HVL:=am (Kd.Ac hv6).2.1;have HB6:=bq HB5 hb6;have HLA6:=am (Kd.Ad (wC HLA5 (W':=wr.drew)) hb6);clear hv6 hb6 HB5 HLA5;refine⟨_,rfl,?_⟩;refine hK.out _ _ (nz ?_);clear hK K;refine pz 8 18 HT_ ?_;refine Zh (Qe HT_.out (by kernel_rfl)) ?_;clear HT_ HW_ p0 p1 HX HC16 HL16;have HW6:=am (Below.refl w6.heap.size w6)
     go_wp2_with (first
      | ((with_reducible refine zd (N:=138) rfl ?_);refine Kd.AR k51 _ 51 ?hg (N:=138) ?hd (xs:=([]:List S51)) (inner:=[]) (ok:=λ_=>True) (okp:=λ_=>True) ?hr ?hp (λ_ hk=>hk) trivial (Below.refl _ _) (Nat.le_refl _) (by simp) ?_;(case hd=>rfl);(case hg=>rfl);(case hr=>first|(go_simp;done)|(go_simp;rfl));(case hp=>exact(Reps.none _ _));intro v19 w7 ho19 hb7 hg7 hnew7)
      | go_in)
     have HR19:=am (Kd.Ai ho19 (bz HW6));have HW7:=bq HW6 hb7;clear ho19 hb7 hg7 hnew7
     go_loopw [19,20] (λv19 v20 w'=>∃ (i:Nat) (acc:List S51),v20=int i64 (i:Int)/\qf (i<=all.length)/\qf (acc.length<=i)/\qf (filO (λx=>Jy.f a0 x.f0.f0 x.f0.f1 x.f0.f2 line) (all.drop i) acc=some pts)/\qf (Kd.R k51 51 w' w6.heap.size (λ_=>True) v19 acc)/\qf (Below w6.heap.size w6 w')) (λ_ v20 _=>all.length - (intOf v20).toNat)
     case atStart=>exact⟨0,[],rfl,⟨Nat.zero_le _⟩,⟨Nat.le_refl _⟩,HPTS,⟨wR HR19⟩,⟨bw HW7⟩⟩
     case round=>
      clear HPTS HR19 HW7 HW6;obtain⟨i,acc,rfl,HI,HAC,HF,HR19,HW7⟩:=hrel
      by_cases hi:i < all.length
      rotate_left
      ·have hlt:decide ((i:Int) < (all.length:Int))=false:=decide_eq_false (by omega)
       have ni:(i < all.length)=False:=eq_false hi;have hr:=HF.out;rw[List.drop_eq_nil_of_le (by omega),filO]at hr;obtain rfl:=Option.some.inj hr;clear hr hi;obtain⟨A19,c19,e19⟩:=Kd.Ah HR19.out;subst e19;have HC19:=am (Kd.Ac HR19.out).2.2;have HL19:=am (Kd.Ac HR19.out).2.1;have HB7:=bq HB6 HW7.out;clear HB6 HW7 HR19;go_wp2_with fail;refine(ju.calls k a0 A1 c1 l1 A2 c2 l2 A19 c19 acc rows _ (Kd.Ad HR1.out HB7.out) HC1.out (Kd.Ad HR2.out HB7.out) HC2.out HC19.out HL19.out HCURVE.out).mono ?_;rintro e w8 ⟨v8,rfl,hv8,hb8⟩;have HB8:=bq HB7 hb8;obtain⟨A9,c9,e9⟩:=Kd.Ah (Kd.S_R hv8);subst e9;have HC9:=am (Kd.Al hv8).2.2;have HL9:=am (Kd.Al hv8).2.1;clear hv8 hb8 HB7;go_wp2_with fail;refine(Js.calls k a0 A9 c9 rows o1 o2 _ HC9.out HL9.out HOF.out).mono ?_;rintro e w9 ⟨v5,rfl,hv5,hb5⟩;have HB9:=bq HB8 hb5;have HV5:=am (Kd.Ai hv5 (bz HB8));clear hv5 hb5;go_wp2_with fail
       go_ret
       exact⟨_,fq,wR HV5,bw HB9⟩
      ·have hlt:decide ((i:Int) < (all.length:Int))=true:=decide_eq_true (by omega)
       obtain⟨b,hb,hn⟩:=qqh hi z51 HF.out;obtain⟨adL,eL,x0,x1,x2⟩:=Zn (Kd.Ad HLA6.out HW7.out) (i:Int) (by omega) (by omega);subst eL;have HBT:=am hb;have HN:=am hn;rw[Int.toNat_natCast]at x0 x1 x2;have pi:(0<=(i:Int))=True:=eq_true (by omega);have qi:((i:Int) < all.length)=True:=eq_true (by omega);have qi2:(i < all.length)=True:=eq_true hi;have HI2:=am hi;clear hb hn hi;generalize hX:qg all (i:Int)=X at x0 x1 x2;have hX':all.getD i z51=X:=hX;rw[hX']at HBT HN;clear hX hX';go_wp2_with fail;refine(Jy.calls a0 X.f0.f0 X.f0.f1 X.f0.f2 AV cV line b _ (Kd.Ad HCV.out HW7.out) HVL.out HBT.out).mono ?_;rintro e w8 ⟨rfl,hb8⟩;have y0:=(hb8.cell (World.block_lt_of_cell? _ _ x0)).trans x0;have y1:=(hb8.cell (World.block_lt_of_cell? _ _ x1)).trans x1;have y2:=(hb8.cell (World.block_lt_of_cell? _ _ x2)).trans x2;have HR20:=am (Kd.Af HR19.out hb8);have HW8:=bq HW7 hb8;clear x0 x1 x2 hb8 HR19 HW7;have hw1:wrap64 ((i:Int)+1)=((i+1:Nat):Int):=by have:=HI2.out;have:=HAL.out;unfold wrap64;omega
       have HW1:=am hw1;clear hw1
       cases b with
       | true=>
        go_upto_region 38 with fail
        iterate 60 (try ((fail_if_success at_builtin);first|go_step|go_values|go_upon))
        refine Kd.Au k51 (w0:=w6) w6.heap.size rfl (.tmp 152) (.tmp 157) 27 51 (.agg #[int i64 0,int i64 0,int i64 0]) 24 rfl Tryz.underlying27 qb2 rfl (by decide) (by omega) u19 acc X [int i64 X.f0.f0,int i64 X.f0.f1,int i64 X.f0.f2] (λ_=>True) (λ_=>False) rfl rfl (qap _ _ _ X) (λ_ hk=>hk.elim) (λ_ _=>trivial) (wR HR20) (bw HW8) (bz HW8) (by have:=HAC.out;have:=HI2.out;have:=HAL.out;omega) ?_;intro v9' w9 ho9 hb9 hg9 hn9;go_wp2_with fail;exact⟨⟨i+1,acc++[X],by rw[HW1.out],⟨HI2.out⟩,⟨by have:=HAC.out;rw[List.length_append,List.length_singleton];omega⟩,HN,⟨ho9⟩,⟨hb9⟩⟩,by rw[HW1.out];exact qe7 HI2.out⟩
       | false=>
        go_wp2_with fail;exact⟨⟨i+1,acc,by rw[HW1.out],⟨HI2.out⟩,⟨by have:=HAC.out;omega⟩,HN,HR20,HW8⟩,by rw[HW1.out];exact qe7 HI2.out⟩
    | succ d=>
     have hlt:decide ((i:Int) < 6)=true:=decide_eq_true (by have:=HD.out;omega);have hgv:=(HW5.out.block gB (Qj HG.out)).trans HG.out;have m0:wr.cell? ⟨gB,1+i,none⟩=some (int i64 (l1M a3 i)):=by
      have hi6:i < 6:=by have:=HD.out;omega
      refine(qe hgv (1+i)).trans ?_
      rcases (show i=0\/i=1\/i=2\/i=3\/i=4\/i=5 by omega) with rfl|rfl|rfl|rfl|rfl|rfl<;>rfl
     have pi:(0<=(i:Int))=True:=eq_true (by omega);have qi:((i:Int) < 6)=True:=eq_true (by have:=HD.out;omega);clear hgv
     by_cases hM:l1M a3 i=1
     ·have dM:(l1M a3 i == 1)=true:=beq_iff_eq.2 hM
      have h2:=HEN.out;rw[l7En,if_pos hM]at h2
      by_cases hi:i < l1.length
      rotate_left
      ·rw[if_neg hi]at h2;cases h2
      rw[if_pos hi]at h2;have HN:=am h2;have HI:=am hi;have HDM:=am dM;clear h2 hi hM;obtain⟨adX,eX,x0,x1,x2⟩:=Zn HR1.out (i:Int) (by omega) (by have:=HI.out;omega);subst eX;rw[Int.toNat_natCast]at x0 x1 x2;have HBW:=bq HB4 HW5.out;have y0:=wcl HBW x0;have y1:=wcl HBW x1;have y2:=wcl HBW x2;have qi2:((i:Int) < l1.length)=True:=eq_true (by have:=HI.out;omega);have qi3:(i < l1.length)=True:=eq_true HI.out;clear x0 x1 x2;generalize hX:qg l1 (i:Int)=X at y0 y1 y2;have HX:=am hX;clear hX
      go_upto_region 31 with fail
      iterate 60 (try ((fail_if_success at_builtin);first|go_step|go_values|go_upon))
      refine Kd.Au k51 (w0:=w4) w4.heap.size rfl (.tmp 123) (.tmp 128) 27 51 (.agg #[int i64 0,int i64 0,int i64 0]) 24 rfl Tryz.underlying27 qb2 rfl (by decide) (by omega) u16 acc X [int i64 X.f0.f0,int i64 X.f0.f1,int i64 X.f0.f2] (λ_=>True) (λ_=>False) rfl rfl (qap _ _ _ X) (λ_ hk=>hk.elim) (λ_ _=>trivial) (wR HR16) (bw HW5) (bz HW5) (by have:=HAC.out;have:=HD.out;omega) ?_;intro v9' w9 ho9 hb9 hg9 hn9;rw[<-HX.out]at ho9;go_wp2_with fail;have hw1:wrap64 ((i:Int)+1)=((i+1:Nat):Int):=by have:=HD.out;unfold wrap64;omega
      exact⟨⟨d,i+1,acc++[l7Pt l1 i],by rw[hw1],⟨by have:=HD.out;omega⟩,⟨by have:=HAC.out;rw[List.length_append,List.length_singleton];omega⟩,HN,⟨ho9⟩,⟨hb9⟩⟩,by rw[hw1];exact qg4 HD.out⟩
     ·have dM:(l1M a3 i == 1)=false:=beq_eq_false_iff_ne.2 hM
      have h2:=HEN.out;rw[l7En,if_neg hM]at h2;have HN:=am h2;clear h2 hM;go_wp2_with fail;have hw1:wrap64 ((i:Int)+1)=((i+1:Nat):Int):=by have:=HD.out;unfold wrap64;omega
      exact⟨⟨d,i+1,acc,by rw[hw1],⟨by have:=HD.out;omega⟩,⟨by have:=HAC.out;omega⟩,HN,HR16,HW5⟩,by rw[hw1];exact qg4 HD.out⟩
  ·rw [if_neg c21] at hrow
   have d21:decide (a3 < 21)=false:=decide_eq_false c21
   by_cases hk:a3 - 20<=l1.length
   rotate_left
   ·rw[if_neg hk]at hrow;cases hrow
   rw[if_pos hk]at hrow;obtain⟨cs,hcs,hr2⟩:=Option.bind_eq_some_iff.1 hrow
   by_cases he:0 < cs.length
   rotate_left
   ·rw[if_neg he]at hr2;cases hr2
   rw[if_pos he]at hr2;obtain⟨pts,hpts,hcurve⟩:=Option.bind_eq_some_iff.1 hr2;obtain⟨n,hn⟩:∃ n:Nat,a3 - 21=(n:Int):=⟨(a3 - 21).toNat,by omega⟩
   have e1:(a3 - 21).toNat=n:=by omega
   have e2:(a3 - 20).toNat=n+1:=by omega
   rw[e1,e2]at hcs;have wn1:wrap64 (a3 - 21)=(n:Int):=by have:=HS.out;unfold wrap64;omega
   have wn2:wrap64 (a3 - 20)=((n+1:Nat):Int):=by have:=HS.out;unfold wrap64;omega
   have HNL:=am (show n+1<=l1.length by omega);have HCS:=am hcs;have HE:=am he;have HPTS:=am hpts;have HCURVE:=am hcurve;clear hrow hr2 hcs he hpts hcurve c6 c21 HO9 hk hn e1 e2
   go_upto_region 3 with fail
   refine st (T:=jr.T3) (B:=jr.B3) 12 (λ_=>True) [0,5,10] (by kernel_rfl) (by kernel_rfl) trivial λhHeld HT_ HW_=>?_;clear hHeld;have sc1:(n<=c1)=True:=eq_true (by have:=HNL.out;have:=HC1.out;omega);have sc2:(0<=(n:Int)+1)=True:=eq_true (by omega);have sc3:((n:Int)+1<=(l1.length:Int))=True:=eq_true (by have:=HNL.out;omega);refine Et 1 31 2 32 HT_ ?_;refine Et 3 33 4 34 HT_ ?_;refine Et 6 36 7 37 HT_ ?_;refine Et 8 38 9 39 HT_ ?_;clear sc1 sc2 sc3 wn1 wn2;refine la 0 (some 30) HT_ λK hK=>?_;refine Kd.AX k51 (w0:=w2) w2.heap.size 51 ?hg (N:=30) ?hd (xs:=([]:List S51)) (inner:=[]) (ok:=λ_=>True) (okp:=λ_=>True) ?hr ?hp (λ_ hk=>hk) trivial (Qw (Below.refl _ _)) (Nat.le_refl _) (by simp) ?_
   (case hd=>rfl)
   (case hg=>rfl)
   (case hr=>first|(go_simp;done)|(go_simp;rfl))
   (case hp=>exact(Reps.none _ _))
   intro v30 w5 ho5 hb5 hg5 hnew5
   show K (Act.put _ (some 30) v30) w5
   refine hK.out _ _ (nz ?_);clear hK K hg5 hnew5;refine la 5 (some 35) HT_ λK hK=>?_;refine Kd.AE k51 (w0:=w2) w2.heap.size (by rfl) (.tmp 30) (.tmp 34) 27 51 (.agg #[int i64 0,int i64 0,int i64 0]) 24 rfl Tryz.underlying27 qb2 rfl (by decide) (by omega) v30 [] (l1.take n) A1 n c1 (λ_=>True) (λ_=>False) rfl rfl ho5 (Kd.Ad (qu8 (Kd.Ad HR1.out HB.out) (by have:=HNL.out;omega)) hb5) (λ_ _ h=>h) (λ_ h=>h.elim) (λ_ _=>trivial) hb5 hb5.size (by have:=HNL.out;have:=HS.out;simp only[List.length_nil];omega) ?_;intro v35 w6 ho6 hb6 hg6 hnew6
   show K (Act.put _ (some 35) v35) w6
   refine hK.out _ _ (nz ?_);clear hK K hg6 hnew6 ho5 hb5;refine la 10 (some 40) HT_ λK hK=>?_;refine Kd.AE k51 (w0:=w2) w2.heap.size (by rfl) (.tmp 35) (.tmp 39) 27 51 (.agg #[int i64 0,int i64 0,int i64 0]) 24 rfl Tryz.underlying27 qb2 rfl (by decide) (by omega) v35 ([]++l1.take n) (l1.drop (n+1)) (if c1=n+1 then A1 else Option.map (λx=>x.add ((n+1)*3)) A1) (l1.length - (n+1)) (c1 - (n+1)) (λ_=>True) (λ_=>False) rfl rfl ho6 (Kd.Ad (qvd (d:=k51) (Kd.Ad HR1.out HB.out) HC1.out HNL.out) hb6) (λ_ _ h=>h) (λ_ h=>h.elim) (λ_ _=>trivial) hb6 hb6.size (by have:=HNL.out;have:=HS.out;simp only[List.nil_append,List.length_take];omega) ?_;intro v40 w7 ho7 hb7 hg7 hnew7;rw[List.nil_append]at ho7
   show K (Act.put _ (some 40) v40) w7
   refine hK.out _ _ (nz ?_);clear hK K hg7 hnew7 ho6 hb6;refine pz 11 21 HT_ ?_;refine Zh (Qe HT_.out (by kernel_rfl)) ?_;clear HT_ HW_;have HB7:=bq HB hb7;have HLA7:=am (Kd.Ad HLA.out hb7);obtain⟨A21,c21,e21⟩:=Kd.Ah ho7;subst e21;have HC21:=am (Kd.Ac ho7).2.2;have HL21:=am (Kd.Ac ho7).2.1;clear HB HLA ho7 hb7;generalize l1.take n++l1.drop (n+1)=five at HC21 HL21 HCS ⊢;generalize (if c1=n+1 then A1 else Option.map (λx=>x.add ((n+1)*3)) A1)=AS;go_wp2_with fail;refine(jl.calls k a0 A21 c21 five cs _ HC21.out HL21.out HCS.out).mono ?_;rintro e w8 ⟨v8,rfl,hv8,hb8⟩;obtain⟨gq,cq,e8,_,_,_⟩:=Kd.Cl hv8 HE.out;subst e8;obtain⟨adq,B,cB,eq,q0,q1,q2⟩:=qgn (Kd.Az hv8).2.2 0 HE.out;injection eq with eq
   subst eq;rw[Jz]at q0;have HB8:=bq HB7 hb8;have HLA8:=am (Kd.Ad HLA7.out hb8);have HQ2:=am q2;have HQ1:=am q1;obtain⟨co,hco⟩:∃ co,cs.getD 0 []=co:=⟨_,rfl⟩
   have HE1:(0 < cs.length)=True:=eq_true HE.out;rw[hco]at q0 HQ1 HQ2 HPTS;clear hv8 hb8 q1 q2 HB7 HLA7 HC21 HL21 HCS hco
   go_upto_region 5 with fail
   have HW8:=am (Below.refl w8.heap.size w8);clear q0 HE1 HE
   go_wp2_with (first
    | ((with_reducible refine zd (N:=46) rfl ?_);refine Kd.AR k51 _ 51 ?hg (N:=46) ?hd (xs:=([]:List S51)) (inner:=[]) (ok:=λ_=>True) (okp:=λ_=>True) ?hr ?hp (λ_ hk=>hk) trivial (Below.refl _ _) (Nat.le_refl _) (by simp) ?_;(case hd=>rfl);(case hg=>rfl);(case hr=>first|(go_simp;done)|(go_simp;rfl));(case hp=>exact(Reps.none _ _));intro v23 w9 ho23 hb9 hg9 hnew9)
    | go_in)
   have HR23:=am (Kd.Ai ho23 (bz HW8));have HW9:=bq HW8 hb9;clear ho23 hb9 hg9 hnew9
   go_loopw [23,24] (λv23 v24 w'=>∃ (i:Nat) (acc:List S51),v24=int i64 (i:Int)/\qf (i<=all.length)/\qf (acc.length<=i)/\qf (filO (λx=>(Qh.f a0 x.f0.f0 x.f0.f1 x.f0.f2).bind λs=>(jy.f k a0 co s).bind λt=>some (t == 0)) (all.drop i) acc=some pts)/\qf (Kd.R k51 51 w' w8.heap.size (λ_=>True) v23 acc)/\qf (Below w8.heap.size w8 w')) (λ_ v24 _=>all.length - (intOf v24).toNat)
   case atStart=>exact⟨0,[],rfl,⟨Nat.zero_le _⟩,⟨Nat.le_refl _⟩,HPTS,⟨wR HR23⟩,⟨bw HW9⟩⟩
   case round=>
    clear HPTS HR23 HW9 HW8;obtain⟨i,acc,rfl,HI,HAC,HF,HR23,HW9⟩:=hrel
    by_cases hi:i < all.length
    rotate_left
    ·have hlt:decide ((i:Int) < (all.length:Int))=false:=decide_eq_false (by omega)
     have ni:(i < all.length)=False:=eq_false hi;have hr:=HF.out;rw[List.drop_eq_nil_of_le (by omega),filO]at hr;obtain rfl:=Option.some.inj hr;clear hr hi;obtain⟨A23,c23,e23⟩:=Kd.Ah HR23.out;subst e23;have HC23:=am (Kd.Ac HR23.out).2.2;have HL23:=am (Kd.Ac HR23.out).2.1;have HB9:=bq HB8 HW9.out;clear HB8 HW9 HR23;go_wp2_with fail;refine(ju.calls k a0 A1 c1 l1 A2 c2 l2 A23 c23 acc rows _ (Kd.Ad HR1.out HB9.out) HC1.out (Kd.Ad HR2.out HB9.out) HC2.out HC23.out HL23.out HCURVE.out).mono ?_;rintro e w10 ⟨v8,rfl,hv8,hb8⟩;have HB10:=bq HB9 hb8;obtain⟨A9,c9,e9⟩:=Kd.Ah (Kd.S_R hv8);subst e9;have HC9:=am (Kd.Al hv8).2.2;have HL9:=am (Kd.Al hv8).2.1;clear hv8 hb8 HB9;go_wp2_with fail;refine(Js.calls k a0 A9 c9 rows o1 o2 _ HC9.out HL9.out HOF.out).mono ?_;rintro e w11 ⟨v5,rfl,hv5,hb5⟩;have HB11:=bq HB10 hb5;have HV5:=am (Kd.Ai hv5 (bz HB10));clear hv5 hb5;go_wp2_with fail
     go_ret
     exact⟨_,fq,wR HV5,bw HB11⟩
    ·have hlt:decide ((i:Int) < (all.length:Int))=true:=decide_eq_true (by omega)
     obtain⟨b,hb,hn⟩:=qqh hi z51 HF.out;obtain⟨s,hs,hb⟩:=Option.bind_eq_some_iff.1 hb;obtain⟨t,ht,hb⟩:=Option.bind_eq_some_iff.1 hb;obtain rfl:=Option.some.inj hb;obtain⟨adL,eL,x0,x1,x2⟩:=Zn (Kd.Ad HLA8.out HW9.out) (i:Int) (by omega) (by omega);subst eL;have HSQ:=am hs;have HDT:=am ht;have HN:=am hn;rw[Int.toNat_natCast]at x0 x1 x2;have pi:(0<=(i:Int))=True:=eq_true (by omega);have qi:((i:Int) < all.length)=True:=eq_true (by omega);have qi2:(i < all.length)=True:=eq_true hi;have HI2:=am hi;clear hb hn hi hs ht;generalize hX:qg all (i:Int)=X at x0 x1 x2;have hX':all.getD i z51=X:=hX;rw[hX']at HSQ HN;clear hX hX';go_wp2_with fail;refine(Qh.calls a0 X.f0.f0 X.f0.f1 X.f0.f2 s _ HSQ.out).mono ?_;rintro e w10 ⟨v10,rfl,hv10,hb10⟩;obtain⟨AS2,cS2,eS2⟩:=Kd.Ah hv10;subst eS2;have HSC:=am (Kd.Ac hv10).2.2;have HSL:=am (Kd.Ac hv10).2.1;have y0:=(hb10.cell (World.block_lt_of_cell? _ _ x0)).trans x0;have y1:=(hb10.cell (World.block_lt_of_cell? _ _ x1)).trans x1;have y2:=(hb10.cell (World.block_lt_of_cell? _ _ x2)).trans x2;have HR24:=am (Kd.Af HR23.out hb10);have HW10:=bq HW9 hb10;clear x0 x1 x2 hb10 HR23 HW9 hv10;go_wp2_with fail;refine(jy.calls k a0 B cB co AS2 cS2 s t _ (Kd.Ad HQ2.out HW10.out) HQ1.out HSC.out HSL.out HDT.out).mono ?_;rintro e w11 ⟨rfl,hdr⟩;have hb11:Below w10.heap.size w10 w11:=hdr.below;have x0:=(hb11.cell (World.block_lt_of_cell? _ _ y0)).trans y0;have x1:=(hb11.cell (World.block_lt_of_cell? _ _ y1)).trans y1;have x2:=(hb11.cell (World.block_lt_of_cell? _ _ y2)).trans y2;have HR25:=am (Kd.Af HR24.out hb11);have HW11:=bq HW10 hb11;clear y0 y1 y2 hb11 HR24 HW10 hdr;have hw1:wrap64 ((i:Int)+1)=((i+1:Nat):Int):=by have:=HI2.out;have:=HAL.out;unfold wrap64;omega
     have HW1:=am hw1;clear hw1
     cases hz:(t == 0) with
     | true=>
      rw[hz]at HN
      go_upto_region 10 with fail
      iterate 60 (try ((fail_if_success at_builtin);first|go_step|go_values|go_upon))
      refine Kd.Au k51 (w0:=w8) w8.heap.size rfl (.tmp 63) (.tmp 68) 27 51 (.agg #[int i64 0,int i64 0,int i64 0]) 24 rfl Tryz.underlying27 qb2 rfl (by decide) (by omega) u23 acc X [int i64 X.f0.f0,int i64 X.f0.f1,int i64 X.f0.f2] (λ_=>True) (λ_=>False) rfl rfl (qap _ _ _ X) (λ_ hk=>hk.elim) (λ_ _=>trivial) (wR HR25) (bw HW11) (bz HW11) (by have:=HAC.out;have:=HI2.out;have:=HAL.out;omega) ?_;intro v9' w12 ho9 hb9 hg9 hn9;go_wp2_with fail;exact⟨⟨i+1,acc++[X],by rw[HW1.out],⟨HI2.out⟩,⟨by have:=HAC.out;rw[List.length_append,List.length_singleton];omega⟩,HN,⟨ho9⟩,⟨hb9⟩⟩,by rw[HW1.out];exact qe7 HI2.out⟩
     | false=>
      rw[hz]at HN;go_wp2_with fail;exact⟨⟨i+1,acc,by rw[HW1.out],⟨HI2.out⟩,⟨by have:=HAC.out;omega⟩,HN,HR25,HW11⟩,by rw[HW1.out];exact qe7 HI2.out⟩
def clP (a1 a2 a3 a4 a5 a6:Int) (i:Nat):Int:=if i=0 then a1 else if i=1 then a2 else if i=2 then a3 else if i=3 then a4 else if i=4 then a5 else a6
def l1P (A B:Nat->Int):Nat->Nat->Int->Int
 | 0,_,n=>n
 | d+1,i,n=>l1P A B d (i+1) (wrap64 (n - wrap64 (A i*B i)))
def Zd.f (a0 a1 a2 a3 a4 a5 a6 b0 b1 b2 b3 b4 b5 b6:Int):Option Int:=some (l1P (clP a1 a2 a3 a4 a5 a6) (clP b1 b2 b3 b4 b5 b6) 6 0 (wrap64 (a0*b0)))
theorem qmw {w:World} {g:Nat} {t:TypeId} {a0 a1 a2 a3 a4 a5 a6:Int} (h:w.heap[g]? =some (.cells #[int i64 a0,int i64 a1,int i64 a2,int i64 a3,int i64 a4,int i64 a5,int i64 a6] t (0,0))) {i:Nat} (hi:i < 6):w.cell? ⟨g,1+i,none⟩=some (int i64 (clP a1 a2 a3 a4 a5 a6 i)):=by
 rcases (show i=0\/i=1\/i=2\/i=3\/i=4\/i=5 by omega) with rfl|rfl|rfl|rfl|rfl|rfl<;>exact qe h _
theorem qun {i d n:Nat} (h:i+(d+1)=n):n - (((i+1:Nat):Int)).toNat < n - ((i:Int)).toNat:=by omega
def Zd.T5 :Bool×List (List Nat×List Nat):=(true,[([],[]),([],[]),([],[]),([2,1],[1,2]),([3],[3]),([],[]),([],[]),([6,5],[5,6]),([7],[7]),([4,8],[4,8]),([0,9],[0,9]),([10,0,1,2,3,4,5,6,7,8,9,10],[0,10])])
def Zd.B5 :List Nat:=[0,0,0,6,14,0,0,96,224,510,1023,2047]
theorem Zd.calls (a0 a1 a2 a3 a4 a5 a6 b0 b1 b2 b3 b4 b5 b6:Int) (r:Int) (w:World) (h:Zd.f a0 a1 a2 a3 a4 a5 a6 b0 b1 b2 b3 b4 b5 b6=some r):
  Calls Tryz.prog 101 #[.agg #[int i64 a0,int i64 a1,int i64 a2,int i64 a3,int i64 a4,int i64 a5,int i64 a6],.agg #[int i64 b0,int i64 b1,int i64 b2,int i64 b3,int i64 b4,int i64 b5,int i64 b6]] w λe w'=>e=.returned (int i64 r)/\Below w.heap.size w w':=by
 have H:=am (Option.some.inj h);clear h;have HX:=am (qx (heap_alloc_last w (.cells #[int i64 a0,int i64 a1,int i64 a2,int i64 a3,int i64 a4,int i64 a5,int i64 a6] 68)) (.cells #[int i64 b0,int i64 b1,int i64 b2,int i64 b3,int i64 b4,int i64 b5,int i64 b6] 68));have hy:=heap_alloc_last (w.alloc (.cells #[int i64 a0,int i64 a1,int i64 a2,int i64 a3,int i64 a4,int i64 a5,int i64 a6] 68)) (.cells #[int i64 b0,int i64 b1,int i64 b2,int i64 b3,int i64 b4,int i64 b5,int i64 b6] 68);have es:(w.alloc (.cells #[int i64 a0,int i64 a1,int i64 a2,int i64 a3,int i64 a4,int i64 a5,int i64 a6] 68)).heap.size=w.heap.size+1:=by
  show (w.heap.push _).size=_
  exact Array.size_push _
 rw[es]at hy;have HY:=am hy;clear hy es;have HB:=am (show Below w.heap.size w ((w.alloc (.cells #[int i64 a0,int i64 a1,int i64 a2,int i64 a3,int i64 a4,int i64 a5,int i64 a6] 68)).alloc (.cells #[int i64 b0,int i64 b1,int i64 b2,int i64 b3,int i64 b4,int i64 b5,int i64 b6] 68)) from bw (Em w));go_enter Tryz.func101,Tryz.ntmps101;go_wp2_with fail;generalize (w.alloc (.cells #[int i64 a0,int i64 a1,int i64 a2,int i64 a3,int i64 a4,int i64 a5,int i64 a6] 68)).alloc (.cells #[int i64 b0,int i64 b1,int i64 b2,int i64 b3,int i64 b4,int i64 b5,int i64 b6] 68)=w2 at HX HY HB ⊢;have HW:=am (Below.refl w2.heap.size w2)
 go_loopw [5,6] (λv5 v6 w'=>∃ (d i:Nat) (n:Int),v5=int i64 n/\v6=int i64 (i:Int)/\qf (i+d=6)/\qf (l1P (clP a1 a2 a3 a4 a5 a6) (clP b1 b2 b3 b4 b5 b6) d i n=r)/\qf (Below w2.heap.size w2 w')) (λ_ v6 _=>6 - (intOf v6).toNat)
 case atStart=>exact⟨6,0,_,rfl,rfl,⟨by omega⟩,H,⟨bw HW⟩⟩
 case round=>
  clear H HW;obtain⟨d,i,n,rfl,rfl,HD,H,HW⟩:=hrel
  cases d with
  | zero=>
   have hlt:decide ((i:Int) < 6)=false:=decide_eq_false (by have:=HD.out;omega);have hr:=H.out;rw[l1P]at hr;subst hr;go_wp2;go_ret
   exact⟨fq,ze HB.out (bw HW)⟩
  | succ d=>
   have hlt:decide ((i:Int) < 6)=true:=decide_eq_true (by have:=HD.out;omega);have hi:i < 6:=by have:=HD.out;omega
   have hr:=H.out;rw[l1P]at hr;have HN:=am hr;clear hr H
   go_upto_region 5 with fail
   have p2:(0<=(i:Int))=True:=eq_true (by omega);have q2:((i:Int) < 6)=True:=eq_true (by omega);have ya:=qmw (qy (qt HX.out HW.out)) hi;have yb:=qmw (qy (qt HY.out HW.out)) hi;have HI:=am hi;clear hi hlt;generalize clP a1 a2 a3 a4 a5 a6 i=x at ya HN;generalize clP b1 b2 b3 b4 b5 b6 i=y at yb HN;refine st (T:=Zd.T5) (B:=Zd.B5) 12 (λw':World=>w'.cell? ⟨w.heap.size,1+i,none⟩=some (int i64 x)/\w'.cell? ⟨w.heap.size+1,1+i,none⟩=some (int i64 y)) [] (by kernel_rfl) (by kernel_rfl) ⟨ya,yb⟩ λhHeld HT_ HW_=>?_;clear ya yb;refine Et 0 16 1 17 HT_ ?_;refine Et 2 18 3 19 HT_ ?_;refine Et 5 21 6 22 HT_ ?_;refine pz 7 23 HT_ ?_;refine tk 4 20 HT_ HW_ hHeld ?_;refine tk 8 24 HT_ HW_ hHeld ?_;refine Et 9 25 10 26 HT_ ?_;refine pz 11 5 HT_ ?_;refine Zh (Qe HT_.out (by kernel_rfl)) ?_;clear HT_ HW_ hHeld p2 q2;have hw1:wrap64 ((i:Int)+1)=((i+1:Nat):Int):=by have:=HI.out;unfold wrap64;omega
   go_wp2
   go_roundw
   case measure=>rw[hw1];exact qun HD.out
   case rel=>exact⟨d,i+1,_,rfl,by rw[hw1],⟨by have:=HD.out;omega⟩,HN,⟨bw HW⟩⟩
def Zp.f (a0:Int) (a1:Int):Option (Bool):=(qag.f a0).bind λbt299=>((qag.f a1).bind λbt306=>((Zd.f bt299.1 bt299.2.1 bt299.2.2.1 bt299.2.2.2.1 bt299.2.2.2.2.1 bt299.2.2.2.2.2.1 bt299.2.2.2.2.2.2 bt306.1 bt306.2.1 bt306.2.2.1 bt306.2.2.2.1 bt306.2.2.2.2.1 bt306.2.2.2.2.2.1 bt306.2.2.2.2.2.2).bind λt313=>(some (t313 == 1))))
theorem Zp.calls (a0:Int) (a1:Int) (r:Bool) (w:World) (h:Zp.f a0 a1=some r):
  Calls Tryz.prog 60 #[int i64 a0,int i64 a1] w λe w'=>e=.returned (.bool r)/\Below w.heap.size w w':=by
 have HB:=Em w;have H:=h;unfold Zp.f at H;clear h;replace H:=bs H;obtain⟨⟨t299,t300,t301,t302,t303,t304,t305⟩,A3,H⟩:=H;dsimp only at H;replace H:=bs H;obtain⟨⟨t306,t307,t308,t309,t310,t311,t312⟩,A4,H⟩:=H;dsimp only at H;replace H:=bs H;obtain⟨t313,A5,H⟩:=H;obtain rfl:=Option.some.inj H;go_enter Tryz.func60,Tryz.ntmps60
 go_wp2_with (first|((with_reducible refine za (f:=52) rfl ?_);refine gl 6 Tryz.func52 #[int i64 a0] ?_;(with_reducible refine(qag.calls a0 t299 t300 t301 t302 t303 t304 t305 _ A3.out).mono ?_);rintro e w6 ⟨rfl,hb⟩;refine⟨_,rfl,?_⟩;replace HB:=bq HB hb;(try clear hb))|((with_reducible refine za (f:=52) rfl ?_);refine gl 8 Tryz.func52 #[int i64 a1] ?_;(with_reducible refine(qag.calls a1 t306 t307 t308 t309 t310 t311 t312 _ A4.out).mono ?_);rintro e w7 ⟨rfl,hb⟩;refine⟨_,rfl,?_⟩;replace HB:=bq HB hb;(try clear hb))|((with_reducible refine za (f:=101) rfl ?_);refine gl 9 Tryz.func101 #[.agg #[int i64 t299,int i64 t300,int i64 t301,int i64 t302,int i64 t303,int i64 t304,int i64 t305],.agg #[int i64 t306,int i64 t307,int i64 t308,int i64 t309,int i64 t310,int i64 t311,int i64 t312]] ?_;(with_reducible refine(Zd.calls t299 t300 t301 t302 t303 t304 t305 t306 t307 t308 t309 t310 t311 t312 t313 _ A5.out).mono ?_);rintro e w8 ⟨rfl,hb⟩;refine⟨_,rfl,?_⟩;replace HB:=bq HB hb;(try clear hb)))
 go_ret
 exact⟨fq,bw HB⟩
mutual
def qq.l0 :Nat->Int->List (List Int)->Int->Option ((List (List Int))×Bool)
 | 0,_,_,_=>none
 | k+1,x0,x4,x5=>if x5 < 27 then (qq.l1 k x0 x4 x5 (wrap64 (x5+1))) else (some (x4,true))
def qq.l1 :Nat->Int->List (List Int)->Int->Int->Option ((List (List Int))×Bool)
 | 0,_,_,_,_=>none
 | k+1,x0,x4,x5,x6=>if x6 < 27 then (qq.l2 k x0 x4 x5 x6 (wrap64 (x6+1))) else (qq.l0 k x0 x4 (wrap64 (x5+1)))
def qq.l2 :Nat->Int->List (List Int)->Int->Int->Int->Option ((List (List Int))×Bool)
 | 0,_,_,_,_,_=>none
 | k+1,x0,x4,x5,x6,x7=>if x7 < 27 then (if x0 < 0 then (qq.j3 k x0 x4 x5 x6 x7 true) else (if x0=x5 then (qq.j3 k x0 x4 x5 x6 x7 true) else (if x0=x6 then (qq.j3 k x0 x4 x5 x6 x7 true) else (qq.j3 k x0 x4 x5 x6 x7 (x0 == x7))))) else (qq.l1 k x0 x4 x5 (wrap64 (x6+1)))
def qq.j3 :Nat->Int->List (List Int)->Int->Int->Int->Bool->Option ((List (List Int))×Bool)
 | 0,_,_,_,_,_,_=>none
 | k+1,x0,x4,x5,x6,x7,x8=>if x8=true then ((Zp.f x5 x6).bind λt318=>(if t318=true then ((Zp.f x5 x7).bind λt319=>(if t319=true then ((Zp.f x6 x7).bind λt320=>(if t320=true then (if x4.length < 5864062014805 then (qq.l2 k x0 (x4++[(([x5,x6,x7]:List Int))]) x5 x6 (wrap64 (x7+1))) else (none)) else (qq.l2 k x0 x4 x5 x6 (wrap64 (x7+1))))) else (qq.l2 k x0 x4 x5 x6 (wrap64 (x7+1))))) else (qq.l2 k x0 x4 x5 x6 (wrap64 (x7+1))))) else (qq.l2 k x0 x4 x5 x6 (wrap64 (x7+1)))
end
def qq.f (k:Nat) (a0:Int):Option ((List (List Int))×Bool):=(some (([]:List (List Int)):List (List Int))).bind λy314=>((Qr.f a0 (-1) 26).bind λt317=>(if t317=true then (qq.l0 k a0 y314 0) else (some (y314,false))))
theorem qq.Ag :∀ k,(∀ y0 y1 y2,LeO (qq.l0 k y0 y1 y2) (qq.l0 (k+1) y0 y1 y2))/\(∀ y0 y1 y2 y3,LeO (qq.l1 k y0 y1 y2 y3) (qq.l1 (k+1) y0 y1 y2 y3))/\(∀ y0 y1 y2 y3 y4,LeO (qq.l2 k y0 y1 y2 y3 y4) (qq.l2 (k+1) y0 y1 y2 y3 y4))/\(∀ y0 y1 y2 y3 y4 y5,LeO (qq.j3 k y0 y1 y2 y3 y4 y5) (qq.j3 (k+1) y0 y1 y2 y3 y4 y5))
 | 0=>⟨λ_ _ _ r h=>by simp[qq.l0]at h,λ_ _ _ _ r h=>by simp[qq.l1]at h,λ_ _ _ _ _ r h=>by simp[qq.l2]at h,λ_ _ _ _ _ _ r h=>by simp[qq.j3]at h⟩
 | k+1=>by
  obtain⟨ih0,ih1,ih2,ih3⟩:=qq.Ag k;refine⟨?_,?_,?_,?_⟩
  ·intro y0 y1 y2
   unfold qq.l0
   repeat' with_reducible first|intro _|apply ih0|apply ih1|apply ih2|apply ih3|apply Eb|apply Ec|apply Ed|apply Ee
  ·intro y0 y1 y2 y3
   unfold qq.l1
   repeat' with_reducible first|intro _|apply ih0|apply ih1|apply ih2|apply ih3|apply Eb|apply Ec|apply Ed|apply Ee
  ·intro y0 y1 y2 y3 y4
   unfold qq.l2
   repeat' with_reducible first|intro _|apply ih0|apply ih1|apply ih2|apply ih3|apply Eb|apply Ec|apply Ed|apply Ee
  ·intro y0 y1 y2 y3 y4 y5
   unfold qq.j3
   repeat' with_reducible first|intro _|apply ih0|apply ih1|apply ih2|apply ih3|apply Eb|apply Ec|apply Ed|apply Ee
theorem qq.mono (a0 k):LeO (qq.f k a0) (qq.f (k+1) a0):=by
 obtain⟨ih0,ih1,ih2,ih3⟩:=qq.Ag k;unfold qq.f
 repeat' with_reducible first|intro _|apply ih0|apply ih1|apply ih2|apply ih3|apply Eb|apply Ec|apply Ed|apply Ee
theorem qq.calls (k:Nat) (a0:Int) (r1:List (List Int)) (r2:Bool) (w:World) (h:qq.f k a0=some (r1,r2)):
  Calls Tryz.prog 23 #[int i64 a0] w λe w'=>∃ v0_:Value,e=.returned (.tuple #[v0_,.bool r2])/\Kd.S KI 37 w' w.heap.size (λ_=>True) v0_ r1/\Below w.heap.size w w':=by
 have HB:=Em w;have H:=h;unfold qq.f at H;clear h;replace H:=bsy H;obtain⟨y314,Ny314,H⟩:=H;replace H:=bs H;obtain⟨t317,A2,H⟩:=H
 by_cases c3:t317=true
 ·subst c3
  rw[if_pos rfl]at H;have H':=am H;clear H;go_enter Tryz.func23,Tryz.ntmps23
  go_wp2_with (first|((with_reducible refine zd (N:=9) rfl ?_);refine Kd.BC KI _ 37 ?hg (N:=9) ?hd (xs:=([]:List (List Int))) (inner:=[]) (ok:=λ_=>True) (okp:=λ_=>True) ?hr ?hp (λ_ hk=>hk) trivial (Below.refl _ _) (Nat.le_refl _) (by simp) ?_;(case hd=>rfl);(case hg=>rfl);(case hr=>first|(go_simp;done)|(go_simp;rfl));(case hp=>exact(Reps.none _ _));intro v315 w4 ho5 hb hg_ hnew_;clear hg_ hnew_;rw[<-Ny314.out]at ho5;have HO316:=am (Kd.AD ho5 (bz HB));replace HB:=bq HB hb;clear hb ho5)|((with_reducible refine za (f:=59) rfl ?_);refine gl 11 Tryz.func59 #[int i64 a0,int i64 (-1),int i64 26] ?_;(with_reducible refine(Qr.calls a0 (-1) 26 true _ A2.out).mono ?_);rintro e w' ⟨rfl,⟨nd,rfl⟩⟩;refine⟨_,rfl,?_⟩))
  go_loopg [4,5] k (λkq v4 v5 w'=>∃ (x4_1:List (List Int)) (x5_1:Int),v5=int i64 x5_1/\qf (qq.l0 kq a0 x4_1 x5_1=some (r1,r2))/\qf (kq<=k)/\qf (Kd.S KI 37 w' w.heap.size (λ_=>True) v4 x4_1)/\qf (Below w.heap.size w w'))
  case atStart=>exact⟨(y314),(0),fr,H',⟨Nat.le_refl _⟩,⟨wS HO316⟩,⟨bw HB⟩⟩
  case round =>
   clear H';try clear c2;try clear p2;try clear c3;try clear c5
   obtain⟨x4_1,x5_1,rfl,HA,HK1,HO_4,HB⟩:=hrel
   cases gk with
   | zero=>exact absurd HA.out (by simp[qq.l0])
   | succ k1 =>
    have H:=HA.out;clear HA;simp only[qq.l0]at H
    by_cases c6:x5_1 < 27
    ·rw [if_pos c6] at H
     have c6b0:=decide_eq_true c6;clear c6;have H':=am H;clear H;go_wp2
     go_loopg [4,6] k1 (λkq v4 v6 w'=>∃ (x4_2:List (List Int)) (x6_2:Int),v6=int i64 x6_2/\qf (qq.l1 kq a0 x4_2 x5_1 x6_2=some (r1,r2))/\qf (kq<=k1)/\qf (Kd.S KI 37 w' w.heap.size (λ_=>True) v4 x4_2)/\qf (Below w.heap.size w w'))
     case atStart=>exact⟨(x4_1),(wrap64 (x5_1+1)),fr,H',⟨Nat.le_refl _⟩,⟨wS HO_4⟩,⟨bw HB⟩⟩
     case round =>
      clear H';try clear c2;try clear p2;try clear c3;try clear c5;try clear c6;try clear c6b0;try clear p6;try clear p2
      obtain⟨x4_2,x6_2,rfl,HA,HK2,HO_4,HB⟩:=hrel
      cases gk with
      | zero=>exact absurd HA.out (by simp[qq.l1])
      | succ k2 =>
       have H:=HA.out;clear HA;simp only[qq.l1]at H;replace H:=Eg H;rcases H with ⟨c7b0,H⟩|⟨c7b0,H⟩
       ·have H':=am H;clear H;go_wp2
        go_loopg [4,7] k2 (λkq v4 v7 w'=>∃ (x4_3:List (List Int)) (x7_3:Int),v7=int i64 x7_3/\qf (qq.l2 kq a0 x4_3 x5_1 x6_2 x7_3=some (r1,r2))/\qf (kq<=k2)/\qf (Kd.S KI 37 w' w.heap.size (λ_=>True) v4 x4_3)/\qf (Below w.heap.size w w'))
        case atStart=>exact⟨(x4_2),(wrap64 (x6_2+1)),fr,H',⟨Nat.le_refl _⟩,⟨wS HO_4⟩,⟨bw HB⟩⟩
        case round=>
         clear H';try clear c2;try clear p2;try clear c3;try clear c5;try clear c6;try clear c6b0;try clear p6;try clear c7;try clear c7b0;try clear p2;try clear p6
         obtain⟨x4_3,x7_3,rfl,HA,HK3,HO_4,HB⟩:=hrel
         cases gk with
         | zero=>exact absurd HA.out (by simp[qq.l2])
         | succ k3=>
          have H:=HA.out;clear HA;simp only[qq.l2]at H
          by_cases c8:x7_3 < 27
          ·rw [if_pos c8] at H
           have c8b0:=decide_eq_true c8;clear c8;have HC9:=am H;clear H
           go_upto_region 13 with (fail)
           go_cut [8] (λv8 wc=>∃ (kq:Nat) (x8_8:Bool),v8=.bool x8_8/\qf (qq.j3 kq a0 x4_3 x5_1 x6_2 x7_3 x8_8=some (r1,r2))/\qf (kq<=k3)/\qf (Kd.S KI 37 wc w.heap.size (λ_=>True) u4 x4_3)/\qf (Below w.heap.size w wc))
           case first=>
            have H:=HC9.out;clear HC9
            by_cases c10:a0 < 0
            ·rw[if_pos c10]at H
             have c10b0:=decide_eq_true c10;clear c10
             (first|rw[c10b0]|(simp only[qa6,qb3];rw[c10b0])|skip)
             have H':=am H;clear H;go_wp2
             go_meet
             case rel=>exact⟨_,(true),fr,H',⟨by have:=HK1.out;have:=HK2.out;have:=HK3.out;first|omega|exact Nat.le_refl _⟩,⟨wS HO_4⟩,⟨bw HB⟩⟩
            ·rw[if_neg c10]at H
             have c10b0:=decide_eq_false c10;clear c10
             (first|rw[c10b0]|(simp only[qa6,qb3];rw[c10b0])|skip)
             by_cases c11:a0=x5_1
             ·rw[if_pos c11]at H
              have c11b0:=beq_iff_eq.mpr c11;have c11b1:=bne_eq_false_iff_eq.mpr c11;clear c11;have H':=am H;clear H;go_wp2
              go_meet
              case rel=>exact⟨_,(true),fr,H',⟨by have:=HK1.out;have:=HK2.out;have:=HK3.out;first|omega|exact Nat.le_refl _⟩,⟨wS HO_4⟩,⟨bw HB⟩⟩
             ·rw[if_neg c11]at H
              have c11b0:=beq_eq_false_iff_ne.mpr c11;have c11b1:=bne_iff_ne.mpr c11
              by_cases c12:a0=x6_2
              ·rw[if_pos c12]at H
               have c12b0:=beq_iff_eq.mpr c12;have c12b1:=bne_eq_false_iff_eq.mpr c12;clear c12;have H':=am H;clear H;go_wp2
               go_meet
               case rel=>exact⟨_,(true),fr,H',⟨by have:=HK1.out;have:=HK2.out;have:=HK3.out;first|omega|exact Nat.le_refl _⟩,⟨wS HO_4⟩,⟨bw HB⟩⟩
              ·rw[if_neg c12]at H
               have c12b0:=beq_eq_false_iff_ne.mpr c12;have c12b1:=bne_iff_ne.mpr c12;have H':=am H;clear H;go_wp2
               go_meet
               case rel=>exact⟨_,((a0 == x7_3)),fr,H',⟨by have:=HK1.out;have:=HK2.out;have:=HK3.out;first|omega|exact Nat.le_refl _⟩,⟨wS HO_4⟩,⟨bw HB⟩⟩
           case rest=>
            clear HC9;try clear c1;try clear c2;try clear p2;try clear c3;try clear c5;try clear c6;try clear c6b0;try clear p6;try clear c7;try clear c7b0;try clear c8;try clear c8b0;try clear c10;try clear c10b0;try clear c11;try clear c11b0
            try clear c11b1;try clear c12;try clear c12b0;try clear c12b1;try clear p2;try clear p6
            obtain⟨kq,x8_8,rfl,HA,HJ8,HO_4,HB⟩:=hcut
            cases kq with
            | zero=>exact absurd HA.out (by simp[qq.j3])
            | succ kj8=>
             have H:=HA.out;clear HA;simp only[qq.j3]at H
             by_cases c13:x8_8=true
             ·subst c13
              rw[if_pos rfl]at H;replace H:=bs H;obtain⟨t318,A14,H⟩:=H
              by_cases c15:t318=true
              ·subst c15
               rw[if_pos rfl]at H;replace H:=bs H;obtain⟨t319,A16,H⟩:=H
               by_cases c17:t319=true
               ·subst c17
                rw[if_pos rfl]at H;replace H:=bs H;obtain⟨t320,A18,H⟩:=H
                by_cases c19:t320=true
                ·subst c19
                 rw[if_pos rfl]at H;generalize hy321:(([x5_1,x6_2,x7_3]:List Int))=y321 at H;have Ny321:=am hy321.symm;clear hy321;replace H:=ifn H;obtain⟨c20,H⟩:=H;have LMc20:=am c20;clear c20;generalize hy324:(x4_3++[y321]:List (List Int))=y324 at H;have Ny324:=am hy324.symm;clear hy324;have H':=am H;clear H
                 go_wp2_with (first|(go_at_call 60;(with_reducible refine(Zp.calls x5_1 x6_2 true _ A14.out).mono ?_);rintro e w21 ⟨rfl,hb⟩;replace HO_4:=am (Kd.Ap (wS HO_4) hb);replace HB:=bq HB hb;(try clear hb))|(go_at_call 60;(with_reducible refine(Zp.calls x5_1 x7_3 true _ A16.out).mono ?_);rintro e w22 ⟨rfl,hb⟩;replace HO_4:=am (Kd.Ap (wS HO_4) hb);replace HB:=bq HB hb;(try clear hb))|(go_at_call 60;(with_reducible refine(Zp.calls x6_2 x7_3 true _ A18.out).mono ?_);rintro e w23 ⟨rfl,hb⟩;replace HO_4:=am (Kd.Ap (wS HO_4) hb);replace HB:=bq HB hb;(try clear hb))|((with_reducible refine zd (N:=67) rfl ?_);refine li 3 [x5_1,x6_2,x7_3] ?_;intro v322 w24 ho25 hb;rw[<-Ny321.out]at ho25;replace HO_4:=eS HO_4 (Kd.Am ho25) hb;have HO323:=am (Kd.Ai ho25 (bz HB));replace HB:=bq HB hb;clear hb ho25;obtain⟨Ao27,co27,eo27⟩:=Kd.Ah HO323.out;subst eo27)|((with_reducible refine jz (b:=.append) (xs:=#[.tmp 63,.tmp 68]) rfl ?_);at_builtin;refine Kd.Bg KI (w0:=w) w.heap.size rfl (.tmp 63) (.tmp 68) 24 37 (.slice none 0 0) 24 rfl Tryz.underlying24 Ja rfl (by decide) (by omega) u4 x4_3 y321 [.slice Ao27 y321.length co27] (λ_=>True) (λk_=>some k_=(.slice Ao27 y321.length co27:Value).ownBlock) rfl rfl ?aP (λk_ hk_=>((Kd.Ae (ok':=λk_=>((λ_=>True)) k_/\some k_≠(u4:Value).ownBlock) (Kd.Ak (HO323.out) (Kd.AB HO_4.out) (by decide)) (λk_ hk=>⟨trivial,hk.2⟩))).1 k_ hk_.symm) ?aF ?aO ?aB ?aS ?aL ?_;(case aP=>exact Kd.BM (Kd.Ae (Kd.AO rfl (Kd.Ae (ok':=λk_=>((λ_=>True)) k_/\some k_≠(u4:Value).ownBlock) (Kd.Ak (HO323.out) (Kd.AB HO_4.out) (by decide)) (λk_ hk=>⟨trivial,hk.2⟩))) (λ_ h_=>h_)));(case aB=>exact(bw HB));(case aF=>exact(λ_ _=>trivial));(case aO=>exact(oS_ HO_4 (λk_ hk=>⟨trivial,λe_=>hk.2 e_⟩)));(case aS=>exact(bz HB));(case aL=>have:=LMc20.out;omega);intro v325 w26 ho hb hg hat;rw[<-Ny324.out]at ho;replace HB:=am (hb);have HO326:=am (ho);clear HO_4 HO323;clear ho hb hg hat))
                 go_roundg kj8
                 case measure=>have:=HK1.out;have:=HK2.out;have:=HK3.out;have:=HJ8.out;omega
                 case rel=>exact⟨(y324),(wrap64 (x7_3+1)),fr,H',⟨by have:=HK1.out;have:=HK2.out;have:=HK3.out;have:=HJ8.out;omega⟩,⟨wS HO326⟩,⟨bw HB⟩⟩
                ·replace c19:=Bool.eq_false_iff.mpr c19
                 subst c19;rw[if_neg (show ¬ (false=true) by decide)]at H;have H':=am H;clear H
                 go_wp2_with (first|(go_at_call 60;(with_reducible refine(Zp.calls x5_1 x6_2 true _ A14.out).mono ?_);rintro e w28 ⟨rfl,hb⟩;replace HO_4:=am (Kd.Ap (wS HO_4) hb);replace HB:=bq HB hb;(try clear hb))|(go_at_call 60;(with_reducible refine(Zp.calls x5_1 x7_3 true _ A16.out).mono ?_);rintro e w29 ⟨rfl,hb⟩;replace HO_4:=am (Kd.Ap (wS HO_4) hb);replace HB:=bq HB hb;(try clear hb))|(go_at_call 60;(with_reducible refine(Zp.calls x6_2 x7_3 false _ A18.out).mono ?_);rintro e w30 ⟨rfl,hb⟩;replace HO_4:=am (Kd.Ap (wS HO_4) hb);replace HB:=bq HB hb;(try clear hb)))
                 go_roundg kj8
                 case measure=>have:=HK1.out;have:=HK2.out;have:=HK3.out;have:=HJ8.out;omega
                 case rel=>exact⟨(x4_3),(wrap64 (x7_3+1)),fr,H',⟨by have:=HK1.out;have:=HK2.out;have:=HK3.out;have:=HJ8.out;omega⟩,⟨wS HO_4⟩,⟨bw HB⟩⟩
               ·replace c17:=Bool.eq_false_iff.mpr c17
                subst c17;rw[if_neg (show ¬ (false=true) by decide)]at H;have H':=am H;clear H
                go_wp2_with (first|(go_at_call 60;(with_reducible refine(Zp.calls x5_1 x6_2 true _ A14.out).mono ?_);rintro e w31 ⟨rfl,hb⟩;replace HO_4:=am (Kd.Ap (wS HO_4) hb);replace HB:=bq HB hb;(try clear hb))|(go_at_call 60;(with_reducible refine(Zp.calls x5_1 x7_3 false _ A16.out).mono ?_);rintro e w32 ⟨rfl,hb⟩;replace HO_4:=am (Kd.Ap (wS HO_4) hb);replace HB:=bq HB hb;(try clear hb)))
                go_roundg kj8
                case measure=>have:=HK1.out;have:=HK2.out;have:=HK3.out;have:=HJ8.out;omega
                case rel=>exact⟨(x4_3),(wrap64 (x7_3+1)),fr,H',⟨by have:=HK1.out;have:=HK2.out;have:=HK3.out;have:=HJ8.out;omega⟩,⟨wS HO_4⟩,⟨bw HB⟩⟩
              ·replace c15:=Bool.eq_false_iff.mpr c15
               subst c15;rw[if_neg (show ¬ (false=true) by decide)]at H;have H':=am H;clear H
               go_wp2_with (first|(go_at_call 60;(with_reducible refine(Zp.calls x5_1 x6_2 false _ A14.out).mono ?_);rintro e w33 ⟨rfl,hb⟩;replace HO_4:=am (Kd.Ap (wS HO_4) hb);replace HB:=bq HB hb;(try clear hb)))
               go_roundg kj8
               case measure=>have:=HK1.out;have:=HK2.out;have:=HK3.out;have:=HJ8.out;omega
               case rel=>exact⟨(x4_3),(wrap64 (x7_3+1)),fr,H',⟨by have:=HK1.out;have:=HK2.out;have:=HK3.out;have:=HJ8.out;omega⟩,⟨wS HO_4⟩,⟨bw HB⟩⟩
             ·replace c13:=Bool.eq_false_iff.mpr c13
              subst c13;rw[if_neg (show ¬ (false=true) by decide)]at H;have H':=am H;clear H;go_wp2
              go_roundg kj8
              case measure=>have:=HK1.out;have:=HK2.out;have:=HK3.out;have:=HJ8.out;omega
              case rel=>exact⟨(x4_3),(wrap64 (x7_3+1)),fr,H',⟨by have:=HK1.out;have:=HK2.out;have:=HK3.out;have:=HJ8.out;omega⟩,⟨wS HO_4⟩,⟨bw HB⟩⟩
          ·rw[if_neg c8]at H
           have c8b0:=decide_eq_false c8;clear c8;have H':=am H;clear H;go_wp2
           go_roundg k3
           case measure=>have:=HK1.out;have:=HK2.out;have:=HK3.out;omega
           case rel=>exact⟨(x4_3),(wrap64 (x6_2+1)),fr,H',⟨by have:=HK1.out;have:=HK2.out;have:=HK3.out;omega⟩,⟨wS HO_4⟩,⟨bw HB⟩⟩
       ·have H':=am H;clear H;go_wp2
        go_roundg k2
        case measure=>have:=HK1.out;have:=HK2.out;omega
        case rel=>exact⟨(x4_2),(wrap64 (x5_1+1)),fr,H',⟨by have:=HK1.out;have:=HK2.out;omega⟩,⟨wS HO_4⟩,⟨bw HB⟩⟩
    ·rw[if_neg c6]at H
     have c6b0:=decide_eq_false c6;clear c6;simp only[Option.some.injEq,Prod.mk.injEq]at H;obtain⟨rfl,rfl⟩:=H;go_wp2
     go_ret2
     exact⟨_,fq,wS HO_4,bw HB⟩
 ·replace c3:=Bool.eq_false_iff.mpr c3
  subst c3;rw[if_neg (show ¬ (false=true) by decide)]at H;simp only[Option.some.injEq,Prod.mk.injEq]at H;obtain⟨rfl,rfl⟩:=H;go_enter Tryz.func23,Tryz.ntmps23
  go_wp2_with (first|((with_reducible refine zd (N:=9) rfl ?_);refine Kd.BC KI _ 37 ?hg (N:=9) ?hd (xs:=([]:List (List Int))) (inner:=[]) (ok:=λ_=>True) (okp:=λ_=>True) ?hr ?hp (λ_ hk=>hk) trivial (Below.refl _ _) (Nat.le_refl _) (by simp) ?_;(case hd=>rfl);(case hg=>rfl);(case hr=>first|(go_simp;done)|(go_simp;rfl));(case hp=>exact(Reps.none _ _));intro v315 w34 ho35 hb hg_ hnew_;clear hg_ hnew_;rw[<-Ny314.out]at ho35;have HO316:=am (Kd.AD ho35 (bz HB));replace HB:=bq HB hb;clear hb ho35)|((with_reducible refine za (f:=59) rfl ?_);refine gl 11 Tryz.func59 #[int i64 a0,int i64 (-1),int i64 26] ?_;(with_reducible refine(Qr.calls a0 (-1) 26 false _ A2.out).mono ?_);rintro e w' ⟨rfl,⟨nd,rfl⟩⟩;refine⟨_,rfl,?_⟩))
  go_ret2
  exact⟨_,fq,wS HO316,bw HB⟩
def jw.l0 :Nat->List Int->List Int->Int->Option (Bool)
 | 0,_,_,_=>none
 | k+1,x0,x1,x5=>if x5 < (x0.length:Int) then (if 0<=x5 then (if x5 < (x1.length:Int) then (if (rd x0 x5)=(rd x1 x5) then (jw.l0 k x0 x1 (wrap64 (x5+1))) else (some false)) else (none)) else (none)) else (some true)
def jw.f (k:Nat) (l0:List Int) (l1:List Int):Option (Bool):=jw.l0 k l0 l1 0
theorem jw.Ag :∀ k,(∀ y0 y1 y2,LeO (jw.l0 k y0 y1 y2) (jw.l0 (k+1) y0 y1 y2))
 | 0=>λ_ _ _ r h=>by simp[jw.l0]at h
 | k+1=>by
  have ih0:=jw.Ag k
  ·intro y0 y1 y2
   unfold jw.l0
   repeat' with_reducible first|intro _|apply ih0|apply Eb|apply Ec|apply Ed|apply Ee
theorem jw.mono (a0 a1 k):LeO (jw.f k a0 a1) (jw.f (k+1) a0 a1):=by
 have ih0:=jw.Ag k;unfold jw.f
 repeat' with_reducible first|intro _|apply ih0|apply Eb|apply Ec|apply Ed|apply Ee
theorem jw.calls (k:Nat) (A0:Option Addr) (c0:Nat) (l0:List Int) (A1:Option Addr) (c1:Nat) (l1:List Int) (r:Bool) (w:World) (hr0:Kd.C (Kd.int i64) w A0 l0.length l0) (hc0:l0.length<=c0) (hr1:Kd.C (Kd.int i64) w A1 l1.length l1) (hc1:l1.length<=c1) (h:jw.f k l0 l1=some r):
  Calls Tryz.prog 25 #[.slice A0 l0.length c0,.slice A1 l1.length c1] w λe w'=>e=.returned (.bool r)/\Drawn0 w w':=by
 have HR0:=am hr0;clear hr0 hc0;have HR1:=am hr1;clear hr1 hc1;have H:=h;unfold jw.f at H;clear h;have H':=am H;clear H;go_enter Tryz.func25,Tryz.ntmps25
 go_wp2
 repeat (go_quiet (fail);try go_wp2)
 go_loopg [5] k (λkq v5 w'=>∃ (x5_1:Int),v5=int i64 x5_1/\qf (jw.l0 kq l0 l1 x5_1=some r)/\qf (kq<=k)/\Drawn0 w w')
 case atStart=>exact⟨(0),fr,H',⟨Nat.le_refl _⟩,df⟩
 case round=>
  clear H';try clear c1;try clear c2;try clear p2
  obtain⟨x5_1,rfl,HA,HK1,⟨m1,rfl⟩⟩:=hrel
  cases gk with
  | zero=>exact absurd HA.out (by simp[jw.l0])
  | succ k1=>
   have H:=HA.out;clear HA;simp only[jw.l0]at H;replace H:=Eg H;rcases H with ⟨c3b0,H⟩|⟨c3b0,H⟩
   ·replace H:=Ef H;obtain⟨c4b0,H⟩:=H;replace H:=Ef H;obtain⟨c5b0,H⟩:=H
    by_cases c6:(rd l0 x5_1)=(rd l1 x5_1)
    ·rw[if_pos c6]at H
     have c6b0:=beq_iff_eq.mpr c6;have c6b1:=bne_eq_false_iff_eq.mpr c6;clear c6;have H':=am H;clear H;obtain⟨ad327,e327,hx327_0,p327,q327⟩:=Es HR0.out x5_1 od od;cases e327
     obtain⟨ad328,e328,hx328_0,p328,q328⟩:=Es HR1.out x5_1 od od;cases e328;go_wp2
     repeat (go_quiet (fail);try go_wp2)
     go_roundg k1
     case measure=>have:=HK1.out;omega
     case rel=>exact⟨(wrap64 (x5_1+1)),fr,H',⟨by have:=HK1.out;omega⟩,df⟩
    ·rw[if_neg c6]at H
     have c6b0:=beq_eq_false_iff_ne.mpr c6;have c6b1:=bne_iff_ne.mpr c6;obtain rfl:=Option.some.inj H;obtain⟨ad327,e327,hx327_0,p327,q327⟩:=Es HR0.out x5_1 od od;cases e327
     obtain⟨ad328,e328,hx328_0,p328,q328⟩:=Es HR1.out x5_1 od od;cases e328;go_wp2
     repeat (go_quiet (fail);try go_wp2)
     go_ret
     exact⟨fr,df⟩
   ·obtain rfl:=Option.some.inj H;go_wp2
    repeat (go_quiet (fail);try go_wp2)
    go_ret
    exact⟨fr,df⟩
theorem qnc (w:World) (e:Nat) (base:Nat) (hb:base<=w.heap.size):(w.alloc (.cells #[] e)).ownsRow base e 1 (.slice (some ⟨w.heap.size,0,none⟩) 0 0) 0 []:=
 ⟨rfl,.inr ⟨w.heap.size,0,#[],rfl,hb,(by show (w.heap.push _)[w.heap.size]? =_;simp),Nat.le_refl _,Nat.zero_le _,rfl,rfl⟩⟩
theorem qfq {w:World} {A:Option Addr} {n:Nat} {rows:List (List Int)} (h:Kd.C KI w A n rows) (j:Nat) (hj:j < rows.length):∃ ad B c,A=some ad/\w.cell? (ad.add j)=some (.slice B (rows[j]).length c)/\(rows[j]).length<=c/\Kd.C (Kd.int i64) w B (rows[j]).length rows[j]:=by
 obtain⟨hl,hm,hr⟩:=h;obtain⟨ad,rfl,hc⟩:=hr (by omega);obtain⟨cs,_,⟨B,c,rfl,h1,h2⟩,hcell⟩:=hc j _ (List.getElem?_eq_getElem hj);refine⟨ad,B,c,rfl,?_,h1,h2⟩
 have:=hcell 0 (.slice B (rows[j]).length c) rfl
 simpa [KI,Kd.slice] using this
theorem qas {w1 w2:World} {g o:Nat} {v:Value} (hlt:g < w1.heap.size) (hb:Below w1.heap.size w1 w2) (hx:w1.cell? ⟨g,o,none⟩=some v):w2.cell? ⟨g,o,none⟩=some v:=
 (World.cell?_of_block (a:=⟨g,o,none⟩) (hb.block g hlt)).trans hx
def lowB (p x:Int):Bool:=decide (0<=x) && decide (x<=wrap64 (p - 1))
theorem qtu (p x:Int):Qr.f x 0 (wrap64 (p - 1))=some (lowB p x):=by
 unfold Qr.f lowB
 by_cases h:x>=0
 ·have h':0<=x:=h
  simp[h,h']
 ·have h':¬ 0<=x:=h
  simp[h,h']
def Qz.f (k:Nat) (a0:Int) (l1:List Int):Option Bool:=(Zy.f a0).bind λt=>
 if t=true then (if l1.length=8 then (if l1.all (lowB a0)=true then (qh.f k a0 [l1.take 4,l1.drop 4] 4).bind λr=>
  if r.1.length=2 then (if (r.1.getD 0 []).length < 1000000/\(r.1.getD 1 []).length < 1000000 then jw.f k (r.1.getD 0 []++r.1.getD 1 []) l1 else none) else some false else some false) else some false) else some false
theorem Qz.mono (a0 a1 k):LeO (Qz.f k a0 a1) (Qz.f (k+1) a0 a1):=by
 unfold Qz.f;refine LeO.bind (LeO.refl _) λ_=>LeO.ite (LeO.ite (LeO.ite (LeO.bind (qh.mono _ _ _ _) λ_=>LeO.ite (LeO.ite (jw.mono _ _ _) (LeO.refl _)) (LeO.refl _)) (LeO.refl _)) (LeO.refl _)) (LeO.refl _)
theorem lit2_C {w:World} {A B:Option Addr} {ca cb:Nat} {x y:List Int} (hx:Kd.C (Kd.int i64) w A x.length x) (hca:x.length<=ca) (hy:Kd.C (Kd.int i64) w B y.length y) (hcb:y.length<=cb):
  Kd.C KI (w.alloc (.cells #[.slice A x.length ca,.slice B y.length cb] 37)) (some ⟨w.heap.size,0,none⟩) 2 [x,y]:=by
 refine⟨rfl,by omega,λ_=>⟨⟨w.heap.size,0,none⟩,rfl,λj p hj=>?_⟩⟩;have hb:=qd8 w (.cells #[.slice A x.length ca,.slice B y.length cb] 37)
 match j,hj with
 | 0,hj=>
  simp at hj
  subst hj;refine⟨[.slice A x.length ca],rfl,⟨A,ca,rfl,hca,Kd.BI hx _⟩,λi u hu=>?_⟩
  match i,hu with
  | 0,hu=>simp at hu;subst hu;rw[Jz];exact(qe hb _).trans rfl
 | 1,hj=>
  simp at hj
  subst hj;refine⟨[.slice B y.length cb],rfl,⟨B,cb,rfl,hcb,Kd.BI hy _⟩,λi u hu=>?_⟩
  match i,hu with
  | 0,hu=>simp at hu;subst hu;rw[Jz];exact(qe hb _).trans rfl
theorem Qz.calls (k:Nat) (a0:Int) (A1:Option Addr) (c1:Nat) (l1:List Int) (r:Bool) (w:World) (hr1:Kd.C (Kd.int i64) w A1 l1.length l1) (hc1:l1.length<=c1) (h:Qz.f k a0 l1=some r):
  Calls Tryz.prog 102 #[int i64 a0,.slice A1 l1.length c1] w λe w'=>e=.returned (.bool r)/\Below w.heap.size w w':=by
 obtain⟨t,hprime,h'⟩:=Option.bind_eq_some_iff.1 h;clear h;have HPR:=Lib.hid hprime;have HR1:=Lib.hid hr1;have HC1:=Lib.hid hc1;have H:=Lib.hid h';clear hprime hr1 hc1 h'
 cases t with
 | false=>
  obtain rfl:r=false:=by have h:=H.out;simp at h;exact h
  go_enter Tryz.func102,Tryz.ntmps102;go_wp2_with fail;refine(Zy.calls a0 false _ HPR.out).mono ?_;rintro e w1 ⟨rfl,⟨q,rfl⟩⟩
  go_wp2;go_ret
  exact⟨rfl,Qs (Below.refl _ _) q⟩
 | true =>
  by_cases hl:l1.length=8
  ·have HL:=Lib.hid hl
   go_enter Tryz.func102,Tryz.ntmps102;rw[hl];have h8:((8:Int) !=8)=false:=rfl;clear hl;go_wp2_with fail;refine(Zy.calls a0 true _ HPR.out).mono ?_;rintro e w1 ⟨rfl,⟨q,rfl⟩⟩;go_wp2_with fail;have hb0:Below w.heap.size w (w.drewN q):=Qs (Below.refl _ _) q;generalize w.drewN q=w1 at hb0 ⊢
   go_loopw [5] (λi w'=>∃ j:Nat,j<=8/\i=int i64 j/\(l1.take j).all (lowB a0)=true/\Below w.heap.size w w') (λi _=>8 - (intOf i).toNat)
   case atStart=>exact⟨0,by omega,rfl,by simp,hb0⟩
   case round=>
    clear hb0;obtain⟨j,hj,rfl,hall,hB⟩:=hrel;have HB:=Lib.hid hB;have HALL:=Lib.hid hall;have HJ:=Lib.hid hj;clear hB hall hj
    by_cases hlt:j < 8
    ·obtain⟨ad,e,hx⟩:=Kd.Aj (Kd.Ad HR1.out HB.out) (j:Int) (by omega) (by have:=HL.out;omega)
     subst e;simp only[Int.toNat_natCast]at hx;have hd1:decide ((j:Int) < 8)=true:=decide_eq_true (by omega);have p1:(0<=(j:Int))=True:=eq_true (by omega);have q1:((j:Int) < 8)=True:=eq_true (by omega);have hlow:=qtu a0 (rd l1 (j:Int));have HLT:=Lib.hid hlt
     cases hv:lowB a0 (rd l1 (j:Int)) with
     | false=>
      rw[hv]at hlow;have HLOW:=Lib.hid hlow;have hr:r=false:=by
       have h:=H.out;have ha:l1.all (lowB a0)=false:=by
        rw[List.all_eq_false];exact⟨rd l1 (j:Int),by rw[rd,List.getD_eq_getElem?_getD,Int.toNat_natCast,List.getElem?_eq_getElem (by have:=HL.out;omega)];exact List.getElem_mem _,by simp[hv]⟩
       rw[if_pos trivial,if_pos HL.out,if_neg (by simp[ha])]at h;exact(Option.some.inj h).symm
      subst hr;clear hlt hv hlow;go_wp2_with fail;refine(Qr.calls _ _ _ _ _ HLOW.out).mono ?_;rintro e w2 ⟨rfl,⟨q,rfl⟩⟩
      go_wp2;go_ret
      exact⟨rfl,Qs HB.out q⟩
     | true=>
      rw[hv]at hlow;have HLOW:=Lib.hid hlow;have HALL2:Hid ((l1.take (j+1)).all (lowB a0)=true):=Lib.hid (by
       have h9:j < l1.length:=by have:=HL.out;omega
       rw[List.take_add_one,List.all_append,HALL.out,List.getElem?_eq_getElem h9];have e:rd l1 (j:Int)=l1[j]:=by simp[rd,List.getD_eq_getElem?_getD,h9]
       rw[e]at hv
       simp[hv])
      clear hlt hv hlow;go_wp2_with fail;refine(Qr.calls _ _ _ _ _ HLOW.out).mono ?_;rintro e w2 ⟨rfl,⟨q,rfl⟩⟩;go_wp2_with fail;have hw1:wrap64 ((j:Int)+1)=((j+1:Nat):Int):=by have:=HLT.out;unfold wrap64;omega
      go_roundw
      case measure=>(try rw[hw1]);simp only[intOf];have:=HLT.out;omega
      case rel=>exact⟨j+1,by have:=HLT.out;omega,by first|rw[hw1]|go_num,HALL2.out,Qs HB.out q⟩
    ·have hje:j=8:=by have:=HJ.out;omega
     subst hje;have hd1:decide (((8:Nat):Int) < 8)=false:=rfl;have HALL3:Hid (l1.all (lowB a0)=true):=Lib.hid (by have h:=HALL.out;rwa [List.take_of_length_le (by have:=HL.out;omega)]at h);clear hlt HALL;obtain⟨i0,hi0,_,hsz,_⟩:=info_parts Ju;obtain⟨htk,htr,htc⟩:=qja (P:=Tryz.prog) (Value.int .i64) 0 37 3 .i64 Tryz.underlying37 hi0 hsz A1 c1 l1 4 (by omega) (by have:=HL.out;omega) HC1.out;obtain⟨A2,hdk,hdr,hdc⟩:=qi0 (P:=Tryz.prog) (Value.int .i64) 0 37 3 .i64 Tryz.underlying37 hi0 hsz A1 c1 l1 4 (by omega) (by have:=HL.out;omega) HC1.out;have e4:(4:Int).toNat=4:=rfl;rw[e4]at htk htr htc hdk hdr hdc;have hC1:=Kd.Ad HR1.out HB.out;have HX:Hid (Kd.C (Kd.int i64) wr A1 (l1.take 4).length (l1.take 4)):=Lib.hid (Kd.Bl (h1:=λ_=>rfl) (htr wr (Kd.BE hC1)));have HY:Hid (Kd.C (Kd.int i64) wr A2 (l1.drop 4).length (l1.drop 4)):=Lib.hid (Kd.Bl (h1:=λ_=>rfl) (hdr wr (Kd.BE hC1)));obtain⟨X,hX⟩:∃ X,l1.take 4=X:=⟨_,rfl⟩
     obtain⟨Y,hY⟩:∃ Y,l1.drop 4=Y:=⟨_,rfl⟩
     rw[hX]at HX htk htc;rw[hY]at HY hdk hdc;rw[HL.out]at htk hdk;have HTC:=Lib.hid htc;have HDC:=Lib.hid hdc;have HEX:=Lib.hid hX;have HEY:=Lib.hid hY;have H2:Hid (((qh.f k a0 [X,Y] 4).bind λr=>
       if r.1.length=2 then (if (r.1.getD 0 []).length < 1000000/\(r.1.getD 1 []).length < 1000000 then jw.f k (r.1.getD 0 []++r.1.getD 1 []) l1 else none) else some false)=some r):=Lib.hid (by
      have h:=H.out;rw[if_pos trivial,if_pos HL.out,if_pos HALL3.out,hX,hY]at h;exact h)
     clear hX hY htr hdr htc hdc hC1 e4 hi0 hsz H;obtain⟨⟨L,hs⟩,hred,h2'⟩:=Option.bind_eq_some_iff.1 H2.out;have HRED:=Lib.hid hred;have H3:=Lib.hid h2';clear hred h2' H2;go_wp2_with fail
     go_region_held3 (λw'=>True) (trivial)
      (first|((go_at_call 98;refine(qh.calls k a0 _ _ _ [X,Y] 4 L hs _ (Kd.V_mk (Nat.le_refl 2) (Kd.C_F (Kd.BG 3 (Kd.AY .i64)) (lit2_C (w:=wr.drew) (Kd.Cb HX.out) HTC.out (Kd.Cb HY.out) HDC.out))) HRED.out).mono ?_;rintro e w2 ⟨v0,v1,rfl,ho0,ho1,hb⟩)))
     have HB2:Hid (Below w.heap.size w w2):=Lib.hid (((HB.out.drew).alloc HB.out.size _).trans (hb.mono (by have:=HB.out.size;simp;omega)))
     by_cases h2:L.length=2
     ·obtain⟨x,y,rfl⟩:∃ x y,L=[x,y]:=by
       match L,h2 with
       | [x,y],_=>exact⟨x,y,rfl⟩
      obtain⟨g,c0,rfl,_,hgl,_⟩:=Kd.Cl ho0 (by simp);obtain⟨ad,B0,k0,e0,hx0,hb0,hC0⟩:=qfq (Kd.BW (Kd.N_F ho0)) 0 (by simp);obtain⟨_,B1,k1,e1,hx1,hb1,hC1⟩:=qfq (Kd.BW (Kd.N_F ho0)) 1 (by simp);injection e0 with e0
      subst e0;injection e1 with e1
      subst e1;rw[Jz]at hx0 hx1;simp only[List.getElem_cons_zero,List.getElem_cons_succ]at hx0 hb0 hC0 hx1 hb1 hC1;have HGL:=Lib.hid hgl;have HC0:=Lib.hid hC0;have HCY:=Lib.hid hC1;obtain⟨xy,hxy⟩:∃ xy,([]++x++y:List Int)=xy:=⟨_,rfl⟩
      have HBN:Hid (x.length < 1000000/\y.length < 1000000/\jw.f k xy l1=some r):=Lib.hid (by
       have h:=H3.out;rw[<-hxy];simp only[List.length_cons,List.length_nil,if_true,List.getD_cons_zero,List.getD_cons_succ]at h
       split at h
       ·next hh=>exact⟨hh.1,hh.2,h⟩
       ·simp at h)
      have HXY:=Lib.hid hxy;have HS7:Hid (∀ (A0:Option Addr) (c0:Nat) (W:World),Kd.C (Kd.int i64) W A0 xy.length xy->xy.length<=c0->Below w.heap.size w W->Calls Tryz.prog 25 #[.slice A0 xy.length c0,.slice A1 8 c1] W λe w'=>e=.returned (.bool r)/\Drawn0 W w'):=Lib.hid (λA0 c0 W h0 h1 hb=>by
       have h:=jw.calls k A0 c0 xy A1 c1 l1 r W h0 h1 (Kd.Ad HR1.out hb) HC1.out HBN.out.2.2;rw[HL.out]at h;exact h)
      clear H3 hC0 hC1 hb0 hb1 h2 hgl ho0 ho1 hb htk hdk hxy;go_wp2_with fail
      go_region_held3 (λw'=>w'.cell? ⟨g,0,none⟩=some (.slice B0 x.length k0)/\w'.cell? ⟨g,1,none⟩=some (.slice B1 y.length k1)) (first|exact⟨qas HGL.out hb3 hx0,qas HGL.out hb3 hx1⟩|exact⟨qas HGL.out hb2 hx0,qas HGL.out hb2 hx1⟩|exact⟨qas HGL.out hb1 hx0,qas HGL.out hb1 hx1⟩|go_keep)
       (first
        | ((refine Kd.AE (Kd.int i64) (Rr:=λx c=>c=[Value.int .i64 x]) (w0:=w2) w2.heap.size (by rfl) (.tmp 42) (.tmp 45) 37 3 (int i64 0) 8 (by rfl) Tryz.underlying37 Ju rfl (by decide) (by decide) (.slice (some ⟨w2.heap.size,0,none⟩) 0 0) [] x B0 x.length k0 (λ_=>True) (λ_=>False) (by rfl) (by rfl) ⟨λ_ _=>trivial,[],qnc _ 3 _ (Nat.le_refl _),Reps.none _ _⟩ (Kd.BI (Kd.Cb HC0.out) _) (λ_ _ h=>h) (λ_ h=>h.elim) (λ_ _=>trivial) (((Below.refl _ _).drew).alloc (Nat.le_refl _) _) (by simp) (by have:=HBN.out.1;simp;omega) ?_;intro v2 w3 hown1 hb1 hg1 hat1))
        | ((refine Kd.AE (Kd.int i64) (Rr:=λx c=>c=[Value.int .i64 x]) (w0:=w2) w2.heap.size (by rfl) (.tmp 46) (.tmp 49) 37 3 (int i64 0) 8 (by rfl) Tryz.underlying37 Ju rfl (by decide) (by decide) v2 ([]++x) y B1 y.length k1 (λ_=>True) (λ_=>False) (by rfl) (by rfl) hown1 (Kd.Ad HCY.out hb1) (λ_ _ h=>h) (λ_ h=>h.elim) (λ_ _=>trivial) hb1 hb1.size (by have:=HBN.out.1;have:=HBN.out.2.1;simp;omega) ?_;intro v3 w4 hown2 hb2 hg2 hat2;rw[HXY.out]at hown2;obtain⟨A3,c3,e3⟩:=Kd.Ah hown2;subst e3))
        | ((go_at_call 25;refine(HS7.out _ _ _ (Kd.Ac hown2).2.2 (Kd.Ac hown2).2.1 (HB2.out.trans (hb2.mono HB2.out.size))).mono ?_;rintro e w5 ⟨rfl,⟨nd,rfl⟩⟩;have hb3:=Qs hb2 nd)))
      go_wp2;go_ret
      exact⟨rfl,HB2.out.trans (hb3.mono HB2.out.size)⟩
     ·obtain⟨A0,c0,rfl⟩:=Kd.AF ho0
      obtain rfl:r=false:=by
       have h:=H3.out;rw[if_neg h2]at h;exact(Option.some.inj h).symm
      have h3:((L.length:Int) == 2)=false:=beq_eq_false_iff_ne.mpr (by omega);clear ho0 ho1 hb H3 h2 htk hdk;go_wp2_with fail
      go_quiet (fail)
      go_wp2;go_ret
      exact⟨rfl,Qs HB2.out nq⟩
  ·obtain rfl:r=false:=by have h:=H.out;rw[if_neg hl]at h;simp at h;exact h
   have h8:((l1.length:Int) !=8)=true:=bne_iff_ne.mpr (by omega);have h9:((l1.length:Int) == 8)=false:=beq_eq_false_iff_ne.mpr (by omega);clear hl;go_enter Tryz.func102,Tryz.ntmps102;go_wp2_with fail;refine(Zy.calls a0 true _ HPR.out).mono ?_;rintro e w1 ⟨rfl,⟨q,rfl⟩⟩
   go_wp2;go_ret
   exact⟨rfl,Qs (Below.refl _ _) q⟩
def Z3.f (k:Nat) (a0:Int) (l1:List (List Int)):Option (Int):=(qh.f k a0 l1 4).bind λbt329=>(some (bt329.1.length:Int))
theorem Z3.mono (a0 a1 k):LeO (Z3.f k a0 a1) (Z3.f (k+1) a0 a1):=by
 unfold Z3.f
 repeat' with_reducible first|intro _|apply qh.mono|apply Eb|apply Ec|apply Ed|apply Ee
theorem Z3.calls (k:Nat) (a0:Int) (A1:Option Addr) (c1:Nat) (l1:List (List Int)) (r:Int) (w:World) (hr1:Kd.C KI w A1 l1.length l1) (hc1:l1.length<=c1) (h:Z3.f k a0 l1=some r):
  Calls Tryz.prog 103 #[int i64 a0,.slice A1 l1.length c1] w λe w'=>e=.returned (int i64 r)/\Below w.heap.size w w':=by
 have HR1:=am hr1;have HC1:=am hc1;clear hr1 hc1;have HB:=Em w;have H:=h;unfold Z3.f at H;clear h;replace H:=bs H;obtain⟨⟨t329,t332⟩,A3,H⟩:=H;dsimp only at H;obtain rfl:=Option.some.inj H;go_enter Tryz.func103,Tryz.ntmps103
 go_wp2_with (first|((with_reducible refine za (f:=98) rfl ?_);refine gl 10 Tryz.func98 #[int i64 a0,.slice A1 l1.length c1,int i64 4] ?_;(with_reducible refine(qh.calls k a0 (λk_=>k_ < w.heap.size) _ _ l1 4 t329 t332 _ ?_ A3.out).mono ?_);exact Kd.V_mk HC1.out (Kd.BL (Kd.C_F (Kd.BG 3 (Kd.AY .i64)) HR1.out) (bw HB));rintro e w4 ⟨v330,v333,rfl,ho0,ho1,hb⟩;refine⟨_,rfl,?_⟩;have HO331:=am (Kd.AG (Kd.Ar (ok':=λk_=>some k_≠(v333:Value).ownBlock) ho0 (λk_ hk_=>hk_.2)) (bz HB));have HO334:=am (Kd.Ai (Kd.Ae (ok':=λk_=>True) ho1 (λ_ hk_=>trivial)) (bz HB));replace HB:=bq HB hb;(try clear hb);(try clear ho0);(try clear ho1);obtain⟨Ao5,co5,eo5⟩:=Kd.AF HO331.out;subst eo5))
 go_ret
 exact⟨fq,bw HB⟩
end Go.Proofs.YtmgbpmihbljngaaGreat.PA
