-- Written by xprint.py, a program of this claim's own (over the kit's print.py)
import Derived.Test.YtmgbpmihbljngaaPAx2
import Derived.Deep.WholeRow
namespace Go.Proofs.Ytmgbpmihbljngaa.PA
set_option maxHeartbeats 8000000
set_option maxRecDepth 100000
open Go.RowKit Go.Proofs.YtmgbpmihbljngaaW.PrintWords Go.Proofs.YtmgbpmihbljngaaW.PrintLast Go.Proofs.YtmgbpmihbljngaaW.PrintMore
attribute [local go_sem] Qg Qj Qp Qo j4 j3 Qh Qf
set_option linter.unusedVariables false
set_option linter.unusedSimpArgs false
def linB (p x:Int):Bool:=decide (0≤x) && decide (x≤wrap64 (p - 1))
theorem Q5 (p x:Int):zq.f x 0 (wrap64 (p - 1))=some (linB p x):=by
 unfold zq.f linB
 by_cases h:x≥0
 ·rw[if_pos h,decide_eq_true (show 0≤x from h),Bool.true_and]
 ·rw[if_neg h,decide_eq_false (show ¬ 0≤x from h),Bool.false_and]
theorem qho {w:World} {b:Nat} {x y z:Int} {t:TypeId} (h:w.heap[b]? =some (.cells #[.int .i64 x,.int .i64 y,.int .i64 z] t (0,0))):Kd.C (Kd.int .i64) w (some ⟨b,0,none⟩) 3 [x,y,z]:=by
 refine Kd.C_of_reads (d:=(0:Int)) (h1:=fun _=>rfl) ⟨rfl,by omega,fun _=>⟨_,rfl,fun j hj=>?_⟩⟩
 have e:=cell_of_row w b j _ _ _ h
 rcases (show j=0∨j=1∨j=2 by omega) with rfl | rfl | rfl<;>exact e
def jl.f (k:Nat) (p x y z:Int):Option Bool:=if linB p x=true then if linB p y=true then if linB p z=true then (qu.f k p [x,y,z]).bind fun r=>(zb.f k r).bind fun b=>if b=true then some false else if 3≤r.length then some ((rd r 0 == x) && (rd r 1 == y) && (rd r 2 == z)) else none else some false else some false else some false
theorem jl.mono :∀ a0 a1 a2 a3 k,LeO (jl.f k a0 a1 a2 a3) (jl.f (k+1) a0 a1 a2 a3):=by
 intro a0 a1 a2 a3 k
 unfold jl.f
 exact LeO.ite (LeO.ite (LeO.ite (LeO.bind (qu.mono _ _ _) fun _=>LeO.bind (zb.mono _ _) fun _=>LeO.refl _) (LeO.refl _)) (LeO.refl _)) (LeO.refl _)
def jl.T7 :Bool×List (List Nat×List Nat):=(true,[([],[]),([0],[0]),([1],[1]),([2,1],[2]),([3],[3]),([4,3],[3,4]),([5,3],[3,5]),([3],[3]),([7,3],[3,7]),([8,3],[3,8]),([6,9,3],[3,6,9]),([3,10],[3,10]),([11,3],[11]),([12],[12]),([13,12],[12,13]),([14,12],[12,14]),([12],[12]),([16,12],[12,16]),([17,12],[12,17]),([15,18,12],[12,15,18]),([12,19],[12,19]),([20,12],[20]),([21],[21]),([22,21],[21,22]),([23,21],[21,23]),([21],[21]),([25,21],[21,25]),([26,21],[21,26]),([24,27,21],[21,24,27]),([21,28],[21,28]),([29,21,0,1,2,3,4,5,6,7,8,9,10,11,12,13,14,15,16,17,18,19,20,21,22,23,24,25,26,27,28,29],[29])])
def jl.B7 :List Nat:=[0,1,3,7,15,31,63,15,143,399,1023,2047,4095,8191,16383,32767,8191,73727,204799,524287,1048575,2097151,4194303,8388607,16777215,4194303,37748735,104857599,268435455,536870911,1073741823]
theorem jl.tab7 :rtab .any (Ju Try.f122 7)=jl.T7:=by kernel_rfl
theorem jl.bits7 :Qt jl.T7.2 jl.B7=true:=by kernel_rfl
theorem jl.outX (k:Nat) (p x y z:Int) (r:Bool) (w:World) (hx:linB p x=false):
  Calls Try.prog 122 #[.int .i64 p,.agg #[.int .i64 x,.int .i64 y,.int .i64 z]] w fun e w'=>e=.returned (.bool false)∧Below w.heap.size w w':=by
 have hu43:=Try.underlying43
 have hu41:=Try.underlying41
 have HB:=am (Below.refl w.heap.size w)
 clear k
 go_enter Try.func122,Try.ntmps122
 go_wp2_with fail
 refine wp_loop_rounds 4 ?_
 rw[rounds_succ]
 go_wp2_with fail
 refine(zq.calls x 0 _ false _ ((Q5 p x).trans (congrArg some hx))).mono ?_
 rintro e w1 ⟨rfl,⟨m1,rfl⟩⟩
 go_wp2_with fail
 go_ret
 exact⟨fq,bw HB⟩
theorem jl.outY (k:Nat) (p x y z:Int) (r:Bool) (w:World) (hx:linB p x=true) (hy:linB p y=false):
  Calls Try.prog 122 #[.int .i64 p,.agg #[.int .i64 x,.int .i64 y,.int .i64 z]] w fun e w'=>e=.returned (.bool false)∧Below w.heap.size w w':=by
 have hu43:=Try.underlying43
 have hu41:=Try.underlying41
 have HB:=am (Below.refl w.heap.size w)
 clear k
 go_enter Try.func122,Try.ntmps122
 go_wp2_with fail
 refine wp_loop_rounds 4 ?_
 rw[rounds_succ]
 go_wp2_with fail
 refine(zq.calls x 0 _ true _ ((Q5 p x).trans (congrArg some hx))).mono ?_
 rintro e w1 ⟨rfl,⟨m1,rfl⟩⟩
 go_wp2_with fail
 rw[rounds_succ]
 go_wp2_with fail
 refine(zq.calls y 0 _ false _ ((Q5 p y).trans (congrArg some hy))).mono ?_
 rintro e w2 ⟨rfl,⟨m2,rfl⟩⟩
 go_wp2_with fail
 go_ret
 exact⟨fq,bw HB⟩
theorem jl.outZ (k:Nat) (p x y z:Int) (r:Bool) (w:World) (hx:linB p x=true) (hy:linB p y=true) (hz:linB p z=false):
  Calls Try.prog 122 #[.int .i64 p,.agg #[.int .i64 x,.int .i64 y,.int .i64 z]] w fun e w'=>e=.returned (.bool false)∧Below w.heap.size w w':=by
 have hu43:=Try.underlying43
 have hu41:=Try.underlying41
 have HB:=am (Below.refl w.heap.size w)
 clear k
 go_enter Try.func122,Try.ntmps122
 go_wp2_with fail
 refine wp_loop_rounds 4 ?_
 rw[rounds_succ]
 go_wp2_with fail
 refine(zq.calls x 0 _ true _ ((Q5 p x).trans (congrArg some hx))).mono ?_
 rintro e w1 ⟨rfl,⟨m1,rfl⟩⟩
 go_wp2_with fail
 rw[rounds_succ]
 go_wp2_with fail
 refine(zq.calls y 0 _ true _ ((Q5 p y).trans (congrArg some hy))).mono ?_
 rintro e w2 ⟨rfl,⟨m2,rfl⟩⟩
 go_wp2_with fail
 rw[rounds_succ]
 go_wp2_with fail
 refine(zq.calls z 0 _ false _ ((Q5 p z).trans (congrArg some hz))).mono ?_
 rintro e w3 ⟨rfl,⟨m3,rfl⟩⟩
 go_wp2_with fail
 go_ret
 exact⟨fq,bw HB⟩
theorem jl.zero (k:Nat) (p x y z:Int) (r:Bool) (w:World) (hx:linB p x=true) (hy:linB p y=true) (hz:linB p z=true) (q:List Int) (hq:qu.f k p [x,y,z]=some q) (hb:zb.f k q=some true):
  Calls Try.prog 122 #[.int .i64 p,.agg #[.int .i64 x,.int .i64 y,.int .i64 z]] w fun e w'=>e=.returned (.bool false)∧Below w.heap.size w w':=by
 have hu43:=Try.underlying43
 have hu41:=Try.underlying41
 have HB:=am (Below.refl w.heap.size w)
 have HQ:=am hq;have HZ:=am hb;clear hq hb
 go_enter Try.func122,Try.ntmps122
 go_wp2_with fail
 refine wp_loop_rounds 4 ?_
 rw[rounds_succ]
 go_wp2_with fail
 refine(zq.calls x 0 _ true _ ((Q5 p x).trans (congrArg some hx))).mono ?_
 rintro e w1 ⟨rfl,⟨m1,rfl⟩⟩
 go_wp2_with fail
 rw[rounds_succ]
 go_wp2_with fail
 refine(zq.calls y 0 _ true _ ((Q5 p y).trans (congrArg some hy))).mono ?_
 rintro e w2 ⟨rfl,⟨m2,rfl⟩⟩
 go_wp2_with fail
 rw[rounds_succ]
 go_wp2_with fail
 refine(zq.calls z 0 _ true _ ((Q5 p z).trans (congrArg some hz))).mono ?_
 rintro e w3 ⟨rfl,⟨m3,rfl⟩⟩
 go_wp2_with fail
 rw[rounds_succ]
 go_wp2_with fail
 have HX0:=am (Kd.C_below (qho (w:=w.alloc (.cells #[.int .i64 x,.int .i64 y,.int .i64 z] 43)) (heap_alloc_last w _)) (gs (W':=(w.alloc (.cells #[.int .i64 x,.int .i64 y,.int .i64 z] 43)).drewN (m1+m2+m3))))
 refine(qu.calls k p (some ⟨w.heap.size,0,none⟩) 3 [x,y,z] q _ (HX0.out) (Nat.le_refl _) HQ.out).mono ?_
 rintro e w4 ⟨v0,rfl,hv,hb⟩
 have HC0:=am (Kd.C_below HX0.out hb)
 obtain⟨B1,d1,e1⟩:=Kd.R_slice hv
 subst e1
 replace HB:=bq HB hb
 have HV:=am (Kd.R_reads' hv)
 clear hv hb
 go_wp2_with fail
 refine st 31 (fun w'=>True) [] jl.tab7 jl.bits7 trivial fun hHeld HT_ HW_=>?_
 refine pz 0 23 HT_ ?_
 refine on 1 (some 24) HT_ fun K hK=>?_
 refine gs_ Try.func79 #[.slice B1 q.length d1] ?_
 refine(zb.calls k B1 d1 q true _ (Kd.C_below HV.out.2.2 gs) HV.out.2.1 HZ.out).mono ?_
 rintro e w5 ⟨rfl,⟨m5,rfl⟩⟩
 refine⟨_,rfl,?_⟩
 refine hK.out _ _ trivial fun hHeld=>nz ?_
 clear hK K
 refine pz 2 25 HT_ ?_;refine pz 3 26 HT_ ?_;refine po 4 27 HT_ ?_;refine po 5 28 HT_ ?_;refine po 6 29 HT_ ?_;refine po 7 30 HT_ ?_;refine po 8 31 HT_ ?_;refine po 9 32 HT_ ?_;refine po 10 33 HT_ ?_;refine pz 11 34 HT_ ?_;refine pz 12 35 HT_ ?_;refine po 13 36 HT_ ?_;refine po 14 37 HT_ ?_;refine po 15 38 HT_ ?_;refine po 16 39 HT_ ?_;refine po 17 40 HT_ ?_;refine po 18 41 HT_ ?_;refine po 19 42 HT_ ?_;refine pz 20 43 HT_ ?_;refine pz 21 44 HT_ ?_;refine po 22 45 HT_ ?_;refine po 23 46 HT_ ?_;refine po 24 47 HT_ ?_;refine po 25 48 HT_ ?_;refine po 26 49 HT_ ?_;refine po 27 50 HT_ ?_;refine po 28 51 HT_ ?_;refine pz 29 52 HT_ ?_;refine pz 30 4 HT_ ?_
 refine Zo (Qz HT_.out (by kernel_rfl)) ?_
 try go_wp2
 go_ret
 exact⟨fq,bw HB⟩
theorem jl.ne0 (k:Nat) (p x y z:Int) (r:Bool) (w:World) (hx:linB p x=true) (hy:linB p y=true) (hz:linB p z=true) (q:List Int) (hq:qu.f k p [x,y,z]=some q) (hb:zb.f k q=some false) (hl:3≤q.length) (e0:(rd q 0 == x)=false):
  Calls Try.prog 122 #[.int .i64 p,.agg #[.int .i64 x,.int .i64 y,.int .i64 z]] w fun e w'=>e=.returned (.bool false)∧Below w.heap.size w w':=by
 have hu43:=Try.underlying43
 have hu41:=Try.underlying41
 have HB:=am (Below.refl w.heap.size w)
 have HQ:=am hq;have HZ:=am hb;have HL:=am hl;clear hq hb
 go_enter Try.func122,Try.ntmps122
 go_wp2_with fail
 refine wp_loop_rounds 4 ?_
 rw[rounds_succ]
 go_wp2_with fail
 refine(zq.calls x 0 _ true _ ((Q5 p x).trans (congrArg some hx))).mono ?_
 rintro e w1 ⟨rfl,⟨m1,rfl⟩⟩
 go_wp2_with fail
 rw[rounds_succ]
 go_wp2_with fail
 refine(zq.calls y 0 _ true _ ((Q5 p y).trans (congrArg some hy))).mono ?_
 rintro e w2 ⟨rfl,⟨m2,rfl⟩⟩
 go_wp2_with fail
 rw[rounds_succ]
 go_wp2_with fail
 refine(zq.calls z 0 _ true _ ((Q5 p z).trans (congrArg some hz))).mono ?_
 rintro e w3 ⟨rfl,⟨m3,rfl⟩⟩
 go_wp2_with fail
 rw[rounds_succ]
 go_wp2_with fail
 have HX0:=am (Kd.C_below (qho (w:=w.alloc (.cells #[.int .i64 x,.int .i64 y,.int .i64 z] 43)) (heap_alloc_last w _)) (gs (W':=(w.alloc (.cells #[.int .i64 x,.int .i64 y,.int .i64 z] 43)).drewN (m1+m2+m3))))
 refine(qu.calls k p (some ⟨w.heap.size,0,none⟩) 3 [x,y,z] q _ (HX0.out) (Nat.le_refl _) HQ.out).mono ?_
 rintro e w4 ⟨v0,rfl,hv,hb⟩
 have HC0:=am (Kd.C_below HX0.out hb)
 obtain⟨B1,d1,e1⟩:=Kd.R_slice hv
 subst e1
 replace HB:=bq HB hb
 have HV:=am (Kd.R_reads' hv)
 clear hv hb
 go_wp2_with fail
 obtain⟨ad,ea,hx0⟩:=Kd.at_int HV.out.2.2 0 (by omega) (by omega)
 obtain rfl:=ea
 obtain⟨ad1,ea1,hx1⟩:=Kd.at_int HV.out.2.2 1 (by omega) (by omega)
 obtain rfl:ad=ad1:=by injection ea1
 obtain⟨ad2,ea2,hx2⟩:=Kd.at_int HV.out.2.2 2 (by omega) (by omega)
 obtain rfl:ad=ad2:=by injection ea2
 rw[show ((0:Int)).toNat=0 from rfl,Addr.add_zero']at hx0
 simp only[show (1:Int).toNat=1 from rfl,Nat.reduceMul,Nat.reduceEqDiff,Go.Addr.add,↓reduceIte]at hx1
 simp only[show (2:Int).toNat=2 from rfl,Nat.reduceMul,Nat.reduceEqDiff,Go.Addr.add,↓reduceIte]at hx2
 have l0:(0 < q.length)=True:=eq_true (by omega)
 have l1:(1 < (q.length:Int))=True:=eq_true (by omega)
 have l2:(2 < (q.length:Int))=True:=eq_true (by omega)
 obtain⟨a0,f0,g0⟩:=Kd.at_int HC0.out 0 (by omega) (by simp)
 obtain rfl:=Option.some.inj f0
 obtain⟨a1,f1,g1⟩:=Kd.at_int HC0.out 1 (by omega) (by simp)
 obtain rfl:=Option.some.inj f1
 obtain⟨a2,f2,g2⟩:=Kd.at_int HC0.out 2 (by omega) (by simp)
 obtain rfl:=Option.some.inj f2
 replace g0:w4.cell? ⟨w.heap.size,0,none⟩=some (.int .i64 x):=g0
 replace g1:w4.cell? ⟨w.heap.size,1,none⟩=some (.int .i64 y):=by simpa [Addr.add,rd] using g1
 replace g2:w4.cell? ⟨w.heap.size,2,none⟩=some (.int .i64 z):=by simpa [Addr.add,rd] using g2
 have p0:(0≤(0:Int))=True:=eq_true (by omega)
 have p1:(0≤(1:Int))=True:=eq_true (by omega)
 have p2:(0≤(2:Int))=True:=eq_true (by omega)
 have hHeld0:(fun w'=>w'.cell? ad=some (.int .i64 (rd q 0))∧w'.cell? ⟨ad.block,ad.off+1,none⟩=some (.int .i64 (rd q 1))∧w'.cell? ⟨ad.block,ad.off+2,none⟩=some (.int .i64 (rd q 2))∧w'.cell? ⟨w.heap.size,0,none⟩=some (.int .i64 x)∧w'.cell? ⟨w.heap.size,1,none⟩=some (.int .i64 y)∧w'.cell? ⟨w.heap.size,2,none⟩=some (.int .i64 z)) w4.drew:=⟨hx0,hx1,hx2,g0,g1,g2⟩
 refine st 31 (fun w'=>w'.cell? ad=some (.int .i64 (rd q 0))∧w'.cell? ⟨ad.block,ad.off+1,none⟩=some (.int .i64 (rd q 1))∧w'.cell? ⟨ad.block,ad.off+2,none⟩=some (.int .i64 (rd q 2))∧w'.cell? ⟨w.heap.size,0,none⟩=some (.int .i64 x)∧w'.cell? ⟨w.heap.size,1,none⟩=some (.int .i64 y)∧w'.cell? ⟨w.heap.size,2,none⟩=some (.int .i64 z)) [] jl.tab7 jl.bits7 hHeld0 fun hHeld HT_ HW_=>?_
 refine pz 0 23 HT_ ?_
 refine on 1 (some 24) HT_ fun K hK=>?_
 refine gs_ Try.func79 #[.slice (some ad) q.length d1] ?_
 refine(zb.calls k (some ad) d1 q false _ (Kd.C_below HV.out.2.2 gs) HV.out.2.1 HZ.out).mono ?_
 rintro e w5 ⟨rfl,⟨m5,rfl⟩⟩
 refine⟨_,rfl,?_⟩
 refine hK.out _ _ ⟨hx0,hx1,hx2,g0,g1,g2⟩ fun hHeld=>nz ?_
 clear hK K
 refine pz 2 25 HT_ ?_;refine pz 3 26 HT_ ?_;refine pz 4 27 HT_ ?_;refine pz 5 28 HT_ ?_;refine tk 6 29 HT_ HW_ hHeld ?_;refine pz 7 30 HT_ ?_;refine pz 8 31 HT_ ?_;refine tk 9 32 HT_ HW_ hHeld ?_;refine pz 10 33 HT_ ?_;refine pz 11 34 HT_ ?_;refine pz 12 35 HT_ ?_;refine po 13 36 HT_ ?_;refine po 14 37 HT_ ?_;refine po 15 38 HT_ ?_;refine po 16 39 HT_ ?_;refine po 17 40 HT_ ?_;refine po 18 41 HT_ ?_;refine po 19 42 HT_ ?_;refine pz 20 43 HT_ ?_;refine pz 21 44 HT_ ?_;refine po 22 45 HT_ ?_;refine po 23 46 HT_ ?_;refine po 24 47 HT_ ?_;refine po 25 48 HT_ ?_;refine po 26 49 HT_ ?_;refine po 27 50 HT_ ?_;refine po 28 51 HT_ ?_;refine pz 29 52 HT_ ?_;refine pz 30 4 HT_ ?_
 refine Zo (Qz HT_.out (by kernel_rfl)) ?_
 try go_wp2
 go_ret
 exact⟨fq,bw HB⟩
theorem jl.ne1 (k:Nat) (p x y z:Int) (r:Bool) (w:World) (hx:linB p x=true) (hy:linB p y=true) (hz:linB p z=true) (q:List Int) (hq:qu.f k p [x,y,z]=some q) (hb:zb.f k q=some false) (hl:3≤q.length) (e0:(rd q 0 == x)=true) (e1:(rd q 1 == y)=false):
  Calls Try.prog 122 #[.int .i64 p,.agg #[.int .i64 x,.int .i64 y,.int .i64 z]] w fun e w'=>e=.returned (.bool false)∧Below w.heap.size w w':=by
 have hu43:=Try.underlying43
 have hu41:=Try.underlying41
 have HB:=am (Below.refl w.heap.size w)
 have HQ:=am hq;have HZ:=am hb;have HL:=am hl;clear hq hb
 go_enter Try.func122,Try.ntmps122
 go_wp2_with fail
 refine wp_loop_rounds 4 ?_
 rw[rounds_succ]
 go_wp2_with fail
 refine(zq.calls x 0 _ true _ ((Q5 p x).trans (congrArg some hx))).mono ?_
 rintro e w1 ⟨rfl,⟨m1,rfl⟩⟩
 go_wp2_with fail
 rw[rounds_succ]
 go_wp2_with fail
 refine(zq.calls y 0 _ true _ ((Q5 p y).trans (congrArg some hy))).mono ?_
 rintro e w2 ⟨rfl,⟨m2,rfl⟩⟩
 go_wp2_with fail
 rw[rounds_succ]
 go_wp2_with fail
 refine(zq.calls z 0 _ true _ ((Q5 p z).trans (congrArg some hz))).mono ?_
 rintro e w3 ⟨rfl,⟨m3,rfl⟩⟩
 go_wp2_with fail
 rw[rounds_succ]
 go_wp2_with fail
 have HX0:=am (Kd.C_below (qho (w:=w.alloc (.cells #[.int .i64 x,.int .i64 y,.int .i64 z] 43)) (heap_alloc_last w _)) (gs (W':=(w.alloc (.cells #[.int .i64 x,.int .i64 y,.int .i64 z] 43)).drewN (m1+m2+m3))))
 refine(qu.calls k p (some ⟨w.heap.size,0,none⟩) 3 [x,y,z] q _ (HX0.out) (Nat.le_refl _) HQ.out).mono ?_
 rintro e w4 ⟨v0,rfl,hv,hb⟩
 have HC0:=am (Kd.C_below HX0.out hb)
 obtain⟨B1,d1,e1⟩:=Kd.R_slice hv
 subst e1
 replace HB:=bq HB hb
 have HV:=am (Kd.R_reads' hv)
 clear hv hb
 go_wp2_with fail
 obtain⟨ad,ea,hx0⟩:=Kd.at_int HV.out.2.2 0 (by omega) (by omega)
 obtain rfl:=ea
 obtain⟨ad1,ea1,hx1⟩:=Kd.at_int HV.out.2.2 1 (by omega) (by omega)
 obtain rfl:ad=ad1:=by injection ea1
 obtain⟨ad2,ea2,hx2⟩:=Kd.at_int HV.out.2.2 2 (by omega) (by omega)
 obtain rfl:ad=ad2:=by injection ea2
 rw[show ((0:Int)).toNat=0 from rfl,Addr.add_zero']at hx0
 simp only[show (1:Int).toNat=1 from rfl,Nat.reduceMul,Nat.reduceEqDiff,Go.Addr.add,↓reduceIte]at hx1
 simp only[show (2:Int).toNat=2 from rfl,Nat.reduceMul,Nat.reduceEqDiff,Go.Addr.add,↓reduceIte]at hx2
 have l0:(0 < q.length)=True:=eq_true (by omega)
 have l1:(1 < (q.length:Int))=True:=eq_true (by omega)
 have l2:(2 < (q.length:Int))=True:=eq_true (by omega)
 obtain⟨a0,f0,g0⟩:=Kd.at_int HC0.out 0 (by omega) (by simp)
 obtain rfl:=Option.some.inj f0
 obtain⟨a1,f1,g1⟩:=Kd.at_int HC0.out 1 (by omega) (by simp)
 obtain rfl:=Option.some.inj f1
 obtain⟨a2,f2,g2⟩:=Kd.at_int HC0.out 2 (by omega) (by simp)
 obtain rfl:=Option.some.inj f2
 replace g0:w4.cell? ⟨w.heap.size,0,none⟩=some (.int .i64 x):=g0
 replace g1:w4.cell? ⟨w.heap.size,1,none⟩=some (.int .i64 y):=by simpa [Addr.add,rd] using g1
 replace g2:w4.cell? ⟨w.heap.size,2,none⟩=some (.int .i64 z):=by simpa [Addr.add,rd] using g2
 have p0:(0≤(0:Int))=True:=eq_true (by omega)
 have p1:(0≤(1:Int))=True:=eq_true (by omega)
 have p2:(0≤(2:Int))=True:=eq_true (by omega)
 have hHeld0:(fun w'=>w'.cell? ad=some (.int .i64 (rd q 0))∧w'.cell? ⟨ad.block,ad.off+1,none⟩=some (.int .i64 (rd q 1))∧w'.cell? ⟨ad.block,ad.off+2,none⟩=some (.int .i64 (rd q 2))∧w'.cell? ⟨w.heap.size,0,none⟩=some (.int .i64 x)∧w'.cell? ⟨w.heap.size,1,none⟩=some (.int .i64 y)∧w'.cell? ⟨w.heap.size,2,none⟩=some (.int .i64 z)) w4.drew:=⟨hx0,hx1,hx2,g0,g1,g2⟩
 refine st 31 (fun w'=>w'.cell? ad=some (.int .i64 (rd q 0))∧w'.cell? ⟨ad.block,ad.off+1,none⟩=some (.int .i64 (rd q 1))∧w'.cell? ⟨ad.block,ad.off+2,none⟩=some (.int .i64 (rd q 2))∧w'.cell? ⟨w.heap.size,0,none⟩=some (.int .i64 x)∧w'.cell? ⟨w.heap.size,1,none⟩=some (.int .i64 y)∧w'.cell? ⟨w.heap.size,2,none⟩=some (.int .i64 z)) [] jl.tab7 jl.bits7 hHeld0 fun hHeld HT_ HW_=>?_
 refine pz 0 23 HT_ ?_
 refine on 1 (some 24) HT_ fun K hK=>?_
 refine gs_ Try.func79 #[.slice (some ad) q.length d1] ?_
 refine(zb.calls k (some ad) d1 q false _ (Kd.C_below HV.out.2.2 gs) HV.out.2.1 HZ.out).mono ?_
 rintro e w5 ⟨rfl,⟨m5,rfl⟩⟩
 refine⟨_,rfl,?_⟩
 refine hK.out _ _ ⟨hx0,hx1,hx2,g0,g1,g2⟩ fun hHeld=>nz ?_
 clear hK K
 refine pz 2 25 HT_ ?_;refine pz 3 26 HT_ ?_;refine pz 4 27 HT_ ?_;refine pz 5 28 HT_ ?_;refine tk 6 29 HT_ HW_ hHeld ?_;refine pz 7 30 HT_ ?_;refine pz 8 31 HT_ ?_;refine tk 9 32 HT_ HW_ hHeld ?_;refine pz 10 33 HT_ ?_;refine pz 11 34 HT_ ?_;refine pz 12 35 HT_ ?_;refine pz 13 36 HT_ ?_;refine pz 14 37 HT_ ?_;refine tk 15 38 HT_ HW_ hHeld ?_;refine pz 16 39 HT_ ?_;refine pz 17 40 HT_ ?_;refine tk 18 41 HT_ HW_ hHeld ?_;refine pz 19 42 HT_ ?_;refine pz 20 43 HT_ ?_;refine pz 21 44 HT_ ?_;refine po 22 45 HT_ ?_;refine po 23 46 HT_ ?_;refine po 24 47 HT_ ?_;refine po 25 48 HT_ ?_;refine po 26 49 HT_ ?_;refine po 27 50 HT_ ?_;refine po 28 51 HT_ ?_;refine pz 29 52 HT_ ?_;refine pz 30 4 HT_ ?_
 refine Zo (Qz HT_.out (by kernel_rfl)) ?_
 try go_wp2
 go_ret
 exact⟨fq,bw HB⟩
theorem jl.eq (k:Nat) (p x y z:Int) (r:Bool) (w:World) (hx:linB p x=true) (hy:linB p y=true) (hz:linB p z=true) (q:List Int) (hq:qu.f k p [x,y,z]=some q) (hb:zb.f k q=some false) (hl:3≤q.length) (e0:(rd q 0 == x)=true) (e1:(rd q 1 == y)=true):
  Calls Try.prog 122 #[.int .i64 p,.agg #[.int .i64 x,.int .i64 y,.int .i64 z]] w fun e w'=>e=.returned (.bool (rd q 2 == z))∧Below w.heap.size w w':=by
 have hu43:=Try.underlying43
 have hu41:=Try.underlying41
 have HB:=am (Below.refl w.heap.size w)
 have HQ:=am hq;have HZ:=am hb;have HL:=am hl;clear hq hb
 go_enter Try.func122,Try.ntmps122
 go_wp2_with fail
 refine wp_loop_rounds 4 ?_
 rw[rounds_succ]
 go_wp2_with fail
 refine(zq.calls x 0 _ true _ ((Q5 p x).trans (congrArg some hx))).mono ?_
 rintro e w1 ⟨rfl,⟨m1,rfl⟩⟩
 go_wp2_with fail
 rw[rounds_succ]
 go_wp2_with fail
 refine(zq.calls y 0 _ true _ ((Q5 p y).trans (congrArg some hy))).mono ?_
 rintro e w2 ⟨rfl,⟨m2,rfl⟩⟩
 go_wp2_with fail
 rw[rounds_succ]
 go_wp2_with fail
 refine(zq.calls z 0 _ true _ ((Q5 p z).trans (congrArg some hz))).mono ?_
 rintro e w3 ⟨rfl,⟨m3,rfl⟩⟩
 go_wp2_with fail
 rw[rounds_succ]
 go_wp2_with fail
 have HX0:=am (Kd.C_below (qho (w:=w.alloc (.cells #[.int .i64 x,.int .i64 y,.int .i64 z] 43)) (heap_alloc_last w _)) (gs (W':=(w.alloc (.cells #[.int .i64 x,.int .i64 y,.int .i64 z] 43)).drewN (m1+m2+m3))))
 refine(qu.calls k p (some ⟨w.heap.size,0,none⟩) 3 [x,y,z] q _ (HX0.out) (Nat.le_refl _) HQ.out).mono ?_
 rintro e w4 ⟨v0,rfl,hv,hb⟩
 have HC0:=am (Kd.C_below HX0.out hb)
 obtain⟨B1,d1,e1⟩:=Kd.R_slice hv
 subst e1
 replace HB:=bq HB hb
 have HV:=am (Kd.R_reads' hv)
 clear hv hb
 go_wp2_with fail
 obtain⟨ad,ea,hx0⟩:=Kd.at_int HV.out.2.2 0 (by omega) (by omega)
 obtain rfl:=ea
 obtain⟨ad1,ea1,hx1⟩:=Kd.at_int HV.out.2.2 1 (by omega) (by omega)
 obtain rfl:ad=ad1:=by injection ea1
 obtain⟨ad2,ea2,hx2⟩:=Kd.at_int HV.out.2.2 2 (by omega) (by omega)
 obtain rfl:ad=ad2:=by injection ea2
 rw[show ((0:Int)).toNat=0 from rfl,Addr.add_zero']at hx0
 simp only[show (1:Int).toNat=1 from rfl,Nat.reduceMul,Nat.reduceEqDiff,Go.Addr.add,↓reduceIte]at hx1
 simp only[show (2:Int).toNat=2 from rfl,Nat.reduceMul,Nat.reduceEqDiff,Go.Addr.add,↓reduceIte]at hx2
 have l0:(0 < q.length)=True:=eq_true (by omega)
 have l1:(1 < (q.length:Int))=True:=eq_true (by omega)
 have l2:(2 < (q.length:Int))=True:=eq_true (by omega)
 obtain⟨a0,f0,g0⟩:=Kd.at_int HC0.out 0 (by omega) (by simp)
 obtain rfl:=Option.some.inj f0
 obtain⟨a1,f1,g1⟩:=Kd.at_int HC0.out 1 (by omega) (by simp)
 obtain rfl:=Option.some.inj f1
 obtain⟨a2,f2,g2⟩:=Kd.at_int HC0.out 2 (by omega) (by simp)
 obtain rfl:=Option.some.inj f2
 replace g0:w4.cell? ⟨w.heap.size,0,none⟩=some (.int .i64 x):=g0
 replace g1:w4.cell? ⟨w.heap.size,1,none⟩=some (.int .i64 y):=by simpa [Addr.add,rd] using g1
 replace g2:w4.cell? ⟨w.heap.size,2,none⟩=some (.int .i64 z):=by simpa [Addr.add,rd] using g2
 have p0:(0≤(0:Int))=True:=eq_true (by omega)
 have p1:(0≤(1:Int))=True:=eq_true (by omega)
 have p2:(0≤(2:Int))=True:=eq_true (by omega)
 have hHeld0:(fun w'=>w'.cell? ad=some (.int .i64 (rd q 0))∧w'.cell? ⟨ad.block,ad.off+1,none⟩=some (.int .i64 (rd q 1))∧w'.cell? ⟨ad.block,ad.off+2,none⟩=some (.int .i64 (rd q 2))∧w'.cell? ⟨w.heap.size,0,none⟩=some (.int .i64 x)∧w'.cell? ⟨w.heap.size,1,none⟩=some (.int .i64 y)∧w'.cell? ⟨w.heap.size,2,none⟩=some (.int .i64 z)) w4.drew:=⟨hx0,hx1,hx2,g0,g1,g2⟩
 refine st 31 (fun w'=>w'.cell? ad=some (.int .i64 (rd q 0))∧w'.cell? ⟨ad.block,ad.off+1,none⟩=some (.int .i64 (rd q 1))∧w'.cell? ⟨ad.block,ad.off+2,none⟩=some (.int .i64 (rd q 2))∧w'.cell? ⟨w.heap.size,0,none⟩=some (.int .i64 x)∧w'.cell? ⟨w.heap.size,1,none⟩=some (.int .i64 y)∧w'.cell? ⟨w.heap.size,2,none⟩=some (.int .i64 z)) [] jl.tab7 jl.bits7 hHeld0 fun hHeld HT_ HW_=>?_
 refine pz 0 23 HT_ ?_
 refine on 1 (some 24) HT_ fun K hK=>?_
 refine gs_ Try.func79 #[.slice (some ad) q.length d1] ?_
 refine(zb.calls k (some ad) d1 q false _ (Kd.C_below HV.out.2.2 gs) HV.out.2.1 HZ.out).mono ?_
 rintro e w5 ⟨rfl,⟨m5,rfl⟩⟩
 refine⟨_,rfl,?_⟩
 refine hK.out _ _ ⟨hx0,hx1,hx2,g0,g1,g2⟩ fun hHeld=>nz ?_
 clear hK K
 refine pz 2 25 HT_ ?_;refine pz 3 26 HT_ ?_;refine pz 4 27 HT_ ?_;refine pz 5 28 HT_ ?_;refine tk 6 29 HT_ HW_ hHeld ?_;refine pz 7 30 HT_ ?_;refine pz 8 31 HT_ ?_;refine tk 9 32 HT_ HW_ hHeld ?_;refine pz 10 33 HT_ ?_;refine pz 11 34 HT_ ?_;refine pz 12 35 HT_ ?_;refine pz 13 36 HT_ ?_;refine pz 14 37 HT_ ?_;refine tk 15 38 HT_ HW_ hHeld ?_;refine pz 16 39 HT_ ?_;refine pz 17 40 HT_ ?_;refine tk 18 41 HT_ HW_ hHeld ?_;refine pz 19 42 HT_ ?_;refine pz 20 43 HT_ ?_;refine pz 21 44 HT_ ?_;refine pz 22 45 HT_ ?_;refine pz 23 46 HT_ ?_;refine tk 24 47 HT_ HW_ hHeld ?_;refine pz 25 48 HT_ ?_;refine pz 26 49 HT_ ?_;refine tk 27 50 HT_ HW_ hHeld ?_;refine pz 28 51 HT_ ?_;refine pz 29 52 HT_ ?_;refine pz 30 4 HT_ ?_
 refine Zo (Qz HT_.out (by kernel_rfl)) ?_
 try go_wp2
 go_ret
 exact⟨fq,bw HB⟩
theorem jl.calls (k:Nat) (p x y z:Int) (r:Bool) (w:World) (h:jl.f k p x y z=some r):
  Calls Try.prog 122 #[.int .i64 p,.agg #[.int .i64 x,.int .i64 y,.int .i64 z]] w fun e w'=>e=.returned (.bool r)∧Below w.heap.size w w':=by
 unfold jl.f at h
 split at h
 next hx=>
  split at h
  next hy=>
   split at h
   next hz=>
    obtain⟨q,hq,h⟩:=Option.bind_eq_some_iff.1 h
    obtain⟨b,hb,h⟩:=Option.bind_eq_some_iff.1 h
    cases b with
    | true=>obtain rfl:=Option.some.inj h;exact jl.zero k p x y z false w hx hy hz q hq hb
    | false=>
     rw[if_neg (by simp)]at h
     split at h
     next hl=>
      replace h:=Option.some.inj h
      cases e0:(rd q 0 == x) with
      | false=>rw[e0]at h;subst h;exact jl.ne0 k p x y z false w hx hy hz q hq hb hl e0
      | true=>
       cases e1:(rd q 1 == y) with
       | false=>rw[e0,e1]at h;subst h;exact jl.ne1 k p x y z false w hx hy hz q hq hb hl e0 e1
       | true=>rw[e0,e1]at h;subst h;exact jl.eq k p x y z false w hx hy hz q hq hb hl e0 e1
     next=>exact absurd h (by simp)
   next hz=>obtain rfl:=Option.some.inj h;exact jl.outZ k p x y z false w hx hy (by simpa using hz)
  next hy=>obtain rfl:=Option.some.inj h;exact jl.outY k p x y z false w hx (by simpa using hy)
 next hx=>obtain rfl:=Option.some.inj h;exact jl.outX k p x y z false w (by simpa using hx)
def j9.f (k:Nat) (a0:Int) (a1_0:Int) (a1_1:Int) (a1_2:Int):Option (Bool):=(jd.f a0).bind fun t131=>(if t131=true then ((jl.f k a0 a1_0 a1_1 a1_2).bind fun t132=>(some t132)) else (some false))
theorem j9.mono :∀ a0 a1 a2 a3 k,LeO (j9.f k a0 a1 a2 a3) (j9.f (k+1) a0 a1 a2 a3):=by
 intro a0 a1 a2 a3 k
 unfold j9.f
 repeat' first | (with_reducible first | apply jl.mono | exact LeO.refl _ | exact LeO.none _ | refine LeO.ite ?_ ?_ | refine LeO.bind ?_ (fun _=>?_)) | (first | apply jl.mono | exact LeO.none _ | refine LeO.ite ?_ ?_ | refine LeO.bind ?_ (fun _=>?_))
theorem j9.calls (k:Nat) (a0:Int) (a1_0:Int) (a1_1:Int) (a1_2:Int) (r:Bool) (w:World) (h:j9.f k a0 a1_0 a1_1 a1_2=some r):
  Calls Try.prog 76 #[.int .i64 a0,.agg #[.int .i64 a1_0,.int .i64 a1_1,.int .i64 a1_2]] w fun e w'=>e=.returned (.bool r)∧Below w.heap.size w w':=by
 have hu43:=Try.underlying43
 have HB:=am (Below.refl w.heap.size w)
 have H:((jd.f a0).bind fun t131=>(if t131=true then ((jl.f k a0 a1_0 a1_1 a1_2).bind fun t132=>(some t132)) else (some false)))=some r:=h
 clear h;replace H:=bs H;obtain⟨t131,A3,H⟩:=H
 by_cases c4:t131=true
 ·subst c4
  rw[if_pos rfl]at H
  replace H:=bs H;obtain⟨t132,A5,H⟩:=H;obtain rfl:=Option.some.inj H
  go_enter Try.func76,Try.ntmps76
  go_wp2_with (first | ((with_reducible refine q7 (N:=3) rfl ?_);refine xe_ 3 43 #[.int .i64 a1_0,.int .i64 a1_1,.int .i64 a1_2] ?_;intro gb130 hg w6 hbox hb;have BK130:=am (hbox);have GW130:=am ((by rw[hg];exact(bz HB):w.heap.size≤gb130));have GE130:=am ((by rw[hg];exact(bz HB):w.heap.size≤gb130));replace HB:=bq HB hb;clear hb hbox hg) | ((with_reducible refine qe (f:=103) rfl ?_);refine gl 6 Try.func103 #[.int .i64 a0] ?_;(with_reducible refine(jd.calls a0 true _ A3.out).mono ?_);rintro e w' ⟨rfl,⟨nd,rfl⟩⟩;refine⟨_,rfl,?_⟩;have hcz7_0:w6.cell? ⟨gb130,0,none⟩=some (.int .i64 a1_0):=(qf BK130.out 0).trans rfl;have hcz7_1:w6.cell? ⟨gb130,1,none⟩=some (.int .i64 a1_1):=(qf BK130.out 1).trans rfl;have hcz7_2:w6.cell? ⟨gb130,2,none⟩=some (.int .i64 a1_2):=(qf BK130.out 2).trans rfl;have hfz7_0:=qz BK130.out 0;have hfz7_1:=qz BK130.out 1;have hfz7_2:=qz BK130.out 2) | (go_at_call 122;(with_reducible refine(jl.calls k a0 a1_0 a1_1 a1_2 t132 _ A5.out).mono ?_);rintro e w8 ⟨rfl,hb⟩;replace BK130:=am (jx (g:=gb130) (o:=.cells #[.int .i64 a1_0,.int .i64 a1_1,.int .i64 a1_2] 43 (0,0)) (pk_ BK130) hb);replace HB:=am (zp (bx_ HB) hb);(try clear hb)))
  go_ret
  exact⟨fq,bx_ HB⟩
 ·replace c4:=Bool.eq_false_iff.mpr c4
  subst c4
  rw[if_neg (show ¬ (false=true) by decide)]at H
  obtain rfl:=Option.some.inj H
  go_enter Try.func76,Try.ntmps76
  go_wp2_with (first | ((with_reducible refine q7 (N:=3) rfl ?_);refine xe_ 3 43 #[.int .i64 a1_0,.int .i64 a1_1,.int .i64 a1_2] ?_;intro gb130 hg w9 hbox hb;have BK130:=am (hbox);have GW130:=am ((by rw[hg];exact(bz HB):w.heap.size≤gb130));have GE130:=am ((by rw[hg];exact(bz HB):w.heap.size≤gb130));replace HB:=bq HB hb;clear hb hbox hg) | ((with_reducible refine qe (f:=103) rfl ?_);refine gl 6 Try.func103 #[.int .i64 a0] ?_;(with_reducible refine(jd.calls a0 false _ A3.out).mono ?_);rintro e w' ⟨rfl,⟨nd,rfl⟩⟩;refine⟨_,rfl,?_⟩))
  go_ret
  exact⟨fq,bx_ HB⟩
def jy.f (a0:Int) (a1:Int):Option (Int):=if a0=0 then (none) else (some (Int.tmod (wrap64 ((Int.tmod a1 a0)+a0)) a0))
theorem jy.calls (a0:Int) (a1:Int) (r:Int) (w:World) (h:jy.f a0 a1=some r):
  Calls Try.prog 158 #[.int .i64 a0,.int .i64 a1] w fun e w'=>e=.returned (.int .i64 r)∧Drawn0 w w':=by
 have H:(if a0=0 then (none) else (some (Int.tmod (wrap64 ((Int.tmod a1 a0)+a0)) a0)))=some r:=h
 clear h;replace H:=ifm H;obtain⟨c3,H⟩:=H;have c3b0:=beq_eq_false_iff_ne.mpr c3;have c3b1:=bne_iff_ne.mpr c3;obtain rfl:=Option.some.inj H
 go_enter Try.func158,Try.ntmps158
 go_wp2;go_ret
 exact⟨fr,df⟩
end Go.Proofs.Ytmgbpmihbljngaa.PA
