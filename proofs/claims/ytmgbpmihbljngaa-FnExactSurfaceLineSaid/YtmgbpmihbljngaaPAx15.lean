-- Written by xprint.py, a program of this claim's own (over the kit's print.py)
import Derived.Test.YtmgbpmihbljngaaPAx14
import Derived.Shelf.SlicesE.Delete
namespace Go.Proofs.Ytmgbpmihbljngaa.PA
set_option maxHeartbeats 8000000
set_option maxRecDepth 100000
open Go.RowKit Go.Proofs.YtmgbpmihbljngaaW.PrintWords Go.Proofs.YtmgbpmihbljngaaW.PrintLast Go.Proofs.YtmgbpmihbljngaaW.PrintMore
attribute [local go_sem] Qs Qr Qx Qw Qf Qe Qq Qp
set_option linter.unusedVariables false
set_option linter.unusedSimpArgs false
def Qm.f (a0_0:Int) (a0_1:Int) (a0_2:Int) (a1_0:Int) (a1_1:Int) (a1_2:Int):Option (List Int):=some (([wrap64 ((wrap64 (a0_1*a1_2)) - (wrap64 (a0_2*a1_1))),wrap64 ((wrap64 (a0_2*a1_0)) - (wrap64 (a0_0*a1_2))),wrap64 ((wrap64 (a0_0*a1_1)) - (wrap64 (a0_1*a1_0)))]:List Int))
def Qm.T1 :Bool×List (List Nat×List Nat):=(true,[([],[]),([0],[0]),([],[]),([2],[2]),([],[]),([],[]),([4,1,0,1,4,5],[1,4]),([5,3,6,0,1,2,3,4,5,6],[3,5])])
def Qm.B1 :List Nat:=[0,1,0,4,0,0,51,127]
theorem Qm.tab1 :rtab .any (Z0 Try.f139 1)=Qm.T1:=by kernel_rfl
theorem Qm.bits1 :Qj Qm.T1.2 Qm.B1=true:=by kernel_rfl
theorem Qm.calls (a0_0:Int) (a0_1:Int) (a0_2:Int) (a1_0:Int) (a1_1:Int) (a1_2:Int) (r:List Int) (w:World) (h:Qm.f a0_0 a0_1 a0_2 a1_0 a1_1 a1_2=some r):
  Calls Try.prog 139 #[.agg #[.int .i64 a0_0,.int .i64 a0_1,.int .i64 a0_2],.agg #[.int .i64 a1_0,.int .i64 a1_1,.int .i64 a1_2]] w fun e w'=>∃ v0_:Value,e=.returned (v0_)∧Kd.R (Kd.int .i64) 3 w' w.heap.size (fun _=>True) v0_ r∧Below w.heap.size w w':=by
 have hu43:=Try.underlying43
 have hu41:=Try.underlying41
 have HB:=am (Below.refl w.heap.size w)
 have H:(some (([wrap64 ((wrap64 (a0_1*a1_2)) - (wrap64 (a0_2*a1_1))),wrap64 ((wrap64 (a0_2*a1_0)) - (wrap64 (a0_0*a1_2))),wrap64 ((wrap64 (a0_0*a1_1)) - (wrap64 (a0_1*a1_0)))]:List Int)))=some r:=h
 clear h
 generalize hy347:(([wrap64 ((wrap64 (a0_1*a1_2)) - (wrap64 (a0_2*a1_1))),wrap64 ((wrap64 (a0_2*a1_0)) - (wrap64 (a0_0*a1_2))),wrap64 ((wrap64 (a0_0*a1_1)) - (wrap64 (a0_1*a1_0)))]:List Int))=y347 at H
 have Ny347:=am hy347.symm;clear hy347;obtain rfl:=Option.some.inj H
 go_enter Try.func139,Try.ntmps139
 try go_wp2_with (first | ((with_reducible refine zb (N:=2) rfl ?_);refine xe_ 2 43 #[.int .i64 a0_0,.int .i64 a0_1,.int .i64 a0_2] ?_;intro gb343 hg w3 hbox hb;have BK343:=am (hbox);have GW343:=am ((by rw[hg];exact(bz HB):w.heap.size≤gb343));have GE343:=am ((by rw[hg];exact(bz HB):w.heap.size≤gb343));replace HB:=bq HB hb;clear hb hbox hg) | ((with_reducible refine zb (N:=3) rfl ?_);refine xe_ 3 43 #[.int .i64 a1_0,.int .i64 a1_1,.int .i64 a1_2] ?_;intro gb344 hg w4 hbox hb;have BK344:=am (hbox);have GW344:=am ((by rw[hg];exact(zo (bx_ HB)):w.heap.size≤gb344));have GE344:=am ((by rw[hg];exact(zo (bx_ HB)):w.heap.size≤gb344));replace HB:=am (jg (bx_ HB) hb);have NB343_344:=am ((by rw[hg];exact Nat.ne_of_lt (jy (g:=gb343) (o:=.cells #[.int .i64 a0_0,.int .i64 a0_1,.int .i64 a0_2] 43 (0,0)) (pk_ BK343)):gb343≠gb344));have NB344_343:=am ((by rw[hg];exact Nat.ne_of_gt (jy (g:=gb343) (o:=.cells #[.int .i64 a0_0,.int .i64 a0_1,.int .i64 a0_2] 43 (0,0)) (pk_ BK343)):gb344≠gb343));replace BK343:=am (qv (g:=gb343) (o:=.cells #[.int .i64 a0_0,.int .i64 a0_1,.int .i64 a0_2] 43 (0,0)) (pk_ BK343) hb);clear hb hbox hg))
 replace BK343:=am (qw BK343.out)
 replace BK344:=am (qw BK344.out)
 replace HB:=am (Qg HB.out)
 refine st 8 (fun w'=>w'.cell? ⟨gb343,0,none⟩=some (.int .i64 a0_0)∧w'.cell? ⟨gb343,1,none⟩=some (.int .i64 a0_1)∧w'.cell? ⟨gb343,2,none⟩=some (.int .i64 a0_2)∧w'.cell? ⟨gb344,0,none⟩=some (.int .i64 a1_0)∧w'.cell? ⟨gb344,1,none⟩=some (.int .i64 a1_1)∧w'.cell? ⟨gb344,2,none⟩=some (.int .i64 a1_2)) [] Qm.tab1 Qm.bits1 (⟨(qe BK343.out 0).trans rfl,(qe BK343.out 1).trans rfl,(qe BK343.out 2).trans rfl,(qe BK344.out 0).trans rfl,(qe BK344.out 1).trans rfl,(qe BK344.out 2).trans rfl⟩) fun hHeld HT_ HW_=>?_
 generalize w4.drew=w5 at BK343 BK344 HB hHeld ⊢
 refine pz 0 7 HT_ ?_;refine pz 2 9 HT_ ?_;refine tk 1 8 HT_ HW_ hHeld ?_;refine tk 3 10 HT_ HW_ hHeld ?_
 refine join_ (σ:=Nat×Nat) 2 #[true,true,true,true,true,true,false,false] (fun s_=>[(5,.pointer (some ⟨s_.1,0,none⟩)),(6,.pointer (some ⟨s_.2,0,none⟩))]) (fun s_ w'=>(w'.cell? ⟨gb343,0,none⟩=some (.int .i64 a0_0)∧w'.cell? ⟨gb343,1,none⟩=some (.int .i64 a0_1)∧w'.cell? ⟨gb343,2,none⟩=some (.int .i64 a0_2)∧w'.cell? ⟨gb344,0,none⟩=some (.int .i64 a1_0)∧w'.cell? ⟨gb344,1,none⟩=some (.int .i64 a1_1)∧w'.cell? ⟨gb344,2,none⟩=some (.int .i64 a1_2))∧(w'.heap[gb343]? =some (.cells #[.int .i64 a0_0,.int .i64 a0_1,.int .i64 a0_2] 43 (0,0)))∧(w'.heap[gb344]? =some (.cells #[.int .i64 a1_0,.int .i64 a1_1,.int .i64 a1_2] 43 (0,0)))∧(w'.heap[s_.1]? =some (.cells #[.int .i64 0,.int .i64 0,.int .i64 0] 41 (0,0)))∧(w'.heap[s_.2]? =some (.cells #[.int .i64 0,.int .i64 0,.int .i64 0] 41 (0,0)))∧(w.heap.size≤s_.1)∧(w.heap.size≤s_.1)∧(gb343≠s_.1)∧(s_.1≠gb343)∧(gb344≠s_.1)∧(s_.1≠gb344)∧(s_.2≠s_.1)∧(s_.1≠s_.2)∧(w.heap.size≤s_.2)∧(w.heap.size≤s_.2)∧(gb343≠s_.2)∧(s_.2≠gb343)∧(gb344≠s_.2)∧(s_.2≠gb344)∧(Below w.heap.size w w')) ?_ ?_
 rotate_left
 ·intro hCont
  refine two_ (i:=4) (j:=5) (Ni:=some 5) (Nj:=some 6) #[true,true,true,true,true,false,false,false] #[true,true,true,true,false,true,false,false] rfl rfl rfl rfl (qpb HT_.out (by kernel_rfl)) (by decide) (by decide) (fun K hK=>?_) (fun K hK=>?_)
  ·skip
   refine xs_ 5 41 #[.int .i64 0,.int .i64 0,.int .i64 0] ?_
   intro gb345 hg w6 hbox hb
   have BK345:=am (hbox)
   have GW345:=am ((by rw[hg];exact(zo (bx_ HB)):w.heap.size≤gb345))
   have GE345:=am ((by rw[hg];exact(zo (bx_ HB)):w.heap.size≤gb345))
   replace HB:=am (jg (bx_ HB) hb)
   have NB343_345:=am ((by rw[hg];exact Nat.ne_of_lt (jy (g:=gb343) (o:=.cells #[.int .i64 a0_0,.int .i64 a0_1,.int .i64 a0_2] 43 (0,0)) (pk_ BK343)):gb343≠gb345))
   have NB345_343:=am ((by rw[hg];exact Nat.ne_of_gt (jy (g:=gb343) (o:=.cells #[.int .i64 a0_0,.int .i64 a0_1,.int .i64 a0_2] 43 (0,0)) (pk_ BK343)):gb345≠gb343))
   replace BK343:=am (qv (g:=gb343) (o:=.cells #[.int .i64 a0_0,.int .i64 a0_1,.int .i64 a0_2] 43 (0,0)) (pk_ BK343) hb)
   have NB344_345:=am ((by rw[hg];exact Nat.ne_of_lt (jy (g:=gb344) (o:=.cells #[.int .i64 a1_0,.int .i64 a1_1,.int .i64 a1_2] 43 (0,0)) (pk_ BK344)):gb344≠gb345))
   have NB345_344:=am ((by rw[hg];exact Nat.ne_of_gt (jy (g:=gb344) (o:=.cells #[.int .i64 a1_0,.int .i64 a1_1,.int .i64 a1_2] 43 (0,0)) (pk_ BK344)):gb345≠gb344))
   replace BK344:=am (qv (g:=gb344) (o:=.cells #[.int .i64 a1_0,.int .i64 a1_1,.int .i64 a1_2] 43 (0,0)) (pk_ BK344) hb)
   clear hb hbox hg
   refine hK.out _ _ ⟨(qe BK343.out 0).trans rfl,(qe BK343.out 1).trans rfl,(qe BK343.out 2).trans rfl,(qe BK344.out 0).trans rfl,(qe BK344.out 1).trans rfl,(qe BK344.out 2).trans rfl⟩ fun hHeld=>nz ?_
   clear hK K
   refine on 5 (some 6) HT_ fun K hK=>?_
   refine xs_ 6 41 #[.int .i64 0,.int .i64 0,.int .i64 0] ?_
   intro gb346 hg w7 hbox hb
   have BK346:=am (hbox)
   have GW346:=am ((by rw[hg];exact(zo (bx_ HB)):w.heap.size≤gb346))
   have GE346:=am ((by rw[hg];exact(zo (bx_ HB)):w.heap.size≤gb346))
   replace HB:=am (jg (bx_ HB) hb)
   have NB343_346:=am ((by rw[hg];exact Nat.ne_of_lt (jy (g:=gb343) (o:=.cells #[.int .i64 a0_0,.int .i64 a0_1,.int .i64 a0_2] 43 (0,0)) (pk_ BK343)):gb343≠gb346))
   have NB346_343:=am ((by rw[hg];exact Nat.ne_of_gt (jy (g:=gb343) (o:=.cells #[.int .i64 a0_0,.int .i64 a0_1,.int .i64 a0_2] 43 (0,0)) (pk_ BK343)):gb346≠gb343))
   replace BK343:=am (qv (g:=gb343) (o:=.cells #[.int .i64 a0_0,.int .i64 a0_1,.int .i64 a0_2] 43 (0,0)) (pk_ BK343) hb)
   have NB344_346:=am ((by rw[hg];exact Nat.ne_of_lt (jy (g:=gb344) (o:=.cells #[.int .i64 a1_0,.int .i64 a1_1,.int .i64 a1_2] 43 (0,0)) (pk_ BK344)):gb344≠gb346))
   have NB346_344:=am ((by rw[hg];exact Nat.ne_of_gt (jy (g:=gb344) (o:=.cells #[.int .i64 a1_0,.int .i64 a1_1,.int .i64 a1_2] 43 (0,0)) (pk_ BK344)):gb346≠gb344))
   replace BK344:=am (qv (g:=gb344) (o:=.cells #[.int .i64 a1_0,.int .i64 a1_1,.int .i64 a1_2] 43 (0,0)) (pk_ BK344) hb)
   have NB345_346:=am ((by rw[hg];exact Nat.ne_of_lt (jy (g:=gb345) (o:=.cells #[.int .i64 0,.int .i64 0,.int .i64 0] 41 (0,0)) (pk_ BK345)):gb345≠gb346))
   have NB346_345:=am ((by rw[hg];exact Nat.ne_of_gt (jy (g:=gb345) (o:=.cells #[.int .i64 0,.int .i64 0,.int .i64 0] 41 (0,0)) (pk_ BK345)):gb346≠gb345))
   replace BK345:=am (qv (g:=gb345) (o:=.cells #[.int .i64 0,.int .i64 0,.int .i64 0] 41 (0,0)) (pk_ BK345) hb)
   clear hb hbox hg
   refine hK.out _ _ ⟨(qe BK343.out 0).trans rfl,(qe BK343.out 1).trans rfl,(qe BK343.out 2).trans rfl,(qe BK344.out 0).trans rfl,(qe BK344.out 1).trans rfl,(qe BK344.out 2).trans rfl⟩ fun hHeld=>nz ?_
   clear hK K
   exact qe5 (by first | (simp only[Jq,Act.put,List.setIfInBounds_toArray,List.set_cons_zero,List.set_cons_succ];done) | (simp only[Jq,Act.put,List.setIfInBounds_toArray,List.set_cons_zero,List.set_cons_succ];rfl)) (hCont (gb345,gb346) _ ⟨hHeld,(pk_ BK343),(pk_ BK344),(pk_ BK345),(pk_ BK346),GW345.out,GE345.out,NB343_345.out,NB345_343.out,NB344_345.out,NB345_344.out,NB346_345.out,NB345_346.out,GW346.out,GE346.out,NB343_346.out,NB346_343.out,NB344_346.out,NB346_344.out,(bx_ HB)⟩)
  ·skip
   refine xs_ 6 41 #[.int .i64 0,.int .i64 0,.int .i64 0] ?_
   intro gb346 hg w6 hbox hb
   have BK346:=am (hbox)
   have GW346:=am ((by rw[hg];exact(zo (bx_ HB)):w.heap.size≤gb346))
   have GE346:=am ((by rw[hg];exact(zo (bx_ HB)):w.heap.size≤gb346))
   replace HB:=am (jg (bx_ HB) hb)
   have NB343_346:=am ((by rw[hg];exact Nat.ne_of_lt (jy (g:=gb343) (o:=.cells #[.int .i64 a0_0,.int .i64 a0_1,.int .i64 a0_2] 43 (0,0)) (pk_ BK343)):gb343≠gb346))
   have NB346_343:=am ((by rw[hg];exact Nat.ne_of_gt (jy (g:=gb343) (o:=.cells #[.int .i64 a0_0,.int .i64 a0_1,.int .i64 a0_2] 43 (0,0)) (pk_ BK343)):gb346≠gb343))
   replace BK343:=am (qv (g:=gb343) (o:=.cells #[.int .i64 a0_0,.int .i64 a0_1,.int .i64 a0_2] 43 (0,0)) (pk_ BK343) hb)
   have NB344_346:=am ((by rw[hg];exact Nat.ne_of_lt (jy (g:=gb344) (o:=.cells #[.int .i64 a1_0,.int .i64 a1_1,.int .i64 a1_2] 43 (0,0)) (pk_ BK344)):gb344≠gb346))
   have NB346_344:=am ((by rw[hg];exact Nat.ne_of_gt (jy (g:=gb344) (o:=.cells #[.int .i64 a1_0,.int .i64 a1_1,.int .i64 a1_2] 43 (0,0)) (pk_ BK344)):gb346≠gb344))
   replace BK344:=am (qv (g:=gb344) (o:=.cells #[.int .i64 a1_0,.int .i64 a1_1,.int .i64 a1_2] 43 (0,0)) (pk_ BK344) hb)
   clear hb hbox hg
   refine hK.out _ _ ⟨(qe BK343.out 0).trans rfl,(qe BK343.out 1).trans rfl,(qe BK343.out 2).trans rfl,(qe BK344.out 0).trans rfl,(qe BK344.out 1).trans rfl,(qe BK344.out 2).trans rfl⟩ fun hHeld=>nz ?_
   clear hK K
   refine on 4 (some 5) HT_ fun K hK=>?_
   refine xs_ 5 41 #[.int .i64 0,.int .i64 0,.int .i64 0] ?_
   intro gb345 hg w7 hbox hb
   have BK345:=am (hbox)
   have GW345:=am ((by rw[hg];exact(zo (bx_ HB)):w.heap.size≤gb345))
   have GE345:=am ((by rw[hg];exact(zo (bx_ HB)):w.heap.size≤gb345))
   replace HB:=am (jg (bx_ HB) hb)
   have NB343_345:=am ((by rw[hg];exact Nat.ne_of_lt (jy (g:=gb343) (o:=.cells #[.int .i64 a0_0,.int .i64 a0_1,.int .i64 a0_2] 43 (0,0)) (pk_ BK343)):gb343≠gb345))
   have NB345_343:=am ((by rw[hg];exact Nat.ne_of_gt (jy (g:=gb343) (o:=.cells #[.int .i64 a0_0,.int .i64 a0_1,.int .i64 a0_2] 43 (0,0)) (pk_ BK343)):gb345≠gb343))
   replace BK343:=am (qv (g:=gb343) (o:=.cells #[.int .i64 a0_0,.int .i64 a0_1,.int .i64 a0_2] 43 (0,0)) (pk_ BK343) hb)
   have NB344_345:=am ((by rw[hg];exact Nat.ne_of_lt (jy (g:=gb344) (o:=.cells #[.int .i64 a1_0,.int .i64 a1_1,.int .i64 a1_2] 43 (0,0)) (pk_ BK344)):gb344≠gb345))
   have NB345_344:=am ((by rw[hg];exact Nat.ne_of_gt (jy (g:=gb344) (o:=.cells #[.int .i64 a1_0,.int .i64 a1_1,.int .i64 a1_2] 43 (0,0)) (pk_ BK344)):gb345≠gb344))
   replace BK344:=am (qv (g:=gb344) (o:=.cells #[.int .i64 a1_0,.int .i64 a1_1,.int .i64 a1_2] 43 (0,0)) (pk_ BK344) hb)
   have NB346_345:=am ((by rw[hg];exact Nat.ne_of_lt (jy (g:=gb346) (o:=.cells #[.int .i64 0,.int .i64 0,.int .i64 0] 41 (0,0)) (pk_ BK346)):gb346≠gb345))
   have NB345_346:=am ((by rw[hg];exact Nat.ne_of_gt (jy (g:=gb346) (o:=.cells #[.int .i64 0,.int .i64 0,.int .i64 0] 41 (0,0)) (pk_ BK346)):gb345≠gb346))
   replace BK346:=am (qv (g:=gb346) (o:=.cells #[.int .i64 0,.int .i64 0,.int .i64 0] 41 (0,0)) (pk_ BK346) hb)
   clear hb hbox hg
   refine hK.out _ _ ⟨(qe BK343.out 0).trans rfl,(qe BK343.out 1).trans rfl,(qe BK343.out 2).trans rfl,(qe BK344.out 0).trans rfl,(qe BK344.out 1).trans rfl,(qe BK344.out 2).trans rfl⟩ fun hHeld=>nz ?_
   clear hK K
   exact qe5 (by first | (simp only[Jq,Act.put,List.setIfInBounds_toArray,List.set_cons_zero,List.set_cons_succ];done) | (simp only[Jq,Act.put,List.setIfInBounds_toArray,List.set_cons_zero,List.set_cons_succ];rfl)) (hCont (gb345,gb346) _ ⟨hHeld,(pk_ BK343),(pk_ BK344),(pk_ BK345),(pk_ BK346),GW345.out,GE345.out,NB343_345.out,NB345_343.out,NB344_345.out,NB345_344.out,NB346_345.out,NB345_346.out,GW346.out,GE346.out,NB343_346.out,NB346_343.out,NB344_346.out,NB346_344.out,(bx_ HB)⟩)
 rintro⟨gb345,gb346⟩ w8 ⟨hS_,h0_,h1_,h2_,h3_,h4_,h5_,h6_,h7_,h8_,h9_,h10_,h11_,h12_,h13_,h14_,h15_,h16_,h17_,h18_⟩
 have n0_:qf (w8.heap[gb343]? =some (.cells #[.int .i64 a0_0,.int .i64 a0_1,.int .i64 a0_2] 43 (0,0))):=⟨h0_⟩
 have n1_:qf (w8.heap[gb344]? =some (.cells #[.int .i64 a1_0,.int .i64 a1_1,.int .i64 a1_2] 43 (0,0))):=⟨h1_⟩
 have n2_:qf (w8.heap[gb345]? =some (.cells #[.int .i64 0,.int .i64 0,.int .i64 0] 41 (0,0))):=⟨h2_⟩
 have n3_:qf (w8.heap[gb346]? =some (.cells #[.int .i64 0,.int .i64 0,.int .i64 0] 41 (0,0))):=⟨h3_⟩
 have n4_:qf (w.heap.size≤gb345):=⟨h4_⟩
 have n5_:qf (w.heap.size≤gb345):=⟨h5_⟩
 have n6_:qf (gb343≠gb345):=⟨h6_⟩
 have n7_:qf (gb345≠gb343):=⟨h7_⟩
 have n8_:qf (gb344≠gb345):=⟨h8_⟩
 have n9_:qf (gb345≠gb344):=⟨h9_⟩
 have n10_:qf (gb346≠gb345):=⟨h10_⟩
 have n11_:qf (gb345≠gb346):=⟨h11_⟩
 have n12_:qf (w.heap.size≤gb346):=⟨h12_⟩
 have n13_:qf (w.heap.size≤gb346):=⟨h13_⟩
 have n14_:qf (gb343≠gb346):=⟨h14_⟩
 have n15_:qf (gb346≠gb343):=⟨h15_⟩
 have n16_:qf (gb344≠gb346):=⟨h16_⟩
 have n17_:qf (gb346≠gb344):=⟨h17_⟩
 have n18_:qf (Below w.heap.size w w8):=⟨h18_⟩
 clear BK343;clear BK344;clear HB
 clear h0_ h1_ h2_ h3_ h4_ h5_ h6_ h7_ h8_ h9_ h10_ h11_ h12_ h13_ h14_ h15_ h16_ h17_ h18_
 have BK343:=n0_
 have BK344:=n1_
 have BK345:=n2_
 have BK346:=n3_
 have GW345:=n4_
 have GE345:=n5_
 have NB343_345:=n6_
 have NB345_343:=n7_
 have NB344_345:=n8_
 have NB345_344:=n9_
 have NB346_345:=n10_
 have NB345_346:=n11_
 have GW346:=n12_
 have GE346:=n13_
 have NB343_346:=n14_
 have NB346_343:=n15_
 have NB344_346:=n16_
 have NB346_344:=n17_
 have HB:=n18_
 clear n0_ n1_ n2_ n3_ n4_ n5_ n6_ n7_ n8_ n9_ n10_ n11_ n12_ n13_ n14_ n15_ n16_ n17_ n18_
 have hHeld:w8.cell? ⟨gb343,0,none⟩=some (.int .i64 a0_0)∧w8.cell? ⟨gb343,1,none⟩=some (.int .i64 a0_1)∧w8.cell? ⟨gb343,2,none⟩=some (.int .i64 a0_2)∧w8.cell? ⟨gb344,0,none⟩=some (.int .i64 a1_0)∧w8.cell? ⟨gb344,1,none⟩=some (.int .i64 a1_1)∧w8.cell? ⟨gb344,2,none⟩=some (.int .i64 a1_2):=hS_
 refine qe5 (a':=?_) ?_ ?_
 rotate_left
 ·simp only[Jq,Act.put,List.setIfInBounds_toArray,List.set_cons_zero,List.set_cons_succ]
  rfl
 refine on 6 none HT_ fun K hK=>?_
 have hs9:w8.cell? ⟨gb345,0,none⟩=some (.int .i64 0):=(qe BK345.out 0).trans rfl
 have hfs9:=ql BK345.out 0
 have hns9_0:=NB343_345.out
 have hns9_1:=NB344_345.out
 have hns9_3:=NB346_345.out
 have hms9_0:=NB345_343.out
 have hms9_1:=NB345_344.out
 have hms9_3:=NB345_346.out
 have hs10:w8.cell? ⟨gb345,1,none⟩=some (.int .i64 0):=(qe BK345.out 1).trans rfl
 have hfs10:=ql BK345.out 1
 have hns10_0:=NB343_345.out
 have hns10_1:=NB344_345.out
 have hns10_3:=NB346_345.out
 have hms10_0:=NB345_343.out
 have hms10_1:=NB345_344.out
 have hms10_3:=NB345_346.out
 have hs11:w8.cell? ⟨gb345,2,none⟩=some (.int .i64 0):=(qe BK345.out 2).trans rfl
 have hfs11:=ql BK345.out 2
 have hns11_0:=NB343_345.out
 have hns11_1:=NB344_345.out
 have hns11_3:=NB346_345.out
 have hms11_0:=NB345_343.out
 have hms11_1:=NB345_344.out
 have hms11_3:=NB345_346.out
 refine qgw (w1:=?_) (by rfl) rfl ?_ ?_
 rotate_left
 ·go_simp
  rfl
 refine hK.out _ _ ⟨((jz (p:=⟨gb345,_,none⟩) NB343_345.out _).trans (((jz (p:=⟨gb345,_,none⟩) NB343_345.out _).trans (((jz (p:=⟨gb345,_,none⟩) NB343_345.out _).trans (hHeld.1)))))),((jz (p:=⟨gb345,_,none⟩) NB343_345.out _).trans (((jz (p:=⟨gb345,_,none⟩) NB343_345.out _).trans (((jz (p:=⟨gb345,_,none⟩) NB343_345.out _).trans (hHeld.2.1)))))),((jz (p:=⟨gb345,_,none⟩) NB343_345.out _).trans (((jz (p:=⟨gb345,_,none⟩) NB343_345.out _).trans (((jz (p:=⟨gb345,_,none⟩) NB343_345.out _).trans (hHeld.2.2.1)))))),((jz (p:=⟨gb345,_,none⟩) NB344_345.out _).trans (((jz (p:=⟨gb345,_,none⟩) NB344_345.out _).trans (((jz (p:=⟨gb345,_,none⟩) NB344_345.out _).trans (hHeld.2.2.2.1)))))),((jz (p:=⟨gb345,_,none⟩) NB344_345.out _).trans (((jz (p:=⟨gb345,_,none⟩) NB344_345.out _).trans (((jz (p:=⟨gb345,_,none⟩) NB344_345.out _).trans (hHeld.2.2.2.2.1)))))),((jz (p:=⟨gb345,_,none⟩) NB344_345.out _).trans (((jz (p:=⟨gb345,_,none⟩) NB344_345.out _).trans (((jz (p:=⟨gb345,_,none⟩) NB344_345.out _).trans (hHeld.2.2.2.2.2))))))⟩ (fun hHeld=>?_)
 clear hK K
 refine on 7 none HT_ fun K hK=>?_
 have hs12:w8.cell? ⟨gb346,0,none⟩=some (.int .i64 0):=(qe BK346.out 0).trans rfl
 have hfs12:=ql BK346.out 0
 have hns12_0:=NB343_346.out
 have hns12_1:=NB344_346.out
 have hns12_2:=NB345_346.out
 have hms12_0:=NB346_343.out
 have hms12_1:=NB346_344.out
 have hms12_2:=NB346_345.out
 have hs13:w8.cell? ⟨gb346,1,none⟩=some (.int .i64 0):=(qe BK346.out 1).trans rfl
 have hfs13:=ql BK346.out 1
 have hns13_0:=NB343_346.out
 have hns13_1:=NB344_346.out
 have hns13_2:=NB345_346.out
 have hms13_0:=NB346_343.out
 have hms13_1:=NB346_344.out
 have hms13_2:=NB346_345.out
 have hs14:w8.cell? ⟨gb346,2,none⟩=some (.int .i64 0):=(qe BK346.out 2).trans rfl
 have hfs14:=ql BK346.out 2
 have hns14_0:=NB343_346.out
 have hns14_1:=NB344_346.out
 have hns14_2:=NB345_346.out
 have hms14_0:=NB346_343.out
 have hms14_1:=NB346_344.out
 have hms14_2:=NB346_345.out
 refine qgw (w1:=?_) (by rfl) rfl ?_ ?_
 rotate_left
 ·go_simp
  rfl
 refine hK.out _ _ ⟨((jz (p:=⟨gb346,_,none⟩) NB343_346.out _).trans (((jz (p:=⟨gb346,_,none⟩) NB343_346.out _).trans (((jz (p:=⟨gb346,_,none⟩) NB343_346.out _).trans (hHeld.1)))))),((jz (p:=⟨gb346,_,none⟩) NB343_346.out _).trans (((jz (p:=⟨gb346,_,none⟩) NB343_346.out _).trans (((jz (p:=⟨gb346,_,none⟩) NB343_346.out _).trans (hHeld.2.1)))))),((jz (p:=⟨gb346,_,none⟩) NB343_346.out _).trans (((jz (p:=⟨gb346,_,none⟩) NB343_346.out _).trans (((jz (p:=⟨gb346,_,none⟩) NB343_346.out _).trans (hHeld.2.2.1)))))),((jz (p:=⟨gb346,_,none⟩) NB344_346.out _).trans (((jz (p:=⟨gb346,_,none⟩) NB344_346.out _).trans (((jz (p:=⟨gb346,_,none⟩) NB344_346.out _).trans (hHeld.2.2.2.1)))))),((jz (p:=⟨gb346,_,none⟩) NB344_346.out _).trans (((jz (p:=⟨gb346,_,none⟩) NB344_346.out _).trans (((jz (p:=⟨gb346,_,none⟩) NB344_346.out _).trans (hHeld.2.2.2.2.1)))))),((jz (p:=⟨gb346,_,none⟩) NB344_346.out _).trans (((jz (p:=⟨gb346,_,none⟩) NB344_346.out _).trans (((jz (p:=⟨gb346,_,none⟩) NB344_346.out _).trans (hHeld.2.2.2.2.2))))))⟩ (fun hHeld=>?_)
 clear hK K
 refine Q3 (Qa HT_.out (by kernel_rfl)) ?_
 have hnb15:=NB345_343.out
 have hnc15:=NB343_345.out
 have hnb16:=NB345_344.out
 have hnc16:=NB344_345.out
 have hnb17:=NB345_346.out
 have hnc17:=NB346_345.out
 have hcz18_0:w8.cell? ⟨gb345,0,none⟩=some (.int .i64 0):=(qe BK345.out 0).trans rfl
 have hcz18_1:w8.cell? ⟨gb345,1,none⟩=some (.int .i64 0):=(qe BK345.out 1).trans rfl
 have hcz18_2:w8.cell? ⟨gb345,2,none⟩=some (.int .i64 0):=(qe BK345.out 2).trans rfl
 have hfz18_0:=ql BK345.out 0
 have hfz18_1:=ql BK345.out 1
 have hfz18_2:=ql BK345.out 2
 have hnb19:=NB346_343.out
 have hnc19:=NB343_346.out
 have hnb20:=NB346_344.out
 have hnc20:=NB344_346.out
 have hcz21_0:w8.cell? ⟨gb346,0,none⟩=some (.int .i64 0):=(qe BK346.out 0).trans rfl
 have hcz21_1:w8.cell? ⟨gb346,1,none⟩=some (.int .i64 0):=(qe BK346.out 1).trans rfl
 have hcz21_2:w8.cell? ⟨gb346,2,none⟩=some (.int .i64 0):=(qe BK346.out 2).trans rfl
 have hfz21_0:=ql BK346.out 0
 have hfz21_1:=ql BK346.out 1
 have hfz21_2:=ql BK346.out 2
 try go_wp2_with (first | ((with_reducible refine zb (N:=44) rfl ?_);refine Kd.R_lit (Kd.int .i64) _ 3 ?hg (N:=44) ?hd (xs:=([wrap64 ((wrap64 (a0_1*a1_2)) - (wrap64 (a0_2*a1_1))),wrap64 ((wrap64 (a0_2*a1_0)) - (wrap64 (a0_0*a1_2))),wrap64 ((wrap64 (a0_0*a1_1)) - (wrap64 (a0_1*a1_0)))]:List Int)) (inner:=[.int .i64 (wrap64 ((wrap64 (a0_1*a1_2)) - (wrap64 (a0_2*a1_1)))),.int .i64 (wrap64 ((wrap64 (a0_2*a1_0)) - (wrap64 (a0_0*a1_2)))),.int .i64 (wrap64 ((wrap64 (a0_0*a1_1)) - (wrap64 (a0_1*a1_0))))]) (ok:=fun _=>True) (okp:=fun _=>True) ?hr ?hp (fun _ hk=>hk) trivial (Below.refl _ _) (Nat.le_refl _) (by simp) ?_;(case hd=>rfl);(case hg=>rfl);(case hr=>first | (go_simp;done) | (go_simp;rfl));(case hp=>exact(Reps.one (show Kd.M (Kd.int .i64) _ _ _ (wrap64 ((wrap64 (a0_1*a1_2)) - (wrap64 (a0_2*a1_1)))) [.int .i64 (wrap64 ((wrap64 (a0_1*a1_2)) - (wrap64 (a0_2*a1_1))))] from rfl) (Reps.one (show Kd.M (Kd.int .i64) _ _ _ (wrap64 ((wrap64 (a0_2*a1_0)) - (wrap64 (a0_0*a1_2)))) [.int .i64 (wrap64 ((wrap64 (a0_2*a1_0)) - (wrap64 (a0_0*a1_2))))] from rfl) (Reps.one (show Kd.M (Kd.int .i64) _ _ _ (wrap64 ((wrap64 (a0_0*a1_1)) - (wrap64 (a0_1*a1_0)))) [.int .i64 (wrap64 ((wrap64 (a0_0*a1_1)) - (wrap64 (a0_1*a1_0))))] from rfl) (Reps.none _ _)))));intro v348 w22 ho23 hb hg_ hnew_;clear hg_ hnew_;(first | rw[← Ny347.out]at ho23 | (simp only[Int.reduceToNat]at ho23;rw[← Ny347.out]at ho23));have HO349:=am (Kd.R_lower ho23 (zo (bx_ HB)));replace BK343:=am (qv (g:=gb343) (o:=.cells #[.int .i64 a0_0,.int .i64 a0_1,.int .i64 a0_2] 43 (0,0)) (by (with_reducible repeat (first | refine qx ?_ _ | refine qw ?_ | refine qq ?_ _));refine Qk ?_ NB343_346.out _;(with_reducible repeat (first | refine qx ?_ _ | refine qw ?_ | refine qq ?_ _));refine Qk ?_ NB343_346.out _;(with_reducible repeat (first | refine qx ?_ _ | refine qw ?_ | refine qq ?_ _));refine Qk ?_ NB343_346.out _;(with_reducible repeat (first | refine qx ?_ _ | refine qw ?_ | refine qq ?_ _));refine Qk ?_ NB343_345.out _;(with_reducible repeat (first | refine qx ?_ _ | refine qw ?_ | refine qq ?_ _));refine Qk ?_ NB343_345.out _;(with_reducible repeat (first | refine qx ?_ _ | refine qw ?_ | refine qq ?_ _));refine Qk ?_ NB343_345.out _;(with_reducible repeat (first | refine qx ?_ _ | refine qw ?_ | refine qq ?_ _));exact BK343.out) hb);replace BK344:=am (qv (g:=gb344) (o:=.cells #[.int .i64 a1_0,.int .i64 a1_1,.int .i64 a1_2] 43 (0,0)) (by (with_reducible repeat (first | refine qx ?_ _ | refine qw ?_ | refine qq ?_ _));refine Qk ?_ NB344_346.out _;(with_reducible repeat (first | refine qx ?_ _ | refine qw ?_ | refine qq ?_ _));refine Qk ?_ NB344_346.out _;(with_reducible repeat (first | refine qx ?_ _ | refine qw ?_ | refine qq ?_ _));refine Qk ?_ NB344_346.out _;(with_reducible repeat (first | refine qx ?_ _ | refine qw ?_ | refine qq ?_ _));refine Qk ?_ NB344_345.out _;(with_reducible repeat (first | refine qx ?_ _ | refine qw ?_ | refine qq ?_ _));refine Qk ?_ NB344_345.out _;(with_reducible repeat (first | refine qx ?_ _ | refine qw ?_ | refine qq ?_ _));refine Qk ?_ NB344_345.out _;(with_reducible repeat (first | refine qx ?_ _ | refine qw ?_ | refine qq ?_ _));exact BK344.out) hb);replace BK345:=am (qv (g:=gb345) (o:=.cells #[.int .i64 a0_0,.int .i64 a0_1,.int .i64 a0_2] 41 (0,0)) (by (with_reducible repeat (first | refine qx ?_ _ | refine qw ?_ | refine qq ?_ _));refine Qk ?_ NB345_346.out _;(with_reducible repeat (first | refine qx ?_ _ | refine qw ?_ | refine qq ?_ _));refine Qk ?_ NB345_346.out _;(with_reducible repeat (first | refine qx ?_ _ | refine qw ?_ | refine qq ?_ _));refine Qk ?_ NB345_346.out _;(with_reducible repeat (first | refine qx ?_ _ | refine qw ?_ | refine qq ?_ _));refine Qu (cs:=#[.int .i64 a0_0,.int .i64 a0_1,.int .i64 0]) ?_ 2 _ rfl;(with_reducible repeat (first | refine qx ?_ _ | refine qw ?_ | refine qq ?_ _));refine Qu (cs:=#[.int .i64 a0_0,.int .i64 0,.int .i64 0]) ?_ 1 _ rfl;(with_reducible repeat (first | refine qx ?_ _ | refine qw ?_ | refine qq ?_ _));refine Qu (cs:=#[.int .i64 0,.int .i64 0,.int .i64 0]) ?_ 0 _ rfl;(with_reducible repeat (first | refine qx ?_ _ | refine qw ?_ | refine qq ?_ _));exact BK345.out) hb);replace BK346:=am (qv (g:=gb346) (o:=.cells #[.int .i64 a1_0,.int .i64 a1_1,.int .i64 a1_2] 41 (0,0)) (by (with_reducible repeat (first | refine qx ?_ _ | refine qw ?_ | refine qq ?_ _));refine Qu (cs:=#[.int .i64 a1_0,.int .i64 a1_1,.int .i64 0]) ?_ 2 _ rfl;(with_reducible repeat (first | refine qx ?_ _ | refine qw ?_ | refine qq ?_ _));refine Qu (cs:=#[.int .i64 a1_0,.int .i64 0,.int .i64 0]) ?_ 1 _ rfl;(with_reducible repeat (first | refine qx ?_ _ | refine qw ?_ | refine qq ?_ _));refine Qu (cs:=#[.int .i64 0,.int .i64 0,.int .i64 0]) ?_ 0 _ rfl;(with_reducible repeat (first | refine qx ?_ _ | refine qw ?_ | refine qq ?_ _));refine Qk ?_ NB346_345.out _;(with_reducible repeat (first | refine qx ?_ _ | refine qw ?_ | refine qq ?_ _));refine Qk ?_ NB346_345.out _;(with_reducible repeat (first | refine qx ?_ _ | refine qw ?_ | refine qq ?_ _));refine Qk ?_ NB346_345.out _;(with_reducible repeat (first | refine qx ?_ _ | refine qw ?_ | refine qq ?_ _));exact BK346.out) hb);replace HB:=am (jg (bx_ HB) hb);clear hb ho23))
 go_ret
 exact⟨_,fq,wR HO349,bx_ HB⟩
def ap2 (k:Nat) (p:Int) (l:List S43) (i j:Nat):Nat→Nat→Option Bool
 | 0,_=>some false
 | d+1,m=>(Qm.f (qd l (i:Int)).f0.f0 (qd l (i:Int)).f0.f1 (qd l (i:Int)).f0.f2 (qd l (j:Int)).f0.f0 (qd l (j:Int)).f0.f1 (qd l (j:Int)).f0.f2).bind fun c=>(jh.f k p c [(qd l (m:Int)).f0.f0,(qd l (m:Int)).f0.f1,(qd l (m:Int)).f0.f2]).bind fun t=>if t=0 then some true else ap2 k p l i j d (m+1)
def ap1 (k:Nat) (p:Int) (l:List S43) (i:Nat):Nat→Nat→Option Bool
 | 0,_=>some false
 | d+1,j=>(ap2 k p l i j j 0).bind fun b=>if b=true then some true else ap1 k p l i d (j+1)
def ap0 (k:Nat) (p:Int) (l:List S43):Nat→Nat→Option Bool
 | 0,_=>some true
 | d+1,i=>(Z9.f p (qd l (i:Int)).f0.f0 (qd l (i:Int)).f0.f1 (qd l (i:Int)).f0.f2).bind fun t=>if t=true then (ap1 k p l i i 0).bind fun b=>if b=true then some false else ap0 k p l d (i+1) else some false
def jq.f (k:Nat) (p:Int) (l:List S43):Option Bool:=if l.length≤1000000 then ap0 k p l l.length 0 else none
theorem qip (p:Int) (l:List S43) (i j k:Nat):∀ d m,LeO (ap2 k p l i j d m) (ap2 (k+1) p l i j d m)
 | 0,_=>LeO.refl _
 | d+1,m=>by rw[ap2,ap2];exact LeO.bind (LeO.refl _) fun _=>LeO.bind (jh.mono _ _ _ _) fun _=>LeO.ite (LeO.refl _) (qip p l i j k d _)
theorem qj7 (p:Int) (l:List S43) (i k:Nat):∀ d j,LeO (ap1 k p l i d j) (ap1 (k+1) p l i d j)
 | 0,_=>LeO.refl _
 | d+1,j=>by rw[ap1,ap1];exact LeO.bind (qip _ _ _ _ _ _ _) fun _=>LeO.ite (LeO.refl _) (qj7 p l i k d _)
theorem qjm (p:Int) (l:List S43) (k:Nat):∀ d i,LeO (ap0 k p l d i) (ap0 (k+1) p l d i)
 | 0,_=>LeO.refl _
 | d+1,i=>by rw[ap0,ap0];exact LeO.bind (LeO.refl _) fun _=>LeO.ite (LeO.bind (qj7 _ _ _ _ _ _) fun _=>LeO.ite (LeO.refl _) (qjm p l k d _)) (LeO.refl _)
theorem qkc {w:World} {b:Nat} {o:Obj} (h:w.heap[b]? =some o):b < w.heap.size:=(Array.getElem?_eq_some_iff.1 h).1
theorem qhm {w:World} {b:Nat} {o:Obj} (h:w.heap[b]? =some o) (o2:Obj):(w.alloc o2).heap[b]? =some o:=by rw[Below.heap_alloc _ _ _ (Array.getElem?_eq_some_iff.1 h).1];exact h
theorem qh1 {i d n:Nat} (h:i+(d+1)=n):n - (((i+1:Nat):Int)).toNat < n - ((i:Int)).toNat:=by omega
theorem jq.mono :∀ a0 a1 k,LeO (jq.f k a0 a1) (jq.f (k+1) a0 a1):=by
 intro a0 a1 k
 unfold jq.f
 exact LeO.ite (qjm _ _ _ _ _) (LeO.refl _)
def jq.T12 :Bool×List (List Nat×List Nat):=(true,[([],[]),([],[]),([],[]),([1,2],[1,2]),([],[]),([4],[4]),([0,3,5,3],[0,3,5]),([6],[6])])
def jq.B12 :List Nat:=[0,0,0,6,0,16,63,127]
theorem jq.tab12 :rtab .any (Z0 Try.f111 12)=jq.T12:=by kernel_rfl
theorem jq.bits12 :Qj jq.T12.2 jq.B12=true:=by kernel_rfl
def Z3 (x:S43):Array Value:=#[.int .i64 x.f0.f0,.int .i64 x.f0.f1,.int .i64 x.f0.f2]
theorem jq.calls (k:Nat) (a0:Int) (A1:Option Addr) (c1:Nat) (l1:List S43) (r:Bool) (w:World) (hr1:Kd.C k43 w A1 l1.length l1) (hc1:l1.length≤c1) (h:jq.f k a0 l1=some r):
  Calls Try.prog 111 #[.int .i64 a0,.slice A1 l1.length c1] w fun e w'=>e=.returned (.bool r)∧Below w.heap.size w w':=by
 have hu43:=Try.underlying43
 have hu41:=Try.underlying41
 have hu34:=Try.underlying34
 have HR1:=am hr1
 have HC1:=am hc1
 have HB:=am (Below.refl w.heap.size w)
 unfold jq.f at h
 split at h
 rotate_left
 ·exact absurd h (by simp)
 next hlen=>
 have HLEN:=am hlen
 have H:=am h
 clear hr1 hc1 h hlen
 go_enter Try.func111,Try.ntmps111
 go_wp2
 go_loopw [13] (fun v w'=>∃ d i:Nat,v=.int .i64 (i:Int)∧qf (i+d=l1.length)∧qf (ap0 k a0 l1 d i=some r)∧qf (Below w.heap.size w w')) (fun v _=>l1.length - (intOf v).toNat)
 case atStart=>exact⟨l1.length,0,rfl,⟨by omega⟩,H,⟨bw HB⟩⟩
 case round=>
  clear H HB
  obtain⟨d,i,rfl,HD,H,HB⟩:=hrel
  cases d with
  | zero=>
   have hlt:decide (i < l1.length)=false:=decide_eq_false (by have:=HD.out;omega)
   have hr:=H.out
   rw[ap0]at hr
   obtain rfl:=Option.some.inj hr
   clear hr;go_wp2;go_ret
   exact⟨fq,bw HB⟩
  | succ d=>
   have hlt:decide (i < l1.length)=true:=decide_eq_true (by have:=HD.out;omega)
   obtain⟨t,ht,H2⟩:=Option.bind_eq_some_iff.1 (show _=some r by have:=H.out;rwa [ap0]at this)
   have HT:=am ht
   have HN:=am H2
   clear H ht H2
   obtain⟨ad,e1,x0,x1,x2⟩:=Qo HR1.out (i:Int) (by omega) (by have:=HD.out;omega)
   have HA:=am e1
   subst e1
   rw[Int.toNat_natCast]at x0 x1 x2
   replace x0:=wcl HB x0
   replace x1:=wcl HB x1
   replace x2:=wcl HB x2
   have p0:(0≤(i:Int))=True:=eq_true (by omega)
   have q0:(i < l1.length)=True:=eq_true (by have:=HD.out;omega)
   generalize hX:qd l1 (i:Int)=X at*
   have HX:=am hX
   clear hX
   go_wp2_with fail
   refine(Z9.calls a0 X.f0.f0 X.f0.f1 X.f0.f2 t _ HT.out).mono ?_
   rintro e w1 ⟨rfl,hb⟩
   have HB1:=bq HB hb
   have HX1:=am ((hb.block wr.heap.size (by simp)).trans (heap_alloc_last wr (.cells (Z3 X) 43)))
   clear hb x0 x1 x2 p0 q0
   cases t with
   | false=>
    have hr:=HN.out
    rw[if_neg (by simp)]at hr
    obtain rfl:=Option.some.inj hr
    clear hr HN HX1 HB
    go_wp2_with fail
    go_ret
    exact⟨fq,bw HB1⟩
   | true=>
    obtain⟨b,hb1,hr⟩:=Option.bind_eq_some_iff.1 (show _=some r by have:=HN.out;rwa [if_pos rfl]at this)
    have H1:=am hb1
    have H0:=am hr
    clear hb1 hr HN HB
    obtain⟨gi,hgi⟩:∃ g,wr.heap.size=g:=⟨_,rfl⟩
    rw[hgi]at HX1
    have HGI:=am hgi
    have c0:(i≤c1)=True:=eq_true (by have:=HC1.out;have:=HD.out;omega)
    have c2:(0≤(i:Int))=True:=eq_true (by omega)
    go_wp2_with fail
    clear hgi
    go_loopw [26] (fun v w'=>∃ d2 j:Nat,v=.int .i64 (j:Int)∧qf (j+d2=i)∧qf (ap1 k a0 l1 i d2 j=some b)∧qf (Below w.heap.size w w')∧qf (w'.heap[gi]? =some (.cells (Z3 X) 43 (0,0)))) (fun v _=>i - (intOf v).toNat)
    case atStart=>exact⟨i,0,rfl,⟨by omega⟩,H1,⟨HB1.out⟩,⟨HX1.out⟩⟩
    case round=>
     clear H1 HB1 HX1
     obtain⟨d2,j,rfl,HD2,H1,HB1,HX1⟩:=hrel
     cases d2 with
     | zero=>
      have hj:j=i:=by have:=HD2.out;omega
      subst hj
      have hb0:=H1.out
      rw[ap1]at hb0
      obtain rfl:=Option.some.inj hb0
      have h0:=H0.out
      rw[if_neg (by simp)]at h0
      have hlt2:decide (j < j)=false:=decide_eq_false (by omega)
      have HN:=am h0
      clear hb0 h0
      have hw1:wrap64 ((j:Int)+1)=((j+1:Nat):Int):=by have:=HD.out;have:=HLEN.out;unfold wrap64;omega
      go_wp2
      go_roundw
      case measure=>rw[hw1];exact qh1 HD.out
      case rel=>exact⟨d,j+1,by rw[hw1],⟨by have:=HD.out;omega⟩,HN,⟨bw HB1⟩⟩
     | succ d2=>
      have hlt2:decide (j < i)=true:=decide_eq_true (by have:=HD2.out;omega)
      obtain⟨b2,hb2,hr⟩:=Option.bind_eq_some_iff.1 (show _=some b by have:=H1.out;rwa [ap1]at this)
      have H2:=am hb2
      have H1n:=am hr
      clear H1 hb2 hr
      obtain⟨ad2,e1,x0,x1,x2⟩:=Qo HR1.out (j:Int) (by omega) (by have:=HD.out;have:=HD2.out;omega)
      obtain rfl:=Option.some.inj e1
      rw[Int.toNat_natCast]at x0 x1 x2
      replace x0:=wcl HB1 x0
      replace x1:=wcl HB1 x1
      replace x2:=wcl HB1 x2
      have p0:(0≤(j:Int))=True:=eq_true (by omega)
      have q0:(j < i)=True:=eq_true (by have:=HD2.out;omega)
      have q1:(j≤c1)=True:=eq_true (by have:=HC1.out;have:=HD.out;have:=HD2.out;omega)
      generalize hY:qd l1 (j:Int)=Y at*
      have HY:=am hY
      clear hY
      go_wp2_with fail
      clear x0 x1 x2 hlt2 q0 q1
      have HB2:=bq HB1 (Below.refl _ (wr.alloc (.cells (Z3 Y) 43)))
      have HX2:=am (qhm HX1.out (.cells (Z3 Y) 43))
      have HY2:=am (heap_alloc_last wr (.cells (Z3 Y) 43))
      obtain⟨gj,hgj⟩:∃ g,wr.heap.size=g:=⟨_,rfl⟩
      obtain⟨w2,hw2⟩:∃ u,wr.alloc (.cells (Z3 Y) 43)=u:=⟨_,rfl⟩
      rw[hgj,hw2]at HY2
      rw[hw2]at HB2 HX2
      have e2:wr.alloc (.cells #[.int .i64 Y.f0.f0,.int .i64 Y.f0.f1,.int .i64 Y.f0.f2] 43)=w2:=hw2
      rw[e2,hgj]
      have HGJ:=am hgj
      have HW2:=am hw2
      clear hgj hw2 e2
      go_loopw [35] (fun v w'=>∃ d3 m:Nat,v=.int .i64 (m:Int)∧qf (m+d3=j)∧qf (ap2 k a0 l1 i j d3 m=some b2)∧qf (Below w.heap.size w w')∧qf (w'.heap[gi]? =some (.cells (Z3 X) 43 (0,0)))∧qf (w'.heap[gj]? =some (.cells (Z3 Y) 43 (0,0)))) (fun v _=>j - (intOf v).toNat)
      case atStart=>exact⟨j,0,rfl,⟨by omega⟩,H2,⟨HB2.out⟩,⟨HX2.out⟩,⟨HY2.out⟩⟩
      case round=>
       clear H2 HB2 HX2 HY2 HB1 HX1
       obtain⟨d3,m,rfl,HD3,H2,HB2,HX2,HY2⟩:=hrel
       cases d3 with
       | zero=>
        have hm:m=j:=by have:=HD3.out;omega
        subst hm
        have hb0:=H2.out
        rw[ap2]at hb0
        obtain rfl:=Option.some.inj hb0
        have h1:=H1n.out
        rw[if_neg (by simp)]at h1
        have H1':=am h1
        clear hb0 h1
        have hlt3:decide (m < m)=false:=decide_eq_false (by omega)
        have hw1:wrap64 ((m:Int)+1)=((m+1:Nat):Int):=by have:=HD.out;have:=HD2.out;have:=HLEN.out;unfold wrap64;omega
        go_wp2
        go_roundw
        case measure=>rw[hw1];exact qh1 HD2.out
        case rel=>exact⟨d2,m+1,by rw[hw1],⟨by have:=HD2.out;omega⟩,H1',⟨bw HB2⟩,HX2⟩
       | succ d3=>
        have hlt3:decide (m < j)=true:=decide_eq_true (by have:=HD3.out;omega)
        obtain⟨c,hc,hr⟩:=Option.bind_eq_some_iff.1 (show _=some b2 by have:=H2.out;rwa [ap2]at this)
        obtain⟨t,ht,hr⟩:=Option.bind_eq_some_iff.1 hr
        rw[HX.out,HY.out]at hc
        have HC:=am hc
        have HDT:=am ht
        have H2n:=am hr
        clear H2 hc ht hr
        obtain⟨ad3,e1,x0,x1,x2⟩:=Qo HR1.out (m:Int) (by omega) (by have:=HD.out;have:=HD2.out;have:=HD3.out;omega)
        obtain rfl:=Option.some.inj e1
        rw[Int.toNat_natCast]at x0 x1 x2
        replace x0:=wcl HB2 x0
        replace x1:=wcl HB2 x1
        replace x2:=wcl HB2 x2
        have p0:(0≤(m:Int))=True:=eq_true (by omega)
        have q0:(m < j)=True:=eq_true (by have:=HD3.out;omega)
        generalize hZ:qd l1 (m:Int)=Z at*
        clear hZ;clear hr e1
        go_wp2_with fail
        clear x0 x1 x2 hlt3 p0 q0
        have HB3:=am (bq HB2 (Below.refl _ ((wr.alloc (.cells (Z3 Z) 43)).drew))).out
        have HX3:=am (qhm HX2.out (.cells (Z3 Z) 43))
        have HY3:=am (qhm HY2.out (.cells (Z3 Z) 43))
        have HZ3:=am (heap_alloc_last wr (.cells (Z3 Z) 43))
        have e2:wr.alloc (.cells #[.int .i64 Z.f0.f0,.int .i64 Z.f0.f1,.int .i64 Z.f0.f2] 43)=wr.alloc (.cells (Z3 Z) 43):=rfl
        rw[e2]
        clear e2
        generalize wr.alloc (.cells (Z3 Z) 43)=w3 at HB3 HX3 HY3 HZ3 ⊢
        have hS:(fun w':World=>w'.cell? ⟨gi,0,none⟩=some (.int .i64 X.f0.f0)∧w'.cell? ⟨gi,1,none⟩=some (.int .i64 X.f0.f1)∧w'.cell? ⟨gi,2,none⟩=some (.int .i64 X.f0.f2)∧w'.cell? ⟨gj,0,none⟩=some (.int .i64 Y.f0.f0)∧w'.cell? ⟨gj,1,none⟩=some (.int .i64 Y.f0.f1)∧w'.cell? ⟨gj,2,none⟩=some (.int .i64 Y.f0.f2)) w3.drew:=⟨cell_of_row w3 _ 0 _ _ _ HX3.out,cell_of_row w3 _ 1 _ _ _ HX3.out,cell_of_row w3 _ 2 _ _ _ HX3.out,cell_of_row w3 _ 0 _ _ _ HY3.out,cell_of_row w3 _ 1 _ _ _ HY3.out,cell_of_row w3 _ 2 _ _ _ HY3.out⟩
        refine st 8 (fun w':World=>w'.cell? ⟨gi,0,none⟩=some (.int .i64 X.f0.f0)∧w'.cell? ⟨gi,1,none⟩=some (.int .i64 X.f0.f1)∧w'.cell? ⟨gi,2,none⟩=some (.int .i64 X.f0.f2)∧w'.cell? ⟨gj,0,none⟩=some (.int .i64 Y.f0.f0)∧w'.cell? ⟨gj,1,none⟩=some (.int .i64 Y.f0.f1)∧w'.cell? ⟨gj,2,none⟩=some (.int .i64 Y.f0.f2)) [] jq.tab12 jq.bits12 hS fun hHeld HT_ HW_=>?_
        clear hS
        refine pz 0 39 HT_ ?_;refine tk 1 40 HT_ HW_ hHeld ?_;refine tk 2 41 HT_ HW_ hHeld ?_;refine pz 4 43 HT_ ?_;refine pz 5 44 HT_ ?_
        refine on 3 (some 42) HT_ fun K hK=>?_
        refine gs_ Try.func139 #[.agg #[.int .i64 X.f0.f0,.int .i64 X.f0.f1,.int .i64 X.f0.f2],.agg #[.int .i64 Y.f0.f0,.int .i64 Y.f0.f1,.int .i64 Y.f0.f2]] ?_
        refine(Qm.calls X.f0.f0 X.f0.f1 X.f0.f2 Y.f0.f0 Y.f0.f1 Y.f0.f2 c _ HC.out).mono ?_
        rintro e w4 ⟨v0,rfl,hv,hb⟩
        obtain⟨B,cb,e1⟩:=Kd.R_slice hv
        subst e1
        have HV:=am (Kd.R_reads' hv)
        have hbk:=hb.block
        have HX4:=am ((hbk gi (qkc HX3.out)).trans HX3.out)
        have HY4:=am ((hbk gj (qkc HY3.out)).trans HY3.out)
        have HZ4:=am ((hbk _ (qkc HZ3.out)).trans HZ3.out)
        have HB4:=am (jg HB3.out hb)
        clear hv hb hbk
        refine⟨_,rfl,?_⟩
        refine hK.out _ _ ⟨cell_of_row w4 _ 0 _ _ _ HX4.out,cell_of_row w4 _ 1 _ _ _ HX4.out,cell_of_row w4 _ 2 _ _ _ HX4.out,cell_of_row w4 _ 0 _ _ _ HY4.out,cell_of_row w4 _ 1 _ _ _ HY4.out,cell_of_row w4 _ 2 _ _ _ HY4.out⟩ fun hHeld=>nz ?_
        clear hK K HX3 HY3 HZ3 HB3
        refine on 6 (some 45) HT_ fun K hK=>?_
        refine gs_ Try.func81 #[.int .i64 a0,.slice B c.length cb,.slice (some ⟨wr.heap.size,0,none⟩) 3 3] ?_
        refine(jh.calls k a0 B cb c (some ⟨wr.heap.size,0,none⟩) 3 [Z.f0.f0,Z.f0.f1,Z.f0.f2] t _ HV.out.2.2 HV.out.2.1 (qgo HZ4.out) (Nat.le_refl _) HDT.out).mono ?_
        rintro e w5 ⟨rfl,⟨m5,rfl⟩⟩
        refine⟨_,rfl,?_⟩
        refine hK.out _ _ hHeld fun hHeld=>nz ?_
        clear hK K;refine pz 7 46 HT_ ?_
        refine Q3 (Qa HT_.out (by kernel_rfl)) ?_
        clear HT_ HW_ hHeld
        by_cases h0:t=0
        ·have hr:=H2n.out
         rw[if_pos h0]at hr
         obtain rfl:=Option.some.inj hr
         have hr:=H1n.out
         rw[if_pos rfl]at hr
         obtain rfl:=Option.some.inj hr
         have hr:=H0.out
         rw[if_pos rfl]at hr
         obtain rfl:=Option.some.inj hr
         have ht:(t == 0)=true:=by rw[h0];rfl
         clear hr h0
         go_wp2_with fail
         go_ret
         exact⟨fq,bw HB4⟩
        ·have hr:=H2n.out
         rw[if_neg h0]at hr
         have H2':=am hr
         have ht:(t == 0)=false:=beq_eq_false_iff_ne.2 h0
         clear hr h0
         have hw1:wrap64 ((m:Int)+1)=((m+1:Nat):Int):=by have:=HD.out;have:=HD2.out;have:=HD3.out;have:=HLEN.out;unfold wrap64;omega
         go_wp2_with fail
         go_roundw
         case measure=>rw[hw1];exact qh1 HD3.out
         case rel=>exact⟨d3,m+1,by rw[hw1],⟨by have:=HD3.out;omega⟩,H2',⟨bw HB4⟩,⟨HX4.out⟩,⟨HY4.out⟩⟩
def jp.l0 :Nat→Int→Int→Int→Int→Int→Option (Int)
 | 0,_,_,_,_,_=>none
 | k+1,x0,x1,x5,x7,x8=>if x8 < x7 then (if x1=0 then (none) else (jp.l0 k x0 x1 (Int.tmod (wrap64 (x5*x0)) x1) x7 (wrap64 (x8+1)))) else (some x5)
def jp.f (k:Nat) (a0:Int) (a1:Int):Option (Int):=jp.l0 k a0 a1 1 (wrap64 (a1 - 2)) 0
theorem jp.mono_l :∀ k,(∀ y0 y1 y2 y3 y4,LeO (jp.l0 k y0 y1 y2 y3 y4) (jp.l0 (k+1) y0 y1 y2 y3 y4))
 | 0=>fun _ _ _ _ _ r h=>by simp[jp.l0]at h
 | k+1=>by
  have ih0:=jp.mono_l k
  ·intro y0 y1 y2 y3 y4
   unfold jp.l0
   repeat' first | (with_reducible first | apply ih0 | exact LeO.refl _ | exact LeO.none _ | refine LeO.ite ?_ ?_ | refine LeO.bind ?_ (fun _=>?_)) | (first | apply ih0 | exact LeO.none _ | refine LeO.ite ?_ ?_ | refine LeO.bind ?_ (fun _=>?_))
theorem jp.mono :∀ a0 a1 k,LeO (jp.f k a0 a1) (jp.f (k+1) a0 a1):=by
 intro a0 a1 k
 have ih0:=jp.mono_l k
 unfold jp.f
 repeat' first | (with_reducible first | apply ih0 | exact LeO.refl _ | exact LeO.none _ | refine LeO.ite ?_ ?_ | refine LeO.bind ?_ (fun _=>?_)) | (first | apply ih0 | exact LeO.none _ | refine LeO.ite ?_ ?_ | refine LeO.bind ?_ (fun _=>?_))
theorem jp.calls (k:Nat) (a0:Int) (a1:Int) (r:Int) (w:World) (h:jp.f k a0 a1=some r):
  Calls Try.prog 169 #[.int .i64 a0,.int .i64 a1] w fun e w'=>e=.returned (.int .i64 r)∧Drawn0 w w':=by
 have H:(jp.l0 k a0 a1 1 (wrap64 (a1 - 2)) 0)=some r:=h
 clear h;have H':=am H;clear H
 go_enter Try.func169,Try.ntmps169
 go_wp2
 go_loopg [5,8] k (fun kq v5 v8 w'=>∃ (x5_1:Int) (x8_1:Int),v5=.int .i64 x5_1∧v8=.int .i64 x8_1∧qf (jp.l0 kq a0 a1 x5_1 (wrap64 (a1 - 2)) x8_1=some r)∧qf (kq≤k)∧Drawn0 w w')
 case atStart=>exact⟨(1),(0),fr,fr,H',⟨Nat.le_refl _⟩,df⟩
 case round=>
  clear H';try clear c1;try clear p2
  obtain⟨x5_1,x8_1,rfl,rfl,HA,HK1,⟨m1,rfl⟩⟩:=hrel
  cases gk with
  | zero=>exact absurd HA.out (by simp[jp.l0])
  | succ k1=>
   have H:=HA.out;clear HA
   simp only[jp.l0]at H
   by_cases c3:x8_1 < (wrap64 (a1 - 2))
   ·rw[if_pos c3]at H
    have c3b0:=decide_eq_true c3;clear c3;replace H:=ifm H;obtain⟨c4,H⟩:=H;have c4b0:=beq_eq_false_iff_ne.mpr c4;have c4b1:=bne_iff_ne.mpr c4;have H':=am H;clear H;go_wp2
    go_roundg k1
    case measure=>have:=HK1.out;omega
    case rel=>exact⟨(Int.tmod (wrap64 (x5_1*a0)) a1),(wrap64 (x8_1+1)),fr,fr,H',⟨by have:=HK1.out;omega⟩,df⟩
   ·rw[if_neg c3]at H
    have c3b0:=decide_eq_false c3;clear c3;obtain rfl:=Option.some.inj H;go_wp2;go_ret
    exact⟨fr,df⟩
end Go.Proofs.Ytmgbpmihbljngaa.PA
