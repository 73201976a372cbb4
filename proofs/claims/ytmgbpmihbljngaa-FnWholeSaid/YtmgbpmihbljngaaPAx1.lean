-- Written by xprint.py, a program of this claim's own (over the kit's print.py)
import Derived.Test.YtmgbpmihbljngaaPAx0
namespace Go.Proofs.Ytmgbpmihbljngaa.PA
set_option maxHeartbeats 8000000
set_option maxRecDepth 100000
open Go.RowKit Go.Proofs.YtmgbpmihbljngaaW.PrintWords Go.Proofs.YtmgbpmihbljngaaW.PrintLast Go.Proofs.YtmgbpmihbljngaaW.PrintMore
attribute [local go_sem] Qg Qj Qp Qo j4 j3 Qh Qf
set_option linter.unusedVariables false
set_option linter.unusedSimpArgs false
def zg.l0 :Nat→List Int→Int→Int→Int→Option (Int)
 | 0,_,_,_,_=>none
 | k+1,x0,x1,x7,x8=>if x8 < x7 then (if 0≤x8 then (if x8 < (x0.length:Int) then (if x1=(rd x0 x8) then (some x8) else (zg.l0 k x0 x1 x7 (wrap64 (x8+1)))) else (none)) else (none)) else (some (-1))
def zg.f (k:Nat) (l0:List Int) (a1:Int):Option (Int):=zg.l0 k l0 a1 (l0.length:Int) 0
theorem zg.mono_l :∀ k,(∀ y0 y1 y2 y3,LeO (zg.l0 k y0 y1 y2 y3) (zg.l0 (k+1) y0 y1 y2 y3))
 | 0=>fun _ _ _ _ r h=>by simp[zg.l0]at h
 | k+1=>by
  have ih0:=zg.mono_l k
  ·intro y0 y1 y2 y3
   unfold zg.l0
   repeat' first | (with_reducible first | apply ih0 | exact LeO.refl _ | exact LeO.none _ | refine LeO.ite ?_ ?_ | refine LeO.bind ?_ (fun _=>?_)) | (first | apply ih0 | exact LeO.none _ | refine LeO.ite ?_ ?_ | refine LeO.bind ?_ (fun _=>?_))
theorem zg.mono :∀ a0 a1 k,LeO (zg.f k a0 a1) (zg.f (k+1) a0 a1):=by
 intro a0 a1 k
 have ih0:=zg.mono_l k
 unfold zg.f
 repeat' first | (with_reducible first | apply ih0 | exact LeO.refl _ | exact LeO.none _ | refine LeO.ite ?_ ?_ | refine LeO.bind ?_ (fun _=>?_)) | (first | apply ih0 | exact LeO.none _ | refine LeO.ite ?_ ?_ | refine LeO.bind ?_ (fun _=>?_))
theorem zg.calls (k:Nat) (A0:Option Addr) (c0:Nat) (l0:List Int) (a1:Int) (r:Int) (w:World) (hr0:Kd.C (Kd.int .i64) w A0 l0.length l0) (hc0:l0.length≤c0) (h:zg.f k l0 a1=some r):
  Calls Try.prog 159 #[.slice A0 l0.length c0,.int .i64 a1] w fun e w'=>e=.returned (.int .i64 r)∧Drawn0 w w':=by
 have HR0:=am hr0
 have HC0:=am hc0
 clear hr0 hc0
 have H:(zg.l0 k l0 a1 (l0.length:Int) 0)=some r:=h
 clear h;have H':=am H;clear H
 go_enter Try.func159,Try.ntmps159
 go_wp2
 go_loopg [8] k (fun kq v8 w'=>∃ (x8_1:Int),v8=.int .i64 x8_1∧qa (zg.l0 kq l0 a1 (l0.length:Int) x8_1=some r)∧qa (kq≤k)∧Drawn0 w w')
 case atStart=>exact⟨(0),fr,H',⟨Nat.le_refl _⟩,df⟩
 case round=>
  clear H';try clear c1;try clear p2
  obtain⟨x8_1,rfl,HA,HK1,⟨m1,rfl⟩⟩:=hrel
  cases gk with
  | zero=>exact absurd HA.out (by simp[zg.l0])
  | succ k1=>
   have H:=HA.out;clear HA
   simp only[zg.l0]at H
   by_cases c3:x8_1 < (l0.length:Int)
   ·rw[if_pos c3]at H
    have c3b0:=decide_eq_true c3;clear c3;replace H:=ifn H;obtain⟨c4,H⟩:=H;have c4b0:=decide_eq_true c4;clear c4;replace H:=ifn H;obtain⟨c5,H⟩:=H;have c5b0:=decide_eq_true c5;clear c5
    by_cases c6:a1=(rd l0 x8_1)
    ·rw[if_pos c6]at H
     have c6b0:=beq_iff_eq.mpr c6;have c6b1:=bne_eq_false_iff_eq.mpr c6;clear c6;obtain rfl:=Option.some.inj H
     have p101:0≤(x8_1:Int):=od
     have q101:x8_1 < (l0.length:Int):=od
     obtain⟨ad101,e101,hx101_0⟩:=Kd.at_int HR0.out x8_1 p101 q101
     cases e101;replace p101:=eq_true p101;replace q101:=eq_true q101;go_wp2;go_ret
     exact⟨fr,df⟩
    ·rw[if_neg c6]at H
     have c6b0:=beq_eq_false_iff_ne.mpr c6;have c6b1:=bne_iff_ne.mpr c6;have H':=am H;clear H
     have p101:0≤(x8_1:Int):=od
     have q101:x8_1 < (l0.length:Int):=od
     obtain⟨ad101,e101,hx101_0⟩:=Kd.at_int HR0.out x8_1 p101 q101
     cases e101;replace p101:=eq_true p101;replace q101:=eq_true q101;go_wp2
     go_roundg k1
     case measure=>have:=HK1.out;omega
     case rel=>exact⟨(wrap64 (x8_1+1)),fr,H',⟨by have:=HK1.out;omega⟩,df⟩
   ·rw[if_neg c3]at H
    have c3b0:=decide_eq_false c3;clear c3;obtain rfl:=Option.some.inj H;go_wp2;go_ret
    exact⟨fr,df⟩
def jq.f (k:Nat) (l0:List Int) (a1:Int):Option (Bool):=(zg.f k l0 a1).bind fun t102=>(some (decide (t102≥0)))
theorem jq.mono :∀ a0 a1 k,LeO (jq.f k a0 a1) (jq.f (k+1) a0 a1):=by
 intro a0 a1 k
 unfold jq.f
 repeat' first | (with_reducible first | apply zg.mono | exact LeO.refl _ | exact LeO.none _ | refine LeO.ite ?_ ?_ | refine LeO.bind ?_ (fun _=>?_)) | (first | apply zg.mono | exact LeO.none _ | refine LeO.ite ?_ ?_ | refine LeO.bind ?_ (fun _=>?_))
theorem jq.calls (k:Nat) (A0:Option Addr) (c0:Nat) (l0:List Int) (a1:Int) (r:Bool) (w:World) (hr0:Kd.C (Kd.int .i64) w A0 l0.length l0) (hc0:l0.length≤c0) (h:jq.f k l0 a1=some r):
  Calls Try.prog 155 #[.slice A0 l0.length c0,.int .i64 a1] w fun e w'=>e=.returned (.bool r)∧Drawn0 w w':=by
 have HR0:=am hr0
 have HC0:=am hc0
 clear hr0 hc0
 have H:((zg.f k l0 a1).bind fun t102=>(some (decide (t102≥0))))=some r:=h
 clear h;replace H:=bs H;obtain⟨t102,A3,H⟩:=H;obtain rfl:=Option.some.inj H
 go_enter Try.func155,Try.ntmps155
 go_wp2_with (first | ((with_reducible refine qe (f:=159) rfl ?_);refine gl 7 Try.func159 #[.slice A0 l0.length c0,.int .i64 a1] ?_;(with_reducible refine(zg.calls k _ _ l0 a1 t102 _ ?_ ?_ A3.out).mono ?_);exact wC HR0;exact HC0.out;rintro e w' ⟨rfl,⟨nd,rfl⟩⟩;refine⟨_,rfl,?_⟩))
 go_ret
 exact⟨fr,df⟩
def Q2.f (k:Nat) (a0:Int):Option (Bool):=(jq.f k (([7,11,13,17,19,23,29,31]:List Int)) a0).bind fun t106=>(some t106)
theorem Q2.mono :∀ a0 k,LeO (Q2.f k a0) (Q2.f (k+1) a0):=by
 intro a0 k
 unfold Q2.f
 repeat' first | (with_reducible first | apply jq.mono | exact LeO.refl _ | exact LeO.none _ | refine LeO.ite ?_ ?_ | refine LeO.bind ?_ (fun _=>?_)) | (first | apply jq.mono | exact LeO.none _ | refine LeO.ite ?_ ?_ | refine LeO.bind ?_ (fun _=>?_))
theorem Q2.calls (k:Nat) (a0:Int) (r:Bool) (w:World) (h:Q2.f k a0=some r):
  Calls Try.prog 99 #[.int .i64 a0] w fun e w'=>e=.returned (.bool r)∧Below w.heap.size w w':=by
 have HB:=am (Below.refl w.heap.size w)
 have H:((jq.f k (([7,11,13,17,19,23,29,31]:List Int)) a0).bind fun t106=>(some t106))=some r:=h
 clear h
 generalize hy103:(([7,11,13,17,19,23,29,31]:List Int))=y103 at H
 have Ny103:=am hy103.symm;clear hy103;replace H:=bs H;obtain⟨t106,A2,H⟩:=H;obtain rfl:=Option.some.inj H
 go_enter Try.func99,Try.ntmps99
 go_wp2_with (first | ((with_reducible refine q7 (N:=3) rfl ?_);refine li 3 [7,11,13,17,19,23,29,31] ?_;intro v104 w3 ho4 hb;(first | rw[← Ny103.out]at ho4 | (simp only[Int.reduceToNat]at ho4;rw[← Ny103.out]at ho4));have HO105:=am (Kd.R_lower ho4 (bz HB));replace HB:=bq HB hb;clear hb ho4;obtain⟨Ao5,co5,eo5⟩:=Kd.R_slice HO105.out;subst eo5) | ((with_reducible refine qe (f:=155) rfl ?_);refine gl 5 Try.func155 #[.slice Ao5 y103.length co5,.int .i64 a0] ?_;(with_reducible refine(jq.calls k _ _ y103 a0 t106 _ ?_ ?_ A2.out).mono ?_);exact Kd.C_below (Kd.R_reads' HO105.out).2.2 gs;exact(Kd.R_reads' HO105.out).2.1;rintro e w' ⟨rfl,⟨nd,rfl⟩⟩;refine⟨_,rfl,?_⟩))
 go_ret
 exact⟨fq,bw HB⟩
def idxOf (q:Int→Bool):List Int→Int→Int
 | [],_=> -1
 | x :: xs,i=>if q x then i else idxOf q xs (i+1)
theorem qlg {k:IntKind} {a b:Int} (h:a=b):Ending.returned (.int k a)=.returned (.int k b):=by rw[h]
theorem qb1 {a b:Bool} (h:a=b):Ending.returned (.bool a)=.returned (.bool b):=by rw[h]
theorem qos (l:List Int) (j:Nat) (h:j < l.length):rd l (j:Int)=l[j]:=by simp[rd,List.getD_eq_getElem?_getD,h]
theorem qcl (g:Nat) (lb:Array Value) (q:Int→Bool) (A0:Option Addr) (c0:Nat) (l0:List Int) (w:World) (hr0:Kd.C (Kd.int .i64) w A0 l0.length l0)
  (he:∀ args w,(callFunc g args).run Try.prog w=.ok (.enter g args) w)
  (hq:∀ (x:Int) (w1:World),Drawn0 w w1→Calls Try.prog g (#[.int .i64 x]++lb) w1 fun e w'=>e=.returned (.bool (q x))∧Drawn0 w1 w'):
  Calls Try.prog 156 #[.slice A0 l0.length c0,.func (.func g) #[] lb] w fun e w'=>e=.returned (.int .i64 (idxOf q l0 0))∧Drawn0 w w':=by
 have hm:=hr0.2.1
 go_enter Try.func156,Try.ntmps156
 go_wp2
 go_loopw [8] (fun i w'=>∃ j:Nat,j≤l0.length∧i=.int .i64 j∧idxOf q l0 0=idxOf q (l0.drop j) j∧Drawn0 w w') (fun i _=>l0.length - (intOf i).toNat)
 case atStart=>exact⟨0,Nat.zero_le _,rfl,by simp,Drawn0.refl _⟩
 case round=>
  obtain⟨j,hj,rfl,hidx,⟨m1,rfl⟩⟩:=hrel
  have HIDX:=Lib.hid hidx
  clear hidx
  by_cases hlt:j < l0.length
  ·obtain⟨ad,e,hx⟩:=Kd.at_int hr0 (j:Int) (by omega) (by omega)
   subst e
   simp only[Int.toNat_natCast]at hx
   have hcall:=hq (rd l0 j) (w.drewN m1) ⟨m1,rfl⟩
   have HC:=Lib.hid hcall
   clear hcall hq
   cases hv:q (rd l0 j)
   all_goals
    go_wp2_with fail
    refine(HC.out).mono ?_
    rintro e w' ⟨rfl,⟨m2,rfl⟩⟩
    simp only[hv]
    go_wp2
   ·go_roundw
    case rel=>exact⟨j+1,by omega,by go_num,by rw[HIDX.out,List.drop_eq_getElem_cons hlt,idxOf,if_neg (by rw[← qos l0 j hlt,hv];simp)];simp,⟨m1+m2,by simp⟩⟩
    case measure=>simp[intOf];omega
   ·go_ret
    exact⟨qlg (a:=(j:Int)) (by rw[HIDX.out,List.drop_eq_getElem_cons hlt,idxOf,if_pos (by rw[← qos l0 j hlt,hv])]),⟨m1+m2,by simp⟩⟩
  ·go_wp2
   go_ret
   exact⟨qlg (a:=-1) (by rw[HIDX.out,List.drop_eq_nil_of_le (by omega),idxOf]),⟨m1,rfl⟩⟩
theorem qdn (g:Nat) (lb:Array Value) (q:Int→Bool) (A0:Option Addr) (c0:Nat) (l0:List Int) (w:World) (hr0:Kd.C (Kd.int .i64) w A0 l0.length l0)
  (he:∀ args w,(callFunc g args).run Try.prog w=.ok (.enter g args) w)
  (hq:∀ (x:Int) (w1:World),Drawn0 w w1→Calls Try.prog g (#[.int .i64 x]++lb) w1 fun e w'=>e=.returned (.bool (q x))∧Drawn0 w1 w'):
  Calls Try.prog 100 #[.slice A0 l0.length c0,.func (.func g) #[] lb] w fun e w'=>e=.returned (.bool (decide (idxOf q l0 0≥0)))∧Drawn0 w w':=by
 have HC:=Lib.hid (qcl g lb q A0 c0 l0 w hr0 he hq)
 clear hq
 go_enter Try.func100,Try.ntmps100
 go_wp2_with fail
 refine HC.out.mono ?_
 rintro e w' ⟨rfl,⟨m2,rfl⟩⟩
 go_wp2;go_ret
 exact⟨rfl,⟨m2,rfl⟩⟩
theorem ql7 (x p:Int) (b:Nat) (w:World) (hc:w.cell? ⟨b,0,none⟩=some (.int .i64 p)):
  Calls Try.prog 101 #[.int .i64 x,.pointer (some ⟨b,0,none⟩)] w fun e w'=>e=.returned (.bool (decide (x < 0) || decide (x≥p)))∧Drawn0 w w':=by
 by_cases h:x < 0
 ·have h1:decide (x < 0)=true:=decide_eq_true h
  go_enter Try.func101,Try.ntmps101
  go_wp2;go_ret
  exact⟨by simp[h],Drawn0.refl _⟩
 ·have h1:decide (x < 0)=false:=decide_eq_false h
  go_enter Try.func101,Try.ntmps101
  go_wp2;go_ret
  exact⟨by simp[h],Drawn0.refl _⟩
def zk (p:Int):Bool:=decide (p=7∨p=11∨p=13∨p=17∨p=19∨p=23∨p=29∨p=31)
theorem qdr (a:Int):Q2.f 20 a=some (zk a):=by
 by_cases h:a=7∨a=11∨a=13∨a=17∨a=19∨a=23∨a=29∨a=31
 ·rcases h with rfl | rfl | rfl | rfl | rfl | rfl | rfl | rfl<;>decide+kernel
 ·have h':=h
  simp only[not_or]at h
  obtain⟨h1,h2,h3,h4,h5,h6,h7,h8⟩:=h
  simp[Q2.f,jq.f,zg.f,zg.l0,rd,wrap64,h1,h2,h3,h4,h5,h6,h7,h8,zk]
theorem qii (q:Int→Bool):∀ (l:List Int) (i:Int),0≤i→decide (idxOf q l i≥0)=l.any q
 | [],i,h=>by simp[idxOf]
 | x :: xs,i,h=>by
  unfold idxOf
  cases hq:q x
  ·simp[hq,qii q xs (i+1) (by omega)]
  ·simp[hq,h]
def ja.f (a0:Int) (l1:List Int) (a2:Int):Option Bool:=some (zk a0 && decide ((l1.length:Int)=a2) && l1.all fun x=>decide (0≤x) && decide (x < a0))
theorem ja.not (p:Int) (l:List Int):(!decide (idxOf (fun x=>decide (x < 0) || decide (x≥p)) l 0≥0))=l.all fun x=>decide (0≤x) && decide (x < p):=by
 rw[qii _ l 0 (by omega),List.not_any_eq_all_not]
 congr 1
 funext x
 rw[Bool.eq_iff_iff]
 simp only[Bool.not_eq_true',Bool.or_eq_false_iff,decide_eq_false_iff_not,Bool.and_eq_true,decide_eq_true_eq]
 omega
theorem ja.calls (a0:Int) (A1:Option Addr) (c1:Nat) (l1:List Int) (a2:Int) (r:Bool) (w:World) (hr1:Kd.C (Kd.int .i64) w A1 l1.length l1) (hc1:l1.length≤c1) (h:ja.f a0 l1 a2=some r):
  Calls Try.prog 52 #[.int .i64 a0,.slice A1 l1.length c1,.int .i64 a2] w fun e w'=>e=.returned (.bool r)∧Below w.heap.size w w':=by
 have H:=Lib.hid h
 clear h
 have hmf:∀ (fn:Fn) (first cap:Array Value) (w:World),(Instr.makeFunc fn first cap).run Try.prog w=.ok (.func fn first cap) w:=fun _ _ _ _=>rfl
 cases hp:zk a0
 ·have HP:=Lib.hid hp
  clear hp
  go_enter Try.func52,Try.ntmps52
  go_wp2_with fail
  refine(Q2.calls 20 a0 false _ (by rw[qdr,HP.out])).mono ?_
  rintro e w1 ⟨rfl,hb⟩
  go_wp2;go_ret
  exact⟨qb1 (a:=false) (by simpa [ja.f,HP.out] using H.out),(qy (Below.refl _ _) _).trans (hb.mono (by simp))⟩
 ·have HP:=Lib.hid hp
  clear hp
  by_cases hl:(l1.length:Int)=a2
  ·have hl1:((l1.length:Int) == a2)=true:=beq_iff_eq.mpr hl
   have HL:=Lib.hid hl
   clear hl
   go_enter Try.func52,Try.ntmps52
   go_wp2_with fail
   refine(Q2.calls 20 a0 true _ (by rw[qdr,HP.out])).mono ?_
   rintro e w1 ⟨rfl,hb⟩
   have hcell:w1.cell? ⟨w.heap.size,0,none⟩=some (.int .i64 a0):=by
    rw[hb.cell (p:=⟨w.heap.size,0,none⟩) (by simp)];simp[go_sem]
   have hr2:=Kd.C_below hr1 ((qy (Below.refl _ _) _).trans (hb.mono (by simp)))
   go_wp2_with fail
   refine(qdn 101 #[.pointer (some ⟨w.heap.size,0,none⟩)] (fun x=>decide (x < 0) || decide (x≥a0)) A1 c1 l1 w1 hr2 (Go.Proofs.enters_of Try.func101 (by kernel_rfl) rfl) (fun x w2 ⟨m,hm⟩=>by subst hm;exact ql7 x a0 w.heap.size _ (by simpa using hcell))).mono ?_
   rintro e w2 ⟨rfl,⟨m,rfl⟩⟩
   go_wp2;go_ret
   exact⟨qb1 (a:=!decide (idxOf (fun x=>decide (x < 0) || decide (x≥a0)) l1 0≥0)) (by rw[ja.not];simpa [ja.f,HP.out,HL.out] using H.out),qh ((qy (Below.refl _ _) _).trans (hb.mono (by simp))) m⟩
  ·have hl1:((l1.length:Int) == a2)=false:=beq_eq_false_iff_ne.mpr hl
   have HL:=Lib.hid hl
   clear hl
   go_enter Try.func52,Try.ntmps52
   go_wp2_with fail
   refine(Q2.calls 20 a0 true _ (by rw[qdr,HP.out])).mono ?_
   rintro e w1 ⟨rfl,hb⟩
   go_wp2;go_ret
   exact⟨qb1 (a:=false) (by simpa [ja.f,HP.out,HL.out] using H.out),(qy (Below.refl _ _) _).trans (hb.mono (by simp))⟩
mutual
def qp.l0 :Nat→Int→List Int→List Int→Int→Int→Int→Option (Int)
 | 0,_,_,_,_,_,_=>none
 | k+1,x0,x1,x2,x7,x8,x13=>if x13 < 4 then (qp.l1 k x0 x1 x2 x7 x8 x13 x13 x13) else (if x0=0 then (none) else (some (Int.tmod x7 x0)))
def qp.l1 :Nat→Int→List Int→List Int→Int→Int→Int→Int→Int→Option (Int)
 | 0,_,_,_,_,_,_,_,_=>none
 | k+1,x0,x1,x2,x7,x8,x9,x10,x13=>if x10 < 4 then (if 0≤x9 then (if x9 < (x2.length:Int) then (if 0≤x10 then (if x10 < (x2.length:Int) then (qp.l2 k x0 x1 x2 x7 x8 x9 x10 (wrap64 ((rd x2 x9)*(rd x2 x10))) x10 x13) else (none)) else (none)) else (none)) else (none)) else (qp.l0 k x0 x1 x2 x7 x8 (wrap64 (x13+1)))
def qp.l2 :Nat→Int→List Int→List Int→Int→Int→Int→Int→Int→Int→Int→Option (Int)
 | 0,_,_,_,_,_,_,_,_,_,_=>none
 | k+1,x0,x1,x2,x7,x8,x9,x10,x11,x12,x13=>if x12 < 4 then (if 0≤x8 then (if x8 < (x1.length:Int) then (if 0≤x12 then (if x12 < (x2.length:Int) then (qp.l2 k x0 x1 x2 (wrap64 (x7+(wrap64 ((wrap64 ((rd x1 x8)*x11))*(rd x2 x12))))) (wrap64 (x8+1)) x9 x10 x11 (wrap64 (x12+1)) x13) else (none)) else (none)) else (none)) else (none)) else (qp.l1 k x0 x1 x2 x7 x8 x9 (wrap64 (x10+1)) x13)
end
def qp.f (k:Nat) (a0:Int) (l1:List Int) (l2:List Int):Option (Int):=qp.l0 k a0 l1 l2 0 0 0
theorem qp.mono_l :∀ k,(∀ y0 y1 y2 y3 y4 y5,LeO (qp.l0 k y0 y1 y2 y3 y4 y5) (qp.l0 (k+1) y0 y1 y2 y3 y4 y5))∧(∀ y0 y1 y2 y3 y4 y5 y6 y7,LeO (qp.l1 k y0 y1 y2 y3 y4 y5 y6 y7) (qp.l1 (k+1) y0 y1 y2 y3 y4 y5 y6 y7))∧(∀ y0 y1 y2 y3 y4 y5 y6 y7 y8 y9,LeO (qp.l2 k y0 y1 y2 y3 y4 y5 y6 y7 y8 y9) (qp.l2 (k+1) y0 y1 y2 y3 y4 y5 y6 y7 y8 y9))
 | 0=>⟨fun _ _ _ _ _ _ r h=>by simp[qp.l0]at h,fun _ _ _ _ _ _ _ _ r h=>by simp[qp.l1]at h,fun _ _ _ _ _ _ _ _ _ _ r h=>by simp[qp.l2]at h⟩
 | k+1=>by
  obtain⟨ih0,ih1,ih2⟩:=qp.mono_l k
  refine⟨?_,?_,?_⟩
  ·intro y0 y1 y2 y3 y4 y5
   unfold qp.l0
   repeat' first | (with_reducible first | apply ih0 | apply ih1 | apply ih2 | exact LeO.refl _ | exact LeO.none _ | refine LeO.ite ?_ ?_ | refine LeO.bind ?_ (fun _=>?_)) | (first | apply ih0 | apply ih1 | apply ih2 | exact LeO.none _ | refine LeO.ite ?_ ?_ | refine LeO.bind ?_ (fun _=>?_))
  ·intro y0 y1 y2 y3 y4 y5 y6 y7
   unfold qp.l1
   repeat' first | (with_reducible first | apply ih0 | apply ih1 | apply ih2 | exact LeO.refl _ | exact LeO.none _ | refine LeO.ite ?_ ?_ | refine LeO.bind ?_ (fun _=>?_)) | (first | apply ih0 | apply ih1 | apply ih2 | exact LeO.none _ | refine LeO.ite ?_ ?_ | refine LeO.bind ?_ (fun _=>?_))
  ·intro y0 y1 y2 y3 y4 y5 y6 y7 y8 y9
   unfold qp.l2
   repeat' first | (with_reducible first | apply ih0 | apply ih1 | apply ih2 | exact LeO.refl _ | exact LeO.none _ | refine LeO.ite ?_ ?_ | refine LeO.bind ?_ (fun _=>?_)) | (first | apply ih0 | apply ih1 | apply ih2 | exact LeO.none _ | refine LeO.ite ?_ ?_ | refine LeO.bind ?_ (fun _=>?_))
theorem qp.mono :∀ a0 a1 a2 k,LeO (qp.f k a0 a1 a2) (qp.f (k+1) a0 a1 a2):=by
 intro a0 a1 a2 k
 obtain⟨ih0,ih1,ih2⟩:=qp.mono_l k
 unfold qp.f
 repeat' first | (with_reducible first | apply ih0 | apply ih1 | apply ih2 | exact LeO.refl _ | exact LeO.none _ | refine LeO.ite ?_ ?_ | refine LeO.bind ?_ (fun _=>?_)) | (first | apply ih0 | apply ih1 | apply ih2 | exact LeO.none _ | refine LeO.ite ?_ ?_ | refine LeO.bind ?_ (fun _=>?_))
theorem qp.calls (k:Nat) (a0:Int) (A1:Option Addr) (c1:Nat) (l1:List Int) (A2:Option Addr) (c2:Nat) (l2:List Int) (r:Int) (w:World) (hr1:Kd.C (Kd.int .i64) w A1 l1.length l1) (hc1:l1.length≤c1) (hr2:Kd.C (Kd.int .i64) w A2 l2.length l2) (hc2:l2.length≤c2) (h:qp.f k a0 l1 l2=some r):
  Calls Try.prog 55 #[.int .i64 a0,.slice A1 l1.length c1,.slice A2 l2.length c2] w fun e w'=>e=.returned (.int .i64 r)∧Drawn0 w w':=by
 have HR1:=am hr1
 have HC1:=am hc1
 clear hr1 hc1
 have HR2:=am hr2
 have HC2:=am hc2
 clear hr2 hc2
 have H:(qp.l0 k a0 l1 l2 0 0 0)=some r:=h
 clear h;have H':=am H;clear H
 go_enter Try.func55,Try.ntmps55
 go_wp2
 repeat (go_quiet (fail);try go_wp2)
 go_loopg [7,8,13] k (fun kq v7 v8 v13 w'=>∃ (x7_1:Int) (x8_1:Int) (x13_1:Int),v7=.int .i64 x7_1∧v8=.int .i64 x8_1∧v13=.int .i64 x13_1∧qa (qp.l0 kq a0 l1 l2 x7_1 x8_1 x13_1=some r)∧qa (kq≤k)∧Drawn0 w w')
 case atStart=>exact⟨(0),(0),(0),fr,fr,fr,H',⟨Nat.le_refl _⟩,df⟩
 case round=>
  clear H';try clear c1;try clear c2;try clear p2
  obtain⟨x7_1,x8_1,x13_1,rfl,rfl,rfl,HA,HK1,⟨m1,rfl⟩⟩:=hrel
  cases gk with
  | zero=>exact absurd HA.out (by simp[qp.l0])
  | succ k1=>
   have H:=HA.out;clear HA
   simp only[qp.l0]at H
   by_cases c4:x13_1 < 4
   ·rw [if_pos c4] at H
    have c4b0:=decide_eq_true c4;clear c4;have H':=am H;clear H;go_wp2
    repeat (go_quiet (fail);try go_wp2)
    go_loopg [7,8,10] k1 (fun kq v7 v8 v10 w'=>∃ (x7_2:Int) (x8_2:Int) (x10_2:Int),v7=.int .i64 x7_2∧v8=.int .i64 x8_2∧v10=.int .i64 x10_2∧qa (qp.l1 kq a0 l1 l2 x7_2 x8_2 x13_1 x10_2 x13_1=some r)∧qa (kq≤k1)∧Drawn0 w w')
    case atStart=>exact⟨(x7_1),(x8_1),(x13_1),fr,fr,fr,H',⟨Nat.le_refl _⟩,df⟩
    case round=>
     clear H';try clear c1;try clear c2;try clear p2;try clear c4;try clear c4b0;try clear p2
     obtain⟨x7_2,x8_2,x10_2,rfl,rfl,rfl,HA,HK2,⟨m2,rfl⟩⟩:=hrel
     cases gk with
     | zero=>exact absurd HA.out (by simp[qp.l1])
     | succ k2=>
      have H:=HA.out;clear HA
      simp only[qp.l1]at H
      by_cases c5:x10_2 < 4
      ·rw [if_pos c5] at H
       have c5b0:=decide_eq_true c5;clear c5;replace H:=ifn H;obtain⟨c6,H⟩:=H;have c6b0:=decide_eq_true c6;clear c6;replace H:=ifn H;obtain⟨c7,H⟩:=H;have c7b0:=decide_eq_true c7;clear c7;replace H:=ifn H;obtain⟨c8,H⟩:=H
       have c8b0:=decide_eq_true c8;clear c8;replace H:=ifn H;obtain⟨c9,H⟩:=H;have c9b0:=decide_eq_true c9;clear c9;have H':=am H;clear H
       have p107:0≤(x13_1:Int):=od
       have q107:x13_1 < (l2.length:Int):=od
       obtain⟨ad107,e107,hx107_0⟩:=Kd.at_int HR2.out x13_1 p107 q107
       cases e107;replace p107:=eq_true p107;replace q107:=eq_true q107
       have p108:0≤(x10_2:Int):=od
       have q108:x10_2 < (l2.length:Int):=od
       obtain⟨ad108,e108,hx108_0⟩:=Kd.at_int HR2.out x10_2 p108 q108
       obtain rfl:ad107=ad108:=(by injection e108)
       replace p108:=eq_true p108;replace q108:=eq_true q108;go_wp2
       repeat (go_quiet (fail);try go_wp2)
       go_loopg [7,8,12] k2 (fun kq v7 v8 v12 w'=>∃ (x7_3:Int) (x8_3:Int) (x12_3:Int),v7=.int .i64 x7_3∧v8=.int .i64 x8_3∧v12=.int .i64 x12_3∧qa (qp.l2 kq a0 l1 l2 x7_3 x8_3 x13_1 x10_2 (wrap64 ((rd l2 x13_1)*(rd l2 x10_2))) x12_3 x13_1=some r)∧qa (kq≤k2)∧Drawn0 w w')
       case atStart=>exact⟨(x7_2),(x8_2),(x10_2),fr,fr,fr,H',⟨Nat.le_refl _⟩,df⟩
       case round=>
        clear H';try clear c1;try clear p1;try clear q1;try clear hx1;try clear c2;try clear p2;try clear c4;try clear c4b0;try clear c5;try clear c5b0;try clear c6;try clear c6b0;try clear p6;try clear c7;try clear c7b0;try clear c8
        try clear c8b0;try clear c9;try clear c9b0;try clear hx107_0;try clear hx108_0;try clear p107;try clear p108;try clear p2;try clear q107;try clear q108
        obtain⟨x7_3,x8_3,x12_3,rfl,rfl,rfl,HA,HK3,⟨m3,rfl⟩⟩:=hrel
        cases gk with
        | zero=>exact absurd HA.out (by simp[qp.l2])
        | succ k3=>
         have H:=HA.out;clear HA
         simp only[qp.l2]at H
         by_cases c10:x12_3 < 4
         ·rw[if_pos c10]at H
          have c10b0:=decide_eq_true c10;clear c10;replace H:=ifn H;obtain⟨c11,H⟩:=H;have c11b0:=decide_eq_true c11;clear c11;replace H:=ifn H;obtain⟨c12,H⟩:=H;have c12b0:=decide_eq_true c12;clear c12;replace H:=ifn H;obtain⟨c13,H⟩:=H
          have c13b0:=decide_eq_true c13;clear c13;replace H:=ifn H;obtain⟨c14,H⟩:=H;have c14b0:=decide_eq_true c14;clear c14;have H':=am H;clear H
          have p109:0≤(x8_3:Int):=od
          have q109:x8_3 < (l1.length:Int):=od
          obtain⟨ad109,e109,hx109_0⟩:=Kd.at_int HR1.out x8_3 p109 q109
          cases e109;replace p109:=eq_true p109;replace q109:=eq_true q109
          have p110:0≤(x12_3:Int):=od
          have q110:x12_3 < (l2.length:Int):=od
          obtain⟨ad110,e110,hx110_0⟩:=Kd.at_int HR2.out x12_3 p110 q110
          obtain rfl:ad107=ad110:=(by injection e110)
          replace p110:=eq_true p110;replace q110:=eq_true q110;go_wp2
          repeat (go_quiet (fail);try go_wp2)
          go_roundg k3
          case measure=>have:=HK1.out;have:=HK2.out;have:=HK3.out;omega
          case rel=>exact⟨(wrap64 (x7_3+(wrap64 ((wrap64 ((rd l1 x8_3)*(wrap64 ((rd l2 x13_1)*(rd l2 x10_2)))))*(rd l2 x12_3))))),(wrap64 (x8_3+1)),(wrap64 (x12_3+1)),fr,fr,fr,H',⟨by have:=HK1.out;have:=HK2.out;have:=HK3.out;omega⟩,df⟩
         ·rw[if_neg c10]at H
          have c10b0:=decide_eq_false c10;clear c10;have H':=am H;clear H;go_wp2
          repeat (go_quiet (fail);try go_wp2)
          go_roundg k3
          case measure=>have:=HK1.out;have:=HK2.out;have:=HK3.out;omega
          case rel=>exact⟨(x7_3),(x8_3),(wrap64 (x10_2+1)),fr,fr,fr,H',⟨by have:=HK1.out;have:=HK2.out;have:=HK3.out;omega⟩,df⟩
      ·rw[if_neg c5]at H
       have c5b0:=decide_eq_false c5;clear c5;have H':=am H;clear H;go_wp2
       repeat (go_quiet (fail);try go_wp2)
       go_roundg k2
       case measure=>have:=HK1.out;have:=HK2.out;omega
       case rel=>exact⟨(x7_2),(x8_2),(wrap64 (x13_1+1)),fr,fr,fr,H',⟨by have:=HK1.out;have:=HK2.out;omega⟩,df⟩
   ·rw[if_neg c4]at H
    have c4b0:=decide_eq_false c4;clear c4;replace H:=ifm H;obtain⟨c15,H⟩:=H;have c15b0:=beq_eq_false_iff_ne.mpr c15;have c15b1:=bne_iff_ne.mpr c15;obtain rfl:=Option.some.inj H;go_wp2
    repeat (go_quiet (fail);try go_wp2)
    go_ret
    exact⟨fr,df⟩
theorem qbg {i:Int} (h0:0≤i) (h:i≤1000000000):wrap64 (i+1)=i+1:=by unfold wrap64;omega
def vs2 (f a:List Int) (two:Int):Nat→Int→Int→Int→Int
 | 0,s,_,_=>s
 | d+1,s,n,l=>vs2 f a two d (wrap64 (s+(wrap64 ((wrap64 ((rd f n)*two))*(rd a l))))) (n+1) (l+1)
def vs1 (f a:List Int) (i:Int):Nat→Int→Int→Int→Int×Int
 | 0,s,n,_=>(s,n)
 | d+1,s,n,j=>vs1 f a i d (vs2 f a (wrap64 ((rd a i)*(rd a j))) (d+1) s n j) (n+(d+1:Nat)) (j+1)
def vs0 (f a:List Int):Nat→Int→Int→Int→Int
 | 0,s,_,_=>s
 | d+1,s,n,i=>vs0 f a d (vs1 f a i (d+1) s n i).1 (vs1 f a i (d+1) s n i).2 (i+1)
def valI (p:Int) (f a:List Int):Int:=Int.tmod (vs0 f a 4 0 0 0) p
theorem qe7 (p:Int) (f a:List Int) (i j two i':Int) (hf:f.length=20) (ha:a.length=4) (r:Int):∀ (d:Nat) (s n l:Int),0≤n→n+d≤20→0≤l→l+d=4→
  Ev (fun k=>qp.l1 k p f a (vs2 f a two d s n l) (n+d) i (wrap64 (j+1)) i') r→Ev (fun k=>qp.l2 k p f a s n i j two l i') r
 | 0,s,n,l,h1,h2,h3,h4,h=>by
  refine Ev.step (f:=fun k=>qp.l1 k p f a s n i (wrap64 (j+1)) i') (fun k=>?_) (by simpa [vs2] using h)
  rw[qp.l2,if_neg (by omega)]
 | d+1,s,n,l,h1,h2,h3,h4,h=>by
  refine Ev.step (f:=fun k=>qp.l2 k p f a (wrap64 (s+(wrap64 ((wrap64 ((rd f n)*two))*(rd a l))))) (n+1) i j two (l+1) i') (fun k=>?_) ?_
  ·rw[qp.l2,if_pos (by omega),if_pos h1,if_pos (by omega),if_pos h3,if_pos (by omega),qbg h1 (by omega),qbg h3 (by omega)]
  ·refine qe7 p f a i j two i' hf ha r d _ _ _ (by omega) (by omega) (by omega) (by omega) ?_
   rw[show n+1+(d:Int)=n+((d+1:Nat):Int) from by omega]
   exact h
def tri :Nat→Nat
 | 0=>0
 | d+1=>d+1+tri d
theorem qee (f a:List Int) (i:Int):∀ (d:Nat) (s n j:Int),(vs1 f a i d s n j).2=n+tri d
 | 0,s,n,j=>by simp[vs1,tri]
 | d+1,s,n,j=>by rw[vs1,qee f a i d,tri];omega
theorem qe1 (p:Int) (f a:List Int) (i i':Int) (hf:f.length=20) (ha:a.length=4) (hi:0≤i∧i < 4) (r:Int):∀ (d:Nat) (s n j:Int),0≤n→n+tri d≤20→0≤j→j+d=4→
  Ev (fun k=>qp.l0 k p f a (vs1 f a i d s n j).1 (vs1 f a i d s n j).2 (wrap64 (i'+1))) r→Ev (fun k=>qp.l1 k p f a s n i j i') r
 | 0,s,n,j,h1,h2,h3,h4,h=>by
  refine Ev.step (f:=fun k=>qp.l0 k p f a s n (wrap64 (i'+1))) (fun k=>?_) (by simpa [vs1] using h)
  rw[qp.l1,if_neg (by omega)]
 | d+1,s,n,j,h1,h2,h3,h4,h=>by
  rw[tri]at h2
  refine Ev.step (f:=fun k=>qp.l2 k p f a s n i j (wrap64 ((rd a i)*(rd a j))) j i') (fun k=>?_) ?_
  ·rw[qp.l1,if_pos (by omega),if_pos hi.1,if_pos (by omega),if_pos h3,if_pos (by omega)]
  ·refine qe7 p f a i j _ i' hf ha r (d+1) _ _ _ (by omega) (by omega) (by omega) (by omega) ?_
   rw[qbg h3 (by omega)]
   exact qe1 p f a i i' hf ha hi r d _ _ _ (by omega) (by omega) (by omega) (by omega) h
theorem qjw (p:Int) (f a:List Int) (hp:p≠0) (hf:f.length=20) (ha:a.length=4):Ev (fun k=>qp.f k p f a) (valI p f a):=by
 have step:∀ (i s n:Int) (d:Nat),i+(d+1:Nat)=4→0≤i→0≤n→n+tri (d+1)≤20→Ev (fun k=>qp.l0 k p f a (vs1 f a i (d+1) s n i).1 (vs1 f a i (d+1) s n i).2 (i+1)) (valI p f a)→Ev (fun k=>qp.l0 k p f a s n i) (valI p f a):=by
  intro i s n d h1 h2 h3 h4 h
  refine Ev.step (f:=fun k=>qp.l1 k p f a s n i i i) (fun k=>?_) ?_
  ·rw[qp.l0,if_pos (by omega)]
  ·refine qe1 p f a i i hf ha (by omega) _ (d+1) _ _ _ h3 h4 h2 (by omega) ?_
   rw[qbg h2 (by omega)]
   exact h
 unfold qp.f
 refine step 0 0 0 3 (by omega) (by omega) (by omega) (by simp[tri]) ?_
 refine step 1 _ _ 2 (by omega) (by omega) (by rw[qee];omega) (by rw[qee];simp[tri]) ?_
 refine step 2 _ _ 1 (by omega) (by omega) (by simp only[qee];omega) (by simp only[qee];simp[tri]) ?_
 refine step 3 _ _ 0 (by omega) (by omega) (by simp only[qee];omega) (by simp only[qee];simp[tri]) ?_
 refine Ev.step (f:=fun _=>some (valI p f a)) (fun k=>?_) (Ev.now _)
 rw[qp.l0,if_neg (by omega),if_neg hp]
 rfl
theorem qh6 (x:Int) (w:World):Calls Try.prog 161 #[.int .i64 x] w fun e w'=>e=.returned (.bool (x !=0))∧Drawn0 w w':=by
 go_enter Try.func161,Try.ntmps161
 go_wp2;go_ret
 exact⟨rfl,Drawn0.refl _⟩
def qc8 (l:List Int):Bool:=(l.find? (fun x=>x !=0)) == some 1
theorem qfj (q:Int→Bool):∀ (l:List Int) (i:Int),0≤i→(l.find? q=none→idxOf q l i=-1)∧∀ x,l.find? q=some x→i≤idxOf q l i∧idxOf q l i < i+l.length∧l.getD (idxOf q l i - i).toNat 0=x
 | [],i,h=>by simp[idxOf]
 | y :: ys,i,h=>by
  obtain⟨h1,h2⟩:=qfj q ys (i+1) (by omega)
  unfold idxOf
  cases hq:q y
  ·simp only[List.find?_cons,hq,Bool.false_eq_true,if_false]
   refine⟨h1,fun x hx=>?_⟩
   obtain⟨h3,h4,h5⟩:=h2 x hx
   refine⟨by omega,by simp only[List.length_cons];omega,?_⟩
   rw[show (idxOf q ys (i+1) - i).toNat=(idxOf q ys (i+1) - (i+1)).toNat+1 from by omega]
   simpa using h5
  ·simp[List.find?_cons,hq];omega
def Zk.f (l0:List Int):Option Bool:=some (qc8 l0)
theorem Zk.calls (A0:Option Addr) (c0:Nat) (l0:List Int) (r:Bool) (w:World) (hr0:Kd.C (Kd.int .i64) w A0 l0.length l0) (hc0:l0.length≤c0) (h:Zk.f l0=some r):
  Calls Try.prog 119 #[.slice A0 l0.length c0] w fun e w'=>e=.returned (.bool r)∧Drawn0 w w':=by
 have H:=Lib.hid h
 clear h
 have hi:=qfj (fun x=>x !=0) l0 0 (by omega)
 have HC:=Lib.hid (qcl 161 #[] (fun x=>x !=0) A0 c0 l0 w hr0 (Go.Proofs.enters_of Try.func161 (by kernel_rfl) rfl) (fun x w1 _=>qh6 x w1))
 generalize hz:idxOf (fun x=>x !=0) l0 0=z at*
 have HI:=Lib.hid hi
 clear hi hz
 by_cases h0:0≤z
 ·have hlt:z < l0.length:=by
   cases hf:l0.find? (fun x=>x !=0) with
   | none=>have:=HI.out.1 hf;omega
   | some x=>have:=HI.out.2 x hf;omega
  obtain⟨ad,e,hx⟩:=Kd.at_int hr0 z h0 hlt
  subst e
  have h1:decide (0≤z)=true:=decide_eq_true h0
  have h2:decide (z < (l0.length:Int))=true:=decide_eq_true hlt
  go_enter Try.func119,Try.ntmps119
  go_wp2_with fail
  refine HC.out.mono ?_
  rintro e w' ⟨rfl,⟨m2,rfl⟩⟩
  go_wp2;go_ret
  refine⟨qb1 (a:=rd l0 z == 1) ?_,⟨m2,rfl⟩⟩
  have hz:=HI.out
  have hr:qc8 l0=r:=by simpa [Zk.f] using H.out
  rw[← hr,qc8]
  cases hf:l0.find? (fun x=>x !=0) with
  | none=>have:=hz.1 hf;omega
  | some x=>
   obtain⟨_,_,h5⟩:=hz.2 x hf
   rw[Int.sub_zero]at h5
   simp only[rd,h5]
   rfl
 ·have h1:decide (0≤z)=false:=decide_eq_false h0
  go_enter Try.func119,Try.ntmps119
  go_wp2_with fail
  refine HC.out.mono ?_
  rintro e w' ⟨rfl,⟨m2,rfl⟩⟩
  go_wp2;go_ret
  refine⟨qb1 (a:=false) ?_,⟨m2,rfl⟩⟩
  have hz:=HI.out
  have hr:qc8 l0=r:=by simpa [Zk.f] using H.out
  rw[← hr,qc8]
  cases hf:l0.find? (fun x=>x !=0) with
  | none=>rfl
  | some x=>have:=(hz.2 x hf).1;omega
def Zi.f (a0:Int) (l1:List Int):Option (Bool):=(ja.f a0 l1 4).bind fun t111=>(if t111=true then ((Zk.f l1).bind fun t112=>(some t112)) else (some false))
theorem Zi.calls (a0:Int) (A1:Option Addr) (c1:Nat) (l1:List Int) (r:Bool) (w:World) (hr1:Kd.C (Kd.int .i64) w A1 l1.length l1) (hc1:l1.length≤c1) (h:Zi.f a0 l1=some r):
  Calls Try.prog 83 #[.int .i64 a0,.slice A1 l1.length c1] w fun e w'=>e=.returned (.bool r)∧Below w.heap.size w w':=by
 have HR1:=am hr1
 have HC1:=am hc1
 clear hr1 hc1
 have HB:=am (Below.refl w.heap.size w)
 have H:((ja.f a0 l1 4).bind fun t111=>(if t111=true then ((Zk.f l1).bind fun t112=>(some t112)) else (some false)))=some r:=h
 clear h;replace H:=bs H;obtain⟨t111,A3,H⟩:=H
 by_cases c4:t111=true
 ·subst c4
  rw[if_pos rfl]at H
  replace H:=bs H;obtain⟨t112,A5,H⟩:=H;obtain rfl:=Option.some.inj H
  go_enter Try.func83,Try.ntmps83
  go_wp2_with (first | ((with_reducible refine qe (f:=52) rfl ?_);refine gl 7 Try.func52 #[.int .i64 a0,.slice A1 l1.length c1,.int .i64 4] ?_;(with_reducible refine(ja.calls a0 _ _ l1 4 true _ ?_ ?_ A3.out).mono ?_);exact wC HR1;exact HC1.out;rintro e w6 ⟨rfl,hb⟩;refine⟨_,rfl,?_⟩;replace HB:=bq HB hb;(try clear hb)) | (go_at_call 119;(with_reducible refine(Zk.calls _ _ l1 t112 _ ?_ ?_ A5.out).mono ?_);exact Kd.C_below HR1.out (bw HB);exact HC1.out;rintro e w' ⟨rfl,⟨nd,rfl⟩⟩))
  go_ret
  exact⟨fq,bw HB⟩
 ·replace c4:=Bool.eq_false_iff.mpr c4
  subst c4
  rw[if_neg (show ¬ (false=true) by decide)]at H
  obtain rfl:=Option.some.inj H
  go_enter Try.func83,Try.ntmps83
  go_wp2_with (first | ((with_reducible refine qe (f:=52) rfl ?_);refine gl 7 Try.func52 #[.int .i64 a0,.slice A1 l1.length c1,.int .i64 4] ?_;(with_reducible refine(ja.calls a0 _ _ l1 4 false _ ?_ ?_ A3.out).mono ?_);exact wC HR1;exact HC1.out;rintro e w7 ⟨rfl,hb⟩;refine⟨_,rfl,?_⟩;replace HB:=bq HB hb;(try clear hb)))
  go_ret
  exact⟨fq,bw HB⟩
end Go.Proofs.Ytmgbpmihbljngaa.PA
