-- Written by xprint.py, a program of this claim's own (over the kit's print.py)
import Derived.Test.YtmgbpmihbljngaaPAx13
namespace Go.Proofs.Ytmgbpmihbljngaa.PA
set_option maxHeartbeats 8000000
set_option maxRecDepth 100000
open Go.RowKit Go.Proofs.YtmgbpmihbljngaaW.PrintWords Go.Proofs.YtmgbpmihbljngaaW.PrintLast Go.Proofs.YtmgbpmihbljngaaW.PrintMore
attribute [local go_sem] Qs Qr Qx Qw Qf Qe Qq Qp
set_option linter.unusedVariables false
set_option linter.unusedSimpArgs false
def q7.j0 :Nat→Int→List (S43)→Int→Bool→Option (List Int×Bool)
 | 0,_,_,_,_=>none
 | k+1,x0,x1,x2,x16=>if x16=true then (some ((([]:List Int)),false)) else ((jm.f k x0 x1).bind fun t328=>((zq.f k x0 x1 t328 x2).bind fun t331=>(some (t331,true))))
def q7.f (k:Nat) (a0:Int) (l1:List (S43)) (a2:Int):Option (List Int×Bool):=(js.f k a0 l1).bind fun t323=>(if t323=true then ((j9.f a2 0 26).bind fun t324=>(q7.j0 k a0 l1 a2 (!t324))) else (q7.j0 k a0 l1 a2 true))
theorem q7.mono_l :∀ k,(∀ y0 y1 y2 y3,LeO (q7.j0 k y0 y1 y2 y3) (q7.j0 (k+1) y0 y1 y2 y3))
 | 0=>fun _ _ _ _ r h=>by simp[q7.j0]at h
 | k+1=>by
  have ih0:=q7.mono_l k
  ·intro y0 y1 y2 y3
   unfold q7.j0
   repeat' first | (with_reducible first | apply ih0 | apply js.mono | apply jm.mono | apply zq.mono | exact LeO.refl _ | exact LeO.none _ | refine LeO.ite ?_ ?_ | refine LeO.bind ?_ (fun _=>?_)) | (first | apply ih0 | apply js.mono | apply jm.mono | apply zq.mono | exact LeO.none _ | refine LeO.ite ?_ ?_ | refine LeO.bind ?_ (fun _=>?_))
theorem q7.mono :∀ a0 a1 a2 k,LeO (q7.f k a0 a1 a2) (q7.f (k+1) a0 a1 a2):=by
 intro a0 a1 a2 k
 have ih0:=q7.mono_l k
 unfold q7.f
 repeat' first | (with_reducible first | apply ih0 | apply js.mono | apply jm.mono | apply zq.mono | exact LeO.refl _ | exact LeO.none _ | refine LeO.ite ?_ ?_ | refine LeO.bind ?_ (fun _=>?_)) | (first | apply ih0 | apply js.mono | apply jm.mono | apply zq.mono | exact LeO.none _ | refine LeO.ite ?_ ?_ | refine LeO.bind ?_ (fun _=>?_))
theorem q7.calls (k:Nat) (a0:Int) (A1:Option Addr) (c1:Nat) (l1:List (S43)) (a2:Int) (r1:List Int) (r2:Bool) (w:World) (hr1:Kd.C k43 w A1 l1.length l1) (hc1:l1.length≤c1) (h:q7.f k a0 l1 a2=some (r1,r2)):
  Calls Try.prog 42 #[.int .i64 a0,.slice A1 l1.length c1,.int .i64 a2] w fun e w'=>∃ v0_:Value,e=.returned (.tuple #[v0_,.bool r2])∧Kd.R (Kd.int .i64) 3 w' w.heap.size (fun _=>True) v0_ r1∧Below w.heap.size w w':=by
 have HR1:=am hr1
 have HC1:=am hc1
 clear hr1 hc1
 have HB:=am (Below.refl w.heap.size w)
 have H:((js.f k a0 l1).bind fun t323=>(if t323=true then ((j9.f a2 0 26).bind fun t324=>(q7.j0 k a0 l1 a2 (!t324))) else (q7.j0 k a0 l1 a2 true)))=some (r1,r2):=h
 clear h
 have HC4:=am H
 clear H
 go_enter Try.func42,Try.ntmps42
 go_upto_region 1 with (fail)
 go_cut [16] (fun v16 wc=>∃ (kq:Nat) (x16_3:Bool),v16=.bool x16_3∧qf (q7.j0 kq a0 l1 a2 x16_3=some (r1,r2))∧qf (kq≤k)∧qf (Below w.heap.size w wc))
 case first=>
  have H:=HC4.out
  clear HC4;replace H:=bs H;obtain⟨t323,A5,H⟩:=H
  by_cases c6:t323=true
  ·subst c6
   rw[if_pos rfl]at H
   replace H:=bs H;obtain⟨t324,A7,H⟩:=H;have H':=am H;clear H
   go_wp2_with (first | ((with_reducible refine qt (f:=62) rfl ?_);refine gl 10 Try.func62 #[.int .i64 a0,.slice A1 l1.length c1] ?_;(with_reducible refine(js.calls k a0 _ _ l1 true _ ?_ ?_ A5.out).mono ?_);exact Kd.C_below HR1.out (bw HB);exact HC1.out;rintro e w8 ⟨rfl,hb⟩;refine⟨_,rfl,?_⟩;replace HB:=bq HB hb;(try clear hb)) | (go_at_call 87;(with_reducible refine(j9.calls a2 0 26 t324 _ A7.out).mono ?_);rintro e w' ⟨rfl,⟨nd,rfl⟩⟩))
   go_meet
   case rel=>exact⟨_,(!t324),fr,H',⟨by first | omega | exact Nat.le_refl _⟩,⟨bw HB⟩⟩
  ·replace c6:=Bool.eq_false_iff.mpr c6
   subst c6
   rw[if_neg (show ¬ (false=true) by decide)]at H
   have H':=am H;clear H
   go_wp2_with (first | ((with_reducible refine qt (f:=62) rfl ?_);refine gl 10 Try.func62 #[.int .i64 a0,.slice A1 l1.length c1] ?_;(with_reducible refine(js.calls k a0 _ _ l1 false _ ?_ ?_ A5.out).mono ?_);exact Kd.C_below HR1.out (bw HB);exact HC1.out;rintro e w9 ⟨rfl,hb⟩;refine⟨_,rfl,?_⟩;replace HB:=bq HB hb;(try clear hb)))
   go_meet
   case rel=>exact⟨_,(true),fr,H',⟨by first | omega | exact Nat.le_refl _⟩,⟨bw HB⟩⟩
 case rest=>
  clear HC4;try clear c1;try clear p2;try clear c4;try clear c6
  obtain⟨kq,x16_3,rfl,HA,HJ3,HB⟩:=hcut
  cases kq with
  | zero=>exact absurd HA.out (by simp[q7.j0])
  | succ kj3=>
   have H:=HA.out;clear HA
   simp only[q7.j0]at H
   by_cases c10:x16_3=true
   ·subst c10
    rw[if_pos rfl]at H
    generalize hy325:(([]:List Int))=y325 at H
    have Ny325:=am hy325.symm;clear hy325
    simp only[Option.some.injEq,Prod.mk.injEq]at H
    obtain⟨rfl,rfl⟩:=H
    go_wp2_with (first | ((with_reducible refine zb (N:=17) rfl ?_);refine li 3 ([]:List Int) ?_;intro v326 w11 ho12 hb;(first | rw[← Ny325.out]at ho12 | (simp only[Int.reduceToNat]at ho12;rw[← Ny325.out]at ho12));have HO327:=am (Kd.R_lower ho12 (bz HB));replace HB:=bq HB hb;clear hb ho12))
    go_ret2
    exact⟨_,fq,wR HO327,bw HB⟩
   ·replace c10:=Bool.eq_false_iff.mpr c10
    subst c10
    rw[if_neg (show ¬ (false=true) by decide)]at H
    replace H:=bs H;obtain⟨t328,A13,H⟩:=H;replace H:=bs H;obtain⟨t331,A14,H⟩:=H
    simp only[Option.some.injEq,Prod.mk.injEq]at H
    obtain⟨rfl,rfl⟩:=H
    go_wp2_with (first | ((with_reducible refine qt (f:=78) rfl ?_);refine gl 22 Try.func78 #[.int .i64 a0,.slice A1 l1.length c1] ?_;(with_reducible refine(jm.calls kj3 a0 _ _ l1 t328 _ ?_ ?_ A13.out).mono ?_);exact Kd.C_below HR1.out (bw HB);exact HC1.out;rintro e w15 ⟨v329,rfl,ho0,hb⟩;refine⟨_,rfl,?_⟩;have HO330:=am (Kd.N_lower (Kd.N_mono (ok':=fun k_=>True) ho0 (fun k_ hk_=>trivial)) (bz HB));replace HB:=bq HB hb;(try clear hb);(try clear ho0);obtain⟨Ao16,co16,eo16⟩:=Kd.N_slice HO330.out;subst eo16) | ((with_reducible refine qt (f:=88) rfl ?_);refine gl 24 Try.func88 #[.int .i64 a0,.slice A1 l1.length c1,.slice Ao16 t328.length co16,.int .i64 a2] ?_;(with_reducible refine(zq.calls kj3 a0 _ _ l1 _ _ t328 a2 t331 _ ?_ ?_ ?_ ?_ A14.out).mono ?_);exact Kd.C_below HR1.out (bw HB);exact HC1.out;exact Kd.C_below (Kd.N_reads' HO330.out).2.2 gs;exact(Kd.N_reads' HO330.out).2.1;rintro e w17 ⟨v332,rfl,ho0,hb⟩;refine⟨_,rfl,?_⟩;replace HO330:=eN HO330 (Kd.R_base ho0) hb;have HO333:=am (Kd.R_lower ho0 (bz HB));replace HB:=bq HB hb;(try clear hb);(try clear ho0)))
    go_ret2
    exact⟨_,fq,wR HO333,bw HB⟩
def qk.l0 :Nat→List Int→Int→Int→Int→Option (Int)
 | 0,_,_,_,_=>none
 | k+1,x0,x1,x7,x8=>if x8 < x7 then (if 0≤x8 then (if x8 < (x0.length:Int) then (if x1=(rd x0 x8) then (some x8) else (qk.l0 k x0 x1 x7 (wrap64 (x8+1)))) else (none)) else (none)) else (some (-1))
def qk.f (k:Nat) (l0:List Int) (a1:Int):Option (Int):=qk.l0 k l0 a1 (l0.length:Int) 0
theorem qk.mono_l :∀ k,(∀ y0 y1 y2 y3,LeO (qk.l0 k y0 y1 y2 y3) (qk.l0 (k+1) y0 y1 y2 y3))
 | 0=>fun _ _ _ _ r h=>by simp[qk.l0]at h
 | k+1=>by
  have ih0:=qk.mono_l k
  ·intro y0 y1 y2 y3
   unfold qk.l0
   repeat' first | (with_reducible first | apply ih0 | exact LeO.refl _ | exact LeO.none _ | refine LeO.ite ?_ ?_ | refine LeO.bind ?_ (fun _=>?_)) | (first | apply ih0 | exact LeO.none _ | refine LeO.ite ?_ ?_ | refine LeO.bind ?_ (fun _=>?_))
theorem qk.mono :∀ a0 a1 k,LeO (qk.f k a0 a1) (qk.f (k+1) a0 a1):=by
 intro a0 a1 k
 have ih0:=qk.mono_l k
 unfold qk.f
 repeat' first | (with_reducible first | apply ih0 | exact LeO.refl _ | exact LeO.none _ | refine LeO.ite ?_ ?_ | refine LeO.bind ?_ (fun _=>?_)) | (first | apply ih0 | exact LeO.none _ | refine LeO.ite ?_ ?_ | refine LeO.bind ?_ (fun _=>?_))
theorem qk.calls (k:Nat) (A0:Option Addr) (c0:Nat) (l0:List Int) (a1:Int) (r:Int) (w:World) (hr0:Kd.C (Kd.int .i64) w A0 l0.length l0) (hc0:l0.length≤c0) (h:qk.f k l0 a1=some r):
  Calls Try.prog 159 #[.slice A0 l0.length c0,.int .i64 a1] w fun e w'=>e=.returned (.int .i64 r)∧Drawn0 w w':=by
 have HR0:=am hr0
 have HC0:=am hc0
 clear hr0 hc0
 have H:(qk.l0 k l0 a1 (l0.length:Int) 0)=some r:=h
 clear h;have H':=am H;clear H
 go_enter Try.func159,Try.ntmps159
 go_wp2
 go_loopg [8] k (fun kq v8 w'=>∃ (x8_1:Int),v8=.int .i64 x8_1∧qf (qk.l0 kq l0 a1 (l0.length:Int) x8_1=some r)∧qf (kq≤k)∧Drawn0 w w')
 case atStart=>exact⟨(0),fr,H',⟨Nat.le_refl _⟩,df⟩
 case round=>
  clear H';try clear c1;try clear p2
  obtain⟨x8_1,rfl,HA,HK1,⟨m1,rfl⟩⟩:=hrel
  cases gk with
  | zero=>exact absurd HA.out (by simp[qk.l0])
  | succ k1=>
   have H:=HA.out;clear HA
   simp only[qk.l0]at H
   by_cases c3:x8_1 < (l0.length:Int)
   ·rw[if_pos c3]at H
    have c3b0:=decide_eq_true c3;clear c3;replace H:=ifn H;obtain⟨c4,H⟩:=H;have c4b0:=decide_eq_true c4;clear c4;replace H:=ifn H;obtain⟨c5,H⟩:=H;have c5b0:=decide_eq_true c5;clear c5
    by_cases c6:a1=(rd l0 x8_1)
    ·rw[if_pos c6]at H
     have c6b0:=beq_iff_eq.mpr c6;have c6b1:=bne_eq_false_iff_eq.mpr c6;clear c6;obtain rfl:=Option.some.inj H
     have p334:0≤(x8_1:Int):=od
     have q334:x8_1 < (l0.length:Int):=od
     obtain⟨ad334,e334,hx334_0⟩:=Kd.at_int HR0.out x8_1 p334 q334
     cases e334;replace p334:=eq_true p334;replace q334:=eq_true q334;go_wp2;go_ret
     exact⟨fr,df⟩
    ·rw[if_neg c6]at H
     have c6b0:=beq_eq_false_iff_ne.mpr c6;have c6b1:=bne_iff_ne.mpr c6;have H':=am H;clear H
     have p334:0≤(x8_1:Int):=od
     have q334:x8_1 < (l0.length:Int):=od
     obtain⟨ad334,e334,hx334_0⟩:=Kd.at_int HR0.out x8_1 p334 q334
     cases e334;replace p334:=eq_true p334;replace q334:=eq_true q334;go_wp2
     go_roundg k1
     case measure=>have:=HK1.out;omega
     case rel=>exact⟨(wrap64 (x8_1+1)),fr,H',⟨by have:=HK1.out;omega⟩,df⟩
   ·rw[if_neg c3]at H
    have c3b0:=decide_eq_false c3;clear c3;obtain rfl:=Option.some.inj H;go_wp2;go_ret
    exact⟨fr,df⟩
def q6.f (k:Nat) (l0:List Int) (a1:Int):Option (Bool):=(qk.f k l0 a1).bind fun t335=>(some (decide (t335≥0)))
theorem q6.mono :∀ a0 a1 k,LeO (q6.f k a0 a1) (q6.f (k+1) a0 a1):=by
 intro a0 a1 k
 unfold q6.f
 repeat' first | (with_reducible first | apply qk.mono | exact LeO.refl _ | exact LeO.none _ | refine LeO.ite ?_ ?_ | refine LeO.bind ?_ (fun _=>?_)) | (first | apply qk.mono | exact LeO.none _ | refine LeO.ite ?_ ?_ | refine LeO.bind ?_ (fun _=>?_))
theorem q6.calls (k:Nat) (A0:Option Addr) (c0:Nat) (l0:List Int) (a1:Int) (r:Bool) (w:World) (hr0:Kd.C (Kd.int .i64) w A0 l0.length l0) (hc0:l0.length≤c0) (h:q6.f k l0 a1=some r):
  Calls Try.prog 155 #[.slice A0 l0.length c0,.int .i64 a1] w fun e w'=>e=.returned (.bool r)∧Drawn0 w w':=by
 have HR0:=am hr0
 have HC0:=am hc0
 clear hr0 hc0
 have H:((qk.f k l0 a1).bind fun t335=>(some (decide (t335≥0))))=some r:=h
 clear h;replace H:=bs H;obtain⟨t335,A3,H⟩:=H;obtain rfl:=Option.some.inj H
 go_enter Try.func155,Try.ntmps155
 go_wp2_with (first | ((with_reducible refine qt (f:=159) rfl ?_);refine gl 7 Try.func159 #[.slice A0 l0.length c0,.int .i64 a1] ?_;(with_reducible refine(qk.calls k _ _ l0 a1 t335 _ ?_ ?_ A3.out).mono ?_);exact wC HR0;exact HC0.out;rintro e w' ⟨rfl,⟨nd,rfl⟩⟩;refine⟨_,rfl,?_⟩))
 go_ret
 exact⟨fr,df⟩
def Qy.f (k:Nat) (a0:Int):Option (Bool):=(q6.f k (([7,11,13,17,19,23,29,31]:List Int)) a0).bind fun t339=>(some t339)
theorem Qy.mono :∀ a0 k,LeO (Qy.f k a0) (Qy.f (k+1) a0):=by
 intro a0 k
 unfold Qy.f
 repeat' first | (with_reducible first | apply q6.mono | exact LeO.refl _ | exact LeO.none _ | refine LeO.ite ?_ ?_ | refine LeO.bind ?_ (fun _=>?_)) | (first | apply q6.mono | exact LeO.none _ | refine LeO.ite ?_ ?_ | refine LeO.bind ?_ (fun _=>?_))
theorem Qy.calls (k:Nat) (a0:Int) (r:Bool) (w:World) (h:Qy.f k a0=some r):
  Calls Try.prog 99 #[.int .i64 a0] w fun e w'=>e=.returned (.bool r)∧Below w.heap.size w w':=by
 have HB:=am (Below.refl w.heap.size w)
 have H:((q6.f k (([7,11,13,17,19,23,29,31]:List Int)) a0).bind fun t339=>(some t339))=some r:=h
 clear h
 generalize hy336:(([7,11,13,17,19,23,29,31]:List Int))=y336 at H
 have Ny336:=am hy336.symm;clear hy336;replace H:=bs H;obtain⟨t339,A2,H⟩:=H;obtain rfl:=Option.some.inj H
 go_enter Try.func99,Try.ntmps99
 go_wp2_with (first | ((with_reducible refine zb (N:=3) rfl ?_);refine li 3 [7,11,13,17,19,23,29,31] ?_;intro v337 w3 ho4 hb;(first | rw[← Ny336.out]at ho4 | (simp only[Int.reduceToNat]at ho4;rw[← Ny336.out]at ho4));have HO338:=am (Kd.R_lower ho4 (bz HB));replace HB:=bq HB hb;clear hb ho4;obtain⟨Ao5,co5,eo5⟩:=Kd.R_slice HO338.out;subst eo5) | ((with_reducible refine qt (f:=155) rfl ?_);refine gl 5 Try.func155 #[.slice Ao5 y336.length co5,.int .i64 a0] ?_;(with_reducible refine(q6.calls k _ _ y336 a0 t339 _ ?_ ?_ A2.out).mono ?_);exact Kd.C_below (Kd.R_reads' HO338.out).2.2 gs;exact(Kd.R_reads' HO338.out).2.1;rintro e w' ⟨rfl,⟨nd,rfl⟩⟩;refine⟨_,rfl,?_⟩))
 go_ret
 exact⟨fq,bw HB⟩
def idxOf (q:Int→Bool):List Int→Int→Int
 | [],_=> -1
 | x :: xs,i=>if q x then i else idxOf q xs (i+1)
theorem qlo {k:IntKind} {a b:Int} (h:a=b):Ending.returned (.int k a)=.returned (.int k b):=by rw[h]
theorem qbq {a b:Bool} (h:a=b):Ending.returned (.bool a)=.returned (.bool b):=by rw[h]
theorem qn6 (l:List Int) (j:Nat) (h:j < l.length):rd l (j:Int)=l[j]:=by simp[rd,List.getD_eq_getElem?_getD,h]
theorem qcb (g:Nat) (lb:Array Value) (q:Int→Bool) (A0:Option Addr) (c0:Nat) (l0:List Int) (w:World) (hr0:Kd.C (Kd.int .i64) w A0 l0.length l0)
  (he:∀ args w,(callFunc g args).run Try.prog w=.ok (.enter g args) w)
  (hq:∀ (x:Int) (w1:World),Drawn0 w w1→Calls Try.prog g (#[.int .i64 x]++lb) w1 fun e w'=>e=.returned (.bool (q x))∧Drawn0 w1 w'):
  Calls Try.prog 156 #[.slice A0 l0.length c0,.func (.func g) #[] lb] w fun e w'=>e=.returned (.int .i64 (idxOf q l0 0))∧Drawn0 w w':=by
 have hm:=hr0.2.1
 go_enter Try.func156,Try.ntmps156
 go_wp2
 go_loopw [8] (fun i w'=>∃ j:Nat,j≤l0.length∧i=.int .i64 j∧idxOf q l0 0=idxOf q (l0.drop j) j∧Drawn0 w w') (fun i _=>l0.length - (intOf i).toNat)
 case atStart=>exact⟨0,Nat.zero_le _,rfl,by simp,Drawn0.refl _⟩
 case round=>
  obtain⟨j,hj,rfl,hidx,⟨m1,rfl⟩⟩:=hrel
  have HIDX:=Lib.hid hidx
  clear hidx
  by_cases hlt:j < l0.length
  ·obtain⟨ad,e,hx⟩:=Kd.at_int hr0 (j:Int) (by omega) (by omega)
   subst e
   simp only[Int.toNat_natCast]at hx
   have hcall:=hq (rd l0 j) (w.drewN m1) ⟨m1,rfl⟩
   have HC:=Lib.hid hcall
   clear hcall hq
   cases hv:q (rd l0 j)
   all_goals
    go_wp2_with fail
    refine(HC.out).mono ?_
    rintro e w' ⟨rfl,⟨m2,rfl⟩⟩
    simp only[hv]
    go_wp2
   ·go_roundw
    case rel=>exact⟨j+1,by omega,by go_num,by rw[HIDX.out,List.drop_eq_getElem_cons hlt,idxOf,if_neg (by rw[← qn6 l0 j hlt,hv];simp)];simp,⟨m1+m2,by simp⟩⟩
    case measure=>simp[intOf];omega
   ·go_ret
    exact⟨qlo (a:=(j:Int)) (by rw[HIDX.out,List.drop_eq_getElem_cons hlt,idxOf,if_pos (by rw[← qn6 l0 j hlt,hv])]),⟨m1+m2,by simp⟩⟩
  ·go_wp2
   go_ret
   exact⟨qlo (a:=-1) (by rw[HIDX.out,List.drop_eq_nil_of_le (by omega),idxOf]),⟨m1,rfl⟩⟩
theorem qdk (g:Nat) (lb:Array Value) (q:Int→Bool) (A0:Option Addr) (c0:Nat) (l0:List Int) (w:World) (hr0:Kd.C (Kd.int .i64) w A0 l0.length l0)
  (he:∀ args w,(callFunc g args).run Try.prog w=.ok (.enter g args) w)
  (hq:∀ (x:Int) (w1:World),Drawn0 w w1→Calls Try.prog g (#[.int .i64 x]++lb) w1 fun e w'=>e=.returned (.bool (q x))∧Drawn0 w1 w'):
  Calls Try.prog 100 #[.slice A0 l0.length c0,.func (.func g) #[] lb] w fun e w'=>e=.returned (.bool (decide (idxOf q l0 0≥0)))∧Drawn0 w w':=by
 have HC:=Lib.hid (qcb g lb q A0 c0 l0 w hr0 he hq)
 clear hq
 go_enter Try.func100,Try.ntmps100
 go_wp2_with fail
 refine HC.out.mono ?_
 rintro e w' ⟨rfl,⟨m2,rfl⟩⟩
 go_wp2;go_ret
 exact⟨rfl,⟨m2,rfl⟩⟩
theorem qnf (x p:Int) (b:Nat) (w:World) (hc:w.cell? ⟨b,0,none⟩=some (.int .i64 p)):
  Calls Try.prog 101 #[.int .i64 x,.pointer (some ⟨b,0,none⟩)] w fun e w'=>e=.returned (.bool (decide (x < 0) || decide (x≥p)))∧Drawn0 w w':=by
 by_cases h:x < 0
 ·have h1:decide (x < 0)=true:=decide_eq_true h
  go_enter Try.func101,Try.ntmps101
  go_wp2;go_ret
  exact⟨by simp[h],Drawn0.refl _⟩
 ·have h1:decide (x < 0)=false:=decide_eq_false h
  go_enter Try.func101,Try.ntmps101
  go_wp2;go_ret
  exact⟨by simp[h],Drawn0.refl _⟩
def zi (p:Int):Bool:=decide (p=7∨p=11∨p=13∨p=17∨p=19∨p=23∨p=29∨p=31)
theorem qdn (a:Int):Qy.f 20 a=some (zi a):=by
 by_cases h:a=7∨a=11∨a=13∨a=17∨a=19∨a=23∨a=29∨a=31
 ·rcases h with rfl | rfl | rfl | rfl | rfl | rfl | rfl | rfl<;>decide+kernel
 ·have h':=h
  simp only[not_or]at h
  obtain⟨h1,h2,h3,h4,h5,h6,h7,h8⟩:=h
  simp[Qy.f,q6.f,qk.f,qk.l0,rd,wrap64,h1,h2,h3,h4,h5,h6,h7,h8,zi]
theorem qil (q:Int→Bool):∀ (l:List Int) (i:Int),0≤i→decide (idxOf q l i≥0)=l.any q
 | [],i,h=>by simp[idxOf]
 | x :: xs,i,h=>by
  unfold idxOf
  cases hq:q x
  ·simp[hq,qil q xs (i+1) (by omega)]
  ·simp[hq,h]
def Qh.f (a0:Int) (l1:List Int) (a2:Int):Option Bool:=some (zi a0 && decide ((l1.length:Int)=a2) && l1.all fun x=>decide (0≤x) && decide (x < a0))
theorem Qh.not (p:Int) (l:List Int):(!decide (idxOf (fun x=>decide (x < 0) || decide (x≥p)) l 0≥0))=l.all fun x=>decide (0≤x) && decide (x < p):=by
 rw[qil _ l 0 (by omega),List.not_any_eq_all_not]
 congr 1
 funext x
 rw[Bool.eq_iff_iff]
 simp only[Bool.not_eq_true',Bool.or_eq_false_iff,decide_eq_false_iff_not,Bool.and_eq_true,decide_eq_true_eq]
 omega
theorem Qh.calls (a0:Int) (A1:Option Addr) (c1:Nat) (l1:List Int) (a2:Int) (r:Bool) (w:World) (hr1:Kd.C (Kd.int .i64) w A1 l1.length l1) (hc1:l1.length≤c1) (h:Qh.f a0 l1 a2=some r):
  Calls Try.prog 52 #[.int .i64 a0,.slice A1 l1.length c1,.int .i64 a2] w fun e w'=>e=.returned (.bool r)∧Below w.heap.size w w':=by
 have H:=Lib.hid h
 clear h
 have hmf:∀ (fn:Fn) (first cap:Array Value) (w:World),(Instr.makeFunc fn first cap).run Try.prog w=.ok (.func fn first cap) w:=fun _ _ _ _=>rfl
 cases hp:zi a0
 ·have HP:=Lib.hid hp
  clear hp
  go_enter Try.func52,Try.ntmps52
  go_wp2_with fail
  refine(Qy.calls 20 a0 false _ (by rw[qdn,HP.out])).mono ?_
  rintro e w1 ⟨rfl,hb⟩
  go_wp2;go_ret
  exact⟨qbq (a:=false) (by simpa [Qh.f,HP.out] using H.out),(jx (Below.refl _ _) _).trans (hb.mono (by simp))⟩
 ·have HP:=Lib.hid hp
  clear hp
  by_cases hl:(l1.length:Int)=a2
  ·have hl1:((l1.length:Int) == a2)=true:=beq_iff_eq.mpr hl
   have HL:=Lib.hid hl
   clear hl
   go_enter Try.func52,Try.ntmps52
   go_wp2_with fail
   refine(Qy.calls 20 a0 true _ (by rw[qdn,HP.out])).mono ?_
   rintro e w1 ⟨rfl,hb⟩
   have hcell:w1.cell? ⟨w.heap.size,0,none⟩=some (.int .i64 a0):=by
    rw[hb.cell (p:=⟨w.heap.size,0,none⟩) (by simp)];simp[go_sem]
   have hr2:=Kd.C_below hr1 ((jx (Below.refl _ _) _).trans (hb.mono (by simp)))
   go_wp2_with fail
   refine(qdk 101 #[.pointer (some ⟨w.heap.size,0,none⟩)] (fun x=>decide (x < 0) || decide (x≥a0)) A1 c1 l1 w1 hr2 (Go.Proofs.enters_of Try.func101 (by kernel_rfl) rfl) (fun x w2 ⟨m,hm⟩=>by subst hm;exact qnf x a0 w.heap.size _ (by simpa using hcell))).mono ?_
   rintro e w2 ⟨rfl,⟨m,rfl⟩⟩
   go_wp2;go_ret
   exact⟨qbq (a:=!decide (idxOf (fun x=>decide (x < 0) || decide (x≥a0)) l1 0≥0)) (by rw[Qh.not];simpa [Qh.f,HP.out,HL.out] using H.out),Ql ((jx (Below.refl _ _) _).trans (hb.mono (by simp))) m⟩
  ·have hl1:((l1.length:Int) == a2)=false:=beq_eq_false_iff_ne.mpr hl
   have HL:=Lib.hid hl
   clear hl
   go_enter Try.func52,Try.ntmps52
   go_wp2_with fail
   refine(Qy.calls 20 a0 true _ (by rw[qdn,HP.out])).mono ?_
   rintro e w1 ⟨rfl,hb⟩
   go_wp2;go_ret
   exact⟨qbq (a:=false) (by simpa [Qh.f,HP.out,HL.out] using H.out),(jx (Below.refl _ _) _).trans (hb.mono (by simp))⟩
theorem qis (x:Int) (w:World):Calls Try.prog 161 #[.int .i64 x] w fun e w'=>e=.returned (.bool (x !=0))∧Drawn0 w w':=by
 go_enter Try.func161,Try.ntmps161
 go_wp2;go_ret
 exact⟨rfl,Drawn0.refl _⟩
def qc5 (l:List Int):Bool:=(l.find? (fun x=>x !=0)) == some 1
theorem qft (q:Int→Bool):∀ (l:List Int) (i:Int),0≤i→(l.find? q=none→idxOf q l i=-1)∧∀ x,l.find? q=some x→i≤idxOf q l i∧idxOf q l i < i+l.length∧l.getD (idxOf q l i - i).toNat 0=x
 | [],i,h=>by simp[idxOf]
 | y :: ys,i,h=>by
  obtain⟨h1,h2⟩:=qft q ys (i+1) (by omega)
  unfold idxOf
  cases hq:q y
  ·simp only[List.find?_cons,hq,Bool.false_eq_true,if_false]
   refine⟨h1,fun x hx=>?_⟩
   obtain⟨h3,h4,h5⟩:=h2 x hx
   refine⟨by omega,by simp only[List.length_cons];omega,?_⟩
   rw[show (idxOf q ys (i+1) - i).toNat=(idxOf q ys (i+1) - (i+1)).toNat+1 from by omega]
   simpa using h5
  ·simp[List.find?_cons,hq];omega
def Jc.f (l0:List Int):Option Bool:=some (qc5 l0)
theorem Jc.calls (A0:Option Addr) (c0:Nat) (l0:List Int) (r:Bool) (w:World) (hr0:Kd.C (Kd.int .i64) w A0 l0.length l0) (hc0:l0.length≤c0) (h:Jc.f l0=some r):
  Calls Try.prog 119 #[.slice A0 l0.length c0] w fun e w'=>e=.returned (.bool r)∧Drawn0 w w':=by
 have H:=Lib.hid h
 clear h
 have hi:=qft (fun x=>x !=0) l0 0 (by omega)
 have HC:=Lib.hid (qcb 161 #[] (fun x=>x !=0) A0 c0 l0 w hr0 (Go.Proofs.enters_of Try.func161 (by kernel_rfl) rfl) (fun x w1 _=>qis x w1))
 generalize hz:idxOf (fun x=>x !=0) l0 0=z at*
 have HI:=Lib.hid hi
 clear hi hz
 by_cases h0:0≤z
 ·have hlt:z < l0.length:=by
   cases hf:l0.find? (fun x=>x !=0) with
   | none=>have:=HI.out.1 hf;omega
   | some x=>have:=HI.out.2 x hf;omega
  obtain⟨ad,e,hx⟩:=Kd.at_int hr0 z h0 hlt
  subst e
  have h1:decide (0≤z)=true:=decide_eq_true h0
  have h2:decide (z < (l0.length:Int))=true:=decide_eq_true hlt
  go_enter Try.func119,Try.ntmps119
  go_wp2_with fail
  refine HC.out.mono ?_
  rintro e w' ⟨rfl,⟨m2,rfl⟩⟩
  go_wp2;go_ret
  refine⟨qbq (a:=rd l0 z == 1) ?_,⟨m2,rfl⟩⟩
  have hz:=HI.out
  have hr:qc5 l0=r:=by simpa [Jc.f] using H.out
  rw[← hr,qc5]
  cases hf:l0.find? (fun x=>x !=0) with
  | none=>have:=hz.1 hf;omega
  | some x=>
   obtain⟨_,_,h5⟩:=hz.2 x hf
   rw[Int.sub_zero]at h5
   simp only[rd,h5]
   rfl
 ·have h1:decide (0≤z)=false:=decide_eq_false h0
  go_enter Try.func119,Try.ntmps119
  go_wp2_with fail
  refine HC.out.mono ?_
  rintro e w' ⟨rfl,⟨m2,rfl⟩⟩
  go_wp2;go_ret
  refine⟨qbq (a:=false) ?_,⟨m2,rfl⟩⟩
  have hz:=HI.out
  have hr:qc5 l0=r:=by simpa [Jc.f] using H.out
  rw[← hr,qc5]
  cases hf:l0.find? (fun x=>x !=0) with
  | none=>rfl
  | some x=>have:=(hz.2 x hf).1;omega
def Z9.f (a0 a1_0 a1_1 a1_2:Int):Option Bool:=(Qh.f a0 [a1_0,a1_1,a1_2] 3).bind fun t=>if t=true then Jc.f [a1_0,a1_1,a1_2] else some false
theorem qgo {w:World} {b:Nat} {x y z:Int} {t:TypeId} (h:w.heap[b]? =some (.cells #[.int .i64 x,.int .i64 y,.int .i64 z] t (0,0))):Kd.C (Kd.int .i64) w (some ⟨b,0,none⟩) 3 [x,y,z]:=by
 refine Kd.C_of_reads (d:=(0:Int)) (h1:=fun _=>rfl) ⟨rfl,by omega,fun _=>⟨_,rfl,fun j hj=>?_⟩⟩
 have e:=cell_of_row w b j _ _ _ h
 rcases (show j=0∨j=1∨j=2 by omega) with rfl | rfl | rfl<;>exact e
theorem Z9.calls (a0 a1_0 a1_1 a1_2:Int) (r:Bool) (w:World) (h:Z9.f a0 a1_0 a1_1 a1_2=some r):
  Calls Try.prog 73 #[.int .i64 a0,.agg #[.int .i64 a1_0,.int .i64 a1_1,.int .i64 a1_2]] w fun e w'=>e=.returned (.bool r)∧Below w.heap.size w w':=by
 have hu43:=Try.underlying43
 have hu41:=Try.underlying41
 have HB:=am (Below.refl w.heap.size w)
 have HX:=am (qgo (w:=w.alloc (.cells #[.int .i64 a1_0,.int .i64 a1_1,.int .i64 a1_2] 43)) (heap_alloc_last w _))
 obtain⟨t,ht,h⟩:=Option.bind_eq_some_iff.1 h
 cases t with
 | false=>
  rw[if_neg (by simp)]at h
  obtain rfl:=Option.some.inj h
  have HT:=am ht
  clear ht h
  go_enter Try.func73,Try.ntmps73
  go_wp2_with fail
  refine(Qh.calls a0 (some ⟨w.heap.size,0,none⟩) 3 [a1_0,a1_1,a1_2] 3 false _ (wC HX) (Nat.le_refl _) HT.out).mono ?_
  rintro e w1 ⟨rfl,hb⟩
  replace HB:=bq HB hb
  clear hb
  go_wp2_with fail
  go_ret
  exact⟨fq,bw HB⟩
 | true=>
  rw[if_pos rfl]at h
  have HT:=am ht
  have HM:=am h
  clear ht h
  go_enter Try.func73,Try.ntmps73
  go_wp2_with fail
  refine(Qh.calls a0 (some ⟨w.heap.size,0,none⟩) 3 [a1_0,a1_1,a1_2] 3 true _ (wC HX) (Nat.le_refl _) HT.out).mono ?_
  rintro e w1 ⟨rfl,hb⟩
  replace HX:=am (Kd.C_below (wC HX) hb)
  replace HB:=bq HB hb
  clear hb
  go_wp2_with fail
  refine(Jc.calls (some ⟨w.heap.size,0,none⟩) 3 [a1_0,a1_1,a1_2] r _ (wC HX) (Nat.le_refl _) HM.out).mono ?_
  rintro e w2 ⟨rfl,⟨m,rfl⟩⟩
  go_wp2_with fail
  go_ret
  exact⟨fq,bw HB⟩
def Z1.f (a0:Int) (a1:Int):Option (Int):=if a1=0 then (none) else (some (Int.tmod (wrap64 ((Int.tmod a0 a1)+a1)) a1))
theorem Z1.calls (a0:Int) (a1:Int) (r:Int) (w:World) (h:Z1.f a0 a1=some r):
  Calls Try.prog 126 #[.int .i64 a0,.int .i64 a1] w fun e w'=>e=.returned (.int .i64 r)∧Drawn0 w w':=by
 have H:(if a1=0 then (none) else (some (Int.tmod (wrap64 ((Int.tmod a0 a1)+a1)) a1)))=some r:=h
 clear h;replace H:=ifm H;obtain⟨c3,H⟩:=H;have c3b0:=beq_eq_false_iff_ne.mpr c3;have c3b1:=bne_iff_ne.mpr c3;obtain rfl:=Option.some.inj H
 go_enter Try.func126,Try.ntmps126
 go_wp2;go_ret
 exact⟨fr,df⟩
def jh.l0 :Nat→Int→List Int→Int→List Int→Int→Int→Option (Int)
 | 0,_,_,_,_,_,_=>none
 | k+1,x0,x2,x7,x10,x11,x12=>if x12 < x11 then (if 0≤x12 then (if x12 < (x10.length:Int) then (if x12 < (x2.length:Int) then (jh.l0 k x0 x2 (wrap64 (x7+(wrap64 ((rd x10 x12)*(rd x2 x12))))) x10 x11 (wrap64 (x12+1))) else (none)) else (none)) else (none)) else ((Z1.f x7 x0).bind fun t342=>(some t342))
def jh.f (k:Nat) (a0:Int) (l1:List Int) (l2:List Int):Option (Int):=jh.l0 k a0 l2 0 l1 (l1.length:Int) 0
theorem jh.mono_l :∀ k,(∀ y0 y1 y2 y3 y4 y5,LeO (jh.l0 k y0 y1 y2 y3 y4 y5) (jh.l0 (k+1) y0 y1 y2 y3 y4 y5))
 | 0=>fun _ _ _ _ _ _ r h=>by simp[jh.l0]at h
 | k+1=>by
  have ih0:=jh.mono_l k
  ·intro y0 y1 y2 y3 y4 y5
   unfold jh.l0
   repeat' first | (with_reducible first | apply ih0 | exact LeO.refl _ | exact LeO.none _ | refine LeO.ite ?_ ?_ | refine LeO.bind ?_ (fun _=>?_)) | (first | apply ih0 | exact LeO.none _ | refine LeO.ite ?_ ?_ | refine LeO.bind ?_ (fun _=>?_))
theorem jh.mono :∀ a0 a1 a2 k,LeO (jh.f k a0 a1 a2) (jh.f (k+1) a0 a1 a2):=by
 intro a0 a1 a2 k
 have ih0:=jh.mono_l k
 unfold jh.f
 repeat' first | (with_reducible first | apply ih0 | exact LeO.refl _ | exact LeO.none _ | refine LeO.ite ?_ ?_ | refine LeO.bind ?_ (fun _=>?_)) | (first | apply ih0 | exact LeO.none _ | refine LeO.ite ?_ ?_ | refine LeO.bind ?_ (fun _=>?_))
theorem jh.calls (k:Nat) (a0:Int) (A1:Option Addr) (c1:Nat) (l1:List Int) (A2:Option Addr) (c2:Nat) (l2:List Int) (r:Int) (w:World) (hr1:Kd.C (Kd.int .i64) w A1 l1.length l1) (hc1:l1.length≤c1) (hr2:Kd.C (Kd.int .i64) w A2 l2.length l2) (hc2:l2.length≤c2) (h:jh.f k a0 l1 l2=some r):
  Calls Try.prog 81 #[.int .i64 a0,.slice A1 l1.length c1,.slice A2 l2.length c2] w fun e w'=>e=.returned (.int .i64 r)∧Drawn0 w w':=by
 have HR1:=am hr1
 have HC1:=am hc1
 clear hr1 hc1
 have HR2:=am hr2
 have HC2:=am hc2
 clear hr2 hc2
 have H:(jh.l0 k a0 l2 0 l1 (l1.length:Int) 0)=some r:=h
 clear h;have H':=am H;clear H
 go_enter Try.func81,Try.ntmps81
 go_wp2
 go_loopg [7,12] k (fun kq v7 v12 w'=>∃ (x7_1:Int) (x12_1:Int),v7=.int .i64 x7_1∧v12=.int .i64 x12_1∧qf (jh.l0 kq a0 l2 x7_1 l1 (l1.length:Int) x12_1=some r)∧qf (kq≤k)∧Drawn0 w w')
 case atStart=>exact⟨(0),(0),fr,fr,H',⟨Nat.le_refl _⟩,df⟩
 case round=>
  clear H';try clear c1;try clear c2;try clear p2
  obtain⟨x7_1,x12_1,rfl,rfl,HA,HK1,⟨m1,rfl⟩⟩:=hrel
  cases gk with
  | zero=>exact absurd HA.out (by simp[jh.l0])
  | succ k1=>
   have H:=HA.out;clear HA
   simp only[jh.l0]at H
   by_cases c4:x12_1 < (l1.length:Int)
   ·rw[if_pos c4]at H
    have c4b0:=decide_eq_true c4;clear c4;replace H:=ifn H;obtain⟨c5,H⟩:=H;have c5b0:=decide_eq_true c5;clear c5;replace H:=ifn H;obtain⟨c6,H⟩:=H;have c6b0:=decide_eq_true c6;clear c6;replace H:=ifn H;obtain⟨c7,H⟩:=H
    have c7b0:=decide_eq_true c7;clear c7;have H':=am H;clear H
    have p340:0≤(x12_1:Int):=od
    have q340:x12_1 < (l1.length:Int):=od
    obtain⟨ad340,e340,hx340_0⟩:=Kd.at_int HR1.out x12_1 p340 q340
    cases e340;replace p340:=eq_true p340;replace q340:=eq_true q340
    have p341:0≤(x12_1:Int):=od
    have q341:x12_1 < (l2.length:Int):=od
    obtain⟨ad341,e341,hx341_0⟩:=Kd.at_int HR2.out x12_1 p341 q341
    cases e341;replace p341:=eq_true p341;replace q341:=eq_true q341;go_wp2
    go_roundg k1
    case measure=>have:=HK1.out;omega
    case rel=>exact⟨(wrap64 (x7_1+(wrap64 ((rd l1 x12_1)*(rd l2 x12_1))))),(wrap64 (x12_1+1)),fr,fr,H',⟨by have:=HK1.out;omega⟩,df⟩
   ·rw[if_neg c4]at H
    have c4b0:=decide_eq_false c4;clear c4;replace H:=bs H;obtain⟨t342,A8,H⟩:=H;obtain rfl:=Option.some.inj H
    go_wp2_with (first | ((with_reducible refine qt (f:=126) rfl ?_);refine gl 28 Try.func126 #[.int .i64 x7_1,.int .i64 a0] ?_;(with_reducible refine(Z1.calls x7_1 a0 t342 _ A8.out).mono ?_);rintro e w' ⟨rfl,⟨nd,rfl⟩⟩;refine⟨_,rfl,?_⟩))
    go_ret
    exact⟨fr,df⟩
end Go.Proofs.Ytmgbpmihbljngaa.PA
