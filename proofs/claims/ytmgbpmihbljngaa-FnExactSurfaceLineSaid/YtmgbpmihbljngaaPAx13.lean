-- Written by xprint.py, a program of this claim's own (over the kit's print.py)
import Derived.Test.YtmgbpmihbljngaaPAx12
namespace Go.Proofs.Ytmgbpmihbljngaa.PA
open Go.RowKit Go.Proofs.YtmgbpmihbljngaaW.PrintWords Go.Proofs.YtmgbpmihbljngaaW.PrintLast Go.Proofs.YtmgbpmihbljngaaW.PrintMore
attribute [local go_sem] Qs Qr Qx Qw Qf Qe Qq Qp
set_option linter.unusedVariables false
set_option linter.unusedSimpArgs false
def l7V (c q:Nat):Int:=if q=c then 1 else 0
def l7Pt (six:List S43) (i:Nat):S43:=qd six (i:Int)
def l7Ra (k:Nat) (p:Int) (base:List (List Int)) (X:S43) (c:Nat):Nat→Nat→List Int→Option (List Int)
 | 0,_,acc=>some acc
 | d+1,i,acc=>if i < base.length then (ji.f k p (base.getD i []) X.f0.f0 X.f0.f1 X.f0.f2 (l7V c 0) (l7V c 1) (l7V c 2)).bind fun t=>l7Ra k p base X c d (i+1) (acc++[t]) else none
def l7Rs (k:Nat) (p:Int) (base:List (List Int)) (X:S43):Nat→Nat→List (List Int)→Option (List (List Int))
 | 0,_,acc=>some acc
 | d+1,c,acc=>(l7Ra k p base X c 4 0 []).bind fun row=>l7Rs k p base X d (c+1) (acc++[row])
theorem qgn (k:Nat) (p:Int) (base:List (List Int)) (X:S43) (c:Nat):∀ d i acc,LeO (l7Ra k p base X c d i acc) (l7Ra (k+1) p base X c d i acc)
 | 0,_,_=>LeO.refl _
 | d+1,i,acc=>by rw[l7Ra,l7Ra];exact LeO.ite (LeO.bind (ji.mono _ _ _ _ _ _ _ _ _) fun _=>qgn k p base X c d _ _) (LeO.refl _)
theorem qgt (k:Nat) (p:Int) (base:List (List Int)) (X:S43):∀ d c acc,LeO (l7Rs k p base X d c acc) (l7Rs (k+1) p base X d c acc)
 | 0,_,_=>LeO.refl _
 | d+1,c,acc=>by rw[l7Rs,l7Rs];exact LeO.bind (qgn k p base X c _ _ _) fun _=>qgt k p base X d _ _
def filO {α:Type} (t:α→Option Bool):List α→List α→Option (List α)
 | [],acc=>some acc
 | x :: xs,acc=>(t x).bind fun b=>filO t xs (if b=true then acc++[x] else acc)
theorem qgu {α:Type} {t u:α→Option Bool} (h:∀ x,LeO (t x) (u x)):∀ l acc,LeO (filO t l acc) (filO u l acc)
 | [],_=>LeO.refl _
 | x :: xs,acc=>by rw[filO,filO];exact LeO.bind (h x) fun _=>qgu h xs _
theorem qla {α:Type} {t:α→Option Bool} {l:List α} {i:Nat} {acc r:List α} (hi:i < l.length) (z:α) (h:filO t (l.drop i) acc=some r):∃ b,t (l.getD i z)=some b∧filO t (l.drop (i+1)) (if b=true then acc++[l.getD i z] else acc)=some r:=by
 have e:l.getD i z=l[i]:=by rw[List.getD_eq_getElem?_getD,List.getElem?_eq_getElem hi];rfl
 rw[List.drop_eq_getElem_cons hi,filO]at h
 rw[e]
 exact Option.bind_eq_some_iff.1 h
def l7En (M:Nat→Int) (six:List S43):Nat→Nat→List S43→Option (List S43)
 | 0,_,acc=>some acc
 | d+1,i,acc=>if M i=1 then (if i < six.length then l7En M six d (i+1) (acc++[l7Pt six i]) else none) else l7En M six d (i+1) acc
def qf6 (k:Nat) (p:Int) (six:List S43) (base:List (List Int)) (kk:Int) (all:List S43):Option (List (List Int)):=
 if kk < 6 then (if 0≤kk∧kk < six.length then l7Rs k p base (qd six kk) 3 0 [] else none)
 else if kk < 21 then (l7En (l1M kk) six 6 0 []).bind fun ends=>if 1 < ends.length then (j8.f p (l7Pt ends 0).f0.f0 (l7Pt ends 0).f0.f1 (l7Pt ends 0).f0.f2 (l7Pt ends 1).f0.f0 (l7Pt ends 1).f0.f1 (l7Pt ends 1).f0.f2).bind fun line=>(filO (fun x=>Zl.f p x.f0.f0 x.f0.f1 x.f0.f2 line) all []).bind fun pts=>z9.f k p six base pts else none
 else if kk - 20≤six.length then (zw.f k p (six.take (kk - 21).toNat++six.drop (kk - 20).toNat)).bind fun cs=>if 0 < cs.length then (filO (fun x=>(jt.f p x.f0.f0 x.f0.f1 x.f0.f2).bind fun s=>(jf.f k p (cs.getD 0 []) s).bind fun t=>some (t == 0)) all []).bind fun pts=>z9.f k p six base pts else none
 else none
def zq.f (k:Nat) (p:Int) (six:List S43) (base:List (List Int)) (kk:Int):Option (List Int):=
 if six.length≤1000 then (ze.f k p).bind fun all=>if all.length≤1000000 then (qf6 k p six base kk all).bind fun rows=>(Zh.f k p rows).bind fun o=>some o.1 else none else none
theorem qkv (k:Nat) (p:Int) (six:List S43) (base:List (List Int)) (kk:Int) (all:List S43):LeO (qf6 k p six base kk all) (qf6 (k+1) p six base kk all):=by
 unfold qf6
 refine LeO.ite (LeO.ite (qgt _ _ _ _ _ _ _) (LeO.refl _)) (LeO.ite (LeO.bind (LeO.refl _) fun _=>LeO.ite (LeO.bind (LeO.refl _) fun _=>LeO.bind (LeO.refl _) fun _=>z9.mono _ _ _ _ _) (LeO.refl _)) (LeO.ite (LeO.bind (zw.mono _ _ _) fun _=>LeO.ite (LeO.bind (qgu (fun _=>LeO.bind (LeO.refl _) fun _=>LeO.bind (jf.mono _ _ _ _) fun _=>LeO.refl _) _ _) fun _=>z9.mono _ _ _ _ _) (LeO.refl _)) (LeO.refl _)))
theorem zq.mono :∀ a0 a1 a2 a3 k,LeO (zq.f k a0 a1 a2 a3) (zq.f (k+1) a0 a1 a2 a3):=by
 intro a0 a1 a2 a3 k
 unfold zq.f
 exact LeO.ite (LeO.bind (ze.mono _ _) fun _=>LeO.ite (LeO.bind (qkv _ _ _ _ _ _) fun _=>LeO.bind (Zh.mono _ _ _) fun _=>LeO.refl _) (LeO.refl _)) (LeO.refl _)
def zq.T22 :Bool×List (List Nat×List Nat):=(true,[([],[]),([],[]),([],[]),([],[]),([2,3],[2,3]),([4],[4]),([],[]),([],[]),([6,7],[6,7]),([8],[8]),([],[]),([1,5,9,10],[1,5,9,10]),([11],[11]),([0,12,11],[0,12]),([13,13,0,1,2,3,4,5,6,7,8,9,10,11,12,13],[0,13])])
def zq.B22 :List Nat:=[0,0,0,0,12,28,0,0,192,448,0,2046,4094,8191,16383]
theorem zq.tab22 :rtab .any (Z0 Try.f88 22)=zq.T22:=by kernel_rfl
theorem zq.bits22 :Qj zq.T22.2 zq.B22=true:=by kernel_rfl
def zq.T32 :Bool×List (List Nat×List Nat):=(true,[([],[]),([],[]),([1],[1]),([2],[2]),([],[]),([4],[4]),([5],[5]),([0,3,6],[0,3,6]),([7,7,0,1,2,3,4,5,6,7],[7])])
def zq.B32 :List Nat:=[0,0,2,6,0,16,48,127,255]
theorem zq.tab32 :rtab .any (Z0 Try.f88 32)=zq.T32:=by kernel_rfl
theorem zq.bits32 :Qj zq.T32.2 zq.B32=true:=by kernel_rfl
def zq.T3 :Bool×List (List Nat×List Nat):=(true,[([],[]),([],[]),([],[]),([2],[2]),([1,3],[1,3]),([0,4],[0,4]),([],[]),([],[]),([7],[7]),([6,8],[6,8]),([5,9,5],[5,9]),([10,10,0,1,2,3,4,5,6,7,8,9,10],[10])])
def zq.B3 :List Nat:=[0,0,0,4,14,31,0,0,128,448,1023,2047]
theorem zq.tab3 :rtab .any (Z0 Try.f88 3)=zq.T3:=by kernel_rfl
theorem zq.bits3 :Qj zq.T3.2 zq.B3=true:=by kernel_rfl
theorem qd2 {w:World} {A:Option Addr} {n:Nat} {rows:List (List Int)} (h:Kd.C (Kd.slice 3 (Kd.int .i64)) w A n rows) (j:Nat) (hj:j < rows.length):∃ ad B c,A=some ad∧w.cell? (ad.add j)=some (.slice B (rows.getD j []).length c)∧(rows.getD j []).length≤c∧Kd.C (Kd.int .i64) w B (rows.getD j []).length (rows.getD j []):=by
 obtain⟨hl,hm,hr⟩:=h
 obtain⟨ad,rfl,hc⟩:=hr (by omega)
 obtain⟨cs,_,⟨B,c,rfl,h1,h2⟩,hcell⟩:=hc j _ (List.getElem?_eq_getElem hj)
 have e:rows.getD j []=rows[j]:=by rw[List.getD_eq_getElem?_getD,List.getElem?_eq_getElem hj];rfl
 rw[e]
 refine⟨ad,B,c,rfl,?_,h1,h2⟩
 have:=hcell 0 (.slice B (rows[j]).length c) rfl
 simpa [Kd.slice] using this
theorem qep {i d n:Nat} (h:i+(d+1)=n):n - (((i+1:Nat):Int)).toNat < n - ((i:Int)).toNat:=by omega
theorem qdh {i n:Nat} (h:i < n):n - (((i+1:Nat):Int)).toNat < n - ((i:Int)).toNat:=by omega
theorem qp4 {α:Type} {d:Kd α} {w:World} {A:Option Addr} {xs:List α} (h:Kd.C d w A xs.length xs) {m:Nat} (hm:m≤xs.length):Kd.C d w A m (xs.take m):=by
 obtain⟨h0,h1,h2⟩:=h
 refine⟨by rw[List.length_take];omega,by omega,fun hp=>?_⟩
 obtain⟨ad,e,hc⟩:=h2 (by omega)
 refine⟨ad,e,fun j p hj=>hc j p ?_⟩
 rw[List.getElem?_take]at hj
 split at hj
 ·exact hj
 ·cases hj
theorem qqy {α:Type} {d:Kd α} {w:World} {A:Option Addr} {xs:List α} (h:Kd.C d w A xs.length xs) {c:Nat} (hl:xs.length≤c) {m:Nat} (hm:m≤xs.length):Kd.C d w (if c=m then A else A.map fun x=>x.add (m*d.sz)) (xs.length - m) (xs.drop m):=by
 obtain⟨h0,h1,h2⟩:=h
 refine⟨by rw[List.length_drop],by omega,fun hp=>?_⟩
 obtain⟨ad,e,hc⟩:=h2 (by omega)
 rw[if_neg (by omega),e]
 refine⟨_,rfl,fun j p hj=>?_⟩
 rw[List.getElem?_drop]at hj
 obtain⟨cs,hs,hk,hcell⟩:=hc (m+j) p hj
 refine⟨cs,hs,hk,fun i u hu=>?_⟩
 rw[qqh,← Nat.add_assoc,← Nat.add_mul]
 exact hcell i u hu
theorem qo1 {w:World} {g:Nat} {t:TypeId} (h:w.heap[g]? =some (.cells #[.int .i64 0,.int .i64 0,.int .i64 0] t (0,0))) {j:Nat} (hj:j < 3):w.cell? ⟨g,j,none⟩=some (.int .i64 0):=by
 rcases (show j=0∨j=1∨j=2 by omega) with rfl | rfl | rfl<;>exact qe h _
set_option maxHeartbeats 8000000 in
set_option maxRecDepth 100000 in
theorem zq.calls (k:Nat) (a0:Int) (A1:Option Addr) (c1:Nat) (l1:List S43) (A2:Option Addr) (c2:Nat) (l2:List (List Int)) (a3:Int) (r:List Int) (w:World) (hr1:Kd.C k43 w A1 l1.length l1) (hc1:l1.length≤c1) (hr2:Kd.C (Kd.slice 3 (Kd.int .i64)) w A2 l2.length l2) (hc2:l2.length≤c2) (h:zq.f k a0 l1 l2 a3=some r):
  Calls Try.prog 88 #[.int .i64 a0,.slice A1 l1.length c1,.slice A2 l2.length c2,.int .i64 a3] w fun e w'=>∃ v0_:Value,e=.returned (v0_)∧Kd.R (Kd.int .i64) 3 w' w.heap.size (fun _=>True) v0_ r∧Below w.heap.size w w':=by
 have hu43:=Try.underlying43
 have hu41:=Try.underlying41
 have hu34:=Try.underlying34
 have hu47:=Try.underlying47
 have hu23:=Try.underlying23
 have hu121:=Try.underlying121
 have hu119:=Try.underlying119
 have HR1:=am hr1
 have HC1:=am hc1
 have HR2:=am hr2
 have HC2:=am hc2
 have HB:=am (Below.refl w.heap.size w)
 unfold zq.f at h
 by_cases hs:l1.length≤1000
 rotate_left
 ·rw[if_neg hs]at h;cases h
 rw[if_pos hs]at h
 obtain⟨all,hall,h2⟩:=Option.bind_eq_some_iff.1 h
 clear h
 by_cases ha:all.length≤1000000
 rotate_left
 ·rw[if_neg ha]at h2;cases h2
 rw[if_pos ha]at h2
 obtain⟨rows,hrows,h3⟩:=Option.bind_eq_some_iff.1 h2
 clear h2
 obtain⟨⟨o1,o2⟩,ho,h4⟩:=Option.bind_eq_some_iff.1 h3
 clear h3
 have hr:o1=r:=Option.some.inj h4
 subst hr
 have HS:=am hs
 have HALL:=am hall
 have HAL:=am ha
 have HROWS:=am hrows
 have HOF:=am ho
 clear hr1 hc1 hr2 hc2 hs hall ha hrows ho h4
 go_enter Try.func88,Try.ntmps88
 go_wp2_with (first
  | ((with_reducible refine zb (N:=27) rfl ?_);refine Kd.R_lit (Kd.slice 3 (Kd.int .i64)) _ 23 ?hg (N:=27) ?hd (xs:=([]:List (List Int))) (inner:=[]) (ok:=fun _=>True) (okp:=fun _=>True) ?hr ?hp (fun _ hk=>hk) trivial (Below.refl _ _) (Nat.le_refl _) (by simp) ?_;(case hd=>rfl);(case hg=>rfl);(case hr=>first | (go_simp;done) | (go_simp;rfl));(case hp=>exact(Reps.none _ _));intro v9 w1 ho9 hb9 hg9 hnew9)
  | fail)
 refine(ze.calls k a0 all _ HALL.out).mono ?_
 rintro e w2 ⟨u10,rfl,hv,hb⟩
 obtain⟨AL,cL,e1⟩:=Kd.R_slice hv
 subst e1
 have HO9:=am (Kd.R_below ho9 hb)
 have HLA:=am (Kd.R_reads' hv).2.2
 have HLC:=am (Kd.R_reads' hv).2.1
 replace HB:=bq HB hb9
 replace HB:=bq HB hb
 clear hv hb ho9 hb9 hg9 hnew9
 have hrow:=HROWS.out
 unfold qf6 at hrow
 clear HROWS
 by_cases c6:a3 < 6
 ·rw [if_pos c6] at hrow
  by_cases ck:0≤a3∧a3 < l1.length
  rotate_left
  ·rw[if_neg ck]at hrow;cases hrow
  rw[if_pos ck]at hrow
  have HROW:=am hrow
  have d6:decide (a3 < 6)=true:=decide_eq_true c6
  obtain⟨adX,eX,x0,x1,x2⟩:=Qo HR1.out a3 ck.1 ck.2
  subst eX
  have X0:=am x0
  have X1:=am x1
  have X2:=am x2
  have HCK:=am ck
  clear hrow c6 ck x0 x1 x2
  generalize qd l1 a3=X at X0 X1 X2 HROW
  go_wp2
  go_loopw [9,11] (fun v9 v11 w'=>∃ (d c:Nat) (acc:List (List Int)),v11=.int .i64 (c:Int)∧qf (c+d=3)∧qf (acc.length=c)∧qf (l7Rs k a0 l2 X d c acc=some rows)∧qf (Kd.R (Kd.slice 3 (Kd.int .i64)) 23 w' w.heap.size (fun _=>True) v9 acc)∧qf (Below w.heap.size w w')) (fun _ v11 _=>3 - (intOf v11).toNat)
  case atStart=>exact⟨3,0,[],rfl,⟨by omega⟩,⟨rfl⟩,HROW,⟨wR HO9⟩,⟨bw HB⟩⟩
  case round=>
   clear HROW HO9 HB
   obtain⟨d,c,acc,rfl,HD,HAC,HROW,HO9,HB⟩:=hrel
   cases d with
   | zero=>
    have hlt:decide ((c:Int) < 3)=false:=decide_eq_false (by have:=HD.out;omega)
    have hr:=HROW.out
    rw[l7Rs]at hr
    obtain rfl:=Option.some.inj hr
    clear hr
    obtain⟨A9,c9,e9⟩:=Kd.R_slice HO9.out
    subst e9
    go_wp2_with fail
    refine(Zh.calls k a0 A9 c9 acc o1 o2 _ (Kd.R_reads' HO9.out).2.2 (Kd.R_reads' HO9.out).2.1 HOF.out).mono ?_
    rintro e w5 ⟨v5,rfl,hv5,hb5⟩
    have HB5:=bq HB hb5
    have HV5:=am (Kd.R_lower hv5 (bz HB))
    clear hv5 hb5
    go_wp2_with fail
    go_ret
    exact⟨_,fq,wR HV5,bw HB5⟩
   | succ d=>
    have hlt:decide ((c:Int) < 3)=true:=decide_eq_true (by have:=HD.out;omega)
    obtain⟨row,hrow,hn⟩:=Option.bind_eq_some_iff.1 (show _=some rows by have:=HROW.out;rwa [l7Rs]at this)
    have HR:=am hrow
    have HN:=am hn
    clear hrow hn HROW
    go_upto_region 17 with fail
    have hc3:c < 3:=by have:=HD.out;omega
    have hg:=heap_alloc_last wr (.cells #[.int .i64 0,.int .i64 0,.int .i64 0] 41)
    have yv:=qo1 hg hc3
    have fz:=ql hg c
    have pc:(0≤(c:Int))=True:=eq_true (by omega)
    have qc:((c:Int) < 3)=True:=eq_true (by omega)
    have ec:(([.int .i64 0,.int .i64 0,.int .i64 0]:List Value).set c (.int .i64 1)).toArray=#[.int .i64 (l7V c 0),.int .i64 (l7V c 1),.int .i64 (l7V c 2)]:=by
     rcases (show c=0∨c=1∨c=2 by omega) with rfl | rfl | rfl<;>rfl
    have hbw:Below wr.heap.size wr (wr.alloc (.cells #[.int .i64 (l7V c 0),.int .i64 (l7V c 1),.int .i64 (l7V c 2)] 41)):=jx (Below.refl _ _) _
    have HG:=am (heap_alloc_last wr (.cells #[.int .i64 (l7V c 0),.int .i64 (l7V c 1),.int .i64 (l7V c 2)] 41))
    have HO9b:=am (Kd.R_mono (Kd.R_bound (Kd.R_below HO9.out hbw)) (fun k h=>h.2.2.1))
    have HB4:=bq HB hbw
    have HC3:=am hc3
    have EC:=am ec
    clear hg hbw hc3 HO9 HB ec
    go_upto_region 18 with fail
    rw[EC.out]
    clear yv fz pc qc EC
    generalize wr.alloc (.cells #[.int .i64 (l7V c 0),.int .i64 (l7V c 1),.int .i64 (l7V c 2)] 41)=w4 at HG HO9b HB4 ⊢
    generalize wr.heap.size=gV at HG ⊢
    have HW4:=am (Below.refl w4.heap.size w4)
    go_wp2_with (first
     | ((with_reducible refine zb (N:=85) rfl ?_);refine Kd.R_lit (Kd.int .i64) _ 3 ?hg (N:=85) ?hd (xs:=([]:List Int)) (inner:=[]) (ok:=fun _=>True) (okp:=fun _=>True) ?hr ?hp (fun _ hk=>hk) trivial (Below.refl _ _) (Nat.le_refl _) (by simp) ?_;(case hd=>rfl);(case hg=>rfl);(case hr=>first | (go_simp;done) | (go_simp;rfl));(case hp=>exact(Reps.none _ _));intro v13 w5 ho13 hb5 hg5 hnew5)
     | go_in)
    have HR13:=am (Kd.R_lower ho13 (bz HW4))
    have HW5:=bq HW4 hb5
    clear ho13 hb5 hg5 hnew5 hlt
    go_loopw [13,14] (fun v13 v14 w'=>∃ (d2 i:Nat) (ra:List Int),v14=.int .i64 (i:Int)∧qf (i+d2=4)∧qf (ra.length=i)∧qf (l7Ra k a0 l2 X c d2 i ra=some row)∧qf (Kd.R (Kd.int .i64) 3 w' w4.heap.size (fun _=>True) v13 ra)∧qf (Below w4.heap.size w4 w')) (fun _ v14 _=>4 - (intOf v14).toNat)
    case atStart=>exact⟨4,0,[],rfl,⟨by omega⟩,⟨rfl⟩,HR,⟨wR HR13⟩,⟨bw HW5⟩⟩
    case round=>
     clear HR HR13 HW5 HW4
     obtain⟨d2,i,ra,rfl,HD2,HRL,HR,HR13,HW5⟩:=hrel
     cases d2 with
     | zero=>
      have hlt2:decide ((i:Int) < 4)=false:=decide_eq_false (by have:=HD2.out;omega)
      have hr:=HR.out
      rw[l7Ra]at hr
      obtain rfl:=Option.some.inj hr
      clear hr
      have h4:4=i:=HD2.out.symm
      subst h4
      obtain⟨gr,capr,rfl,hgr,_,_⟩:=Kd.R_form HR13.out (by have:=HRL.out;omega)
      have HGR:=am hgr
      rw[HRL.out]at HR13 ⊢
      have HR14:=am (Kd.R_lower HR13.out (bz HB4))
      have HO10:=am (Kd.R_below HO9b.out HW5.out)
      have HB10:=bq HB4 HW5.out
      clear hgr HR13 HO9b HB4 HW5
      go_upto_region 23 with fail
      iterate 10 go_step
      refine Kd.R_append (Kd.slice 3 (Kd.int .i64)) (w0:=w) w.heap.size rfl (.tmp 104) (.tmp 106) 47 23 (.slice none 0 0) 24 rfl hu47 Zu rfl (by decide) (by omega) u9 acc ra [.slice (some ⟨gr,0,none⟩) 4 capr] (fun _=>True) (fun k=>some k=(Value.slice (some ⟨gr,0,none⟩) 4 capr).ownBlock) rfl rfl ?aP (fun k hk=>⟨trivial,fun e=>by have h1:=HO10.out.1 k e.symm;have h2:k=gr:=Option.some.inj hk;have:=HGR.out;omega⟩) ?aF ?aO ?aB ?aS ?aL ?_
      (case aP=>exact⟨_,rfl,fun k hk=>hk.symm,HR14.out.2⟩)
      (case aB=>exact HB10.out)
      (case aF=>exact(fun _ _=>trivial))
      (case aO=>exact Kd.R_mono HO10.out (fun _ _=>trivial))
      (case aS=>exact HB10.out.size)
      (case aL=>have:=HAC.out;have:=HD.out;omega)
      intro v9' w9 ho9 hb9 hg9 hn9
      have hw1:wrap64 ((c:Int)+1)=((c+1:Nat):Int):=by have:=HD.out;unfold wrap64;omega
      try go_wp2
      refine⟨?rel,?measure⟩
      case measure=>rw[hw1];exact qep HD.out
      case rel=>exact⟨d,c+1,acc++[ra],by rw[hw1],⟨by have:=HD.out;omega⟩,⟨by rw[List.length_append,HAC.out];rfl⟩,HN,⟨ho9⟩,⟨hb9⟩⟩
     | succ d2=>
      have hlt2:decide ((i:Int) < 4)=true:=decide_eq_true (by have:=HD2.out;omega)
      have h2:=HR.out
      rw[l7Ra]at h2
      by_cases hi:i < l2.length
      rotate_left
      ·rw[if_neg hi]at h2;cases h2
      rw[if_pos hi]at h2
      obtain⟨t,ht,hn⟩:=Option.bind_eq_some_iff.1 h2
      have HI:=am hi
      have HT:=am ht
      have HN2:=am hn
      clear h2 hi ht hn HR
      go_upto_region 22 with fail
      obtain⟨adB,B,cB,eB,b0,hB2,hB3⟩:=qd2 HR2.out i HI.out
      subst eB
      obtain⟨bi,hbi⟩:∃ b,l2.getD i []=b:=⟨_,rfl⟩
      rw[hbi]at b0 hB2 hB3 HT
      clear hbi
      have HBW:=bq HB4 HW5.out
      have b1:=wcl HBW b0
      have y0:=wcl HBW X0.out
      have y1:=wcl HBW X1.out
      have y2:=wcl HBW X2.out
      have hgv:=(HW5.out.block gV (jy HG.out)).trans HG.out
      have v0:wr.cell? ⟨gV,0,none⟩=some (.int .i64 (l7V c 0)):=(qe hgv 0).trans rfl
      have v1:wr.cell? ⟨gV,1,none⟩=some (.int .i64 (l7V c 1)):=(qe hgv 1).trans rfl
      have v2:wr.cell? ⟨gV,2,none⟩=some (.int .i64 (l7V c 2)):=(qe hgv 2).trans rfl
      have HB3:=am hB3
      have HB2:=am hB2
      have HVC:=am (Kd.C_below hB3 HBW.out)
      clear b0 hgv hB2 hB3
      have pi:(0≤(i:Int))=True:=eq_true (by omega)
      have qi:(i < l2.length)=True:=eq_true HI.out
      have p3:(0≤a3)=True:=eq_true HCK.out.1
      have q3:(a3 < l1.length)=True:=eq_true HCK.out.2
      have hS:(fun w':World=>w'.cell? (adB.add i)=some (.slice B bi.length cB)∧w'.cell? (adX.add (a3.toNat*3))=some (.int .i64 X.f0.f0)∧w'.cell? ⟨(adX.add (a3.toNat*3)).block,(adX.add (a3.toNat*3)).off+1,none⟩=some (.int .i64 X.f0.f1)∧w'.cell? ⟨(adX.add (a3.toNat*3)).block,(adX.add (a3.toNat*3)).off+2,none⟩=some (.int .i64 X.f0.f2)∧w'.cell? ⟨gV,0,none⟩=some (.int .i64 (l7V c 0))∧w'.cell? ⟨gV,1,none⟩=some (.int .i64 (l7V c 1))∧w'.cell? ⟨gV,2,none⟩=some (.int .i64 (l7V c 2))) wr.drew:=⟨b1,y0,y1,y2,v0,v1,v2⟩
      clear b1 y0 y1 y2 v0 v1 v2
      refine st 15 (fun w':World=>w'.cell? (adB.add i)=some (.slice B bi.length cB)∧w'.cell? (adX.add (a3.toNat*3))=some (.int .i64 X.f0.f0)∧w'.cell? ⟨(adX.add (a3.toNat*3)).block,(adX.add (a3.toNat*3)).off+1,none⟩=some (.int .i64 X.f0.f1)∧w'.cell? ⟨(adX.add (a3.toNat*3)).block,(adX.add (a3.toNat*3)).off+2,none⟩=some (.int .i64 X.f0.f2)∧w'.cell? ⟨gV,0,none⟩=some (.int .i64 (l7V c 0))∧w'.cell? ⟨gV,1,none⟩=some (.int .i64 (l7V c 1))∧w'.cell? ⟨gV,2,none⟩=some (.int .i64 (l7V c 2))) [11,12,13] zq.tab22 zq.bits22 hS fun hHeld HT_ HW_=>?_
      clear hS
      refine pz 0 90 HT_ ?_;refine pz 1 91 HT_ ?_;refine pz 2 92 HT_ ?_;refine pz 3 93 HT_ ?_;refine pz 4 94 HT_ ?_
      refine tk 5 95 HT_ HW_ hHeld ?_;refine pz 6 96 HT_ ?_;refine pz 7 97 HT_ ?_;refine pz 8 98 HT_ ?_;refine tk 9 99 HT_ HW_ hHeld ?_;refine tk 10 100 HT_ HW_ hHeld ?_;clear hHeld
      refine la 11 (some 101) HT_ fun K hK=>?_
      refine gs_ Try.func128 #[.int .i64 a0,.slice B bi.length cB,.agg #[.int .i64 X.f0.f0,.int .i64 X.f0.f1,.int .i64 X.f0.f2],.agg #[.int .i64 (l7V c 0),.int .i64 (l7V c 1),.int .i64 (l7V c 2)]] ?_
      refine(ji.calls k a0 B cB bi X.f0.f0 X.f0.f1 X.f0.f2 (l7V c 0) (l7V c 1) (l7V c 2) t _ (Kd.C_below (w:=wr) HVC.out gs) HB2.out HT.out).mono ?_
      rintro e w6 ⟨rfl,hb6⟩
      have HW6:=bq HW5 hb6
      have HR6:=am (Kd.R_below (wR HR13 (W':=wr.drew)) hb6)
      clear hb6
      refine⟨_,rfl,?_⟩
      refine hK.out _ _ (nz ?_)
      clear hK K
      refine la 12 (some 102) HT_ fun K hK=>?_
      refine qbm (w1:=?_) (v:=?_) (by rfl) rfl ?_ ?_
      rotate_left 2
      ·go_simp
       constructor
       ·rfl
       ·rfl
      refine hK.out _ _ (nz ?_)
      clear hK K
      refine la 13 (some 103) HT_ fun K hK=>?_
      refine Kd.R_append_step (Kd.int .i64) (w0:=w4) w4.heap.size (by rfl) (.tmp 90) (.tmp 102) 23 3 (.int .i64 0) 8 rfl hu23 Jm rfl (by decide) (by omega) u13 ra t [.int .i64 t] (fun _=>True) (fun _=>False) rfl rfl ?aP (fun _ hk=>hk.elim) ?aF ?aO ?aB ?aS ?aL ?_
      (case aP=>rfl)
      (case aB=>exact HW6.out)
      (case aF=>exact(fun _ _=>trivial))
      (case aO=>exact HR6.out)
      (case aS=>exact HW6.out.size)
      (case aL=>have:=HRL.out;have:=HD2.out;omega)
      intro v9' w9 ho9 hb9 hg9 hn9
      refine hK.out _ _ (nz ?_)
      clear hK K;refine pz 14 13 HT_ ?_
      refine Q3 (Qa HT_.out (by kernel_rfl)) ?_
      clear HT_ HW_
      have hw1:wrap64 ((i:Int)+1)=((i+1:Nat):Int):=by have:=HD2.out;unfold wrap64;omega
      try go_wp2
      go_roundw
      case measure=>rw[hw1];exact qep HD2.out
      case rel=>exact⟨d2,i+1,ra++[t],by rw[hw1],⟨by have:=HD2.out;omega⟩,⟨by rw[List.length_append,HRL.out];rfl⟩,HN2,⟨Kd.R_below ho9 gs⟩,⟨bw (am hb9)⟩⟩
 ·rw [if_neg c6] at hrow
  have d6:decide (a3 < 6)=false:=decide_eq_false c6
  by_cases c21:a3 < 21
  ·rw [if_pos c21] at hrow
   have d21:decide (a3 < 21)=true:=decide_eq_true c21
   obtain⟨ends,hends,hr2⟩:=Option.bind_eq_some_iff.1 hrow
   by_cases he:1 < ends.length
   rotate_left
   ·rw[if_neg he]at hr2;cases hr2
   rw[if_pos he]at hr2
   obtain⟨line,hline,hr3⟩:=Option.bind_eq_some_iff.1 hr2
   obtain⟨pts,hpts,hcurve⟩:=Option.bind_eq_some_iff.1 hr3
   have hk:6≤a3∧a3 < 21:=⟨by omega,c21⟩
   have HENDS:=am hends
   have HE:=am he
   have HLINE:=am hline
   have HPTS:=am hpts
   have HCURVE:=am hcurve
   clear hrow hr2 hr3 hends he hline hpts hcurve c6 c21 HO9
   go_wp2_with fail
   refine(qb9.calls a3 1 (l1M a3 0) (l1M a3 1) (l1M a3 2) (l1M a3 3) (l1M a3 4) (l1M a3 5) _ (if_pos hk)).mono ?_
   rintro e w3 ⟨rfl,hb3⟩
   have HB3:=bq HB hb3
   have HLA3:=am (Kd.C_below HLA.out hb3)
   clear hb3 HB HLA hk
   go_upto_region 26 with fail
   have HG:=am (heap_alloc_last w3 (.cells #[.int .i64 1,.int .i64 (l1M a3 0),.int .i64 (l1M a3 1),.int .i64 (l1M a3 2),.int .i64 (l1M a3 3),.int .i64 (l1M a3 4),.int .i64 (l1M a3 5)] 121))
   have hbw:Below w3.heap.size w3 (w3.alloc (.cells #[.int .i64 1,.int .i64 (l1M a3 0),.int .i64 (l1M a3 1),.int .i64 (l1M a3 2),.int .i64 (l1M a3 3),.int .i64 (l1M a3 4),.int .i64 (l1M a3 5)] 121)):=jx (Below.refl _ _) _
   have HB4:=bq HB3 hbw
   have HLA4:=am (Kd.C_below HLA3.out hbw)
   clear hbw HLA3 HB3
   generalize w3.alloc (.cells #[.int .i64 1,.int .i64 (l1M a3 0),.int .i64 (l1M a3 1),.int .i64 (l1M a3 2),.int .i64 (l1M a3 3),.int .i64 (l1M a3 4),.int .i64 (l1M a3 5)] 121)=w4 at HG HB4 HLA4 ⊢
   generalize w3.heap.size=gB at HG ⊢
   have HW4:=am (Below.refl w4.heap.size w4)
   go_wp2_with (first
    | ((with_reducible refine zb (N:=113) rfl ?_);refine Kd.R_lit k43 _ 43 ?hg (N:=113) ?hd (xs:=([]:List S43)) (inner:=[]) (ok:=fun _=>True) (okp:=fun _=>True) ?hr ?hp (fun _ hk=>hk) trivial (Below.refl _ _) (Nat.le_refl _) (by simp) ?_;(case hd=>rfl);(case hg=>rfl);(case hr=>first | (go_simp;done) | (go_simp;rfl));(case hp=>exact(Reps.none _ _));intro v16 w5 ho16 hb5 hg5 hnew5)
    | go_in)
   have HR16:=am (Kd.R_lower ho16 (bz HW4))
   have HW5:=bq HW4 hb5
   clear ho16 hb5 hg5 hnew5
   go_loopw [16,17] (fun v16 v17 w'=>∃ (d i:Nat) (acc:List S43),v17=.int .i64 (i:Int)∧qf (i+d=6)∧qf (acc.length≤i)∧qf (l7En (l1M a3) l1 d i acc=some ends)∧qf (Kd.R k43 43 w' w4.heap.size (fun _=>True) v16 acc)∧qf (Below w4.heap.size w4 w')) (fun _ v17 _=>6 - (intOf v17).toNat)
   case atStart=>exact⟨6,0,[],rfl,⟨rfl⟩,⟨Nat.le_refl _⟩,HENDS,⟨wR HR16⟩,⟨bw HW5⟩⟩
   case round=>
    clear HENDS HR16 HW5 HW4
    obtain⟨d,i,acc,rfl,HD,HAC,HEN,HR16,HW5⟩:=hrel
    cases d with
    | zero=>
     have hlt:decide ((i:Int) < 6)=false:=decide_eq_false (by have:=HD.out;omega)
     have hr:=HEN.out
     rw[l7En]at hr
     obtain rfl:=Option.some.inj hr
     clear hr
     obtain⟨g16,c16,rfl,_,_,_⟩:=Kd.R_form HR16.out (by have:=HE.out;omega)
     have HC16:=am (Kd.R_reads' HR16.out).2.2
     have HL16:=am (Kd.R_reads' HR16.out).2.1
     obtain⟨ad,e1,x0,x1,x2⟩:=Qo HC16.out 0 (by omega) (by have:=HE.out;omega)
     obtain rfl:=Option.some.inj e1
     obtain⟨ad,e2,x3,x4,x5⟩:=Qo HC16.out 1 (by omega) (by have:=HE.out;omega)
     obtain rfl:=Option.some.inj e2
     have HB5:=bq HB4 HW5.out
     have HLA5:=am (Kd.C_below HLA4.out HW5.out)
     clear e1 e2 HB4 HLA4 HW5 HG HR16
     generalize hX0:qd acc 0=X0 at x0 x1 x2
     generalize hX1:qd acc 1=X1 at x3 x4 x5
     have HX:=am (show j8.f a0 X0.f0.f0 X0.f0.f1 X0.f0.f2 X1.f0.f0 X1.f0.f1 X1.f0.f2=some line by rw[← hX0,← hX1];exact HLINE.out)
     have p0:(0 < acc.length)=True:=eq_true (by have:=HE.out;omega)
     have p1:((1:Int) < (acc.length:Int))=True:=eq_true (by have:=HE.out;omega)
     clear hX0 hX1 HLINE HE
     go_upto_region 32 with fail
     have hS:(fun w':World=>w'.cell? (⟨g16,0,none⟩:Addr)=some (.int .i64 X0.f0.f0)∧w'.cell? (⟨g16,1,none⟩:Addr)=some (.int .i64 X0.f0.f1)∧w'.cell? (⟨g16,2,none⟩:Addr)=some (.int .i64 X0.f0.f2)∧w'.cell? (⟨g16,3,none⟩:Addr)=some (.int .i64 X1.f0.f0)∧w'.cell? (⟨g16,4,none⟩:Addr)=some (.int .i64 X1.f0.f1)∧w'.cell? (⟨g16,5,none⟩:Addr)=some (.int .i64 X1.f0.f2)) wr.drew:=⟨x0,x1,x2,x3,x4,x5⟩
     clear x0 x1 x2 x3 x4 x5
     refine st 9 (fun w':World=>w'.cell? (⟨g16,0,none⟩:Addr)=some (.int .i64 X0.f0.f0)∧w'.cell? (⟨g16,1,none⟩:Addr)=some (.int .i64 X0.f0.f1)∧w'.cell? (⟨g16,2,none⟩:Addr)=some (.int .i64 X0.f0.f2)∧w'.cell? (⟨g16,3,none⟩:Addr)=some (.int .i64 X1.f0.f0)∧w'.cell? (⟨g16,4,none⟩:Addr)=some (.int .i64 X1.f0.f1)∧w'.cell? (⟨g16,5,none⟩:Addr)=some (.int .i64 X1.f0.f2)) [7] zq.tab32 zq.bits32 hS fun hHeld HT_ HW_=>?_
     clear hS;refine pz 0 130 HT_ ?_;refine pz 1 131 HT_ ?_;refine pz 2 132 HT_ ?_;refine tk 3 133 HT_ HW_ hHeld ?_;refine pz 4 134 HT_ ?_;refine pz 5 135 HT_ ?_;refine tk 6 136 HT_ HW_ hHeld ?_;clear hHeld
     refine la 7 (some 137) HT_ fun K hK=>?_
     refine gs_ Try.func130 #[.int .i64 a0,.agg #[.int .i64 X0.f0.f0,.int .i64 X0.f0.f1,.int .i64 X0.f0.f2],.agg #[.int .i64 X1.f0.f0,.int .i64 X1.f0.f1,.int .i64 X1.f0.f2]] ?_
     refine(j8.calls a0 X0.f0.f0 X0.f0.f1 X0.f0.f2 X1.f0.f0 X1.f0.f1 X1.f0.f2 line _ HX.out).mono ?_
     rintro e w6 ⟨v6,rfl,hv6,hb6⟩
     obtain⟨AV,cV,e6⟩:=Kd.R_slice hv6
     subst e6
     have HCV:=am (Kd.R_reads' hv6).2.2
     have HVL:=am (Kd.R_reads' hv6).2.1
     have HB6:=bq HB5 hb6
     have HLA6:=am (Kd.C_below (wC HLA5 (W':=wr.drew)) hb6)
     clear hv6 hb6 HB5 HLA5
     refine⟨_,rfl,?_⟩
     refine hK.out _ _ (nz ?_)
     clear hK K;refine pz 8 18 HT_ ?_
     refine Q3 (Qa HT_.out (by kernel_rfl)) ?_
     clear HT_ HW_ p0 p1 HX HC16 HL16
     have HW6:=am (Below.refl w6.heap.size w6)
     go_wp2_with (first
      | ((with_reducible refine zb (N:=138) rfl ?_);refine Kd.R_lit k43 _ 43 ?hg (N:=138) ?hd (xs:=([]:List S43)) (inner:=[]) (ok:=fun _=>True) (okp:=fun _=>True) ?hr ?hp (fun _ hk=>hk) trivial (Below.refl _ _) (Nat.le_refl _) (by simp) ?_;(case hd=>rfl);(case hg=>rfl);(case hr=>first | (go_simp;done) | (go_simp;rfl));(case hp=>exact(Reps.none _ _));intro v19 w7 ho19 hb7 hg7 hnew7)
      | go_in)
     have HR19:=am (Kd.R_lower ho19 (bz HW6))
     have HW7:=bq HW6 hb7
     clear ho19 hb7 hg7 hnew7
     go_loopw [19,20] (fun v19 v20 w'=>∃ (i:Nat) (acc:List S43),v20=.int .i64 (i:Int)∧qf (i≤all.length)∧qf (acc.length≤i)∧qf (filO (fun x=>Zl.f a0 x.f0.f0 x.f0.f1 x.f0.f2 line) (all.drop i) acc=some pts)∧qf (Kd.R k43 43 w' w6.heap.size (fun _=>True) v19 acc)∧qf (Below w6.heap.size w6 w')) (fun _ v20 _=>all.length - (intOf v20).toNat)
     case atStart=>exact⟨0,[],rfl,⟨Nat.zero_le _⟩,⟨Nat.le_refl _⟩,HPTS,⟨wR HR19⟩,⟨bw HW7⟩⟩
     case round=>
      clear HPTS HR19 HW7 HW6
      obtain⟨i,acc,rfl,HI,HAC,HF,HR19,HW7⟩:=hrel
      by_cases hi:i < all.length
      rotate_left
      ·have hlt:decide ((i:Int) < (all.length:Int))=false:=decide_eq_false (by omega)
       have ni:(i < all.length)=False:=eq_false hi
       have hr:=HF.out
       rw[List.drop_eq_nil_of_le (by omega),filO]at hr
       obtain rfl:=Option.some.inj hr
       clear hr hi
       obtain⟨A19,c19,e19⟩:=Kd.R_slice HR19.out
       subst e19
       have HC19:=am (Kd.R_reads' HR19.out).2.2
       have HL19:=am (Kd.R_reads' HR19.out).2.1
       have HB7:=bq HB6 HW7.out
       clear HB6 HW7 HR19
       go_wp2_with fail
       refine(z9.calls k a0 A1 c1 l1 A2 c2 l2 A19 c19 acc rows _ (Kd.C_below HR1.out HB7.out) HC1.out (Kd.C_below HR2.out HB7.out) HC2.out HC19.out HL19.out HCURVE.out).mono ?_
       rintro e w8 ⟨v8,rfl,hv8,hb8⟩
       have HB8:=bq HB7 hb8
       obtain⟨A9,c9,e9⟩:=Kd.R_slice (Kd.S_R hv8)
       subst e9
       have HC9:=am (Kd.S_reads' hv8).2.2
       have HL9:=am (Kd.S_reads' hv8).2.1
       clear hv8 hb8 HB7
       go_wp2_with fail
       refine(Zh.calls k a0 A9 c9 rows o1 o2 _ HC9.out HL9.out HOF.out).mono ?_
       rintro e w9 ⟨v5,rfl,hv5,hb5⟩
       have HB9:=bq HB8 hb5
       have HV5:=am (Kd.R_lower hv5 (bz HB8))
       clear hv5 hb5
       go_wp2_with fail
       go_ret
       exact⟨_,fq,wR HV5,bw HB9⟩
      ·have hlt:decide ((i:Int) < (all.length:Int))=true:=decide_eq_true (by omega)
       obtain⟨b,hb,hn⟩:=qla hi z43 HF.out
       obtain⟨adL,eL,x0,x1,x2⟩:=Qo (Kd.C_below HLA6.out HW7.out) (i:Int) (by omega) (by omega)
       subst eL
       have HBT:=am hb
       have HN:=am hn
       rw[Int.toNat_natCast]at x0 x1 x2
       have pi:(0≤(i:Int))=True:=eq_true (by omega)
       have qi:((i:Int) < all.length)=True:=eq_true (by omega)
       have qi2:(i < all.length)=True:=eq_true hi
       have HI2:=am hi
       clear hb hn hi
       generalize hX:qd all (i:Int)=X at x0 x1 x2
       have hX':all.getD i z43=X:=hX
       rw[hX']at HBT HN
       clear hX hX'
       go_wp2_with fail
       refine(Zl.calls a0 X.f0.f0 X.f0.f1 X.f0.f2 AV cV line b _ (Kd.C_below HCV.out HW7.out) HVL.out HBT.out).mono ?_
       rintro e w8 ⟨rfl,hb8⟩
       have y0:=(hb8.cell (World.block_lt_of_cell? _ _ x0)).trans x0
       have y1:=(hb8.cell (World.block_lt_of_cell? _ _ x1)).trans x1
       have y2:=(hb8.cell (World.block_lt_of_cell? _ _ x2)).trans x2
       have HR20:=am (Kd.R_below HR19.out hb8)
       have HW8:=bq HW7 hb8
       clear x0 x1 x2 hb8 HR19 HW7
       have hw1:wrap64 ((i:Int)+1)=((i+1:Nat):Int):=by have:=HI2.out;have:=HAL.out;unfold wrap64;omega
       have HW1:=am hw1
       clear hw1
       cases b with
       | true=>
        go_upto_region 38 with fail
        iterate 60 (try ((fail_if_success at_builtin);first | go_step | go_values | go_upon))
        refine Kd.R_append k43 (w0:=w6) w6.heap.size rfl (.tmp 152) (.tmp 157) 34 43 (.agg #[.int .i64 0,.int .i64 0,.int .i64 0]) 24 rfl hu34 J4 rfl (by decide) (by omega) u19 acc X [.int .i64 X.f0.f0,.int .i64 X.f0.f1,.int .i64 X.f0.f2] (fun _=>True) (fun _=>False) rfl rfl (Jb _ _ _ X) (fun _ hk=>hk.elim) (fun _ _=>trivial) (wR HR20) (bw HW8) (bz HW8) (by have:=HAC.out;have:=HI2.out;have:=HAL.out;omega) ?_
        intro v9' w9 ho9 hb9 hg9 hn9
        go_wp2_with fail
        exact⟨⟨i+1,acc++[X],by rw[HW1.out],⟨HI2.out⟩,⟨by have:=HAC.out;rw[List.length_append,List.length_singleton];omega⟩,HN,⟨ho9⟩,⟨hb9⟩⟩,by rw[HW1.out];exact qdh HI2.out⟩
       | false=>
        go_wp2_with fail
        exact⟨⟨i+1,acc,by rw[HW1.out],⟨HI2.out⟩,⟨by have:=HAC.out;omega⟩,HN,HR20,HW8⟩,by rw[HW1.out];exact qdh HI2.out⟩
    | succ d=>
     have hlt:decide ((i:Int) < 6)=true:=decide_eq_true (by have:=HD.out;omega)
     have hgv:=(HW5.out.block gB (jy HG.out)).trans HG.out
     have m0:wr.cell? ⟨gB,1+i,none⟩=some (.int .i64 (l1M a3 i)):=by
      have hi6:i < 6:=by have:=HD.out;omega
      refine(qe hgv (1+i)).trans ?_
      rcases (show i=0∨i=1∨i=2∨i=3∨i=4∨i=5 by omega) with rfl | rfl | rfl | rfl | rfl | rfl<;>rfl
     have pi:(0≤(i:Int))=True:=eq_true (by omega)
     have qi:((i:Int) < 6)=True:=eq_true (by have:=HD.out;omega)
     clear hgv
     by_cases hM:l1M a3 i=1
     ·have dM:(l1M a3 i == 1)=true:=beq_iff_eq.2 hM
      have h2:=HEN.out
      rw[l7En,if_pos hM]at h2
      by_cases hi:i < l1.length
      rotate_left
      ·rw[if_neg hi]at h2;cases h2
      rw[if_pos hi]at h2
      have HN:=am h2
      have HI:=am hi
      have HDM:=am dM
      clear h2 hi hM
      obtain⟨adX,eX,x0,x1,x2⟩:=Qo HR1.out (i:Int) (by omega) (by have:=HI.out;omega)
      subst eX
      rw[Int.toNat_natCast]at x0 x1 x2
      have HBW:=bq HB4 HW5.out
      have y0:=wcl HBW x0
      have y1:=wcl HBW x1
      have y2:=wcl HBW x2
      have qi2:((i:Int) < l1.length)=True:=eq_true (by have:=HI.out;omega)
      have qi3:(i < l1.length)=True:=eq_true HI.out
      clear x0 x1 x2
      generalize hX:qd l1 (i:Int)=X at y0 y1 y2
      have HX:=am hX
      clear hX
      go_upto_region 31 with fail
      iterate 60 (try ((fail_if_success at_builtin);first | go_step | go_values | go_upon))
      refine Kd.R_append k43 (w0:=w4) w4.heap.size rfl (.tmp 123) (.tmp 128) 34 43 (.agg #[.int .i64 0,.int .i64 0,.int .i64 0]) 24 rfl hu34 J4 rfl (by decide) (by omega) u16 acc X [.int .i64 X.f0.f0,.int .i64 X.f0.f1,.int .i64 X.f0.f2] (fun _=>True) (fun _=>False) rfl rfl (Jb _ _ _ X) (fun _ hk=>hk.elim) (fun _ _=>trivial) (wR HR16) (bw HW5) (bz HW5) (by have:=HAC.out;have:=HD.out;omega) ?_
      intro v9' w9 ho9 hb9 hg9 hn9
      rw[← HX.out]at ho9
      go_wp2_with fail
      have hw1:wrap64 ((i:Int)+1)=((i+1:Nat):Int):=by have:=HD.out;unfold wrap64;omega
      exact⟨⟨d,i+1,acc++[l7Pt l1 i],by rw[hw1],⟨by have:=HD.out;omega⟩,⟨by have:=HAC.out;rw[List.length_append,List.length_singleton];omega⟩,HN,⟨ho9⟩,⟨hb9⟩⟩,by rw[hw1];exact qep HD.out⟩
     ·have dM:(l1M a3 i == 1)=false:=beq_eq_false_iff_ne.2 hM
      have h2:=HEN.out
      rw[l7En,if_neg hM]at h2
      have HN:=am h2
      clear h2 hM
      go_wp2_with fail
      have hw1:wrap64 ((i:Int)+1)=((i+1:Nat):Int):=by have:=HD.out;unfold wrap64;omega
      exact⟨⟨d,i+1,acc,by rw[hw1],⟨by have:=HD.out;omega⟩,⟨by have:=HAC.out;omega⟩,HN,HR16,HW5⟩,by rw[hw1];exact qep HD.out⟩
  ·rw [if_neg c21] at hrow
   have d21:decide (a3 < 21)=false:=decide_eq_false c21
   by_cases hk:a3 - 20≤l1.length
   rotate_left
   ·rw[if_neg hk]at hrow;cases hrow
   rw[if_pos hk]at hrow
   obtain⟨cs,hcs,hr2⟩:=Option.bind_eq_some_iff.1 hrow
   by_cases he:0 < cs.length
   rotate_left
   ·rw[if_neg he]at hr2;cases hr2
   rw[if_pos he]at hr2
   obtain⟨pts,hpts,hcurve⟩:=Option.bind_eq_some_iff.1 hr2
   obtain⟨n,hn⟩:∃ n:Nat,a3 - 21=(n:Int):=⟨(a3 - 21).toNat,by omega⟩
   have e1:(a3 - 21).toNat=n:=by omega
   have e2:(a3 - 20).toNat=n+1:=by omega
   rw[e1,e2]at hcs
   have wn1:wrap64 (a3 - 21)=(n:Int):=by have:=HS.out;unfold wrap64;omega
   have wn2:wrap64 (a3 - 20)=((n+1:Nat):Int):=by have:=HS.out;unfold wrap64;omega
   have HNL:=am (show n+1≤l1.length by omega)
   have HCS:=am hcs
   have HE:=am he
   have HPTS:=am hpts
   have HCURVE:=am hcurve
   clear hrow hr2 hcs he hpts hcurve c6 c21 HO9 hk hn e1 e2
   go_upto_region 3 with fail
   refine st 12 (fun _=>True) [0,5,10] zq.tab3 zq.bits3 trivial fun hHeld HT_ HW_=>?_
   clear hHeld
   have sc1:(n≤c1)=True:=eq_true (by have:=HNL.out;have:=HC1.out;omega)
   have sc2:(0≤(n:Int)+1)=True:=eq_true (by omega)
   have sc3:((n:Int)+1≤(l1.length:Int))=True:=eq_true (by have:=HNL.out;omega)
   refine pz 1 31 HT_ ?_;refine pz 2 32 HT_ ?_;refine pz 3 33 HT_ ?_;refine pz 4 34 HT_ ?_;refine pz 6 36 HT_ ?_;refine pz 7 37 HT_ ?_;refine pz 8 38 HT_ ?_;refine pz 9 39 HT_ ?_;clear sc1 sc2 sc3 wn1 wn2
   refine la 0 (some 30) HT_ fun K hK=>?_
   refine Kd.R_lit_step k43 (w0:=w2) w2.heap.size 43 ?hg (N:=30) ?hd (xs:=([]:List S43)) (inner:=[]) (ok:=fun _=>True) (okp:=fun _=>True) ?hr ?hp (fun _ hk=>hk) trivial (Za (Below.refl _ _)) (Nat.le_refl _) (by simp) ?_
   (case hd=>rfl)
   (case hg=>rfl)
   (case hr=>first | (go_simp;done) | (go_simp;rfl))
   (case hp=>exact(Reps.none _ _))
   intro v30 w5 ho5 hb5 hg5 hnew5
   show K (Act.put _ (some 30) v30) w5
   refine hK.out _ _ (nz ?_)
   clear hK K hg5 hnew5
   refine la 5 (some 35) HT_ fun K hK=>?_
   refine Kd.R_append_rows_step k43 (w0:=w2) w2.heap.size (by rfl) (.tmp 30) (.tmp 34) 34 43 (.agg #[.int .i64 0,.int .i64 0,.int .i64 0]) 24 rfl hu34 J4 rfl (by decide) (by omega) v30 [] (l1.take n) A1 n c1 (fun _=>True) (fun _=>False) rfl rfl ho5 (Kd.C_below (qp4 (Kd.C_below HR1.out HB.out) (by have:=HNL.out;omega)) hb5) (fun _ _ h=>h) (fun _ h=>h.elim) (fun _ _=>trivial) hb5 hb5.size (by have:=HNL.out;have:=HS.out;simp only[List.length_nil];omega) ?_
   intro v35 w6 ho6 hb6 hg6 hnew6
   show K (Act.put _ (some 35) v35) w6
   refine hK.out _ _ (nz ?_)
   clear hK K hg6 hnew6 ho5 hb5
   refine la 10 (some 40) HT_ fun K hK=>?_
   refine Kd.R_append_rows_step k43 (w0:=w2) w2.heap.size (by rfl) (.tmp 35) (.tmp 39) 34 43 (.agg #[.int .i64 0,.int .i64 0,.int .i64 0]) 24 rfl hu34 J4 rfl (by decide) (by omega) v35 ([]++l1.take n) (l1.drop (n+1)) (if c1=n+1 then A1 else Option.map (fun x=>x.add ((n+1)*3)) A1) (l1.length - (n+1)) (c1 - (n+1)) (fun _=>True) (fun _=>False) rfl rfl ho6 (Kd.C_below (qqy (d:=k43) (Kd.C_below HR1.out HB.out) HC1.out HNL.out) hb6) (fun _ _ h=>h) (fun _ h=>h.elim) (fun _ _=>trivial) hb6 hb6.size (by have:=HNL.out;have:=HS.out;simp only[List.nil_append,List.length_take];omega) ?_
   intro v40 w7 ho7 hb7 hg7 hnew7
   rw[List.nil_append]at ho7
   show K (Act.put _ (some 40) v40) w7
   refine hK.out _ _ (nz ?_)
   clear hK K hg7 hnew7 ho6 hb6;refine pz 11 21 HT_ ?_
   refine Q3 (Qa HT_.out (by kernel_rfl)) ?_
   clear HT_ HW_
   have HB7:=bq HB hb7
   have HLA7:=am (Kd.C_below HLA.out hb7)
   obtain⟨A21,c21,e21⟩:=Kd.R_slice ho7
   subst e21
   have HC21:=am (Kd.R_reads' ho7).2.2
   have HL21:=am (Kd.R_reads' ho7).2.1
   clear HB HLA ho7 hb7
   generalize l1.take n++l1.drop (n+1)=five at HC21 HL21 HCS ⊢
   generalize (if c1=n+1 then A1 else Option.map (fun x=>x.add ((n+1)*3)) A1)=AS
   go_wp2_with fail
   refine(zw.calls k a0 A21 c21 five cs _ HC21.out HL21.out HCS.out).mono ?_
   rintro e w8 ⟨v8,rfl,hv8,hb8⟩
   obtain⟨gq,cq,e8,_,_,_⟩:=Kd.N_form hv8 HE.out
   subst e8
   obtain⟨adq,B,cB,eq,q0,q1,q2⟩:=qd2 (Kd.N_reads' hv8).2.2 0 HE.out
   injection eq with eq
   subst eq
   rw[Jw]at q0
   have HB8:=bq HB7 hb8
   have HLA8:=am (Kd.C_below HLA7.out hb8)
   have HQ2:=am q2
   have HQ1:=am q1
   obtain⟨co,hco⟩:∃ co,cs.getD 0 []=co:=⟨_,rfl⟩
   have HE1:(0 < cs.length)=True:=eq_true HE.out
   rw[hco]at q0 HQ1 HQ2 HPTS
   clear hv8 hb8 q1 q2 HB7 HLA7 HC21 HL21 HCS hco
   go_upto_region 5 with fail
   have HW8:=am (Below.refl w8.heap.size w8)
   clear q0 HE1 HE
   go_wp2_with (first
    | ((with_reducible refine zb (N:=46) rfl ?_);refine Kd.R_lit k43 _ 43 ?hg (N:=46) ?hd (xs:=([]:List S43)) (inner:=[]) (ok:=fun _=>True) (okp:=fun _=>True) ?hr ?hp (fun _ hk=>hk) trivial (Below.refl _ _) (Nat.le_refl _) (by simp) ?_;(case hd=>rfl);(case hg=>rfl);(case hr=>first | (go_simp;done) | (go_simp;rfl));(case hp=>exact(Reps.none _ _));intro v23 w9 ho23 hb9 hg9 hnew9)
    | go_in)
   have HR23:=am (Kd.R_lower ho23 (bz HW8))
   have HW9:=bq HW8 hb9
   clear ho23 hb9 hg9 hnew9
   go_loopw [23,24] (fun v23 v24 w'=>∃ (i:Nat) (acc:List S43),v24=.int .i64 (i:Int)∧qf (i≤all.length)∧qf (acc.length≤i)∧qf (filO (fun x=>(jt.f a0 x.f0.f0 x.f0.f1 x.f0.f2).bind fun s=>(jf.f k a0 co s).bind fun t=>some (t == 0)) (all.drop i) acc=some pts)∧qf (Kd.R k43 43 w' w8.heap.size (fun _=>True) v23 acc)∧qf (Below w8.heap.size w8 w')) (fun _ v24 _=>all.length - (intOf v24).toNat)
   case atStart=>exact⟨0,[],rfl,⟨Nat.zero_le _⟩,⟨Nat.le_refl _⟩,HPTS,⟨wR HR23⟩,⟨bw HW9⟩⟩
   case round=>
    clear HPTS HR23 HW9 HW8
    obtain⟨i,acc,rfl,HI,HAC,HF,HR23,HW9⟩:=hrel
    by_cases hi:i < all.length
    rotate_left
    ·have hlt:decide ((i:Int) < (all.length:Int))=false:=decide_eq_false (by omega)
     have ni:(i < all.length)=False:=eq_false hi
     have hr:=HF.out
     rw[List.drop_eq_nil_of_le (by omega),filO]at hr
     obtain rfl:=Option.some.inj hr
     clear hr hi
     obtain⟨A23,c23,e23⟩:=Kd.R_slice HR23.out
     subst e23
     have HC23:=am (Kd.R_reads' HR23.out).2.2
     have HL23:=am (Kd.R_reads' HR23.out).2.1
     have HB9:=bq HB8 HW9.out
     clear HB8 HW9 HR23
     go_wp2_with fail
     refine(z9.calls k a0 A1 c1 l1 A2 c2 l2 A23 c23 acc rows _ (Kd.C_below HR1.out HB9.out) HC1.out (Kd.C_below HR2.out HB9.out) HC2.out HC23.out HL23.out HCURVE.out).mono ?_
     rintro e w10 ⟨v8,rfl,hv8,hb8⟩
     have HB10:=bq HB9 hb8
     obtain⟨A9,c9,e9⟩:=Kd.R_slice (Kd.S_R hv8)
     subst e9
     have HC9:=am (Kd.S_reads' hv8).2.2
     have HL9:=am (Kd.S_reads' hv8).2.1
     clear hv8 hb8 HB9
     go_wp2_with fail
     refine(Zh.calls k a0 A9 c9 rows o1 o2 _ HC9.out HL9.out HOF.out).mono ?_
     rintro e w11 ⟨v5,rfl,hv5,hb5⟩
     have HB11:=bq HB10 hb5
     have HV5:=am (Kd.R_lower hv5 (bz HB10))
     clear hv5 hb5
     go_wp2_with fail
     go_ret
     exact⟨_,fq,wR HV5,bw HB11⟩
    ·have hlt:decide ((i:Int) < (all.length:Int))=true:=decide_eq_true (by omega)
     obtain⟨b,hb,hn⟩:=qla hi z43 HF.out
     obtain⟨s,hs,hb⟩:=Option.bind_eq_some_iff.1 hb
     obtain⟨t,ht,hb⟩:=Option.bind_eq_some_iff.1 hb
     obtain rfl:=Option.some.inj hb
     obtain⟨adL,eL,x0,x1,x2⟩:=Qo (Kd.C_below HLA8.out HW9.out) (i:Int) (by omega) (by omega)
     subst eL
     have HSQ:=am hs
     have HDT:=am ht
     have HN:=am hn
     rw[Int.toNat_natCast]at x0 x1 x2
     have pi:(0≤(i:Int))=True:=eq_true (by omega)
     have qi:((i:Int) < all.length)=True:=eq_true (by omega)
     have qi2:(i < all.length)=True:=eq_true hi
     have HI2:=am hi
     clear hb hn hi hs ht
     generalize hX:qd all (i:Int)=X at x0 x1 x2
     have hX':all.getD i z43=X:=hX
     rw[hX']at HSQ HN
     clear hX hX'
     go_wp2_with fail
     refine(jt.calls a0 X.f0.f0 X.f0.f1 X.f0.f2 s _ HSQ.out).mono ?_
     rintro e w10 ⟨v10,rfl,hv10,hb10⟩
     obtain⟨AS2,cS2,eS2⟩:=Kd.R_slice hv10
     subst eS2
     have HSC:=am (Kd.R_reads' hv10).2.2
     have HSL:=am (Kd.R_reads' hv10).2.1
     have y0:=(hb10.cell (World.block_lt_of_cell? _ _ x0)).trans x0
     have y1:=(hb10.cell (World.block_lt_of_cell? _ _ x1)).trans x1
     have y2:=(hb10.cell (World.block_lt_of_cell? _ _ x2)).trans x2
     have HR24:=am (Kd.R_below HR23.out hb10)
     have HW10:=bq HW9 hb10
     clear x0 x1 x2 hb10 HR23 HW9 hv10
     go_wp2_with fail
     refine(jf.calls k a0 B cB co AS2 cS2 s t _ (Kd.C_below HQ2.out HW10.out) HQ1.out HSC.out HSL.out HDT.out).mono ?_
     rintro e w11 ⟨rfl,hdr⟩
     have hb11:Below w10.heap.size w10 w11:=hdr.below
     have x0:=(hb11.cell (World.block_lt_of_cell? _ _ y0)).trans y0
     have x1:=(hb11.cell (World.block_lt_of_cell? _ _ y1)).trans y1
     have x2:=(hb11.cell (World.block_lt_of_cell? _ _ y2)).trans y2
     have HR25:=am (Kd.R_below HR24.out hb11)
     have HW11:=bq HW10 hb11
     clear y0 y1 y2 hb11 HR24 HW10 hdr
     have hw1:wrap64 ((i:Int)+1)=((i+1:Nat):Int):=by have:=HI2.out;have:=HAL.out;unfold wrap64;omega
     have HW1:=am hw1
     clear hw1
     cases hz:(t == 0) with
     | true=>
      rw[hz]at HN
      go_upto_region 10 with fail
      iterate 60 (try ((fail_if_success at_builtin);first | go_step | go_values | go_upon))
      refine Kd.R_append k43 (w0:=w8) w8.heap.size rfl (.tmp 63) (.tmp 68) 34 43 (.agg #[.int .i64 0,.int .i64 0,.int .i64 0]) 24 rfl hu34 J4 rfl (by decide) (by omega) u23 acc X [.int .i64 X.f0.f0,.int .i64 X.f0.f1,.int .i64 X.f0.f2] (fun _=>True) (fun _=>False) rfl rfl (Jb _ _ _ X) (fun _ hk=>hk.elim) (fun _ _=>trivial) (wR HR25) (bw HW11) (bz HW11) (by have:=HAC.out;have:=HI2.out;have:=HAL.out;omega) ?_
      intro v9' w12 ho9 hb9 hg9 hn9
      go_wp2_with fail
      exact⟨⟨i+1,acc++[X],by rw[HW1.out],⟨HI2.out⟩,⟨by have:=HAC.out;rw[List.length_append,List.length_singleton];omega⟩,HN,⟨ho9⟩,⟨hb9⟩⟩,by rw[HW1.out];exact qdh HI2.out⟩
     | false=>
      rw[hz]at HN
      go_wp2_with fail
      exact⟨⟨i+1,acc,by rw[HW1.out],⟨HI2.out⟩,⟨by have:=HAC.out;omega⟩,HN,HR25,HW11⟩,by rw[HW1.out];exact qdh HI2.out⟩
end Go.Proofs.Ytmgbpmihbljngaa.PA
