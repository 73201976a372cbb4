-- Written by xprint.py, a program of this claim's own (over the kit's print.py)
import Derived.Test.YtmgbpmihbljngaaPAx15
import Derived.StillTailTactics
namespace Go.Proofs.Ytmgbpmihbljngaa.PA
set_option maxHeartbeats 4000000
set_option maxRecDepth 100000
open Go.RowKit Go.Proofs.YtmgbpmihbljngaaW.PrintWords Go.Proofs.YtmgbpmihbljngaaW.PrintLast Go.Proofs.YtmgbpmihbljngaaW.PrintMore
attribute [local go_sem] Qs Qr Qx Qw Qf Qe Qq Qp
set_option linter.unusedVariables false
set_option linter.unusedSimpArgs false
def J0 (q:Nat→Bool):Nat→Nat→Int
 | 0,_=> -1
 | d+1,i=>if q i then (i:Int) else J0 q d (i+1)
theorem qli {k:IntKind} {a b:Int} (h:a=b):Ending.returned (.int k a)=.returned (.int k b):=by rw[h]
theorem qgb (g:Nat) (lb:Array Value) (q:Nat→Bool) (hs:Nat→Value) (b n c0:Nat) (w:World) (hm:n≤9223372036854775807) (hc:∀ j,j < n→w.cell? ⟨b,j,none⟩=some (hs j))
  (he:∀ args w,(callFunc g args).run Try.prog w=.ok (.enter g args) w)
  (hq:∀ (j:Nat) (w1:World),j < n→Drawn0 w w1→Calls Try.prog g (#[hs j]++lb) w1 fun e w'=>e=.returned (.bool (q j))∧Drawn0 w1 w'):
  Calls Try.prog 166 #[.slice (some ⟨b,0,none⟩) n c0,.func (.func g) #[] lb] w fun e w'=>e=.returned (.int .i64 (J0 q n 0))∧Drawn0 w w':=by
 go_enter Try.func166,Try.ntmps166
 go_wp2
 go_loopw [8] (fun i w'=>∃ j:Nat,j≤n∧i=.int .i64 j∧J0 q n 0=J0 q (n - j) j∧Drawn0 w w') (fun i _=>n - (intOf i).toNat)
 case atStart=>exact⟨0,Nat.zero_le _,rfl,rfl,Drawn0.refl _⟩
 case round=>
  obtain⟨j,hj,rfl,hidx,⟨m1,rfl⟩⟩:=hrel
  have HIDX:=Lib.hid hidx
  clear hidx
  by_cases hlt:j < n
  ·have hx:=hc j hlt
   have e1:J0 q (n - j) j=if q j then (j:Int) else J0 q (n - (j+1)) (j+1):=by
    rw[show n - j=(n - (j+1))+1 from by omega,J0]
   have E1:=Lib.hid e1
   have hcall:=hq j (w.drewN m1) hlt ⟨m1,rfl⟩
   have HC:=Lib.hid hcall
   clear hcall hq e1 hc
   cases hv:q j
   all_goals
    go_wp2_with fail
    refine(HC.out).mono ?_
    rintro e w' ⟨rfl,⟨m2,rfl⟩⟩
    simp only[hv]
    go_wp2
   ·go_roundw
    case rel=>exact⟨j+1,by omega,by go_num,by rw[HIDX.out,E1.out,hv];rfl,⟨m1+m2,by simp⟩⟩
    case measure=>simp[intOf];omega
   ·go_ret
    exact⟨qli (a:=(j:Int)) (by rw[HIDX.out,E1.out,hv];rfl),⟨m1+m2,by simp⟩⟩
  ·go_wp2
   go_ret
   exact⟨qli (a:=-1) (by rw[HIDX.out,show n - j=0 from by omega,J0]),⟨m1,rfl⟩⟩
theorem qjh (w:World) (bc:Nat) (c:Int) (b n cap:Nat) (cs:Array Value) (x:Int) (h0:0≤c) (h1:c < n) (hb:w.heap[bc]? =some (.cells #[.int .i64 c] 3 (0,0))) (hx:w.cell? ⟨b,c.toNat,none⟩=some (.int .i64 x)):
  Calls Try.prog 167 #[.slice (some ⟨b,0,none⟩) n cap,.pointer (some ⟨bc,0,none⟩)] w fun e w'=>e=.returned (.bool (x !=0))∧Drawn0 w w':=by
 have hx0:w.cell? ⟨bc,0,none⟩=some (.int .i64 c):=(qe hb 0).trans rfl
 have p1:(0≤c)=True:=eq_true h0
 have q1:(c < (n:Int))=True:=eq_true h1
 clear hb h0 h1
 go_enter Try.func167,Try.ntmps167
 go_wp2
 repeat (go_quiet (fail);try go_wp2)
 go_ret
 exact⟨rfl,df⟩
structure Rw where
 b:Nat
 cap:Nat
 r:List Int
def Rw.hd (x:Rw):Value:=.slice (some ⟨x.b,0,none⟩) x.r.length x.cap
def RowAt (w:World) (x:Rw):Prop:=∃ cur:Array Value,w.heap[x.b]? =some (.cells cur 3 (0,0))∧x.r.length≤x.cap∧x.cap≤maxLen∧cur.size=x.cap∧cur.toList.take x.r.length=x.r.map (Value.int .i64)
theorem qql {cur:Array Value} {r:List Int} (h:cur.toList.take r.length=r.map (Value.int .i64)) (j:Nat) (hj:j < r.length):cur[j]? =some (.int .i64 (rd r (j:Int))):=by
 have h1:(cur.toList.take r.length)[j]? =(r.map (Value.int .i64))[j]?:=by rw[h]
 rw[List.getElem?_take_of_lt hj]at h1
 rw[← Array.getElem?_toList,h1]
 simp[rd,List.getD_eq_getElem?_getD,hj]
theorem RowAt.own {w:World} {x:Rw} (h:RowAt w x) {base:Nat} (hb:base≤x.b):w.ownsRow base 3 1 x.hd x.r.length (x.r.map (Value.int .i64)):=by
 obtain⟨cur,h0,h1,h2,h3,h4⟩:=h
 exact⟨by simp,.inr ⟨x.b,x.cap,cur,rfl,hb,h0,h1,h2,by omega,by simpa using h4⟩⟩
theorem RowAt.cell {w:World} {x:Rw} (h:RowAt w x) (j:Nat) (hj:j < x.r.length):w.cell? ⟨x.b,j,none⟩=some (.int .i64 (rd x.r (j:Int))):=by
 obtain⟨cur,hb,_,_,_,hc⟩:=h
 rw[qe hb];exact qql hc j hj
theorem RowAt.frozen {w:World} {x:Rw} (h:RowAt w x) (j:Nat):w.frozen? ⟨x.b,j,none⟩=false:=by
 obtain⟨cur,hb,hc⟩:=h
 exact ql hb j
theorem RowAt.set {w:World} {x:Rw} (h:RowAt w x) (j:Nat) (v:Int):RowAt (w.setCell ⟨x.b,j,none⟩ (.int .i64 v)) { x with r:=x.r.set j v }:=by
 obtain⟨cur,hb,h1,h2,h3,hc⟩:=h
 refine⟨_,Zw hb j _,by simpa using h1,h2,by simpa using h3,?_⟩
 show (cur.setIfInBounds j (.int .i64 v)).toList.take (x.r.set j v).length=(x.r.set j v).map _
 rw[List.length_set,Array.toList_setIfInBounds,List.take_set,hc,List.map_set]
theorem RowAt.far {w:World} {x:Rw} (h:RowAt w x) {p:Addr} (hp:x.b≠p.block) (u:Value):RowAt (w.setCell p u) x:=by
 obtain⟨cur,hb,hc⟩:=h
 exact⟨cur,Qk hb hp u,hc⟩
theorem RowAt.move {w w1:World} {x:Rw} (h:RowAt w x) (hm:w1.heap[x.b]? =w.heap[x.b]?):RowAt w1 x:=by
 obtain⟨cur,hb,hc⟩:=h
 exact⟨cur,hm.trans hb,hc⟩
theorem qfp {w:World} {base n:Nat} {v:Value} {hs:List Value} (h:w.ownsRow base 23 1 v n hs) {x:Rw} (hx:RowAt w x):v.ownBlock≠some x.b:=by
 intro e
 obtain⟨cells,hc⟩:=qac h x.b e
 obtain⟨cur2,hb2,_⟩:=hx
 exact absurd rfl (qn2 hc hb2 (by decide))
def qhg (w:World) (base:Nat) (L:List Rw):Prop:=(∀ x∈L,base≤x.b∧RowAt w x)∧(L.map Rw.b).Nodup
def modV (p x:Int):Int:=Int.tmod (wrap64 (Int.tmod x p+p)) p
theorem qdr (p x:Int) (hp:p≠0):Z1.f x p=some (modV p x):=by rw[Z1.f,if_neg hp];rfl
def Je (p times:Int) (head:List Int):Nat→List Int→List Int
 | _,[]=>[]
 | i,x :: xs=>modV p (wrap64 (x - wrap64 (times*rd head (i:Int)))) :: Je p times head (i+1) xs
def Ze (p:Int) (c:Nat) (head row:List Int):List Int:=Je p (rd row (c:Int)) head 0 row
theorem qda (p times:Int) (head:List Int):∀ (l:List Int) (i:Nat),(Je p times head i l).length=l.length
 | [],_=>rfl
 | x :: xs,i=>by rw[Je,List.length_cons,qda p times head xs (i+1),List.length_cons]
def j5 (p by_:Int) (row:List Int):List Int:=row.map fun x=>Int.tmod (wrap64 (x*by_)) p
def Q4 (k:Nat) (p:Int):Nat→Nat→List (List Int)→List (List Int)→Option (List (List Int))
 | 0,_,_,O=>some O
 | d+1,c,L,O=>
  match L.findIdx? fun row=>rd row (c:Int) !=0 with
  | none=>Q4 k p d (c+1) L O
  | some i=>(jp.f k (rd (L.getD i []) (c:Int)) p).bind fun by_=>
   Q4 k p d (c+1) ((L.eraseIdx i).map (Ze p c (j5 p by_ (L.getD i [])))) (O.map (Ze p c (j5 p by_ (L.getD i [])))++[j5 p by_ (L.getD i [])])
def zy.f (k:Nat) (p:Int) (rows:List (List Int)):Option (List (List Int)):=
 if p=0 then none else
 if rows.length < 1000000∧(rows.headD []).length < 1000000∧(∀ r∈rows,r.length=(rows.headD []).length) then Q4 k p (rows.headD []).length 0 (rows.map fun r=>r.map (modV p)) [] else none
theorem qa8 (p:Int) (k:Nat):∀ (d c:Nat) (L O:List (List Int)),LeO (Q4 k p d c L O) (Q4 (k+1) p d c L O)
 | 0,_,_,_=>LeO.refl _
 | d+1,c,L,O=>by
  rw[Q4,Q4]
  split
  ·exact qa8 p k d _ _ _
  ·exact LeO.bind (jp.mono _ _ _) fun _=>qa8 p k d _ _ _
theorem zy.mono :∀ a0 a1 k,LeO (zy.f k a0 a1) (zy.f (k+1) a0 a1):=by
 intro p rows k
 unfold zy.f
 split
 ·exact LeO.refl _
 ·split
  ·exact qa8 p k _ _ _ _
  ·exact LeO.refl _
theorem qpf (l:List Int) {w:World} {base:Nat} {ok:Nat→Prop}:Reps ((Kd.int .i64).M w base ok) (Kd.int .i64).sz l (l.map (Value.int .i64)):=by
 refine⟨by simp[Kd.int,Kd.scalar],fun j p hj=>?_⟩
 show ((l.map (Value.int .i64)).drop (j*1)).take 1=[Value.int .i64 p]
 have hl:j < l.length:=(List.getElem?_eq_some_iff.1 hj).1
 have e:l[j]=p:=(List.getElem?_eq_some_iff.1 hj).2
 rw[Nat.mul_one,List.drop_eq_getElem_cons (by simpa using hl)]
 simp[e]
theorem qd0 (k:Nat) (p:Int):∀ (d c:Nat) (O:List (List Int)),Q4 k p d c [] O=some O
 | 0,_,_=>rfl
 | d+1,c,O=>by rw[Q4];exact qd0 k p d (c+1) O
theorem qf1 {w:World} {base e n:Nat} {v:Value} {xs:List Value} (h:w.ownsRow base e 1 v n xs):∃ A cap,v=.slice A n cap:=by
 obtain⟨hl,⟨rfl,rfl⟩ | ⟨g,cap,cur,rfl,_⟩⟩:=h
 ·exact⟨_,_,rfl⟩
 ·exact⟨_,_,rfl⟩
theorem qcu {w:World} {base e n:Nat} {v:Value} {xs:List Value} (h:w.ownsRow base e 1 v n xs) (hn:v.ownBlock≠none∨0 < n):∃ g cap cur,v=.slice (some ⟨g,0,none⟩) n cap∧base≤g∧w.heap[g]? =some (.cells cur e (0,0))∧n≤cap∧cap≤maxLen∧cur.size=cap∧cur.toList.take n=xs:=by
 obtain⟨hl,⟨rfl,rfl⟩ | ⟨g,cap,cur,rfl,h1,h2,h3,h4,h5,h6⟩⟩:=h
 ·simp[Value.ownBlock]at hn
 ·exact⟨g,cap,cur,rfl,h1,h2,h3,h4,by simpa using h5,by simpa using h6⟩
theorem qbw {w:World} {g e n:Nat} {cur:Array Value} {xs:List Value} (h:w.heap[g]? =some (.cells cur e (0,0))) (ht:cur.toList.take n=xs) (j:Nat) (hj:j < n) (v:Value) (hv:xs[j]? =some v):w.cell? ⟨g,j,none⟩=some v:=by
 rw[qe h]
 subst ht
 rw[List.getElem?_take_of_lt hj]at hv
 rw[← Array.getElem?_toList,hv]
abbrev Hd:=Option Addr×Nat×Nat
def hdV (h:Hd):Value:=.slice h.1 h.2.1 h.2.2
def qjo :Go.Shelf.Ren:=⟨fun | 45=>168 | n=>n,fun | 22=>47 | 23=>23 | 3=>3 | 4=>4 | 0=>0 | n=>n,fun | n=>n⟩
theorem qqq :Go.Proofs.SlLaysE.n45 Try.prog qjo:={
 mixed:=by kernel_rfl
 f45:=⟨Try.f168.name,by decide,Try.func168.trans (congrArg some (by kernel_rfl))⟩
 t0:=Try.underlying0
 a0:=Try.isAgg0
 z0:=Try.sizeOf0
 v0:=Try.zeroValue0
 t3:=Try.underlying3
 a3:=Try.isAgg3
 z3:=Try.sizeOf3
 v3:=Try.zeroValue3
 t4:=Try.underlying4
 a4:=Try.isAgg4
 z4:=Try.sizeOf4
 v4:=Try.zeroValue4
 t22:=Try.underlying47
 a22:=Try.isAgg47
 z22:=Try.sizeOf47
 v22:=Try.zeroValue47
 a23:=Try.isAgg23
 z23:=Try.sizeOf23 }
theorem RowAt.lt {w:World} {x:Rw} (h:RowAt w x):x.b < w.heap.size:=by
 obtain⟨cur,hb,_⟩:=h
 exact jy hb
structure Hn where
 b:Nat
 cap:Nat
def Hn.rw (ρ:Nat→List Int) (h:Hn):Rw:=⟨h.b,h.cap,ρ h.b⟩
def Hn.hd (width:Nat) (h:Hn):Value:=.slice (some ⟨h.b,0,none⟩) width h.cap
def upd (ρ:Nat→List Int) (b:Nat) (r:List Int):Nat→List Int:=fun k=>if k=b then r else ρ k
theorem qaq (ρ:Nat→List Int) (b:Nat) (r:List Int):upd ρ b r b=r:=by simp[upd]
theorem qdv (ρ:Nat→List Int) (b:Nat) (r:List Int) {k:Nat} (h:k≠b):upd ρ b r k=ρ k:=by simp[upd,h]
theorem qk9 (ρ:Nat→List Int) (b:Nat) (r r':List Int):upd (upd ρ b r) b r'=upd ρ b r':=by
 funext k;unfold upd;split<;>rfl
theorem qio (ρ:Nat→List Int) (b:Nat):upd ρ b (ρ b)=ρ:=by
 funext k;unfold upd;split
 ·next h=>rw[h]
 ·rfl
def Z5 (ρ N:Nat→List Int) (bs:List Nat):Nat→List Int:=fun k=>if k∈bs then N k else ρ k
theorem qk7 (ρ N:Nat→List Int):Z5 ρ N []=ρ:=by funext k;simp[Z5]
theorem qj4 (ρ N:Nat→List Int) (bs:List Nat) (b:Nat):upd (Z5 ρ N bs) b (N b)=Z5 ρ N (bs++[b]):=by
 funext k
 by_cases h:k=b
 ·subst h;simp[upd,Z5]
 ·by_cases h2:k∈bs<;>simp[upd,Z5,h,h2]
theorem qmp (ρ N:Nat→List Int) (bs:List Nat) {k:Nat} (h:k∈bs):Z5 ρ N bs k=N k:=by simp[Z5,h]
theorem qcl (ρ N:Nat→List Int) (bs:List Nat) {k:Nat} (h:k ∉ bs):Z5 ρ N bs k=ρ k:=by simp[Z5,h]
structure Rows (w:World) (base width:Nat) (ρ:Nat→List Int) (Z:List Hn):Prop where
 at_:∀ z∈Z,base≤z.b∧RowAt w (z.rw ρ)∧(ρ z.b).length=width
 apart:(Z.map Hn.b).Nodup
theorem Rows.cell {w:World} {base width:Nat} {ρ:Nat→List Int} {Z:List Hn} (h:Rows w base width ρ Z) {z:Hn} (hz:z∈Z) (j:Nat) (hj:j < width):w.cell? ⟨z.b,j,none⟩=some (.int .i64 (rd (ρ z.b) (j:Int))):=by
 obtain⟨_,h2,h3⟩:=h.at_ z hz
 exact h2.cell j (by show j < (ρ z.b).length;omega)
theorem Rows.frozen {w:World} {base width:Nat} {ρ:Nat→List Int} {Z:List Hn} (h:Rows w base width ρ Z) {z:Hn} (hz:z∈Z) (j:Nat):w.frozen? ⟨z.b,j,none⟩=false:=(h.at_ z hz).2.1.frozen j
theorem Rows.move {w w1:World} {base width:Nat} {ρ:Nat→List Int} {Z:List Hn} (h:Rows w base width ρ Z) (hm:∀ z∈Z,w1.heap[z.b]? =w.heap[z.b]?):Rows w1 base width ρ Z:=
 ⟨fun z hz=>⟨(h.at_ z hz).1,(h.at_ z hz).2.1.move (hm z hz),(h.at_ z hz).2.2⟩,h.apart⟩
theorem Rows.lt {w:World} {base width:Nat} {ρ:Nat→List Int} {Z:List Hn} (h:Rows w base width ρ Z) {z:Hn} (hz:z∈Z):z.b < w.heap.size:=by
 obtain⟨cur,hb,_⟩:=(h.at_ z hz).2.1
 exact jy hb
theorem qc7 :∀ {Z:List Hn},(Z.map Hn.b).Nodup→∀ {x z:Hn},x∈Z→z∈Z→z.b=x.b→z=x
 | [],_,_,_,h,_,_=>absurd h (by simp)
 | y :: Z,hn,x,z,hx,hz,e=>by
  rw[List.map_cons,List.nodup_cons]at hn
  rcases List.mem_cons.1 hx with hx1 | hx1
  ·rcases List.mem_cons.1 hz with hz1 | hz1
   ·rw[hz1,hx1]
   ·exact absurd (by have:=List.mem_map_of_mem (f:=Hn.b) hz1;rwa [e,hx1]at this) hn.1
  ·rcases List.mem_cons.1 hz with hz1 | hz1
   ·exact absurd (by have:=List.mem_map_of_mem (f:=Hn.b) hx1;rwa [← e,hz1]at this) hn.1
   ·exact qc7 hn.2 hx1 hz1 e
theorem Rows.set {w:World} {base width:Nat} {ρ:Nat→List Int} {Z:List Hn} (h:Rows w base width ρ Z) {x:Hn} (hx:x∈Z) (j:Nat) (v:Int):
  Rows (w.setCell ⟨x.b,j,none⟩ (.int .i64 v)) base width (upd ρ x.b ((ρ x.b).set j v)) Z:=by
 refine⟨fun z hz=>?_,h.apart⟩
 obtain⟨h1,h2,h3⟩:=h.at_ z hz
 by_cases e:z.b=x.b
 ·have:=qc7 h.apart hx hz e
  subst this
  refine⟨h1,?_,by rw[qaq,List.length_set,h3]⟩
  have h4:=h2.set j v
  simpa [Hn.rw,qaq] using h4
 ·refine⟨h1,?_,by rw[qdv _ _ _ e,h3]⟩
  have h4:=h2.far (p:=⟨x.b,j,none⟩) e (.int .i64 v)
  simpa [Hn.rw,qdv _ _ _ e] using h4
structure St (base:Nat) (w0 w':World) (c bc width:Nat) (ρ:Nat→List Int) (Z L O:List Hn) (v5 v11:Value):Prop where
 box:w'.heap[bc]? =some (.cells #[.int .i64 c] 3 (0,0))
 boxb:base≤bc
 boxn:∀ z∈Z,z.b≠bc
 rows:Rows w' base width ρ Z
 own5:w'.ownsRow base 23 1 v5 L.length (L.map (Hn.hd width))
 own11:w'.ownsRow base 23 1 v11 O.length (O.map (Hn.hd width))
 ne:qdz v5 v11
 n11:v11.ownBlock≠none
 tot:Z.length < 1000000
 sub:∀ z,z∈L++O→z∈Z
 below:Below base w0 w'
theorem Rows.ne_own {w:World} {base width:Nat} {ρ:Nat→List Int} {Z:List Hn} (h:Rows w base width ρ Z) {z:Hn} (hz:z∈Z) {base' n:Nat} {v:Value} {hs:List Value} (ho:w.ownsRow base' 23 1 v n hs):v.ownBlock≠some z.b:=qfp ho (h.at_ z hz).2.1
theorem St.bc_lt {base:Nat} {w0 w':World} {c bc width:Nat} {ρ:Nat→List Int} {Z L O:List Hn} {v5 v11:Value} (h:St base w0 w' c bc width ρ Z L O v5 v11):bc < w'.heap.size:=jy h.box
theorem qe4 {w:World} {base n bc:Nat} {v x:Value} {hs:List Value} (h:w.ownsRow base 23 1 v n hs) (hb:w.heap[bc]? =some (.cells #[x] 3 (0,0))):v.ownBlock≠some bc:=by
 intro e
 obtain⟨cells,hc⟩:=qac h bc e
 exact absurd rfl (qn2 hc hb (by decide))
theorem qhe {w:World} {base' base width:Nat} {ρ:Nat→List Int} {Z:List Hn} (hr:Rows w base width ρ Z) {x:Hn} (hx:x∈Z) {n:Nat} {v:Value} {hs:List Value} (ho:w.ownsRow base' 23 1 v n hs) (j:Nat) (u:Value):(w.setCell ⟨x.b,j,none⟩ u).ownsRow base' 23 1 v n hs:=
 Jp ho (fun k hk=>Below.heap_setCell w ⟨x.b,j,none⟩ u k (fun e=>hr.ne_own hx ho (by rw[hk,e])))
theorem St.set {base:Nat} {w0 w':World} {c bc width:Nat} {ρ:Nat→List Int} {Z L O:List Hn} {v5 v11:Value} (h:St base w0 w' c bc width ρ Z L O v5 v11) {x:Hn} (hx:x∈Z) (j:Nat) (v:Int):
  St base w0 (w'.setCell ⟨x.b,j,none⟩ (.int .i64 v)) c bc width (upd ρ x.b ((ρ x.b).set j v)) Z L O v5 v11 where
 box:=(Below.heap_setCell w' ⟨x.b,j,none⟩ _ bc (fun e=>h.boxn x hx e.symm)).trans h.box
 boxb:=h.boxb
 boxn:=h.boxn
 rows:=h.rows.set hx j v
 own5:=qhe h.rows hx h.own5 j _
 own11:=qhe h.rows hx h.own11 j _
 ne:=h.ne
 n11:=h.n11
 tot:=h.tot
 sub:=h.sub
 below:=h.below.setCell (by exact(h.rows.at_ x hx).1) _
theorem St.drewN {base:Nat} {w0 w':World} {c bc width:Nat} {ρ:Nat→List Int} {Z L O:List Hn} {v5 v11:Value} (h:St base w0 w' c bc width ρ Z L O v5 v11) (q:Nat):St base w0 (w'.drewN q) c bc width ρ Z L O v5 v11 where
 box:=h.box
 boxb:=h.boxb
 boxn:=h.boxn
 rows:=h.rows.move (fun _ _=>rfl)
 own5:=h.own5
 own11:=h.own11
 ne:=h.ne
 n11:=h.n11
 tot:=h.tot
 sub:=h.sub
 below:=Ql h.below q
theorem St.grown {base:Nat} {w0 w' w1:World} {c bc width:Nat} {ρ:Nat→List Int} {Z L O:List Hn} {v5 v11:Value} (h:St base w0 w' c bc width ρ Z L O v5 v11) (hb:Below base w0 w1) (hm:∀ k,k < w'.heap.size→w1.heap[k]? =w'.heap[k]?):St base w0 w1 c bc width ρ Z L O v5 v11 where
 box:=(hm bc h.bc_lt).trans h.box
 boxb:=h.boxb
 boxn:=h.boxn
 rows:=h.rows.move (fun z hz=>hm z.b (h.rows.lt hz))
 own5:=Jp h.own5 (fun k hk=>hm k (qas h.own5 k hk))
 own11:=Jp h.own11 (fun k hk=>hm k (qas h.own11 k hk))
 ne:=h.ne
 n11:=h.n11
 tot:=h.tot
 sub:=h.sub
 below:=hb
theorem St.next {base:Nat} {w0 w':World} {c bc width:Nat} {ρ:Nat→List Int} {Z L O:List Hn} {v5 v11:Value} (h:St base w0 w' c bc width ρ Z L O v5 v11) (hb:base≤w'.heap.size):
  St base w0 (w'.alloc (.cells #[.int .i64 ((c+1:Nat):Int)] 3)) (c+1) w'.heap.size width ρ Z L O v5 v11:=by
 have hm:∀ k,k < w'.heap.size→(w'.alloc (.cells #[.int .i64 ((c+1:Nat):Int)] 3)).heap[k]? =w'.heap[k]?:=fun k hk=>Below.heap_alloc _ _ _ hk
 have h2:=h.grown (h.below.alloc hb _) hm
 exact⟨qcy w' _,hb,fun z hz e=>by have:=h.rows.lt hz;omega,h2.rows,h2.own5,h2.own11,h2.ne,h2.n11,h2.tot,h2.sub,h2.below⟩
theorem qm3 {w:World} {base n g cap:Nat} {hs:List Hd} (h:w.ownsRow base 23 1 (.slice (some ⟨g,0,none⟩) n cap) n (hs.map hdV)):Sort.Holds hdV w g 0 hs.toArray:=by
 obtain⟨hl,⟨h0,_⟩ | ⟨g',cap',cur,e,hg,hh,h1,h2,h3,h4⟩⟩:=h
 ·simp at h0
 ·injection e with ea en ec
  injection ea with ea
  injection ea with ea
  subst ea;subst ec
  intro j hj
  have hj':j < hs.length:=by simpa using hj
  have hn:hs.length=n:=by simpa using hl
  refine⟨?_,by simpa using ql hh j⟩
  have e2:hs.toArray[j]! =hs[j]:=by rw[getElem!_pos _ j hj];simp
  rw[e2,show (⟨g,0+j,none⟩:Addr)=⟨g,j,none⟩ by simp]
  exact qbw hh (by simpa using h4) j (by omega) _ (by simp[hj'])
theorem qld {w:World} {base n g cap q:Nat} {hs hs':List Hd} (m:Nat) (h:w.ownsRow base 23 1 (.slice (some ⟨g,0,none⟩) n cap) n (hs.map hdV)) (hl':hs'.length=n) (hm:m≤n):
  (Sort.putRow hdV (Sort.ahead w q) g 0 hs'.toArray).ownsRow base 23 1 (.slice (some ⟨g,0,none⟩) m cap) m ((hs'.take m).map hdV):=by
 obtain⟨hl,⟨h0,_⟩ | ⟨g',cap',cur,e,hg,hh,h1,h2,h3,h4⟩⟩:=h
 ·simp at h0
 ·injection e with ea en ec
  injection ea with ea
  injection ea with ea
  subst ea;subst ec
  refine⟨by simp;omega,.inr ⟨g,cap,Sort.putCells hdV 0 hs'.toArray cur,rfl,hg,?_,by omega,h2,by simpa [Sort.putCells] using h3,?_⟩⟩
  ·show (w.heap.modify g (Sort.onCells (Sort.putCells hdV 0 hs'.toArray)))[g]? =_
   rw[Array.getElem?_modify,if_pos rfl,hh]
   rfl
  ·apply List.ext_getElem?
   intro j
   by_cases hj:j < m
   ·have hjn:j < hs'.length:=by omega
    have hjc:j < cur.size:=by rw[h3];omega
    rw[Nat.mul_one,List.getElem?_take_of_lt hj,Array.getElem?_toList,List.getElem?_map,List.getElem?_take_of_lt hj,List.getElem?_eq_getElem hjn]
    simp only[Sort.putCells,Array.getElem?_mapIdx,Array.getElem?_eq_getElem hjc,Option.map_some]
    rw[if_pos ⟨by omega,by simp;omega⟩,Nat.sub_zero,getElem!_pos _ j (by simpa using hjn)]
    simp
   ·rw[List.getElem?_eq_none (by simp;omega),List.getElem?_eq_none (by simp;omega)]
theorem qmc {w:World} {g q k:Nat} {d:Array Hd} (h:k≠g):(Sort.putRow hdV (Sort.ahead w q) g 0 d).heap[k]? =w.heap[k]?:=by
 show (w.heap.modify g (Sort.onCells (Sort.putCells hdV 0 d)))[k]? =_
 rw[Array.getElem?_modify,if_neg (Ne.symm h)]
theorem qmi {w w0:World} {base g q:Nat} {d:Array Hd} (h:Below base w0 w) (hg:base≤g):Below base w0 (Sort.putRow hdV (Sort.ahead w q) g 0 d):=
 ⟨h.os,h.tape,h.output,by simpa using h.size,fun k hk=>(qmc (by omega)).trans (h.block k hk)⟩
def Hn.pair (width:Nat) (h:Hn):Hd:=(some ⟨h.b,0,none⟩,width,h.cap)
theorem qaz (width:Nat) (L:List Hn):L.map (Hn.hd width)=(L.map (Hn.pair width)).map hdV:=by
 rw[List.map_map];rfl
theorem St.del {base:Nat} {w0 w':World} {c bc width g cap q:Nat} {ρ:Nat→List Int} {Z A B O:List Hn} {x:Hn} {v11:Value} {zr:Hd}
  (h:St base w0 w' c bc width ρ Z (A++x :: B) O (.slice (some ⟨g,0,none⟩) (A++x :: B).length cap) v11):
  St base w0 (Sort.putRow hdV (Sort.ahead w' q) g 0 (((A++x :: B).map (Hn.pair width)).take A.length++((A++x :: B).map (Hn.pair width)).drop (A.length+1)++[zr]).toArray) c bc width ρ Z (A++B) O (.slice (some ⟨g,0,none⟩) (A++B).length cap) v11:=by
 have hg:base≤g:=Jr h.own5 g rfl
 have e1:((A++x :: B).map (Hn.pair width)).take A.length++((A++x :: B).map (Hn.pair width)).drop (A.length+1)=(A++B).map (Hn.pair width):=by
  simp[List.drop_append,List.take_append]
 rw[e1]
 have h5:=h.own5
 rw[qaz]at h5
 have hp:=qld (q:=q) (hs':=(A++B).map (Hn.pair width)++[zr]) (A++B).length h5 (by simp<;>omega) (by simp)
 rw[List.take_append_of_le_length (by simp),List.take_of_length_le (by simp),← qaz]at hp
 have hk:∀ k,k≠g→(Sort.putRow hdV (Sort.ahead w' q) g 0 ((A++B).map (Hn.pair width)++[zr]).toArray).heap[k]? =w'.heap[k]?:=fun k hk=>qmc hk
 refine⟨(hk bc ?_).trans h.box,h.boxb,h.boxn,h.rows.move (fun z hz=>hk z.b ?_),hp,Jp h.own11 (fun k e=>hk k ?_),h.ne,h.n11,h.tot,fun z hz=>h.sub z ?_,qmi h.below hg⟩
 ·intro e;exact qe4 h.own5 h.box (by rw[e];rfl)
 ·intro e;exact h.rows.ne_own hz h.own5 (by rw[e];rfl)
 ·intro e2;exact h.ne g rfl (e2 ▸ e)
 ·simp only[List.mem_append,List.mem_cons]at hz ⊢
  rcases hz with (hz | hz) | hz
  ·exact .inl (.inl hz)
  ·exact .inl (.inr (.inr hz))
  ·exact .inr hz
theorem St.done {base:Nat} {w0 w' w1:World} {c bc width:Nat} {ρ:Nat→List Int} {Z L O:List Hn} {x:Hn} {v5 v11 v1:Value} (h:St base w0 w' c bc width ρ Z L O v5 v11) (hx:x∈Z)
  (ho:w1.ownsRow base 23 1 v1 (O.length+1) (O.map (Hn.hd width)++[Hn.hd width x])) (hb:Below base w0 w1) (hg:w'.grownBy w1 v11.ownBlock) (hat:v1.ownBlock=v11.ownBlock∨∃ b,v1.ownBlock=some b∧w'.heap.size≤b):
  St base w0 w1 c bc width ρ Z L (O++[x]) v5 v1:=by
 have hm:∀ k,k < w'.heap.size→v11.ownBlock≠some k→w1.heap[k]? =w'.heap[k]?:=fun k hk hne=>hg.block k hk (fun e=>hne e.symm)
 refine⟨(hm bc h.bc_lt (qe4 h.own11 h.box)).trans h.box,h.boxb,h.boxn,h.rows.move (fun z hz=>hm z.b (h.rows.lt hz) (h.rows.ne_own hz h.own11)),Jp h.own5 (fun k hk=>hm k (qas h.own5 k hk) (h.ne k hk)),by simpa using ho,?_,?_,h.tot,?_,hb⟩
 ·exact qki h.ne hat h.own5
 ·rcases hat with e | ⟨b,e,_⟩
  ·rw[e];exact h.n11
  ·rw[e];simp
 ·intro z hz
  simp only[List.mem_append,List.mem_cons,List.not_mem_nil,or_false]at hz
  rcases hz with hz | hz | rfl
  ·exact h.sub z (by simp[hz])
  ·exact h.sub z (by simp[hz])
  ·exact hx
def vals (ρ:Nat→List Int) (L:List Hn):List (List Int):=L.map fun z=>ρ z.b
def ColSt (k:Nat) (p:Int) (r:List (List Int)) (width base:Nat) (w0:World) (d:Nat) (v5 v11 v12:Value) (w':World):Prop:=
 ∃ (c bc:Nat) (ρ:Nat→List Int) (Z L O:List Hn),c+d=width∧v12=.pointer (some ⟨bc,0,none⟩)∧St base w0 w' c bc width ρ Z L O v5 v11∧((L++O).map Hn.b).Nodup∧(L++O).length < 1000000∧Q4 k p d c (vals ρ L) (vals ρ O)=some r
theorem qjk {α:Type} (P:α→Bool) (d:α):∀ (l:List α) (q:Nat→Bool) (i:Nat),(∀ j,j < l.length→q (i+j)=P (l.getD j d))→
  J0 q l.length i=match l.findIdx? P with | none=> -1 | some m=>((i+m:Nat):Int)
 | [],_,_,_=>rfl
 | x :: l,q,i,h=>by
  have h0:q i=P x:=h 0 (by simp)
  rw[List.length_cons,J0,List.findIdx?_cons,h0]
  cases P x
  ·rw[qjk P d l q (i+1) (fun j hj=>by have:=h (j+1) (by simp;omega);rw[show i+1+j=i+(j+1) by omega,this];rfl)]
   cases l.findIdx? P with
   | none=>rfl
   | some m=>
    simp only[Option.map_some]
    exact congrArg Int.ofNat (by omega)
  ·simp
theorem qi0 {α:Type} (N R:List α) (j:Nat) (v:α) (hl:N.length=R.length) (hj:j < R.length) (hv:N[j]? =some v):(N.take j++R.drop j).set j v=N.take (j+1)++R.drop (j+1):=by
 rw[List.set_append_right _ _ (by simp;omega),List.length_take,Nat.min_eq_left (by omega),Nat.sub_self,List.drop_eq_getElem_cons hj,List.set_cons_zero,List.take_add_one,hv]
 simp
theorem qlw (N R:List Int) (j:Nat) (hl:N.length=R.length) (hj:j < R.length):rd (N.take j++R.drop j) (j:Int)=rd R (j:Int):=by
 have h2:j < N.length:=by omega
 simp[rd,List.getD_eq_getElem?_getD,List.getElem?_append_right,hl,hj,Nat.le_of_lt h2,Nat.min_eq_left (Nat.le_of_lt hj)]
theorem qiz {α:Type} (N R:List α) (hl:N.length=R.length):N.take R.length++R.drop R.length=N:=by
 rw[List.drop_length,List.append_nil,← hl,List.take_length]
theorem qhs (p by_:Int) (R:List Int) (j:Nat) (hj:j < R.length):(j5 p by_ R)[j]? =some (Int.tmod (wrap64 (rd R (j:Int)*by_)) p):=by
 simp[j5,rd,List.getD_eq_getElem?_getD,hj]
theorem qcz (p times:Int) (head:List Int):∀ (R:List Int) (i j:Nat),j < R.length→(Je p times head i R)[j]? =some (modV p (wrap64 (rd R (j:Int) - wrap64 (times*rd head ((i+j:Nat):Int)))))
 | [],_,_,h=>absurd h (by simp)
 | x :: R,i,0,_=>by simp[Je,rd]
 | x :: R,i,j+1,h=>by
  have h2:=qcz p times head R (i+1) j (by simpa using h)
  rw[Je,List.getElem?_cons_succ,h2,show i+1+j=i+(j+1) by omega]
  simp[rd]
theorem qjf (p:Int) (c:Nat) (head R:List Int) (j:Nat) (hj:j < R.length):(Ze p c head R)[j]? =some (modV p (wrap64 (rd R (j:Int) - wrap64 (rd R (c:Int)*rd head (j:Int))))):=by
 have:=qcz p (rd R (c:Int)) head R 0 j hj
 simpa [Ze] using this
theorem qlj (width:Nat):∀ (L:List Rw),(L.map Rw.b).Nodup→(∀ y∈L,y.r.length=width)→∃ (ρ:Nat→List Int) (Z:List Hn),Z.map (Hn.rw ρ)=L∧Z.map (Hn.hd width)=L.map Rw.hd∧vals ρ Z=L.map Rw.r∧Z.map Hn.b=L.map Rw.b
 | [],_,_=>⟨fun _=>[],[],rfl,rfl,rfl,rfl⟩
 | x :: L,hn,hl=>by
  rw[List.map_cons,List.nodup_cons]at hn
  obtain⟨ρ,Z,h1,h2,h3,h4⟩:=qlj width L hn.2 (fun y hy=>hl y (by simp[hy]))
  have hne:∀ z∈Z,z.b≠x.b:=fun z hz e=>hn.1 (by rw[← h4,← e];exact List.mem_map_of_mem hz)
  have e1:Z.map (Hn.rw (upd ρ x.b x.r))=Z.map (Hn.rw ρ):=List.map_congr_left fun z hz=>by simp[Hn.rw,qdv _ _ _ (hne z hz)]
  have e3:vals (upd ρ x.b x.r) Z=vals ρ Z:=List.map_congr_left fun z hz=>by simp[qdv _ _ _ (hne z hz)]
  have hw:=hl x (by simp)
  refine⟨upd ρ x.b x.r,⟨x.b,x.cap⟩ :: Z,?_,?_,?_,?_⟩
  ·rw[List.map_cons,e1,h1];simp[Hn.rw,qaq]
  ·rw[List.map_cons,h2];simp[Hn.hd,Rw.hd,hw]
  ·rw[vals,List.map_cons,← vals,e3,h3];simp[qaq]
  ·rw[List.map_cons,h4];rfl
theorem ColSt.start {k:Nat} {p:Int} {r:List (List Int)} {width base:Nat} {w0 wr w1:World} {L:List Rw} {v5 v11:Value} {bc:Nat} (hw:qhg wr base L) (hlen:∀ y∈L,y.r.length=width) (ho:wr.ownsRow base 23 1 v5 L.length (L.map Rw.hd))
  (hm:∀ k,k < wr.heap.size→w1.heap[k]? =wr.heap[k]?) (hb:Below base w0 w1) (h11:w1.ownsRow base 23 1 v11 0 []) (hne:qdz v5 v11) (hn11:v11.ownBlock≠none) (hbox:w1.heap[bc]? =some (.cells #[.int .i64 (0:Nat)] 3 (0,0))) (hbc:wr.heap.size≤bc) (hbase:base≤bc)
  (htot:L.length < 1000000) (hred:Q4 k p width 0 (L.map Rw.r) []=some r):ColSt k p r width base w0 width v5 v11 (.pointer (some ⟨bc,0,none⟩)) w1:=by
 obtain⟨ρ,Z,h1,h2,h3,h4⟩:=qlj width L hw.2 hlen
 have hmem:∀ z∈Z,z.rw ρ∈L:=fun z hz=>by rw[← h1];exact List.mem_map_of_mem hz
 have hl:Z.length=L.length:=by have:=congrArg List.length h4;simpa using this
 refine⟨0,bc,ρ,Z,Z,[],by omega,rfl,⟨hbox,hbase,fun z hz e=>?_,⟨fun z hz=>?_,by rw[h4];exact hw.2⟩,?_,h11,hne,hn11,by omega,by simp,hb⟩,by simpa [h4] using hw.2,by simp;omega,by rw[h3];exact hred⟩
 ·have:=(hw.1 _ (hmem z hz)).2.lt
  simp only[Hn.rw]at this
  omega
 ·have h5:=hw.1 _ (hmem z hz)
  exact⟨h5.1,h5.2.move (hm _ h5.2.lt),hlen _ (hmem z hz)⟩
 ·rw[h2,hl]
  exact Jp ho (fun k hk=>hm k (qas ho k hk))
theorem ColSt.fin {r:List (List Int)} {width base:Nat} {w0 w':World} {c bc:Nat} {ρ:Nat→List Int} {Z L O:List Hn} {v5 v11:Value} (h:St base w0 w' c bc width ρ Z L O v5 v11) (hn:((L++O).map Hn.b).Nodup) (hr:r=vals ρ O):Kd.S (Kd.slice 3 (Kd.int .i64)) 23 w' base (fun _=>True) v11 r:=by
 subst hr
 have hno:(O.map Hn.b).Nodup:=by rw[List.map_append,List.nodup_append]at hn;exact hn.2.1
 refine⟨fun k=>List.idxOf k (O.map Hn.b),fun _ _=>trivial,O.map (Hn.hd width),by rw[List.length_zipIdx,vals,List.length_map];exact h.own11,?_⟩
 refine⟨by simp[vals,Kd.tag,Kd.slice],fun j p hj=>?_⟩
 rw[List.getElem?_zipIdx,Nat.zero_add]at hj
 obtain⟨q,hq,rfl⟩:=Option.map_eq_some_iff.1 hj
 have hl:j < O.length:=by have:=(List.getElem?_eq_some_iff.1 hq).1;simpa [vals] using this
 have e:ρ O[j].b=q:=by have:=(List.getElem?_eq_some_iff.1 hq).2;simpa [vals] using this
 subst e
 have hm:=h.rows.at_ O[j] (h.sub _ (List.mem_append_right _ (List.getElem_mem hl)))
 refine⟨Hn.hd width O[j],?_,fun k hk=>⟨⟨trivial,fun e=>?_⟩,?_⟩,(ρ O[j].b).map (Value.int .i64),?_,qpf _⟩
 ·show ((O.map (Hn.hd width)).drop (j*1)).take 1=_
  rw[Nat.mul_one,List.drop_eq_getElem_cons (by simpa using hl)]
  simp
 ·have hk2:k=O[j].b:=by simpa [Hn.hd,Value.ownBlock] using hk.symm
  subst hk2
  exact qfp h.own11 hm.2.1 e.symm
 ·have hk2:k=O[j].b:=by simpa [Hn.hd,Value.ownBlock] using hk.symm
  subst hk2
  have:=List.Nodup.idxOf_getElem hno j (by simpa using hl)
  simpa using this
 ·have ho:=hm.2.1.own hm.1
  simp only[Rw.hd,Hn.rw,hm.2.2]at ho
  have e2:Hn.hd width O[j]=.slice (some ⟨O[j].b,0,none⟩) width O[j].cap:=rfl
  rw[e2,hm.2.2]
  exact ho
theorem qky {α:Type} (P:α→Bool) (l:List α) (i:Nat) (h:l.findIdx? P=some i):∃ A x B,l=A++x :: B∧A.length=i:=by
 rw[List.findIdx?_eq_some_iff_getElem]at h
 obtain⟨hi,_⟩:=h
 exact⟨l.take i,l[i],l.drop (i+1),by rw[List.getElem_cons_drop,List.take_append_drop],by simp;omega⟩
theorem qg5 (ρ:Nat→List Int) (c:Nat) (L:List Hn):(vals ρ L).findIdx? (fun row=>rd row (c:Int) !=0)=L.findIdx? (fun z=>rd (ρ z.b) (c:Int) !=0):=by
 rw[vals,List.findIdx?_map];rfl
theorem qo6 {k:Nat} {p:Int} {d c:Nat} {ρ:Nat→List Int} {L O:List Hn} {r:List (List Int)} (h:Q4 k p (d+1) c (vals ρ L) (vals ρ O)=some r) (hf:L.findIdx? (fun z=>rd (ρ z.b) (c:Int) !=0)=none):Q4 k p d (c+1) (vals ρ L) (vals ρ O)=some r:=by
 rw[Q4,qg5,hf]at h
 exact h
theorem qol {k:Nat} {p:Int} {d c:Nat} {ρ:Nat→List Int} {A B O:List Hn} {x:Hn} {r:List (List Int)} (h:Q4 k p (d+1) c (vals ρ (A++x :: B)) (vals ρ O)=some r) (hf:(A++x :: B).findIdx? (fun z=>rd (ρ z.b) (c:Int) !=0)=some A.length):
  ∃ by_,jp.f k (rd (ρ x.b) (c:Int)) p=some by_∧Q4 k p d (c+1) ((vals ρ (A++B)).map (Ze p c (j5 p by_ (ρ x.b)))) ((vals ρ O).map (Ze p c (j5 p by_ (ρ x.b)))++[j5 p by_ (ρ x.b)])=some r:=by
 rw[Q4,qg5,hf]at h
 have e1:(vals ρ (A++x :: B)).getD A.length []=ρ x.b:=by
  simp[vals,List.getD_eq_getElem?_getD]
 have e2:(vals ρ (A++x :: B)).eraseIdx A.length=vals ρ (A++B):=by
  simp[vals,List.eraseIdx_append_of_length_le]
 simp only[e1,e2]at h
 obtain⟨by_,h1,h2⟩:=Option.bind_eq_some_iff.1 h
 exact⟨by_,h1,h2⟩
theorem qno {k:Nat} {p:Int} {d c:Nat} {ρ:Nat→List Int} {L O:List Hn} {x:Hn} {by_:Int} {r:List (List Int)}
  (h:Q4 k p d (c+1) ((vals ρ L).map (Ze p c (j5 p by_ (ρ x.b)))) ((vals ρ O).map (Ze p c (j5 p by_ (ρ x.b)))++[j5 p by_ (ρ x.b)])=some r) (hn:x.b ∉ (L++O).map Hn.b):
  Q4 k p d (c+1) (vals (Z5 (upd ρ x.b (j5 p by_ (ρ x.b))) (fun b=>Ze p c (j5 p by_ (ρ x.b)) (ρ b)) ((L++O).map Hn.b)) L)
   (vals (Z5 (upd ρ x.b (j5 p by_ (ρ x.b))) (fun b=>Ze p c (j5 p by_ (ρ x.b)) (ρ b)) ((L++O).map Hn.b)) (O++[x]))=some r:=by
 have e:∀ M:List Hn,(∀ z∈M,z∈L++O)→vals (Z5 (upd ρ x.b (j5 p by_ (ρ x.b))) (fun b=>Ze p c (j5 p by_ (ρ x.b)) (ρ b)) ((L++O).map Hn.b)) M=(vals ρ M).map (Ze p c (j5 p by_ (ρ x.b))):=by
  intro M hM
  rw[vals,vals,List.map_map]
  exact List.map_congr_left fun z hz=>qmp _ _ _ (List.mem_map_of_mem (hM z hz))
 have e2:∀ M N:List Hn,∀ ρ',vals ρ' (M++N)=vals ρ' M++vals ρ' N:=fun M N ρ'=>by simp[vals]
 rw[e2,e L (fun z hz=>by simp[hz]),e O (fun z hz=>by simp[hz])]
 have e3:vals (Z5 (upd ρ x.b (j5 p by_ (ρ x.b))) (fun b=>Ze p c (j5 p by_ (ρ x.b)) (ρ b)) ((L++O).map Hn.b)) [x]=[j5 p by_ (ρ x.b)]:=by
  simp only[vals,List.map_cons,List.map_nil]
  rw[qcl _ _ _ hn,qaq]
 rw[e3];exact h
theorem qkz {A B O:List Hn} {x:Hn} (h:((A++x :: B++O).map Hn.b).Nodup):x.b ∉ ((A++B)++O).map Hn.b∧(((A++B)++O).map Hn.b).Nodup∧(((A++B)++(O++[x])).map Hn.b).Nodup:=by
 have hp:(A++x :: B++O).Perm (x :: ((A++B)++O)):=by
  rw[List.append_assoc,List.append_assoc,List.cons_append];exact List.perm_middle
 have h1:=(hp.map Hn.b).nodup_iff.1 h
 rw[List.map_cons,List.nodup_cons]at h1
 refine⟨h1.1,h1.2,?_⟩
 have hp2:((A++B)++(O++[x])).Perm (x :: ((A++B)++O)):=by
  rw[← List.append_assoc];exact List.perm_append_singleton _ _
 refine(hp2.map Hn.b).nodup_iff.2 ?_
 rw[List.map_cons,List.nodup_cons];exact h1
theorem qkm (g cap i m:Nat) (hs:List Hd) (w:World) (hH:Sort.Holds hdV w g 0 hs.toArray) (hcap:hs.length≤cap) (hm:cap≤9223372036854775807) (hi:i < hs.length) (hl:hs.length=m+1):
  Calls Try.prog 168 #[.slice (some ⟨g,0,none⟩) hs.length cap,.int .i64 i,.int .i64 ((i+1:Nat):Int)] w fun e w'=>e=.returned (.slice (some ⟨g,0,none⟩) m cap)∧∃ q,w'=Sort.putRow hdV (Sort.ahead w q) g 0 (hs.take i++hs.drop (i+1)++[(none,0,0)]).toArray:=by
 obtain⟨i0,hi0,hz⟩:=Option.map_eq_some_iff.1 Zu
 simp only[Prod.mk.injEq]at hz
 have h:=AnyE.slices_Delete qqq hdV (fun _=>rfl) (none,0,0) (fun w=>by kernel_rfl) i0 hi0 hz.2.1 g 0 cap i (i+1) hs.toArray w hH (by simpa using hcap) hm (by omega) (by simp;omega)
 simp only[List.size_toArray,Nat.add_sub_cancel_left,List.replicate_one]at h
 rw[show hs.length - 1=m by omega]at h
 exact h
theorem qmk (x p:Int) (hp:p≠0) (w:World):Calls Try.prog 126 #[.int .i64 x,.int .i64 p] w fun e w'=>e=.returned (.int .i64 (modV p x))∧w'=w:=by
 have h0:(p == 0)=false:=by simpa using hp
 go_enter Try.func126,Try.ntmps126
 go_wp2;go_ret
 exact⟨rfl,rfl⟩
theorem qcv (w:World) (e:Nat) (base:Nat) (hb:base≤w.heap.size):(w.alloc (.cells #[] e)).ownsRow base e 1 (.slice (some ⟨w.heap.size,0,none⟩) 0 0) 0 []:=
 ⟨rfl,.inr ⟨w.heap.size,0,#[],rfl,hb,(by show (w.heap.push _)[w.heap.size]? =_;simp),Nat.le_refl _,Nat.zero_le _,rfl,rfl⟩⟩
theorem qmq {w:World} {base n:Nat} {v:Value} {r:List Int} (h:w.ownsRow base 3 1 v n (r.map (Value.int .i64))) (hn:0 < n):∃ x:Rw,v=x.hd∧x.r=r∧RowAt w x∧base≤x.b:=by
 obtain⟨hl,⟨_,h0⟩ | ⟨g,cap,cur,rfl,hg,hh,h1,h2,h3,h4⟩⟩:=h
 ·omega
 ·have hn:n=r.length:=by simpa using hl.symm
  subst hn
  exact⟨⟨g,cap,r⟩,rfl,rfl,⟨cur,hh,h1,h2,by simpa using h3,by simpa using h4⟩,hg⟩
theorem qo2 {w:World} {A:Option Addr} {n:Nat} {rows:List (List Int)} (h:Kd.C (Kd.slice 3 (Kd.int .i64)) w A n rows) (j:Nat) (hj:j < rows.length):∃ ad B c,A=some ad∧w.cell? (ad.add j)=some (.slice B (rows[j]).length c)∧(rows[j]).length≤c∧Kd.C (Kd.int .i64) w B (rows[j]).length rows[j]:=by
 obtain⟨hl,hm,hr⟩:=h
 obtain⟨ad,rfl,hc⟩:=hr (by omega)
 obtain⟨cs,_,⟨B,c,rfl,h1,h2⟩,hcell⟩:=hc j _ (List.getElem?_eq_getElem hj)
 refine⟨ad,B,c,rfl,?_,h1,h2⟩
 have:=hcell 0 (.slice B (rows[j]).length c) rfl
 simpa [Kd.slice] using this
theorem zy.calls (k:Nat) (p:Int) (A1:Option Addr) (c1:Nat) (rows r:List (List Int)) (w:World) (hr1:Kd.C (Kd.slice 3 (Kd.int .i64)) w A1 rows.length rows) (hc1:rows.length≤c1) (h:zy.f k p rows=some r):
  Calls Try.prog 152 #[.int .i64 p,.slice A1 rows.length c1] w fun e w'=>∃ v0:Value,e=.returned v0∧Kd.S (Kd.slice 3 (Kd.int .i64)) 23 w' w.heap.size (fun _=>True) v0 r∧Below w.heap.size w w':=by
 have HP:Hid (p≠0):=Lib.hid (by rintro rfl;simp[zy.f]at h)
 have HLEN:Hid (rows.length < 1000000∧(rows.headD []).length < 1000000∧(∀ r∈rows,r.length=(rows.headD []).length)):=Lib.hid (by
  rw[zy.f,if_neg HP.out]at h
  by_cases hc:rows.length < 1000000∧(rows.headD []).length < 1000000∧(∀ r∈rows,r.length=(rows.headD []).length)
  ·exact hc
  ·rw[if_neg hc]at h;exact absurd h (by simp))
 have H:=Lib.hid h
 have HR1:=Lib.hid hr1
 have HC1:=Lib.hid hc1
 clear h hr1 hc1
 go_enter Try.func152,Try.ntmps152
 go_upto_block 0 with fail
 go_step
 go_loopw [5,24] (fun v i w'=>∃ (j:Nat) (L:List Rw),j≤rows.length∧i=.int .i64 j∧L.map Rw.r=(rows.take j).map (fun r=>r.map (modV p))∧qhg w' w.heap.size L∧w'.ownsRow w.heap.size 23 1 v L.length (L.map Rw.hd)∧Below w.heap.size w w') (fun _ i _=>rows.length - (intOf i).toNat)
 case atStart=>exact⟨0,[],by omega,rfl,rfl,⟨by simp,by simp⟩,qcv w 23 _ (Nat.le_refl _),(Below.refl _ _).alloc (Nat.le_refl _) _⟩
 case round =>
  obtain⟨j,L,hj,rfl,hL,hrows,hown,hB⟩:=hrel
  by_cases hlt:j < rows.length
  ·obtain⟨ad,B,c,rfl,hx,hbc,hC⟩:=qo2 (Kd.C_below HR1.out hB) j hlt
   have c1b:decide ((j:Int) < (rows.length:Int))=true:=decide_eq_true (by omega)
   have p1:(0≤(j:Int))=True:=eq_true (by omega)
   have q1:((j:Int) < (rows.length:Int))=True:=eq_true (by omega)
   obtain⟨row,hrow⟩:∃ row,rows[j]=row:=⟨_,rfl⟩
   rw[hrow]at hx hbc hC
   have HRL:Hid (row.length < 1000000):=Lib.hid (by
    obtain⟨h1,h2,h3⟩:=HLEN.out
    rw[h3 row (hrow ▸ List.getElem_mem hlt)];exact h2)
   have HL:=Lib.hid hL
   have HRW:=Lib.hid hrows
   have HO:=Lib.hid hown
   have HB:=Lib.hid hB
   have HCR:=Lib.hid hC
   have HBC:=Lib.hid hbc
   have HLT:=Lib.hid hlt
   have HROW:Hid (rows[j]? =some row):=Lib.hid (by rw[List.getElem?_eq_getElem hlt,hrow])
   clear hrow;clear hL hrows hown hB hC hbc hlt hj
   go_upto_block 2 with fail
   go_step
   obtain⟨w0,hw0⟩:∃ w0,wr=w0:=⟨_,rfl⟩
   have ha0:RowAt (w0.alloc (.cells #[] 3)) ⟨w0.heap.size,0,[]⟩:=⟨#[],by show (w0.heap.push _)[w0.heap.size]? =_;simp,Nat.le_refl _,Nat.zero_le _,rfl,rfl⟩
   rw[hw0]
   rw[hw0]at HRW HO HB HCR
   go_loopw [8,31] (fun v i w'=>∃ (m:Nat) (x:Rw),m≤row.length∧i=.int .i64 m∧v=x.hd∧x.r=(row.take m).map (modV p)∧RowAt w' x∧w0.heap.size≤x.b∧Below w0.heap.size w0 w') (fun _ i _=>row.length - (intOf i).toNat)
   case atStart=>exact⟨0,⟨w0.heap.size,0,[]⟩,by omega,rfl,rfl,rfl,ha0,Nat.le_refl _,(Below.refl _ _).alloc (Nat.le_refl _) _⟩
   case round=>
    clear ha0 hx hw0
    obtain⟨m,x,hm,rfl,rfl,hxr,hxa,hxb,hB2⟩:=hrel
    by_cases hmt:m < row.length
    ·obtain⟨adB,e,hy⟩:=Kd.at_int (Kd.C_below HCR.out hB2) (m:Int) (by omega) (by omega)
     subst e
     simp only[Int.toNat_natCast]at hy
     have c2b:decide ((m:Int) < (row.length:Int))=true:=decide_eq_true (by omega)
     have p2:(0≤(m:Int))=True:=eq_true (by omega)
     have q2:((m:Int) < (row.length:Int))=True:=eq_true (by omega)
     have HXR:=Lib.hid hxr
     have HXA:=Lib.hid hxa
     have HXB:=Lib.hid hxb
     have HB2:=Lib.hid hB2
     have HMT:=Lib.hid hmt
     clear hxr hxa hxb hB2 hmt hm
     go_wp2_with fail
     refine(Z1.calls _ _ _ _ (qdr p (rd row (m:Int)) HP.out)).mono ?_
     rintro e w1 ⟨rfl,⟨q,rfl⟩⟩
     have HXA':Hid (RowAt (wr.drewN q) x):=HXA
     have HB2':Hid (Below w0.heap.size w0 (wr.drewN q)):=Lib.hid (Ql HB2.out q)
     clear HXA HB2 hy
     generalize wr.drewN q=w2 at HXA' HB2' ⊢
     go_wp2_with (first | ((with_reducible refine zb (N:=40) rfl ?_);refine Zj (w0:=w0) (W:=w2) w0.heap.size (by rfl) (.tmp 35) (.tmp 39) 23 3 (.int .i64 0) 1 8 rfl Try.underlying23 Jm rfl (by decide) (by decide) x.hd x.r.length (x.r.map (Value.int .i64)) [.int .i64 (modV p (rd row (m:Int)))] rfl rfl rfl (by simp[Value.oneCell']) (HXA'.out.own HXB.out) HB2'.out HB2'.out.size (by have:=HMT.out;have:=HRL.out;have e:=congrArg List.length HXR.out;simp at e;omega) ?_))
     intro v1 w1 hown1 hb1 hg1 hat1
     rw[← List.map_singleton,← List.map_append]at hown1
     obtain⟨x1,rfl,hx1,hx2,hx3⟩:=qmq hown1 (by omega)
     clear hown1 hg1 hat1
     have HX1:=Lib.hid hx1
     have HX2:=Lib.hid hx2
     have HX3:=Lib.hid hx3
     have HBX:=Lib.hid hb1
     clear hx1 hx2 hx3 hb1;go_wp2
     have hw1:wrap64 ((m:Int)+1)=((m+1:Nat):Int):=by have:=HMT.out;have:=HRL.out;unfold wrap64;omega
     go_roundw
     case measure=>rw[hw1];simp only[intOf];have:=HMT.out;omega
     case rel=>
      refine⟨m+1,x1,by have:=HMT.out;omega,by rw[hw1],rfl,?_,HX2.out,HX3.out,HBX.out⟩
      rw[HX1.out,HXR.out,List.take_add_one,List.map_append,List.getElem?_eq_getElem HMT.out]
      simp[rd,List.getD_eq_getElem?_getD,HMT.out]
    ·have hme:m=row.length:=by omega
     subst hme
     have HXR:=Lib.hid hxr
     have HXA:=Lib.hid hxa
     have HXB:=Lib.hid hxb
     have HB2:=Lib.hid hB2
     have HOW:Hid (wr.ownsRow w.heap.size 23 1 u5 L.length (L.map Rw.hd)):=Lib.hid (Jp HO.out (fun k hk=>hB2.block k (qas HO.out k hk)))
     have HRW2:Hid (qhg wr w.heap.size L):=Lib.hid ⟨fun y hy=>⟨(HRW.out.1 y hy).1,(HRW.out.1 y hy).2.move (hB2.block y.b (HRW.out.1 y hy).2.lt)⟩,HRW.out.2⟩
     have HNE:Hid (∀ y∈L,y.b≠x.b):=Lib.hid (fun y hy=>by have:=(HRW.out.1 y hy).2.lt;omega)
     have HLL:Hid (L.length=j):=Lib.hid (by have e:=congrArg List.length HL.out;have:=HLT.out;simp at e;omega)
     have HBB:Hid (Below w.heap.size w wr):=Lib.hid (HB.out.trans (hB2.mono HB.out.size))
     clear hxr hxa hxb hB2 hmt hm
     simp only[Rw.hd]
     go_wp2_with (first | ((with_reducible refine zb (N:=45) rfl ?_);refine Zj (w0:=w) (W:=wr) w.heap.size (by rfl) (.tmp 42) (.tmp 44) 47 23 (.slice none 0 0) 1 24 rfl Try.underlying47 Zu rfl (by decide) (by decide) u5 L.length (L.map Rw.hd) [x.hd] rfl rfl rfl (by simp[Rw.hd,Value.oneCell']) HOW.out HBB.out HBB.out.size (by have:=HLL.out;have:=HLT.out;have:=HLEN.out.1;omega) ?_))
     intro v1 w1 hown1 hb1 hg1 hat1
     have HO1:Hid (w1.ownsRow w.heap.size 23 1 v1 (L++[x]).length ((L++[x]).map Rw.hd)):=Lib.hid (by simpa using hown1)
     have HR1':Hid (qhg w1 w.heap.size (L++[x])):=Lib.hid (by
      have hm:∀ y:Rw,RowAt wr y→RowAt w1 y:=fun y hy=>hy.move (hg1.block y.b hy.lt (fun e=>qfp HOW.out hy e.symm))
      refine⟨fun y hy=>?_,?_⟩
      ·rcases List.mem_append.1 hy with hy | hy
       ·exact⟨(HRW2.out.1 y hy).1,hm y (HRW2.out.1 y hy).2⟩
       ·rw[List.mem_singleton]at hy
        subst hy
        exact⟨by have:=HXB.out;have:=HB.out.size;omega,hm y HXA.out⟩
      ·rw[List.map_append,List.map_singleton,List.nodup_append]
       refine⟨HRW2.out.2,by simp,?_⟩
       intro a ha b hb
       rw[List.mem_singleton]at hb
       subst hb
       obtain⟨y,hy,rfl⟩:=List.mem_map.1 ha
       exact HNE.out y hy)
     have HB1:=Lib.hid hb1
     clear hown1 hb1 hg1 hat1;go_wp2
     have hw1:wrap64 ((j:Int)+1)=((j+1:Nat):Int):=by have:=HLT.out;have:=HLEN.out.1;unfold wrap64;omega
     go_roundw
     case measure=>rw[hw1];simp only[intOf];have:=HLT.out;omega
     case rel=>
      refine⟨j+1,L++[x],by have:=HLT.out;omega,by rw[hw1],?_,HR1'.out,HO1.out,HB1.out⟩
      rw[List.map_append,HL.out,List.take_add_one,List.map_append,HROW.out]
      simp[HXR.out]
  ·have hje : j = rows.length := by omega
   subst hje
   have HL:=Lib.hid hL
   have HRW:=Lib.hid hrows
   have HO:=Lib.hid hown
   have HB:=Lib.hid hB
   clear hL hrows hown hB hlt hj HR1 HC1
   obtain⟨width,hwd⟩:∃ width,(rows.headD []).length=width:=⟨_,rfl⟩
   go_upto_block 4 with fail
   have hI:ColSt k p r width w.heap.size w width u5 (.slice (some ⟨wr.heap.size,0,none⟩) 0 0) (.pointer (some ⟨wr.heap.size+1,0,none⟩)) ((wr.alloc (.cells #[] 23)).alloc (.cells #[.int .i64 0] 3)):=by
    have hsz:=HB.out.size
    refine ColSt.start HRW.out ?_ HO.out (fun k hk=>by rw[Below.heap_alloc _ _ _ (by simp;omega),Below.heap_alloc _ _ _ hk]) ((HB.out.alloc hsz _).alloc (by simp;omega) _) ?_ ?_ (by simp[Value.ownBlock]) ?_ (by omega) (by omega) ?_ ?_
    ·intro y hy
     have h1:y.r∈L.map Rw.r:=List.mem_map_of_mem hy
     rw[HL.out,List.take_length]at h1
     obtain⟨q,hq,e⟩:=List.mem_map.1 h1
     rw[← e,List.length_map,HLEN.out.2.2 q hq,hwd]
    ·have h1:=qcv wr 23 w.heap.size hsz
     exact Jp h1 (fun k hk=>by
      have hlt:=qas h1 k hk
      rw[Below.heap_alloc _ _ _ hlt])
    ·intro k hk e
     have hlt:=qas HO.out k hk
     have:k=wr.heap.size:=by simpa [Value.ownBlock] using e.symm
     omega
    ·have:=qcy (wr.alloc (.cells #[] 23)) (.cells #[.int .i64 0] 3)
     simpa using this
    ·have e:=congrArg List.length HL.out
     have:=HLEN.out.1
     simp at e
     omega
    ·have h1:=H.out
     rw[zy.f,if_neg HP.out,if_pos HLEN.out,hwd]at h1
     rw[HL.out,List.take_length]
     exact h1
   have HI:=Lib.hid hI
   have HWD:Hid (width < 1000000):=Lib.hid (by rw[← hwd];exact HLEN.out.2.1)
   clear hI HL HRW HO HB H hwd HLEN
   obtain⟨wx,hwx⟩:∃ wx,(wr.alloc (.cells #[] 23)).alloc (.cells #[.int .i64 0] 3)=wx:=⟨_,rfl⟩
   rw[hwx]at HI
   rw[hwx]
   clear hwx
   go_step
   go_loopg [5,11,12] width (fun kq v5 v11 v12 w'=>ColSt k p r width w.heap.size w kq v5 v11 v12 w')
   case atStart=>exact HI.out
   case round =>
    clear HI
    obtain⟨c,bc,ρ,Z,L,O,hcd,rfl,hst,hnd,htot,hred⟩:=hrel
    obtain⟨w1,hw1⟩:∃ w1,wr=w1:=⟨_,rfl⟩
    have HCD:=Lib.hid hcd
    have HST:=Lib.hid hst
    have HND:=Lib.hid hnd
    have HTOT:=Lib.hid htot
    have HRED:=Lib.hid hred
    have hc0:wr.cell? ⟨bc,0,none⟩=some (.int .i64 c):=(qe hst.box 0).trans rfl
    clear hcd hst hnd htot hred hw1
    cases L with
    | nil=>
     obtain⟨A5,cap5,rfl⟩:=qf1 HST.out.own5
     have HRES:Hid (Kd.S (Kd.slice 3 (Kd.int .i64)) 23 wr w.heap.size (fun _=>True) u11 r):=Lib.hid (ColSt.fin HST.out HND.out (by have h:=HRED.out;rw[vals,List.map_nil,qd0]at h;exact(Option.some.inj h).symm))
     have hd0:decide ((0:Int)>0)=false:=rfl
     go_wp2
     go_quiet (fail)
     go_wp2;go_ret
     exact⟨u11,rfl,Kd.S_drewN HRES.out nq,Ql HST.out.below nq⟩
    | cons y L=>
     obtain⟨g5,cap5,cur5,rfl,hg5,hh5,hc5,hm5,hs5,ht5⟩:=qcu HST.out.own5 (.inr (by simp))
     have hx5:wr.cell? ⟨g5,0,none⟩=some (.slice (some ⟨y.b,0,none⟩) width y.cap):=qbw hh5 ht5 0 (by simp) _ (by simp[Hn.hd])
     have HM5:=Lib.hid hm5
     have HC5:=Lib.hid hc5
     clear hg5 hh5 hc5 hm5 hs5 ht5
     have HLY:Hid ((y :: L).length=L.length+1):=Lib.hid rfl
     generalize hn5:(y :: L).length=n5 at*
     have hd0:decide (0 < n5)=true:=decide_eq_true (by have:=HLY.out;omega)
     have q0:(0 < n5)=True:=eq_true (by have:=HLY.out;omega)
     have HN5:=Lib.hid hn5
     clear hn5
     cases gk with
     | zero=>
      have hcw:c=width:=HCD.out
      subst hcw
      have HRES:Hid (Kd.S (Kd.slice 3 (Kd.int .i64)) 23 wr w.heap.size (fun _=>True) u11 r):=Lib.hid (ColSt.fin HST.out HND.out (Option.some.inj HRED.out).symm)
      go_wp2
      go_quiet (fail)
      go_wp2;go_ret
      exact⟨u11,rfl,Kd.S_drewN HRES.out nq,Ql HST.out.below nq⟩
     | succ d =>
      have hd1:decide (c < width)=true:=decide_eq_true (by have:=HCD.out;omega)
      go_wp2
      go_quiet (fail)
      clear hx5 hc0 hd0 hd1 q0
      have HST2:=Lib.hid (HST.out.drewN nq)
      clear HST
      generalize wr.drewN nq=w2 at HST2 ⊢
      go_wp2_with fail
      have hcol:∀ (j:Nat) (w3:World),j < (y :: L).length→Drawn0 w2 w3→Calls Try.prog 167 (#[Hn.hd width ((y :: L).getD j y)]++#[.pointer (some ⟨bc,0,none⟩)]) w3 fun e w'=>e=.returned (.bool (rd (ρ ((y :: L).getD j y).b) (c:Int) !=0))∧Drawn0 w3 w':=by
       rintro j w3 hj ⟨q,rfl⟩
       have hz:(y :: L).getD j y∈Z:=HST2.out.sub _ (List.mem_append_left _ (by rw[List.getD_eq_getElem?_getD,List.getElem?_eq_getElem hj];exact List.getElem_mem hj))
       exact qjh _ bc c _ width _ #[] _ (by omega) (by have:=HCD.out;omega) HST2.out.box (HST2.out.rows.cell hz c (by have:=HCD.out;omega))
      have hcells:∀ j,j < (y :: L).length→w2.cell? ⟨g5,j,none⟩=some (Hn.hd width ((y :: L).getD j y)):=by
       intro j hj
       have h5:=HST2.out.own5
       obtain⟨g,cap,cur,e,_,hh,_,_,_,ht⟩:=qcu h5 (.inl (by simp[Value.ownBlock]))
       injection e with e1 _ _
       injection e1 with e1
       injection e1 with e1
       subst e1
       exact qbw hh ht j hj _ (by rw[List.getElem?_map,List.getElem?_eq_getElem hj,List.getD_eq_getElem?_getD,List.getElem?_eq_getElem hj];rfl)
      have hfst:=qjk (fun z:Hn=>rd (ρ z.b) (c:Int) !=0) y (y :: L) (fun j=>rd (ρ ((y :: L).getD j y).b) (c:Int) !=0) 0 (fun j hj=>by simp)
      have hcall:=qgb 167 #[.pointer (some ⟨bc,0,none⟩)] (fun j=>rd (ρ ((y :: L).getD j y).b) (c:Int) !=0) (fun j=>Hn.hd width ((y :: L).getD j y)) g5 (y :: L).length cap5 w2 (by have:=HC5.out;have:=HM5.out;have:=HN5.out;unfold maxLen at*;omega) hcells (Go.Proofs.enters_of Try.func167 (by kernel_rfl) rfl) hcol
      have HCALL:=Lib.hid hcall
      have HFST:=Lib.hid hfst
      clear hcall hfst hcol hcells
      rw[HFST.out,HN5.out]at HCALL
      cases hf:(y :: L).findIdx? (fun z:Hn=>rd (ρ z.b) (c:Int) !=0) with
      | none=>
       rw[hf]at HCALL
       have HF:=Lib.hid hf
       clear hf
       refine HCALL.out.mono ?_
       rintro e w3 ⟨rfl,⟨q,rfl⟩⟩
       have HST3:=Lib.hid (HST2.out.drewN q)
       clear HCALL HFST HST2
       generalize w2.drewN q=w4 at HST3 ⊢
       have hc0:w4.cell? ⟨bc,0,none⟩=some (.int .i64 c):=(qe HST3.out.box 0).trans rfl
       go_wp2
       have hw1:wrap64 ((c:Int)+1)=((c+1:Nat):Int):=by have:=HCD.out;have:=HWD.out;unfold wrap64;omega
       rw[hw1]
       clear hw1 hc0
       go_roundg d
       case measure=>omega
       case rel=>exact⟨c+1,w4.heap.size,ρ,Z,y :: L,O,by have:=HCD.out;omega,rfl,HST3.out.next HST3.out.below.size,HND.out,HTOT.out,qo6 HRED.out HF.out⟩
      | some i=>
       rw[hf]at HCALL
       obtain⟨A,x,B,hsp,rfl⟩:=qky _ _ _ hf
       rw[hsp]at hf HST2 HRED HND HN5 HTOT
       have HF:=Lib.hid hf
       refine HCALL.out.mono ?_
       rintro e w3 ⟨rfl,⟨q,rfl⟩⟩
       have HST3:=Lib.hid (HST2.out.drewN q)
       clear HCALL HFST HST2 hf HLY hsp
       generalize w2.drewN q=w4 at HST3 ⊢
       have hlen:n5=A.length+1+B.length:=by have:=HN5.out;simp at this;omega
       have hi0:decide ((A.length:Int) < 0)=false:=decide_eq_false (by omega)
       have p1:(0≤(A.length:Int))=True:=eq_true (by omega)
       have q1:((A.length:Int) < (n5:Int))=True:=eq_true (by omega)
       have hx5:w4.cell? ⟨g5,A.length,none⟩=some (.slice (some ⟨x.b,0,none⟩) width x.cap):=by
        have h5:=HST3.out.own5
        obtain⟨g,cap,cur,e,_,hh,_,_,_,ht⟩:=qcu h5 (.inl (by simp[Value.ownBlock]))
        injection e with e1 _ _
        injection e1 with e1
        injection e1 with e1
        subst e1
        exact qbw hh ht A.length (by omega) _ (by simp[Hn.hd])
       have hw1:wrap64 ((A.length:Int)+1)=((A.length+1:Nat):Int):=by have:=HC5.out;have:=HM5.out;unfold maxLen at*;unfold wrap64;omega
       have HLEN5:=Lib.hid hlen
       have HW1:=Lib.hid hw1
       clear hlen hw1
       go_wp2_with fail
       have HX:Hid (x∈Z):=Lib.hid (HST3.out.sub x (by simp))
       have HL6:Hid ((A++B).length+1=n5):=Lib.hid (by have:=HLEN5.out;simp;omega)
       have hst3:=HST3.out
       rw[← HN5.out]at hst3
       have hcall:=qkm g5 cap5 A.length (A++B).length ((A++x :: B).map (Hn.pair width)) w4 (by have h5:=hst3.own5;rw[qaz]at h5;exact qm3 h5) (by rw[List.length_map,HN5.out];exact HC5.out) (by have:=HM5.out;unfold maxLen at this;omega) (by rw[List.length_map,HN5.out,HLEN5.out];omega) (by rw[List.length_map,HN5.out,HL6.out])
       rw[List.length_map,HN5.out,← HW1.out]at hcall
       have HCALL:=Lib.hid hcall
       clear hcall hx5 hi0 p1 q1
       refine HCALL.out.mono ?_
       rintro e w5 ⟨rfl,⟨q2,rfl⟩⟩
       have HST5:=Lib.hid (hst3.del (q:=q2) (zr:=(none,0,0)))
       clear HCALL HST3 hst3 HW1 HLEN5
       generalize Sort.putRow hdV (Sort.ahead w4 q2) g5 0 _=w6 at HST5 ⊢
       obtain⟨n6,hn6⟩:∃ n6,(A++B).length=n6:=⟨_,rfl⟩
       rw[hn6]at HST5 HL6 ⊢
       have HN6:=Lib.hid hn6
       obtain⟨R,hR⟩:∃ R,ρ x.b=R:=⟨_,rfl⟩
       have HRL:Hid (R.length=width):=Lib.hid (by rw[← hR];exact(HST5.out.rows.at_ x HX.out).2.2)
       have hc0:w6.cell? ⟨bc,0,none⟩=some (.int .i64 c):=(qe HST5.out.box 0).trans rfl
       have hxc:w6.cell? ⟨x.b,c,none⟩=some (.int .i64 (rd R (c:Int))):=by rw[← hR];exact HST5.out.rows.cell HX.out c (by have:=HCD.out;omega)
       have p1:(0≤(c:Int))=True:=eq_true (by omega)
       have q1:((c:Int) < (width:Int))=True:=eq_true (by have:=HCD.out;omega)
       obtain⟨by_,hinv,hred2⟩:=qol HRED.out HF.out
       rw[hR]at hinv hred2
       have HINV:=Lib.hid hinv
       have HRED2:=Lib.hid hred2
       have HR:=Lib.hid hR
       clear hn6 hR hinv hred2 HRED HF
       go_wp2_with fail
       refine(jp.calls _ _ _ _ _ HINV.out).mono ?_
       rintro e w7 ⟨rfl,⟨q3,rfl⟩⟩
       have HST7:=Lib.hid (HST5.out.drewN q3)
       clear HST5 hc0 hxc p1 q1
       generalize w6.drewN q3=w7 at HST7 ⊢
       go_upto_block 6 with fail
       go_step
       go_loopw [83] (fun i w'=>∃ j:Nat,j≤width∧i=.int .i64 j∧St w.heap.size w w' c bc width (upd ρ x.b ((j5 p by_ R).take j++R.drop j)) Z (A++B) O (.slice (some ⟨g5,0,none⟩) n6 cap5) u11) (fun i _=>width - (intOf i).toNat)
       case atStart=>
        refine⟨0,by omega,rfl,?_⟩
        rw[List.take_zero,List.drop_zero,List.nil_append,← HR.out,qio]
        exact HST7.out
       case round=>
        clear HST7
        obtain⟨j,hj,rfl,hst⟩:=hrel
        have HJ:=Lib.hid hj
        have HST:=Lib.hid hst
        clear hj hst
        by_cases hlt:j < width
        ·have hd2:decide (j < width)=true:=decide_eq_true hlt
         have p1:(0≤(j:Int))=True:=eq_true (by omega)
         have q1:((j:Int) < (width:Int))=True:=eq_true (by omega)
         have hx1:wr.cell? ⟨x.b,j,none⟩=some (.int .i64 (rd R (j:Int))):=by
          rw[HST.out.rows.cell HX.out j hlt,qaq,qlw _ _ _ (by simp[j5]) (by have:=HRL.out;omega)]
         have hf1:wr.frozen? ⟨x.b,j,none⟩=false:=HST.out.rows.frozen HX.out j
         have HLT:=Lib.hid hlt
         clear hlt;go_wp2
         have hw1:wrap64 ((j:Int)+1)=((j+1:Nat):Int):=by have:=HLT.out;have:=HWD.out;unfold wrap64;omega
         go_roundw
         case measure=>rw[hw1];simp only[intOf];have:=HLT.out;omega
         case rel=>
          refine⟨j+1,by have:=HLT.out;omega,by rw[hw1],?_⟩
          have h:=HST.out.set HX.out j (Int.tmod (wrap64 (rd R (j:Int)*by_)) p)
          rw[qaq,qk9,qi0 _ _ _ _ (by simp[j5]) (by have:=HRL.out;have:=HLT.out;omega) (qhs _ _ _ _ (by have:=HRL.out;have:=HLT.out;omega))]at h
          exact h
        ·have hjw:j=width:=by have:=HJ.out;omega
         subst hjw
         have hst:=HST.out
         rw[← HRL.out,qiz _ _ (by simp[j5]),HRL.out]at hst
         have HSTA:=Lib.hid hst
         obtain⟨A11,cap11,e11⟩:=qf1 hst.own11
         subst e11;clear HST hst HJ hlt
         obtain⟨w8,hw8⟩:∃ w8,wr=w8:=⟨_,rfl⟩
         rw[hw8]at HSTA ⊢
         clear hw8
         have hb0:Below w.heap.size w (w8.alloc (.cells #[] 23)):=HSTA.out.below.alloc HSTA.out.below.size _
         have hst0:=HSTA.out.grown hb0 (fun k hk=>Below.heap_alloc _ _ _ hk)
         obtain⟨P1,hP1⟩:∃ P1,(A++B).map (Hn.pair j)=P1:=⟨_,rfl⟩
         obtain⟨P2,hP2⟩:∃ P2,O.map (Hn.pair j)=P2:=⟨_,rfl⟩
         have hl1:P1.length=n6:=by rw[← hP1,List.length_map,HN6.out]
         have hl2:P2.length=O.length:=by rw[← hP2,List.length_map]
         have hread5:ReadsOf hdV (none,0,0) (w8.alloc (.cells #[] 23)) (some ⟨g5,0,none⟩) n6 P1:=by
          have h5:=hst0.own5
          rw[qaz,HN6.out,hP1]at h5
          exact qcf h5
         have hown0:(w8.alloc (.cells #[] 23)).ownsRow w.heap.size 23 1 (.slice (some ⟨w8.heap.size,0,none⟩) 0 0) 0 (encs hdV []):=qcv w8 23 _ HSTA.out.below.size
         have hbnd:Hid (n6+O.length < 2000000):=Lib.hid (by have h1:=HTOT.out;have h2:=HN6.out;simp at h1 h2;omega)
         have HL1:=Lib.hid hl1
         have HL2:=Lib.hid hl2
         have HP1:=Lib.hid hP1
         have HP2:=Lib.hid hP2
         have HB0:=Lib.hid hb0
         have HST0:=Lib.hid hst0
         have HREAD5:=Lib.hid hread5
         have HOWN0:=Lib.hid hown0
         clear hb0 hst0 hread5 hown0 hP1 hP2 hl1 hl2
         go_wp2_with (first | ((with_reducible refine zb (N:=100) rfl ?_);refine J7 (w0:=w) (W:=w8.alloc (.cells #[] 23)) hdV (none,0,0) w.heap.size (by rfl) (.tmp 98) (.tmp 99) 47 23 (.slice none 0 0) 24 rfl Try.underlying47 Zu rfl (by decide) (fun _=>rfl) (.slice (some ⟨w8.heap.size,0,none⟩) 0 0) [] P1 (some ⟨g5,0,none⟩) n6 cap5 rfl rfl HOWN0.out HREAD5.out HB0.out HB0.out.size (by have:=hbnd.out;simp;omega) ?_))
         intro v1 w9 hown1 hb1 hg1 hat1
         have hst1:St w.heap.size w w9 c bc j (upd ρ x.b (j5 p by_ R)) Z (A++B) O (.slice (some ⟨g5,0,none⟩) n6 cap5) (.slice A11 O.length cap11):=HSTA.out.grown hb1 (fun k hk=>by
          rw[hg1.block k (by simp;omega) (by simp[Value.ownBlock];omega)]
          exact Below.heap_alloc _ _ _ hk)
         have hread11:ReadsOf hdV (none,0,0) w9 A11 O.length P2:=by
          have h5:=hst1.own11
          rw[qaz,HP2.out]at h5
          exact qcf h5
         have HBLK:Hid (∀ k,v1.ownBlock=some k→w8.heap.size≤k):=Lib.hid (by
          intro k hk
          rcases hat1 with e | ⟨b,e,hb⟩
          ·rw[e]at hk;simp[Value.ownBlock]at hk;omega
          ·rw[e]at hk;injection hk with hk;(try simp at hb);omega)
         have HG1:Hid (w8.heap.size≤w9.heap.size∧∀ k,k < w8.heap.size→w9.heap[k]? =w8.heap[k]?):=Lib.hid ⟨by have:=hg1.size;simp at this;omega,fun k hk=>by
          rw[hg1.block k (by simp;omega) (by simp[Value.ownBlock];omega)]
          exact Below.heap_alloc _ _ _ hk⟩
         have hown1':w9.ownsRow w.heap.size 23 1 v1 P1.length (encs hdV P1):=by simpa using hown1
         have HOWN1:=Lib.hid hown1'
         have HB1:=Lib.hid hb1
         have HST1:=Lib.hid hst1
         have HREAD11:=Lib.hid hread11
         clear hown1 hown1' hb1 hg1 hat1 hst1 hread11 HB0 HST0 HREAD5 HOWN0
         go_wp2_with (first | ((with_reducible refine zb (N:=102) rfl ?_);refine J7 (w0:=w) (W:=w9) hdV (none,0,0) w.heap.size (by rfl) (.tmp 100) (.tmp 101) 47 23 (.slice none 0 0) 24 rfl Try.underlying47 Zu rfl (by decide) (fun _=>rfl) v1 P1 P2 A11 O.length cap11 rfl rfl HOWN1.out HREAD11.out HB1.out HB1.out.size (by have:=hbnd.out;have:=HL1.out;omega) ?_))
         intro v2 w10 hown2 hb2 hg2 hat2
         have hst2:St w.heap.size w w10 c bc j (upd ρ x.b (j5 p by_ R)) Z (A++B) O (.slice (some ⟨g5,0,none⟩) n6 cap5) (.slice A11 O.length cap11):=HSTA.out.grown hb2 (fun k hk=>by
          rw[hg2.block k (Nat.lt_of_lt_of_le hk HG1.out.1) (fun e=>by have:=HBLK.out k e.symm;omega)]
          exact HG1.out.2 k hk)
         obtain⟨T,hT⟩:∃ T,A++B++O=T:=⟨_,rfl⟩
         have hTl:P1.length+P2.length=T.length:=by rw[← hT,HL1.out,HL2.out,List.length_append,HN6.out]
         have hown2':w10.ownsRow w.heap.size 23 1 v2 T.length (T.map (Hn.hd j)):=by
          have e:P1++P2=T.map (Hn.pair j):=by rw[← HP1.out,← HP2.out,← List.map_append,hT]
          have h5:w10.ownsRow w.heap.size 23 1 v2 (P1++P2).length (encs hdV (P1++P2)):=by simpa using hown2
          rw[List.length_append,hTl]at h5
          rw[qaz,← e]
          exact h5
         obtain⟨A102,cap102,e102⟩:=qf1 hown2'
         subst e102
         have HOWN2:=Lib.hid hown2'
         have HST2:=Lib.hid hst2
         have HT:=Lib.hid hT
         have HTL:Hid (T.length < 2000000):=Lib.hid (by rw[← hTl,HL1.out,HL2.out];exact hbnd.out)
         clear hown2 hown2' hb2 hg2 hat2 hst2 hT hTl HST1 HG1 HBLK HB1 HOWN1 HREAD11 HSTA HP1 HP2 HL1 HL2 hbnd
         have HPN:=Lib.hid (qkz HND.out)
         rw[HT.out]at HPN
         obtain⟨ρ1,hρ1⟩:∃ ρ1,upd ρ x.b (j5 p by_ R)=ρ1:=⟨_,rfl⟩
         obtain⟨N,hN⟩:∃ N:Nat→List Int,(fun b=>Ze p c (j5 p by_ R) (ρ b))=N:=⟨_,rfl⟩
         rw[hρ1]at HST2
         have HR1:=Lib.hid hρ1
         have HNN:=Lib.hid hN
         clear hρ1 hN
         go_wp2_with fail
         go_loopw [104] (fun i w'=>∃ q:Nat,q≤T.length∧i=.int .i64 q∧St w.heap.size w w' c bc j (Z5 ρ1 N ((T.take q).map Hn.b)) Z (A++B) O (.slice (some ⟨g5,0,none⟩) n6 cap5) (.slice A11 O.length cap11)∧w'.ownsRow w.heap.size 23 1 (.slice A102 T.length cap102) T.length (T.map (Hn.hd j))) (fun i _=>T.length - (intOf i).toNat)
         case atStart=>exact⟨0,Nat.zero_le _,rfl,by rw[List.take_zero,List.map_nil,qk7];exact HST2.out,HOWN2.out⟩
         case round=>
          clear HST2 HOWN2
          obtain⟨q,hq,rfl,hst,hown⟩:=hrel
          have HQ:=Lib.hid hq
          have HST:=Lib.hid hst
          have HOWN:=Lib.hid hown
          obtain⟨wq,hwq⟩:∃ wq,wr=wq:=⟨_,rfl⟩
          rw[hwq]at HST HOWN ⊢
          clear hq hst hown hwq
          by_cases hlt:q < T.length
          ·obtain⟨t,ht⟩:∃ t,T[q]=t:=⟨_,rfl⟩
           have htm:t∈T:=ht ▸ List.getElem_mem hlt
           have htz:t∈Z:=HST.out.sub t (by rw[HT.out];exact htm)
           have htx:t.b≠x.b:=fun e=>HPN.out.1 (e ▸ List.mem_map_of_mem htm)
           have htq:t.b ∉ (T.take q).map Hn.b:=fun e=>by
            have hn:=HPN.out.2.1
            have hsp:T=T.take q++t :: T.drop (q+1):=by rw[← ht,List.getElem_cons_drop,List.take_append_drop]
            rw[hsp,List.map_append,List.map_cons,List.nodup_append]at hn
            exact hn.2.2 _ e _ List.mem_cons_self rfl
           obtain⟨g102,cp102,cur102,e102,_,hh102,_,_,_,ht102⟩:=qcu HOWN.out (.inr (by omega))
           injection e102 with e1 _ e2
           subst e1;subst e2
           have hx0:wq.cell? ⟨g102,q,none⟩=some (.slice (some ⟨t.b,0,none⟩) j t.cap):=by
            exact qbw hh102 ht102 q hlt _ (by rw[List.getElem?_map,List.getElem?_eq_getElem hlt,ht];rfl)
           have hc0:wq.cell? ⟨bc,0,none⟩=some (.int .i64 c):=by exact(qe HST.out.box 0).trans rfl
           obtain⟨Rt,hRt⟩:∃ Rt,ρ t.b=Rt:=⟨_,rfl⟩
           have hcur:Z5 ρ1 N ((T.take q).map Hn.b) t.b=Rt:=by rw[qcl _ _ _ htq,← HR1.out,qdv _ _ _ htx,hRt]
           have hxc:wq.cell? ⟨t.b,c,none⟩=some (.int .i64 (rd Rt (c:Int))):=by rw[← hcur];exact HST.out.rows.cell htz c (by have:=HCD.out;omega)
           have HRTL:Hid (Rt.length=j):=Lib.hid (by rw[← hcur];exact(HST.out.rows.at_ t htz).2.2)
           have hd2:decide (q < T.length)=true:=decide_eq_true hlt
           have p1:(0≤(q:Int))=True:=eq_true (by omega)
           have q1:((q:Int) < (T.length:Int))=True:=eq_true (by omega)
           have p2:(0≤(c:Int))=True:=eq_true (by omega)
           have q2:((c:Int) < (j:Int))=True:=eq_true (by have:=HCD.out;omega)
           have HLT:=Lib.hid hlt
           have HTQ:=Lib.hid htq
           have HTX:=Lib.hid htx
           have HTZ:=Lib.hid htz
           have HTT:Hid (T[q]? =some t):=Lib.hid (by rw[List.getElem?_eq_getElem hlt,ht])
           have HRT:=Lib.hid hRt
           have HCUR:=Lib.hid hcur
           clear hlt ht htm htz htx htq hh102 ht102 hRt hcur
           go_upto_block 10 with fail
           clear hx0 hc0 hxc hd2 p1 q1 p2 q2
           go_step
           go_loopw [114] (fun i w'=>∃ m:Nat,m≤j∧i=.int .i64 m∧St w.heap.size w w' c bc j (upd (Z5 ρ1 N ((T.take q).map Hn.b)) t.b ((N t.b).take m++Rt.drop m)) Z (A++B) O (.slice (some ⟨g5,0,none⟩) n6 cap5) (.slice A11 O.length cap11)∧w'.ownsRow w.heap.size 23 1 (.slice (some ⟨g102,0,none⟩) T.length cap102) T.length (T.map (Hn.hd j))) (fun i _=>j - (intOf i).toNat)
           case atStart=>exact⟨0,Nat.zero_le _,rfl,by rw[List.take_zero,List.drop_zero,List.nil_append,← HCUR.out,qio];exact HST.out,HOWN.out⟩
           case round=>
            clear HST HOWN
            obtain⟨m,hm,rfl,hst,hown⟩:=hrel
            have HM:=Lib.hid hm
            have HST:=Lib.hid hst
            have HOWN:=Lib.hid hown
            have HNT:Hid (N t.b=Ze p c (j5 p by_ R) Rt):=Lib.hid (by rw[← HNN.out,← HRT.out])
            have HNL:Hid ((N t.b).length=Rt.length):=Lib.hid (by rw[HNT.out,Ze,qda])
            clear hm hst hown
            by_cases hlt:m < j
            ·have hd2:decide (m < j)=true:=decide_eq_true hlt
             have p1:(0≤(m:Int))=True:=eq_true (by omega)
             have q1:((m:Int) < (j:Int))=True:=eq_true (by omega)
             have hx1:wr.cell? ⟨t.b,m,none⟩=some (.int .i64 (rd Rt (m:Int))):=by
              rw[HST.out.rows.cell HTZ.out m hlt,qaq,qlw _ _ _ HNL.out (by have:=HRTL.out;omega)]
             have hf1:wr.frozen? ⟨t.b,m,none⟩=false:=HST.out.rows.frozen HTZ.out m
             have hx2:wr.cell? ⟨x.b,m,none⟩=some (.int .i64 (rd (j5 p by_ R) (m:Int))):=by
              rw[HST.out.rows.cell HX.out m hlt,qdv _ _ _ (Ne.symm HTX.out),qcl _ _ _ (fun e=>HPN.out.1 (by obtain⟨z,hz,e2⟩:=List.mem_map.1 e;rw[← e2];exact List.mem_map_of_mem (List.mem_of_mem_take hz))),← HR1.out,qaq]
             have HLT2:=Lib.hid hlt
             clear hlt
             go_upto_region 34 with fail
             go_still_tail 16,(by kernel_rfl)
             still_call (qmk _ _ HP.out _)
             repeat still_step
             refine wpStill_nil ?_
             change wpList _ _ _ _ _ wr.drew
             have hf2:wr.drew.frozen? ⟨t.b,m,none⟩=false:=hf1
             have hx3:wr.drew.cell? ⟨t.b,m,none⟩=some (.int .i64 (rd Rt (m:Int))):=hx1
             have HSTD:=Lib.hid (HST.out.drewN 1)
             have HOWND:Hid (wr.drew.ownsRow w.heap.size 23 1 (.slice (some ⟨g102,0,none⟩) T.length cap102) T.length (T.map (Hn.hd j))):=HOWN
             have e1:wr.drewN 1=wr.drew:=rfl
             rw[e1]at HSTD
             clear HST HOWN hx1 hx2 hf1 e1 hd2
             generalize wr.drew=ws at HSTD HOWND hf2 hx3 ⊢
             go_wp2_with fail
             have hw1:wrap64 ((m:Int)+1)=((m+1:Nat):Int):=by have:=HLT2.out;have:=HWD.out;unfold wrap64;omega
             go_roundw
             case measure=>rw[hw1];simp only[intOf];have:=HLT2.out;omega
             case rel=>
              refine⟨m+1,by have:=HLT2.out;omega,by rw[hw1],?_,qhe HSTD.out.rows HTZ.out HOWND.out m _⟩
              have h:=HSTD.out.set HTZ.out m (modV p (wrap64 (rd Rt (m:Int) - wrap64 (rd Rt (c:Int)*rd (j5 p by_ R) (m:Int)))))
              have hml:m < Rt.length:=by have:=HRTL.out;have:=HLT2.out;omega
              rw[qaq,qk9,qi0 _ _ _ _ HNL.out hml (by rw[HNT.out];exact qjf _ _ _ _ _ hml)]at h
              exact h
            ·have hmj:m=j:=by have:=HM.out;omega
             have hst:=HST.out
             rw[hmj,← HRTL.out,qiz _ _ HNL.out,qj4,HRTL.out]at hst
             have hlast:(T.take q).map Hn.b++[t.b]=(T.take (q+1)).map Hn.b:=by
              rw[List.take_add_one,List.map_append,HTT.out];rfl
             rw[hlast]at hst
             have HSTE:=Lib.hid hst
             subst hmj;clear hst hlast HST hlt
             go_wp2_with fail
             have hw1:wrap64 ((q:Int)+1)=((q+1:Nat):Int):=by have:=HLT.out;have:=HTL.out;unfold wrap64;omega
             go_roundw
             case measure=>rw[hw1];simp only[intOf];have:=HLT.out;omega
             case rel=>exact⟨q+1,by have:=HLT.out;omega,by rw[hw1],HSTE.out,HOWN.out⟩
          ·have hqe:q=T.length:=by have:=HQ.out;omega
           subst hqe
           have hst:=HST.out
           rw[List.take_length]at hst
           have HSTF:=Lib.hid hst
           have HOWF:=Lib.hid hst.own11
           have HBF:=Lib.hid hst.below
           clear hst HST HOWN hlt HQ
           go_wp2_with (first | ((with_reducible refine zb (N:=138) rfl ?_);refine Zj (w0:=w) (W:=wq) w.heap.size (by rfl) (.tmp 135) (.tmp 137) 47 23 (.slice none 0 0) 1 24 rfl Try.underlying47 Zu rfl (by decide) (by decide) (.slice A11 O.length cap11) O.length (O.map (Hn.hd j)) [.slice (some ⟨x.b,0,none⟩) j x.cap] rfl rfl rfl (by simp[Value.oneCell']) HOWF.out HBF.out HBF.out.size (by have h:=HTOT.out;simp at h;omega) ?_))
           intro v3 w11 hown3 hb3 hg3 hat3
           have hst3:=HSTF.out.done (x:=x) HX.out hown3 hb3 hg3 hat3
           have HST11:=Lib.hid hst3
           have hc0:w11.cell? ⟨bc,0,none⟩=some (.int .i64 c):=(qe hst3.box 0).trans rfl
           clear hst3 hown3 hb3 hg3 hat3 HSTF HOWF HBF
           go_wp2_with fail
           have hw1:wrap64 ((c:Int)+1)=((c+1:Nat):Int):=by have:=HCD.out;have:=HWD.out;unfold wrap64;omega
           rw[hw1]
           clear hw1 hc0
           have hpn:=HPN.out
           have hr2:=HRED2.out
           rw[← HR.out]at hr2
           have hfin:=qno (x:=x) hr2 (by rw[HT.out];exact hpn.1)
           clear hr2
           rw[HR.out,HR1.out,HNN.out,HT.out]at hfin
           have hst4:=HST11.out
           rw[← HN6.out]at hst4
           go_roundg d
           case measure=>omega
           case rel=>
            rw[← HN6.out]
            exact⟨c+1,w11.heap.size,_,Z,A++B,O++[x],by have:=HCD.out;omega,rfl,hst4.next hst4.below.size,hpn.2.2,by have h:=HTOT.out;simp at h;simp;omega,hfin⟩
end Go.Proofs.Ytmgbpmihbljngaa.PA
