-- by xprint.py and mergepa.py
import Derived.Test.YtmgbpmihbljngaaGreatPAx17
import Derived.StillTailTactics
namespace Go.Proofs.YtmgbpmihbljngaaGreat.PA
open Value (int)
open IntKind (i64)
set_option maxHeartbeats 4000000
set_option maxRecDepth 100000
open RowKit YtmgbpmihbljngaaGreatW.PrintWords YtmgbpmihbljngaaGreatW.PrintLast YtmgbpmihbljngaaGreatW.PrintMore
attribute [local go_sem] Q3 Q0 Zk Zj Qo Qp Q5 Q4
set_option linter.unusedVariables false
set_option linter.unusedSimpArgs false
def qbw (q:Nat->Bool):Nat->Nat->Int
 | 0,_=> -1
 | d+1,i=>if q i then (i:Int) else qbw q d (i+1)
theorem qp1 {k:IntKind} {a b:Int} (h:a=b):Ending.returned (.int k a)=.returned (.int k b):=by rw[h]
theorem qjb (g:Nat) (lb:Array Value) (q:Nat->Bool) (hs:Nat->Value) (b n c0:Nat) (w:World) (hm:n<=9223372036854775807) (hc:∀ j,j < n->w.cell? ⟨b,j,none⟩=some (hs j))
  (he:∀ args w,(callFunc g args).run Tryz.prog w=.ok (.enter g args) w)
  (hq:∀ (j:Nat) (w1:World),j < n->Drawn0 w w1->Calls Tryz.prog g (#[hs j]++lb) w1 λe w'=>e=.returned (.bool (q j))/\Drawn0 w1 w'):
  Calls Tryz.prog 82 #[.slice (some ⟨b,0,none⟩) n c0,.func (.func g) #[] lb] w λe w'=>e=.returned (int i64 (qbw q n 0))/\Drawn0 w w':=by
 go_enter Tryz.func82,Tryz.ntmps82
 go_wp2
 go_loopw [8] (λi w'=>∃ j:Nat,j<=n/\i=int i64 j/\qbw q n 0=qbw q (n - j) j/\Drawn0 w w') (λi _=>n - (intOf i).toNat)
 case atStart=>exact⟨0,Nat.zero_le _,rfl,rfl,Drawn0.refl _⟩
 case round=>
  obtain⟨j,hj,rfl,hidx,⟨m1,rfl⟩⟩:=hrel;have HIDX:=Lib.hid hidx;clear hidx
  by_cases hlt:j < n
  ·have hx:=hc j hlt
   have e1:qbw q (n - j) j=if q j then (j:Int) else qbw q (n - (j+1)) (j+1):=by
    rw[show n - j=(n - (j+1))+1 from by omega,qbw]
   have E1:=Lib.hid e1;have hcall:=hq j (w.drewN m1) hlt ⟨m1,rfl⟩;have HC:=Lib.hid hcall;clear hcall hq e1 hc
   cases hv:q j
   all_goals
    go_wp2_with fail;refine(HC.out).mono ?_;rintro e w' ⟨rfl,⟨m2,rfl⟩⟩;simp only[hv]
    go_wp2
   ·go_roundw
    case rel=>exact⟨j+1,by omega,by go_num,by rw[HIDX.out,E1.out,hv];rfl,⟨m1+m2,by simp⟩⟩
    case measure=>simp[intOf];omega
   ·go_ret
    exact⟨qp1 (a:=(j:Int)) (by rw[HIDX.out,E1.out,hv];rfl),⟨m1+m2,by simp⟩⟩
  ·go_wp2
   go_ret
   exact⟨qp1 (a:=-1) (by rw[HIDX.out,show n - j=0 from by omega,qbw]),⟨m1,rfl⟩⟩
theorem qnf (w:World) (bc:Nat) (c:Int) (b n cap:Nat) (cs:Array Value) (x:Int) (h0:0<=c) (h1:c < n) (hb:w.heap[bc]? =some (.cells #[int i64 c] 3 (0,0))) (hx:w.cell? ⟨b,c.toNat,none⟩=some (int i64 x)):
  Calls Tryz.prog 115 #[.slice (some ⟨b,0,none⟩) n cap,.pointer (some ⟨bc,0,none⟩)] w λe w'=>e=.returned (.bool (x !=0))/\Drawn0 w w':=by
 have hx0:w.cell? ⟨bc,0,none⟩=some (int i64 c):=(qe hb 0).trans rfl;have p1:(0<=c)=True:=eq_true h0;have q1:(c < (n:Int))=True:=eq_true h1;clear hb h0 h1;go_enter Tryz.func115,Tryz.ntmps115
 go_wp2
 repeat (go_quiet (fail);try go_wp2)
 go_ret
 exact⟨rfl,df⟩
structure Rw where
 b:Nat
 cap:Nat
 r:List Int
def Rw.hd (x:Rw):Value:=.slice (some ⟨x.b,0,none⟩) x.r.length x.cap
def RowAt (w:World) (x:Rw):Prop:=∃ cur:Array Value,w.heap[x.b]? =some (.cells cur 3 (0,0))/\x.r.length<=x.cap/\x.cap<=maxLen/\cur.size=x.cap/\cur.toList.take x.r.length=x.r.map (Value.int .i64)
theorem qvo {cur:Array Value} {r:List Int} (h:cur.toList.take r.length=r.map (Value.int .i64)) (j:Nat) (hj:j < r.length):cur[j]? =some (int i64 (rd r (j:Int))):=by
 have h1:(cur.toList.take r.length)[j]? =(r.map (Value.int .i64))[j]?:=by rw[h]
 rw[List.getElem?_take_of_lt hj]at h1;rw[<-Array.getElem?_toList,h1]
 simp[rd,List.getD_eq_getElem?_getD,hj]
theorem RowAt.own {w:World} {x:Rw} (h:RowAt w x) {base:Nat} (hb:base<=x.b):w.ownsRow base 3 1 x.hd x.r.length (x.r.map (Value.int .i64)):=by
 obtain⟨cur,h0,h1,h2,h3,h4⟩:=h;exact⟨by simp,.inr ⟨x.b,x.cap,cur,rfl,hb,h0,h1,h2,by omega,by simpa using h4⟩⟩
theorem RowAt.cell {w:World} {x:Rw} (h:RowAt w x) (j:Nat) (hj:j < x.r.length):w.cell? ⟨x.b,j,none⟩=some (int i64 (rd x.r (j:Int))):=by
 obtain⟨cur,hb,_,_,_,hc⟩:=h;rw[qe hb];exact qvo hc j hj
theorem RowAt.frozen {w:World} {x:Rw} (h:RowAt w x) (j:Nat):w.frozen? ⟨x.b,j,none⟩=false:=by
 obtain⟨cur,hb,hc⟩:=h;exact ql hb j
theorem RowAt.set {w:World} {x:Rw} (h:RowAt w x) (j:Nat) (v:Int):RowAt (w.setCell ⟨x.b,j,none⟩ (int i64 v)) { x with r:=x.r.set j v }:=by
 obtain⟨cur,hb,h1,h2,h3,hc⟩:=h;refine⟨_,zc hb j _,by simpa using h1,h2,by simpa using h3,?_⟩
 show (cur.setIfInBounds j (int i64 v)).toList.take (x.r.set j v).length=(x.r.set j v).map _
 rw[List.length_set,Array.toList_setIfInBounds,List.take_set,hc,List.map_set]
theorem RowAt.far {w:World} {x:Rw} (h:RowAt w x) {p:Addr} (hp:x.b≠p.block) (u:Value):RowAt (w.setCell p u) x:=by
 obtain⟨cur,hb,hc⟩:=h;exact⟨cur,jh hb hp u,hc⟩
theorem RowAt.move {w w1:World} {x:Rw} (h:RowAt w x) (hm:w1.heap[x.b]? =w.heap[x.b]?):RowAt w1 x:=by
 obtain⟨cur,hb,hc⟩:=h;exact⟨cur,hm.trans hb,hc⟩
theorem qh0 {w:World} {base n:Nat} {v:Value} {hs:List Value} (h:w.ownsRow base 37 1 v n hs) {x:Rw} (hx:RowAt w x):v.ownBlock≠some x.b:=by
 intro e;obtain⟨cells,hc⟩:=qca h x.b e;obtain⟨cur2,hb2,_⟩:=hx;exact absurd rfl (qty hc hb2 (by decide))
def qlm (w:World) (base:Nat) (L:List Rw):Prop:=(∀ x∈L,base<=x.b/\RowAt w x)/\(L.map Rw.b).Nodup
def modV (p x:Int):Int:=Int.tmod (wrap64 (Int.tmod x p+p)) p
theorem qfz (p x:Int) (hp:p≠0):qaf.f x p=some (modV p x):=by rw[qaf.f,if_neg hp];rfl
def qax (p times:Int) (head:List Int):Nat->List Int->List Int
 | _,[]=>[]
 | i,x :: xs=>modV p (wrap64 (x - wrap64 (times*rd head (i:Int)))) :: qax p times head (i+1) xs
def Jp (p:Int) (c:Nat) (head row:List Int):List Int:=qax p (rd row (c:Int)) head 0 row
theorem qfs (p times:Int) (head:List Int):∀ (l:List Int) (i:Nat),(qax p times head i l).length=l.length
 | [],_=>rfl
 | x :: xs,i=>by rw[qax,List.length_cons,qfs p times head xs (i+1),List.length_cons]
def Qu (p by_:Int) (row:List Int):List Int:=row.map λx=>Int.tmod (wrap64 (x*by_)) p
def Jb (k:Nat) (p:Int):Nat->Nat->List (List Int)->List (List Int)->Option (List (List Int))
 | 0,_,_,O=>some O
 | d+1,c,L,O=>
  match L.findIdx? λrow=>rd row (c:Int) !=0 with
  | none=>Jb k p d (c+1) L O
  | some i=>(Qc.f k (rd (L.getD i []) (c:Int)) p).bind λby_=>
   Jb k p d (c+1) ((L.eraseIdx i).map (Jp p c (Qu p by_ (L.getD i [])))) (O.map (Jp p c (Qu p by_ (L.getD i [])))++[Qu p by_ (L.getD i [])])
def zl.f (k:Nat) (p:Int) (rows:List (List Int)):Option (List (List Int)):=
 if p=0 then none else
 if rows.length < 1000000/\(rows.headD []).length < 1000000/\(∀ r∈rows,r.length=(rows.headD []).length) then Jb k p (rows.headD []).length 0 (rows.map λr=>r.map (modV p)) [] else none
theorem qda (p:Int) (k:Nat):∀ (d c:Nat) (L O:List (List Int)),LeO (Jb k p d c L O) (Jb (k+1) p d c L O)
 | 0,_,_,_=>LeO.refl _
 | d+1,c,L,O=>by
  rw[Jb,Jb]
  split
  ·exact qda p k d _ _ _
  ·exact LeO.bind (Qc.mono _ _ _) λ_=>qda p k d _ _ _
theorem zl.mono :∀ a0 a1 k,LeO (zl.f k a0 a1) (zl.f (k+1) a0 a1):=by
 intro p rows k;unfold zl.f
 split
 ·exact LeO.refl _
 ·split
  ·exact qda p k _ _ _ _
  ·exact LeO.refl _
theorem qtf (l:List Int) {w:World} {base:Nat} {ok:Nat->Prop}:Reps ((Kd.int i64).M w base ok) (Kd.int i64).sz l (l.map (Value.int .i64)):=by
 refine⟨by simp[Kd.int,Kd.scalar],λj p hj=>?_⟩
 show ((l.map (Value.int .i64)).drop (j*1)).take 1=[Value.int .i64 p]
 have hl:j < l.length:=(List.getElem?_eq_some_iff.1 hj).1;have e:l[j]=p:=(List.getElem?_eq_some_iff.1 hj).2;rw[Nat.mul_one,List.drop_eq_getElem_cons (by simpa using hl)]
 simp[e]
theorem qgt (k:Nat) (p:Int):∀ (d c:Nat) (O:List (List Int)),Jb k p d c [] O=some O
 | 0,_,_=>rfl
 | d+1,c,O=>by rw[Jb];exact qgt k p d (c+1) O
theorem qif {w:World} {base e n:Nat} {v:Value} {xs:List Value} (h:w.ownsRow base e 1 v n xs):∃ A cap,v=.slice A n cap:=by
 obtain⟨hl,⟨rfl,rfl⟩|⟨g,cap,cur,rfl,_⟩⟩:=h
 ·exact⟨_,_,rfl⟩
 ·exact⟨_,_,rfl⟩
theorem qe9 {w:World} {base e n:Nat} {v:Value} {xs:List Value} (h:w.ownsRow base e 1 v n xs) (hn:v.ownBlock≠none\/0 < n):∃ g cap cur,v=.slice (some ⟨g,0,none⟩) n cap/\base<=g/\w.heap[g]? =some (.cells cur e (0,0))/\n<=cap/\cap<=maxLen/\cur.size=cap/\cur.toList.take n=xs:=by
 obtain⟨hl,⟨rfl,rfl⟩|⟨g,cap,cur,rfl,h1,h2,h3,h4,h5,h6⟩⟩:=h
 ·simp[Value.ownBlock]at hn
 ·exact⟨g,cap,cur,rfl,h1,h2,h3,h4,by simpa using h5,by simpa using h6⟩
theorem qd2 {w:World} {g e n:Nat} {cur:Array Value} {xs:List Value} (h:w.heap[g]? =some (.cells cur e (0,0))) (ht:cur.toList.take n=xs) (j:Nat) (hj:j < n) (v:Value) (hv:xs[j]? =some v):w.cell? ⟨g,j,none⟩=some v:=by
 rw[qe h];subst ht;rw[List.getElem?_take_of_lt hj]at hv;rw[<-Array.getElem?_toList,hv]
abbrev Hd:=Option Addr×Nat×Nat
def hdV (h:Hd):Value:=.slice h.1 h.2.1 h.2.2
def ql1 :Go.Shelf.Ren:=⟨fun|45=>116|n=>n,fun|22=>24|23=>37|3=>3|4=>4|0=>0|n=>n,fun|n=>n⟩
theorem qvy :Go.Proofs.SlLaysE.n45 Tryz.prog ql1:={
 mixed:=by kernel_rfl
 f45:=⟨Tryz.f116.name,by decide,Tryz.func116.trans (congrArg some (by kernel_rfl))⟩
 t0:=Tryz.underlying0
 a0:=Tryz.isAgg0
 z0:=Tryz.sizeOf0
 v0:=Tryz.zeroValue0
 t3:=Tryz.underlying3
 a3:=Tryz.isAgg3
 z3:=Tryz.sizeOf3
 v3:=Tryz.zeroValue3
 t4:=Tryz.underlying4
 a4:=Tryz.isAgg4
 z4:=Tryz.sizeOf4
 v4:=Tryz.zeroValue4
 t22:=Tryz.underlying24
 a22:=Tryz.isAgg24
 z22:=Tryz.sizeOf24
 v22:=Tryz.zeroValue24
 a23:=Tryz.isAgg37
 z23:=Tryz.sizeOf37 }
theorem RowAt.lt {w:World} {x:Rw} (h:RowAt w x):x.b < w.heap.size:=by
 obtain⟨cur,hb,_⟩:=h;exact Qj hb
structure Hn where
 b:Nat
 cap:Nat
def Hn.rw (ρ:Nat->List Int) (h:Hn):Rw:=⟨h.b,h.cap,ρ h.b⟩
def Hn.hd (width:Nat) (h:Hn):Value:=.slice (some ⟨h.b,0,none⟩) width h.cap
def upd (ρ:Nat->List Int) (b:Nat) (r:List Int):Nat->List Int:=λk=>if k=b then r else ρ k
theorem qcv (ρ:Nat->List Int) (b:Nat) (r:List Int):upd ρ b r b=r:=by simp[upd]
theorem qfw (ρ:Nat->List Int) (b:Nat) (r:List Int) {k:Nat} (h:k≠b):upd ρ b r k=ρ k:=by simp[upd,h]
theorem qpy (ρ:Nat->List Int) (b:Nat) (r r':List Int):upd (upd ρ b r) b r'=upd ρ b r':=by
 funext k;unfold upd;split<;>rfl
theorem qna (ρ:Nat->List Int) (b:Nat):upd ρ b (ρ b)=ρ:=by
 funext k;unfold upd;split
 ·next h=>rw[h]
 ·rfl
def qak (ρ N:Nat->List Int) (bs:List Nat):Nat->List Int:=λk=>if k∈bs then N k else ρ k
theorem qo8 (ρ N:Nat->List Int):qak ρ N []=ρ:=by funext k;simp[qak]
theorem qmn (ρ N:Nat->List Int) (bs:List Nat) (b:Nat):upd (qak ρ N bs) b (N b)=qak ρ N (bs++[b]):=by
 funext k
 by_cases h:k=b
 ·subst h;simp[upd,qak]
 ·by_cases h2:k∈bs<;>simp[upd,qak,h,h2]
theorem qrq (ρ N:Nat->List Int) (bs:List Nat) {k:Nat} (h:k∈bs):qak ρ N bs k=N k:=by simp[qak,h]
theorem qe0 (ρ N:Nat->List Int) (bs:List Nat) {k:Nat} (h:k ∉ bs):qak ρ N bs k=ρ k:=by simp[qak,h]
structure Rows (w:World) (base width:Nat) (ρ:Nat->List Int) (Z:List Hn):Prop where
 at_:∀ z∈Z,base<=z.b/\RowAt w (z.rw ρ)/\(ρ z.b).length=width
 apart:(Z.map Hn.b).Nodup
theorem Rows.cell {w:World} {base width:Nat} {ρ:Nat->List Int} {Z:List Hn} (h:Rows w base width ρ Z) {z:Hn} (hz:z∈Z) (j:Nat) (hj:j < width):w.cell? ⟨z.b,j,none⟩=some (int i64 (rd (ρ z.b) (j:Int))):=by
 obtain⟨_,h2,h3⟩:=h.at_ z hz;exact h2.cell j (by show j < (ρ z.b).length;omega)
theorem Rows.frozen {w:World} {base width:Nat} {ρ:Nat->List Int} {Z:List Hn} (h:Rows w base width ρ Z) {z:Hn} (hz:z∈Z) (j:Nat):w.frozen? ⟨z.b,j,none⟩=false:=(h.at_ z hz).2.1.frozen j
theorem Rows.move {w w1:World} {base width:Nat} {ρ:Nat->List Int} {Z:List Hn} (h:Rows w base width ρ Z) (hm:∀ z∈Z,w1.heap[z.b]? =w.heap[z.b]?):Rows w1 base width ρ Z:=
 ⟨λz hz=>⟨(h.at_ z hz).1,(h.at_ z hz).2.1.move (hm z hz),(h.at_ z hz).2.2⟩,h.apart⟩
theorem Rows.lt {w:World} {base width:Nat} {ρ:Nat->List Int} {Z:List Hn} (h:Rows w base width ρ Z) {z:Hn} (hz:z∈Z):z.b < w.heap.size:=by
 obtain⟨cur,hb,_⟩:=(h.at_ z hz).2.1;exact Qj hb
theorem qfp :∀ {Z:List Hn},(Z.map Hn.b).Nodup->∀ {x z:Hn},x∈Z->z∈Z->z.b=x.b->z=x
 | [],_,_,_,h,_,_=>absurd h (by simp)
 | y :: Z,hn,x,z,hx,hz,e=>by
  rw[List.map_cons,List.nodup_cons]at hn
  rcases List.mem_cons.1 hx with hx1|hx1
  ·rcases List.mem_cons.1 hz with hz1|hz1
   ·rw[hz1,hx1]
   ·exact absurd (by have:=List.mem_map_of_mem (f:=Hn.b) hz1;rwa [e,hx1]at this) hn.1
  ·rcases List.mem_cons.1 hz with hz1|hz1
   ·exact absurd (by have:=List.mem_map_of_mem (f:=Hn.b) hx1;rwa [<-e,hz1]at this) hn.1
   ·exact qfp hn.2 hx1 hz1 e
theorem Rows.set {w:World} {base width:Nat} {ρ:Nat->List Int} {Z:List Hn} (h:Rows w base width ρ Z) {x:Hn} (hx:x∈Z) (j:Nat) (v:Int):
  Rows (w.setCell ⟨x.b,j,none⟩ (int i64 v)) base width (upd ρ x.b ((ρ x.b).set j v)) Z:=by
 refine⟨λz hz=>?_,h.apart⟩;obtain⟨h1,h2,h3⟩:=h.at_ z hz
 by_cases e:z.b=x.b
 ·have:=qfp h.apart hx hz e
  subst this;refine⟨h1,?_,by rw[qcv,List.length_set,h3]⟩;have h4:=h2.set j v
  simpa [Hn.rw,qcv] using h4
 ·refine⟨h1,?_,by rw[qfw _ _ _ e,h3]⟩
  have h4:=h2.far (p:=⟨x.b,j,none⟩) e (int i64 v)
  simpa [Hn.rw,qfw _ _ _ e] using h4
structure St (base:Nat) (w0 w':World) (c bc width:Nat) (ρ:Nat->List Int) (Z L O:List Hn) (v5 v11:Value):Prop where
 box:w'.heap[bc]? =some (.cells #[int i64 c] 3 (0,0))
 boxb:base<=bc
 boxn:∀ z∈Z,z.b≠bc
 rows:Rows w' base width ρ Z
 own5:w'.ownsRow base 37 1 v5 L.length (L.map (Hn.hd width))
 own11:w'.ownsRow base 37 1 v11 O.length (O.map (Hn.hd width))
 ne:qgz v5 v11
 n11:v11.ownBlock≠none
 tot:Z.length < 1000000
 sub:∀ z,z∈L++O->z∈Z
 below:Below base w0 w'
theorem Rows.C4 {w:World} {base width:Nat} {ρ:Nat->List Int} {Z:List Hn} (h:Rows w base width ρ Z) {z:Hn} (hz:z∈Z) {base' n:Nat} {v:Value} {hs:List Value} (ho:w.ownsRow base' 37 1 v n hs):v.ownBlock≠some z.b:=qh0 ho (h.at_ z hz).2.1
theorem St.Df {base:Nat} {w0 w':World} {c bc width:Nat} {ρ:Nat->List Int} {Z L O:List Hn} {v5 v11:Value} (h:St base w0 w' c bc width ρ Z L O v5 v11):bc < w'.heap.size:=Qj h.box
theorem qit {w:World} {base n bc:Nat} {v x:Value} {hs:List Value} (h:w.ownsRow base 37 1 v n hs) (hb:w.heap[bc]? =some (.cells #[x] 3 (0,0))):v.ownBlock≠some bc:=by
 intro e;obtain⟨cells,hc⟩:=qca h bc e;exact absurd rfl (qty hc hb (by decide))
theorem qkr {w:World} {base' base width:Nat} {ρ:Nat->List Int} {Z:List Hn} (hr:Rows w base width ρ Z) {x:Hn} (hx:x∈Z) {n:Nat} {v:Value} {hs:List Value} (ho:w.ownsRow base' 37 1 v n hs) (j:Nat) (u:Value):(w.setCell ⟨x.b,j,none⟩ u).ownsRow base' 37 1 v n hs:=
 qbi ho (λk hk=>Below.heap_setCell w ⟨x.b,j,none⟩ u k (λe=>hr.C4 hx ho (by rw[hk,e])))
theorem St.set {base:Nat} {w0 w':World} {c bc width:Nat} {ρ:Nat->List Int} {Z L O:List Hn} {v5 v11:Value} (h:St base w0 w' c bc width ρ Z L O v5 v11) {x:Hn} (hx:x∈Z) (j:Nat) (v:Int):
  St base w0 (w'.setCell ⟨x.b,j,none⟩ (int i64 v)) c bc width (upd ρ x.b ((ρ x.b).set j v)) Z L O v5 v11 where
 box:=(Below.heap_setCell w' ⟨x.b,j,none⟩ _ bc (λe=>h.boxn x hx e.symm)).trans h.box
 boxb:=h.boxb
 boxn:=h.boxn
 rows:=h.rows.set hx j v
 own5:=qkr h.rows hx h.own5 j _
 own11:=qkr h.rows hx h.own11 j _
 ne:=h.ne
 n11:=h.n11
 tot:=h.tot
 sub:=h.sub
 below:=h.below.setCell (by exact(h.rows.at_ x hx).1) _
theorem St.drewN {base:Nat} {w0 w':World} {c bc width:Nat} {ρ:Nat->List Int} {Z L O:List Hn} {v5 v11:Value} (h:St base w0 w' c bc width ρ Z L O v5 v11) (q:Nat):St base w0 (w'.drewN q) c bc width ρ Z L O v5 v11 where
 box:=h.box
 boxb:=h.boxb
 boxn:=h.boxn
 rows:=h.rows.move (λ_ _=>rfl)
 own5:=h.own5
 own11:=h.own11
 ne:=h.ne
 n11:=h.n11
 tot:=h.tot
 sub:=h.sub
 below:=Qs h.below q
theorem St.grown {base:Nat} {w0 w' w1:World} {c bc width:Nat} {ρ:Nat->List Int} {Z L O:List Hn} {v5 v11:Value} (h:St base w0 w' c bc width ρ Z L O v5 v11) (hb:Below base w0 w1) (hm:∀ k,k < w'.heap.size->w1.heap[k]? =w'.heap[k]?):St base w0 w1 c bc width ρ Z L O v5 v11 where
 box:=(hm bc h.Df).trans h.box
 boxb:=h.boxb
 boxn:=h.boxn
 rows:=h.rows.move (λz hz=>hm z.b (h.rows.lt hz))
 own5:=qbi h.own5 (λk hk=>hm k (qcu h.own5 k hk))
 own11:=qbi h.own11 (λk hk=>hm k (qcu h.own11 k hk))
 ne:=h.ne
 n11:=h.n11
 tot:=h.tot
 sub:=h.sub
 below:=hb
theorem St.next {base:Nat} {w0 w':World} {c bc width:Nat} {ρ:Nat->List Int} {Z L O:List Hn} {v5 v11:Value} (h:St base w0 w' c bc width ρ Z L O v5 v11) (hb:base<=w'.heap.size):
  St base w0 (w'.alloc (.cells #[int i64 ((c+1:Nat):Int)] 3)) (c+1) w'.heap.size width ρ Z L O v5 v11:=by
 have hm:∀ k,k < w'.heap.size->(w'.alloc (.cells #[int i64 ((c+1:Nat):Int)] 3)).heap[k]? =w'.heap[k]?:=λk hk=>Below.heap_alloc _ _ _ hk;have h2:=h.grown (h.below.alloc hb _) hm;exact⟨qd8 w' _,hb,λz hz e=>by have:=h.rows.lt hz;omega,h2.rows,h2.own5,h2.own11,h2.ne,h2.n11,h2.tot,h2.sub,h2.below⟩
theorem qq0 {w:World} {base n g cap:Nat} {hs:List Hd} (h:w.ownsRow base 37 1 (.slice (some ⟨g,0,none⟩) n cap) n (hs.map hdV)):Sort.Holds hdV w g 0 hs.toArray:=by
 obtain⟨hl,⟨h0,_⟩|⟨g',cap',cur,e,hg,hh,h1,h2,h3,h4⟩⟩:=h
 ·simp at h0
 ·injection e with ea en ec
  injection ea with ea
  injection ea with ea
  subst ea;subst ec;intro j hj;have hj':j < hs.length:=by simpa using hj
  have hn:hs.length=n:=by simpa using hl
  refine⟨?_,by simpa using ql hh j⟩;have e2:hs.toArray[j]! =hs[j]:=by rw[getElem!_pos _ j hj];simp
  rw[e2,show (⟨g,0+j,none⟩:Addr)=⟨g,j,none⟩ by simp];exact qd2 hh (by simpa using h4) j (by omega) _ (by simp[hj'])
theorem qqf {w:World} {base n g cap q:Nat} {hs hs':List Hd} (m:Nat) (h:w.ownsRow base 37 1 (.slice (some ⟨g,0,none⟩) n cap) n (hs.map hdV)) (hl':hs'.length=n) (hm:m<=n):
  (Sort.putRow hdV (Sort.ahead w q) g 0 hs'.toArray).ownsRow base 37 1 (.slice (some ⟨g,0,none⟩) m cap) m ((hs'.take m).map hdV):=by
 obtain⟨hl,⟨h0,_⟩|⟨g',cap',cur,e,hg,hh,h1,h2,h3,h4⟩⟩:=h
 ·simp at h0
 ·injection e with ea en ec
  injection ea with ea
  injection ea with ea
  subst ea;subst ec;refine⟨by simp;omega,.inr ⟨g,cap,Sort.putCells hdV 0 hs'.toArray cur,rfl,hg,?_,by omega,h2,by simpa [Sort.putCells] using h3,?_⟩⟩
  ·show (w.heap.modify g (Sort.onCells (Sort.putCells hdV 0 hs'.toArray)))[g]? =_
   rw[Array.getElem?_modify,if_pos rfl,hh]
   rfl
  ·apply List.ext_getElem?
   intro j
   by_cases hj:j < m
   ·have hjn:j < hs'.length:=by omega
    have hjc:j < cur.size:=by rw[h3];omega
    rw[Nat.mul_one,List.getElem?_take_of_lt hj,Array.getElem?_toList,List.getElem?_map,List.getElem?_take_of_lt hj,List.getElem?_eq_getElem hjn];simp only[Sort.putCells,Array.getElem?_mapIdx,Array.getElem?_eq_getElem hjc,Option.map_some];rw[if_pos ⟨by omega,by simp;omega⟩,Nat.sub_zero,getElem!_pos _ j (by simpa using hjn)]
    simp
   ·rw[List.getElem?_eq_none (by simp;omega),List.getElem?_eq_none (by simp;omega)]
theorem qpn {w:World} {g q k:Nat} {d:Array Hd} (h:k≠g):(Sort.putRow hdV (Sort.ahead w q) g 0 d).heap[k]? =w.heap[k]?:=by
 show (w.heap.modify g (Sort.onCells (Sort.putCells hdV 0 d)))[k]? =_
 rw[Array.getElem?_modify,if_neg (Ne.symm h)]
theorem qq4 {w w0:World} {base g q:Nat} {d:Array Hd} (h:Below base w0 w) (hg:base<=g):Below base w0 (Sort.putRow hdV (Sort.ahead w q) g 0 d):=
 ⟨h.os,h.tape,h.output,by simpa using h.size,λk hk=>(qpn (by omega)).trans (h.block k hk)⟩
def Hn.pair (width:Nat) (h:Hn):Hd:=(some ⟨h.b,0,none⟩,width,h.cap)
theorem qc3 (width:Nat) (L:List Hn):L.map (Hn.hd width)=(L.map (Hn.pair width)).map hdV:=by
 rw[List.map_map];rfl
theorem St.del {base:Nat} {w0 w':World} {c bc width g cap q:Nat} {ρ:Nat->List Int} {Z A B O:List Hn} {x:Hn} {v11:Value} {zr:Hd}
  (h:St base w0 w' c bc width ρ Z (A++x :: B) O (.slice (some ⟨g,0,none⟩) (A++x :: B).length cap) v11):
  St base w0 (Sort.putRow hdV (Sort.ahead w' q) g 0 (((A++x :: B).map (Hn.pair width)).take A.length++((A++x :: B).map (Hn.pair width)).drop (A.length+1)++[zr]).toArray) c bc width ρ Z (A++B) O (.slice (some ⟨g,0,none⟩) (A++B).length cap) v11:=by
 have hg:base<=g:=qbh h.own5 g rfl;have e1:((A++x :: B).map (Hn.pair width)).take A.length++((A++x :: B).map (Hn.pair width)).drop (A.length+1)=(A++B).map (Hn.pair width):=by
  simp[List.drop_append,List.take_append]
 rw[e1];have h5:=h.own5;rw[qc3]at h5;have hp:=qqf (q:=q) (hs':=(A++B).map (Hn.pair width)++[zr]) (A++B).length h5 (by simp<;>omega) (by simp);rw[List.take_append_of_le_length (by simp),List.take_of_length_le (by simp),<-qc3]at hp;have hk:∀ k,k≠g->(Sort.putRow hdV (Sort.ahead w' q) g 0 ((A++B).map (Hn.pair width)++[zr]).toArray).heap[k]? =w'.heap[k]?:=λk hk=>qpn hk;refine⟨(hk bc ?_).trans h.box,h.boxb,h.boxn,h.rows.move (λz hz=>hk z.b ?_),hp,qbi h.own11 (λk e=>hk k ?_),h.ne,h.n11,h.tot,λz hz=>h.sub z ?_,qq4 h.below hg⟩
 ·intro e;exact qit h.own5 h.box (by rw[e];rfl)
 ·intro e;exact h.rows.C4 hz h.own5 (by rw[e];rfl)
 ·intro e2;exact h.ne g rfl (e2 ▸ e)
 ·simp only[List.mem_append,List.mem_cons]at hz ⊢
  rcases hz with (hz|hz)|hz
  ·exact .inl (.inl hz)
  ·exact .inl (.inr (.inr hz))
  ·exact .inr hz
theorem St.done {base:Nat} {w0 w' w1:World} {c bc width:Nat} {ρ:Nat->List Int} {Z L O:List Hn} {x:Hn} {v5 v11 v1:Value} (h:St base w0 w' c bc width ρ Z L O v5 v11) (hx:x∈Z)
  (ho:w1.ownsRow base 37 1 v1 (O.length+1) (O.map (Hn.hd width)++[Hn.hd width x])) (hb:Below base w0 w1) (hg:w'.grownBy w1 v11.ownBlock) (hat:v1.ownBlock=v11.ownBlock\/∃ b,v1.ownBlock=some b/\w'.heap.size<=b):
  St base w0 w1 c bc width ρ Z L (O++[x]) v5 v1:=by
 have hm:∀ k,k < w'.heap.size->v11.ownBlock≠some k->w1.heap[k]? =w'.heap[k]?:=λk hk hne=>hg.block k hk (λe=>hne e.symm);refine⟨(hm bc h.Df (qit h.own11 h.box)).trans h.box,h.boxb,h.boxn,h.rows.move (λz hz=>hm z.b (h.rows.lt hz) (h.rows.C4 hz h.own11)),qbi h.own5 (λk hk=>hm k (qcu h.own5 k hk) (h.ne k hk)),by simpa using ho,?_,?_,h.tot,?_,hb⟩
 ·exact qo7 h.ne hat h.own5
 ·rcases hat with e|⟨b,e,_⟩
  ·rw[e];exact h.n11
  ·rw[e];simp
 ·intro z hz
  simp only[List.mem_append,List.mem_cons,List.not_mem_nil,or_false]at hz
  rcases hz with hz|hz|rfl
  ·exact h.sub z (by simp[hz])
  ·exact h.sub z (by simp[hz])
  ·exact hx
def vals (ρ:Nat->List Int) (L:List Hn):List (List Int):=L.map λz=>ρ z.b
def ColSt (k:Nat) (p:Int) (r:List (List Int)) (width base:Nat) (w0:World) (d:Nat) (v5 v11 v12:Value) (w':World):Prop:=
 ∃ (c bc:Nat) (ρ:Nat->List Int) (Z L O:List Hn),c+d=width/\v12=.pointer (some ⟨bc,0,none⟩)/\St base w0 w' c bc width ρ Z L O v5 v11/\((L++O).map Hn.b).Nodup/\(L++O).length < 1000000/\Jb k p d c (vals ρ L) (vals ρ O)=some r
theorem ql6 {α:Type} (P:α->Bool) (d:α):∀ (l:List α) (q:Nat->Bool) (i:Nat),(∀ j,j < l.length->q (i+j)=P (l.getD j d))->
  qbw q l.length i=match l.findIdx? P with|none=> -1|some m=>((i+m:Nat):Int)
 | [],_,_,_=>rfl
 | x :: l,q,i,h=>by
  have h0:q i=P x:=h 0 (by simp);rw[List.length_cons,qbw,List.findIdx?_cons,h0]
  cases P x
  ·rw[ql6 P d l q (i+1) (λj hj=>by have:=h (j+1) (by simp;omega);rw[show i+1+j=i+(j+1) by omega,this];rfl)]
   cases l.findIdx? P with
   | none=>rfl
   | some m=>
    simp only[Option.map_some];exact congrArg Int.ofNat (by omega)
  ·simp
theorem qmf {α:Type} (N R:List α) (j:Nat) (v:α) (hl:N.length=R.length) (hj:j < R.length) (hv:N[j]? =some v):(N.take j++R.drop j).set j v=N.take (j+1)++R.drop (j+1):=by
 rw[List.set_append_right _ _ (by simp;omega),List.length_take,Nat.min_eq_left (by omega),Nat.sub_self,List.drop_eq_getElem_cons hj,List.set_cons_zero,List.take_add_one,hv]
 simp
theorem qpd (N R:List Int) (j:Nat) (hl:N.length=R.length) (hj:j < R.length):rd (N.take j++R.drop j) (j:Int)=rd R (j:Int):=by
 have h2:j < N.length:=by omega
 simp[rd,List.getD_eq_getElem?_getD,List.getElem?_append_right,hl,hj,Nat.le_of_lt h2,Nat.min_eq_left (Nat.le_of_lt hj)]
theorem qme {α:Type} (N R:List α) (hl:N.length=R.length):N.take R.length++R.drop R.length=N:=by
 rw[List.drop_length,List.append_nil,<-hl,List.take_length]
theorem qli (p by_:Int) (R:List Int) (j:Nat) (hj:j < R.length):(Qu p by_ R)[j]? =some (Int.tmod (wrap64 (rd R (j:Int)*by_)) p):=by
 simp[Qu,rd,List.getD_eq_getElem?_getD,hj]
theorem qe3 (p times:Int) (head:List Int):∀ (R:List Int) (i j:Nat),j < R.length->(qax p times head i R)[j]? =some (modV p (wrap64 (rd R (j:Int) - wrap64 (times*rd head ((i+j:Nat):Int)))))
 | [],_,_,h=>absurd h (by simp)
 | x :: R,i,0,_=>by simp[qax,rd]
 | x :: R,i,j+1,h=>by
  have h2:=qe3 p times head R (i+1) j (by simpa using h);rw[qax,List.getElem?_cons_succ,h2,show i+1+j=i+(j+1) by omega]
  simp[rd]
theorem qmu (p:Int) (c:Nat) (head R:List Int) (j:Nat) (hj:j < R.length):(Jp p c head R)[j]? =some (modV p (wrap64 (rd R (j:Int) - wrap64 (rd R (c:Int)*rd head (j:Int))))):=by
 have:=qe3 p (rd R (c:Int)) head R 0 j hj
 simpa [Jp] using this
theorem qpx (width:Nat):∀ (L:List Rw),(L.map Rw.b).Nodup->(∀ y∈L,y.r.length=width)->∃ (ρ:Nat->List Int) (Z:List Hn),Z.map (Hn.rw ρ)=L/\Z.map (Hn.hd width)=L.map Rw.hd/\vals ρ Z=L.map Rw.r/\Z.map Hn.b=L.map Rw.b
 | [],_,_=>⟨λ_=>[],[],rfl,rfl,rfl,rfl⟩
 | x :: L,hn,hl=>by
  rw[List.map_cons,List.nodup_cons]at hn;obtain⟨ρ,Z,h1,h2,h3,h4⟩:=qpx width L hn.2 (λy hy=>hl y (by simp[hy]));have hne:∀ z∈Z,z.b≠x.b:=λz hz e=>hn.1 (by rw[<-h4,<-e];exact List.mem_map_of_mem hz);have e1:Z.map (Hn.rw (upd ρ x.b x.r))=Z.map (Hn.rw ρ):=List.map_congr_left λz hz=>by simp[Hn.rw,qfw _ _ _ (hne z hz)]
  have e3:vals (upd ρ x.b x.r) Z=vals ρ Z:=List.map_congr_left λz hz=>by simp[qfw _ _ _ (hne z hz)]
  have hw:=hl x (by simp);refine⟨upd ρ x.b x.r,⟨x.b,x.cap⟩ :: Z,?_,?_,?_,?_⟩
  ·rw[List.map_cons,e1,h1];simp[Hn.rw,qcv]
  ·rw[List.map_cons,h2];simp[Hn.hd,Rw.hd,hw]
  ·rw[vals,List.map_cons,<-vals,e3,h3];simp[qcv]
  ·rw[List.map_cons,h4];rfl
theorem ColSt.start {k:Nat} {p:Int} {r:List (List Int)} {width base:Nat} {w0 wr w1:World} {L:List Rw} {v5 v11:Value} {bc:Nat} (hw:qlm wr base L) (hlen:∀ y∈L,y.r.length=width) (ho:wr.ownsRow base 37 1 v5 L.length (L.map Rw.hd))
  (hm:∀ k,k < wr.heap.size->w1.heap[k]? =wr.heap[k]?) (hb:Below base w0 w1) (h11:w1.ownsRow base 37 1 v11 0 []) (hne:qgz v5 v11) (hn11:v11.ownBlock≠none) (hbox:w1.heap[bc]? =some (.cells #[int i64 (0:Nat)] 3 (0,0))) (hbc:wr.heap.size<=bc) (hbase:base<=bc)
  (htot:L.length < 1000000) (hred:Jb k p width 0 (L.map Rw.r) []=some r):ColSt k p r width base w0 width v5 v11 (.pointer (some ⟨bc,0,none⟩)) w1:=by
 obtain⟨ρ,Z,h1,h2,h3,h4⟩:=qpx width L hw.2 hlen;have hmem:∀ z∈Z,z.rw ρ∈L:=λz hz=>by rw[<-h1];exact List.mem_map_of_mem hz
 have hl:Z.length=L.length:=by have:=congrArg List.length h4;simpa using this
 refine⟨0,bc,ρ,Z,Z,[],by omega,rfl,⟨hbox,hbase,λz hz e=>?_,⟨λz hz=>?_,by rw[h4];exact hw.2⟩,?_,h11,hne,hn11,by omega,by simp,hb⟩,by simpa [h4] using hw.2,by simp;omega,by rw[h3];exact hred⟩
 ·have:=(hw.1 _ (hmem z hz)).2.lt
  simp only[Hn.rw]at this;omega
 ·have h5:=hw.1 _ (hmem z hz)
  exact⟨h5.1,h5.2.move (hm _ h5.2.lt),hlen _ (hmem z hz)⟩
 ·rw[h2,hl]
  exact qbi ho (λk hk=>hm k (qcu ho k hk))
theorem ColSt.fin {r:List (List Int)} {width base:Nat} {w0 w':World} {c bc:Nat} {ρ:Nat->List Int} {Z L O:List Hn} {v5 v11:Value} (h:St base w0 w' c bc width ρ Z L O v5 v11) (hn:((L++O).map Hn.b).Nodup) (hr:r=vals ρ O):Kd.S KI 37 w' base (λ_=>True) v11 r:=by
 subst hr;have hno:(O.map Hn.b).Nodup:=by rw[List.map_append,List.nodup_append]at hn;exact hn.2.1
 refine⟨λk=>List.idxOf k (O.map Hn.b),λ_ _=>trivial,O.map (Hn.hd width),by rw[List.length_zipIdx,vals,List.length_map];exact h.own11,?_⟩;refine⟨by simp[vals,Kd.tag,Kd.slice],λj p hj=>?_⟩;rw[List.getElem?_zipIdx,Nat.zero_add]at hj;obtain⟨q,hq,rfl⟩:=Option.map_eq_some_iff.1 hj;have hl:j < O.length:=by have:=(List.getElem?_eq_some_iff.1 hq).1;simpa [vals] using this
 have e:ρ O[j].b=q:=by have:=(List.getElem?_eq_some_iff.1 hq).2;simpa [vals] using this
 subst e;have hm:=h.rows.at_ O[j] (h.sub _ (List.mem_append_right _ (List.getElem_mem hl)));refine⟨Hn.hd width O[j],?_,λk hk=>⟨⟨trivial,λe=>?_⟩,?_⟩,(ρ O[j].b).map (Value.int .i64),?_,qtf _⟩
 ·show ((O.map (Hn.hd width)).drop (j*1)).take 1=_
  rw[Nat.mul_one,List.drop_eq_getElem_cons (by simpa using hl)]
  simp
 ·have hk2:k=O[j].b:=by simpa [Hn.hd,Value.ownBlock] using hk.symm
  subst hk2;exact qh0 h.own11 hm.2.1 e.symm
 ·have hk2:k=O[j].b:=by simpa [Hn.hd,Value.ownBlock] using hk.symm
  subst hk2
  have:=List.Nodup.idxOf_getElem hno j (by simpa using hl)
  simpa using this
 ·have ho:=hm.2.1.own hm.1
  simp only[Rw.hd,Hn.rw,hm.2.2]at ho;have e2:Hn.hd width O[j]=.slice (some ⟨O[j].b,0,none⟩) width O[j].cap:=rfl;rw[e2,hm.2.2];exact ho
theorem qok {α:Type} (P:α->Bool) (l:List α) (i:Nat) (h:l.findIdx? P=some i):∃ A x B,l=A++x :: B/\A.length=i:=by
 rw[List.findIdx?_eq_some_iff_getElem]at h;obtain⟨hi,_⟩:=h;exact⟨l.take i,l[i],l.drop (i+1),by rw[List.getElem_cons_drop,List.take_append_drop],by simp;omega⟩
theorem qjn (ρ:Nat->List Int) (c:Nat) (L:List Hn):(vals ρ L).findIdx? (λrow=>rd row (c:Int) !=0)=L.findIdx? (λz=>rd (ρ z.b) (c:Int) !=0):=by
 rw[vals,List.findIdx?_map];rfl
theorem quh {k:Nat} {p:Int} {d c:Nat} {ρ:Nat->List Int} {L O:List Hn} {r:List (List Int)} (h:Jb k p (d+1) c (vals ρ L) (vals ρ O)=some r) (hf:L.findIdx? (λz=>rd (ρ z.b) (c:Int) !=0)=none):Jb k p d (c+1) (vals ρ L) (vals ρ O)=some r:=by
 rw[Jb,qjn,hf]at h;exact h
theorem qtv {k:Nat} {p:Int} {d c:Nat} {ρ:Nat->List Int} {A B O:List Hn} {x:Hn} {r:List (List Int)} (h:Jb k p (d+1) c (vals ρ (A++x :: B)) (vals ρ O)=some r) (hf:(A++x :: B).findIdx? (λz=>rd (ρ z.b) (c:Int) !=0)=some A.length):
  ∃ by_,Qc.f k (rd (ρ x.b) (c:Int)) p=some by_/\Jb k p d (c+1) ((vals ρ (A++B)).map (Jp p c (Qu p by_ (ρ x.b)))) ((vals ρ O).map (Jp p c (Qu p by_ (ρ x.b)))++[Qu p by_ (ρ x.b)])=some r:=by
 rw[Jb,qjn,hf]at h;have e1:(vals ρ (A++x :: B)).getD A.length []=ρ x.b:=by
  simp[vals,List.getD_eq_getElem?_getD]
 have e2:(vals ρ (A++x :: B)).eraseIdx A.length=vals ρ (A++B):=by
  simp[vals,List.eraseIdx_append_of_length_le]
 simp only[e1,e2]at h;obtain⟨by_,h1,h2⟩:=Option.bind_eq_some_iff.1 h;exact⟨by_,h1,h2⟩
theorem qrr {k:Nat} {p:Int} {d c:Nat} {ρ:Nat->List Int} {L O:List Hn} {x:Hn} {by_:Int} {r:List (List Int)}
  (h:Jb k p d (c+1) ((vals ρ L).map (Jp p c (Qu p by_ (ρ x.b)))) ((vals ρ O).map (Jp p c (Qu p by_ (ρ x.b)))++[Qu p by_ (ρ x.b)])=some r) (hn:x.b ∉ (L++O).map Hn.b):
  Jb k p d (c+1) (vals (qak (upd ρ x.b (Qu p by_ (ρ x.b))) (λb=>Jp p c (Qu p by_ (ρ x.b)) (ρ b)) ((L++O).map Hn.b)) L)
   (vals (qak (upd ρ x.b (Qu p by_ (ρ x.b))) (λb=>Jp p c (Qu p by_ (ρ x.b)) (ρ b)) ((L++O).map Hn.b)) (O++[x]))=some r:=by
 have e:∀ M:List Hn,(∀ z∈M,z∈L++O)->vals (qak (upd ρ x.b (Qu p by_ (ρ x.b))) (λb=>Jp p c (Qu p by_ (ρ x.b)) (ρ b)) ((L++O).map Hn.b)) M=(vals ρ M).map (Jp p c (Qu p by_ (ρ x.b))):=by
  intro M hM;rw[vals,vals,List.map_map];exact List.map_congr_left λz hz=>qrq _ _ _ (List.mem_map_of_mem (hM z hz))
 have e2:∀ M N:List Hn,∀ ρ',vals ρ' (M++N)=vals ρ' M++vals ρ' N:=λM N ρ'=>by simp[vals]
 rw[e2,e L (λz hz=>by simp[hz]),e O (λz hz=>by simp[hz])];have e3:vals (qak (upd ρ x.b (Qu p by_ (ρ x.b))) (λb=>Jp p c (Qu p by_ (ρ x.b)) (ρ b)) ((L++O).map Hn.b)) [x]=[Qu p by_ (ρ x.b)]:=by
  simp only[vals,List.map_cons,List.map_nil];rw[qe0 _ _ _ hn,qcv]
 rw[e3];exact h
theorem qny {A B O:List Hn} {x:Hn} (h:((A++x :: B++O).map Hn.b).Nodup):x.b ∉ ((A++B)++O).map Hn.b/\(((A++B)++O).map Hn.b).Nodup/\(((A++B)++(O++[x])).map Hn.b).Nodup:=by
 have hp:(A++x :: B++O).Perm (x :: ((A++B)++O)):=by
  rw[List.append_assoc,List.append_assoc,List.cons_append];exact List.perm_middle
 have h1:=(hp.map Hn.b).nodup_iff.1 h;rw[List.map_cons,List.nodup_cons]at h1;refine⟨h1.1,h1.2,?_⟩;have hp2:((A++B)++(O++[x])).Perm (x :: ((A++B)++O)):=by
  rw[<-List.append_assoc];exact List.perm_append_singleton _ _
 refine(hp2.map Hn.b).nodup_iff.2 ?_;rw[List.map_cons,List.nodup_cons];exact h1
theorem qo1 (g cap i m:Nat) (hs:List Hd) (w:World) (hH:Sort.Holds hdV w g 0 hs.toArray) (hcap:hs.length<=cap) (hm:cap<=9223372036854775807) (hi:i < hs.length) (hl:hs.length=m+1):
  Calls Tryz.prog 116 #[.slice (some ⟨g,0,none⟩) hs.length cap,int i64 i,int i64 ((i+1:Nat):Int)] w λe w'=>e=.returned (.slice (some ⟨g,0,none⟩) m cap)/\∃ q,w'=Sort.putRow hdV (Sort.ahead w q) g 0 (hs.take i++hs.drop (i+1)++[(none,0,0)]).toArray:=by
 obtain⟨i0,hi0,hz⟩:=Option.map_eq_some_iff.1 Ja;simp only[Prod.mk.injEq]at hz;have h:=AnyE.slices_Delete qvy hdV (λ_=>rfl) (none,0,0) (λw=>by kernel_rfl) i0 hi0 hz.2.1 g 0 cap i (i+1) hs.toArray w hH (by simpa using hcap) hm (by omega) (by simp;omega);simp only[List.size_toArray,Nat.add_sub_cancel_left,List.replicate_one]at h;rw[show hs.length - 1=m by omega]at h;exact h
theorem qqm (x p:Int) (hp:p≠0) (w:World):Calls Tryz.prog 108 #[int i64 x,int i64 p] w λe w'=>e=.returned (int i64 (modV p x))/\w'=w:=by
 have h0:(p == 0)=false:=by simpa using hp
 go_enter Tryz.func108,Tryz.ntmps108
 go_wp2;go_ret
 exact⟨rfl,rfl⟩
theorem qfb (w:World) (e:Nat) (base:Nat) (hb:base<=w.heap.size):(w.alloc (.cells #[] e)).ownsRow base e 1 (.slice (some ⟨w.heap.size,0,none⟩) 0 0) 0 []:=
 ⟨rfl,.inr ⟨w.heap.size,0,#[],rfl,hb,(by show (w.heap.push _)[w.heap.size]? =_;simp),Nat.le_refl _,Nat.zero_le _,rfl,rfl⟩⟩
theorem qqv {w:World} {base n:Nat} {v:Value} {r:List Int} (h:w.ownsRow base 3 1 v n (r.map (Value.int .i64))) (hn:0 < n):∃ x:Rw,v=x.hd/\x.r=r/\RowAt w x/\base<=x.b:=by
 obtain⟨hl,⟨_,h0⟩|⟨g,cap,cur,rfl,hg,hh,h1,h2,h3,h4⟩⟩:=h
 ·omega
 ·have hn:n=r.length:=by simpa using hl.symm
  subst hn;exact⟨⟨g,cap,r⟩,rfl,rfl,⟨cur,hh,h1,h2,by simpa using h3,by simpa using h4⟩,hg⟩
theorem qtx {w:World} {A:Option Addr} {n:Nat} {rows:List (List Int)} (h:Kd.C KI w A n rows) (j:Nat) (hj:j < rows.length):∃ ad B c,A=some ad/\w.cell? (ad.add j)=some (.slice B (rows[j]).length c)/\(rows[j]).length<=c/\Kd.C (Kd.int i64) w B (rows[j]).length rows[j]:=by
 obtain⟨hl,hm,hr⟩:=h;obtain⟨ad,rfl,hc⟩:=hr (by omega);obtain⟨cs,_,⟨B,c,rfl,h1,h2⟩,hcell⟩:=hc j _ (List.getElem?_eq_getElem hj);refine⟨ad,B,c,rfl,?_,h1,h2⟩
 have:=hcell 0 (.slice B (rows[j]).length c) rfl
 simpa [KI,Kd.slice] using this
theorem zl.calls (k:Nat) (p:Int) (A1:Option Addr) (c1:Nat) (rows r:List (List Int)) (w:World) (hr1:Kd.C KI w A1 rows.length rows) (hc1:rows.length<=c1) (h:zl.f k p rows=some r):
  Calls Tryz.prog 84 #[int i64 p,.slice A1 rows.length c1] w λe w'=>∃ v0:Value,e=.returned v0/\Kd.S KI 37 w' w.heap.size (λ_=>True) v0 r/\Below w.heap.size w w':=by
 have HP:Hid (p≠0):=Lib.hid (by rintro rfl;simp[zl.f]at h);have HLEN:Hid (rows.length < 1000000/\(rows.headD []).length < 1000000/\(∀ r∈rows,r.length=(rows.headD []).length)):=Lib.hid (by
  rw[zl.f,if_neg HP.out]at h
  by_cases hc:rows.length < 1000000/\(rows.headD []).length < 1000000/\(∀ r∈rows,r.length=(rows.headD []).length)
  ·exact hc
  ·rw[if_neg hc]at h;exact absurd h (by simp))
 have H:=Lib.hid h;have HR1:=Lib.hid hr1;have HC1:=Lib.hid hc1;clear h hr1 hc1;go_enter Tryz.func84,Tryz.ntmps84
 go_upto_block 0 with fail
 go_step
 go_loopw [5,24] (λv i w'=>∃ (j:Nat) (L:List Rw),j<=rows.length/\i=int i64 j/\L.map Rw.r=(rows.take j).map (λr=>r.map (modV p))/\qlm w' w.heap.size L/\w'.ownsRow w.heap.size 37 1 v L.length (L.map Rw.hd)/\Below w.heap.size w w') (λ_ i _=>rows.length - (intOf i).toNat)
 case atStart=>exact⟨0,[],by omega,rfl,rfl,⟨by simp,by simp⟩,qfb w 37 _ (Nat.le_refl _),(Below.refl _ _).alloc (Nat.le_refl _) _⟩
 case round =>
  obtain⟨j,L,hj,rfl,hL,hrows,hown,hB⟩:=hrel
  by_cases hlt:j < rows.length
  ·obtain⟨ad,B,c,rfl,hx,hbc,hC⟩:=qtx (Kd.Ad HR1.out hB) j hlt
   have c1b:decide ((j:Int) < (rows.length:Int))=true:=decide_eq_true (by omega);have p1:(0<=(j:Int))=True:=eq_true (by omega);have q1:((j:Int) < (rows.length:Int))=True:=eq_true (by omega);obtain⟨row,hrow⟩:∃ row,rows[j]=row:=⟨_,rfl⟩
   rw[hrow]at hx hbc hC;have HRL:Hid (row.length < 1000000):=Lib.hid (by
    obtain⟨h1,h2,h3⟩:=HLEN.out;rw[h3 row (hrow ▸ List.getElem_mem hlt)];exact h2)
   have HL:=Lib.hid hL;have HRW:=Lib.hid hrows;have HO:=Lib.hid hown;have HB:=Lib.hid hB;have HCR:=Lib.hid hC;have HBC:=Lib.hid hbc;have HLT:=Lib.hid hlt;have HROW:Hid (rows[j]? =some row):=Lib.hid (by rw[List.getElem?_eq_getElem hlt,hrow]);clear hrow;clear hL hrows hown hB hC hbc hlt hj
   go_upto_block 2 with fail
   go_step
   obtain⟨w0,hw0⟩:∃ w0,wr=w0:=⟨_,rfl⟩
   have ha0:RowAt (w0.alloc (.cells #[] 3)) ⟨w0.heap.size,0,[]⟩:=⟨#[],by show (w0.heap.push _)[w0.heap.size]? =_;simp,Nat.le_refl _,Nat.zero_le _,rfl,rfl⟩
   rw[hw0];rw[hw0]at HRW HO HB HCR
   go_loopw [8,31] (λv i w'=>∃ (m:Nat) (x:Rw),m<=row.length/\i=int i64 m/\v=x.hd/\x.r=(row.take m).map (modV p)/\RowAt w' x/\w0.heap.size<=x.b/\Below w0.heap.size w0 w') (λ_ i _=>row.length - (intOf i).toNat)
   case atStart=>exact⟨0,⟨w0.heap.size,0,[]⟩,by omega,rfl,rfl,rfl,ha0,Nat.le_refl _,(Below.refl _ _).alloc (Nat.le_refl _) _⟩
   case round=>
    clear ha0 hx hw0;obtain⟨m,x,hm,rfl,rfl,hxr,hxa,hxb,hB2⟩:=hrel
    by_cases hmt:m < row.length
    ·obtain⟨adB,e,hy⟩:=Kd.Aj (Kd.Ad HCR.out hB2) (m:Int) (by omega) (by omega)
     subst e;simp only[Int.toNat_natCast]at hy;have c2b:decide ((m:Int) < (row.length:Int))=true:=decide_eq_true (by omega);have p2:(0<=(m:Int))=True:=eq_true (by omega);have q2:((m:Int) < (row.length:Int))=True:=eq_true (by omega);have HXR:=Lib.hid hxr;have HXA:=Lib.hid hxa;have HXB:=Lib.hid hxb;have HB2:=Lib.hid hB2;have HMT:=Lib.hid hmt;clear hxr hxa hxb hB2 hmt hm;go_wp2_with fail;refine(qaf.calls _ _ _ _ (qfz p (rd row (m:Int)) HP.out)).mono ?_;rintro e w1 ⟨rfl,⟨q,rfl⟩⟩;have HXA':Hid (RowAt (wr.drewN q) x):=HXA;have HB2':Hid (Below w0.heap.size w0 (wr.drewN q)):=Lib.hid (Qs HB2.out q);clear HXA HB2 hy;generalize wr.drewN q=w2 at HXA' HB2' ⊢
     go_wp2_with (first|((with_reducible refine zd (N:=40) rfl ?_);refine Jt (w0:=w0) (W:=w2) w0.heap.size (by rfl) (.tmp 35) (.tmp 39) 37 3 (int i64 0) 1 8 rfl Tryz.underlying37 Ju rfl (by decide) (by decide) x.hd x.r.length (x.r.map (Value.int .i64)) [int i64 (modV p (rd row (m:Int)))] rfl rfl rfl (by simp[Value.oneCell']) (HXA'.out.own HXB.out) HB2'.out HB2'.out.size (by have:=HMT.out;have:=HRL.out;have e:=congrArg List.length HXR.out;simp at e;omega) ?_))
     intro v1 w1 hown1 hb1 hg1 hat1;rw[<-List.map_singleton,<-List.map_append]at hown1;obtain⟨x1,rfl,hx1,hx2,hx3⟩:=qqv hown1 (by omega);clear hown1 hg1 hat1;have HX1:=Lib.hid hx1;have HX2:=Lib.hid hx2;have HX3:=Lib.hid hx3;have HBX:=Lib.hid hb1;clear hx1 hx2 hx3 hb1;go_wp2
     have hw1:wrap64 ((m:Int)+1)=((m+1:Nat):Int):=by have:=HMT.out;have:=HRL.out;unfold wrap64;omega
     go_roundw
     case measure=>rw[hw1];simp only[intOf];have:=HMT.out;omega
     case rel=>
      refine⟨m+1,x1,by have:=HMT.out;omega,by rw[hw1],rfl,?_,HX2.out,HX3.out,HBX.out⟩;rw[HX1.out,HXR.out,List.take_add_one,List.map_append,List.getElem?_eq_getElem HMT.out]
      simp[rd,List.getD_eq_getElem?_getD,HMT.out]
    ·have hme:m=row.length:=by omega
     subst hme;have HXR:=Lib.hid hxr;have HXA:=Lib.hid hxa;have HXB:=Lib.hid hxb;have HB2:=Lib.hid hB2;have HOW:Hid (wr.ownsRow w.heap.size 37 1 u5 L.length (L.map Rw.hd)):=Lib.hid (qbi HO.out (λk hk=>hB2.block k (qcu HO.out k hk)));have HRW2:Hid (qlm wr w.heap.size L):=Lib.hid ⟨λy hy=>⟨(HRW.out.1 y hy).1,(HRW.out.1 y hy).2.move (hB2.block y.b (HRW.out.1 y hy).2.lt)⟩,HRW.out.2⟩;have HNE:Hid (∀ y∈L,y.b≠x.b):=Lib.hid (λy hy=>by have:=(HRW.out.1 y hy).2.lt;omega);have HLL:Hid (L.length=j):=Lib.hid (by have e:=congrArg List.length HL.out;have:=HLT.out;simp at e;omega);have HBB:Hid (Below w.heap.size w wr):=Lib.hid (HB.out.trans (hB2.mono HB.out.size));clear hxr hxa hxb hB2 hmt hm;simp only[Rw.hd]
     go_wp2_with (first|((with_reducible refine zd (N:=45) rfl ?_);refine Jt (w0:=w) (W:=wr) w.heap.size (by rfl) (.tmp 42) (.tmp 44) 24 37 (.slice none 0 0) 1 24 rfl Tryz.underlying24 Ja rfl (by decide) (by decide) u5 L.length (L.map Rw.hd) [x.hd] rfl rfl rfl (by simp[Rw.hd,Value.oneCell']) HOW.out HBB.out HBB.out.size (by have:=HLL.out;have:=HLT.out;have:=HLEN.out.1;omega) ?_))
     intro v1 w1 hown1 hb1 hg1 hat1;have HO1:Hid (w1.ownsRow w.heap.size 37 1 v1 (L++[x]).length ((L++[x]).map Rw.hd)):=Lib.hid (by simpa using hown1);have HR1':Hid (qlm w1 w.heap.size (L++[x])):=Lib.hid (by
      have hm:∀ y:Rw,RowAt wr y->RowAt w1 y:=λy hy=>hy.move (hg1.block y.b hy.lt (λe=>qh0 HOW.out hy e.symm));refine⟨λy hy=>?_,?_⟩
      ·rcases List.mem_append.1 hy with hy|hy
       ·exact⟨(HRW2.out.1 y hy).1,hm y (HRW2.out.1 y hy).2⟩
       ·rw[List.mem_singleton]at hy
        subst hy;exact⟨by have:=HXB.out;have:=HB.out.size;omega,hm y HXA.out⟩
      ·rw[List.map_append,List.map_singleton,List.nodup_append]
       refine⟨HRW2.out.2,by simp,?_⟩;intro a ha b hb;rw[List.mem_singleton]at hb;subst hb;obtain⟨y,hy,rfl⟩:=List.mem_map.1 ha;exact HNE.out y hy)
     have HB1:=Lib.hid hb1;clear hown1 hb1 hg1 hat1;go_wp2
     have hw1:wrap64 ((j:Int)+1)=((j+1:Nat):Int):=by have:=HLT.out;have:=HLEN.out.1;unfold wrap64;omega
     go_roundw
     case measure=>rw[hw1];simp only[intOf];have:=HLT.out;omega
     case rel=>
      refine⟨j+1,L++[x],by have:=HLT.out;omega,by rw[hw1],?_,HR1'.out,HO1.out,HB1.out⟩;rw[List.map_append,HL.out,List.take_add_one,List.map_append,HROW.out]
      simp[HXR.out]
  ·have hje : j = rows.length := by omega
   subst hje;have HL:=Lib.hid hL;have HRW:=Lib.hid hrows;have HO:=Lib.hid hown;have HB:=Lib.hid hB;clear hL hrows hown hB hlt hj HR1 HC1;obtain⟨width,hwd⟩:∃ width,(rows.headD []).length=width:=⟨_,rfl⟩
   go_upto_block 4 with fail
   have hI:ColSt k p r width w.heap.size w width u5 (.slice (some ⟨wr.heap.size,0,none⟩) 0 0) (.pointer (some ⟨wr.heap.size+1,0,none⟩)) ((wr.alloc (.cells #[] 37)).alloc (.cells #[int i64 0] 3)):=by
    have hsz:=HB.out.size;refine ColSt.start HRW.out ?_ HO.out (λk hk=>by rw[Below.heap_alloc _ _ _ (by simp;omega),Below.heap_alloc _ _ _ hk]) ((HB.out.alloc hsz _).alloc (by simp;omega) _) ?_ ?_ (by simp[Value.ownBlock]) ?_ (by omega) (by omega) ?_ ?_
    ·intro y hy
     have h1:y.r∈L.map Rw.r:=List.mem_map_of_mem hy;rw[HL.out,List.take_length]at h1;obtain⟨q,hq,e⟩:=List.mem_map.1 h1;rw[<-e,List.length_map,HLEN.out.2.2 q hq,hwd]
    ·have h1:=qfb wr 37 w.heap.size hsz
     exact qbi h1 (λk hk=>by
      have hlt:=qcu h1 k hk;rw[Below.heap_alloc _ _ _ hlt])
    ·intro k hk e
     have hlt:=qcu HO.out k hk
     have:k=wr.heap.size:=by simpa [Value.ownBlock] using e.symm
     omega
    ·have:=qd8 (wr.alloc (.cells #[] 37)) (.cells #[int i64 0] 3)
     simpa using this
    ·have e:=congrArg List.length HL.out
     have:=HLEN.out.1
     simp at e
     omega
    ·have h1:=H.out
     rw[zl.f,if_neg HP.out,if_pos HLEN.out,hwd]at h1;rw[HL.out,List.take_length];exact h1
   have HI:=Lib.hid hI;have HWD:Hid (width < 1000000):=Lib.hid (by rw[<-hwd];exact HLEN.out.2.1);clear hI HL HRW HO HB H hwd HLEN;obtain⟨wx,hwx⟩:∃ wx,(wr.alloc (.cells #[] 37)).alloc (.cells #[int i64 0] 3)=wx:=⟨_,rfl⟩
   rw[hwx]at HI;rw[hwx];clear hwx
   go_step
   go_loopg [5,11,12] width (λkq v5 v11 v12 w'=>ColSt k p r width w.heap.size w kq v5 v11 v12 w')
   case atStart=>exact HI.out
   case round =>
    clear HI;obtain⟨c,bc,ρ,Z,L,O,hcd,rfl,hst,hnd,htot,hred⟩:=hrel;obtain⟨w1,hw1⟩:∃ w1,wr=w1:=⟨_,rfl⟩
    have HCD:=Lib.hid hcd;have HST:=Lib.hid hst;have HND:=Lib.hid hnd;have HTOT:=Lib.hid htot;have HRED:=Lib.hid hred;have hc0:wr.cell? ⟨bc,0,none⟩=some (int i64 c):=(qe hst.box 0).trans rfl;clear hcd hst hnd htot hred hw1
    cases L with
    | nil=>
     obtain⟨A5,cap5,rfl⟩:=qif HST.out.own5;have HRES:Hid (Kd.S KI 37 wr w.heap.size (λ_=>True) u11 r):=Lib.hid (ColSt.fin HST.out HND.out (by have h:=HRED.out;rw[vals,List.map_nil,qgt]at h;exact(Option.some.inj h).symm));have hd0:decide ((0:Int)>0)=false:=rfl
     go_wp2
     go_quiet (fail)
     go_wp2;go_ret
     exact⟨u11,rfl,Kd.AQ HRES.out nq,Qs HST.out.below nq⟩
    | cons y L=>
     obtain⟨g5,cap5,cur5,rfl,hg5,hh5,hc5,hm5,hs5,ht5⟩:=qe9 HST.out.own5 (.inr (by simp));have hx5:wr.cell? ⟨g5,0,none⟩=some (.slice (some ⟨y.b,0,none⟩) width y.cap):=qd2 hh5 ht5 0 (by simp) _ (by simp[Hn.hd]);have HM5:=Lib.hid hm5;have HC5:=Lib.hid hc5;clear hg5 hh5 hc5 hm5 hs5 ht5;have HLY:Hid ((y :: L).length=L.length+1):=Lib.hid rfl;generalize hn5:(y :: L).length=n5 at*;have hd0:decide (0 < n5)=true:=decide_eq_true (by have:=HLY.out;omega);have q0:(0 < n5)=True:=eq_true (by have:=HLY.out;omega);have HN5:=Lib.hid hn5;clear hn5
     cases gk with
     | zero=>
      have hcw:c=width:=HCD.out;subst hcw;have HRES:Hid (Kd.S KI 37 wr w.heap.size (λ_=>True) u11 r):=Lib.hid (ColSt.fin HST.out HND.out (Option.some.inj HRED.out).symm)
      go_wp2
      go_quiet (fail)
      go_wp2;go_ret
      exact⟨u11,rfl,Kd.AQ HRES.out nq,Qs HST.out.below nq⟩
     | succ d =>
      have hd1:decide (c < width)=true:=decide_eq_true (by have:=HCD.out;omega)
      go_wp2
      go_quiet (fail)
      clear hx5 hc0 hd0 hd1 q0;have HST2:=Lib.hid (HST.out.drewN nq);clear HST;generalize wr.drewN nq=w2 at HST2 ⊢;go_wp2_with fail;have hcol:∀ (j:Nat) (w3:World),j < (y :: L).length->Drawn0 w2 w3->Calls Tryz.prog 115 (#[Hn.hd width ((y :: L).getD j y)]++#[.pointer (some ⟨bc,0,none⟩)]) w3 λe w'=>e=.returned (.bool (rd (ρ ((y :: L).getD j y).b) (c:Int) !=0))/\Drawn0 w3 w':=by
       rintro j w3 hj ⟨q,rfl⟩;have hz:(y :: L).getD j y∈Z:=HST2.out.sub _ (List.mem_append_left _ (by rw[List.getD_eq_getElem?_getD,List.getElem?_eq_getElem hj];exact List.getElem_mem hj));exact qnf _ bc c _ width _ #[] _ (by omega) (by have:=HCD.out;omega) HST2.out.box (HST2.out.rows.cell hz c (by have:=HCD.out;omega))
      have hcells:∀ j,j < (y :: L).length->w2.cell? ⟨g5,j,none⟩=some (Hn.hd width ((y :: L).getD j y)):=by
       intro j hj;have h5:=HST2.out.own5;obtain⟨g,cap,cur,e,_,hh,_,_,_,ht⟩:=qe9 h5 (.inl (by simp[Value.ownBlock]));injection e with e1 _ _
       injection e1 with e1
       injection e1 with e1
       subst e1;exact qd2 hh ht j hj _ (by rw[List.getElem?_map,List.getElem?_eq_getElem hj,List.getD_eq_getElem?_getD,List.getElem?_eq_getElem hj];rfl)
      have hfst:=ql6 (λz:Hn=>rd (ρ z.b) (c:Int) !=0) y (y :: L) (λj=>rd (ρ ((y :: L).getD j y).b) (c:Int) !=0) 0 (λj hj=>by simp);have hcall:=qjb 115 #[.pointer (some ⟨bc,0,none⟩)] (λj=>rd (ρ ((y :: L).getD j y).b) (c:Int) !=0) (λj=>Hn.hd width ((y :: L).getD j y)) g5 (y :: L).length cap5 w2 (by have:=HC5.out;have:=HM5.out;have:=HN5.out;unfold maxLen at*;omega) hcells (Go.Proofs.enters_of Tryz.func115 (by kernel_rfl) rfl) hcol;have HCALL:=Lib.hid hcall;have HFST:=Lib.hid hfst;clear hcall hfst hcol hcells;rw[HFST.out,HN5.out]at HCALL
      cases hf:(y :: L).findIdx? (λz:Hn=>rd (ρ z.b) (c:Int) !=0) with
      | none=>
       rw[hf]at HCALL;have HF:=Lib.hid hf;clear hf;refine HCALL.out.mono ?_;rintro e w3 ⟨rfl,⟨q,rfl⟩⟩;have HST3:=Lib.hid (HST2.out.drewN q);clear HCALL HFST HST2;generalize w2.drewN q=w4 at HST3 ⊢;have hc0:w4.cell? ⟨bc,0,none⟩=some (int i64 c):=(qe HST3.out.box 0).trans rfl
       go_wp2
       have hw1:wrap64 ((c:Int)+1)=((c+1:Nat):Int):=by have:=HCD.out;have:=HWD.out;unfold wrap64;omega
       rw[hw1];clear hw1 hc0
       go_roundg d
       case measure=>omega
       case rel=>exact⟨c+1,w4.heap.size,ρ,Z,y :: L,O,by have:=HCD.out;omega,rfl,HST3.out.next HST3.out.below.size,HND.out,HTOT.out,quh HRED.out HF.out⟩
      | some i=>
       rw[hf]at HCALL;obtain⟨A,x,B,hsp,rfl⟩:=qok _ _ _ hf;rw[hsp]at hf HST2 HRED HND HN5 HTOT;have HF:=Lib.hid hf;refine HCALL.out.mono ?_;rintro e w3 ⟨rfl,⟨q,rfl⟩⟩;have HST3:=Lib.hid (HST2.out.drewN q);clear HCALL HFST HST2 hf HLY hsp;generalize w2.drewN q=w4 at HST3 ⊢;have hlen:n5=A.length+1+B.length:=by have:=HN5.out;simp at this;omega
       have hi0:decide ((A.length:Int) < 0)=false:=decide_eq_false (by omega);have p1:(0<=(A.length:Int))=True:=eq_true (by omega);have q1:((A.length:Int) < (n5:Int))=True:=eq_true (by omega);have hx5:w4.cell? ⟨g5,A.length,none⟩=some (.slice (some ⟨x.b,0,none⟩) width x.cap):=by
        have h5:=HST3.out.own5;obtain⟨g,cap,cur,e,_,hh,_,_,_,ht⟩:=qe9 h5 (.inl (by simp[Value.ownBlock]));injection e with e1 _ _
        injection e1 with e1
        injection e1 with e1
        subst e1;exact qd2 hh ht A.length (by omega) _ (by simp[Hn.hd])
       have hw1:wrap64 ((A.length:Int)+1)=((A.length+1:Nat):Int):=by have:=HC5.out;have:=HM5.out;unfold maxLen at*;unfold wrap64;omega
       have HLEN5:=Lib.hid hlen;have HW1:=Lib.hid hw1;clear hlen hw1;go_wp2_with fail;have HX:Hid (x∈Z):=Lib.hid (HST3.out.sub x (by simp));have HL6:Hid ((A++B).length+1=n5):=Lib.hid (by have:=HLEN5.out;simp;omega);have hst3:=HST3.out;rw[<-HN5.out]at hst3;have hcall:=qo1 g5 cap5 A.length (A++B).length ((A++x :: B).map (Hn.pair width)) w4 (by have h5:=hst3.own5;rw[qc3]at h5;exact qq0 h5) (by rw[List.length_map,HN5.out];exact HC5.out) (by have:=HM5.out;unfold maxLen at this;omega) (by rw[List.length_map,HN5.out,HLEN5.out];omega) (by rw[List.length_map,HN5.out,HL6.out]);rw[List.length_map,HN5.out,<-HW1.out]at hcall;have HCALL:=Lib.hid hcall;clear hcall hx5 hi0 p1 q1;refine HCALL.out.mono ?_;rintro e w5 ⟨rfl,⟨q2,rfl⟩⟩;have HST5:=Lib.hid (hst3.del (q:=q2) (zr:=(none,0,0)));clear HCALL HST3 hst3 HW1 HLEN5;generalize Sort.putRow hdV (Sort.ahead w4 q2) g5 0 _=w6 at HST5 ⊢;obtain⟨n6,hn6⟩:∃ n6,(A++B).length=n6:=⟨_,rfl⟩
       rw[hn6]at HST5 HL6 ⊢;have HN6:=Lib.hid hn6;obtain⟨R,hR⟩:∃ R,ρ x.b=R:=⟨_,rfl⟩
       have HRL:Hid (R.length=width):=Lib.hid (by rw[<-hR];exact(HST5.out.rows.at_ x HX.out).2.2);have hc0:w6.cell? ⟨bc,0,none⟩=some (int i64 c):=(qe HST5.out.box 0).trans rfl;have hxc:w6.cell? ⟨x.b,c,none⟩=some (int i64 (rd R (c:Int))):=by rw[<-hR];exact HST5.out.rows.cell HX.out c (by have:=HCD.out;omega)
       have p1:(0<=(c:Int))=True:=eq_true (by omega);have q1:((c:Int) < (width:Int))=True:=eq_true (by have:=HCD.out;omega);obtain⟨by_,hinv,hred2⟩:=qtv HRED.out HF.out;rw[hR]at hinv hred2;have HINV:=Lib.hid hinv;have HRED2:=Lib.hid hred2;have HR:=Lib.hid hR;clear hn6 hR hinv hred2 HRED HF;go_wp2_with fail;refine(Qc.calls _ _ _ _ _ HINV.out).mono ?_;rintro e w7 ⟨rfl,⟨q3,rfl⟩⟩;have HST7:=Lib.hid (HST5.out.drewN q3);clear HST5 hc0 hxc p1 q1;generalize w6.drewN q3=w7 at HST7 ⊢
       go_upto_block 6 with fail
       go_step
       go_loopw [83] (λi w'=>∃ j:Nat,j<=width/\i=int i64 j/\St w.heap.size w w' c bc width (upd ρ x.b ((Qu p by_ R).take j++R.drop j)) Z (A++B) O (.slice (some ⟨g5,0,none⟩) n6 cap5) u11) (λi _=>width - (intOf i).toNat)
       case atStart=>
        refine⟨0,by omega,rfl,?_⟩;rw[List.take_zero,List.drop_zero,List.nil_append,<-HR.out,qna];exact HST7.out
       case round=>
        clear HST7;obtain⟨j,hj,rfl,hst⟩:=hrel;have HJ:=Lib.hid hj;have HST:=Lib.hid hst;clear hj hst
        by_cases hlt:j < width
        ·have hd2:decide (j < width)=true:=decide_eq_true hlt
         have p1:(0<=(j:Int))=True:=eq_true (by omega);have q1:((j:Int) < (width:Int))=True:=eq_true (by omega);have hx1:wr.cell? ⟨x.b,j,none⟩=some (int i64 (rd R (j:Int))):=by
          rw[HST.out.rows.cell HX.out j hlt,qcv,qpd _ _ _ (by simp[Qu]) (by have:=HRL.out;omega)]
         have hf1:wr.frozen? ⟨x.b,j,none⟩=false:=HST.out.rows.frozen HX.out j;have HLT:=Lib.hid hlt;clear hlt;go_wp2
         have hw1:wrap64 ((j:Int)+1)=((j+1:Nat):Int):=by have:=HLT.out;have:=HWD.out;unfold wrap64;omega
         go_roundw
         case measure=>rw[hw1];simp only[intOf];have:=HLT.out;omega
         case rel=>
          refine⟨j+1,by have:=HLT.out;omega,by rw[hw1],?_⟩;have h:=HST.out.set HX.out j (Int.tmod (wrap64 (rd R (j:Int)*by_)) p);rw[qcv,qpy,qmf _ _ _ _ (by simp[Qu]) (by have:=HRL.out;have:=HLT.out;omega) (qli _ _ _ _ (by have:=HRL.out;have:=HLT.out;omega))]at h;exact h
        ·have hjw:j=width:=by have:=HJ.out;omega
         subst hjw;have hst:=HST.out;rw[<-HRL.out,qme _ _ (by simp[Qu]),HRL.out]at hst;have HSTA:=Lib.hid hst;obtain⟨A11,cap11,e11⟩:=qif hst.own11;subst e11;clear HST hst HJ hlt;obtain⟨w8,hw8⟩:∃ w8,wr=w8:=⟨_,rfl⟩
         rw[hw8]at HSTA ⊢;clear hw8;have hb0:Below w.heap.size w (w8.alloc (.cells #[] 37)):=HSTA.out.below.alloc HSTA.out.below.size _;have hst0:=HSTA.out.grown hb0 (λk hk=>Below.heap_alloc _ _ _ hk);obtain⟨P1,hP1⟩:∃ P1,(A++B).map (Hn.pair j)=P1:=⟨_,rfl⟩
         obtain⟨P2,hP2⟩:∃ P2,O.map (Hn.pair j)=P2:=⟨_,rfl⟩
         have hl1:P1.length=n6:=by rw[<-hP1,List.length_map,HN6.out]
         have hl2:P2.length=O.length:=by rw[<-hP2,List.length_map]
         have hread5:ReadsOf hdV (none,0,0) (w8.alloc (.cells #[] 37)) (some ⟨g5,0,none⟩) n6 P1:=by
          have h5:=hst0.own5;rw[qc3,HN6.out,hP1]at h5;exact qep h5
         have hown0:(w8.alloc (.cells #[] 37)).ownsRow w.heap.size 37 1 (.slice (some ⟨w8.heap.size,0,none⟩) 0 0) 0 (encs hdV []):=qfb w8 37 _ HSTA.out.below.size;have hbnd:Hid (n6+O.length < 2000000):=Lib.hid (by have h1:=HTOT.out;have h2:=HN6.out;simp at h1 h2;omega);have HL1:=Lib.hid hl1;have HL2:=Lib.hid hl2;have HP1:=Lib.hid hP1;have HP2:=Lib.hid hP2;have HB0:=Lib.hid hb0;have HST0:=Lib.hid hst0;have HREAD5:=Lib.hid hread5;have HOWN0:=Lib.hid hown0;clear hb0 hst0 hread5 hown0 hP1 hP2 hl1 hl2
         go_wp2_with (first|((with_reducible refine zd (N:=100) rfl ?_);refine qb4 (w0:=w) (W:=w8.alloc (.cells #[] 37)) hdV (none,0,0) w.heap.size (by rfl) (.tmp 98) (.tmp 99) 24 37 (.slice none 0 0) 24 rfl Tryz.underlying24 Ja rfl (by decide) (λ_=>rfl) (.slice (some ⟨w8.heap.size,0,none⟩) 0 0) [] P1 (some ⟨g5,0,none⟩) n6 cap5 rfl rfl HOWN0.out HREAD5.out HB0.out HB0.out.size (by have:=hbnd.out;simp;omega) ?_))
         intro v1 w9 hown1 hb1 hg1 hat1;have hst1:St w.heap.size w w9 c bc j (upd ρ x.b (Qu p by_ R)) Z (A++B) O (.slice (some ⟨g5,0,none⟩) n6 cap5) (.slice A11 O.length cap11):=HSTA.out.grown hb1 (λk hk=>by
          rw[hg1.block k (by simp;omega) (by simp[Value.ownBlock];omega)];exact Below.heap_alloc _ _ _ hk)
         have hread11:ReadsOf hdV (none,0,0) w9 A11 O.length P2:=by
          have h5:=hst1.own11;rw[qc3,HP2.out]at h5;exact qep h5
         have HBLK:Hid (∀ k,v1.ownBlock=some k->w8.heap.size<=k):=Lib.hid (by
          intro k hk
          rcases hat1 with e|⟨b,e,hb⟩
          ·rw[e]at hk;simp[Value.ownBlock]at hk;omega
          ·rw[e]at hk;injection hk with hk;(try simp at hb);omega)
         have HG1:Hid (w8.heap.size<=w9.heap.size/\∀ k,k < w8.heap.size->w9.heap[k]? =w8.heap[k]?):=Lib.hid ⟨by have:=hg1.size;simp at this;omega,λk hk=>by
          rw[hg1.block k (by simp;omega) (by simp[Value.ownBlock];omega)];exact Below.heap_alloc _ _ _ hk⟩
         have hown1':w9.ownsRow w.heap.size 37 1 v1 P1.length (encs hdV P1):=by simpa using hown1
         have HOWN1:=Lib.hid hown1';have HB1:=Lib.hid hb1;have HST1:=Lib.hid hst1;have HREAD11:=Lib.hid hread11;clear hown1 hown1' hb1 hg1 hat1 hst1 hread11 HB0 HST0 HREAD5 HOWN0
         go_wp2_with (first|((with_reducible refine zd (N:=102) rfl ?_);refine qb4 (w0:=w) (W:=w9) hdV (none,0,0) w.heap.size (by rfl) (.tmp 100) (.tmp 101) 24 37 (.slice none 0 0) 24 rfl Tryz.underlying24 Ja rfl (by decide) (λ_=>rfl) v1 P1 P2 A11 O.length cap11 rfl rfl HOWN1.out HREAD11.out HB1.out HB1.out.size (by have:=hbnd.out;have:=HL1.out;omega) ?_))
         intro v2 w10 hown2 hb2 hg2 hat2;have hst2:St w.heap.size w w10 c bc j (upd ρ x.b (Qu p by_ R)) Z (A++B) O (.slice (some ⟨g5,0,none⟩) n6 cap5) (.slice A11 O.length cap11):=HSTA.out.grown hb2 (λk hk=>by
          rw[hg2.block k (Nat.lt_of_lt_of_le hk HG1.out.1) (λe=>by have:=HBLK.out k e.symm;omega)];exact HG1.out.2 k hk)
         obtain⟨T,hT⟩:∃ T,A++B++O=T:=⟨_,rfl⟩
         have hTl:P1.length+P2.length=T.length:=by rw[<-hT,HL1.out,HL2.out,List.length_append,HN6.out]
         have hown2':w10.ownsRow w.heap.size 37 1 v2 T.length (T.map (Hn.hd j)):=by
          have e:P1++P2=T.map (Hn.pair j):=by rw[<-HP1.out,<-HP2.out,<-List.map_append,hT]
          have h5:w10.ownsRow w.heap.size 37 1 v2 (P1++P2).length (encs hdV (P1++P2)):=by simpa using hown2
          rw[List.length_append,hTl]at h5;rw[qc3,<-e];exact h5
         obtain⟨A102,cap102,e102⟩:=qif hown2';subst e102;have HOWN2:=Lib.hid hown2';have HST2:=Lib.hid hst2;have HT:=Lib.hid hT;have HTL:Hid (T.length < 2000000):=Lib.hid (by rw[<-hTl,HL1.out,HL2.out];exact hbnd.out);clear hown2 hown2' hb2 hg2 hat2 hst2 hT hTl HST1 HG1 HBLK HB1 HOWN1 HREAD11 HSTA HP1 HP2 HL1 HL2 hbnd;have HPN:=Lib.hid (qny HND.out);rw[HT.out]at HPN;obtain⟨ρ1,hρ1⟩:∃ ρ1,upd ρ x.b (Qu p by_ R)=ρ1:=⟨_,rfl⟩
         obtain⟨N,hN⟩:∃ N:Nat->List Int,(λb=>Jp p c (Qu p by_ R) (ρ b))=N:=⟨_,rfl⟩
         rw[hρ1]at HST2;have HR1:=Lib.hid hρ1;have HNN:=Lib.hid hN;clear hρ1 hN;go_wp2_with fail
         go_loopw [104] (λi w'=>∃ q:Nat,q<=T.length/\i=int i64 q/\St w.heap.size w w' c bc j (qak ρ1 N ((T.take q).map Hn.b)) Z (A++B) O (.slice (some ⟨g5,0,none⟩) n6 cap5) (.slice A11 O.length cap11)/\w'.ownsRow w.heap.size 37 1 (.slice A102 T.length cap102) T.length (T.map (Hn.hd j))) (λi _=>T.length - (intOf i).toNat)
         case atStart=>exact⟨0,Nat.zero_le _,rfl,by rw[List.take_zero,List.map_nil,qo8];exact HST2.out,HOWN2.out⟩
         case round=>
          clear HST2 HOWN2;obtain⟨q,hq,rfl,hst,hown⟩:=hrel;have HQ:=Lib.hid hq;have HST:=Lib.hid hst;have HOWN:=Lib.hid hown;obtain⟨wq,hwq⟩:∃ wq,wr=wq:=⟨_,rfl⟩
          rw[hwq]at HST HOWN ⊢;clear hq hst hown hwq
          by_cases hlt:q < T.length
          ·obtain⟨t,ht⟩:∃ t,T[q]=t:=⟨_,rfl⟩
           have htm:t∈T:=ht ▸ List.getElem_mem hlt;have htz:t∈Z:=HST.out.sub t (by rw[HT.out];exact htm);have htx:t.b≠x.b:=λe=>HPN.out.1 (e ▸ List.mem_map_of_mem htm);have htq:t.b ∉ (T.take q).map Hn.b:=λe=>by
            have hn:=HPN.out.2.1;have hsp:T=T.take q++t :: T.drop (q+1):=by rw[<-ht,List.getElem_cons_drop,List.take_append_drop]
            rw[hsp,List.map_append,List.map_cons,List.nodup_append]at hn;exact hn.2.2 _ e _ List.mem_cons_self rfl
           obtain⟨g102,cp102,cur102,e102,_,hh102,_,_,_,ht102⟩:=qe9 HOWN.out (.inr (by omega));injection e102 with e1 _ e2
           subst e1;subst e2;have hx0:wq.cell? ⟨g102,q,none⟩=some (.slice (some ⟨t.b,0,none⟩) j t.cap):=by
            exact qd2 hh102 ht102 q hlt _ (by rw[List.getElem?_map,List.getElem?_eq_getElem hlt,ht];rfl)
           have hc0:wq.cell? ⟨bc,0,none⟩=some (int i64 c):=by exact(qe HST.out.box 0).trans rfl
           obtain⟨Rt,hRt⟩:∃ Rt,ρ t.b=Rt:=⟨_,rfl⟩
           have hcur:qak ρ1 N ((T.take q).map Hn.b) t.b=Rt:=by rw[qe0 _ _ _ htq,<-HR1.out,qfw _ _ _ htx,hRt]
           have hxc:wq.cell? ⟨t.b,c,none⟩=some (int i64 (rd Rt (c:Int))):=by rw[<-hcur];exact HST.out.rows.cell htz c (by have:=HCD.out;omega)
           have HRTL:Hid (Rt.length=j):=Lib.hid (by rw[<-hcur];exact(HST.out.rows.at_ t htz).2.2);have hd2:decide (q < T.length)=true:=decide_eq_true hlt;have p1:(0<=(q:Int))=True:=eq_true (by omega);have q1:((q:Int) < (T.length:Int))=True:=eq_true (by omega);have p2:(0<=(c:Int))=True:=eq_true (by omega);have q2:((c:Int) < (j:Int))=True:=eq_true (by have:=HCD.out;omega);have HLT:=Lib.hid hlt;have HTQ:=Lib.hid htq;have HTX:=Lib.hid htx;have HTZ:=Lib.hid htz;have HTT:Hid (T[q]? =some t):=Lib.hid (by rw[List.getElem?_eq_getElem hlt,ht]);have HRT:=Lib.hid hRt;have HCUR:=Lib.hid hcur;clear hlt ht htm htz htx htq hh102 ht102 hRt hcur
           go_upto_block 10 with fail
           clear hx0 hc0 hxc hd2 p1 q1 p2 q2
           go_step
           go_loopw [114] (λi w'=>∃ m:Nat,m<=j/\i=int i64 m/\St w.heap.size w w' c bc j (upd (qak ρ1 N ((T.take q).map Hn.b)) t.b ((N t.b).take m++Rt.drop m)) Z (A++B) O (.slice (some ⟨g5,0,none⟩) n6 cap5) (.slice A11 O.length cap11)/\w'.ownsRow w.heap.size 37 1 (.slice (some ⟨g102,0,none⟩) T.length cap102) T.length (T.map (Hn.hd j))) (λi _=>j - (intOf i).toNat)
           case atStart=>exact⟨0,Nat.zero_le _,rfl,by rw[List.take_zero,List.drop_zero,List.nil_append,<-HCUR.out,qna];exact HST.out,HOWN.out⟩
           case round=>
            clear HST HOWN;obtain⟨m,hm,rfl,hst,hown⟩:=hrel;have HM:=Lib.hid hm;have HST:=Lib.hid hst;have HOWN:=Lib.hid hown;have HNT:Hid (N t.b=Jp p c (Qu p by_ R) Rt):=Lib.hid (by rw[<-HNN.out,<-HRT.out]);have HNL:Hid ((N t.b).length=Rt.length):=Lib.hid (by rw[HNT.out,Jp,qfs]);clear hm hst hown
            by_cases hlt:m < j
            ·have hd2:decide (m < j)=true:=decide_eq_true hlt
             have p1:(0<=(m:Int))=True:=eq_true (by omega);have q1:((m:Int) < (j:Int))=True:=eq_true (by omega);have hx1:wr.cell? ⟨t.b,m,none⟩=some (int i64 (rd Rt (m:Int))):=by
              rw[HST.out.rows.cell HTZ.out m hlt,qcv,qpd _ _ _ HNL.out (by have:=HRTL.out;omega)]
             have hf1:wr.frozen? ⟨t.b,m,none⟩=false:=HST.out.rows.frozen HTZ.out m;have hx2:wr.cell? ⟨x.b,m,none⟩=some (int i64 (rd (Qu p by_ R) (m:Int))):=by
              rw[HST.out.rows.cell HX.out m hlt,qfw _ _ _ (Ne.symm HTX.out),qe0 _ _ _ (λe=>HPN.out.1 (by obtain⟨z,hz,e2⟩:=List.mem_map.1 e;rw[<-e2];exact List.mem_map_of_mem (List.mem_of_mem_take hz))),<-HR1.out,qcv]
             have HLT2:=Lib.hid hlt;clear hlt
             go_upto_region 34 with fail
             go_still_tail 16,(by kernel_rfl)
             still_call (qqm _ _ HP.out _)
             repeat still_step
             refine wpStill_nil ?_
             change wpList _ _ _ _ _ wr.drew
             have hf2:wr.drew.frozen? ⟨t.b,m,none⟩=false:=hf1;have hx3:wr.drew.cell? ⟨t.b,m,none⟩=some (int i64 (rd Rt (m:Int))):=hx1;have HSTD:=Lib.hid (HST.out.drewN 1);have HOWND:Hid (wr.drew.ownsRow w.heap.size 37 1 (.slice (some ⟨g102,0,none⟩) T.length cap102) T.length (T.map (Hn.hd j))):=HOWN;have e1:wr.drewN 1=wr.drew:=rfl;rw[e1]at HSTD;clear HST HOWN hx1 hx2 hf1 e1 hd2;generalize wr.drew=ws at HSTD HOWND hf2 hx3 ⊢;go_wp2_with fail;have hw1:wrap64 ((m:Int)+1)=((m+1:Nat):Int):=by have:=HLT2.out;have:=HWD.out;unfold wrap64;omega
             go_roundw
             case measure=>rw[hw1];simp only[intOf];have:=HLT2.out;omega
             case rel=>
              refine⟨m+1,by have:=HLT2.out;omega,by rw[hw1],?_,qkr HSTD.out.rows HTZ.out HOWND.out m _⟩;have h:=HSTD.out.set HTZ.out m (modV p (wrap64 (rd Rt (m:Int) - wrap64 (rd Rt (c:Int)*rd (Qu p by_ R) (m:Int)))));have hml:m < Rt.length:=by have:=HRTL.out;have:=HLT2.out;omega
              rw[qcv,qpy,qmf _ _ _ _ HNL.out hml (by rw[HNT.out];exact qmu _ _ _ _ _ hml)]at h;exact h
            ·have hmj:m=j:=by have:=HM.out;omega
             have hst:=HST.out;rw[hmj,<-HRTL.out,qme _ _ HNL.out,qmn,HRTL.out]at hst;have hlast:(T.take q).map Hn.b++[t.b]=(T.take (q+1)).map Hn.b:=by
              rw[List.take_add_one,List.map_append,HTT.out];rfl
             rw[hlast]at hst;have HSTE:=Lib.hid hst;subst hmj;clear hst hlast HST hlt;go_wp2_with fail;have hw1:wrap64 ((q:Int)+1)=((q+1:Nat):Int):=by have:=HLT.out;have:=HTL.out;unfold wrap64;omega
             go_roundw
             case measure=>rw[hw1];simp only[intOf];have:=HLT.out;omega
             case rel=>exact⟨q+1,by have:=HLT.out;omega,by rw[hw1],HSTE.out,HOWN.out⟩
          ·have hqe:q=T.length:=by have:=HQ.out;omega
           subst hqe;have hst:=HST.out;rw[List.take_length]at hst;have HSTF:=Lib.hid hst;have HOWF:=Lib.hid hst.own11;have HBF:=Lib.hid hst.below;clear hst HST HOWN hlt HQ
           go_wp2_with (first|((with_reducible refine zd (N:=138) rfl ?_);refine Jt (w0:=w) (W:=wq) w.heap.size (by rfl) (.tmp 135) (.tmp 137) 24 37 (.slice none 0 0) 1 24 rfl Tryz.underlying24 Ja rfl (by decide) (by decide) (.slice A11 O.length cap11) O.length (O.map (Hn.hd j)) [.slice (some ⟨x.b,0,none⟩) j x.cap] rfl rfl rfl (by simp[Value.oneCell']) HOWF.out HBF.out HBF.out.size (by have h:=HTOT.out;simp at h;omega) ?_))
           intro v3 w11 hown3 hb3 hg3 hat3;have hst3:=HSTF.out.done (x:=x) HX.out hown3 hb3 hg3 hat3;have HST11:=Lib.hid hst3;have hc0:w11.cell? ⟨bc,0,none⟩=some (int i64 c):=(qe hst3.box 0).trans rfl;clear hst3 hown3 hb3 hg3 hat3 HSTF HOWF HBF;go_wp2_with fail;have hw1:wrap64 ((c:Int)+1)=((c+1:Nat):Int):=by have:=HCD.out;have:=HWD.out;unfold wrap64;omega
           rw[hw1];clear hw1 hc0;have hpn:=HPN.out;have hr2:=HRED2.out;rw[<-HR.out]at hr2;have hfin:=qrr (x:=x) hr2 (by rw[HT.out];exact hpn.1);clear hr2;rw[HR.out,HR1.out,HNN.out,HT.out]at hfin;have hst4:=HST11.out;rw[<-HN6.out]at hst4
           go_roundg d
           case measure=>omega
           case rel=>
            rw[<-HN6.out];exact⟨c+1,w11.heap.size,_,Z,A++B,O++[x],by have:=HCD.out;omega,rfl,hst4.next hst4.below.size,hpn.2.2,by have h:=HTOT.out;simp at h;simp;omega,hfin⟩
mutual
def qk.l0 :Nat->Int->Int->List (List Int)->List Int->List (List Int)->Int->Int->Option ((List (List Int)))
 | 0,_,_,_,_,_,_,_=>none
 | k+1,x0,x2,x7,x8,x20,x21,x22=>if x22 < x21 then (if 0<=x22 then (if x22 < (x20.length:Int) then ((qp.f k (zt x20 x22) 1).bind λt408=>(if x8.length < 17592186044416 then (qk.l0 k x0 x2 x7 (x8++[t408]) x20 x21 (wrap64 (x22+1))) else (none))) else (none)) else (none)) else (qk.l1 k x0 x2 x7 x8 (([]:List (List Int))) x2 0)
def qk.l1 :Nat->Int->Int->List (List Int)->List Int->List (List Int)->Int->Int->Option ((List (List Int)))
 | 0,_,_,_,_,_,_,_=>none
 | k+1,x0,x2,x7,x8,x11,x33,x34=>if x34 < x33 then ((zf.f k x8 x34).bind λt418=>(if t418=true then (qk.l1 k x0 x2 x7 x8 x11 x33 (wrap64 (x34+1))) else (if 0<=x2 then (if (x2:Int).toNat<=35184372088832 then ((some (List.replicate (x2:Int).toNat 0:List Int)).bind λy419=>(if 0<=x34 then (if x34 < (y419.length:Int) then (qk.l2 k x0 x2 x7 x8 x11 x34 (y419.set (x34:Int).toNat 1) x33 x34 x7 (x7.length:Int) 0) else (none)) else (none))) else (none)) else (none)))) else ((zl.f k x0 x11).bind λt415=>(some t415))
def qk.l2 :Nat->Int->Int->List (List Int)->List Int->List (List Int)->Int->List Int->Int->Int->List (List Int)->Int->Int->Option ((List (List Int)))
 | 0,_,_,_,_,_,_,_,_,_,_,_,_=>none
 | k+1,x0,x2,x7,x8,x11,x12,x13,x33,x34,x45,x46,x47=>if x47 < x46 then (if 0<=x47 then (if x47 < (x45.length:Int) then (if x47 < (x8.length:Int) then (if 0<=x12 then (if x12 < ((zt x45 x47).length:Int) then ((qaf.f (wrap64 (-(rd (zt x45 x47) x12))) x0).bind λt426=>(if 0<=(rd x8 x47) then (if (rd x8 x47) < (x13.length:Int) then (qk.l2 k x0 x2 x7 x8 x11 x12 (x13.set ((rd x8 x47):Int).toNat t426) x33 x34 x45 x46 (wrap64 (x47+1))) else (none)) else (none))) else (none)) else (none)) else (none)) else (none)) else (none)) else (if x11.length < 5864062014805 then (qk.l1 k x0 x2 x7 x8 (x11++[x13]) x33 (wrap64 (x34+1))) else (none))
end
def qk.f (k:Nat) (a0:Int) (l1:List (List Int)) (a2:Int):Option ((List (List Int))):=(zl.f k a0 l1).bind λt401=>(qk.l0 k a0 a2 t401 (([]:List Int)) t401 (t401.length:Int) 0)
theorem qk.Ag :∀ k,(∀ y0 y1 y2 y3 y4 y5 y6,LeO (qk.l0 k y0 y1 y2 y3 y4 y5 y6) (qk.l0 (k+1) y0 y1 y2 y3 y4 y5 y6))/\(∀ y0 y1 y2 y3 y4 y5 y6,LeO (qk.l1 k y0 y1 y2 y3 y4 y5 y6) (qk.l1 (k+1) y0 y1 y2 y3 y4 y5 y6))/\(∀ y0 y1 y2 y3 y4 y5 y6 y7 y8 y9 y10 y11,LeO (qk.l2 k y0 y1 y2 y3 y4 y5 y6 y7 y8 y9 y10 y11) (qk.l2 (k+1) y0 y1 y2 y3 y4 y5 y6 y7 y8 y9 y10 y11))
 | 0=>⟨λ_ _ _ _ _ _ _ r h=>by simp[qk.l0]at h,λ_ _ _ _ _ _ _ r h=>by simp[qk.l1]at h,λ_ _ _ _ _ _ _ _ _ _ _ _ r h=>by simp[qk.l2]at h⟩
 | k+1=>by
  obtain⟨ih0,ih1,ih2⟩:=qk.Ag k;refine⟨?_,?_,?_⟩
  ·intro y0 y1 y2 y3 y4 y5 y6
   unfold qk.l0
   repeat' with_reducible first|intro _|apply ih0|apply ih1|apply ih2|apply zl.mono|apply zf.mono|apply qp.mono|apply Eb|apply Ec|apply Ed|apply Ee
  ·intro y0 y1 y2 y3 y4 y5 y6
   unfold qk.l1
   repeat' with_reducible first|intro _|apply ih0|apply ih1|apply ih2|apply zl.mono|apply zf.mono|apply qp.mono|apply Eb|apply Ec|apply Ed|apply Ee
  ·intro y0 y1 y2 y3 y4 y5 y6 y7 y8 y9 y10 y11
   unfold qk.l2
   repeat' with_reducible first|intro _|apply ih0|apply ih1|apply ih2|apply zl.mono|apply zf.mono|apply qp.mono|apply Eb|apply Ec|apply Ed|apply Ee
theorem qk.mono (a0 a1 a2 k):LeO (qk.f k a0 a1 a2) (qk.f (k+1) a0 a1 a2):=by
 obtain⟨ih0,ih1,ih2⟩:=qk.Ag k;unfold qk.f
 repeat' with_reducible first|intro _|apply ih0|apply ih1|apply ih2|apply zl.mono|apply zf.mono|apply qp.mono|apply Eb|apply Ec|apply Ed|apply Ee
def qk.T18 :Bool×List (List Nat×List Nat):=(true,[([],[]),([],[]),([],[]),([1,2],[1,2]),([3],[3]),([],[]),([],[]),([5,6],[5,6]),([7],[7]),([8],[8]),([],[]),([9,10],[9,10]),([0,4,0,1,2,3,4,5,6,7,8,9,10,11],[0,4]),([12,11,11,0,1,2,3,4,5,6,7,8,9,10,11],[11,12])])
def qk.B18 :List Nat:=[0,0,0,6,14,0,0,96,224,480,0,2016,4095,8191]
set_option maxHeartbeats 8000000 in
set_option maxRecDepth 100000 in
theorem qk.calls (k:Nat) (a0:Int) (A1:Option Addr) (c1:Nat) (l1:List (List Int)) (a2:Int) (r:List (List Int)) (w:World) (hr1:Kd.C KI w A1 l1.length l1) (hc1:l1.length<=c1) (h:qk.f k a0 l1 a2=some r):
  Calls Tryz.prog 66 #[int i64 a0,.slice A1 l1.length c1,int i64 a2] w λe w'=>∃ v0_:Value,e=.returned (v0_)/\Kd.S KI 37 w' w.heap.size (λ_=>True) v0_ r/\Below w.heap.size w w':=by
 have HR1:=am hr1;have HC1:=am hc1;clear hr1 hc1;have HB:=Em w;have H:=h;unfold qk.f at H;clear h;replace H:=bs H;obtain⟨t401,A4,H⟩:=H;generalize hy404:(([]:List Int))=y404 at H;have Ny404:=am hy404.symm;clear hy404;have H':=am H;clear H;go_enter Tryz.func66,Tryz.ntmps66
 go_wp2_with (first|((with_reducible refine za (f:=84) rfl ?_);refine gl 18 Tryz.func84 #[int i64 a0,.slice A1 l1.length c1] ?_;(with_reducible refine(zl.calls k a0 _ _ l1 t401 _ ?_ ?_ A4.out).mono ?_);exact wC HR1;exact HC1.out;rintro e w5 ⟨v402,rfl,ho0,hb⟩;refine⟨_,rfl,?_⟩;have HO403:=am (Kd.AD ho0 (bz HB));replace HB:=bq HB hb;(try clear hb);(try clear ho0))|((with_reducible refine zd (N:=19) rfl ?_);refine li 3 ([]:List Int) ?_;intro v405 w6 ho7 hb;rw[<-Ny404.out]at ho7;replace HO403:=eS HO403 (Kd.Am ho7) hb;have HO406:=am (Kd.Ai ho7 (bz HB));replace HB:=bq HB hb;clear hb ho7;obtain⟨Ao8,co8,eo8⟩:=Kd.AJ HO403.out;subst eo8))
 go_loopg [8,22] k (λkq v8 v22 w'=>∃ (x8_1:List Int) (x22_1:Int),v22=int i64 x22_1/\qf (qk.l0 kq a0 a2 t401 x8_1 t401 (t401.length:Int) x22_1=some r)/\qf (kq<=k)/\qf (Kd.S KI 37 w' w.heap.size (λk_=>some k_≠(v8:Value).ownBlock) (.slice Ao8 t401.length co8) t401)/\qf (Kd.R (Kd.int i64) 3 w' w.heap.size (λ_=>True) v8 x8_1)/\qf (Kd.S KI 37 w' w.heap.size (λk_=>some k_≠(v8:Value).ownBlock) (.slice Ao8 t401.length co8) t401)/\qf (Below w.heap.size w w'))
 case atStart=>exact⟨(y404),(0),fr,H',⟨Nat.le_refl _⟩,⟨Kd.Ap (Kd.At HO403.out (λ_ hk=>hk.2)) gs⟩,⟨wR HO406⟩,⟨Kd.Ap (Kd.At HO403.out (λ_ hk=>hk.2)) gs⟩,⟨bw HB⟩⟩
 case round =>
  clear H';try clear c1;try clear p2;try clear c6;try clear c8
  obtain⟨x8_1,x22_1,rfl,HA,HK1,HO_7,HO_8,HO_20,HB⟩:=hrel
  cases gk with
  | zero=>exact absurd HA.out (by simp[qk.l0])
  | succ k1 =>
   have H:=HA.out;clear HA;simp only[qk.l0]at H
   by_cases c9:x22_1 < (t401.length:Int)
   ·rw[if_pos c9]at H
    have c9b0:=decide_eq_true c9;clear c9;replace H:=Ef H;obtain⟨c10b0,H⟩:=H;replace H:=Ef H;obtain⟨c11b0,H⟩:=H;replace H:=bs H;obtain⟨t408,A12,H⟩:=H;replace H:=ifn H;obtain⟨c13,H⟩:=H;have LMc13:=am c13;clear c13;generalize hy409:(x8_1++[t408]:List Int)=y409 at H;have Ny409:=am hy409.symm;clear hy409;have H':=am H;clear H;have p407:0<=(x22_1:Int):=od;have q407:x22_1 < (t401.length:Int):=od;obtain⟨ad407,A407_0,c407_0,e407,hx407_0,hl407_0,hi407_0⟩:=qat (Kd.Al HO_20.out).2.2 x22_1 p407 q407
    cases e407
    obtain⟨ce407,hce407,hMe407,hcc407⟩:=Kd.Ci HO_20.out [] x22_1 p407 (by first|exact q407|exact od|(have e_:=(Kd.Al HO_20.out).1;omega));obtain⟨ve407_0,rfl,ge407_0⟩:=hMe407;have hv407_0:=hcc407 0 _ rfl;rw[Nat.add_zero,show (KI).sz=1 from rfl,Nat.mul_one]at hv407_0;replace hv407_0:=Option.some.inj (hv407_0.symm.trans hx407_0);rw[hv407_0]at ge407_0;clear hv407_0 ge407_0;clear hcc407 hce407;have HR407_0:=am hi407_0;have HC407_0:=am hl407_0;clear hi407_0 hl407_0;replace p407:=eq_true p407;replace q407:=eq_true q407
    go_wp2_with (first|((with_reducible refine za (f:=106) rfl ?_);refine gl 28 Tryz.func106 #[.slice A407_0 (zt t401 x22_1).length c407_0,int i64 1] ?_;(with_reducible refine(qp.calls k1 _ _ (zt t401 x22_1) 1 t408 _ ?_ ?_ A12.out).mono ?_);exact wC HR407_0;exact HC407_0.out;rintro e w' ⟨rfl,⟨nd,rfl⟩⟩;refine⟨_,rfl,?_⟩)|((with_reducible refine jz (b:=.append) (xs:=#[.tmp 26,.tmp 29]) rfl ?_);at_builtin;refine Kd.Au (Kd.int i64) (w0:=w) w.heap.size rfl (.tmp 26) (.tmp 29) 37 3 (int i64 0) 8 rfl Tryz.underlying37 Ju rfl (by decide) (by omega) u8 x8_1 t408 [int i64 t408] (λ_=>True) (λ_=>False) rfl rfl ?aP (λ_ hk=>hk.elim) ?aF ?aO ?aB ?aS ?aL ?_;(case aP=>exact rfl);(case aB=>exact(bw HB));(case aF=>exact(λ_ _=>trivial));(case aO=>exact(wR HO_8));(case aS=>exact(bz HB));(case aL=>have:=LMc13.out;omega);intro v410 w14 ho hb hg hat;rw[<-Ny409.out]at ho;replace HO_7:=am (Kd.Br (ok:=(λ_=>True)) (oS_ HO_7 (λ_ hk=>⟨trivial,hk⟩)) hg hat);replace HO_20:=am (Kd.Br (ok:=(λ_=>True)) (oS_ HO_20 (λ_ hk=>⟨trivial,hk⟩)) hg hat);replace HB:=am (hb);have HO411:=am (ho);clear HO_8;clear ho hb hg hat))
    go_roundg k1
    case measure=>have:=HK1.out;omega
    case rel=>exact⟨(y409),(wrap64 (x22_1+1)),fr,H',⟨by have:=HK1.out;omega⟩,⟨Kd.Ap (Kd.At HO_7.out (λ_ hk=>hk.2)) gs⟩,⟨wR HO411⟩,⟨Kd.Ap (Kd.At HO_20.out (λ_ hk=>hk.2)) gs⟩,⟨bw HB⟩⟩
   ·rw [if_neg c9] at H
    have c9b0:=decide_eq_false c9;clear c9;generalize hy412:(([]:List (List Int)))=y412 at H;have Ny412:=am hy412.symm;clear hy412;have H':=am H;clear H
    go_wp2_with (first|((with_reducible refine zd (N:=32) rfl ?_);refine Kd.BC KI _ 37 ?hg (N:=32) ?hd (xs:=([]:List (List Int))) (inner:=[]) (ok:=λ_=>True) (okp:=λ_=>True) ?hr ?hp (λ_ hk=>hk) trivial (Below.refl _ _) (Nat.le_refl _) (by simp) ?_;(case hd=>rfl);(case hg=>rfl);(case hr=>first|(go_simp;done)|(go_simp;rfl));(case hp=>exact(Reps.none _ _));intro v413 w15 ho16 hb hg_ hnew_;clear hg_ hnew_;rw[<-Ny412.out]at ho16;have HO414:=am (Kd.AD (Kd.Bm (Kd.Bm (Kd.Bm ho16 (Kd.S_lt (wS HO_7))) (Kd.R_lt (wR HO_8))) (Kd.S_lt (wS HO_20))) (bz HB));replace HO_7:=eS HO_7 (Kd.Bf ho16) hb;replace HO_8:=am (Kd.Af (wR HO_8) hb);replace HO_20:=eS HO_20 (Kd.Bf ho16) hb;replace HB:=bq HB hb;clear hb ho16))
    go_loopg [11,34] k1 (λkq v11 v34 w'=>∃ (x8_2:List Int) (x11_2:List (List Int)) (x34_2:Int),v34=int i64 x34_2/\qf (qk.l1 kq a0 a2 t401 x8_2 x11_2 a2 x34_2=some r)/\qf (kq<=k1)/\qf (Kd.S KI 37 w' w.heap.size (λk_=>some k_≠(u8:Value).ownBlock/\some k_≠(v11:Value).ownBlock) (.slice Ao8 t401.length co8) t401)/\qf (Kd.R (Kd.int i64) 3 w' w.heap.size (λ_=>True) u8 x8_2)/\qf (Kd.S KI 37 w' w.heap.size (λk_=>some k_≠((.slice Ao8 t401.length co8):Value).ownBlock/\some k_≠(u8:Value).ownBlock) v11 x11_2)/\qf (Below w.heap.size w w'))
    case atStart=>exact⟨(x8_1),(y412),(0),fr,H',⟨Nat.le_refl _⟩,⟨wS HO_7⟩,⟨wR HO_8⟩,⟨Kd.Ap (Kd.At HO414.out (λ_ hk=>⟨hk.1.1.2,hk.1.2⟩)) gs⟩,⟨bw HB⟩⟩
    case round=>
     clear H';try clear c1;try clear p2;try clear c4;try clear p4;try clear q4;try clear hx4;try clear c6;try clear p6;try clear c8;try clear c9;try clear c9b0;try clear c10;try clear c10b0;try clear c11;try clear c11b0;try clear c13
     try clear hx407_0;try clear p2;try clear p407;try clear q407
     obtain⟨x8_2,x11_2,x34_2,rfl,HA,HK2,HO_7,HO_8,HO_11,HB⟩:=hrel
     cases gk with
     | zero=>exact absurd HA.out (by simp[qk.l1])
     | succ k2=>
      have H:=HA.out;clear HA;simp only[qk.l1]at H;replace H:=Eg H;rcases H with ⟨c17b0,H⟩|⟨c17b0,H⟩
      ·replace H:=bs H;obtain⟨t418,A18,H⟩:=H
       by_cases c19:t418=true
       ·subst c19
        rw[if_pos rfl]at H;have H':=am H;clear H;obtain⟨Ao20,co20,eo20⟩:=Kd.Ah HO_8.out;subst eo20
        go_wp2_with (first|((with_reducible refine za (f:=107) rfl ?_);refine gl 39 Tryz.func107 #[.slice Ao20 x8_2.length co20,int i64 x34_2] ?_;(with_reducible refine(zf.calls k2 _ _ x8_2 x34_2 true _ ?_ ?_ A18.out).mono ?_);exact Kd.Ad (Kd.Ac HO_8.out).2.2 gs;exact(Kd.Ac HO_8.out).2.1;rintro e w' ⟨rfl,⟨nd,rfl⟩⟩;refine⟨_,rfl,?_⟩))
        go_roundg k2
        case measure=>have:=HK1.out;have:=HK2.out;omega
        case rel=>exact⟨(x8_2),(x11_2),(wrap64 (x34_2+1)),fr,H',⟨by have:=HK1.out;have:=HK2.out;omega⟩,⟨wS HO_7⟩,⟨wR HO_8⟩,⟨wS HO_11⟩,⟨bw HB⟩⟩
       ·replace c19:=Bool.eq_false_iff.mpr c19
        subst c19;rw[if_neg (show ¬ (false=true) by decide)]at H;replace H:=ifn H;obtain⟨c21,H⟩:=H;have c21b0:=eq_true c21;have c21b1:=decide_eq_true c21;clear c21;replace H:=ifn H;obtain⟨c22,H⟩:=H;have c22b0:=eq_true c22;have c22b1:=decide_eq_true c22;clear c22;replace H:=bsy H;obtain⟨y419,Ny419,H⟩:=H;replace H:=Ef H;obtain⟨c23b0,H⟩:=H;replace H:=Ef H;obtain⟨c24b0,H⟩:=H;generalize hy422:(y419.set (x34_2:Int).toNat 1:List Int)=y422 at H;have Ny422:=am hy422.symm;clear hy422;have H':=am H;clear H;obtain⟨Ao26,co26,eo26⟩:=Kd.Ah HO_8.out;subst eo26
        go_wp2_with (first|((with_reducible refine za (f:=107) rfl ?_);refine gl 39 Tryz.func107 #[.slice Ao26 x8_2.length co26,int i64 x34_2] ?_;(with_reducible refine(zf.calls k2 _ _ x8_2 x34_2 false _ ?_ ?_ A18.out).mono ?_);exact Kd.Ad (Kd.Ac HO_8.out).2.2 gs;exact(Kd.Ac HO_8.out).2.1;rintro e w' ⟨rfl,⟨nd,rfl⟩⟩;refine⟨_,rfl,?_⟩;(try (rw[qof wr];generalize hq_:World.drewN wr _=wr;have n0_:qf (Kd.S KI 37 wr w.heap.size (λk_=>some k_≠(.slice Ao8 t401.length co8:Value).ownBlock/\some k_≠(.slice Ao26 x8_2.length co26:Value).ownBlock) u11 x11_2):=⟨by rw[<-hq_];exact(wS HO_11)⟩;have n1_:qf (Kd.S KI 37 wr w.heap.size (λk_=>some k_≠(u11:Value).ownBlock/\some k_≠(.slice Ao26 x8_2.length co26:Value).ownBlock) (.slice Ao8 t401.length co8) t401):=⟨by rw[<-hq_];exact(oS_ HO_7 (λ_ hk=>⟨hk.2,hk.1⟩))⟩;have n2_:qf (Kd.R (Kd.int i64) 3 wr w.heap.size (λ_=>True) (.slice Ao26 x8_2.length co26) x8_2):=⟨by rw[<-hq_];exact(wR HO_8)⟩;have n3_:qf (Below w.heap.size w wr):=⟨by rw[<-hq_];exact(bw HB)⟩;clear HO_11 HO_7 HO_8 HB hq_;have HO_11:=n0_;have HO_7:=n1_;have HO_8:=n2_;have HB:=n3_;clear n0_ n1_ n2_ n3_)))|((with_reducible refine zd (N:=41) rfl ?_);refine Kd.C7 (Kd.int i64) _ 3 rfl (N:=41) rfl 37 _ _ rfl a2 rfl rfl Tryz.underlying37 (int i64 0) 8 Ju rfl (by decide) (by omega) 0 (ok:=λ_=>True) (okp:=λ_=>True) rfl (λ_ hk=>hk) trivial (od) (Nat.le_trans (Nat.mul_le_mul_right _ (od:a2.toNat<=35184372088832)) (by omega)) (Below.refl _ _) (Nat.le_refl _) ?_;intro v420 w27 ho28 hb hg_ hnew_;clear hg_ hnew_;rw[<-Ny419.out]at ho28;replace HO_7:=eS HO_7 (Kd.Am ho28) hb;replace HO_11:=eS HO_11 (Kd.Am ho28) hb;have HO421:=am (Kd.Ai (Kd.AW ho28 (Kd.R_lt (wR HO_8))) (bz HB));replace HO_8:=eR HO_8 (Kd.Am ho28) hb;replace HB:=bq HB hb;clear hb ho28;have p25:0<=(x34_2:Int):=od;have q25:(x34_2:Int) < ((y419.length:Int):Int):=od;obtain⟨go25,co25,eo25,gb25,gl25,cl25,HG25⟩:=Kd.Be HO421.out (by omega);(first|cases eo25|(injection eo25 with ea_ en_ ec_;(first|subst ea_|(injection ea_ with ea_;subst ea_));subst ec_;clear en_));have GB25:=am gb25;have GG25:=am HG25;clear gb25 gl25 HG25;obtain⟨hx25_0,hf25_0⟩:=Kd.Bt 0 HO421.out (x34_2:Int) p25 q25;replace p25:=eq_true p25;replace q25:=eq_true q25;have n_:=am (Kd.Ae (ok':=(λk_=>some k_≠(.slice Ao26 x8_2.length co26:Value).ownBlock)) HO421.out (λk_ hk=>hk.2));clear HO421;have HO421:=n_;clear n_;obtain⟨hy29_,hz29_⟩:=Kd.Bt 0 HO421.out (x34_2:Int) (od) (od);have HP29:=Kd.Cy HO421.out (x34_2:Int) 1))
        obtain⟨w30,hw⟩:∃ w_,w_=(w27.setCell ⟨go25,(x34_2:Int).toNat,none⟩ (int i64 1)):=⟨_,rfl⟩
        rw[<-hw]
        (have hg:w27.grownBy w30 (some go25):=(by rw[hw];exact HP29.2);have hp_:Kd.R (Kd.int i64) 3 w30 w.heap.size (λk_=>some k_≠(.slice Ao26 x8_2.length co26:Value).ownBlock) (.slice (some ⟨go25,0,none⟩) y419.length co25) y422:=(by rw[hw,Ny422.out];exact HP29.1);clear HP29;have n0_:=am (Kd.Br (v:=(.slice (some ⟨go25,0,none⟩) y419.length co25)) (v1:=(.slice (some ⟨go25,0,none⟩) y419.length co25)) (ok:=(λk_=>some k_≠(.slice Ao26 x8_2.length co26:Value).ownBlock/\some k_≠(u11:Value).ownBlock)) (by (with_reducible repeat (first|apply Kd.Ba|apply Kd.AQ|apply Kd.AU));first|exact HO_7.out|exact Kd.At HO_7.out (λ_ h=>⟨⟨h.1.2,h.1.1⟩,h.2⟩)) hg (.inl rfl));have n1_:=am (Kd.Bn (v:=(.slice (some ⟨go25,0,none⟩) y419.length co25)) (v1:=(.slice (some ⟨go25,0,none⟩) y419.length co25)) (ok:=(λ_=>True)) (by (with_reducible repeat (first|apply Kd.AN|apply Kd.AM|apply Kd.Ay));first|exact HO_8.out|exact Kd.At HO_8.out (λ_ h=>⟨⟨h.1.2,h.1.1⟩,h.2⟩)) hg (.inl rfl));have n2_:=am (Kd.Br (v:=(.slice (some ⟨go25,0,none⟩) y419.length co25)) (v1:=(.slice (some ⟨go25,0,none⟩) y419.length co25)) (ok:=(λk_=>some k_≠(.slice Ao8 t401.length co8:Value).ownBlock/\some k_≠(.slice Ao26 x8_2.length co26:Value).ownBlock)) (by (with_reducible repeat (first|apply Kd.Ba|apply Kd.AQ|apply Kd.AU));first|exact HO_11.out|exact Kd.At HO_11.out (λ_ h=>⟨⟨h.1.2,h.1.1⟩,h.2⟩)) hg (.inl rfl));have n3_:=am (hp_);have n4_:=am ((by rw[hw];exact Za (HB.out) GB25.out:Below w.heap.size w w30));clear HO_7;clear HO_8;clear HO_11;clear HO421;clear HB;have HO_7:=n0_;have HO_8:=n1_;have HO_11:=n2_;have HO421:=n3_;have HB:=n4_;clear n0_ n1_ n2_ n3_ n4_;clear hg hw hp_)
        go_loopg [47] k2 (λkq v47 w'=>∃ (x13_3:List Int) (x47_3:Int),v47=int i64 x47_3/\qf (qk.l2 kq a0 a2 t401 x8_2 x11_2 x34_2 x13_3 a2 x34_2 t401 (t401.length:Int) x47_3=some r)/\qf (kq<=k2)/\qf (Kd.S KI 37 w' w.heap.size (λk_=>some k_≠((.slice Ao26 x8_2.length co26):Value).ownBlock/\some k_≠(u11:Value).ownBlock/\some k_≠((.slice (some ⟨go25,0,none⟩) y419.length co25):Value).ownBlock) (.slice Ao8 t401.length co8) t401)/\qf (Kd.R (Kd.int i64) 3 w' w.heap.size (λk_=>some k_≠((.slice (some ⟨go25,0,none⟩) y419.length co25):Value).ownBlock) (.slice Ao26 x8_2.length co26) x8_2)/\qf (Kd.S KI 37 w' w.heap.size (λk_=>some k_≠((.slice Ao8 t401.length co8):Value).ownBlock/\some k_≠((.slice Ao26 x8_2.length co26):Value).ownBlock/\some k_≠((.slice (some ⟨go25,0,none⟩) y419.length co25):Value).ownBlock/\some k_≠((.slice Ao8 t401.length co8):Value).ownBlock) u11 x11_2)/\qf (Kd.R (Kd.int i64) 3 w' w.heap.size (λk_=>some k_≠((.slice Ao26 x8_2.length co26):Value).ownBlock) (.slice (some ⟨go25,0,none⟩) y419.length co25) x13_3)/\qf (Kd.S KI 37 w' w.heap.size (λk_=>some k_≠((.slice Ao26 x8_2.length co26):Value).ownBlock/\some k_≠(u11:Value).ownBlock/\some k_≠((.slice (some ⟨go25,0,none⟩) y419.length co25):Value).ownBlock) (.slice Ao8 t401.length co8) t401)/\qf (Below w.heap.size w w'))
        case atStart=>exact⟨(y422),(0),fr,H',⟨Nat.le_refl _⟩,⟨Kd.Ap (Kd.At HO_7.out (λ_ hk=>⟨hk.1.1,⟨hk.1.2,hk.2⟩⟩)) gs⟩,⟨Kd.Af (Kd.Ae HO_8.out (λ_ hk=>hk.2)) gs⟩,⟨Kd.Ap (Kd.At HO_11.out (λ_ hk=>⟨hk.1.1,⟨hk.1.2,⟨hk.2,hk.1.1⟩⟩⟩)) gs⟩,⟨wR HO421⟩,⟨Kd.Ap (Kd.At HO_7.out (λ_ hk=>⟨hk.1.1,⟨hk.1.2,hk.2⟩⟩)) gs⟩,⟨bw HB⟩⟩
        case round=>
         clear H';try clear c1;try clear c2;try clear p2;try clear q2;try clear hx2;try clear c4;try clear p4;try clear q4;try clear hx4;try clear c6;try clear p6;try clear c8;try clear c9;try clear c9b0;try clear c10;try clear c10b0
         try clear c11;try clear c11b0;try clear c13;try clear c17;try clear c17b0;try clear c19;try clear c21;try clear c21b0;try clear c21b1;try clear c22;try clear c22b0;try clear c22b1;try clear c23;try clear c23b0;try clear c24;try clear c24b0
         try clear p25;try clear q25;try clear hx25;try clear hf25;try clear hx25_0;try clear hx407_0;try clear p2;try clear p25;try clear p4;try clear p407;try clear p6;try clear q25;try clear q4;try clear q407
         obtain⟨x13_3,x47_3,rfl,HA,HK3,HO_7,HO_8,HO_11,HO_13,HO_45,HB⟩:=hrel;have hl13_3:=(Kd.Ac HO_13.out).1;rw[hl13_3]at HO_13
         (try simp only[hl13_3])
         (try simp only[hl13_3]at HO_7)
         (try simp only[hl13_3]at HO_8)
         (try simp only[hl13_3]at HO_11)
         (try simp only[hl13_3]at HO_45)
         cases gk with
         | zero=>exact absurd HA.out (by simp[qk.l2])
         | succ k3=>
          have H:=HA.out;clear HA;simp only[qk.l2]at H;replace H:=Eg H;rcases H with ⟨c31b0,H⟩|⟨c31b0,H⟩
          ·replace H:=Ef H;obtain⟨c32b0,H⟩:=H;replace H:=Ef H;obtain⟨c33b0,H⟩:=H;replace H:=ifn H;obtain⟨c34,H⟩:=H
           have c34b0:=decide_eq_true c34;clear c34;replace H:=Ef H;obtain⟨c35b0,H⟩:=H;replace H:=Ef H;obtain⟨c36b0,H⟩:=H;replace H:=bs H;obtain⟨t426,A37,H⟩:=H;replace H:=Ef H;obtain⟨c38b0,H⟩:=H;replace H:=Ef H;obtain⟨c39b0,H⟩:=H;generalize hy427:(x13_3.set ((rd x8_2 x47_3):Int).toNat t426:List Int)=y427 at H;have Ny427:=am hy427.symm;clear hy427;have H':=am H;clear H;have p423:0<=(x47_3:Int):=od;have q423:x47_3 < (t401.length:Int):=od;obtain⟨ad423,A423_0,c423_0,e423,hx423_0,hl423_0,hi423_0⟩:=qat (Kd.Al HO_45.out).2.2 x47_3 p423 q423
           cases e423
           obtain⟨ce423,hce423,hMe423,hcc423⟩:=Kd.Ci HO_45.out [] x47_3 p423 (by first|exact q423|exact od|(have e_:=(Kd.Al HO_45.out).1;omega));obtain⟨ve423_0,rfl,ge423_0⟩:=hMe423;have hv423_0:=hcc423 0 _ rfl;rw[Nat.add_zero,show (KI).sz=1 from rfl,Nat.mul_one]at hv423_0;replace hv423_0:=Option.some.inj (hv423_0.symm.trans hx423_0);rw[hv423_0]at ge423_0;have HL423_0:=am (show Kd.R (Kd.int i64) 3 _ _ _ _ (zt t401 x47_3) from ge423_0);clear hv423_0 ge423_0;clear hcc423 hce423;have HR423_0:=am hi423_0;clear hi423_0 hl423_0;replace p423:=eq_true p423;replace q423:=eq_true q423
           try go_wp2
           replace HO_7:=am (Kd.AU HO_7.out);replace HO_8:=am (Kd.Ay HO_8.out);replace HO_11:=am (Kd.AU HO_11.out);replace HO_13:=am (Kd.Ay HO_13.out);replace HO_45:=am (Kd.AU HO_45.out);replace HL423_0:=am (Kd.Ay HL423_0.out);replace HR423_0:=am (Kd.Cb HR423_0.out);replace HB:=am (Qn HB.out);have p424:0<=(x47_3:Int):=od;have q424:x47_3 < (x8_2.length:Int):=od;obtain⟨ad424,e424,hx424_0⟩:=Kd.Aj (Kd.Ac HO_8.out).2.2 x47_3 p424 q424
           cases e424;replace p424:=eq_true p424;replace q424:=eq_true q424
           obtain⟨ad425,e425,hx425_0,p425,q425⟩:=Es HR423_0.out x34_2 od od;cases e425
           refine st (T:=qk.T18) (B:=qk.B18) 14 (λw'=>w'.cell? (ad424.add (x47_3).toNat)=some (int i64 (rd x8_2 x47_3))/\w'.cell? (ad425.add (x34_2).toNat)=some (int i64 (rd (zt t401 x47_3) x34_2))) [13] (by kernel_rfl) (by kernel_rfl) (⟨hx424_0,hx425_0⟩) λhHeld HT_ HW_=>?_;generalize wr.drew=w41 at HO_7 HO_8 HO_11 HO_13 HO_45 HL423_0 HR423_0 HB hx424_0 hx425_0 hHeld ⊢;refine Et 0 52 1 53 HT_ ?_;refine Et 2 54 3 55 HT_ ?_;refine Et 5 57 6 58 HT_ ?_;refine Et 7 59 10 62 HT_ ?_;refine tk 4 56 HT_ HW_ hHeld ?_;refine tk 8 60 HT_ HW_ hHeld ?_;refine pz 9 61 HT_ ?_;refine on 11 (some 63) HT_ λK hK=>?_;refine gs_ Tryz.func108 #[int i64 (wrap64 (-(rd (zt t401 x47_3) x34_2))),int i64 a0] ?_
           with_reducible refine(qaf.calls (wrap64 (-(rd (zt t401 x47_3) x34_2))) a0 t426 _ A37.out).mono ?_
           rintro e w' ⟨rfl,⟨nd,rfl⟩⟩;refine⟨_,rfl,?_⟩;have p40:0<=((rd x8_2 x47_3):Int):=od;have q40:((rd x8_2 x47_3):Int) < ((x13_3.length:Int):Int):=od;obtain⟨hx40_0,hf40_0⟩:=Kd.Bt 0 HO_13.out ((rd x8_2 x47_3):Int) p40 q40;replace p40:=eq_true p40;replace q40:=eq_true q40;have HP42:=Kd.CK HO_13.out ((rd x8_2 x47_3):Int) t426;rw[<-Ny427.out]at HP42;have HQ42:=am HP42;clear HP42;refine hK.out _ _ ⟨hHeld.1,hHeld.2⟩ λhHeld=>nz ?_;clear hK K;refine pz 12 64 HT_ ?_;refine la 13 none HT_ λK hK=>?_;refine qhh (w1:=?_) (by rfl) rfl ?_ ?_
           rotate_left
           ·go_simp
            rfl
           refine hK.out _ _ ?_;clear hK K;refine Zh (Qe HT_.out (by kernel_rfl)) ?_
           try go_wp2
           (try simp only[<-hl13_3])
           go_roundg k3
           case measure=>have:=HK1.out;have:=HK2.out;have:=HK3.out;omega
           case rel=>exact⟨(y427),(wrap64 (x47_3+1)),fr,H',⟨by have:=HK1.out;have:=HK2.out;have:=HK3.out;omega⟩,⟨by (try simp only[hl13_3]);(with_reducible repeat (first|apply Kd.Ba|apply Kd.AQ|apply Kd.AU));exact Kd.At (Kd.Bk (p:=⟨go25,((rd x8_2 x47_3):Int).toNat,none⟩) (Kd.At HO_7.out (λk_ hk=>(⟨hk,λe_=>hk.2.2 (by rw[e_];rfl)⟩:_/\k_≠go25))) (λ_ hk=>hk.2) (int i64 t426)) (λ_ hk=>⟨hk.1.1,⟨hk.1.2.1,hk.1.2.2⟩⟩)⟩,⟨by (try simp only[hl13_3]);(with_reducible repeat (first|apply Kd.AN|apply Kd.AM|apply Kd.Ay));exact Kd.Ae (Kd.AZ (p:=⟨go25,((rd x8_2 x47_3):Int).toNat,none⟩) (Kd.Ae HO_8.out (λk_ hk=>(⟨hk,λe_=>hk (by rw[e_];rfl)⟩:_/\k_≠go25))) (λ_ hk=>hk.2) (int i64 t426)) (λ_ hk=>hk.1)⟩,⟨by (try simp only[hl13_3]);(with_reducible repeat (first|apply Kd.Ba|apply Kd.AQ|apply Kd.AU));exact Kd.At (Kd.Bk (p:=⟨go25,((rd x8_2 x47_3):Int).toNat,none⟩) (Kd.At HO_11.out (λk_ hk=>(⟨hk,λe_=>hk.2.2.1 (by rw[e_];rfl)⟩:_/\k_≠go25))) (λ_ hk=>hk.2) (int i64 t426)) (λ_ hk=>⟨hk.1.1,⟨hk.1.2.1,⟨hk.1.2.2.1,hk.1.2.2.2⟩⟩⟩)⟩,⟨by (try simp only[hl13_3]);(with_reducible repeat (first|apply Kd.AN|apply Kd.AM|apply Kd.Ay));exact HQ42.out⟩,⟨by (try simp only[hl13_3]);(with_reducible repeat (first|apply Kd.Ba|apply Kd.AQ|apply Kd.AU));exact Kd.At (Kd.Bk (p:=⟨go25,((rd x8_2 x47_3):Int).toNat,none⟩) (Kd.At HO_45.out (λk_ hk=>(⟨hk,λe_=>hk.2.2 (by rw[e_];rfl)⟩:_/\k_≠go25))) (λ_ hk=>hk.2) (int i64 t426)) (λ_ hk=>⟨hk.1.1,⟨hk.1.2.1,hk.1.2.2⟩⟩)⟩,⟨bx_ HB⟩⟩
          ·replace H:=ifn H;obtain⟨c43,H⟩:=H;have LMc43:=am c43;clear c43
           generalize hy428:(x11_2++[x13_3]:List (List Int))=y428 at H;have Ny428:=am hy428.symm;clear hy428;have H':=am H;clear H
           go_wp2_with (first|((with_reducible refine jz (b:=.append) (xs:=#[.tmp 66,.tmp 68]) rfl ?_);at_builtin;refine Kd.Bg KI (w0:=w) w.heap.size rfl (.tmp 66) (.tmp 68) 24 37 (.slice none 0 0) 24 rfl Tryz.underlying24 Ja rfl (by decide) (by omega) u11 x11_2 x13_3 [.slice (some ⟨go25,0,none⟩) x13_3.length co25] (λk_=>some k_≠(.slice Ao8 t401.length co8:Value).ownBlock/\some k_≠(.slice Ao26 x8_2.length co26:Value).ownBlock/\some k_≠(.slice Ao8 t401.length co8:Value).ownBlock) (λk_=>some k_=(.slice (some ⟨go25,0,none⟩) x13_3.length co25:Value).ownBlock) rfl rfl ?aP (λk_ hk_=>((Kd.Ae (ok':=λk_=>((λk_=>some k_≠(.slice Ao8 t401.length co8:Value).ownBlock/\some k_≠(.slice Ao26 x8_2.length co26:Value).ownBlock/\some k_≠(.slice Ao8 t401.length co8:Value).ownBlock)) k_/\some k_≠(u11:Value).ownBlock) (Kd.Ak (Kd.Ak (Kd.Ak (HO_13.out) (Kd.AB HO_7.out) (by decide)) (Kd.AB HO_45.out) (by decide)) (Kd.AB HO_11.out) (by decide)) (λk_ hk=>⟨⟨hk.1.1.2,⟨hk.1.1.1,hk.1.2⟩⟩,hk.2⟩))).1 k_ hk_.symm) ?aF ?aO ?aB ?aS ?aL ?_;(case aP=>exact Kd.BM (Kd.Ae (Kd.AO rfl (Kd.Ae (ok':=λk_=>((λk_=>some k_≠(.slice Ao8 t401.length co8:Value).ownBlock/\some k_≠(.slice Ao26 x8_2.length co26:Value).ownBlock/\some k_≠(.slice Ao8 t401.length co8:Value).ownBlock)) k_/\some k_≠(u11:Value).ownBlock) (Kd.Ak (Kd.Ak (Kd.Ak (HO_13.out) (Kd.AB HO_7.out) (by decide)) (Kd.AB HO_45.out) (by decide)) (Kd.AB HO_11.out) (by decide)) (λk_ hk=>⟨⟨hk.1.1.2,⟨hk.1.1.1,hk.1.2⟩⟩,hk.2⟩))) (λ_ h_=>h_)));(case aB=>exact(bw HB));(case aF=>exact(λk_ hk=>⟨Kd.fresh' (Kd.S_lt (wS HO_7)) k_ hk,Kd.fresh' (Kd.R_lt (wR HO_8)) k_ hk,Kd.fresh' (Kd.S_lt (wS HO_45)) k_ hk⟩));(case aO=>exact(oS_ HO_11 (λk_ hk=>⟨⟨hk.1,⟨hk.2.1,hk.2.2.2⟩⟩,λe_=>hk.2.2.1 e_⟩)));(case aS=>exact(bz HB));(case aL=>have:=LMc43.out;omega);intro v429 w44 ho hb hg hat;rw[<-Ny428.out]at ho;replace HO_7:=am (Kd.Br (ok:=(λk_=>some k_≠(.slice Ao26 x8_2.length co26:Value).ownBlock/\some k_≠(.slice (some ⟨go25,0,none⟩) x13_3.length co25:Value).ownBlock)) (oS_ HO_7 (λ_ hk=>⟨⟨hk.1,hk.2.2⟩,hk.2.1⟩)) hg hat);replace HO_8:=am (Kd.Bb (wR HO_8) (Kd.AB (wS HO_11)) (by decide) hg);replace HO_45:=am (Kd.Br (ok:=(λk_=>some k_≠(.slice Ao26 x8_2.length co26:Value).ownBlock/\some k_≠(.slice (some ⟨go25,0,none⟩) x13_3.length co25:Value).ownBlock)) (oS_ HO_45 (λ_ hk=>⟨⟨hk.1,hk.2.2⟩,hk.2.1⟩)) hg hat);replace HB:=am (hb);have HO430:=am (ho);clear HO_11 HO_13;clear ho hb hg hat))
           (try simp only[<-hl13_3])
           go_roundg k3
           case measure=>have:=HK1.out;have:=HK2.out;have:=HK3.out;omega
           case rel=>exact⟨(x8_2),(y428),(wrap64 (x34_2+1)),fr,H',⟨by have:=HK1.out;have:=HK2.out;have:=HK3.out;omega⟩,⟨by (try simp only[hl13_3]);(with_reducible repeat (first|apply Kd.Ba|apply Kd.AQ|apply Kd.AU));exact Kd.At HO_7.out (λ_ hk=>⟨hk.1.1,hk.2⟩)⟩,⟨by (try simp only[hl13_3]);(with_reducible repeat (first|apply Kd.AN|apply Kd.AM|apply Kd.Ay));exact Kd.Ae HO_8.out (λ_ hk=>trivial)⟩,⟨by (try simp only[hl13_3]);(with_reducible repeat (first|apply Kd.Ba|apply Kd.AQ|apply Kd.AU));exact Kd.At HO430.out (λ_ hk=>⟨hk.1,hk.2.1⟩)⟩,⟨bw HB⟩⟩
      ·replace H:=bs H;obtain⟨t415,A45,H⟩:=H;obtain rfl:=Option.some.inj H
       obtain⟨Ao46,co46,eo46⟩:=Kd.AJ HO_11.out;subst eo46
       go_wp2_with (first|((with_reducible refine za (f:=84) rfl ?_);refine gl 73 Tryz.func84 #[int i64 a0,.slice Ao46 x11_2.length co46] ?_;(with_reducible refine(zl.calls k2 a0 _ _ x11_2 t415 _ ?_ ?_ A45.out).mono ?_);exact Kd.Ad (Kd.Al HO_11.out).2.2 gs;exact(Kd.Al HO_11.out).2.1;rintro e w47 ⟨v416,rfl,ho0,hb⟩;refine⟨_,rfl,?_⟩;have HO417:=am (Kd.AD (Kd.Bm (Kd.Bm (Kd.Bm ho0 (Kd.S_lt (wS HO_7))) (Kd.R_lt (wR HO_8))) (Kd.S_lt (wS HO_11))) (bz HB));replace HO_7:=eS HO_7 (Kd.Bf ho0) hb;replace HO_8:=am (Kd.Af (wR HO_8) hb);replace HO_11:=eS HO_11 (Kd.Bf ho0) hb;replace HB:=bq HB hb;(try clear hb);(try clear ho0)))
       go_ret
       exact⟨_,fq,Kd.Ap (Kd.At HO417.out (λ_ hk=>trivial)) gs,bw HB⟩
set_option maxHeartbeats 8000000
attribute [local go_sem] Tryz.underlying49 Tryz.underlying51
def z9.l0 :Nat->List (List Int)->List (S51)->Int->Int->Option ((List (List Int)))
 | 0,_,_,_,_=>none
 | k+1,x3,x10,x11,x12=>if x12 < x11 then (if 0<=x12 then (if x12 < (x10.length:Int) then (if x3.length < 5864062014805 then (z9.l0 k (x3++[(([wrap64 (((qg x10 x12).f0.f0)*((qg x10 x12).f0.f0)),wrap64 (((qg x10 x12).f0.f0)*((qg x10 x12).f0.f1)),wrap64 (((qg x10 x12).f0.f0)*((qg x10 x12).f0.f2)),wrap64 (((qg x10 x12).f0.f1)*((qg x10 x12).f0.f1)),wrap64 (((qg x10 x12).f0.f1)*((qg x10 x12).f0.f2)),wrap64 (((qg x10 x12).f0.f2)*((qg x10 x12).f0.f2))]:List Int))]) x10 x11 (wrap64 (x12+1))) else (none)) else (none)) else (none)) else (some x3)
def z9.f (k:Nat) (l0:List (S51)):Option ((List (List Int))):=z9.l0 k (([]:List (List Int))) l0 (l0.length:Int) 0
theorem z9.Ag :∀ k,(∀ y0 y1 y2 y3,LeO (z9.l0 k y0 y1 y2 y3) (z9.l0 (k+1) y0 y1 y2 y3))
 | 0=>λ_ _ _ _ r h=>by simp[z9.l0]at h
 | k+1=>by
  have ih0:=z9.Ag k
  ·intro y0 y1 y2 y3
   unfold z9.l0
   repeat' with_reducible first|intro _|apply ih0|apply Eb|apply Ec|apply Ed|apply Ee
theorem z9.mono (a0 k):LeO (z9.f k a0) (z9.f (k+1) a0):=by
 have ih0:=z9.Ag k;unfold z9.f
 repeat' with_reducible first|intro _|apply ih0|apply Eb|apply Ec|apply Ed|apply Ee
theorem z9.calls (k:Nat) (A0:Option Addr) (c0:Nat) (l0:List (S51)) (r:List (List Int)) (w:World) (hr0:Kd.C k51 w A0 l0.length l0) (hc0:l0.length<=c0) (h:z9.f k l0=some r):
  Calls Tryz.prog 67 #[.slice A0 l0.length c0] w λe w'=>∃ v0_:Value,e=.returned (v0_)/\Kd.S KI 37 w' w.heap.size (λ_=>True) v0_ r/\Below w.heap.size w w':=by
 have HR0:=am hr0;clear hr0 hc0;have HB:=Em w;have H:=h;unfold z9.f at H;clear h;generalize hy431:(([]:List (List Int)))=y431 at H;have Ny431:=am hy431.symm;clear hy431;have H':=am H;clear H;go_enter Tryz.func67,Tryz.ntmps67
 go_wp2_with (first|((with_reducible refine zd (N:=9) rfl ?_);refine Kd.BC KI _ 37 ?hg (N:=9) ?hd (xs:=([]:List (List Int))) (inner:=[]) (ok:=λ_=>True) (okp:=λ_=>True) ?hr ?hp (λ_ hk=>hk) trivial (Below.refl _ _) (Nat.le_refl _) (by simp) ?_;(case hd=>rfl);(case hg=>rfl);(case hr=>first|(go_simp;done)|(go_simp;rfl));(case hp=>exact(Reps.none _ _));intro v432 w2 ho3 hb hg_ hnew_;clear hg_ hnew_;rw[<-Ny431.out]at ho3;have HO433:=am (Kd.AD ho3 (bz HB));replace HB:=bq HB hb;clear hb ho3))
 repeat (go_quiet (first|((with_reducible refine zd (N:=9) rfl ?_);refine Kd.BC KI _ 37 ?hg (N:=9) ?hd (xs:=([]:List (List Int))) (inner:=[]) (ok:=λ_=>True) (okp:=λ_=>True) ?hr ?hp (λ_ hk=>hk) trivial (Below.refl _ _) (Nat.le_refl _) (by simp) ?_;(case hd=>rfl);(case hg=>rfl);(case hr=>first|(go_simp;done)|(go_simp;rfl));(case hp=>exact(Reps.none _ _));intro v432 w2 ho3 hb hg_ hnew_;clear hg_ hnew_;rw[<-Ny431.out]at ho3;have n0_:=am (Kd.AD ho3 (bz HB));have n1_:=bq HB hb;clear HB;have HO433:=n0_;have HB:=n1_;clear n0_ n1_;clear hb ho3));try go_wp2_with (first|((with_reducible refine zd (N:=9) rfl ?_);refine Kd.BC KI _ 37 ?hg (N:=9) ?hd (xs:=([]:List (List Int))) (inner:=[]) (ok:=λ_=>True) (okp:=λ_=>True) ?hr ?hp (λ_ hk=>hk) trivial (Below.refl _ _) (Nat.le_refl _) (by simp) ?_;(case hd=>rfl);(case hg=>rfl);(case hr=>first|(go_simp;done)|(go_simp;rfl));(case hp=>exact(Reps.none _ _));intro v432 w2 ho3 hb hg_ hnew_;clear hg_ hnew_;rw[<-Ny431.out]at ho3;have n0_:=am (Kd.AD ho3 (bz HB));have n1_:=bq HB hb;clear HB;have HO433:=n0_;have HB:=n1_;clear n0_ n1_;clear hb ho3)))
 go_loopg [3,12] k (λkq v3 v12 w'=>∃ (x3_1:List (List Int)) (x12_1:Int),v12=int i64 x12_1/\qf (z9.l0 kq x3_1 l0 (l0.length:Int) x12_1=some r)/\qf (kq<=k)/\qf (Kd.S KI 37 w' w.heap.size (λ_=>True) v3 x3_1)/\qf (Below w.heap.size w w'))
 case atStart=>exact⟨(y431),(0),fr,H',⟨Nat.le_refl _⟩,⟨wS HO433⟩,⟨bw HB⟩⟩
 case round=>
  clear H';try clear p2
  obtain⟨x3_1,x12_1,rfl,HA,HK1,HO_3,HB⟩:=hrel
  cases gk with
  | zero=>exact absurd HA.out (by simp[z9.l0])
  | succ k1=>
   have H:=HA.out;clear HA;simp only[z9.l0]at H;replace H:=Eg H;rcases H with ⟨c4b0,H⟩|⟨c4b0,H⟩
   ·replace H:=Ef H;obtain⟨c5b0,H⟩:=H;replace H:=Ef H;obtain⟨c6b0,H⟩:=H
    generalize hy436:(([wrap64 (((qg l0 x12_1).f0.f0)*((qg l0 x12_1).f0.f0)),wrap64 (((qg l0 x12_1).f0.f0)*((qg l0 x12_1).f0.f1)),wrap64 (((qg l0 x12_1).f0.f0)*((qg l0 x12_1).f0.f2)),wrap64 (((qg l0 x12_1).f0.f1)*((qg l0 x12_1).f0.f1)),wrap64 (((qg l0 x12_1).f0.f1)*((qg l0 x12_1).f0.f2)),wrap64 (((qg l0 x12_1).f0.f2)*((qg l0 x12_1).f0.f2))]:List Int))=y436 at H;have Ny436:=am hy436.symm;clear hy436;replace H:=ifn H;obtain⟨c7,H⟩:=H;have LMc7:=am c7;clear c7;generalize hy439:(x3_1++[y436]:List (List Int))=y439 at H;have Ny439:=am hy439.symm;clear hy439;have H':=am H;clear H;have p434:0<=(x12_1:Int):=od;have q434:x12_1 < (l0.length:Int):=od;obtain⟨ad434,e434,hx434_0,hx434_1,hx434_2⟩:=Zn HR0.out x12_1 p434 q434
    cases e434
    replace hx434_0:=wcl HB hx434_0;replace hx434_1:=wcl HB hx434_1;replace hx434_2:=wcl HB hx434_2;replace p434:=eq_true p434;replace q434:=eq_true q434
    go_wp2_with (first|((with_reducible refine zd (N:=5) rfl ?_);refine xe_ 5 51 #[int i64 0,int i64 0,int i64 0] ?_;intro gb435 hg w8 hbox hb;replace HO_3:=am (Kd.Ap (wS HO_3) hb);have BK435:=am (hbox);have GW435:=Ek HB hg;replace HB:=bq HB hb;clear hb hbox hg;have hcz9_0:=En BK435.out;have hcz9_1:=Eo BK435.out;have hcz9_2:=Ep BK435.out;have hfz9_0:=ql BK435.out 0;have hfz9_1:=ql BK435.out 1;have hfz9_2:=ql BK435.out 2)|((with_reducible refine zd (N:=44) rfl ?_);refine li 3 [wrap64 (((qg l0 x12_1).f0.f0)*((qg l0 x12_1).f0.f0)),wrap64 (((qg l0 x12_1).f0.f0)*((qg l0 x12_1).f0.f1)),wrap64 (((qg l0 x12_1).f0.f0)*((qg l0 x12_1).f0.f2)),wrap64 (((qg l0 x12_1).f0.f1)*((qg l0 x12_1).f0.f1)),wrap64 (((qg l0 x12_1).f0.f1)*((qg l0 x12_1).f0.f2)),wrap64 (((qg l0 x12_1).f0.f2)*((qg l0 x12_1).f0.f2))] ?_;intro v437 w10 ho11 hb;rw[<-Ny436.out]at ho11;replace HO_3:=am (Kd.Bz (by (with_reducible repeat (first|apply Kd.Ba|apply Kd.AQ|apply Kd.AU));exact(Kd.At (Kd.Bk (p:=⟨gb435,2,none⟩) (Kd.Bk (p:=⟨gb435,1,none⟩) (Kd.Bk (p:=⟨gb435,0,none⟩) (Kd.BT HO_3.out BK435.out (by decide)) (λ_ hk=>hk.2) (int i64 ((qg l0 x12_1).f0.f0))) (λ_ hk=>hk.2) (int i64 ((qg l0 x12_1).f0.f1))) (λ_ hk=>hk.2) (int i64 ((qg l0 x12_1).f0.f2))) (λ_ h_=>h_.1))) (Kd.Am ho11) hb);have HO438:=am (Kd.Ai ho11 (zw (bx_ HB)));replace BK435:=am (qt (g:=gb435) (o:=.cells #[int i64 ((qg l0 x12_1).f0.f0),int i64 ((qg l0 x12_1).f0.f1),int i64 ((qg l0 x12_1).f0.f2)] 51 (0,0)) (by (with_reducible repeat (first|refine qw ?_ _|refine qy ?_|refine qx ?_ _));refine Zf (cs:=#[int i64 ((qg l0 x12_1).f0.f0),int i64 ((qg l0 x12_1).f0.f1),int i64 0]) ?_ 2 _ rfl;(with_reducible repeat (first|refine qw ?_ _|refine qy ?_|refine qx ?_ _));refine Zf (cs:=#[int i64 ((qg l0 x12_1).f0.f0),int i64 0,int i64 0]) ?_ 1 _ rfl;(with_reducible repeat (first|refine qw ?_ _|refine qy ?_|refine qx ?_ _));refine Zf (cs:=#[int i64 0,int i64 0,int i64 0]) ?_ 0 _ rfl;(with_reducible repeat (first|refine qw ?_ _|refine qy ?_|refine qx ?_ _));exact BK435.out) hb);replace HB:=am (ze (bx_ HB) hb);clear hb ho11;obtain⟨Ao13,co13,eo13⟩:=Kd.Ah HO438.out;subst eo13)|((with_reducible refine jz (b:=.append) (xs:=#[.tmp 25,.tmp 45]) rfl ?_);at_builtin;refine Kd.Bg KI (w0:=w) w.heap.size rfl (.tmp 25) (.tmp 45) 24 37 (.slice none 0 0) 24 rfl Tryz.underlying24 Ja rfl (by decide) (by omega) u3 x3_1 y436 [.slice Ao13 y436.length co13] (λ_=>True) (λk_=>some k_=(.slice Ao13 y436.length co13:Value).ownBlock) rfl rfl ?aP (λk_ hk_=>((Kd.Ae (ok':=λk_=>((λ_=>True)) k_/\some k_≠(u3:Value).ownBlock) (Kd.Ak (HO438.out) (Kd.AB HO_3.out) (by decide)) (λk_ hk=>⟨trivial,hk.2⟩))).1 k_ hk_.symm) ?aF ?aO ?aB ?aS ?aL ?_;(case aP=>exact Kd.BM (Kd.Ae (Kd.AO rfl (Kd.Ae (ok':=λk_=>((λ_=>True)) k_/\some k_≠(u3:Value).ownBlock) (Kd.Ak (HO438.out) (Kd.AB HO_3.out) (by decide)) (λk_ hk=>⟨trivial,hk.2⟩))) (λ_ h_=>h_)));(case aB=>exact(bx_ HB));(case aF=>exact(λ_ _=>trivial));(case aO=>exact(oS_ HO_3 (λk_ hk=>⟨trivial,λe_=>hk.2 e_⟩)));(case aS=>exact(zw (bx_ HB)));(case aL=>have:=LMc7.out;omega);intro v440 w12 ho hb hg hat;rw[<-Ny439.out]at ho;replace BK435:=am (Z2 (g:=gb435) (o:=.cells #[int i64 ((qg l0 x12_1).f0.f0),int i64 ((qg l0 x12_1).f0.f1),int i64 ((qg l0 x12_1).f0.f2)] 51 (0,0)) (pk_ BK435) hg (Kd.S_ne HO_3.out BK435.out (by decide)));replace HB:=am (hb);have HO441:=am (ho);clear HO_3 HO438;clear ho hb hg hat))
    repeat (go_quiet (first|((with_reducible refine zd (N:=5) rfl ?_);refine xe_ 5 51 #[int i64 0,int i64 0,int i64 0] ?_;intro gb435 hg w8 hbox hb;have n0_:=am (Kd.Ap (wS HO_3) hb);have n1_:=bq HB hb;have n2_:=am (hbox);have n3_:=Ek HB hg;have n4_:=Ek HB hg;clear HO_3;clear HB;have HO_3:=n0_;have HB:=n1_;have BK435:=n2_;have GW435:=n3_;clear n0_ n1_ n2_ n3_ n4_;clear hb hbox hg;have hcz9_0:=En BK435.out;have hcz9_1:=Eo BK435.out;have hcz9_2:=Ep BK435.out;have hfz9_0:=ql BK435.out 0;have hfz9_1:=ql BK435.out 1;have hfz9_2:=ql BK435.out 2)|((with_reducible refine zd (N:=44) rfl ?_);refine Kd.AR (Kd.int i64) _ 3 ?hg (N:=44) ?hd (xs:=([wrap64 (((qg l0 x12_1).f0.f0)*((qg l0 x12_1).f0.f0)),wrap64 (((qg l0 x12_1).f0.f0)*((qg l0 x12_1).f0.f1)),wrap64 (((qg l0 x12_1).f0.f0)*((qg l0 x12_1).f0.f2)),wrap64 (((qg l0 x12_1).f0.f1)*((qg l0 x12_1).f0.f1)),wrap64 (((qg l0 x12_1).f0.f1)*((qg l0 x12_1).f0.f2)),wrap64 (((qg l0 x12_1).f0.f2)*((qg l0 x12_1).f0.f2))]:List Int)) (inner:=[int i64 (wrap64 (((qg l0 x12_1).f0.f0)*((qg l0 x12_1).f0.f0))),int i64 (wrap64 (((qg l0 x12_1).f0.f0)*((qg l0 x12_1).f0.f1))),int i64 (wrap64 (((qg l0 x12_1).f0.f0)*((qg l0 x12_1).f0.f2))),int i64 (wrap64 (((qg l0 x12_1).f0.f1)*((qg l0 x12_1).f0.f1))),int i64 (wrap64 (((qg l0 x12_1).f0.f1)*((qg l0 x12_1).f0.f2))),int i64 (wrap64 (((qg l0 x12_1).f0.f2)*((qg l0 x12_1).f0.f2)))]) (ok:=λ_=>True) (okp:=λ_=>True) ?hr ?hp (λ_ hk=>hk) trivial (Below.refl _ _) (Nat.le_refl _) (by simp) ?_;(case hd=>rfl);(case hg=>rfl);(case hr=>first|(go_simp;done)|(go_simp;rfl));(case hp=>exact(Reps.one (show Kd.M (Kd.int i64) _ _ _ (wrap64 (((qg l0 x12_1).f0.f0)*((qg l0 x12_1).f0.f0))) [int i64 (wrap64 (((qg l0 x12_1).f0.f0)*((qg l0 x12_1).f0.f0)))] from rfl) (Reps.one (show Kd.M (Kd.int i64) _ _ _ (wrap64 (((qg l0 x12_1).f0.f0)*((qg l0 x12_1).f0.f1))) [int i64 (wrap64 (((qg l0 x12_1).f0.f0)*((qg l0 x12_1).f0.f1)))] from rfl) (Reps.one (show Kd.M (Kd.int i64) _ _ _ (wrap64 (((qg l0 x12_1).f0.f0)*((qg l0 x12_1).f0.f2))) [int i64 (wrap64 (((qg l0 x12_1).f0.f0)*((qg l0 x12_1).f0.f2)))] from rfl) (Reps.one (show Kd.M (Kd.int i64) _ _ _ (wrap64 (((qg l0 x12_1).f0.f1)*((qg l0 x12_1).f0.f1))) [int i64 (wrap64 (((qg l0 x12_1).f0.f1)*((qg l0 x12_1).f0.f1)))] from rfl) (Reps.one (show Kd.M (Kd.int i64) _ _ _ (wrap64 (((qg l0 x12_1).f0.f1)*((qg l0 x12_1).f0.f2))) [int i64 (wrap64 (((qg l0 x12_1).f0.f1)*((qg l0 x12_1).f0.f2)))] from rfl) (Reps.one (show Kd.M (Kd.int i64) _ _ _ (wrap64 (((qg l0 x12_1).f0.f2)*((qg l0 x12_1).f0.f2))) [int i64 (wrap64 (((qg l0 x12_1).f0.f2)*((qg l0 x12_1).f0.f2)))] from rfl) (Reps.none _ _))))))));intro v437 w10 ho11 hb hg_ hnew_;clear hg_ hnew_;rw[<-Ny436.out]at ho11;have n0_:=am (Kd.Bz (by (with_reducible repeat (first|apply Kd.Ba|apply Kd.AQ|apply Kd.AU));exact(Kd.At (Kd.Bk (p:=⟨gb435,2,none⟩) (Kd.Bk (p:=⟨gb435,1,none⟩) (Kd.Bk (p:=⟨gb435,0,none⟩) (Kd.BT HO_3.out BK435.out (by decide)) (λ_ hk=>hk.2) (int i64 ((qg l0 x12_1).f0.f0))) (λ_ hk=>hk.2) (int i64 ((qg l0 x12_1).f0.f1))) (λ_ hk=>hk.2) (int i64 ((qg l0 x12_1).f0.f2))) (λ_ h_=>h_.1))) (Kd.Am ho11) hb);have n1_:=am (Kd.Ai ho11 (zw (bx_ HB)));have n2_:=am (qt (g:=gb435) (o:=.cells #[int i64 ((qg l0 x12_1).f0.f0),int i64 ((qg l0 x12_1).f0.f1),int i64 ((qg l0 x12_1).f0.f2)] 51 (0,0)) (by (with_reducible repeat (first|refine qw ?_ _|refine qy ?_|refine qx ?_ _));refine Zf (cs:=#[int i64 ((qg l0 x12_1).f0.f0),int i64 ((qg l0 x12_1).f0.f1),int i64 0]) ?_ 2 _ rfl;(with_reducible repeat (first|refine qw ?_ _|refine qy ?_|refine qx ?_ _));refine Zf (cs:=#[int i64 ((qg l0 x12_1).f0.f0),int i64 0,int i64 0]) ?_ 1 _ rfl;(with_reducible repeat (first|refine qw ?_ _|refine qy ?_|refine qx ?_ _));refine Zf (cs:=#[int i64 0,int i64 0,int i64 0]) ?_ 0 _ rfl;(with_reducible repeat (first|refine qw ?_ _|refine qy ?_|refine qx ?_ _));exact BK435.out) hb);have n3_:=am (ze (bx_ HB) hb);clear HO_3;clear BK435;clear HB;have HO_3:=n0_;have HO438:=n1_;have BK435:=n2_;have HB:=n3_;clear n0_ n1_ n2_ n3_;clear hb ho11;obtain⟨Ao13,co13,eo13⟩:=Kd.Ah HO438.out;subst eo13)|((with_reducible refine jz (b:=.append) (xs:=#[.tmp 25,.tmp 45]) rfl ?_);at_builtin;refine Kd.Bg KI (w0:=w) w.heap.size rfl (.tmp 25) (.tmp 45) 24 37 (.slice none 0 0) 24 rfl Tryz.underlying24 Ja rfl (by decide) (by omega) u3 x3_1 y436 [.slice Ao13 y436.length co13] (λ_=>True) (λk_=>some k_=(.slice Ao13 y436.length co13:Value).ownBlock) rfl rfl ?aP (λk_ hk_=>((Kd.Ae (ok':=λk_=>((λ_=>True)) k_/\some k_≠(u3:Value).ownBlock) (Kd.Ak (HO438.out) (Kd.AB HO_3.out) (by decide)) (λk_ hk=>⟨trivial,hk.2⟩))).1 k_ hk_.symm) ?aF ?aO ?aB ?aS ?aL ?_;(case aP=>exact Kd.BM (Kd.Ae (Kd.AO rfl (Kd.Ae (ok':=λk_=>((λ_=>True)) k_/\some k_≠(u3:Value).ownBlock) (Kd.Ak (HO438.out) (Kd.AB HO_3.out) (by decide)) (λk_ hk=>⟨trivial,hk.2⟩))) (λ_ h_=>h_)));(case aB=>exact(bx_ HB));(case aF=>exact(λ_ _=>trivial));(case aO=>exact(oS_ HO_3 (λk_ hk=>⟨trivial,λe_=>hk.2 e_⟩)));(case aS=>exact(zw (bx_ HB)));(case aL=>have:=LMc7.out;omega);intro v440 w12 ho hb hg hat;rw[<-Ny439.out]at ho;have n0_:=am (Z2 (g:=gb435) (o:=.cells #[int i64 ((qg l0 x12_1).f0.f0),int i64 ((qg l0 x12_1).f0.f1),int i64 ((qg l0 x12_1).f0.f2)] 51 (0,0)) (pk_ BK435) hg (Kd.S_ne HO_3.out BK435.out (by decide)));have n1_:=am (hb);have n2_:=am (ho);clear BK435;clear HB;clear HO_3;clear HO438;have BK435:=n0_;have HB:=n1_;have HO441:=n2_;clear n0_ n1_ n2_;clear ho hb hg hat));try go_wp2_with (first|((with_reducible refine zd (N:=5) rfl ?_);refine xe_ 5 51 #[int i64 0,int i64 0,int i64 0] ?_;intro gb435 hg w8 hbox hb;have n0_:=am (Kd.Ap (wS HO_3) hb);have n1_:=bq HB hb;have n2_:=am (hbox);have n3_:=Ek HB hg;have n4_:=Ek HB hg;clear HO_3;clear HB;have HO_3:=n0_;have HB:=n1_;have BK435:=n2_;have GW435:=n3_;clear n0_ n1_ n2_ n3_ n4_;clear hb hbox hg;have hcz9_0:=En BK435.out;have hcz9_1:=Eo BK435.out;have hcz9_2:=Ep BK435.out;have hfz9_0:=ql BK435.out 0;have hfz9_1:=ql BK435.out 1;have hfz9_2:=ql BK435.out 2)|((with_reducible refine zd (N:=44) rfl ?_);refine Kd.AR (Kd.int i64) _ 3 ?hg (N:=44) ?hd (xs:=([wrap64 (((qg l0 x12_1).f0.f0)*((qg l0 x12_1).f0.f0)),wrap64 (((qg l0 x12_1).f0.f0)*((qg l0 x12_1).f0.f1)),wrap64 (((qg l0 x12_1).f0.f0)*((qg l0 x12_1).f0.f2)),wrap64 (((qg l0 x12_1).f0.f1)*((qg l0 x12_1).f0.f1)),wrap64 (((qg l0 x12_1).f0.f1)*((qg l0 x12_1).f0.f2)),wrap64 (((qg l0 x12_1).f0.f2)*((qg l0 x12_1).f0.f2))]:List Int)) (inner:=[int i64 (wrap64 (((qg l0 x12_1).f0.f0)*((qg l0 x12_1).f0.f0))),int i64 (wrap64 (((qg l0 x12_1).f0.f0)*((qg l0 x12_1).f0.f1))),int i64 (wrap64 (((qg l0 x12_1).f0.f0)*((qg l0 x12_1).f0.f2))),int i64 (wrap64 (((qg l0 x12_1).f0.f1)*((qg l0 x12_1).f0.f1))),int i64 (wrap64 (((qg l0 x12_1).f0.f1)*((qg l0 x12_1).f0.f2))),int i64 (wrap64 (((qg l0 x12_1).f0.f2)*((qg l0 x12_1).f0.f2)))]) (ok:=λ_=>True) (okp:=λ_=>True) ?hr ?hp (λ_ hk=>hk) trivial (Below.refl _ _) (Nat.le_refl _) (by simp) ?_;(case hd=>rfl);(case hg=>rfl);(case hr=>first|(go_simp;done)|(go_simp;rfl));(case hp=>exact(Reps.one (show Kd.M (Kd.int i64) _ _ _ (wrap64 (((qg l0 x12_1).f0.f0)*((qg l0 x12_1).f0.f0))) [int i64 (wrap64 (((qg l0 x12_1).f0.f0)*((qg l0 x12_1).f0.f0)))] from rfl) (Reps.one (show Kd.M (Kd.int i64) _ _ _ (wrap64 (((qg l0 x12_1).f0.f0)*((qg l0 x12_1).f0.f1))) [int i64 (wrap64 (((qg l0 x12_1).f0.f0)*((qg l0 x12_1).f0.f1)))] from rfl) (Reps.one (show Kd.M (Kd.int i64) _ _ _ (wrap64 (((qg l0 x12_1).f0.f0)*((qg l0 x12_1).f0.f2))) [int i64 (wrap64 (((qg l0 x12_1).f0.f0)*((qg l0 x12_1).f0.f2)))] from rfl) (Reps.one (show Kd.M (Kd.int i64) _ _ _ (wrap64 (((qg l0 x12_1).f0.f1)*((qg l0 x12_1).f0.f1))) [int i64 (wrap64 (((qg l0 x12_1).f0.f1)*((qg l0 x12_1).f0.f1)))] from rfl) (Reps.one (show Kd.M (Kd.int i64) _ _ _ (wrap64 (((qg l0 x12_1).f0.f1)*((qg l0 x12_1).f0.f2))) [int i64 (wrap64 (((qg l0 x12_1).f0.f1)*((qg l0 x12_1).f0.f2)))] from rfl) (Reps.one (show Kd.M (Kd.int i64) _ _ _ (wrap64 (((qg l0 x12_1).f0.f2)*((qg l0 x12_1).f0.f2))) [int i64 (wrap64 (((qg l0 x12_1).f0.f2)*((qg l0 x12_1).f0.f2)))] from rfl) (Reps.none _ _))))))));intro v437 w10 ho11 hb hg_ hnew_;clear hg_ hnew_;rw[<-Ny436.out]at ho11;have n0_:=am (Kd.Bz (by (with_reducible repeat (first|apply Kd.Ba|apply Kd.AQ|apply Kd.AU));exact(Kd.At (Kd.Bk (p:=⟨gb435,2,none⟩) (Kd.Bk (p:=⟨gb435,1,none⟩) (Kd.Bk (p:=⟨gb435,0,none⟩) (Kd.BT HO_3.out BK435.out (by decide)) (λ_ hk=>hk.2) (int i64 ((qg l0 x12_1).f0.f0))) (λ_ hk=>hk.2) (int i64 ((qg l0 x12_1).f0.f1))) (λ_ hk=>hk.2) (int i64 ((qg l0 x12_1).f0.f2))) (λ_ h_=>h_.1))) (Kd.Am ho11) hb);have n1_:=am (Kd.Ai ho11 (zw (bx_ HB)));have n2_:=am (qt (g:=gb435) (o:=.cells #[int i64 ((qg l0 x12_1).f0.f0),int i64 ((qg l0 x12_1).f0.f1),int i64 ((qg l0 x12_1).f0.f2)] 51 (0,0)) (by (with_reducible repeat (first|refine qw ?_ _|refine qy ?_|refine qx ?_ _));refine Zf (cs:=#[int i64 ((qg l0 x12_1).f0.f0),int i64 ((qg l0 x12_1).f0.f1),int i64 0]) ?_ 2 _ rfl;(with_reducible repeat (first|refine qw ?_ _|refine qy ?_|refine qx ?_ _));refine Zf (cs:=#[int i64 ((qg l0 x12_1).f0.f0),int i64 0,int i64 0]) ?_ 1 _ rfl;(with_reducible repeat (first|refine qw ?_ _|refine qy ?_|refine qx ?_ _));refine Zf (cs:=#[int i64 0,int i64 0,int i64 0]) ?_ 0 _ rfl;(with_reducible repeat (first|refine qw ?_ _|refine qy ?_|refine qx ?_ _));exact BK435.out) hb);have n3_:=am (ze (bx_ HB) hb);clear HO_3;clear BK435;clear HB;have HO_3:=n0_;have HO438:=n1_;have BK435:=n2_;have HB:=n3_;clear n0_ n1_ n2_ n3_;clear hb ho11;obtain⟨Ao13,co13,eo13⟩:=Kd.Ah HO438.out;subst eo13)|((with_reducible refine jz (b:=.append) (xs:=#[.tmp 25,.tmp 45]) rfl ?_);at_builtin;refine Kd.Bg KI (w0:=w) w.heap.size rfl (.tmp 25) (.tmp 45) 24 37 (.slice none 0 0) 24 rfl Tryz.underlying24 Ja rfl (by decide) (by omega) u3 x3_1 y436 [.slice Ao13 y436.length co13] (λ_=>True) (λk_=>some k_=(.slice Ao13 y436.length co13:Value).ownBlock) rfl rfl ?aP (λk_ hk_=>((Kd.Ae (ok':=λk_=>((λ_=>True)) k_/\some k_≠(u3:Value).ownBlock) (Kd.Ak (HO438.out) (Kd.AB HO_3.out) (by decide)) (λk_ hk=>⟨trivial,hk.2⟩))).1 k_ hk_.symm) ?aF ?aO ?aB ?aS ?aL ?_;(case aP=>exact Kd.BM (Kd.Ae (Kd.AO rfl (Kd.Ae (ok':=λk_=>((λ_=>True)) k_/\some k_≠(u3:Value).ownBlock) (Kd.Ak (HO438.out) (Kd.AB HO_3.out) (by decide)) (λk_ hk=>⟨trivial,hk.2⟩))) (λ_ h_=>h_)));(case aB=>exact(bx_ HB));(case aF=>exact(λ_ _=>trivial));(case aO=>exact(oS_ HO_3 (λk_ hk=>⟨trivial,λe_=>hk.2 e_⟩)));(case aS=>exact(zw (bx_ HB)));(case aL=>have:=LMc7.out;omega);intro v440 w12 ho hb hg hat;rw[<-Ny439.out]at ho;have n0_:=am (Z2 (g:=gb435) (o:=.cells #[int i64 ((qg l0 x12_1).f0.f0),int i64 ((qg l0 x12_1).f0.f1),int i64 ((qg l0 x12_1).f0.f2)] 51 (0,0)) (pk_ BK435) hg (Kd.S_ne HO_3.out BK435.out (by decide)));have n1_:=am (hb);have n2_:=am (ho);clear BK435;clear HB;clear HO_3;clear HO438;have HB:=n1_;have HO441:=n2_;clear n0_ n1_ n2_;clear ho hb hg hat)))
    go_roundg k1
    case measure=>have:=HK1.out;omega
    case rel=>exact⟨(y439),(wrap64 (x12_1+1)),fr,H',⟨by have:=HK1.out;omega⟩,⟨wS HO441⟩,⟨bx_ HB⟩⟩
   ·obtain rfl:=Option.some.inj H;go_wp2
    repeat (go_quiet (fail);try go_wp2)
    go_ret
    exact⟨_,fq,wS HO_3,bw HB⟩
def Zl.f (k:Nat) (a0:Int) (l1:List (S51)):Option (Bool):=if (l1.length:Int)=6 then ((Qd.f k a0 l1).bind λt442=>(if t442=true then ((z9.f k l1).bind λt443=>((qk.f k a0 t443 6).bind λt446=>(some ((t446.length:Int) == 0)))) else (some false))) else (some false)
theorem Zl.mono (a0 a1 k):LeO (Zl.f k a0 a1) (Zl.f (k+1) a0 a1):=by
 unfold Zl.f
 repeat' with_reducible first|intro _|apply Qd.mono|apply qk.mono|apply z9.mono|apply Eb|apply Ec|apply Ed|apply Ee
theorem Zl.calls (k:Nat) (a0:Int) (A1:Option Addr) (c1:Nat) (l1:List (S51)) (r:Bool) (w:World) (hr1:Kd.C k51 w A1 l1.length l1) (hc1:l1.length<=c1) (h:Zl.f k a0 l1=some r):
  Calls Tryz.prog 27 #[int i64 a0,.slice A1 l1.length c1] w λe w'=>e=.returned (.bool r)/\Below w.heap.size w w':=by
 have HR1:=am hr1;have HC1:=am hc1;clear hr1 hc1;have HB:=Em w;have H:=h;unfold Zl.f at H;clear h
 by_cases c3:(l1.length:Int)=6
 ·rw[if_pos c3]at H
  have c3b0:=beq_iff_eq.mpr c3;have c3b1:=bne_eq_false_iff_eq.mpr c3;clear c3;replace H:=bs H;obtain⟨t442,A4,H⟩:=H
  by_cases c5:t442=true
  ·subst c5
   rw[if_pos rfl]at H;replace H:=bs H;obtain⟨t443,A6,H⟩:=H;replace H:=bs H;obtain⟨t446,A7,H⟩:=H;obtain rfl:=Option.some.inj H;go_enter Tryz.func27,Tryz.ntmps27
   go_wp2_with (first|(go_at_call 65;(with_reducible refine(Qd.calls k a0 _ _ l1 true _ ?_ ?_ A4.out).mono ?_);exact wC HR1;exact HC1.out;rintro e w8 ⟨rfl,hb⟩;replace HB:=bq HB hb;(try clear hb))|(go_at_call 67;(with_reducible refine(z9.calls k _ _ l1 t443 _ ?_ ?_ A6.out).mono ?_);exact Kd.Ad HR1.out (bw HB);exact HC1.out;rintro e w9 ⟨v444,rfl,ho0,hb⟩;have HO445:=am (Kd.AD ho0 (bz HB));replace HB:=bq HB hb;(try clear hb);(try clear ho0);obtain⟨Ao10,co10,eo10⟩:=Kd.AJ HO445.out;subst eo10)|(go_at_call 66;(with_reducible refine(qk.calls k a0 _ _ t443 6 t446 _ ?_ ?_ A7.out).mono ?_);exact Kd.Ad (Kd.Al HO445.out).2.2 gs;exact(Kd.Al HO445.out).2.1;rintro e w11 ⟨v447,rfl,ho0,hb⟩;have HO448:=am (Kd.AD (Kd.Bm ho0 (Kd.S_lt (wS HO445))) (bz HB));replace HO445:=eS HO445 (Kd.Bf ho0) hb;replace HB:=bq HB hb;(try clear hb);(try clear ho0);obtain⟨Ao12,co12,eo12⟩:=Kd.AJ HO448.out;subst eo12))
   go_ret
   exact⟨fq,bw HB⟩
  ·replace c5:=Bool.eq_false_iff.mpr c5
   subst c5;rw[if_neg (show ¬ (false=true) by decide)]at H;obtain rfl:=Option.some.inj H;go_enter Tryz.func27,Tryz.ntmps27
   go_wp2_with (first|(go_at_call 65;(with_reducible refine(Qd.calls k a0 _ _ l1 false _ ?_ ?_ A4.out).mono ?_);exact wC HR1;exact HC1.out;rintro e w13 ⟨rfl,hb⟩;replace HB:=bq HB hb;(try clear hb)))
   go_ret
   exact⟨fq,bw HB⟩
 ·rw[if_neg c3]at H
  have c3b0:=beq_eq_false_iff_ne.mpr c3;have c3b1:=bne_iff_ne.mpr c3;obtain rfl:=Option.some.inj H;go_enter Tryz.func27,Tryz.ntmps27
  go_wp2;go_ret
  exact⟨fq,bw HB⟩
mutual
def zg.l0 :Nat->List (S49)->Int->Option ((List (S49)))
 | 0,_,_=>none
 | k+1,x1,x2=>if x2>=0 then (zg.l1 k x1 x2 (wrap64 (3 - x2))) else (some x1)
def zg.l1 :Nat->List (S49)->Int->Int->Option ((List (S49)))
 | 0,_,_,_=>none
 | k+1,x1,x2,x3=>if x3>=0 then (if x1.length < 5864062014805 then (zg.l1 k (x1++[(⟨x2,x3,wrap64 ((wrap64 (3 - x2)) - x3)⟩:S49)]) x2 (wrap64 (x3 - 1))) else (none)) else (zg.l0 k x1 (wrap64 (x2 - 1)))
end
def zg.f (k:Nat):Option ((List (S49))):=zg.l0 k (([]:List (S49))) 3
theorem zg.Ag :∀ k,(∀ y0 y1,LeO (zg.l0 k y0 y1) (zg.l0 (k+1) y0 y1))/\(∀ y0 y1 y2,LeO (zg.l1 k y0 y1 y2) (zg.l1 (k+1) y0 y1 y2))
 | 0=>⟨λ_ _ r h=>by simp[zg.l0]at h,λ_ _ _ r h=>by simp[zg.l1]at h⟩
 | k+1=>by
  obtain⟨ih0,ih1⟩:=zg.Ag k;refine⟨?_,?_⟩
  ·intro y0 y1
   unfold zg.l0
   repeat' with_reducible first|intro _|apply ih0|apply ih1|apply Eb|apply Ec|apply Ed|apply Ee
  ·intro y0 y1 y2
   unfold zg.l1
   repeat' with_reducible first|intro _|apply ih0|apply ih1|apply Eb|apply Ec|apply Ed|apply Ee
theorem zg.mono :∀ k,LeO (zg.f k ) (zg.f (k+1) ):=by
 intro  k;obtain⟨ih0,ih1⟩:=zg.Ag k;unfold zg.f
 repeat' with_reducible first|intro _|apply ih0|apply ih1|apply Eb|apply Ec|apply Ed|apply Ee
theorem zg.calls (k:Nat)  (r:List (S49)) (w:World) (h:zg.f k=some r):
  Calls Tryz.prog 109 #[] w λe w'=>∃ v0_:Value,e=.returned (v0_)/\Kd.R k49 49 w' w.heap.size (λ_=>True) v0_ r/\Below w.heap.size w w':=by
 have HB:=Em w;have H:=h;unfold zg.f at H;clear h;generalize hy449:(([]:List (S49)))=y449 at H;have Ny449:=am hy449.symm;clear hy449;have H':=am H;clear H;go_enter Tryz.func109,Tryz.ntmps109
 go_wp2_with (first|((with_reducible refine zd (N:=4) rfl ?_);refine Kd.AR k49 _ 49 ?hg (N:=4) ?hd (xs:=([]:List (S49))) (inner:=[]) (ok:=λ_=>True) (okp:=λ_=>True) ?hr ?hp (λ_ hk=>hk) trivial (Below.refl _ _) (Nat.le_refl _) (by simp) ?_;(case hd=>rfl);(case hg=>rfl);(case hr=>first|(go_simp;done)|(go_simp;rfl));(case hp=>exact(Reps.none _ _));intro v450 w1 ho2 hb hg_ hnew_;clear hg_ hnew_;rw[<-Ny449.out]at ho2;have HO451:=am (Kd.Ai ho2 (bz HB));replace HB:=bq HB hb;clear hb ho2))
 go_loopg [1,2] k (λkq v1 v2 w'=>∃ (x1_1:List (S49)) (x2_1:Int),v2=int i64 x2_1/\qf (zg.l0 kq x1_1 x2_1=some r)/\qf (kq<=k)/\qf (Kd.R k49 49 w' w.heap.size (λ_=>True) v1 x1_1)/\qf (Below w.heap.size w w'))
 case atStart=>exact⟨(y449),(3),fr,H',⟨Nat.le_refl _⟩,⟨wR HO451⟩,⟨bw HB⟩⟩
 case round=>
  clear H';try clear c1;try clear p2
  obtain⟨x1_1,x2_1,rfl,HA,HK1,HO_1,HB⟩:=hrel
  cases gk with
  | zero=>exact absurd HA.out (by simp[zg.l0])
  | succ k1=>
   have H:=HA.out;clear HA;simp only[zg.l0]at H;replace H:=Eg H;rcases H with ⟨c3b0,H⟩|⟨c3b0,H⟩
   ·have H':=am H;clear H;go_wp2
    go_loopg [1,3] k1 (λkq v1 v3 w'=>∃ (x1_2:List (S49)) (x3_2:Int),v3=int i64 x3_2/\qf (zg.l1 kq x1_2 x2_1 x3_2=some r)/\qf (kq<=k1)/\qf (Kd.R k49 49 w' w.heap.size (λ_=>True) v1 x1_2)/\qf (Below w.heap.size w w'))
    case atStart=>exact⟨(x1_1),(wrap64 (3 - x2_1)),fr,H',⟨Nat.le_refl _⟩,⟨wR HO_1⟩,⟨bw HB⟩⟩
    case round=>
     clear H';try clear c1;try clear p2;try clear c3;try clear c3b0;try clear p2
     obtain⟨x1_2,x3_2,rfl,HA,HK2,HO_1,HB⟩:=hrel
     cases gk with
     | zero=>exact absurd HA.out (by simp[zg.l1])
     | succ k2=>
      have H:=HA.out;clear HA;simp only[zg.l1]at H;replace H:=Eg H;rcases H with ⟨c4b0,H⟩|⟨c4b0,H⟩
      ·replace H:=ifn H;obtain⟨c5,H⟩:=H;have LMc5:=am c5;clear c5
       generalize hy452:(x1_2++[(⟨x2_1,x3_2,wrap64 ((wrap64 (3 - x2_1)) - x3_2)⟩:S49)]:List (S49))=y452 at H;have Ny452:=am hy452.symm;clear hy452;have H':=am H;clear H
       go_wp2_with (first|((with_reducible refine jz (b:=.append) (xs:=#[.tmp 15,.tmp 23]) rfl ?_);at_builtin;refine Kd.Au k49 (w0:=w) w.heap.size rfl (.tmp 15) (.tmp 23) 101 49 (.agg #[(int i64 0),(int i64 0),(int i64 0)]) 24 rfl Tryz.underlying101 info49 rfl (by decide) (by omega) u1 x1_2 (⟨x2_1,x3_2,wrap64 ((wrap64 (3 - x2_1)) - x3_2)⟩:S49) [int i64 x2_1,int i64 x3_2,int i64 (wrap64 ((wrap64 (3 - x2_1)) - x3_2))] (λ_=>True) (λ_=>False) rfl rfl ?aP (λ_ hk=>hk.elim) ?aF ?aO ?aB ?aS ?aL ?_;(case aP=>exact qa1 _ _ _ (⟨x2_1,x3_2,wrap64 ((wrap64 (3 - x2_1)) - x3_2)⟩:S49));(case aB=>exact(bw HB));(case aF=>exact(λ_ _=>trivial));(case aO=>exact(wR HO_1));(case aS=>exact(bz HB));(case aL=>have:=LMc5.out;omega);intro v453 w6 ho hb hg hat;rw[<-Ny452.out]at ho;replace HB:=am (hb);have HO454:=am (ho);clear HO_1;clear ho hb hg hat))
       go_roundg k2
       case measure=>have:=HK1.out;have:=HK2.out;omega
       case rel=>exact⟨(y452),(wrap64 (x3_2 - 1)),fr,H',⟨by have:=HK1.out;have:=HK2.out;omega⟩,⟨wR HO454⟩,⟨bw HB⟩⟩
      ·have H':=am H;clear H;go_wp2
       go_roundg k2
       case measure=>have:=HK1.out;have:=HK2.out;omega
       case rel=>exact⟨(x1_2),(wrap64 (x2_1 - 1)),fr,H',⟨by have:=HK1.out;have:=HK2.out;omega⟩,⟨wR HO_1⟩,⟨bw HB⟩⟩
   ·obtain rfl:=Option.some.inj H;go_wp2;go_ret
    exact⟨_,fq,wR HO_1,bw HB⟩
def jp.l0 :Nat->Int->Int->Int->Int->Option (Int)
 | 0,_,_,_,_=>none
 | k+1,x0,x5,x6,x7=>if x7 < x6 then (jp.l0 k x0 (wrap64 (x5*x0)) x6 (wrap64 (x7+1))) else (some x5)
def jp.f (k:Nat) (a0:Int) (a1:Int):Option (Int):=jp.l0 k a0 1 a1 0
theorem jp.Ag :∀ k,(∀ y0 y1 y2 y3,LeO (jp.l0 k y0 y1 y2 y3) (jp.l0 (k+1) y0 y1 y2 y3))
 | 0=>λ_ _ _ _ r h=>by simp[jp.l0]at h
 | k+1=>by
  have ih0:=jp.Ag k
  ·intro y0 y1 y2 y3
   unfold jp.l0
   repeat' with_reducible first|intro _|apply ih0|apply Eb|apply Ec|apply Ed|apply Ee
theorem jp.mono (a0 a1 k):LeO (jp.f k a0 a1) (jp.f (k+1) a0 a1):=by
 have ih0:=jp.Ag k;unfold jp.f
 repeat' with_reducible first|intro _|apply ih0|apply Eb|apply Ec|apply Ed|apply Ee
theorem jp.calls (k:Nat) (a0:Int) (a1:Int) (r:Int) (w:World) (h:jp.f k a0 a1=some r):
  Calls Tryz.prog 110 #[int i64 a0,int i64 a1] w λe w'=>e=.returned (int i64 r)/\Drawn0 w w':=by
 have H:=h;unfold jp.f at H;clear h;have H':=am H;clear H;go_enter Tryz.func110,Tryz.ntmps110
 go_wp2
 go_loopg [5,7] k (λkq v5 v7 w'=>∃ (x5_1:Int) (x7_1:Int),v5=int i64 x5_1/\v7=int i64 x7_1/\qf (jp.l0 kq a0 x5_1 a1 x7_1=some r)/\qf (kq<=k)/\Drawn0 w w')
 case atStart=>exact⟨(1),(0),fr,fr,H',⟨Nat.le_refl _⟩,df⟩
 case round=>
  clear H';try clear c1;try clear p2
  obtain⟨x5_1,x7_1,rfl,rfl,HA,HK1,⟨m1,rfl⟩⟩:=hrel
  cases gk with
  | zero=>exact absurd HA.out (by simp[jp.l0])
  | succ k1=>
   have H:=HA.out;clear HA;simp only[jp.l0]at H;replace H:=Eg H;rcases H with ⟨c3b0,H⟩|⟨c3b0,H⟩
   ·have H':=am H;clear H;go_wp2
    go_roundg k1
    case measure=>have:=HK1.out;omega
    case rel=>exact⟨(wrap64 (x5_1*a0)),(wrap64 (x7_1+1)),fr,fr,H',⟨by have:=HK1.out;omega⟩,df⟩
   ·obtain rfl:=Option.some.inj H;go_wp2;go_ret
    exact⟨fr,df⟩
end Go.Proofs.YtmgbpmihbljngaaGreat.PA
