/- Plain laws of what the printed functions compute. No conditions beside those that each states. -/
import Derived.Test.YtmgbpmihbljngaaGreatPAx4
namespace Go.Proofs.YtmgbpmihbljngaaGreat.PA
open RowKit YtmgbpmihbljngaaGreatW.PrintWords YtmgbpmihbljngaaGreatW.PrintLast YtmgbpmihbljngaaGreatW.PrintMore
set_option linter.unusedVariables false
set_option linter.unusedSimpArgs false
abbrev Fq (n:Nat):=Fin (n+1)
def sm {n:Nat}:Nat->(Nat->Fq n)->Fq n
 | 0,_=>0
 | m+1,f=>sm m f+f m
theorem qay {n:Nat} {f g:Nat->Fq n}:∀ (m:Nat),(∀ i,i < m->f i=g i)->sm m f=sm m g
 | 0,_=>rfl
 | m+1,h=>by rw[sm,sm,qay m (λi hi=>h i (by omega)),h m (by omega)]
theorem qt6 {n:Nat} (f g:Nat->Fq n):∀ m,sm m (λi=>f i+g i)=sm m f+sm m g
 | 0=>by simp[sm]
 | m+1=>by rw[sm,sm,sm,qt6 f g m];grind
theorem qn6 {n:Nat} (c:Fq n) (f:Nat->Fq n):∀ m,sm m (λi=>c*f i)=c*sm m f
 | 0=>by rw[sm,sm];grind
 | m+1=>by rw[sm,sm,qn6 c f m];grind
theorem qnp {n:Nat} (f:Nat->Fq n) (a:Nat):∀ b,sm (a+b) f=sm a f+sm b (λi=>f (a+i))
 | 0=>by simp[sm]
 | b+1=>by rw[<-Nat.add_assoc,sm,sm,qnp f a b];grind
theorem qtn {n:Nat} (f:Nat->Fq n) (m:Nat):sm (m+1) f=f 0+sm m (λi=>f (i+1)):=by
 rw[Nat.add_comm,qnp f 1 m];simp only[sm,Nat.add_comm 1]
 grind
theorem qr7 {n:Nat}:∀ (m:Nat) (f:Nat->Fq n),sm m f=sm m (λi=>f (m - 1 - i))
 | 0,_=>rfl
 | m+1,f=>by
  rw[qtn (λi=>f (m+1 - 1 - i)) m,sm,qr7 m f]
  have:sm m (λi=>f (m - 1 - i))=sm m (λi=>f (m+1 - 1 - (i+1))):=qay m λi hi=>by congr 1;omega
  rw[this];simp only[Nat.add_sub_cancel,Nat.sub_zero]
  grind
theorem qta {n:Nat} (a:Nat->Nat->Fq n):∀ m,sm m (λi=>sm (i+1) (λj=>a j (i - j)))=sm m (λj=>sm (m - j) (λk=>a j k))
 | 0=>rfl
 | m + 1 => by
  have e0:sm (m+1) (λi=>sm (i+1) (λj=>a j (i - j)))=sm m (λi=>sm (i+1) (λj=>a j (i - j)))+sm (m+1) (λj=>a j (m - j)):=rfl;have e1:sm (m+1) (λj=>sm (m+1 - j) (λk=>a j k))=sm m (λj=>sm (m+1 - j) (λk=>a j k))+sm (m+1 - m) (λk=>a m k):=rfl;have e2:sm (m+1) (λj=>a j (m - j))=sm m (λj=>a j (m - j))+a m (m - m):=rfl;rw[e0,e1,e2,qta a m];have e:sm m (λj=>sm (m+1 - j) (λk=>a j k))=sm m (λj=>sm (m - j) (λk=>a j k))+sm m (λj=>a j (m - j)):=by
   rw[<-qt6];refine qay m λi hi=>?_;rw[show m+1 - i=(m - i)+1 by omega,sm]
  rw[e,show m+1 - m=0+1 by omega,sm,sm,Nat.sub_self]
  grind
def mulP {n:Nat} (f g:Nat->Fq n) (r:Nat):Fq n:=sm (r+1) λi=>f i*g (r - i)
theorem qrp {n:Nat} (f g:Nat->Fq n):mulP f g=mulP g f:=by
 funext r
 rw[mulP,qr7,mulP];refine qay _ λi hi=>?_;rw[show r - (r+1 - 1 - i)=i by omega,show r+1 - 1 - i=r - i by omega]
 grind
theorem qow {n:Nat} (f g h:Nat->Fq n):mulP (mulP f g) h=mulP f (mulP g h):=by
 funext r
 have e1:mulP (mulP f g) h r=sm (r+1) (λi=>sm (i+1) (λj=>f j*g (i - j)*h (r - j - (i - j)))):=by
  unfold mulP;refine qay _ λi hi=>?_;rw[show sm (i+1) (λi_1=>f i_1*g (i - i_1))*h (r - i)=h (r - i)*sm (i+1) (λi_1=>f i_1*g (i - i_1)) by grind,<-qn6];refine qay _ λj hj=>?_;rw[show r - j - (i - j)=r - i by omega]
  grind
 rw[e1,qta (λj k=>f j*g k*h (r - j - k)),mulP];refine qay _ λj hj=>?_;rw[mulP,<-qn6,show r+1 - j=r - j+1 by omega];refine qay _ λk hk=>?_
 grind
instance mulP_c {n:Nat}:Std.Commutative (α:=Nat->Fq n) mulP:=⟨qrp⟩
instance mulP_a {n:Nat}:Std.Associative (α:=Nat->Fq n) mulP:=⟨qow⟩
def qdm {n:Nat} (l m q:Nat->Fq n) (i j k:Nat):Fq n:=
 if i=j then if j=k then l i*m i*q i else l i*m i*q k+l i*m k*q i+l k*m i*q i
 else if j=k then l i*m j*q j+l j*m i*q j+l j*m j*q i
 else l i*m j*q k+l i*m k*q j+l j*m i*q k+l j*m k*q i+l k*m i*q j+l k*m j*q i
def lin4 {n:Nat} (l y:Nat->Fq n):Fq n:=l 0*y 0+l 1*y 1+l 2*y 2+l 3*y 3
def FldH (n:Nat):Prop:=∀ a:Fq n,a≠0->∃ b:Fq n,a*b=1
theorem fz {n:Nat} (hF:FldH n) {a b:Fq n} (h:a*b=0):a=0\/b=0:=by
 by_cases ha:a=0
 ·exact .inl ha
 ·obtain⟨c,hc⟩:=hF a ha
  right
  grind
theorem fnz {n:Nat} (hF:FldH n) {a b:Fq n} (ha:a≠0) (hb:b≠0):a*b≠0:=λh=>(fz hF h).elim ha hb
def ev3 {n:Nat} (a P:Nat->Fq n):Fq n:=a 0*P 0+a 1*P 1+a 2*P 2
def qu {n:Nat} (P Q:Nat->Fq n):Nat->Fq n
 | 0=>P 1*Q 2 - P 2*Q 1
 | 1=>P 2*Q 0 - P 0*Q 2
 | 2=>P 0*Q 1 - P 1*Q 0
 | _=>0
def valC {n:Nat} (v P:Nat->Fq n):Fq n:=v 0*(P 0*P 0*P 0)+v 1*(P 0*P 0*P 1)+v 2*(P 0*P 0*P 2)+v 3*(P 0*P 1*P 1)+v 4*(P 0*P 1*P 2)+v 5*(P 0*P 2*P 2)+v 6*(P 1*P 1*P 1)+v 7*(P 1*P 1*P 2)+v 8*(P 1*P 2*P 2)+v 9*(P 2*P 2*P 2)
def cub3 {n:Nat} (a b c:Nat->Fq n):Nat->Fq n
 | 0=>qdm a b c 0 0 0
 | 1=>qdm a b c 0 0 1
 | 2=>qdm a b c 0 0 2
 | 3=>qdm a b c 0 1 1
 | 4=>qdm a b c 0 1 2
 | 5=>qdm a b c 0 2 2
 | 6=>qdm a b c 1 1 1
 | 7=>qdm a b c 1 1 2
 | 8=>qdm a b c 1 2 2
 | 9=>qdm a b c 2 2 2
 | _=>0
theorem qsv {n:Nat} (a b c P:Nat->Fq n):valC (cub3 a b c) P=ev3 a P*ev3 b P*ev3 c P:=by
 simp only[valC,cub3,qdm,ev3,if_true,if_false,Nat.zero_ne_one,Nat.reduceEqDiff]
 grind
theorem qho {n:Nat} (h1:(1:Fq n)≠0) (h2:(2:Fq n)≠0) {a b:Fq n} (ha:a≠0):∃ s:Fq n,s≠0/\a+s*b≠0:=by
 by_cases e:a+1*b=0
 ·refine⟨2,h2,λe2=>?_⟩
  grind
 ·exact⟨1,h1,e⟩
def onPt {n:Nat} (P Q:Nat->Fq n) (s:Fq n) (i:Nat):Fq n:=P i+s*Q i
theorem qgs {n:Nat} (a P Q:Nat->Fq n) (s:Fq n):ev3 a (onPt P Q s)=ev3 a P+s*ev3 a Q:=by simp only[ev3,onPt];grind
theorem Zt {n:Nat} (P Q:Nat->Fq n):ev3 (qu P Q) P=0:=by simp only[ev3,qu];grind
theorem J7 {n:Nat} (P Q:Nat->Fq n):ev3 (qu P Q) Q=0:=by simp only[ev3,qu];grind
theorem qbc {n:Nat} {v:Nat->Fq n} {l:Nat->Fq n} {B:Nat->Nat->Fq n} (h:∀ j,j < 10->v j=lin4 l λi=>B i j) (P:Nat->Fq n):valC v P=lin4 l λi=>valC (B i) P:=by
 simp only[valC,h 0 (by omega),h 1 (by omega),h 2 (by omega),h 3 (by omega),h 4 (by omega),h 5 (by omega),h 6 (by omega),h 7 (by omega),h 8 (by omega),h 9 (by omega),lin4]
 grind
def gen3 {n:Nat} (P:Nat->Nat->Fq n):Prop:=∀ i j k,i < 6->j < 6->k < 6->i≠j->j≠k->i≠k->ev3 (qu (P i) (P j)) (P k)≠0
def lin6 {n:Nat} (P:Nat->Nat->Fq n) (i j k l m q:Nat):Nat->Fq n:=cub3 (qu (P i) (P j)) (qu (P k) (P l)) (qu (P m) (P q))
theorem Z5 {n:Nat} (P:Nat->Nat->Fq n) (i j k l m q:Nat) (Q:Nat->Fq n):valC (lin6 P i j k l m q) Q=ev3 (qu (P i) (P j)) Q*ev3 (qu (P k) (P l)) Q*ev3 (qu (P m) (P q)) Q:=qsv _ _ _ _
theorem qc0 {n:Nat} (P:Nat->Nat->Fq n) (i j k l m q:Nat) (h:∀ x,x < 6->x=i\/x=j\/x=k\/x=l\/x=m\/x=q):∀ x,x < 6->valC (lin6 P i j k l m q) (P x)=0:=λx hx=>by
 rw[Z5]
 rcases h x hx with rfl|rfl|rfl|rfl|rfl|rfl
 ·rw[Zt];grind
 ·rw[J7];grind
 ·rw[Zt];grind
 ·rw[J7];grind
 ·rw[Zt];grind
 ·rw[J7];grind
def fi (n:Nat) (x:Int):Fq n:=⟨(x % ((n:Int)+1)).toNat,by have:=Int.emod_lt_of_pos x (show (0:Int) < (n:Int)+1 by omega);have:=Int.emod_nonneg x (show (n:Int)+1≠0 by omega);omega⟩
theorem qdk (n:Nat) (x:Int):(((fi n x).val:Nat):Int)=x % ((n:Int)+1):=by
 have:=Int.emod_nonneg x (show (n:Int)+1≠0 by omega)
 show (((x % ((n:Int)+1)).toNat:Nat):Int)=_
 omega
theorem qhv {n:Nat} {a b:Fq n} (h:((a.val:Nat):Int)=(b.val:Nat)):a=b:=Fin.ext (by omega)
theorem qct (n:Nat) (x y:Int):fi n (x+y)=fi n x+fi n y:=by
 apply qhv
 rw[Fin.val_add,Int.natCast_emod,Int.natCast_add,qdk,qdk,qdk,Int.natCast_add,Int.natCast_one,<-Int.add_emod]
theorem qcp (n:Nat) (x y:Int):fi n (x*y)=fi n x*fi n y:=by
 apply qhv
 rw[Fin.val_mul,Int.natCast_emod,Int.natCast_mul,qdk,qdk,qdk,Int.natCast_add,Int.natCast_one,<-Int.mul_emod]
theorem qdt (n:Nat) (x:Int):fi n x=0↔((n:Int)+1) ∣ x:=by
 rw[Int.dvd_iff_emod_eq_zero,<-qdk];constructor
 ·intro h;rw[h];rfl
 ·intro h;exact qhv (by rw[h];rfl)
theorem qa3 (n:Nat):fi n 0=0:=(qdt n 0).2 ⟨0,by omega⟩
theorem D2 (n:Nat) (x:Int):fi n (-x)=- fi n x:=by
 have:=qct n x (-x)
 rw[show x+-x=0 by omega,qa3]at this
 grind
theorem qo5 (n:Nat) (x y:Int):fi n (x - y)=fi n x - fi n y:=by
 rw[Int.sub_eq_add_neg,qct,D2]
 grind
theorem Dn (n:Nat) (x y:Int):fi n x=fi n y↔((n:Int)+1) ∣ x - y:=by
 rw[<-qdt,qo5]
 constructor<;>intro h<;>grind
theorem D4 (n:Nat) (x:Int):fi n (x % ((n:Int)+1))=fi n x:=by
 rw[Dn];exact⟨-(x / ((n:Int)+1)),by have:=Int.mul_ediv_add_emod x ((n:Int)+1);grind⟩
theorem qbz (n:Nat) (a:Fq n):fi n (a.val:Nat)=a:=qhv (by rw[qdk,Int.emod_eq_of_lt (by omega) (by have:=a.isLt;omega)])
end Go.Proofs.YtmgbpmihbljngaaGreat.PA
