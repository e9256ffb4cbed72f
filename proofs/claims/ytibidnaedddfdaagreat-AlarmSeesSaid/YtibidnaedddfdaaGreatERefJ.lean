import Derived.Test.YtibidnaedddfdaaGreatERefZ
namespace Go.Proofs.YtibidnaedddfdaaGreat
set_option linter.all false
open Go.RowKit
def Za:Gw=IN:=rfl
def sZ:Kc=L8:=rfl
def dH (N:Nat) (l:AO) (k:AH) (p:Int):HX N p k.W l.An=IW N l k p:=by
 unfold HX IW MJ;simp only[uH,YY,dK,Za,Option.bind_assoc,uF]
def jE:It=KL:=by
 funext N l k b;unfold It KL;simp only[dH,YY,dK,Za]
def XS (N:Nat) (b:AF) (h:BV) (p a:List AB) (in_:BT) (k:List AH→Option (List AH)):∀n i l,CP N ⟨b,h,p⟩ in_ k n i l=CF N ⟨b,h,a⟩ in_ k n i l
 |0,i,l=>rfl
 |n+1,i,l=>by
  simp only[CP,CF,Dv,F5,Eb,XS N b h p a in_ k n,Hh,HW,FE,E5,uF];congr 1;cases j:ix in_.Bc i with
  |none=>rfl
  |some x=>
   simp only[uF];cases hd:(decide (0≤x.Z)&&decide (x.Z<(b.D.length:Int)))
   ·rfl
   ·simp only[vL,uH];cases m:ix b.D x.Z with
    |none=>rfl
    |some lk=>
     simp only[uF];by_cases c:lk.F=5
     ·simp only[c,decide_true,uG,uF,ne_eq,not_true_eq_false,decide_false,uH];by_cases d:x.F=2
      ·simp only[d,decide_true,uG];cases ix l x.Z<;>rfl
      ·by_cases g:x.F=3
       ·simp only[g,decide_true,uG,show decide ((3:Int)=2)=false from rfl,uH]
       ·simp only[d,g,decide_false,uH]
     ·simp only[c,decide_false,uH,uF,ne_eq,not_false_eq_true,decide_true,uG]
def XQ (N:Nat) (b:AF) (h:BV) (p a:List AB) (in_:BT) (k:List AH→Option (List AH)):∀n i l,C4 N ⟨b,h,p⟩ in_ k n i l=CX N ⟨b,h,a⟩ in_ k n i l
 |0,i,l=>rfl
 |n+1,i,l=>by
  simp only[C4,CX,F4,GK,XQ N b h p a in_ k n,Hh,HW,sZ,uF];congr 1;cases c:ix in_.Bb i with
  |none=>rfl
  |some x=>
   simp only[uF];congr 1;cases ix b.D x.Z<;>cases ix l x.Z<;>rfl
def XP (N:Nat) (b:AF) (h:BV) (p a:List AB) (sure:List Bool):∀n i l,C3 N ⟨b,h,p⟩ sure n i l=D5 N ⟨b,h,a⟩ sure n i l
 |0,i,l=>rfl
 |n+1,i,l=>by
  simp only[C3,D5,F3,XP N b h p a sure n,jE];congr 1;cases decide (i<(sure.length:Int))
  ·simp only[uH,uF]
  ·simp only[uG];cases ix sure i<;>cases ix b.D i<;>cases ix l i<;>rfl
def jA (N:Nat) (b:AF) (h:BV) (p a:List AB) (in_:BT) (sure:List Bool):G8 N ⟨b,h,p⟩ in_ sure=Hi N ⟨b,h,a⟩ in_ sure:=by
 unfold G8 Hi;rw[XS];congr 1;funext l;unfold Dw Cx;rw[XQ];congr 1;funext l;unfold Ek Cw;exact XP N b h p a sure N 0 l
def Yl (s:Int×Int×Bool) (a:Int):Int×Int×Bool:=if s.2.2 then (min s.1 a,max s.2.1 a,true) else (a,a,true)
def O3 (l:AO) (x o:Int):Int:=if l.Ae≤x then 1 else if x≤l.Aa then 0 else o
def LQ (k:AH) (o:Int):Bool:=decide (k.R.B≤o)&&decide (o≤k.R.A)
def WS (l:AO) (k:AH) (x:Int) (s:Int×Int×Bool):Int×Int×Bool:=
 let a:=if LQ k 0 then Yl s (O3 l x 0) else s
 if LQ k 1 then Yl a (O3 l x 1) else a
def siph {N:Nat}(l:AO) (c:l.F=3) (x o:Int) (d:o=0∨o=1) {A:Int→Option (Bool×(Int×Int×Bool))}:((Jx N l (⟨0,0,false,(decide (o=1))⟩:Ep) x).bind λy=>cond y.R (A 1) (A 0))=A (O3 l x o):=by
 unfold Jx O3 IF;rw[c];simp only[ne_eq,not_true_eq_false,decide_false,uH];by_cases a:l.Ae≤x
 ·simp [a]
 ·by_cases b:x≤l.Aa
  ·simp [a,b]
  ·rcases d with rfl|rfl<;>simp [a,b]
def j3M (N:Nat) (s:Int×Int×Bool) (c:Int→Int→Bool→Option (Bool×(Int×Int×Bool))) (a:Int):HC N s.1 s.2.1 s.2.2 c a=c (Yl s a).1 (Yl s a).2.1 (Yl s a).2.2:=by
 obtain⟨i,j,b⟩:=s;unfold HC Yl;cases b<;>rfl
def pG {N:Nat}(l:AO) (c:l.F=3) (k:AH) (x:Int) (n:Nat) (o:Int) (b:o=0∨o=1) (s:Int×Int×Bool):CY N l k x (n+1) o s.1 s.2.1 s.2.2=(λs':Int×Int×Bool=>CY N l k x n (o+1) s'.1 s'.2.1 s'.2.2) (if LQ k o then Yl s (O3 l x o) else s):=by
 rw[CY];rw[uK (show o<2 by omega),uG,Jw,uF];have d:BR (o+1)=o+1:=by rcases b with rfl|rfl<;>decide
 rw[siph (A:=λa=>HC N s.1 s.2.1 s.2.2 (EV N o (CY N l k x n)) a) l c x o b,j3M];unfold EV LQ;rw[d];cases decide (k.R.B≤o)&&decide (o≤k.R.A)<;>rfl
def y0M {N:Nat}(b:10<N) (l:AO) (a:l.F=3) (k:AH) (x:Int) (s:Int×Int×Bool):GU N l k x s.1 s.2.1 s.2.2=some (true,WS l k x s):=by
 obtain⟨n,rfl⟩:∃n,N=n+3:=⟨N-3,by omega⟩
 unfold GU;rw[show n+3=(n+2)+1 from rfl,pG l a k x (n+2) 0 (.inl rfl) s];show CY _ l k x ((n+1)+1) (0+1) _ _ _=_
 rw[show (0:Int)+1=1 from rfl,pG l a k x (n+1) 1 (.inr rfl)];show CY _ l k x (n+1) (1+1) _ _ _=_
 rw[CY,show decide ((1:Int)+1<2)=false from rfl,uH];rfl
def kM (l:AO) (k:AH) (v:AB):Int×Int×Bool:=
 let s:=WS l k v.A (WS l k v.B (0,0,false))
 if v.B≤l.Aa+1∧l.Aa+1≤v.A then WS l k (l.Aa+1) s else s
def jU {N:Nat}(c:10<N) (l:AO) (b:l.F=3) (k:AH) (v:AB) (d:v.B≤v.A) (i: -4611686018427387903≤l.Aa∧l.Aa≤4611686018427387903):Jl N l k v=some { k with R:=if (kM l k v).2.2 then ⟨(kM l k v).1,(kM l k v).2.1⟩ else k.R}:=by
 unfold Jl Km JL;rw[b];simp only[ne_eq,not_true_eq_false,decide_false,uH,uF,Dt,uK d,vL];have y:=λ(x:Int) (s:Int×Int×Bool)=>y0M c l b k x s;rw[show GU N l k v.B (0,0,false).1 (0,0,false).2.1 (0,0,false).2.2=_ from y v.B (0,0,false)];simp only[uF,uG,y];rw[uK (show l.Aa<9223372036854775807 by omega),uG,show BR (l.Aa+1)=l.Aa+1 from CT (by omega) (by omega),Jw];simp only[uF];unfold kM;by_cases a:v.B≤l.Aa+1∧l.Aa+1≤v.A
 ·rw[show (decide (v.B≤l.Aa+1)&&decide (l.Aa+1≤v.A))=true by simp [a],uG,uJ a];simp only[uF,uG];cases g:(WS l k (l.Aa+1) (WS l k v.A (WS l k v.B (0,0,false)))).2.2<;>rfl
 ·rw[show (decide (v.B≤l.Aa+1)&&decide (l.Aa+1≤v.A))=false by simpa using a,uH,uI a];simp only[uF,uG];cases g:(WS l k v.A (WS l k v.B (0,0,false))).2.2<;>rfl
def Yj (a b c:Int):Yl (a,b,true) c=(min a c,max b c,true):=rfl
def Yk (a b c:Int):Yl (a,b,false) c=(c,c,true):=rfl
def nY (l:AO) {k:AH}(a:k.R=⟨0,0⟩) (x:Int) (s:Int×Int×Bool):WS l k x s=Yl s (O3 l x 0):=by simp [WS,LQ,a]
def nW (l:AO) {k:AH}(a:k.R=⟨1,1⟩) (x:Int) (s:Int×Int×Bool):WS l k x s=Yl s (O3 l x 1):=by simp [WS,LQ,a]
def nX (l:AO) {k:AH}(a:k.R=⟨0,1⟩) (x:Int) (s:Int×Int×Bool):WS l k x s=Yl (Yl s (O3 l x 0)) (O3 l x 1):=by simp [WS,LQ,a]
def Sh (l:AO) (x o:Int):(l.Ae≤x∧O3 l x o=1)∨(x<l.Ae∧x≤l.Aa∧O3 l x o=0)∨(x<l.Ae∧l.Aa<x∧O3 l x o=o):=by
 unfold O3;split
 ·exact .inl ⟨by assumption,rfl⟩
 ·split
  ·exact .inr (.inl ⟨by omega,by assumption,rfl⟩)
  ·exact .inr (.inr ⟨by omega,by omega,rfl⟩)
def pF (l:AO) (v:AB) (a:Bool):Bool:=decide (l.Ae≤v.A)||((decide (l.Aa<l.Ae)&&decide (max v.B (l.Aa+1)≤min v.A (l.Ae-1)))&&a)
def sG (l:AO) (v:AB) (h0:Bool):Bool:=(decide (v.B≤l.Aa)&&decide (v.B<l.Ae))||((decide (l.Aa<l.Ae)&&decide (max v.B (l.Aa+1)≤min v.A (l.Ae-1)))&&h0)
def jT (N:Nat) (l:AO) (j:l.F=3) (k:AH) (v:AB) (o:v.B≤v.A) (i:LQ k 0=true∨LQ k 1=true) (p: -4611686018427387903≤l.Aa∧l.Aa≤4611686018427387903) (q: -4611686018427387903≤l.Ae∧l.Ae≤4611686018427387903):
  H0 N l k v=some { k with R:=if pF l v (LQ k 1)&&sG l v (LQ k 0) then ⟨0,1⟩ else if pF l v (LQ k 1) then ⟨1,1⟩ else ⟨0,0⟩}:=by
 unfold H0 Jp FL Ho;rw[j,uM (show ¬v.A<v.B by omega),show BR (l.Aa+1)=l.Aa+1 from CT (by omega) (by omega),show BR (l.Ae-1)=l.Ae-1 from CT (by omega) (by omega)];simp only[ne_eq,not_true_eq_false,decide_false,Bool.or_self,uH];have m:(decide (k.R.B≤0)&&decide (0≤k.R.A))=LQ k 0:=rfl;have n:(decide (k.R.B≤1)&&decide (1≤k.R.A))=LQ k 1:=rfl;rw[m,n];unfold pF sG;generalize decide (l.Ae≤v.A)=a
 generalize decide (l.Aa<l.Ae)=b
 generalize decide (max v.B (l.Aa+1)≤min v.A (l.Ae-1))=c
 generalize decide (v.B≤l.Aa)=d
 generalize decide (v.B<l.Ae)=e
 generalize LQ k 0=f at*
 generalize LQ k 1=s at*
 cases f<;>cases s<;>first|((rcases i with i|i<;>cases i);done)|(cases a<;>cases b<;>cases c<;>cases d<;>cases e<;>rfl)
set_option maxHeartbeats 4000000 in
def iZ {N:Nat}(H:10<N) (l:AO) (u:l.F=3) (k:AH) (v:AB) (w:v.B≤v.A) (t:k.R=⟨0,0⟩∨k.R=⟨1,1⟩∨k.R=⟨0,1⟩) (x: -4611686018427387903≤l.Aa∧l.Aa≤4611686018427387903) (I: -4611686018427387903≤l.Ae∧l.Ae≤4611686018427387903):
  H0 N l k v=Jl N l k v:=by
 have J:LQ k 0=true∨LQ k 1=true:=by rcases t with h|h|h<;>simp [LQ,h]
 rw[jT N l u k v w J x I,jU H l u k v w x];congr 2;have n:∀b,pF l v b=true↔(l.Ae≤v.A∨((l.Aa<l.Ae∧max v.B (l.Aa+1)≤min v.A (l.Ae-1))∧b=true)):=λb=>by simp [pF]
 have o:∀b,sG l v b=true↔((v.B≤l.Aa∧v.B<l.Ae)∨((l.Aa<l.Ae∧max v.B (l.Aa+1)≤min v.A (l.Ae-1))∧b=true)):=λb=>by simp [sG]
 simp only[uL,n,o];have y:(kM l k v).2.2=true:=by
  unfold kM;rcases t with h|h|h
  ·simp only[nY l h,Yk,Yj];split<;>rfl
  ·simp only[nW l h,Yk,Yj];split<;>rfl
  ·simp only[nX l h,Yk,Yj];split<;>rfl
 rw[uJ y];have d:=Sh l v.B;have g:=Sh l v.A;have i:=Sh l (l.Aa+1);unfold kM;rcases t with h|h|h
 ·have p:LQ k 0=true:=by simp [LQ,h]
  have q:LQ k 1=false:=by simp [LQ,h]
  rw[p,q];simp only[nY l h,Yk,Yj,wS,and_false,vK,and_true];have d:=d 0;have g:=g 0;have i:=i 0;generalize O3 l v.B 0=a at*
  generalize O3 l v.A 0=b at*
  generalize O3 l (l.Aa+1) 0=c at*
  (repeat' split)<;>simp only[AB.mk.injEq]<;>omega
 ·have p:LQ k 0=false:=by simp [LQ,h]
  have q:LQ k 1=true:=by simp [LQ,h]
  rw[p,q];simp only[nW l h,Yk,Yj,wS,and_false,vK,and_true];have d:=d 1;have g:=g 1;have i:=i 1;generalize O3 l v.B 1=a at*
  generalize O3 l v.A 1=b at*
  generalize O3 l (l.Aa+1) 1=c at*
  (repeat' split)<;>simp only[AB.mk.injEq]<;>omega
 ·have p:LQ k 0=true:=by simp [LQ,h]
  have q:LQ k 1=true:=by simp [LQ,h]
  rw[p,q];simp only[nX l h,Yk,Yj,and_true];have K:(l.Ae≤v.B∧O3 l v.B 0=1)∨(v.B<l.Ae∧O3 l v.B 0=0):=by have:=d 0;omega
  have M:(l.Ae≤v.A∧O3 l v.A 0=1)∨(v.A<l.Ae∧O3 l v.A 0=0):=by have:=g 0;omega
  have Q:(l.Ae≤l.Aa+1∧O3 l (l.Aa+1) 0=1)∨(l.Aa+1<l.Ae∧O3 l (l.Aa+1) 0=0):=by have:=i 0;omega
  have U:((v.B<l.Ae∧v.B≤l.Aa)∧O3 l v.B 1=0)∨((l.Ae≤v.B∨l.Aa<v.B)∧O3 l v.B 1=1):=by have:=d 1;omega
  have V:((v.A<l.Ae∧v.A≤l.Aa)∧O3 l v.A 1=0)∨((l.Ae≤v.A∨l.Aa<v.A)∧O3 l v.A 1=1):=by have:=g 1;omega
  have s:O3 l (l.Aa+1) 1=1:=by have:=i 1;omega
  rw[s];generalize O3 l v.B 0=a at*
  generalize O3 l v.A 0=b at*
  generalize O3 l (l.Aa+1) 0=c at*
  generalize O3 l v.B 1=j at*
  generalize O3 l v.A 1=m at*
  clear d g i n o y s;have W:a≤j:=by omega
  have X:b≤m:=by omega
  have Y:c≤1:=by omega
  have z:min (min (min a j) b) m=min a b:=by omega
  have C:max (max (max a j) b) m=max j m:=by omega
  have D:min (min (min (min (min a j) b) m) c) 1=min (min a b) c:=by omega
  have G:max (max (max (max (max a j) b) m) c) 1=1:=by omega
  rw[D,G,z,C];clear z C D G
  (repeat' split)<;>(try dsimp only)<;>(simp only[AB.mk.injEq];constructor<;>first|trivial|omega)
def fY (N:Nat) (c:List AV) (k:Option Bool):∀n i,FP N c k n i=DI N c k n i
 |0,i=>rfl
 |n+1,i=>by
  simp only[FP,DI,Jr,fY N c k n,uF];congr 1;cases m:ix c i with
  |none=>rfl
  |some x=>
   simp only[uF];rw[show decide (x.H<0)= !decide (0≤x.H) by rw[←decide_not];exact decide_eq_decide.2 (by omega),show decide (1125899906842624<x.H)= !decide (x.H≤1125899906842624) by rw[←decide_not];exact decide_eq_decide.2 (by omega),show decide (x.L<0)= !decide (0≤x.L) by rw[←decide_not];exact decide_eq_decide.2 (by omega),show decide (1125899906842624<x.L)= !decide (x.L≤1125899906842624) by rw[←decide_not];exact decide_eq_decide.2 (by omega)];generalize decide (0≤x.H)=a
   generalize decide (x.H≤1125899906842624)=b
   generalize decide (0≤x.L)=d
   generalize decide (x.L≤1125899906842624)=j
   generalize decide (0<i)=o
   cases ix c (BR (i-1)) with
   |none=>cases a<;>cases b<;>cases d<;>cases j<;>cases o<;>rfl
   |some y=>
    simp only[uF];generalize decide (x.H≤y.H)=l
    cases a<;>cases b<;>cases d<;>cases j<;>cases o<;>cases l<;>rfl
def oJ {N:Nat}(c:List AV) (i:c.length<N) (j:c.length<4398048311104):DI N c (some false) N 0=some false:=by
 rcases Hg c.length (DI N c (some false)) (some false) (λ_=>True) (λn k b=>by
  simp only[DI];rw[ES b];rfl) (λn k b=>by
  simp only[DI];rw[Ei b,uG,A9 b,BE (by omega)];simp only[uF];generalize (((decide ((c[k]).H<0)||decide (1125899906842624<(c[k]).H))||decide ((c[k]).L<0))||decide (1125899906842624<(c[k]).L))=a
  cases a
  ·rw[uH];rcases zL k with h0|h0
   ·subst h0;exact .inr ⟨trivial,rfl⟩
   ·rw[uK (show(0:Int)<(k:Int) by omega),uG,show BR ((k:Int)-1)=((k-1:Nat):Int) by rw[CT (by omega) (by omega)];omega,A9 (show k-1<c.length by omega)];simp only[uF];generalize decide ((c[k]).H≤(c[k-1]).H)=d
    generalize decide ((c[k]).L<(c[k-1]).L)=g
    cases d<;>cases g<;>first|exact .inl rfl|exact .inr ⟨trivial,rfl⟩
  ·exact .inl rfl) N 0 (by omega) (uO _) with h|⟨_,h⟩
 ·exact h
 ·exact h
def ZZ {N:Nat}(c:List AV) (a:c.length<N) (b:c.length<4398048311104):H2 N c=D6 N c:=by
 unfold H2 D6 Hp HT;rw[fY];by_cases h:1≤c.length∧c.length≤32
 ·rw[show (decide (1≤(c.length:Int))&&decide ((c.length:Int)≤32))=true by simp;omega,show(decide ((c.length:Int)<1)||decide (32<(c.length:Int)))=false by simp;omega,uH]
 ·rw[show (decide (1≤(c.length:Int))&&decide ((c.length:Int)≤32))=false by simp;omega,show(decide ((c.length:Int)<1)||decide (32<(c.length:Int)))=true by simp;omega,uG];exact oJ c a b
def tP (a b:Nat) (g:a<9223372036854775808) (i:b<9223372036854775808):Ja .and .i64 (a:Int) (b:Int)=((a&&&b:Nat):Int):=by
 have c:(BitVec.ofInt 64 (a:Int)).toNat=a:=by rw[zI,zJ];exact xS (by omega)
 have d:(BitVec.ofInt 64 (b:Int)).toNat=b:=by rw[zI,zJ];exact xS (by omega)
 have j:a&&&b<2^63:=Nat.and_lt_two_pow _ (by omega);show IntKind.i64.wrap (((BitVec.ofInt 64 (a:Int))&&&(BitVec.ofInt 64 (b:Int))).toNat:Int)=_
 rw[BitVec.toNat_and,c,d];exact CT (by omega) (by omega)
def rL (m j:Nat) (a:m<9223372036854775808) (b:2^j<9223372036854775808):decide ((Ja .and .i64 (m:Int) ((2^j:Nat):Int))≠0)=decide (m/2^j%2=1):=by
 rw[tP _ _ a b,←Nat.testBit_eq_decide_div_mod_eq];cases h:m.testBit j
 ·have:m&&&2^j=0:=Nat.eq_of_testBit_eq λi=>by
   rw[Nat.testBit_and,Nat.testBit_two_pow,Nat.zero_testBit];by_cases e:j=i
   ·subst e;rw[h];rfl
   ·simp [e]
  rw[this];rfl
 ·refine uK λh0=>?_;have h0:m&&&2^j=0:=by omega
  have:(m&&&2^j).testBit j=true:=by rw[Nat.testBit_and,Nat.testBit_two_pow,h];simp
  rw[h0,Nat.zero_testBit] at this;cases this
def jH (x y:Nat) (a:y≠0) (b:x<9223372036854775808):PC .i64 (x:Int) (y:Int)=some ((x/y:Nat):Int):=by
 unfold PC;rw[uI (by omega)];have e:(x:Int).tdiv (y:Int)=((x/y:Nat):Int):=rfl;have:x/y≤x:=Nat.div_le_self _ _;rw[e];congr 1;generalize x/y=z at*
 exact CT (by omega) (by omega)
def ZR (N:Nat) {d q b t:Nat}(hd:1≤d) (c:q≤1125899906842624) (g:t≤9007199254740992) (i:b≤1125899906842624) (a:Int→Int→Int→Option (Int×Int×Bool)):
  Gn N d q b a t=if 1125899906842624<2*q+t/d then some (0,0,false) else a ((2*q+t/d:Nat):Int) ((t%d:Nat):Int) ((b/2:Nat):Int):=by
 have j:t/d≤t:=Nat.div_le_self _ _;unfold Gn;rw[jH t d (by omega) (by omega),oE t d (by omega),show((2:Int))=((2:Nat):Int) from rfl,jH b 2 (by omega) (by omega)];simp only[uF];generalize t/d=z at*
 generalize t%d=k at*
 generalize b/2=l at*
 rw[PE,CT (n:=((2*q:Nat):Int)) (by omega) (by omega),RB,CT (n:=((2*q+z:Nat):Int)) (by omega) (by omega)];by_cases h:1125899906842624<2*q+z
 ·rw[uJ h,uK (show(1125899906842624:Int)<((2*q+z:Nat):Int) by omega),uG]
 ·rw[uI h,uM (show ¬(1125899906842624:Int)<((2*q+z:Nat):Int) by omega),uH]
def XI (N:Nat) {a m d:Nat}(A:a≤1125899906842624) (B:m≤1125899906842624) (hd:1≤d) (s:d≤1125899906842624) (o:Int→Int→Option (Int×Int×Bool)) (n j:Nat) (t:j≤50) (p:a*(m/2^(j+1))/d≤1125899906842624):
  Ce N a m d o (n+1) ((a*(m/2^(j+1))/d:Nat):Int) ((a*(m/2^(j+1))%d:Nat):Int) ((2^j:Nat):Int)=
   if 1125899906842624<a*(m/2^j)/d then some (0,0,false) else Ce N a m d o n ((a*(m/2^j)/d:Nat):Int) ((a*(m/2^j)%d:Nat):Int) ((2^j/2:Nat):Int):=by
 have i:2^j≤2^50:=Nat.pow_le_pow_right (by omega) t;have i:2^j≤1125899906842624:=i;have u:0<2^j:=yV j;have c:=rL m j (by omega) (by omega);have v:m/2^j=2*(m/2^(j+1))+m/2^j%2:=by
  rw[Nat.pow_succ,←Nat.div_div_eq_div_mul];omega
 simp only[Ce];rw[uK (show(0:Int)<((2^j:Nat):Int) by omega),uG,c];have x:m/2^j%2<2:=wR _ (by omega);generalize m/2^j%2=b at*
 generalize m/2^j=k at*
 generalize m/2^(j+1)=M at*
 generalize 2^j=w at*
 have C:a*M%d<d:=wR _ (by omega);have l:=yX (a*M) d;generalize a*M/d=q at*
 generalize a*M%d=r at*
 have g:a*k=d*(2*q)+(2*r+b*a):=by
  subst v;have:a*(2*M+b)=2*(a*M)+b*a:=by grind
  rw[this,←l];grind
 have y:a*k/d=2*q+(2*r+b*a)/d:=by rw[g,Nat.mul_add_div (by omega)]
 have z:a*k%d=(2*r+b*a)%d:=by rw[g,Nat.mul_add_mod]
 rw[y,z,show(2:Int)*(r:Int)=((2*r:Nat):Int) from PE 2 r,CT (n:=((2*r:Nat):Int)) (by omega) (by omega)];rcases (by omega:b=0∨b=1) with rfl|rfl
 ·rw[show decide (0=1)=false from rfl,uH,ZR N hd p (by omega) i,Nat.zero_mul,Nat.add_zero]
 ·rw[show decide (1=1)=true from rfl,uG,RB,CT (n:=((2*r+a:Nat):Int)) (by omega) (by omega),ZR N hd p (by omega) i,Nat.one_mul]
def VY (N:Nat) {a m d:Nat}(g:a≤1125899906842624) (i:m≤1125899906842624) (hd:1≤d) (b:d≤1125899906842624):∀(j n:Nat),j≤50→j+1<n→a*(m/2^(j+1))/d≤1125899906842624→
  Ce N a m d (FQ N) n ((a*(m/2^(j+1))/d:Nat):Int) ((a*(m/2^(j+1))%d:Nat):Int) ((2^j:Nat):Int)=
   if a*m/d≤1125899906842624 then some (((a*m/d:Nat):Int),((a*m%d:Nat):Int),true) else some (0,0,false)
 |j,0,c,o,_=>by omega
 |0,n+1,c,o,l=>by
  rw[XI N g i hd b _ n 0 c l];simp only[Nat.pow_zero,Nat.div_one];obtain⟨n,rfl⟩:∃k,n=k+1:=⟨n-1,by omega⟩
  by_cases h:a*m/d≤1125899906842624
  ·rw[uI (by omega),uJ h];simp only[Ce];rfl
  ·rw[uJ (by omega),uI h]
 |j+1,n+1,c,o,l=>by
  rw[XI N g i hd b _ n (j+1) c l];have p:a*(m/2^(j+1))/d≤a*m/d:=Nat.div_le_div_right (Nat.mul_le_mul_left _ (Nat.div_le_self _ _));by_cases h:1125899906842624<a*(m/2^(j+1))/d
  ·rw[uJ h,uI (by omega)]
  ·rw[uI h,show 2^(j+1)/2=2^j by rw[Nat.pow_succ];omega];exact VY N g i hd b j n (by omega) (by omega) (by omega)
def Uc {N:Nat}(j:18446744073709551616<N) (a n d:Int):Fk N a n d=Ga N a n d:=by
 rw[K8 j];unfold Fk cR;cases i:(((((decide (a<0)||decide (1125899906842624<a))||decide (n<0))||decide (1125899906842624<n))||decide (d<1))||decide (1125899906842624<d))
 ·simp only[vH,vC] at i;obtain⟨⟨⟨⟨⟨q,s⟩,t⟩,u⟩,v⟩,w⟩:=i;obtain⟨c,rfl⟩:∃k:Nat,a=k:=⟨a.toNat,by omega⟩
  obtain⟨b,rfl⟩:∃k:Nat,n=k:=⟨n.toNat,by omega⟩
  obtain⟨g,rfl⟩:∃k:Nat,d=k:=⟨d.toNat,by omega⟩
  have z:b/2^(50+1)=0:=Nat.div_eq_of_lt (by omega);have e:=VY N (a:=c) (m:=b) (d:=g) (by omega) (by omega) (by omega) (by omega) 50 N (by omega) (by omega) (by rw[z];simp);rw[z] at e;simp only[Nat.mul_zero,Nat.zero_div,Nat.zero_mod] at e;rw[uH,show Ce N c b g (FQ N) N 0 0 1125899906842624=_ from e];have l:(c:Int)*(b:Int)/(g:Int)=((c*b/g:Nat):Int):=by rw[Int.natCast_ediv,xV]
  have o:(c:Int)*(b:Int)%(g:Int)=((c*b%g:Nat):Int):=by rw[Int.natCast_emod,xV]
  rw[l,o];by_cases h:c*b/g≤1125899906842624
  ·rw[uJ h,uJ ⟨by omega,by omega,by omega,by omega⟩]
  ·rw[uI h,uI (λp=>h (by have:=p.2.2.2;omega))]
 ·rw[uG,uI];intro h;simp only[uZ,uY] at i;omega
def T1 {N:Nat}(a:18446744073709551616<N) (v n d:Int):FM N v n d=IT N v n d:=by
 rw[M3 a];unfold FM pt;rw[Uc a,K8 a,uF]
def XN {N:Nat}(a:18446744073709551616<N) (v n d:Int):IG N v n d=Kl N v n d:=by
 rw[Sn a];unfold IG pt;rw[Uc a,K8 a,uF]
def iX {N:Nat}(a:18446744073709551616<N) (p:EU) (v m:Int):H1 N p v m=JH N p v m:=by
 unfold H1 JH;rw[Uc a,K8 a,uF,uF];congr 1;by_cases b:m<0
 ·rw[uK b,uM (show ¬0≤m by omega)];rfl
 ·by_cases c:p.Q≤m
  ·rw[uK c,uM (show ¬m<p.Q by omega),Bool.or_true,Bool.and_false];rfl
  ·rw[uM b,uM c,uK (show 0≤m by omega),uK (show m<p.Q by omega)];rfl
def fX {N:Nat}(a:18446744073709551616<N) (l:AO) (f t:Int):Ii N l f t=Kn N l f t:=by
 unfold Ii Kn;rw[XN a,XN a]
def Vg {N:Nat}(a:18446744073709551616<N) (l:AO) (f t:AB):E9 N l f t=JG N l f t:=by
 unfold E9 JG;rw[fX a,fX a]
def YP {l r:AV}(h:l.H<r.H):H9 l r r.H=r.L:=by
 unfold H9;rw[xP,Int.mul_ediv_cancel _ (by omega)];omega
def sW {N:Nat}(w:18446744073709551616<N) {c:List AV}(h:Cp c) {x:Int}(K:0≤x∧x≤1125899906842624):∃k l r,Ws (J0 c) x k l r∧Iu N c x=some (H9 l r x,decide (0<O2 l r x)):=by
 have z:=h.1;have M:=h.2.1;have h0:c[0]? =some c[0]:=by simp
 unfold Iu;rw[show ix c 0=some c[0] from A9 (i:=0) (by omega),uF];by_cases o:x≤(c[0]).H
 ·rw[uK o,uG,uF];refine⟨0,_,_,⟨R5 c,(Mh c (by omega)).trans h0,by show(-1:Int)≤x;omega,o⟩,?_⟩;have s:=NU h0;rw[s];simp [H9,O2]
 ·rw[uM o,uH];have A:∀n (k:Nat),1≤k→k≤c.length→c.length<n+k→(∀p,c[k-1]? =some p→p.H<x)→∃j l r,Ws (J0 c) x j l r∧FO N c x (Gm N c) n (k:Int)=some (H9 l r x,decide (0<O2 l r x)):=by
   intro n
   induction n with
   |zero=>intro k B C D _;omega
   |succ n F=>
    intro k B C D G;simp only[FO];have a:c[k-1]? =some c[k-1]:=by simp
    have Q:=G _ a;have I:=h.vol a;have y:BR ((k:Int)-1)=((k-1:Nat):Int):=by rw[CT (by omega) (by omega)];omega
    have u:(J0 c)[k-1+1]? =some c[k-1]:=(Mh c (by omega)).trans a;rw[show k-1+1=k by omega] at u;by_cases m:k<c.length
    ·have b:c[k]? =some c[k]:=by simp [m]
     have J:=h.vol b;have U:=h.step a (q:=c[k]) (by rw[show k-1+1=k by omega];exact b);rw[Ei m,uG,A9 m,uF];by_cases v:x≤(c[k]).H
     ·rw[uK v,uG,y,A9 (show k-1<c.length by omega)];simp only[uF];refine⟨k,_,_,⟨u,(Mh c m).trans b,by omega,v⟩,?_⟩;unfold JK at I J;generalize c[k-1]=p at*
      generalize c[k]=q at*
      rw[CT (n:=x-p.H) (by omega) (by omega),CT (n:=q.L-p.L) (by omega) (by omega),CT (n:=q.H-p.H) (by omega) (by omega),Uc w,K8 w];have V:(x-p.H)*(q.L-p.L)/(q.H-p.H)≤q.L-p.L:=by
       refine zV (by omega) ?_;rw[xP];exact xA (by omega) (by omega)
      have W:=OR (t:=x-p.H) (n:=q.L-p.L) (d:=q.H-p.H) (by omega) (by omega) (by omega);rw[UZ (by omega) (by omega) (by omega) (by omega),uF];unfold H9 O2;rw[CT (by omega) (by omega)]
     ·rw[uM v,uH,BE (by omega)];exact F (k+1) (by omega) (by omega) (by omega) λp g=>by
       rw[yW,b] at g;cases g;omega
    ·have:k=c.length:=by omega
     subst this;rw[ES (uW _),uH];have s:=NS a;refine⟨c.length,_,_,⟨u,TH c,by omega,by show x≤(2251799813685248:Int);omega⟩,?_⟩;unfold Gm;rw[y,A9 (show c.length-1<c.length by omega),uF,s];simp [H9,O2]
  exact A N 1 (uW _) z (by omega) λp g=>by
   rw[Nat.sub_self,h0] at g;cases g;omega
def uB {N:Nat}(a:18446744073709551616<N) {c:List AV}(h:Cp c) {x:Int}(b:0≤x∧x≤1125899906842624):II N c x=Kq N c x:=by
 obtain⟨k,l,r,s,e⟩:=PZ a h b;obtain⟨i,j,r',s',g⟩:=sW a h b;have m:=h.2.1;rw[e];unfold II;rw[ZZ c (by omega) (by omega),KN (by omega) h,uF,vL,uH,g,uF];congr 1;have d:=LN h;rcases TZ d s' s with ⟨_,rfl,rfl⟩|⟨rfl,rfl,rfl⟩
 ·rfl
 ·have:=(d _ _ _ s'.l_ s'.r_).1;rw[YP this,WO]
def WP (N:Nat) (a b:Int):∃y,Dq N a b=some y:=by
 unfold Dq;exact Df.cond (λ_=>Df.mk _) λ_=>Df.cond (λ_=>Df.mk _) λ_=>Df.mk _
def fZ {N:Nat}(a:18446744073709551616<N) {l:AO}{c:List AV}(n:l.F=0→Cp c) (d:Int) (o:Bool) {fr:Int}(to:Int) (j:0≤fr∧fr≤1125899906842624):IH N l d o c fr to=JI N l d o c fr to:=by
 unfold IH JI;obtain⟨y,i⟩:=WP N fr l.Au;rw[YY,i,uF,T1 a];have p:∀{A:Int→Option Int},(cond (decide (l.C≠ -1)) ((IT N to l.Ak l.Af).bind λy=>(Dq N fr y).bind λz=>A (max 0 z)) (A fr))=A (Lf l fr to):=λ{A}=>by
  unfold Lf;rw[M3 a];have:=MH to l.Ak l.Af;by_cases h:l.C= -1
  ·rw[uJ h,show decide (l.C≠ -1)=false by simp [h],uH]
  ·rw[uI h,show decide (l.C≠ -1)=true by simp [h],uG,uF,KY N (by omega) (by omega) (by omega) (by omega),uF]
 rw[p];unfold IC;by_cases h0:l.F=0
 ·rw[uK h0,uG,uG];unfold Ko;rw[UB a l j,uF,uB a (n h0) (Nt l to j)];congr 1;funext y;rw[T1 a,dK]
 ·rw[uM h0,uH,uH];by_cases b:l.F=1
  ·rw[show decide (l.F=2)=false by simp [b],show decide (l.F=3)=false by simp [b],show decide (l.F=5)=false by simp [b],uK b];simp only[Bool.true_or,uG,uH];unfold GM;rw[T1 a,i,uF]
  ·by_cases g:l.F=5
   ·rw[show decide (l.F=2)=false by simp [g],show decide (l.F=3)=false by simp [g],uK g,uM b];simp only[wH,wW,uG,uH,xJ];unfold J9 GM;cases o
    ·rfl
    ·simp only[uG,vL,uH];rw[T1 a,i,uF]
   ·rw[uM b,uM g];simp only[wH,xJ,uH];by_cases k:l.F=2
    ·rw[uK k,uG,uG];unfold J7;rw[T1 a]
    ·rw[uM k,uH,uH];by_cases m:l.F=3
     ·rw[uK m,uG];unfold J8;cases o
      ·rfl
      ·simp only[wW,uG];rw[T1 a]
     ·rw[uM m];rfl
def Vh {N:Nat}(a:18446744073709551616<N) {l:AO}{s t:Int}(b:VB N l s t) (k:AH) {fr:AB}(to:AB) (c:0≤fr.B∧fr.B≤1125899906842624) (d:0≤fr.A∧fr.A≤1125899906842624):GO N l k fr to=E4 N l k fr to:=by
 unfold GO E4;rw[fZ a (λh=>(b.gate h).2.1) _ _ _ c,fZ a (λh=>(b.gate h).2.2.1) _ _ _ d]
end Go.Proofs.YtibidnaedddfdaaGreat
