import Derived.Test.YtblcgjadhemlbaaGreatVReps
import Derived.Test.YtblcgjadhemlbaaGreatVSortD
namespace Go.Proofs.YtblcgjadhemlbaaGreat
set_option linter.all false
open Go.RowKit
def JB (N:Nat):Option AU:=
 some (⟨(ByteArray.mk #[98]),NG,0,NH,[],[],[],[],[],([0,0,0]:List Int),0⟩:AU)
def Cw (N:Nat) (a:(List Int)):Option (List Int):=
 chk (room (([]:List Int).length+a.length) 8) <|
 some (([]:List Int)++a)
def GY (N:Nat) (a:AU) (b:Int) (c:List (List Int)):Option BD:=
 some (⟨b,c,(List.replicate ((↑a.A.length:Int):Int).toNat (0:Int)),[],(List.replicate ((↑a.E.length:Int):Int).toNat ((⟨0,0,false,false⟩:BH):BH)),(List.replicate ((↑a.H.length:Int):Int).toNat (0:Int)),(List.replicate ((↑a.H.length:Int):Int).toNat (0:Int))⟩:BD)
def Fq (N:Nat) (c:AU) (d:(List (List Int))→Option BD):Nat→Int→(List (List Int))→Option BD
 |0,_,_=>none
 |l+1,a,b=>
 cond (decide (a<(↑c.A.length:Int))) (
 (ix c.A a).bind λg=>
 (Cw N g.As).bind λi=>
 (ix b a).bind λj=>
 (ix b a).bind λk=>
 Fq N c d l (B0 (a+1)) (upd b a i)) (
 d b)
def Ig (N:Nat) (a:AU) (b:Int):Option BD:=
 chk (Jh (↑a.A.length:Int) (↑a.A.length:Int) 24) <|
 chk (Jh (↑a.A.length:Int) (↑a.A.length:Int) 8) <|
 chk (Jh (↑a.E.length:Int) (↑a.E.length:Int) 24) <|
 chk (Jh (↑a.H.length:Int) (↑a.H.length:Int) 8) <|
 chk (Jh (↑a.H.length:Int) (↑a.H.length:Int) 8) <|
 Fq N a (GY N a b) N 0 (List.replicate ((↑a.A.length:Int):Int).toNat ([]:(List Int)))
def Ct (N:Nat) (c:Int) (b:Int) (a:Int):Option Bool:=
 some ((decide (b≤c))&&(decide (c≤a)))
def Ch (N:Nat) (a:Int):Option Bool:=
 (Ct N a 0 1125899906842624).bind λb=>
 some b
def EL (N:Nat) (a:AU) (c:Option Bool):Nat→Int→Option Bool
 |0,_=>none
 |i+1,b=>
 cond (decide (b<(↑a.Au.length:Int))) (
 (ix a.Au b).bind λd=>
 (Ch N d).bind λg=>
 cond (!g) (
 some false) (
 EL N a c i (B0 (b+1)))) (
 c)
def GJ (N:Nat):Option Bool:=
 some true
def EN (N:Nat) (a:AU):Option Bool:=
 EL N a (GJ N) N 0
def EM (N:Nat) (a:AU) (d:Option Bool):Nat→Int→Option Bool
 |0,_=>none
 |g+1,c=>
 cond (decide (c<(↑a.F.size:Int))) (
 (VZ a.F c).bind λb=>
 cond ((((decide (b<32))||(decide (126<b)))||(decide (b=34)))||(decide (b=92))) (
 some false) (
 EM N a d g (B0 (c+1)))) (
 d)
def H8 (N:Nat) (a:AU):Option Bool:=
 (cond (decide (500<(↑a.F.size:Int))) (some true) ((Ct N (↑a.H.length:Int) 1 16).bind λb=>
 some (!b))).bind λc=>
 (cond c (some true) ((Ct N a.R 0 64).bind λd=>
 some (!d))).bind λg=>
 (cond g (some true) ((Ct N (↑a.A.length:Int) 1 64).bind λi=>
 some (!i))).bind λj=>
 (cond ((((((j||(decide (96<(↑a.E.length:Int))))||(decide (40<(↑a.Ag.length:Int))))||(decide (128<(↑a.Aq.length:Int))))||(decide (128<(↑a.At.length:Int))))||(decide (40<(↑a.Av.length:Int))))||(decide ((↑a.Au.length:Int)≠3))) (some true) ((Ct N a.U 0 1099511627776).bind λk=>
 some (!k))).bind λl=>
 cond l (
 some false) (
 EM N a (EN N a) N 0)
def G8 (N:Nat):Option Bool:=
 some true
def Fc (N:Nat) (a:ByteArray) (d:Option Bool):Nat→Int→Option Bool
 |0,_=>none
 |g+1,c=>
 cond (decide (c<(↑a.size:Int))) (
 (VZ a c).bind λb=>
 cond ((((decide (b<97))||(decide (122<b)))&&((decide (b<48))||(decide (57<b))))&&(decide (b≠95))) (
 some false) (
 Fc N a d g (B0 (c+1)))) (
 d)
def JC (N:Nat) (a:ByteArray):Option Bool:=
 (cond (((decide ((↑a.size:Int)<1))||(decide (24<(↑a.size:Int))))||(a==(ByteArray.mk #[111,117,116]))) (some true) ((VZ a 0).bind λb=>
 some (decide (b<97)))).bind λc=>
 (cond c (some true) ((VZ a 0).bind λd=>
 some (decide (122<d)))).bind λg=>
 cond g (
 some false) (
 Fc N a (G8 N) N 1)
def Hc (N:Nat) (a:(List (AQ×Bool))) (b:ByteArray) (d:ByteArray):Option (Bool×(List (AQ×Bool))):=
 (JC N b).bind λc=>
 cond ((!c)||((PR (λk:AQ=>Value.agg (AQ.v k).toArray) a (⟨d,b⟩:AQ)).getD false)) (
 some (false,a)) (
 some (true,(R6 (λk:AQ=>Value.agg (AQ.v k).toArray) a (⟨d,b⟩:AQ) true)))
def JU (N:Nat) (a:(List (AQ×Bool))) (b:ByteArray) (c:ByteArray):Option (Bool×(List (AQ×Bool))):=
 cond (b==(ByteArray.mk #[115,104,101,108,116,101,114])) (
 Hc N a c (ByteArray.mk #[116,111,119,110])) (
 Hc N a c b)
def DC (N:Nat) (c2_:(List (AQ×Bool))) (c3_:Bool) (a:ByteArray) (b:ByteArray):Option ((List (AQ×Bool))×Bool):=
 (JU N c2_ a b).bind λc=>
 some (c.2,(c.1&&c3_))
def Da (N:Nat) (a:AU) (d:Bool→((List (AQ×Bool)))→Option Bool):Nat→Int→Bool→((List (AQ×Bool)))→Option Bool
 |0,_,_,_=>none
 |k+1,c,g,i=>
 cond (decide (c<(↑a.A.length:Int))) (
 (ix a.A c).bind λj=>
 (DC N i g (ByteArray.mk #[112,108,97,99,101]) j.F).bind λb=>
 Da N a d k (B0 (c+1)) b.2 b.1) (
 d g i)
def DZ (N:Nat) (a:AU) (i:Bool→((List (AQ×Bool)))→Option Bool):Nat→Int→Bool→((List (AQ×Bool)))→Option Bool
 |0,_,_,_=>none
 |k+1,b,c,d=>
 cond (decide (b<(↑a.E.length:Int))) (
 (ix a.E b).bind λj=>
 (DC N d c (ByteArray.mk #[108,105,110,107]) j.F).bind λg=>
 DZ N a i k (B0 (b+1)) g.2 g.1) (
 i c d)
def DY (N:Nat) (a:AU) (i:Bool→((List (AQ×Bool)))→Option Bool):Nat→Int→Bool→((List (AQ×Bool)))→Option Bool
 |0,_,_,_=>none
 |k+1,b,c,d=>
 cond (decide (b<(↑a.Ag.length:Int))) (
 (ix a.Ag b).bind λj=>
 (DC N d c (ByteArray.mk #[116,111,119,110]) j.F).bind λg=>
 DY N a i k (B0 (b+1)) g.2 g.1) (
 i c d)
def DX (N:Nat) (a:AU) (i:Bool→((List (AQ×Bool)))→Option Bool):Nat→Int→Bool→((List (AQ×Bool)))→Option Bool
 |0,_,_,_=>none
 |k+1,b,c,d=>
 cond (decide (b<(↑a.Av.length:Int))) (
 (ix a.Av b).bind λj=>
 (DC N d c (ByteArray.mk #[115,104,101,108,116,101,114]) j.F).bind λg=>
 DX N a i k (B0 (b+1)) g.2 g.1) (
 i c d)
def DK (N:Nat) (a:AU) (c:Bool→((List (AQ×Bool)))→Option Bool):Nat→Int→Bool→((List (AQ×Bool)))→Option Bool
 |0,_,_,_=>none
 |k+1,b,d,g=>
 cond (decide (b<(↑a.Aq.length:Int))) (
 (ix a.Aq b).bind λj=>
 (DC N g d (ByteArray.mk #[103,97,117,103,101]) j.F).bind λi=>
 DK N a c k (B0 (b+1)) i.2 i.1) (
 c d g)
def DJ (N:Nat) (a:AU) (c:Bool→Option Bool):Nat→Int→Bool→((List (AQ×Bool)))→Option Bool
 |0,_,_,_=>none
 |k+1,b,d,i=>
 cond (decide (b<(↑a.At.length:Int))) (
 (ix a.At b).bind λj=>
 (DC N i d (ByteArray.mk #[114,111,97,100]) j.F).bind λg=>
 DJ N a c k (B0 (b+1)) g.2 g.1) (
 c d)
def ET (N:Nat) (a:Bool):Option Bool:=
 some a
def EU (N:Nat) (a:AU) (b:Bool) (c:(List (AQ×Bool))):Option Bool:=
 DJ N a (ET N) N 0 b c
def Eh (N:Nat) (a:AU) (b:Bool) (c:(List (AQ×Bool))):Option Bool:=
 DK N a (EU N a) N 0 b c
def Ei (N:Nat) (a:AU) (b:Bool) (c:(List (AQ×Bool))):Option Bool:=
 DX N a (Eh N a) N 0 b c
def Ej (N:Nat) (a:AU) (b:Bool) (c:(List (AQ×Bool))):Option Bool:=
 DY N a (Ei N a) N 0 b c
def Ek (N:Nat) (a:AU) (b:Bool) (c:(List (AQ×Bool))):Option Bool:=
 DZ N a (Ej N a) N 0 b c
def El (N:Nat) (a:AU) (b:Bool) (c:(List (AQ×Bool))):Option Bool:=
 Da N a (Ek N a) N 0 b c
def Db (N:Nat) (a:AU) (c:Bool→((List (AQ×Bool)))→Option Bool):Nat→Int→Bool→((List (AQ×Bool)))→Option Bool
 |0,_,_,_=>none
 |k+1,b,d,g=>
 cond (decide (b<(↑a.H.length:Int))) (
 (ix a.H b).bind λj=>
 (DC N g d (ByteArray.mk #[111,119,110,101,114]) j).bind λi=>
 Db N a c k (B0 (b+1)) i.2 i.1) (
 c d g)
def Ij (N:Nat) (a:AU):Option Bool:=
 Db N a (El N a) N 0 true ([]:(List (AQ×Bool)))
def Gm (N:Nat):Option Bool:=
 some true
def Ec (N:Nat) (a:(List B4)) (d:Option Bool):Nat→Int→Option Bool
 |0,_=>none
 |l+1,c=>
 cond (decide (c<(↑a.length:Int))) (
 (ix a c).bind λb=>
 cond ((((decide (b.N<0))||(decide (1125899906842624<b.N)))||(decide (b.Y<0)))||(decide (1125899906842624<b.Y))) (
 some false) (
 (cond (decide (0<c)) ((ix a (B0 (c-1))).bind λg=>
 (cond (decide (b.N≤g.N)) (some true) ((ix a (B0 (c-1))).bind λi=>
 some (decide (b.Y<i.Y)))).bind λj=>
 some j) (some false)).bind λk=>
 cond k (
 some false) (
 Ec N a d l (B0 (c+1))))) (
 d)
def Ed (N:Nat) (a:(List B4)):Option Bool:=
 cond ((decide ((↑a.length:Int)<1))||(decide (32<(↑a.length:Int)))) (
 some false) (
 Ec N a (Gm N) N 0)
def Gn (N:Nat) (a:Int) (b:Int):Option Bool:=
 (Ch N a).bind λc=>
 (cond c ((Ch N b).bind λd=>
 some d) (some false)).bind λg=>
 some (g&&((decide (b≠0))||(decide (a=0))))
def E5 (N:Nat) (b:Int) (a:Int):Option Bool:=
 (Ct N b 0 (B0 (a-1))).bind λc=>
 some c
def IX (N:Nat) (c:AU) (b:Int) (a:Int):Option Bool:=
 (cond (decide (a=(-1))) (some true) ((E5 N a (↑c.A.length:Int)).bind λd=>
 some (d&&(decide (a≠b))))).bind λg=>
 some g
def CI (N:Nat) (a:Int):Option Bool:=
 some (decide (a≤1125899906842624))
def C0 (N:Nat) (d:D1) (g:Int→Option Bool):Nat→Int→Int→Option Bool
 |0,_,_=>none
 |j+1,b,a=>
 cond (decide (a<(↑d.As.length:Int))) (
 (ix d.As a).bind λc=>
 (Ch N c).bind λi=>
 cond (!i) (
 some false) (
 C0 N d g j (B0 (b+c)) (B0 (a+1)))) (
 g b)
def Cz (N:Nat) (c:AU) (g:D1) (d:Int) (i:Int→Option Bool):Nat→Int→Int→Option Bool
 |0,_,_=>none
 |m+1,j,b=>
 cond (decide (b<(↑g.Aa.length:Int))) (
 (ix g.Aa b).bind λa=>
 (cond ((decide (a.Bg≤j))||(decide (c.R≤a.Bg))) (some true) ((Ch N a.Bp).bind λk=>
 some (!k))).bind λl=>
 cond l (
 some false) (
 Cz N c g d i m a.Bg (B0 (b+1)))) (
 i d)
def ES (N:Nat) (a:AU) (c:D1) (d:Int→Option Bool) (b:Int):Option Bool:=
 Cz N a c b d N (-1) 0
def Ck (N:Nat) (a:Int) (b:Int→Int→Option Bool) (c:Int):Option Bool:=
 b c (B0 (a+1))
def B8 (N:Nat) (b:AU) (d:Int→Option Bool):Nat→Int→Int→Option Bool
 |0,_,_=>none
 |y+1,g,c=>
 cond (decide (c<(↑b.A.length:Int))) (
 (ix b.A c).bind λa=>
 (Ct N a.C 0 3).bind λj=>
 (cond (!j) (some true) ((Ct N a.An 0 2).bind λk=>
 some (!k))).bind λl=>
 (cond l (some true) ((Ct N a.K 0 240).bind λm=>
 some (!m))).bind λn=>
 (cond n (some true) ((Ch N a.Aj).bind λo=>
 some (!o))).bind λp=>
 (cond p (some true) ((Ch N a.Bd).bind λq=>
 some (!q))).bind λs=>
 (cond s (some true) ((Ed N a.Bt).bind λt=>
 some (!t))).bind λu=>
 (cond (u||(decide ((↑a.As.length:Int)≠(↑b.H.length:Int)))) (some true) ((Gn N a.S a.L).bind λv=>
 some (!v))).bind λw=>
 (cond w (some true) ((IX N b c a.Ak).bind λi=>
 some (!i))).bind λx=>
 cond x (
 some false) (
 C0 N a (ES N b a (Ck N c (B8 N b d y))) N g 0)) (
 d g)
def FV (N:Nat) (a:AU):Option Bool:=
 B8 N a (CI N) N 0 0
def IR (N:Nat) (a:Int):Option Int:=
 some a
def GA (N:Nat) (b:(Int→Option Bool)) (d:Int→Option Int):Nat→Int→Int→Option Int
 |0,_,_=>none
 |i+1,a,c=>
 cond (decide (a<c)) (
 (b (B0 (Eg .u64 (IntKind.wrap .u64 (B0 (a+c))) 1))).bind λg=>
 cond (!g) (
 GA N b d i (B0 ((B0 (Eg .u64 (IntKind.wrap .u64 (B0 (a+c))) 1))+1)) c) (
 GA N b d i a (B0 (Eg .u64 (IntKind.wrap .u64 (B0 (a+c))) 1)))) (
 d a)
def KQ (N:Nat) (a:Int) (b:(Int→Option Bool)):Option Int:=
 GA N b (IR N) N 0 a
def Hw (N:Nat) (c1_:(List B4)) (c2_:Int) (a:Int):Option Bool:=
 (ix c1_ a).bind λb=>
 some (decide (c2_<b.N))
def G7 (N:Nat) (a:Int) (b:Int):Option (Int×Int):=
 some ((IntKind.wrap .u64 ((IntKind.wrap .u64 ((IntKind.wrap .u64 ((Eg .u64 a 32)*(Eg .u64 b 32)))+(Eg .u64 (IntKind.wrap .u64 ((IntKind.wrap .u64 ((Eg .u64 a 32)*(Hr .and .u64 b 4294967295)))+(Eg .u64 (IntKind.wrap .u64 ((Hr .and .u64 a 4294967295)*(Hr .and .u64 b 4294967295))) 32))) 32)))+(Eg .u64 (IntKind.wrap .u64 ((Hr .and .u64 (IntKind.wrap .u64 ((IntKind.wrap .u64 ((Eg .u64 a 32)*(Hr .and .u64 b 4294967295)))+(Eg .u64 (IntKind.wrap .u64 ((Hr .and .u64 a 4294967295)*(Hr .and .u64 b 4294967295))) 32))) 4294967295)+(IntKind.wrap .u64 ((Hr .and .u64 a 4294967295)*(Eg .u64 b 32))))) 32))),(IntKind.wrap .u64 (a*b)))
def GB (N:Nat) (a:Int) (b:Int):Option Int:=
 (VZ Lh (IntKind.wrap .u8 a)).bind λc=>
 some (B0 (b+(B0 c)))
def GC (N:Nat) (a:Int) (b:Int):Option Int:=
 cond (decide (256≤a)) (
 GB N (Eg .u64 a 8) (B0 (b+8))) (
 GB N a b)
def GD (N:Nat) (a:Int) (b:Int):Option Int:=
 cond (decide (65536≤a)) (
 GC N (Eg .u64 a 16) (B0 (b+16))) (
 GC N a b)
def H6 (N:Nat) (a:Int):Option Int:=
 cond (decide (4294967296≤a)) (
 GD N (Eg .u64 a 32) 32) (
 GD N a 0)
def Ez (N:Nat) (a:Int):Option Int:=
 (H6 N a).bind λb=>
 some (B0 (64-b))
def Dt (N:Nat) (b:Int) (a:Int) (d:Nat) (j:Nat) (g:Int→Option (Int×Int)):Nat→Int→Int→Option (Int×Int)
 |0,_,_=>none
 |k+1,i,c=>
 cond ((decide (4294967296≤c))||(decide ((IntKind.wrap .u64 ((IntKind.wrap .u64 (4294967296*i))+(Hr .and .u64 (Dl .u64 b j) 4294967295)))<(IntKind.wrap .u64 (c*(Hr .and .u64 (Dl .u64 a d) 4294967295)))))) (
 cond (decide (4294967296≤(IntKind.wrap .u64 (i+(Eg .u64 (Dl .u64 a d) 32))))) (
 g (IntKind.wrap .u64 (c-1))) (
 Dt N b a d j g k (IntKind.wrap .u64 (i+(Eg .u64 (Dl .u64 a d) 32))) (IntKind.wrap .u64 (c-1)))) (
 g c)
def E0 (N:Nat) (c:Int) (a:Int) (b:Int) (n:Int) (d:Nat) (k:Nat) (l:Nat) (g:Nat) (i:Int) (j:Int):Option (Int×Int):=
 (Nu (IntKind.wrap .u64 n)).bind λm=>
 some ((IntKind.wrap .u64 ((IntKind.wrap .u64 (i*4294967296))+j)),(Eg .u64 (IntKind.wrap .u64 ((IntKind.wrap .u64 ((IntKind.wrap .u64 ((IntKind.wrap .u64 ((IntKind.wrap .u64 ((IntKind.wrap .u64 ((Hr .or .u64 (Dl .u64 c k) (Eg .u64 a l))*4294967296))+(Eg .u64 (Dl .u64 a g) 32)))-(IntKind.wrap .u64 (i*(Dl .u64 b d)))))*4294967296))+(Hr .and .u64 (Dl .u64 a g) 4294967295)))-(IntKind.wrap .u64 (j*(Dl .u64 b d))))) m))
def Du (N:Nat) (c:Int) (a:Int) (b:Int) (m:Int) (d:Nat) (i:Nat) (j:Nat) (g:Nat) (k:Int):Option (Int×Int):=
 (PQ .u64 (IntKind.wrap .u64 ((IntKind.wrap .u64 ((IntKind.wrap .u64 ((Hr .or .u64 (Dl .u64 c i) (Eg .u64 a j))*4294967296))+(Eg .u64 (Dl .u64 a g) 32)))-(IntKind.wrap .u64 (k*(Dl .u64 b d))))) (Eg .u64 (Dl .u64 b d) 32)).bind λl=>
 Dt N a b d g (E0 N c a b m d i j g k) N (IntKind.wrap .u64 ((IntKind.wrap .u64 ((IntKind.wrap .u64 ((IntKind.wrap .u64 ((Hr .or .u64 (Dl .u64 c i) (Eg .u64 a j))*4294967296))+(Eg .u64 (Dl .u64 a g) 32)))-(IntKind.wrap .u64 (k*(Dl .u64 b d)))))-(IntKind.wrap .u64 (l*(Eg .u64 (Dl .u64 b d) 32))))) l
def DO (N:Nat) (b:Int) (a:Int) (d:Nat) (j:Nat) (g:Int→Option (Int×Int)):Nat→Int→Int→Option (Int×Int)
 |0,_,_=>none
 |k+1,c,i=>
 cond ((decide (4294967296≤c))||(decide ((IntKind.wrap .u64 ((IntKind.wrap .u64 (4294967296*i))+(Eg .u64 (Dl .u64 b j) 32)))<(IntKind.wrap .u64 (c*(Hr .and .u64 (Dl .u64 a d) 4294967295)))))) (
 cond (decide (4294967296≤(IntKind.wrap .u64 (i+(Eg .u64 (Dl .u64 a d) 32))))) (
 g (IntKind.wrap .u64 (c-1))) (
 DO N b a d j g k (IntKind.wrap .u64 (c-1)) (IntKind.wrap .u64 (i+(Eg .u64 (Dl .u64 a d) 32))))) (
 g c)
def Fb (N:Nat) (c:Int) (b:Int) (a:Int):Option (Int×Int):=
 cond (decide (a=0)) (
 none) (
 cond (decide (a≤c)) (
 none) (
 cond (decide (c=0)) (
 (PQ .u64 b a).bind λm=>
 (Rw b a).bind λn=>
 some (m,n)) (
 (Ez N a).bind λj=>
 (Nu (IntKind.wrap .u64 j)).bind λd=>
 (Nu (IntKind.wrap .u64 j)).bind λg=>
 (Nu (IntKind.wrap .u64 (64-(IntKind.wrap .u64 j)))).bind λi=>
 (Nu (IntKind.wrap .u64 j)).bind λk=>
 (PQ .u64 (Hr .or .u64 (Dl .u64 c g) (Eg .u64 b i)) (Eg .u64 (Dl .u64 a d) 32)).bind λl=>
 DO N b a d k (Du N c b a j d g i k) N l (IntKind.wrap .u64 ((Hr .or .u64 (Dl .u64 c g) (Eg .u64 b i))-(IntKind.wrap .u64 (l*(Eg .u64 (Dl .u64 a d) 32))))))))
def Fj (N:Nat) (c:Int) (b:Int) (a:Int):Option (Int×Int×Bool):=
 cond ((((((decide (c<0))||(decide (1125899906842624<c)))||(decide (b<0)))||(decide (1125899906842624<b)))||(decide (a<1)))||(decide (1125899906842624<a))) (
 some (0,0,false)) (
 (G7 N (IntKind.wrap .u64 c) (IntKind.wrap .u64 b)).bind λg=>
 cond (decide ((IntKind.wrap .u64 a)≤g.1)) (
 some (0,0,false)) (
 (Fb N g.1 g.2 (IntKind.wrap .u64 a)).bind λd=>
 cond (decide (1125899906842624<d.1)) (
 some (0,0,false)) (
 some ((B0 d.1),(B0 d.2),true))))
def IF (N:Nat) (a:(List B4)) (d:Int):Option (Int×Bool):=
 (KQ N (↑a.length:Int) (λx=>Hw N a d x)).bind λb=>
 cond (decide (b=0)) (
 (ix a 0).bind λi=>
 some (i.Y,false)) (
 (ix a (B0 (b-1))).bind λc=>
 cond (decide (b=(↑a.length:Int))) (
 some (c.Y,false)) (
 (ix a b).bind λj=>
 (ix a b).bind λk=>
 (Fj N (B0 (d-c.N)) (B0 (j.Y-c.Y)) (B0 (k.N-c.N))).bind λg=>
 some ((B0 (c.Y+g.1)),(decide (0<g.2.1)))))
def GE (N:Nat) (b:(List B4)) (a:(List B4)) (i:Option Bool):Nat→Int→Option Bool
 |0,_=>none
 |j+1,c=>
 cond (decide (c<(↑a.length:Int))) (
 (ix a c).bind λd=>
 (IF N b d.N).bind λg=>
 cond ((decide (d.Y<g.1))||((decide (g.1=d.Y))&&g.2)) (
 some false) (
 GE N b a i j (B0 (c+1)))) (
 i)
def Hb (N:Nat):Option Bool:=
 some true
def GG (N:Nat) (a:(List B4)) (b:(List B4)):Option Bool:=
 GE N a b (Hb N) N 0
def GF (N:Nat) (a:(List B4)) (b:(List B4)) (d:Option Bool):Nat→Int→Option Bool
 |0,_=>none
 |j+1,c=>
 cond (decide (c<(↑a.length:Int))) (
 (ix a c).bind λg=>
 (IF N b g.N).bind λi=>
 cond (decide (i.1<g.Y)) (
 some false) (
 GF N a b d j (B0 (c+1)))) (
 d)
def HX (N:Nat) (a:(List B4)) (b:(List B4)):Option Bool:=
 (Ed N a).bind λc=>
 (cond (!c) (some true) ((Ed N b).bind λd=>
 some (!d))).bind λg=>
 cond g (
 some false) (
 GF N a b (GG N a b) N 0)
def D0 (N:Nat) (a:BQ) (b:Bool):Option Bool:=
 cond b (
 (Ch N a.Ap).bind λc=>
 (cond c ((Ch N a.S).bind λd=>
 some d) (some false)).bind λg=>
 (cond g ((Ct N a.L 1 1125899906842624).bind λi=>
 some i) (some false)).bind λj=>
 some j) (
 cond (decide (a.C=2)) (
 (Ch N a.S).bind λk=>
 (cond k ((Ct N a.T 1 64).bind λl=>
 some l) (some false)).bind λm=>
 (cond m ((Ct N a.Z 0 a.T).bind λn=>
 some n) (some false)).bind λo=>
 some o) (
 cond (decide (a.C=3)) (
 (Ch N a.S).bind λp=>
 (cond p ((Ct N a.L 1 1125899906842624).bind λq=>
 some q) (some false)).bind λs=>
 (cond s ((Ch N a.Ah).bind λt=>
 some t) (some false)).bind λu=>
 (cond u ((Ch N a.Ai).bind λv=>
 some v) (some false)).bind λw=>
 some (w&&(decide (a.Ai<a.Ah)))) (
 (Ch N a.S).bind λx=>
 (cond x ((Ct N a.L 1 1125899906842624).bind λy=>
 some y) (some false)).bind λz=>
 (cond z ((Gn N a.Ac a.Ab).bind λA=>
 some A) (some false)).bind λB=>
 some (B&&(decide (a.D≠(-1)))))))
def FW (N:Nat) (a:BQ):Option Bool:=
 cond (decide (a.C=0)) (
 (Ed N a.Ba).bind λb=>
 (cond b ((Ed N a.Af.Bb).bind λc=>
 some c) (some false)).bind λd=>
 (cond d ((Ed N a.Af.Bc).bind λg=>
 some g) (some false)).bind λi=>
 (cond i ((HX N a.Af.Bb a.Ba).bind λj=>
 some j) (some false)).bind λk=>
 (cond k ((HX N a.Ba a.Af.Bc).bind λl=>
 some l) (some false)).bind λm=>
 (cond m ((Ct N a.T 0 64).bind λn=>
 some n) (some false)).bind λo=>
 (cond o ((Ct N a.Z 0 a.T).bind λp=>
 some p) (some false)).bind λq=>
 (cond q ((Ch N a.Ao).bind λs=>
 some s) (some false)).bind λt=>
 (cond t ((Gn N a.Ac a.Ab).bind λu=>
 some u) (some false)).bind λv=>
 some (v&&((decide (a.D≠(-1)))||(decide (a.Ab=0))))) (
 cond (decide (a.C=1)) (
 D0 N a (decide (a.C=1))) (
 D0 N a (decide (a.C=5))))
def FU (N:Nat) (a:BQ):Option Bool:=
 cond ((!(decide (a.C=0)))&&((((decide (0<(↑a.Ba.length:Int)))||(decide (0<(↑a.Af.Bb.length:Int))))||(decide (0<(↑a.Af.Bc.length:Int))))||(decide (a.Ao≠0)))) (
 some false) (
 cond (((!(decide (a.C=0)))&&(decide (a.C≠2)))&&((decide (a.T≠0))||(decide (a.Z≠0)))) (
 some false) (
 cond (((decide (a.C≠1))&&(decide (a.C≠5)))&&(decide (a.Ap≠0))) (
 some false) (
 cond (((decide (a.C=0))&&(decide (a.S≠0)))||(((decide (a.C=0))||(decide (a.C=2)))&&(decide (a.L≠0)))) (
 some false) (
 cond ((decide (a.C≠3))&&((decide (a.Ah≠0))||(decide (a.Ai≠0)))) (
 some false) (
 some (((decide (a.C=0))||(decide (a.C=4)))||((decide (a.Ac=0))&&(decide (a.Ab=0)))))))))
def Dc (N:Nat):Option Bool:=
 some true
def Cu (N:Nat) (a:AU) (d:Option Bool):Nat→Int→Option Bool
 |0,_=>none
 |t+1,c=>
 cond (decide (c<(↑a.E.length:Int))) (
 (ix a.E c).bind λb=>
 (Ct N b.C 0 5).bind λg=>
 (cond (!g) (some true) ((E5 N b.I (↑a.A.length:Int)).bind λi=>
 some (!i))).bind λj=>
 (cond j (some true) ((IX N a b.I b.D).bind λk=>
 some (!k))).bind λl=>
 (cond l (some true) ((Ct N b.K 0 240).bind λm=>
 some (!m))).bind λn=>
 (cond n (some true) ((FW N b).bind λo=>
 some (!o))).bind λp=>
 (cond p (some true) ((FU N b).bind λq=>
 some (!q))).bind λs=>
 cond s (
 some false) (
 Cu N a d t (B0 (c+1)))) (
 d)
def E3 (N:Nat) (a:AU):Option Bool:=
 Cu N a (Dc N) N 0
def JJ (N:Nat) (c:AU) (a:Int) (b:Int):Option Bool:=
 cond (decide (b=(-1))) (
 some (decide (a=2))) (
 (ix c.A b).bind λd=>
 some ((decide (d.An=a))||(decide (d.An=(B0 (a+1))))))
def Dd (N:Nat) (a:AU) (g:Option Bool):Nat→Int→Option Bool
 |0,_=>none
 |m+1,d=>
 cond (decide (d<(↑a.E.length:Int))) (
 (ix a.E d).bind λb=>
 (ix a.A b.I).bind λc=>
 (JJ N a c.An b.D).bind λi=>
 (cond (!i) (some true) ((cond (decide (b.C=4)) ((ix a.A b.D).bind λj=>
 some (decide (j.An≠c.An))) (some false)).bind λk=>
 some k)).bind λl=>
 cond l (
 some false) (
 Dd N a g m (B0 (d+1)))) (
 g)
def Et (N:Nat):Option Bool:=
 some true
def Dg (N:Nat) (a:AU):Option Bool:=
 Dd N a (Et N) N 0
def De (N:Nat) (a:AU) (c:Option Bool):Nat→Int→Option Bool
 |0,_=>none
 |i+1,b=>
 cond (decide (b<(↑a.A.length:Int))) (
 (ix a.A b).bind λd=>
 (JJ N a d.An d.Ak).bind λg=>
 cond (!g) (
 some false) (
 De N a c i (B0 (b+1)))) (
 c)
def G1 (N:Nat) (a:AU):Option Bool:=
 De N a (Dg N a) N 0
def JI (N:Nat) (a:Int):Option Int:=
 some (B0 a)
def Fk (N:Nat) (b:Int) (a:Int):Option Int:=
 cond (decide (a=0)) (
 some 0) (
 cond (decide (a<b)) (
 some 1099511627777) (
 (G7 N (IntKind.wrap .u64 b) 1099511627776).bind λd=>
 (Fb N d.1 d.2 (IntKind.wrap .u64 a)).bind λc=>
 cond (decide (c.2≠0)) (
 JI N (IntKind.wrap .u64 (c.1+1))) (
 JI N c.1)))
def EE (N:Nat) (a:Int):Option Int:=
 some a
def Ef (N:Nat) (a:(List B4)) (c:Int→Option Int):Nat→Int→Int→Option Int
 |0,_,_=>none
 |m+1,d,b=>
 cond (decide (b<(↑a.length:Int))) (
 (ix a b).bind λg=>
 (ix a (B0 (b-1))).bind λi=>
 (ix a b).bind λj=>
 (ix a (B0 (b-1))).bind λk=>
 (Fk N (B0 (g.Y-i.Y)) (B0 (j.N-k.N))).bind λl=>
 Ef N a c m (max d l) (B0 (b+1))) (
 c d)
def FT (N:Nat) (a:Int) (b:Int→Int→Option Int) (c:Int):Option Int:=
 b c (B0 (a+1))
def DH (N:Nat) (a:(List (List B4))) (c:Int→Option Int):Nat→Int→Int→Option Int
 |0,_,_=>none
 |i+1,g,b=>
 cond (decide (b<(↑a.length:Int))) (
 (ix a b).bind λd=>
 Ef N d (FT N b (DH N a c i)) N g 1) (
 c g)
def IY (N:Nat) (a:(List (List B4))):Option Int:=
 DH N a (EE N) N 0 0
def Cj (N:Nat) (b:Int) (c:Int→(List Int)→Option Bool) (a:List Int):Option Bool:=
 c (B0 (b+1)) a
def Dx (N:Nat) (b:List Int) (a:BQ) (g:(List Int)→Option Bool) (i:Bool):Option Bool:=
 cond i (
 (ix b a.I).bind λn=>
 (ix b a.I).bind λj=>
 (Fk N a.S a.L).bind λk=>
 (ix b a.I).bind λo=>
 (ix b a.I).bind λp=>
 g (upd b a.I (B0 (j+k)))) (
 cond (decide (a.C=4)) (
 (ix b a.I).bind λq=>
 (ix b a.I).bind λc=>
 (Fk N a.S a.L).bind λd=>
 (ix b a.I).bind λs=>
 (ix b a.I).bind λt=>
 (ix (upd b a.I (B0 (c+(B0 (2*d))))) a.D).bind λu=>
 (ix (upd b a.I (B0 (c+(B0 (2*d))))) a.D).bind λl=>
 (Fk N a.Ac a.Ab).bind λm=>
 (ix (upd b a.I (B0 (c+(B0 (2*d))))) a.D).bind λv=>
 (ix (upd b a.I (B0 (c+(B0 (2*d))))) a.D).bind λw=>
 g (upd (upd b a.I (B0 (c+(B0 (2*d))))) a.D (B0 (l+(B0 (2*m)))))) (
 g b))
def HM (N:Nat) (b:Bool→Option Bool) (a:Bool):Option Bool:=
 b a
def B7 (N:Nat) (c:AU) (j:(List Int)→Option Bool):Nat→Int→(List Int)→Option Bool
 |0,_,_=>none
 |k+1,i,b=>
 cond (decide (i<(↑c.E.length:Int))) (
 (ix c.E i).bind λa=>
 cond (decide (a.C=0)) (
 (ix b a.I).bind λn=>
 (ix b a.I).bind λd=>
 (IY N ([a.Ba,a.Af.Bb,a.Af.Bc]:List (List B4))).bind λg=>
 (ix b a.I).bind λo=>
 (ix b a.I).bind λp=>
 cond (decide (a.D≠(-1))) (
 (ix (upd b a.I (B0 (d+g))) a.D).bind λq=>
 (ix (upd b a.I (B0 (d+g))) a.D).bind λl=>
 (Fk N a.Ac a.Ab).bind λm=>
 (ix (upd b a.I (B0 (d+g))) a.D).bind λs=>
 (ix (upd b a.I (B0 (d+g))) a.D).bind λt=>
 Cj N i (B7 N c j k) (upd (upd b a.I (B0 (d+g))) a.D (B0 (l+m)))) (
 Cj N i (B7 N c j k) (upd b a.I (B0 (d+g))))) (
 cond (decide (a.C=1)) (
 Dx N b a (Cj N i (B7 N c j k)) (decide (a.C=1))) (
 cond (decide (a.C=5)) (
 HM N (Dx N b a (Cj N i (B7 N c j k))) (decide (a.C=5))) (
 HM N (Dx N b a (Cj N i (B7 N c j k))) (decide (a.C=3)))))) (
 j b)
def Dv (N:Nat) (b:List Int) (c:Option Bool):Nat→Int→Option Bool
 |0,_=>none
 |i+1,a=>
 cond (decide (a<(↑b.length:Int))) (
 (ix b a).bind λg=>
 (ix b a).bind λd=>
 cond (decide (1099511627776<d)) (
 some false) (
 Dv N b c i (B0 (a+1)))) (
 c)
def FJ (N:Nat):Option Bool:=
 some true
def Cy (N:Nat) (a:List Int):Option Bool:=
 Dv N a (FJ N) N 0
def Dy (N:Nat) (a:AU) (b:List Int):Option Bool:=
 B7 N a (Cy N) N 0 b
def Dw (N:Nat) (b:AU) (d:(List Int)→Option Bool):Nat→Int→(List Int)→Option Bool
 |0,_,_=>none
 |j+1,a,c=>
 cond (decide (a<(↑b.A.length:Int))) (
 (ix b.A a).bind λg=>
 (Fk N g.S g.L).bind λi=>
 (ix c a).bind λk=>
 (ix c a).bind λl=>
 Dw N b d j (B0 (a+1)) (upd c a i)) (
 d c)
def HI (N:Nat) (a:AU):Option Bool:=
 chk (Jh (↑a.A.length:Int) (↑a.A.length:Int) 8) <|
 Dw N a (Dy N a) N 0 (List.replicate ((↑a.A.length:Int):Int).toNat (0:Int))
def D6 (N:Nat) (a:AU) (c:Option Bool):Nat→Int→Option Bool
 |0,_=>none
 |i+1,b=>
 cond (decide (b<(↑a.Av.length:Int))) (
 (ix a.Av b).bind λd=>
 (Ct N d.Au 0 1073741824).bind λg=>
 cond (!g) (
 some false) (
 D6 N a c i (B0 (b+1)))) (
 c)
def Fd (N:Nat):Option Bool:=
 some true
def D8 (N:Nat) (a:AU):Option Bool:=
 D6 N a (Fd N) N 0
def D7 (N:Nat) (a:AU) (d:Option Bool):Nat→Int→Option Bool
 |0,_=>none
 |t+1,c=>
 cond (decide (c<(↑a.Ag.length:Int))) (
 (ix a.Ag c).bind λb=>
 (E5 N b.Ax (↑a.A.length:Int)).bind λg=>
 (cond (!g) (some true) ((Ch N b.Bm).bind λi=>
 some (!i))).bind λj=>
 (cond j (some true) ((Ct N b.Bl 0 24).bind λk=>
 some (!k))).bind λl=>
 (cond l (some true) ((Ct N b.Bq 0 1073741824).bind λm=>
 some (!m))).bind λn=>
 (cond n (some true) ((Ch N b.Bn).bind λo=>
 some (!o))).bind λp=>
 (cond p (some true) ((Ct N b.Bk 0 128).bind λq=>
 some (!q))).bind λs=>
 cond s (
 some false) (
 D7 N a d t (B0 (c+1)))) (
 d)
def Hk (N:Nat) (a:AU):Option Bool:=
 D7 N a (D8 N a) N 0
def FK (N:Nat):Option Bool:=
 some true
def Dz (N:Nat) (a:AU) (d:Option Bool):Nat→Int→Option Bool
 |0,_=>none
 |o+1,c=>
 cond (decide (c<(↑a.Aq.length:Int))) (
 (ix a.Aq c).bind λb=>
 (Ct N b.C 0 2).bind λg=>
 (cond (!g) (some true) ((Ct N b.U 0 1099511627776).bind λi=>
 some (!i))).bind λj=>
 (cond j (some true) ((Ct N b.Bo 0 1440).bind λk=>
 some (!k))).bind λl=>
 cond l (
 some false) (
 (ix ([(↑a.A.length:Int),a.R,(↑a.E.length:Int)]:List Int) b.C).bind λm=>
 (E5 N b.W m).bind λn=>
 cond (!n) (
 some false) (
 Dz N a d o (B0 (c+1))))) (
 d)
def HJ (N:Nat) (a:AU):Option Bool:=
 Dz N a (FK N) N 0
def Fe (N:Nat):Option Bool:=
 some true
def D9 (N:Nat) (a:AU) (d:Option Bool):Nat→Int→Option Bool
 |0,_=>none
 |u+1,c=>
 cond (decide (c<(↑a.At.length:Int))) (
 (ix a.At c).bind λb=>
 (E5 N b.I (↑a.Ag.length:Int)).bind λg=>
 (cond (!g) (some true) ((E5 N b.D (B0 ((↑a.Ag.length:Int)+(↑a.Av.length:Int)))).bind λi=>
 some (!i))).bind λj=>
 (cond (j||(decide (b.I=b.D))) (some true) ((Ct N b.Br 1 24).bind λk=>
 some (!k))).bind λl=>
 (cond l (some true) ((Ct N b.Bs 0 1073741824).bind λm=>
 some (!m))).bind λn=>
 (cond n (some true) ((Ch N b.Bj).bind λo=>
 some (!o))).bind λp=>
 cond p (
 some false) (
 (cond ((decide (b.Bh=(-1)))&&(decide (b.Bj≠0))) (some true) ((cond (decide (b.Bh≠(-1))) ((E5 N b.Bh (↑a.A.length:Int)).bind λq=>
 some (!q)) (some false)).bind λs=>
 some s)).bind λt=>
 cond t (
 some false) (
 D9 N a d u (B0 (c+1))))) (
 d)
def Hl (N:Nat) (a:AU):Option Bool:=
 D9 N a (Fe N) N 0
def HY (N:Nat) (a:AU):Option Bool:=
 (H8 N a).bind λv=>
 (cond v ((Ij N a).bind λb=>
 some b) (some false)).bind λc=>
 (cond c ((FV N a).bind λd=>
 some d) (some false)).bind λg=>
 (cond g ((E3 N a).bind λi=>
 some i) (some false)).bind λj=>
 (cond j ((G1 N a).bind λk=>
 some k) (some false)).bind λl=>
 (cond l ((HI N a).bind λm=>
 some m) (some false)).bind λn=>
 (cond n ((Hk N a).bind λo=>
 some o) (some false)).bind λp=>
 (cond p ((HJ N a).bind λq=>
 some q) (some false)).bind λs=>
 (cond s ((Hl N a).bind λt=>
 some t) (some false)).bind λu=>
 some u
def E4 (N:Nat):Option Bool:=
 some true
def DT (N:Nat) (a:(List Int)) (c:Option Bool):Nat→Int→Int→Option Bool
 |0,_,_=>none
 |i+1,g,d=>
 cond (decide (d<(↑a.length:Int))) (
 (ix a d).bind λb=>
 cond ((decide (b<0))||(decide ((B0 (1125899906842624-g))<b))) (
 some false) (
 DT N a c i (B0 (g+b)) (B0 (d+1)))) (
 c)
def Gs (N:Nat) (a:(List Int)):Option Bool:=
 DT N a (E4 N) N 0 0
def H5 (N:Nat) (b:(List Int)) (a:Int):Option Bool:=
 (cond (((decide (0≤a))&&(decide (a≤16)))&&(decide ((↑b.length:Int)=a))) ((Gs N b).bind λc=>
 some c) (some false)).bind λd=>
 some d
def Gc (N:Nat) (b:Int) (a:Int):Option Int:=
 cond ((decide (0<a))&&(decide ((B0 (9223372036854775807-a))<b))) (
 some 9223372036854775807) (
 cond ((decide (a<0))&&(decide (b<(B0 ((-9223372036854775808)-a))))) (
 some (-9223372036854775808)) (
 some (B0 (b+a))))
def Hv (N:Nat) (a:Int):Option Int:=
 some a
def GZ (N:Nat) (a:(List Int)) (c:Int→Option Int):Nat→Int→Int→Option Int
 |0,_,_=>none
 |j+1,i,b=>
 cond (decide (b<(↑a.length:Int))) (
 (ix a b).bind λd=>
 (Gc N i d).bind λg=>
 GZ N a c j g (B0 (b+1))) (
 c i)
def ER (N:Nat) (a:(List Int)):Option Int:=
 GZ N a (Hv N) N 0 0
def GQ (N:Nat) (b:Int) (a:Int):Option Bool:=
 some ((decide (0≤b))&&(decide (b<a)))
def EF (N:Nat) (b:AU) (a:BD) (j:Int→Option (Int×Bool)):Nat→Int→Int→Option (Int×Bool)
 |0,_,_=>none
 |o+1,g,i=>
 cond (decide (i<(↑a.J.length:Int))) (
 (ix a.J i).bind λd=>
 (cond (decide (d.Ad<a.B)) (some true) ((GQ N d.D (↑b.A.length:Int)).bind λk=>
 some (!k))).bind λl=>
 (cond l (some true) ((H5 N d.X (↑b.H.length:Int)).bind λm=>
 some (!m))).bind λn=>
 cond n (
 some (0,false)) (
 (ER N d.X).bind λc=>
 cond ((decide (c≤0))||(decide (1125899906842624<(B0 (g+c))))) (
 some (0,false)) (
 EF N b a j o (B0 (g+c)) (B0 (i+1))))) (
 j g)
def F5 (N:Nat) (a:Int):Option (Int×Bool):=
 some (a,true)
def DD (N:Nat) (a:AU) (b:BD) (c:Int):Option (Int×Bool):=
 EF N a b (F5 N) N c 0
def DP (N:Nat) (b:AU) (a:BD) (g:Int→Option (Int×Bool)):Nat→Int→Int→Option (Int×Bool)
 |0,_,_=>none
 |l+1,c,d=>
 cond (decide (d<(↑a.G.length:Int))) (
 (ix a.G d).bind λi=>
 (H5 N i (↑b.H.length:Int)).bind λk=>
 cond (!k) (
 some (0,false)) (
 (ER N i).bind λj=>
 cond (decide (1125899906842624<(B0 (c+j)))) (
 some (0,false)) (
 DP N b a g l (B0 (c+j)) (B0 (d+1))))) (
 g c)
def ID (N:Nat) (a:AU) (b:BD):Option (Int×Bool):=
 DP N a b (DD N a b) N 0 0
def FX (N:Nat) (a:Int):Option (Int×Bool):=
 some (a,true)
def Dp (N:Nat) (b:(List Int)) (a:Int) (g:Int→Option (Int×Bool)):Nat→Int→Int→Option (Int×Bool)
 |0,_,_=>none
 |j+1,i,c=>
 cond (decide (c<(↑b.length:Int))) (
 (ix b c).bind λd=>
 cond ((decide (d<0))||(decide ((B0 (a-i))<d))) (
 some (0,false)) (
 Dp N b a g j (B0 (i+d)) (B0 (c+1)))) (
 g i)
def Gx (N:Nat) (b:(List Int)) (a:Int):Option (Int×Bool):=
 Dp N b a (FX N) N 0 0
def Dm (N:Nat) (d:AU) (g:BD) (i:Option Bool):Nat→Int→Option Bool
 |0,_=>none
 |j+1,b=>
 cond (decide (b<(↑d.E.length:Int))) (
 (ix d.E b).bind λc=>
 (ix g.Q b).bind λa=>
 cond ((((decide (a.V<0))||(decide (c.T<a.V)))||(decide (a.W<0)))||(decide (c.T<a.W))) (
 some false) (
 cond ((a.Al&&(decide (c.C≠5)))&&(decide (c.C≠3))) (
 some false) (
 Dm N d g i j (B0 (b+1))))) (
 i)
def DQ (N:Nat) (d:AU) (a:BD):Option Bool:=
 (ID N d a).bind λb=>
 cond (!b.2) (
 some false) (
 (Gx N a.O 1152921504606846976).bind λc=>
 cond (!c.2) (
 some false) (
 (Gx N a.P (B0 ((B0 (c.1+1125899906842624))-b.1))).bind λg=>
 some g.2))
def DR (N:Nat) (a:AU) (b:BD):Option Bool:=
 Dm N a b (DQ N a b) N 0
def Dn (N:Nat) (a:AU) (b:BD) (d:Option Bool):Nat→Int→Option Bool
 |0,_=>none
 |l+1,c=>
 cond (decide (c<(↑a.A.length:Int))) (
 (ix a.A c).bind λk=>
 (ix b.M c).bind λg=>
 (cond (decide (g<0)) (some true) ((ix b.M c).bind λi=>
 some (decide ((max 0 (B0 (k.L-1)))<i)))).bind λj=>
 cond j (
 some false) (
 Dn N a b d l (B0 (c+1)))) (
 d)
def Fs (N:Nat) (b:AU) (a:BD):Option Bool:=
 cond (((((((decide (a.B<0))||(decide (16777216<a.B)))||(decide ((↑a.G.length:Int)≠(↑b.A.length:Int))))||(decide ((↑a.M.length:Int)≠(↑b.A.length:Int))))||(decide ((↑a.Q.length:Int)≠(↑b.E.length:Int))))||(decide ((↑a.O.length:Int)≠(↑b.H.length:Int))))||(decide ((↑a.P.length:Int)≠(↑b.H.length:Int)))) (
 some false) (
 Dn N b a (DR N b a) N 0)
def Cg (N:Nat) (a:(List BH)):Option (List BH):=
 chk (room (([]:List BH).length+a.length) 24) <|
 some (([]:List BH)++a)
def FC (N:Nat) (a:BD) (d:List (List Int)):Option BD:=
 (Cw N a.M).bind λg=>
 (Cg N a.Q).bind λi=>
 (Cw N a.O).bind λb=>
 (Cw N a.P).bind λc=>
 some (⟨a.B,d,g,a.J,i,b,c⟩:BD)
def FB (N:Nat) (b:BD) (d:(List (List Int))→Option BD):Nat→Int→(List (List Int))→Option BD
 |0,_,_=>none
 |j+1,a,c=>
 cond (decide (a<(↑b.G.length:Int))) (
 (ix b.G a).bind λg=>
 (Cw N g).bind λi=>
 (ix c a).bind λk=>
 (ix c a).bind λl=>
 FB N b d j (B0 (a+1)) (upd c a i)) (
 d c)
def JS (N:Nat) (a:BD):Option BD:=
 chk (Jh (↑a.G.length:Int) (↑a.G.length:Int) 24) <|
 FB N a (FC N a) N 0 (List.replicate ((↑a.G.length:Int):Int).toNat ([]:(List Int)))
def Ft (N:Nat) (a:BH) (b:Bool) (c:Bool):Option BH:=
 some (⟨a.V,a.W,b,c⟩:BH)
def Ga (N:Nat) (d:BQ) (a:BH) (b:Int) (c:Bool→Bool→Option BH) (g:Bool):Option BH:=
 cond g (
 cond (decide (d.C=5)) (
 c a.Aw (decide (b=2))) (
 c a.Aw a.Al)) (
 c a.Aw a.Al)
def HL (N:Nat) (c:BQ) (b:BH) (a:Int):Option BH:=
 cond (decide (a=0)) (
 Ft N b true b.Al) (
 cond (decide (a=1)) (
 Ft N b false b.Al) (
 cond (decide (a=2)) (
 Ga N c b a (Ft N b) (decide (a=2))) (
 Ga N c b a (Ft N b) (decide (a=3)))))
def HW (N:Nat) (c:Int) (b:Int) (a:Int):Option Int:=
 cond (decide (c<b)) (
 some b) (
 cond (decide (a<c)) (
 some a) (
 some c))
def KR (N:Nat) (a:BH) (b:Int):Option BH:=
 some ({ a with W:=b}:BH)
def Ih (N:Nat) (c:BQ) (b:BH) (a:Int):Option BH:=
 cond (decide (c.T≠0)) (
 (HW N a 0 c.T).bind λd=>
 KR N b d) (
 KR N b b.W)
def Gb (N:Nat) (b:Int) (a:Int):Option Int:=
 cond ((decide (a<0))&&(decide ((B0 (9223372036854775807+a))<b))) (
 some 9223372036854775807) (
 cond ((decide (0<a))&&(decide (b<(B0 ((-9223372036854775808)+a))))) (
 some (-9223372036854775808)) (
 some (B0 (b-a))))
def HV (N:Nat) (b:BQ) (a:BH):Option BH:=
 cond a.Aw (
 some a) (
 (Gb N a.W a.V).bind λc=>
 (Gb N 0 b.Z).bind λd=>
 (HW N c d b.Z).bind λg=>
 (Gc N a.V g).bind λi=>
 some ({ a with V:=i}:BH))
def F8 (N:Nat) (a:Int) (b:Int→(List BH)→Option (List BH)) (c:List BH):Option (List BH):=
 b (B0 (a+1)) c
def Co (N:Nat) (p0_w:A4) (g:(List BH)→Option (List BH)):Nat→Int→(List BH)→Option (List BH)
 |0,_,_=>none
 |m+1,d,c=>
 cond (decide (d<(↑p0_w.in_.Ar.length:Int))) (
 (ix p0_w.in_.Ar d).bind λa=>
 (GQ N a.Ay (↑p0_w.b.E.length:Int)).bind λi=>
 cond i (
 (ix p0_w.b.E a.Ay).bind λj=>
 (ix c a.Ay).bind λn=>
 (ix c a.Ay).bind λk=>
 (Ih N j k a.W).bind λl=>
 (ix c a.Ay).bind λo=>
 (ix c a.Ay).bind λp=>
 F8 N d (Co N p0_w g m) (upd c a.Ay l)) (
 F8 N d (Co N p0_w g m) c)) (
 g c)
def DM (N:Nat) (p0_w:A4):Nat→Int→(List BH)→Option (List BH)
 |0,_,_=>none
 |m+1,a,c=>
 cond (decide (a<(↑p0_w.b.E.length:Int))) (
 (ix p0_w.b.E a).bind λd=>
 (ix c a).bind λj=>
 (ix c a).bind λg=>
 (HV N d g).bind λi=>
 (ix c a).bind λk=>
 (ix c a).bind λl=>
 DM N p0_w m (B0 (a+1)) (upd c a i)) (
 some c)
def C8 (N:Nat) (p0_w:A4) (a:List BH):Option (List BH):=
 DM N p0_w N 0 a
def C9 (N:Nat) (p0_w:A4) (a:List BH):Option (List BH):=
 Co N p0_w (C8 N p0_w) N 0 a
def F9 (N:Nat) (c:Int) (a:Int→(List BH)→Option (List BH)) (b:List BH):Option (List BH):=
 a (B0 (c+1)) b
def Cp (N:Nat) (p0_w:A4) (c:(List BH)→Option (List BH)):Nat→Int→(List BH)→Option (List BH)
 |0,_,_=>none
 |m+1,g,d=>
 cond (decide (g<(↑p0_w.in_.Am.length:Int))) (
 (ix p0_w.in_.Am g).bind λa=>
 (GQ N a.Ay (↑p0_w.b.E.length:Int)).bind λi=>
 cond i (
 (ix p0_w.b.E a.Ay).bind λj=>
 (ix d a.Ay).bind λn=>
 (ix d a.Ay).bind λk=>
 (HL N j k a.C).bind λl=>
 (ix d a.Ay).bind λo=>
 (ix d a.Ay).bind λp=>
 F9 N g (Cp N p0_w c m) (upd d a.Ay l)) (
 F9 N g (Cp N p0_w c m) d)) (
 c d)
def GR (N:Nat) (p0_w:A4):Option (List BH):=
 Cp N p0_w (C9 N p0_w) N 0 p0_w.s.Q
def Ji (N:Nat) (b:(List Int)) (a:Int):Option Int:=
 (cond ((decide (a<0))||(decide ((↑b.length:Int)≤a))) (some true) ((ix b a).bind λd=>
 some (decide (d<0)))).bind λg=>
 cond g (
 some 0) (
 (ix b a).bind λc=>
 some c)
def Jy (N:Nat) (a:List Int):Option (List Int):=
 some a
def Kd (N:Nat) (a:(List Int)) (b:Int) (c:Int) (d:Int):Option (List Int):=
 chk (Jh (↑a.length:Int) (↑a.length:Int) 8) <|
 (Ji N a b).bind λg=>
 cond ((((decide (0<(min d g)))&&(decide (0≤c)))&&(decide (c<(↑a.length:Int))))&&(decide (b≠c))) (
 (ix (NO (List.replicate ((↑a.length:Int):Int).toNat (0:Int)) a) b).bind λl=>
 (ix (NO (List.replicate ((↑a.length:Int):Int).toNat (0:Int)) a) b).bind λi=>
 (ix (NO (List.replicate ((↑a.length:Int):Int).toNat (0:Int)) a) b).bind λm=>
 (ix (NO (List.replicate ((↑a.length:Int):Int).toNat (0:Int)) a) b).bind λn=>
 (ix (upd (NO (List.replicate ((↑a.length:Int):Int).toNat (0:Int)) a) b (B0 (i-(min d g)))) c).bind λo=>
 (ix (upd (NO (List.replicate ((↑a.length:Int):Int).toNat (0:Int)) a) b (B0 (i-(min d g)))) c).bind λj=>
 (Gc N j (min d g)).bind λk=>
 (ix (upd (NO (List.replicate ((↑a.length:Int):Int).toNat (0:Int)) a) b (B0 (i-(min d g)))) c).bind λp=>
 (ix (upd (NO (List.replicate ((↑a.length:Int):Int).toNat (0:Int)) a) b (B0 (i-(min d g)))) c).bind λq=>
 Jy N (upd (upd (NO (List.replicate ((↑a.length:Int):Int).toNat (0:Int)) a) b (B0 (i-(min d g)))) c k)) (
 Jy N (NO (List.replicate ((↑a.length:Int):Int).toNat (0:Int)) a))
def F7 (N:Nat) (c:Int) (a:Int→(List (List Int))→Option (List (List Int))) (b:List (List Int)):Option (List (List Int)):=
 a (B0 (c+1)) b
def Cn (N:Nat) (p0_w:A4):Nat→Int→(List (List Int))→Option (List (List Int))
 |0,_,_=>none
 |o+1,d,c=>
 cond (decide (d<(↑p0_w.in_.Az.length:Int))) (
 (ix p0_w.in_.Az d).bind λa=>
 (GQ N a.Ax (↑p0_w.b.A.length:Int)).bind λg=>
 (cond g ((GQ N a.I (↑p0_w.b.H.length:Int)).bind λi=>
 some i) (some false)).bind λj=>
 (cond j ((GQ N a.D (↑p0_w.b.H.length:Int)).bind λk=>
 some k) (some false)).bind λl=>
 cond l (
 (ix c a.Ax).bind λq=>
 (ix c a.Ax).bind λm=>
 (Kd N m a.I a.D a.Be).bind λn=>
 (ix c a.Ax).bind λs=>
 (ix c a.Ax).bind λp=>
 F7 N d (Cn N p0_w o) (upd c a.Ax n)) (
 F7 N d (Cn N p0_w o) c)) (
 some c)
def FY (N:Nat) (p0_w:A4):Option (List (List Int)):=
 Cn N p0_w N 0 p0_w.s.G
def EA (N:Nat) (p0_w:A4) (b:Int→Option ((List (List Int))×(List Int)×(List BA))):Nat→Int→Int→Option ((List (List Int))×(List Int)×(List BA))
 |0,_,_=>none
 |i+1,c,a=>
 cond (decide (a<(↑p0_w.s.J.length:Int))) (
 (ix p0_w.s.J a).bind λd=>
 (ER N d.X).bind λg=>
 EA N p0_w b i (B0 (c+g)) (B0 (a+1))) (
 b c)
def GW (N:Nat) (p0_w:A4) (k:Int) (l:Int) (d:Int) (i:List BA) (g:List (List Int)) (c:List Int) (m:Int→Int→(List BA)→(List (List Int))→(List Int)→Option ((List (List Int))×(List Int)×(List BA))) (a:Int):Option ((List (List Int))×(List Int)×(List BA)):=
 cond (decide (a≤0)) (
 m k l i g c) (
 (ix g d).bind λp=>
 (ix g d).bind λj=>
 (ix j 0).bind λn=>
 (ix j 0).bind λq=>
 (ix c 0).bind λt=>
 (ix c 0).bind λo=>
 (ix c 0).bind λu=>
 (ix c 0).bind λv=>
 chk (Jh (↑p0_w.b.H.length:Int) (↑p0_w.b.H.length:Int) 8) <|
 (ix (List.replicate ((↑p0_w.b.H.length:Int):Int).toNat (0:Int)) 0).bind λw=>
 (ix (List.replicate ((↑p0_w.b.H.length:Int):Int).toNat (0:Int)) 0).bind λx=>
 chk (room (i.length+([(⟨p0_w.s.B,(-1),d,(-4),(upd (List.replicate ((↑p0_w.b.H.length:Int):Int).toNat (0:Int)) 0 a)⟩:BA)]:List BA).length) 56) <|
 m (B0 (k+a)) (B0 (l+a)) (i++([(⟨p0_w.s.B,(-1),d,(-4),(upd (List.replicate ((↑p0_w.b.H.length:Int):Int).toNat (0:Int)) 0 a)⟩:BA)]:List BA)) (upd g d (upd j 0 (B0 (n+a)))) (upd c 0 (B0 (o+a))))
def FQ (N:Nat) (a:Int) (j:Int→Int→Int→(List BA)→(List (List Int))→(List Int)→Option ((List (List Int))×(List Int)×(List BA))) (b:Int) (c:Int) (d:List BA) (g:List (List Int)) (i:List Int):Option ((List (List Int))×(List Int)×(List BA)):=
 j b c (B0 (a+1)) d g i
def C1 (N:Nat) (p0_w:A4):Nat→Int→Int→Int→(List BA)→(List (List Int))→(List Int)→Option ((List (List Int))×(List Int)×(List BA))
 |0,_,_,_,_,_,_=>none
 |l+1,c,d,a,g,i,j=>
 cond (decide (a<(↑p0_w.b.A.length:Int))) (
 cond (decide (a<(↑p0_w.in_.Aa.length:Int))) (
 (ix p0_w.in_.Aa a).bind λk=>
 GW N p0_w c d a g i j (FQ N a (C1 N p0_w l)) (min (min k (B0 (1125899906842624-c))) (B0 (1152921504606846976-d)))) (
 GW N p0_w c d a g i j (FQ N a (C1 N p0_w l)) 0)) (
 some (i,j,g))
def EC (N:Nat) (p0_w:A4) (a:Int):Option ((List (List Int))×(List Int)×(List BA)):=
 (ER N p0_w.s.O).bind λb=>
 C1 N p0_w N a b 0 p0_w.moves p0_w.s.G p0_w.s.O
def ED (N:Nat) (p0_w:A4) (a:Int):Option ((List (List Int))×(List Int)×(List BA)):=
 EA N p0_w (EC N p0_w) N a 0
def EB (N:Nat) (p0_w:A4) (b:Int→Option ((List (List Int))×(List Int)×(List BA))):Nat→Int→Int→Option ((List (List Int))×(List Int)×(List BA))
 |0,_,_=>none
 |i+1,g,a=>
 cond (decide (a<(↑p0_w.s.G.length:Int))) (
 (ix p0_w.s.G a).bind λj=>
 (ix p0_w.s.G a).bind λc=>
 (ER N c).bind λd=>
 EB N p0_w b i (B0 (g+d)) (B0 (a+1))) (
 b g)
def IQ (N:Nat) (p0_w:A4):Option ((List (List Int))×(List Int)×(List BA)):=
 EB N p0_w (ED N p0_w) N 0 0
def HT (N:Nat) (a:List Int):Option (List Int):=
 some a
def Fi (N:Nat) (c:(List Int)) (d:(List Int)→Option (List Int)):Nat→Int→(List Int)→Option (List Int)
 |0,_,_=>none
 |k+1,a,b=>
 cond (decide (a<(↑c.length:Int))) (
 (ix c a).bind λg=>
 (ix b a).bind λl=>
 (ix b a).bind λi=>
 (Gc N i g).bind λj=>
 (ix b a).bind λm=>
 (ix b a).bind λn=>
 Fi N c d k (B0 (a+1)) (upd b a j)) (
 d b)
def Gk (N:Nat) (a:(List Int)) (b:(List Int)):Option (List Int):=
 chk (Jh (max (↑a.length:Int) (↑b.length:Int)) (max (↑a.length:Int) (↑b.length:Int)) 8) <|
 Fi N b (HT N) N 0 (NO (List.replicate ((max (↑a.length:Int) (↑b.length:Int)):Int).toNat (0:Int)) a)
def I9 (N:Nat) (a:Int) (b:(List BE)→Int→(List (List Int))→Option ((List (List Int))×(List BE))) (c:List BE) (d:List (List Int)):Option ((List (List Int))×(List BE)):=
 b c (B0 (a+1)) d
def Fh (N:Nat) (d:(List BE)) (b:Int) (n:Int) (k:(List BE)→(List (List Int))→Option ((List (List Int))×(List BE))):Nat→(List BE)→Int→(List (List Int))→Option ((List (List Int))×(List BE))
 |0,_,_,_=>none
 |o+1,g,i,c=>
 cond (decide (i<(↑d.length:Int))) (
 (ix d i).bind λa=>
 cond (((decide (a.Ad≤b))&&(decide (0≤a.D)))&&(decide (a.D<n))) (
 (ix c a.D).bind λp=>
 (ix c a.D).bind λl=>
 (Gk N l a.X).bind λm=>
 (ix c a.D).bind λq=>
 (ix c a.D).bind λs=>
 I9 N i (Fh N d b n k o) g (upd c a.D m)) (
 (Cw N a.X).bind λj=>
 chk (room (g.length+([({ a with X:=j}:BE)]:List BE).length) 40) <|
 I9 N i (Fh N d b n k o) (g++([({ a with X:=j}:BE)]:List BE)) c)) (
 k g c)
def Hi (N:Nat) (a:List BE) (b:List (List Int)):Option ((List (List Int))×(List BE)):=
 some (b,a)
def GU (N:Nat) (b:(List BE)) (a:Int) (d:Int) (c:List (List Int)):Option ((List (List Int))×(List BE)):=
 Fh N b a d (Hi N) N ([]:List BE) 0 c
def GT (N:Nat) (g:Int) (d:Int) (c:(List (List Int))→Option ((List (List Int))×(List BE))):Nat→Int→(List (List Int))→Option ((List (List Int))×(List BE))
 |0,_,_=>none
 |i+1,a,b=>
 cond (decide (a<(↑(List.replicate (g:Int).toNat ([]:(List Int))).length:Int))) (
 chk (Jh d d 8) <|
 (ix b a).bind λj=>
 (ix b a).bind λk=>
 GT N g d c i (B0 (a+1)) (upd b a (List.replicate (d:Int).toNat (0:Int)))) (
 c b)
def Kb (N:Nat) (d:(List BE)) (c:Int) (a:Int) (b:Int):Option ((List (List Int))×(List BE)):=
 (HW N a 0 64).bind λg=>
 (HW N b 0 16).bind λi=>
 chk (Jh g g 24) <|
 GT N g i (GU N d c g) N 0 (List.replicate (g:Int).toNat ([]:(List Int)))
def IS (N:Nat) (a:BH) (b:Bool):Option BH:=
 some ({ a with Al:=b}:BH)
def Gr (N:Nat) (b:BQ) (a:BH) (c:Int):Option BH:=
 cond (decide (b.C≠3)) (
 some a) (
 cond (decide (b.Ah≤c)) (
 IS N a true) (
 cond (decide (c≤b.Ai)) (
 IS N a false) (
 IS N a a.Al)))
def Es (N:Nat) (a:Int) (c:Int→(List BH)→Option ((List (List Int))×(List BE)×(List BH)×(List Int))) (b:List BH):Option ((List (List Int))×(List BE)×(List BH)×(List Int)):=
 c (B0 (a+1)) b
def Ca (N:Nat) (p0_w:A4) (j:(List (List Int))×(List BE)) (i:List (List Int)) (d:List Int):Nat→Int→(List BH)→Option ((List (List Int))×(List BE)×(List BH)×(List Int))
 |0,_,_=>none
 |n+1,a,c=>
 cond (decide (a<(↑p0_w.b.E.length:Int))) (
 (ix p0_w.b.E a).bind λg=>
 cond (decide (g.C=3)) (
 (ix c a).bind λo=>
 (ix c a).bind λk=>
 (ix d g.I).bind λp=>
 (ix d g.I).bind λl=>
 (Gr N g k l).bind λm=>
 (ix c a).bind λq=>
 (ix c a).bind λs=>
 Es N a (Ca N p0_w j i d n) (upd c a m)) (
 Es N a (Ca N p0_w j i d n) c)) (
 some (i,j.2,c,d))
def C6 (N:Nat) (p0_w:A4) (c:(List (List Int))×(List BE)) (a:List (List Int)) (b:List Int):Option ((List (List Int))×(List BE)×(List BH)×(List Int)):=
 Ca N p0_w c a b N 0 p0_w.s.Q
def Cq (N:Nat) (p0_w:A4) (i:(List (List Int))×(List BE)) (j:(List (List Int))→(List Int)→Option ((List (List Int))×(List BE)×(List BH)×(List Int))):Nat→Int→(List (List Int))→(List Int)→Option ((List (List Int))×(List BE)×(List BH)×(List Int))
 |0,_,_,_=>none
 |w+1,a,c,d=>
 cond (decide (a<(↑p0_w.b.A.length:Int))) (
 (ix c a).bind λo=>
 (ix c a).bind λk=>
 (ix i.1 a).bind λp=>
 (ix i.1 a).bind λl=>
 (Gk N k l).bind λg=>
 (ix c a).bind λq=>
 (ix c a).bind λs=>
 (ix (upd c a g) a).bind λt=>
 (ix (upd c a g) a).bind λm=>
 (ER N m).bind λn=>
 (ix d a).bind λu=>
 (ix d a).bind λv=>
 Cq N p0_w i j w (B0 (a+1)) (upd c a g) (upd d a n)) (
 j c d)
def Ex (N:Nat) (p0_w:A4):Option ((List (List Int))×(List BE)×(List BH)×(List Int)):=
 (Kb N p0_w.s.J p0_w.s.B (↑p0_w.b.A.length:Int) (↑p0_w.b.H.length:Int)).bind λa=>
 Cq N p0_w a (C6 N p0_w a) N 0 p0_w.s.G p0_w.peaks
def G6 (N:Nat) (a:List Int):Option (List Int):=
 some a
def Fa (N:Nat) (a:(List Int)) (d:(List Int)→Option (List Int)):Nat→Int→(List Int)→Option (List Int)
 |0,_,_=>none
 |j+1,b,c=>
 cond (decide (b<(↑a.length:Int))) (
 (ix a b).bind λg=>
 (ix c b).bind λk=>
 (ix c b).bind λi=>
 (ix c b).bind λl=>
 (ix c b).bind λm=>
 Fa N a d j (B0 (b+1)) (upd c b (B0 (i-g)))) (
 d c)
def Hj (N:Nat) (a:(List Int)) (b:(List Int)):Option (List Int):=
 chk (Jh (↑a.length:Int) (↑a.length:Int) 8) <|
 Fa N b (G6 N) N 0 (NO (List.replicate ((↑a.length:Int):Int).toNat (0:Int)) a)
def IT (N:Nat) (a:(List Int)) (b:List Int):Option ((List Int)×(List Int)):=
 (Hj N a b).bind λc=>
 some (b,c)
def Ke (N:Nat) (b:(List Int)) (a:Int) (c:Int):Option ((List Int)×(List Int)):=
 chk (Jh (↑b.length:Int) (↑b.length:Int) 8) <|
 (Ji N b a).bind λd=>
 cond (decide (0<(min c d))) (
 (ix (List.replicate ((↑b.length:Int):Int).toNat (0:Int)) a).bind λg=>
 (ix (List.replicate ((↑b.length:Int):Int).toNat (0:Int)) a).bind λi=>
 IT N b (upd (List.replicate ((↑b.length:Int):Int).toNat (0:Int)) a (min c d))) (
 IT N b (List.replicate ((↑b.length:Int):Int).toNat (0:Int)))
def Dj (N:Nat) (c1_:Gh) (a:(List Int)):Option ((List Int)×(List Int)):=
 (Ke N a c1_.Bi c1_.Be).bind λb=>
 some (b.1,b.2)
def DL (N:Nat) (a:List AK):Option (List AK):=
 some a
def F6 (N:Nat) (a:Int) (b:(List AK)→Int→Option (List AK)) (c:List AK):Option (List AK):=
 b c (B0 (a+1))
def Cb (N:Nat) (p0_w:A4) (a:Int) (g:(List AK)→Option (List AK)):Nat→(List AK)→Int→Option (List AK)
 |0,_,_=>none
 |j+1,i,d=>
 cond (decide (d<(↑p0_w.in_.Ae.length:Int))) (
 (ix p0_w.in_.Ae d).bind λc=>
 (cond (decide (c.Ax≠a)) (some true) ((GQ N c.Bi (↑p0_w.b.H.length:Int)).bind λk=>
 some (!k))).bind λl=>
 cond (l||(decide (c.Be≤0))) (
 F6 N d (Cb N p0_w a g j) i) (
 (cond (decide (c.D≠(-1))) ((GQ N c.D (↑p0_w.b.A.length:Int)).bind λm=>
 (cond (!m) (some true) ((ix p0_w.b.A c.D).bind λn=>
 (ix p0_w.b.A a).bind λo=>
 some (decide (n.An≠o.An)))).bind λp=>
 some p) (some false)).bind λq=>
 cond q (
 F6 N d (Cb N p0_w a g j) i) (
 chk (room (i.length+1) 32) <|
 F6 N d (Cb N p0_w a g j) (i++([(⟨c.D,0,(-3),(λx=>Dj N c x)⟩:AK)]:List AK))))) (
 g i)
def H2 (N:Nat) (p0_w:A4) (a:Int):Option (List AK):=
 Cb N p0_w a (DL N) N ([]:List AK) 0
def HU (N:Nat) (c:Int) (a:Int) (b:Int):Option Int:=
 (Fj N c a b).bind λd=>
 cond (!d.2.2) (
 some 0) (
 some d.1)
def Kf (N:Nat) (b:BQ) (a:Int) (c:Int):Option Int:=
 cond (decide (b.D=(-1))) (
 some a) (
 (HU N c b.Ac b.Ab).bind λd=>
 (Gb N a d).bind λg=>
 some (max 0 g))
def LK (N:Nat) (a:(List B4)) (b:Int):Option Int:=
 (Ed N a).bind λc=>
 cond (!c) (
 some 0) (
 (IF N a b).bind λd=>
 some d.1)
def IW (N:Nat):Option Int:=
 some 0
def IU (N:Nat) (a:BQ) (b:Int):Option Int:=
 (Gb N b a.Ap).bind λd=>
 (HU N (max 0 d) a.S a.L).bind λc=>
 some c
def J2 (N:Nat) (a:Bool) (b:Option Int):Option Int:=
 cond (!a) (
 some 0) (
 b)
def J1 (N:Nat) (c:BQ) (a:Bool) (b:Int) (d:Option Int):Option Int:=
 cond a (
 (HU N b c.S c.L).bind λg=>
 some g) (
 d)
def J0 (N:Nat) (b:BQ) (a:Int):Option Int:=
 (HU N b.S a b.T).bind λc=>
 some c
def Jz (N:Nat) (a:BQ) (c:Int) (g:(List B4)) (b:Int) (d:Int):Option Int:=
 (Kf N a b d).bind λi=>
 (LK N g i).bind λj=>
 (HU N j c a.T).bind λk=>
 (Gc N k a.Ao).bind λl=>
 some l
def Kg (N:Nat) (a:BQ) (d:Int) (c:Bool) (i:(List B4)) (b:Int) (g:Int):Option Int:=
 cond (decide (a.C=0)) (
 Jz N a d i b g) (
 cond (decide (a.C=2)) (
 J0 N a d) (
 cond (decide (a.C=3)) (
 J1 N a c b (IW N)) (
 cond (decide (a.C=5)) (
 J2 N c (IU N a b)) (
 cond (decide (a.C=1)) (
 IU N a b) (
 IW N)))))
def LJ (N:Nat) (b:BQ) (c:BH) (a:Int) (d:Int):Option Int:=
 (Kg N b c.V c.Al b.Ba a d).bind λg=>
 some g
def Gq (N:Nat) (a:Int):Option Int:=
 some a
def FE (N:Nat) (c:Int) (a:(List Int)) (n:Int) (k:Int→(List Int)→(List Int)→(List Int)→Option ((List Int)×Bool)):Nat→Int→Int→(List Int)→(List Int)→(List Int)→Option ((List Int)×Bool)
 |0,_,_,_,_,_=>none
 |v+1,l,b,g,i,j=>
 cond (decide (b<(↑a.length:Int))) (
 (ix a b).bind λm=>
 (Fj N c m n).bind λd=>
 (ix j b).bind λo=>
 (ix j b).bind λp=>
 (ix i b).bind λq=>
 (ix i b).bind λs=>
 (ix g b).bind λt=>
 (ix g b).bind λu=>
 FE N c a n k v (B0 (l-d.1)) (B0 (b+1)) (upd g b b) (upd i b d.2.1) (upd j b d.1)) (
 k l g i j)
def FD (N:Nat) (c:List Int) (g:(List Int)→Option ((List Int)×Bool)):Nat→Int→(List Int)→Option ((List Int)×Bool)
 |0,_,_=>none
 |m+1,d,a=>
 cond (decide (d<(↑c.length:Int))) (
 (ix c d).bind λb=>
 (ix a b).bind λj=>
 (ix a b).bind λi=>
 (ix a b).bind λk=>
 (ix a b).bind λl=>
 FD N c g m (B0 (d+1)) (upd a b (B0 (i+1)))) (
 g a)
def Gl (N:Nat) (a:List Int):Option ((List Int)×Bool):=
 some (a,true)
def FH (N:Nat) (c:Int) (d:List Int) (g:List Int) (i:List Int):Option ((List Int)×Bool):=
 (P3 d g).bind λa=>
 (kP a c).bind λb=>
 FD N b (Gl N) N 0 i
def FI (N:Nat) (b:Int) (a:(List Int)) (c:Int):Option ((List Int)×Bool):=
 cond ((decide (b<0))||(decide (c<b))) (
 some (([]:List Int),false)) (
 chk (Jh (↑a.length:Int) (↑a.length:Int) 8) <|
 cond (decide (c=0)) (
 some ((List.replicate ((↑a.length:Int):Int).toNat (0:Int)),true)) (
 chk (Jh (↑a.length:Int) (↑a.length:Int) 8) <|
 chk (Jh (↑a.length:Int) (↑a.length:Int) 8) <|
 FE N b a c (FH N) N b 0 (List.replicate ((↑a.length:Int):Int).toNat (0:Int)) (List.replicate ((↑a.length:Int):Int).toNat (0:Int)) (List.replicate ((↑a.length:Int):Int).toNat (0:Int))))
def FG (N:Nat) (a:(List Int)) (g:Int→Option ((List Int)×Bool)):Nat→Int→Int→Option ((List Int)×Bool)
 |0,_,_=>none
 |i+1,b,c=>
 cond (decide (c<(↑a.length:Int))) (
 (ix a c).bind λd=>
 cond ((decide (d<0))||(decide ((B0 (1125899906842624-b))<d))) (
 some (([]:List Int),false)) (
 FG N a g i (B0 (b+d)) (B0 (c+1)))) (
 g b)
def JT (N:Nat) (b:Int) (a:(List Int)):Option ((List Int)×Bool):=
 cond (decide (64<(↑a.length:Int))) (
 some (([]:List Int),false)) (
 FG N a (FI N b a) N 0 0)
def G0 (N:Nat) (a:(List Int)) (b:List Int):Option ((List Int)×(List Int)):=
 (Hj N a b).bind λc=>
 some (b,c)
def JA (N:Nat) (a:(List Int)→Option ((List Int)×(List Int))) (b:List Int):Option ((List Int)×(List Int)):=
 a b
def Kc (N:Nat) (a:(List Int)) (b:Int):Option ((List Int)×(List Int)):=
 chk (Jh (↑a.length:Int) (↑a.length:Int) 8) <|
 (cond ((decide (0<b))&&(decide ((↑a.length:Int)≤64))) ((Gs N a).bind λd=>
 some d) (some false)).bind λg=>
 cond g (
 (ER N a).bind λi=>
 (JT N (min b i) a).bind λc=>
 cond c.2 (
 JA N (G0 N a) (NO (List.replicate ((↑a.length:Int):Int).toNat (0:Int)) c.1)) (
 JA N (G0 N a) (List.replicate ((↑a.length:Int):Int).toNat (0:Int)))) (
 G0 N a (List.replicate ((↑a.length:Int):Int).toNat (0:Int)))
def A0 (N:Nat) (c1_:Int) (a:(List Int)):Option ((List Int)×(List Int)):=
 (Kc N a c1_).bind λb=>
 some (b.1,b.2)
def Jm (N:Nat) (c:Int) (a:Int) (b:Int):Option Int:=
 (Fj N c a b).bind λd=>
 cond (!d.2.2) (
 some 0) (
 some d.1)
def KF (N:Nat) (a:BQ) (b:Int) (c:Int):Option Int:=
 cond (decide (a.C≠4)) (
 some 0) (
 (Jm N b a.S a.L).bind λd=>
 (Jm N c a.Ac a.Ab).bind λg=>
 some (B0 (d-g)))
def DN (N:Nat) (a:List AK):Option (List AK):=
 some a
def Gy (N:Nat) (p0_w:A4) (c:Int) (m:List AK) (b:Int) (a:BQ) (g:(List AK)→Option (List AK)) (i:Int):Option (List AK):=
 (ix p0_w.s.Q b).bind λn=>
 (ix p0_w.s.Q b).bind λj=>
 (ix p0_w.peaks c).bind λo=>
 (ix p0_w.peaks c).bind λk=>
 (LJ N a j k i).bind λl=>
 (Gq N l).bind λd=>
 chk (room (m.length+([(⟨a.D,a.K,b,(λx=>A0 N d x)⟩:AK)]:List AK).length) 32) <|
 g (m++([(⟨a.D,a.K,b,(λx=>A0 N d x)⟩:AK)]:List AK))
def Dq (N:Nat) (a:Int) (b:(List AK)→Int→Option (List AK)) (c:List AK):Option (List AK):=
 b c (B0 (a+1))
def CM (N:Nat) (p0_w:A4) (c:Int) (g:(List AK)→Option (List AK)):Nat→(List AK)→Int→Option (List AK)
 |0,_,_=>none
 |l+1,i,d=>
 cond (decide (d<(↑p0_w.b.E.length:Int))) (
 (ix p0_w.b.E d).bind λa=>
 cond ((decide (a.I=c))&&(decide (a.C≠4))) (
 cond (decide (a.D≠(-1))) (
 (ix p0_w.peaks a.D).bind λA=>
 (ix p0_w.peaks a.D).bind λu=>
 Gy N p0_w c i d a (Dq N d (CM N p0_w c g l)) u) (
 Gy N p0_w c i d a (Dq N d (CM N p0_w c g l)) 0)) (
 cond (decide (a.I=c)) (
 (ix p0_w.peaks c).bind λv=>
 (ix p0_w.peaks c).bind λm=>
 (ix p0_w.peaks a.D).bind λw=>
 (ix p0_w.peaks a.D).bind λn=>
 (KF N a m n).bind λo=>
 (Gq N o).bind λj=>
 chk (room (i.length+([(⟨a.D,a.K,d,(λx=>A0 N j x)⟩:AK)]:List AK).length) 32) <|
 Dq N d (CM N p0_w c g l) (i++([(⟨a.D,a.K,d,(λx=>A0 N j x)⟩:AK)]:List AK))) (
 cond ((decide (a.D=c))&&(decide (a.C=4))) (
 (ix p0_w.peaks a.I).bind λy=>
 (ix p0_w.peaks a.I).bind λp=>
 (ix p0_w.peaks c).bind λz=>
 (ix p0_w.peaks c).bind λq=>
 (KF N a p q).bind λs=>
 (Gb N 0 s).bind λt=>
 (Gq N t).bind λk=>
 chk (room (i.length+([(⟨a.I,a.K,d,(λx=>A0 N k x)⟩:AK)]:List AK).length) 32) <|
 Dq N d (CM N p0_w c g l) (i++([(⟨a.I,a.K,d,(λx=>A0 N k x)⟩:AK)]:List AK))) (
 Dq N d (CM N p0_w c g l) i)))) (
 g i)
def H3 (N:Nat) (p0_w:A4) (a:Int):Option (List AK):=
 CM N p0_w a (DN N) N ([]:List AK) 0
def CR (N:Nat) (a:List AK):Option (List AK):=
 some a
def Cc (N:Nat) (a:Int):Option (List AK):=
 cond (decide (a<0)) (
 none) (
 cond (decide (0<(B0 (a-(B0 (0-0)))))) (
 chk (decide (0<(B0 (a-(B0 (0-0)))))) <|
 chk (room ((B0 (a-(B0 (0-0)))):Int).toNat 32) <|
 CR N ([]:List AK)) (
 CR N ([]:List AK)))
def CC (N:Nat) (a:(List (List AK))) (d:(List AK)→Option (List AK)):Nat→(List AK)→Int→Option (List AK)
 |0,_,_=>none
 |i+1,b,c=>
 cond (decide (c<(↑a.length:Int))) (
 (ix a c).bind λg=>
 chk (room (b.length+g.length) 32) <|
 CC N a d i (b++g) (B0 (c+1))) (
 d b)
def Cr (N:Nat) (a:List AK):Option (List AK):=
 some a
def CO (N:Nat) (a:(List (List AK))) (c:Int):Option (List AK):=
 (Cc N c).bind λb=>
 CC N a (Cr N) N b 0
def CD (N:Nat) (a:(List (List AK))) (c:Int→Option (List AK)):Nat→Int→Int→Option (List AK)
 |0,_,_=>none
 |i+1,g,b=>
 cond (decide (b<(↑a.length:Int))) (
 (ix a b).bind λd=>
 cond (decide ((B0 (g+(↑d.length:Int)))<0)) (
 none) (
 CD N a c i (B0 (g+(↑d.length:Int))) (B0 (b+1)))) (
 c g)
def CU (N:Nat) (a:(List (List AK))):Option (List AK):=
 CD N a (CO N a) N 0 0
def EJ (N:Nat):Option Int:=
 some (-1)
def DB (N:Nat) (a:(List Int)) (b:(Int→Option Bool)) (c:Option Int):Nat→Int→Option Int
 |0,_=>none
 |j+1,d=>
 cond (decide (d<(↑a.length:Int))) (
 (ix a d).bind λg=>
 (b g).bind λi=>
 cond i (
 some d) (
 DB N a b c j (B0 (d+1)))) (
 c)
def Ey (N:Nat) (a:(List Int)) (b:(Int→Option Bool)):Option Int:=
 DB N a b (EJ N) N 0
def FZ (N:Nat) (a:(List Int)) (b:(Int→Option Bool)):Option Bool:=
 (Ey N a b).bind λc=>
 some (decide (0≤c))
def Hh (N:Nat) (a:Int):Option Bool:=
 some (decide (0<a))
def Jx (N:Nat) (c:Int) (b:Int) (a:(List Int)):Option (List BE):=
 (cond (decide (b<0)) (some true) ((FZ N a (λx=>Hh N x)).bind λg=>
 some (!g))).bind λi=>
 cond i (
 some ([]:List BE)) (
 (Cw N a).bind λd=>
 chk (room (([]:List BE).length+1) 40) <|
 some (([]:List BE)++([(⟨c,b,d⟩:BE)]:List BE)))
def Gi (N:Nat) (p0_w:A4) (a:Int) (b:AK):Option ((List (List Int))×(List Int)×(List BA)×(List BE)):=
 (ix p0_w.s.G a).bind λm=>
 (ix p0_w.s.G a).bind λj=>
 (b.take j).bind λc=>
 (ix p0_w.s.G a).bind λk=>
 (ix p0_w.s.G a).bind λl=>
 (ER N c.1).bind λg=>
 cond (decide (g≤0)) (
 some ((upd p0_w.s.G a c.2),p0_w.s.P,p0_w.moves,p0_w.sent)) (
 chk (room (p0_w.moves.length+([(⟨p0_w.s.B,a,b.to_,b.way,c.1⟩:BA)]:List BA).length) 56) <|
 cond (decide (b.to_=(-1))) (
 (Gk N p0_w.s.P c.1).bind λi=>
 some ((upd p0_w.s.G a c.2),i,(p0_w.moves++([(⟨p0_w.s.B,a,b.to_,b.way,c.1⟩:BA)]:List BA)),p0_w.sent)) (
 (Jx N (B0 ((B0 (p0_w.s.B+1))+b.delay)) b.to_ c.1).bind λd=>
 chk (room (p0_w.sent.length+d.length) 40) <|
 some ((upd p0_w.s.G a c.2),p0_w.s.P,(p0_w.moves++([(⟨p0_w.s.B,a,b.to_,b.way,c.1⟩:BA)]:List BA)),(p0_w.sent++d))))
def Gj (N:Nat) (a:D1) (b:Int×Int×Bool) (c:Int):Option (Int×Int):=
 cond (decide ((B0 (b.2.1+c))<a.L)) (
 some (b.1,(B0 (b.2.1+c)))) (
 some ((B0 (b.1+1)),(B0 ((B0 (b.2.1+c))-a.L))))
def IE (N:Nat) (a:D1) (d:Int) (b:Int):Option (Int×Int):=
 (Fj N d a.S a.L).bind λc=>
 cond (!c.2.2) (
 some (0,0)) (
 cond ((decide (0≤b))&&(decide (b<a.L))) (
 Gj N a c b) (
 Gj N a c 0))
def EI (N:Nat) (p0_w:A4) (d:Int) (o:D1) (g:List (List Int)) (i:List Int) (j:List BA) (k:List BE) (l:Int×Int) (n:(List (List Int))→(List Int)→(List BA)→(List BE)→(List Int)→Option ((List (List Int))×(List Int)×(List Int)×(List BA)×(List BE))) (c:List Int):Option ((List (List Int))×(List Int)×(List Int)×(List BA)×(List BE)):=
 (Gq N l.1).bind λm=>
 (Gi N (⟨p0_w.b,p0_w.in_,(⟨p0_w.s.B,g,c,p0_w.s.J,p0_w.s.Q,p0_w.s.O,i⟩:BD),j,p0_w.peaks,k⟩:A4) d (⟨o.Ak,o.K,(-1),(λx=>A0 N m x)⟩:AK)).bind λa=>
 n a.1 a.2.1 a.2.2.1 a.2.2.2 c
def C4 (N:Nat) (p0_w:A4) (d:Int) (o:D1) (a:List (List Int)) (i:List Int) (j:List BA) (k:List BE) (g:List Int):Option ((List (List Int))×(List Int)×(List Int)×(List BA)×(List BE)):=
 (ix a d).bind λp=>
 (ix a d).bind λm=>
 (ER N m).bind λl=>
 cond (decide (0<(B0 (l-o.Aj)))) (
 (Gq N (B0 (l-o.Aj))).bind λn=>
 (Gi N (⟨p0_w.b,p0_w.in_,(⟨p0_w.s.B,a,g,p0_w.s.J,p0_w.s.Q,p0_w.s.O,i⟩:BD),j,p0_w.peaks,k⟩:A4) d (⟨o.Ak,o.K,(-2),(λx=>A0 N n x)⟩:AK)).bind λc=>
 some (c.1,g,c.2.1,c.2.2.1,c.2.2.2)) (
 some (a,g,i,j,k))
def Ew (N:Nat) (p0_w:A4) (a:Int) (j:D1) (b:List (List Int)) (d:List Int) (g:List BA) (i:List BE):Option ((List (List Int))×(List Int)×(List Int)×(List BA)×(List BE)):=
 cond (decide (j.L≠0)) (
 (ix p0_w.peaks a).bind λo=>
 (ix p0_w.peaks a).bind λk=>
 (ix p0_w.s.M a).bind λp=>
 (ix p0_w.s.M a).bind λl=>
 (IE N j k l).bind λc=>
 (ix p0_w.s.M a).bind λq=>
 (ix p0_w.s.M a).bind λt=>
 (ix b a).bind λu=>
 (ix b a).bind λm=>
 (ER N m).bind λn=>
 cond (decide (c.1≤n)) (
 (ix (upd p0_w.s.M a 0) a).bind λv=>
 (ix (upd p0_w.s.M a 0) a).bind λw=>
 EI N p0_w a j b d g i c (C4 N p0_w a j) (upd (upd p0_w.s.M a 0) a c.2)) (
 EI N p0_w a j b d g i c (C4 N p0_w a j) (upd p0_w.s.M a 0))) (
 C4 N p0_w a j b d g i p0_w.s.M)
def DA (N:Nat) (p0_w:A4) (g:Int) (d:(List AK)) (m:(List (List Int))→(List Int)→(List BA)→(List BE)→Option ((List (List Int))×(List Int)×(List Int)×(List BA)×(List BE))):Nat→Int→(List (List Int))→(List Int)→(List BA)→(List BE)→Option ((List (List Int))×(List Int)×(List Int)×(List BA)×(List BE))
 |0,_,_,_,_,_=>none
 |p+1,a,i,j,k,l=>
 cond (decide (a<(↑d.length:Int))) (
 (ix d a).bind λo=>
 (ix d a).bind λn=>
 (Gi N (⟨p0_w.b,p0_w.in_,(⟨p0_w.s.B,i,p0_w.s.M,p0_w.s.J,p0_w.s.Q,p0_w.s.O,j⟩:BD),k,p0_w.peaks,l⟩:A4) g n).bind λc=>
 DA N p0_w g d m p (B0 (a+1)) c.1 c.2.1 c.2.2.1 c.2.2.2) (
 m i j k l)
def GS (N:Nat) (p0_w:A4) (a:Int):Option ((List (List Int))×(List Int)×(List Int)×(List BA)×(List BE)):=
 (ix p0_w.b.A a).bind λi=>
 (H2 N p0_w a).bind λc=>
 (H3 N p0_w a).bind λd=>
 (CU N ([c,d]:List (List AK))).bind λg=>
 DA N p0_w a g (Ew N p0_w a i) N 0 p0_w.s.G p0_w.s.P p0_w.moves p0_w.sent
def EZ (N:Nat) (k:BD) (c:(List (List Int))×(List Int)×(List BA)) (a:(List (List Int))×(List BE)×(List BH)×(List Int)) (d:List (List Int)) (g:List Int) (i:List Int) (j:List BA) (b:List BE):Option (BD×(List BA)×(List Int)):=
 chk (room (a.2.1.length+b.length) 40) <|
 some ((⟨(B0 (k.B+1)),d,g,(a.2.1++b),a.2.2.1,c.2.1,i⟩:BD),j,a.2.2.2)
def EY (N:Nat) (c:AU) (d:Eb) (o:BD) (i:(List (List Int))×(List Int)×(List BA)) (b:(List (List Int))×(List BE)×(List BH)×(List Int)) (p:(List (List Int))→(List Int)→(List Int)→(List BA)→(List BE)→Option (BD×(List BA)×(List Int))):Nat→Int→(List (List Int))→(List Int)→(List Int)→(List BA)→(List BE)→Option (BD×(List BA)×(List Int))
 |0,_,_,_,_,_,_=>none
 |q+1,g,j,k,l,m,n=>
 cond (decide (g<(↑c.A.length:Int))) (
 (GS N (⟨c,d,(⟨o.B,j,k,b.2.1,b.2.2.1,i.2.1,l⟩:BD),m,b.2.2.2,n⟩:A4) g).bind λa=>
 EY N c d o i b p q (B0 (g+1)) a.1 a.2.1 a.2.2.1 a.2.2.2.1 a.2.2.2.2) (
 p j k l m n)
def Gz (N:Nat) (a:AU) (j:BD) (c:Eb):Option (BD×(List BA)×(List Int)):=
 (JS N j).bind λb=>
 chk (Jh (↑a.A.length:Int) (↑a.A.length:Int) 8) <|
 (GR N (⟨a,c,b,([]:List BA),(List.replicate ((↑a.A.length:Int):Int).toNat (0:Int)),([]:List BE)⟩:A4)).bind λg=>
 (FY N (⟨a,c,({ b with Q:=g}:BD),([]:List BA),(List.replicate ((↑a.A.length:Int):Int).toNat (0:Int)),([]:List BE)⟩:A4)).bind λk=>
 (IQ N (⟨a,c,(⟨b.B,k,b.M,b.J,g,b.O,b.P⟩:BD),([]:List BA),(List.replicate ((↑a.A.length:Int):Int).toNat (0:Int)),([]:List BE)⟩:A4)).bind λd=>
 (Ex N (⟨a,c,(⟨b.B,d.1,b.M,b.J,g,d.2.1,b.P⟩:BD),d.2.2,(List.replicate ((↑a.A.length:Int):Int).toNat (0:Int)),([]:List BE)⟩:A4)).bind λi=>
 EY N a c b d i (EZ N b d i) N 0 i.1 b.M b.P d.2.2 ([]:List BE)
def Hn (N:Nat):Option Bool:=
 some true
def Gg (N:Nat) (a:(List Int)) (b:(List Int)) (c:Option Bool):Nat→Int→Option Bool
 |0,_=>none
 |j+1,d=>
 cond (decide (d<(↑a.length:Int))) (
 (ix a d).bind λg=>
 (ix b d).bind λi=>
 cond (decide (g≠i)) (
 some false) (
 Gg N a b c j (B0 (d+1)))) (
 c)
def DW (N:Nat) (a:(List Int)) (b:(List Int)):Option Bool:=
 cond (decide ((↑a.length:Int)≠(↑b.length:Int))) (
 some false) (
 Gg N a b (Hn N) N 0)
def H4 (N:Nat) (a:(List Int)) (c1_:(List Int)):Nat→Int→(List Int)→Option (List Int)
 |0,_,_=>none
 |j+1,b,c=>
 cond (decide (b<(min (↑c1_.length:Int) (↑a.length:Int)))) (
 (ix c b).bind λk=>
 (ix c b).bind λd=>
 (ix a b).bind λg=>
 (Gc N d g).bind λi=>
 (ix c b).bind λl=>
 (ix c b).bind λm=>
 H4 N a c1_ j (B0 (b+1)) (upd c b i)) (
 some c)
def Jw (N:Nat) (c1_:(List Int)) (a:(List Int)):Option (List Int):=
 H4 N a c1_ N 0 c1_
def Iq (N:Nat) (a:BD) (c:(List Int)→Option (List Int)):Nat→Int→(List Int)→Option (List Int)
 |0,_,_=>none
 |j+1,b,d=>
 cond (decide (b<(↑a.J.length:Int))) (
 (ix a.J b).bind λi=>
 (Jw N d i.X).bind λg=>
 Iq N a c j (B0 (b+1)) g) (
 c d)
def Jb (N:Nat) (a:List Int):Option (List Int):=
 some a
def Jc (N:Nat) (a:BD) (b:List Int):Option (List Int):=
 Iq N a (Jb N) N 0 b
def Ir (N:Nat) (a:BD) (c:(List Int)→Option (List Int)):Nat→Int→(List Int)→Option (List Int)
 |0,_,_=>none
 |j+1,b,d=>
 cond (decide (b<(↑a.G.length:Int))) (
 (ix a.G b).bind λg=>
 (Jw N d g).bind λi=>
 Ir N a c j (B0 (b+1)) i) (
 c d)
def MH (N:Nat) (a:BD):Option (List Int):=
 chk (Jh (↑a.O.length:Int) (↑a.O.length:Int) 8) <|
 Ir N a (Jc N a) N 0 (List.replicate ((↑a.O.length:Int):Int).toNat (0:Int))
def D4 (N:Nat):Option Bool:=
 some true
def DE (N:Nat) (a:(List (List Int))) (b:(List (List Int))) (c:(((List Int)×(List Int))→Option Bool)) (g:Option Bool):Nat→Int→Option Bool
 |0,_=>none
 |l+1,d=>
 cond (decide (d<(↑a.length:Int))) (
 (ix a d).bind λi=>
 (ix b d).bind λj=>
 (c (i,j)).bind λk=>
 cond (!k) (
 some false) (
 DE N a b c g l (B0 (d+1)))) (
 g)
def Fv (N:Nat) (a:(List (List Int))) (b:(List (List Int))) (c:(((List Int)×(List Int))→Option Bool)):Option Bool:=
 cond (decide ((↑a.length:Int)≠(↑b.length:Int))) (
 some false) (
 DE N a b c (D4 N) N 0)
def Ge (N:Nat):Option Bool:=
 some true
def FM (N:Nat) (a:(List Int)) (b:(List Int)) (c:Option Bool):Nat→Int→Option Bool
 |0,_=>none
 |j+1,d=>
 cond (decide (d<(↑a.length:Int))) (
 (ix a d).bind λg=>
 (ix b d).bind λi=>
 cond (decide (g≠i)) (
 some false) (
 FM N a b c j (B0 (d+1)))) (
 c)
def Dr (N:Nat) (a:(List Int)) (b:(List Int)):Option Bool:=
 cond (decide ((↑a.length:Int)≠(↑b.length:Int))) (
 some false) (
 FM N a b (Ge N) N 0)
def BZ (N:Nat):Option Bool:=
 some true
def BO (N:Nat) (a:(List BE)) (b:(List BE)) (c:((BE×BE)→Option Bool)) (g:Option Bool):Nat→Int→Option Bool
 |0,_=>none
 |l+1,d=>
 cond (decide (d<(↑a.length:Int))) (
 (ix a d).bind λi=>
 (ix b d).bind λj=>
 (c (i,j)).bind λk=>
 cond (!k) (
 some false) (
 BO N a b c g l (B0 (d+1)))) (
 g)
def CH (N:Nat) (a:(List BE)) (b:(List BE)) (c:((BE×BE)→Option Bool)):Option Bool:=
 cond (decide ((↑a.length:Int)≠(↑b.length:Int))) (
 some false) (
 BO N a b c (BZ N) N 0)
def C2 (N:Nat):Option Bool:=
 some true
def CT (N:Nat) (a:(List BH)) (b:(List BH)) (c:Option Bool):Nat→Int→Option Bool
 |0,_=>none
 |j+1,d=>
 cond (decide (d<(↑a.length:Int))) (
 (ix a d).bind λg=>
 (ix b d).bind λi=>
 cond (!(X7 g.v i.v)) (
 some false) (
 CT N a b c j (B0 (d+1)))) (
 c)
def D3 (N:Nat) (a:(List BH)) (b:(List BH)):Option Bool:=
 cond (decide ((↑a.length:Int)≠(↑b.length:Int))) (
 some false) (
 CT N a b (C2 N) N 0)
def Ja (N:Nat) (a:BE) (b:BE):Option Bool:=
 (cond ((decide (a.Ad=b.Ad))&&(decide (a.D=b.D))) ((Dr N a.X b.X).bind λc=>
 some c) (some false)).bind λd=>
 some d
def Lc (N:Nat) (a:BD) (b:BD):Option Bool:=
 (cond (decide (a.B=b.B)) ((Fv N a.G b.G (λx=>Dr N x.1 x.2)).bind λc=>
 some c) (some false)).bind λd=>
 (cond d ((Dr N a.M b.M).bind λg=>
 some g) (some false)).bind λi=>
 (cond i ((CH N a.J b.J (λx=>Ja N x.1 x.2)).bind λj=>
 some j) (some false)).bind λk=>
 (cond k ((D3 N a.Q b.Q).bind λl=>
 some l) (some false)).bind λm=>
 (cond m ((Dr N a.O b.O).bind λn=>
 some n) (some false)).bind λo=>
 (cond o ((Dr N a.P b.P).bind λp=>
 some p) (some false)).bind λq=>
 some q
def HH (N:Nat):Option Bool:=
 (JB N).bind λo=>
 (Ig N o 5).bind λc=>
 (HY N o).bind λad=>
 (cond (!ad) (some true) ((Fs N o c).bind λp=>
 some (!p))).bind λae=>
 cond (ae||(decide ((↑c.G.length:Int)≠1))) (
 some false) (
 (Gz N o c (⟨[],[],[],[],[]⟩:Eb)).bind λa=>
 (Gz N o c (⟨[],[],[],([(⟨0,1,60,(-1)⟩:Gh)]:List Gh),[]⟩:Eb)).bind λb=>
 cond ((((decide ((↑a.2.1.length:Int)≠2))||(decide ((↑b.2.1.length:Int)≠2)))||(decide ((↑a.1.G.length:Int)≠1)))||(decide ((↑b.1.G.length:Int)≠1))) (
 some false) (
 (ix a.2.1 0).bind λaf=>
 (ix a.2.1 0).bind λq=>
 (cond (decide (q.Bf=(-1))) ((ix a.2.1 0).bind λag=>
 (ix a.2.1 0).bind λs=>
 (DW N s.X ([10,5]:List Int)).bind λt=>
 some t) (some false)).bind λu=>
 (cond u ((ix a.2.1 1).bind λah=>
 (ix a.2.1 1).bind λv=>
 some (decide (v.Bf=(-2)))) (some false)).bind λw=>
 (cond w ((ix a.2.1 1).bind λai=>
 (ix a.2.1 1).bind λx=>
 (DW N x.X ([10,5]:List Int)).bind λy=>
 some y) (some false)).bind λz=>
 (cond z ((DW N a.2.2 ([150]:List Int)).bind λA=>
 some A) (some false)).bind λC=>
 (ix a.1.G 0).bind λD=>
 (DW N D ([80,40]:List Int)).bind λF=>
 (cond F ((DW N a.1.P ([20,10]:List Int)).bind λH=>
 some H) (some false)).bind λI=>
 (cond I (some (decide (a.1.B=6))) (some false)).bind λJ=>
 (cond J ((MH N a.1).bind λK=>
 (DW N K ([80,40]:List Int)).bind λM=>
 some M) (some false)).bind λQ=>
 (ix b.2.1 0).bind λaj=>
 (ix b.2.1 0).bind λU=>
 (cond (decide (U.Bf=(-3))) ((ix b.2.1 0).bind λak=>
 (ix b.2.1 0).bind λV=>
 (DW N V.X ([0,50]:List Int)).bind λW=>
 some W) (some false)).bind λY=>
 (cond Y ((ix b.2.1 1).bind λal=>
 (ix b.2.1 1).bind λZ=>
 (DW N Z.X ([15,0]:List Int)).bind λaa=>
 some aa) (some false)).bind λab=>
 (cond ab ((ix b.1.G 0).bind λac=>
 (DW N ac ([85,0]:List Int)).bind λd=>
 some d) (some false)).bind λg=>
 (cond ((C&&Q)&&g) ((Lc N c c).bind λi=>
 some i) (some false)).bind λj=>
 (cond j ((Lc N c a.1).bind λk=>
 some (!k)) (some false)).bind λl=>
 (cond l ((Fs N o a.1).bind λm=>
 some m) (some false)).bind λn=>
 some n))
def I2 (N:Nat) (b:AU) (c:BD) (a:Eb):Option Bool:=
 cond ((((decide (6<(↑b.A.length:Int)))||(decide (6<(↑b.E.length:Int))))||(decide (4<(↑b.H.length:Int))))||(decide (12<(↑c.J.length:Int)))) (
 some false) (
 some (((((decide ((↑a.Aa.length:Int)≤8))&&(decide ((↑a.Am.length:Int)≤8)))&&(decide ((↑a.Ar.length:Int)≤8)))&&(decide ((↑a.Ae.length:Int)≤8)))&&(decide ((↑a.Az.length:Int)≤8))))
def Ii (N:Nat) (a:AU) (b:BD) (c:Eb):Option Bool:=
 (I2 N a b c).bind λd=>
 (cond d ((HY N a).bind λg=>
 some g) (some false)).bind λi=>
 (cond i ((Fs N a b).bind λj=>
 some j) (some false)).bind λk=>
 some k
def GH (N:Nat) (a:Int):Option Int:=
 some a
def EK (N:Nat) (a:(List Int)) (b:Int→Option Int):Nat→Int→Int→Option Int
 |0,_,_=>none
 |i+1,g,c=>
 cond (decide (c<(↑a.length:Int))) (
 (ix a c).bind λd=>
 EK N a b i (B0 (g+d)) (B0 (c+1))) (
 b g)
def H7 (N:Nat) (a:(List Int)):Option Int:=
 EK N a (GH N) N 0 0
def E2 (N:Nat) (a:AU) (b:BD) (i:Bool):Option Bool:=
 (cond i ((Ig N a b.B).bind λc=>
 (Fs N a c).bind λd=>
 some d) (some false)).bind λg=>
 some g
def Cx (N:Nat) (b:AU) (c:BD×(List BA)×(List Int)) (g:Option Bool):Nat→Int→Option Bool
 |0,_=>none
 |n+1,a=>
 cond (decide (a<(↑b.A.length:Int))) (
 (ix c.1.G a).bind λi=>
 (H7 N i).bind λd=>
 (ix b.A a).bind λj=>
 (cond (decide (j.Aj<d)) (some true) ((ix c.2.2 a).bind λm=>
 (ix c.2.2 a).bind λk=>
 some (decide (k<d)))).bind λl=>
 cond l (
 some false) (
 Cx N b c g n (B0 (a+1)))) (
 g)
def GI (N:Nat) (a:AU) (b:BD) (c:Eb):Option Bool:=
 (HH N).bind λg=>
 (Ii N a b c).bind λi=>
 cond ((!i)||(decide (16777216≤b.B))) (
 some g) (
 (Gz N a b c).bind λd=>
 (Fs N a d.1).bind λj=>
 cond (((!j)||(decide (d.1.B≠(B0 (b.B+1)))))||(decide ((↑d.2.2.length:Int)≠(↑a.A.length:Int)))) (
 some false) (
 Cx N a d (E2 N a b g) N 0))
end Go.Proofs.YtblcgjadhemlbaaGreat
