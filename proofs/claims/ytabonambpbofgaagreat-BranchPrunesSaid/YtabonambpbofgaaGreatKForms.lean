import Derived.Test.YtabonambpbofgaaGreatKReps
import Derived.Test.YtabonambpbofgaaGreatKInst
import Derived.Test.YtabonambpbofgaaGreatKSortD
namespace Go.Proofs.YtabonambpbofgaaGreat
set_option linter.all false
open Go.RowKit
def Kb (N:Nat):Option AF:=
 some (⟨(ByteArray.mk #[98]),([(ByteArray.mk #[111])]:List ByteArray),0,PY,[],[],[],[],[],([0,0,0]:List Int),0⟩:AF)
def BK (N:Nat) (a:(List Int)):Option (List Int):=
 chk (Ha (([]:List Int).length+a.length) 8) <|
 some (([]:List Int)++a)
def Kr (N:Nat) (a:AF) (b:Int) (c:List (List Int)):Option AI:=
 some (⟨b,c,(List.replicate ((↑a.A.length:Int):Int).toNat (0:Int)),[],(List.replicate ((↑a.C.length:Int):Int).toNat ((⟨0,0,false,false⟩:A4):A4)),(List.replicate ((↑a.H.length:Int):Int).toNat (0:Int)),(List.replicate ((↑a.H.length:Int):Int).toNat (0:Int))⟩:AI)
def J2 (N:Nat) (c:AF) (d:(List (List Int))→Option AI):Nat→Int→(List (List Int))→Option AI
 |0,_,_=>none
 |l+1,a,b=>
 cond (decide (a<(↑c.A.length:Int))) (
 (ix c.A a).bind λg=>
 (BK N g.An).bind λi=>
 (ix b a).bind λj=>
 (ix b a).bind λk=>
 J2 N c d l (BQ (a+1)) (upd b a i)) (
 d b)
def N9 (N:Nat) (a:AF) (b:Int):Option AI:=
 chk (LI (↑a.A.length:Int) (↑a.A.length:Int) 24) <|
 chk (LI (↑a.A.length:Int) (↑a.A.length:Int) 8) <|
 chk (LI (↑a.C.length:Int) (↑a.C.length:Int) 24) <|
 chk (LI (↑a.H.length:Int) (↑a.H.length:Int) 8) <|
 chk (LI (↑a.H.length:Int) (↑a.H.length:Int) 8) <|
 J2 N a (Kr N a b) N 0 (List.replicate ((↑a.A.length:Int):Int).toNat ([]:(List Int)))
def DJ (N:Nat) (c:Int) (b:Int) (a:Int):Option Bool:=
 some ((decide (b≤c))&&(decide (c≤a)))
def DA (N:Nat) (a:Int):Option Bool:=
 (DJ N a 0 1125899906842624).bind λb=>
 some b
def FA (N:Nat) (a:AF) (c:Option Bool):Nat→Int→Option Bool
 |0,_=>none
 |i+1,b=>
 cond (decide (b<(↑a.Aj.length:Int))) (
 (ix a.Aj b).bind λd=>
 (DA N d).bind λg=>
 cond (!g) (
 some false) (
 FA N a c i (BQ (b+1)))) (
 c)
def HM (N:Nat):Option Bool:=
 some true
def FC (N:Nat) (a:AF):Option Bool:=
 FA N a (HM N) N 0
def FB (N:Nat) (a:AF) (d:Option Bool):Nat→Int→Option Bool
 |0,_=>none
 |g+1,c=>
 cond (decide (c<(↑a.E.size:Int))) (
 (YY a.E c).bind λb=>
 cond ((((decide (b<32))||(decide (126<b)))||(decide (b=34)))||(decide (b=92))) (
 some false) (
 FB N a d g (BQ (c+1)))) (
 d)
def IB (N:Nat) (a:AF):Option Bool:=
 (cond (decide (500<(↑a.E.size:Int))) (some true) ((DJ N (↑a.H.length:Int) 1 16).bind λb=>
 some (!b))).bind λc=>
 (cond c (some true) ((DJ N a.J 0 64).bind λd=>
 some (!d))).bind λg=>
 (cond g (some true) ((DJ N (↑a.A.length:Int) 1 64).bind λi=>
 some (!i))).bind λj=>
 (cond ((((((j||(decide (96<(↑a.C.length:Int))))||(decide (40<(↑a.Af.length:Int))))||(decide (128<(↑a.Ah.length:Int))))||(decide (128<(↑a.Ai.length:Int))))||(decide (40<(↑a.Ak.length:Int))))||(decide ((↑a.Aj.length:Int)≠3))) (some true) ((DJ N a.K 0 1099511627776).bind λk=>
 some (!k))).bind λl=>
 cond l (
 some false) (
 FB N a (FC N a) N 0)
def IC (N:Nat):Option Bool:=
 some true
def Gj (N:Nat) (a:ByteArray) (d:Option Bool):Nat→Int→Option Bool
 |0,_=>none
 |g+1,c=>
 cond (decide (c<(↑a.size:Int))) (
 (YY a c).bind λb=>
 cond ((((decide (b<97))||(decide (122<b)))&&((decide (b<48))||(decide (57<b))))&&(decide (b≠95))) (
 some false) (
 Gj N a d g (BQ (c+1)))) (
 d)
def KI (N:Nat) (a:ByteArray):Option Bool:=
 (cond (((decide ((↑a.size:Int)<1))||(decide (24<(↑a.size:Int))))||(a==(ByteArray.mk #[111,117,116]))) (some true) ((YY a 0).bind λb=>
 some (decide (b<97)))).bind λc=>
 (cond c (some true) ((YY a 0).bind λd=>
 some (decide (122<d)))).bind λg=>
 cond g (
 some false) (
 Gj N a (IC N) N 1)
def Ih (N:Nat) (a:(List (AG×Bool))) (b:ByteArray) (d:ByteArray):Option (Bool×(List (AG×Bool))):=
 (KI N b).bind λc=>
 cond ((!c)||((Li (λk:AG=>Value.agg (AG.v k).toArray) a (⟨d,b⟩:AG)).getD false)) (
 some (false,a)) (
 some (true,(OU (λk:AG=>Value.agg (AG.v k).toArray) a (⟨d,b⟩:AG) true)))
def Kj (N:Nat) (a:(List (AG×Bool))) (b:ByteArray) (c:ByteArray):Option (Bool×(List (AG×Bool))):=
 cond (b==(ByteArray.mk #[115,104,101,108,116,101,114])) (
 Ih N a c (ByteArray.mk #[116,111,119,110])) (
 Ih N a c b)
def Dt (N:Nat) (c2_:(List (AG×Bool))) (c3_:Bool) (a:ByteArray) (b:ByteArray):Option ((List (AG×Bool))×Bool):=
 (Kj N c2_ a b).bind λc=>
 some (c.2,(c.1&&c3_))
def EK (N:Nat) (a:AF) (d:Bool→((List (AG×Bool)))→Option Bool):Nat→Int→Bool→((List (AG×Bool)))→Option Bool
 |0,_,_,_=>none
 |k+1,c,g,i=>
 cond (decide (c<(↑a.A.length:Int))) (
 (ix a.A c).bind λj=>
 (Dt N i g (ByteArray.mk #[112,108,97,99,101]) j.E).bind λb=>
 EK N a d k (BQ (c+1)) b.2 b.1) (
 d g i)
def EJ (N:Nat) (a:AF) (i:Bool→((List (AG×Bool)))→Option Bool):Nat→Int→Bool→((List (AG×Bool)))→Option Bool
 |0,_,_,_=>none
 |k+1,b,c,d=>
 cond (decide (b<(↑a.C.length:Int))) (
 (ix a.C b).bind λj=>
 (Dt N d c (ByteArray.mk #[108,105,110,107]) j.E).bind λg=>
 EJ N a i k (BQ (b+1)) g.2 g.1) (
 i c d)
def EI (N:Nat) (a:AF) (i:Bool→((List (AG×Bool)))→Option Bool):Nat→Int→Bool→((List (AG×Bool)))→Option Bool
 |0,_,_,_=>none
 |k+1,b,c,d=>
 cond (decide (b<(↑a.Af.length:Int))) (
 (ix a.Af b).bind λj=>
 (Dt N d c (ByteArray.mk #[116,111,119,110]) j.E).bind λg=>
 EI N a i k (BQ (b+1)) g.2 g.1) (
 i c d)
def EH (N:Nat) (a:AF) (i:Bool→((List (AG×Bool)))→Option Bool):Nat→Int→Bool→((List (AG×Bool)))→Option Bool
 |0,_,_,_=>none
 |k+1,b,c,d=>
 cond (decide (b<(↑a.Ak.length:Int))) (
 (ix a.Ak b).bind λj=>
 (Dt N d c (ByteArray.mk #[115,104,101,108,116,101,114]) j.E).bind λg=>
 EH N a i k (BQ (b+1)) g.2 g.1) (
 i c d)
def D7 (N:Nat) (a:AF) (c:Bool→((List (AG×Bool)))→Option Bool):Nat→Int→Bool→((List (AG×Bool)))→Option Bool
 |0,_,_,_=>none
 |k+1,b,d,g=>
 cond (decide (b<(↑a.Ah.length:Int))) (
 (ix a.Ah b).bind λj=>
 (Dt N g d (ByteArray.mk #[103,97,117,103,101]) j.E).bind λi=>
 D7 N a c k (BQ (b+1)) i.2 i.1) (
 c d g)
def D6 (N:Nat) (a:AF) (c:Bool→Option Bool):Nat→Int→Bool→((List (AG×Bool)))→Option Bool
 |0,_,_,_=>none
 |k+1,b,d,i=>
 cond (decide (b<(↑a.Ai.length:Int))) (
 (ix a.Ai b).bind λj=>
 (Dt N i d (ByteArray.mk #[114,111,97,100]) j.E).bind λg=>
 D6 N a c k (BQ (b+1)) g.2 g.1) (
 c d)
def FH (N:Nat) (a:Bool):Option Bool:=
 some a
def FI (N:Nat) (a:AF) (b:Bool) (c:(List (AG×Bool))):Option Bool:=
 D6 N a (FH N) N 0 b c
def Fk (N:Nat) (a:AF) (b:Bool) (c:(List (AG×Bool))):Option Bool:=
 D7 N a (FI N a) N 0 b c
def Fl (N:Nat) (a:AF) (b:Bool) (c:(List (AG×Bool))):Option Bool:=
 EH N a (Fk N a) N 0 b c
def Fm (N:Nat) (a:AF) (b:Bool) (c:(List (AG×Bool))):Option Bool:=
 EI N a (Fl N a) N 0 b c
def Fo (N:Nat) (a:AF) (b:Bool) (c:(List (AG×Bool))):Option Bool:=
 EJ N a (Fm N a) N 0 b c
def Fp (N:Nat) (a:AF) (b:Bool) (c:(List (AG×Bool))):Option Bool:=
 EK N a (Fo N a) N 0 b c
def EL (N:Nat) (a:AF) (c:Bool→((List (AG×Bool)))→Option Bool):Nat→Int→Bool→((List (AG×Bool)))→Option Bool
 |0,_,_,_=>none
 |k+1,b,d,g=>
 cond (decide (b<(↑a.H.length:Int))) (
 (ix a.H b).bind λj=>
 (Dt N g d (ByteArray.mk #[111,119,110,101,114]) j).bind λi=>
 EL N a c k (BQ (b+1)) i.2 i.1) (
 c d g)
def Jz (N:Nat) (a:AF):Option Bool:=
 EL N a (Fp N a) N 0 true ([]:(List (AG×Bool)))
def Hs (N:Nat):Option Bool:=
 some true
def FZ (N:Nat) (a:(List By)) (d:Option Bool):Nat→Int→Option Bool
 |0,_=>none
 |l+1,c=>
 cond (decide (c<(↑a.length:Int))) (
 (ix a c).bind λb=>
 cond ((((decide (b.Q<0))||(decide (1125899906842624<b.Q)))||(decide (b.X<0)))||(decide (1125899906842624<b.X))) (
 some false) (
 (cond (decide (0<c)) ((ix a (BQ (c-1))).bind λg=>
 (cond (decide (b.Q≤g.Q)) (some true) ((ix a (BQ (c-1))).bind λi=>
 some (decide (b.X<i.X)))).bind λj=>
 some j) (some false)).bind λk=>
 cond k (
 some false) (
 FZ N a d l (BQ (c+1))))) (
 d)
def Fa (N:Nat) (a:(List By)):Option Bool:=
 cond ((decide ((↑a.length:Int)<1))||(decide (32<(↑a.length:Int)))) (
 some false) (
 FZ N a (Hs N) N 0)
def Ht (N:Nat) (a:Int) (b:Int):Option Bool:=
 (DA N a).bind λc=>
 (cond c ((DA N b).bind λd=>
 some d) (some false)).bind λg=>
 some (g&&((decide (b≠0))||(decide (a=0))))
def GG (N:Nat) (b:Int) (a:Int):Option Bool:=
 (DJ N b 0 (BQ (a-1))).bind λc=>
 some c
def Jq (N:Nat) (c:AF) (b:Int) (a:Int):Option Bool:=
 (cond (decide (a=(-1))) (some true) ((GG N a (↑c.A.length:Int)).bind λd=>
 some (d&&(decide (a≠b))))).bind λg=>
 some g
def CT (N:Nat) (a:Int):Option Bool:=
 some (decide (a≤1125899906842624))
def DP (N:Nat) (d:Cp) (g:Int→Option Bool):Nat→Int→Int→Option Bool
 |0,_,_=>none
 |j+1,b,a=>
 cond (decide (a<(↑d.An.length:Int))) (
 (ix d.An a).bind λc=>
 (DA N c).bind λi=>
 cond (!i) (
 some false) (
 DP N d g j (BQ (b+c)) (BQ (a+1)))) (
 g b)
def Cn (N:Nat) (c:AF) (g:Cp) (d:Int) (i:Int→Option Bool):Nat→Int→Int→Option Bool
 |0,_,_=>none
 |m+1,j,b=>
 cond (decide (b<(↑g.T.length:Int))) (
 (ix g.T b).bind λa=>
 (cond ((decide (a.Bf≤j))||(decide (c.J≤a.Bf))) (some true) ((DA N a.Bq).bind λk=>
 some (!k))).bind λl=>
 cond l (
 some false) (
 Cn N c g d i m a.Bf (BQ (b+1)))) (
 i d)
def FG (N:Nat) (a:AF) (c:Cp) (d:Int→Option Bool) (b:Int):Option Bool:=
 Cn N a c b d N (-1) 0
def DC (N:Nat) (a:Int) (b:Int→Int→Option Bool) (c:Int):Option Bool:=
 b c (BQ (a+1))
def B7 (N:Nat) (b:AF) (d:Int→Option Bool):Nat→Int→Int→Option Bool
 |0,_,_=>none
 |y+1,g,c=>
 cond (decide (c<(↑b.A.length:Int))) (
 (ix b.A c).bind λa=>
 (DJ N a.F 0 3).bind λj=>
 (cond (!j) (some true) ((DJ N a.Au 0 2).bind λk=>
 some (!k))).bind λl=>
 (cond l (some true) ((DJ N a.R 0 240).bind λm=>
 some (!m))).bind λn=>
 (cond n (some true) ((DA N a.Av).bind λo=>
 some (!o))).bind λp=>
 (cond p (some true) ((DA N a.Bg).bind λq=>
 some (!q))).bind λs=>
 (cond s (some true) ((Fa N a.Bl).bind λt=>
 some (!t))).bind λu=>
 (cond (u||(decide ((↑a.An.length:Int)≠(↑b.H.length:Int)))) (some true) ((Ht N a.Y a.S).bind λv=>
 some (!v))).bind λw=>
 (cond w (some true) ((Jq N b c a.Ao).bind λi=>
 some (!i))).bind λx=>
 cond x (
 some false) (
 DP N a (FG N b a (DC N c (B7 N b d y))) N g 0)) (
 d g)
def HZ (N:Nat) (a:AF):Option Bool:=
 B7 N a (CT N) N 0 0
def Jl (N:Nat) (a:Int):Option Int:=
 some a
def HD (N:Nat) (b:(Int→Option Bool)) (d:Int→Option Int):Nat→Int→Int→Option Int
 |0,_,_=>none
 |i+1,a,c=>
 cond (decide (a<c)) (
 (b (BQ (Fq .u64 (IntKind.wrap .u64 (BQ (a+c))) 1))).bind λg=>
 cond (!g) (
 HD N b d i (BQ ((BQ (Fq .u64 (IntKind.wrap .u64 (BQ (a+c))) 1))+1)) c) (
 HD N b d i a (BQ (Fq .u64 (IntKind.wrap .u64 (BQ (a+c))) 1)))) (
 d a)
def L0 (N:Nat) (a:Int) (b:(Int→Option Bool)):Option Int:=
 HD N b (Jl N) N 0 a
def JM (N:Nat) (b:(List By)) (c2_:Int) (a:Int):Option Bool:=
 (ix b a).bind λc=>
 some (decide (c2_<c.Q))
def IA (N:Nat) (a:Int) (b:Int):Option (Int×Int):=
 some ((IntKind.wrap .u64 ((IntKind.wrap .u64 ((IntKind.wrap .u64 ((Fq .u64 a 32)*(Fq .u64 b 32)))+(Fq .u64 (IntKind.wrap .u64 ((IntKind.wrap .u64 ((Fq .u64 a 32)*(I5 .and .u64 b 4294967295)))+(Fq .u64 (IntKind.wrap .u64 ((I5 .and .u64 a 4294967295)*(I5 .and .u64 b 4294967295))) 32))) 32)))+(Fq .u64 (IntKind.wrap .u64 ((I5 .and .u64 (IntKind.wrap .u64 ((IntKind.wrap .u64 ((Fq .u64 a 32)*(I5 .and .u64 b 4294967295)))+(Fq .u64 (IntKind.wrap .u64 ((I5 .and .u64 a 4294967295)*(I5 .and .u64 b 4294967295))) 32))) 4294967295)+(IntKind.wrap .u64 ((I5 .and .u64 a 4294967295)*(Fq .u64 b 32))))) 32))),(IntKind.wrap .u64 (a*b)))
def HE (N:Nat) (a:Int) (b:Int):Option Int:=
 (YY NW (IntKind.wrap .u8 a)).bind λc=>
 some (BQ (b+(BQ c)))
def HG (N:Nat) (a:Int) (b:Int):Option Int:=
 cond (decide (256≤a)) (
 HE N (Fq .u64 a 8) (BQ (b+8))) (
 HE N a b)
def HH (N:Nat) (a:Int) (b:Int):Option Int:=
 cond (decide (65536≤a)) (
 HG N (Fq .u64 a 16) (BQ (b+16))) (
 HG N a b)
def JR (N:Nat) (a:Int):Option Int:=
 cond (decide (4294967296≤a)) (
 HH N (Fq .u64 a 32) 32) (
 HH N a 0)
def GB (N:Nat) (a:Int):Option Int:=
 (JR N a).bind λb=>
 some (BQ (64-b))
def ET (N:Nat) (b:Int) (a:Int) (d:Nat) (j:Nat) (g:Int→Option (Int×Int)):Nat→Int→Int→Option (Int×Int)
 |0,_,_=>none
 |k+1,i,c=>
 cond ((decide (4294967296≤c))||(decide ((IntKind.wrap .u64 ((IntKind.wrap .u64 (4294967296*i))+(I5 .and .u64 (Eg .u64 b j) 4294967295)))<(IntKind.wrap .u64 (c*(I5 .and .u64 (Eg .u64 a d) 4294967295)))))) (
 cond (decide (4294967296≤(IntKind.wrap .u64 (i+(Fq .u64 (Eg .u64 a d) 32))))) (
 g (IntKind.wrap .u64 (c-1))) (
 ET N b a d j g k (IntKind.wrap .u64 (i+(Fq .u64 (Eg .u64 a d) 32))) (IntKind.wrap .u64 (c-1)))) (
 g c)
def GC (N:Nat) (c:Int) (a:Int) (b:Int) (n:Int) (d:Nat) (k:Nat) (l:Nat) (g:Nat) (i:Int) (j:Int):Option (Int×Int):=
 (QK (IntKind.wrap .u64 n)).bind λm=>
 some ((IntKind.wrap .u64 ((IntKind.wrap .u64 (i*4294967296))+j)),(Fq .u64 (IntKind.wrap .u64 ((IntKind.wrap .u64 ((IntKind.wrap .u64 ((IntKind.wrap .u64 ((IntKind.wrap .u64 ((IntKind.wrap .u64 ((I5 .or .u64 (Eg .u64 c k) (Fq .u64 a l))*4294967296))+(Fq .u64 (Eg .u64 a g) 32)))-(IntKind.wrap .u64 (i*(Eg .u64 b d)))))*4294967296))+(I5 .and .u64 (Eg .u64 a g) 4294967295)))-(IntKind.wrap .u64 (j*(Eg .u64 b d))))) m))
def EU (N:Nat) (c:Int) (a:Int) (b:Int) (m:Int) (d:Nat) (i:Nat) (j:Nat) (g:Nat) (k:Int):Option (Int×Int):=
 (R6 .u64 (IntKind.wrap .u64 ((IntKind.wrap .u64 ((IntKind.wrap .u64 ((I5 .or .u64 (Eg .u64 c i) (Fq .u64 a j))*4294967296))+(Fq .u64 (Eg .u64 a g) 32)))-(IntKind.wrap .u64 (k*(Eg .u64 b d))))) (Fq .u64 (Eg .u64 b d) 32)).bind λl=>
 ET N a b d g (GC N c a b m d i j g k) N (IntKind.wrap .u64 ((IntKind.wrap .u64 ((IntKind.wrap .u64 ((IntKind.wrap .u64 ((I5 .or .u64 (Eg .u64 c i) (Fq .u64 a j))*4294967296))+(Fq .u64 (Eg .u64 a g) 32)))-(IntKind.wrap .u64 (k*(Eg .u64 b d)))))-(IntKind.wrap .u64 (l*(Fq .u64 (Eg .u64 b d) 32))))) l
def EB (N:Nat) (b:Int) (a:Int) (d:Nat) (j:Nat) (g:Int→Option (Int×Int)):Nat→Int→Int→Option (Int×Int)
 |0,_,_=>none
 |k+1,c,i=>
 cond ((decide (4294967296≤c))||(decide ((IntKind.wrap .u64 ((IntKind.wrap .u64 (4294967296*i))+(Fq .u64 (Eg .u64 b j) 32)))<(IntKind.wrap .u64 (c*(I5 .and .u64 (Eg .u64 a d) 4294967295)))))) (
 cond (decide (4294967296≤(IntKind.wrap .u64 (i+(Fq .u64 (Eg .u64 a d) 32))))) (
 g (IntKind.wrap .u64 (c-1))) (
 EB N b a d j g k (IntKind.wrap .u64 (c-1)) (IntKind.wrap .u64 (i+(Fq .u64 (Eg .u64 a d) 32))))) (
 g c)
def Gi (N:Nat) (c:Int) (b:Int) (a:Int):Option (Int×Int):=
 cond (decide (a=0)) (
 none) (
 cond (decide (a≤c)) (
 none) (
 cond (decide (c=0)) (
 (R6 .u64 b a).bind λm=>
 (Uk b a).bind λn=>
 some (m,n)) (
 (GB N a).bind λj=>
 (QK (IntKind.wrap .u64 j)).bind λd=>
 (QK (IntKind.wrap .u64 j)).bind λg=>
 (QK (IntKind.wrap .u64 (64-(IntKind.wrap .u64 j)))).bind λi=>
 (QK (IntKind.wrap .u64 j)).bind λk=>
 (R6 .u64 (I5 .or .u64 (Eg .u64 c g) (Fq .u64 b i)) (Fq .u64 (Eg .u64 a d) 32)).bind λl=>
 EB N b a d k (EU N c b a j d g i k) N l (IntKind.wrap .u64 ((I5 .or .u64 (Eg .u64 c g) (Fq .u64 b i))-(IntKind.wrap .u64 (l*(Fq .u64 (Eg .u64 a d) 32))))))))
def Gv (N:Nat) (c:Int) (b:Int) (a:Int):Option (Int×Int×Bool):=
 cond ((((((decide (c<0))||(decide (1125899906842624<c)))||(decide (b<0)))||(decide (1125899906842624<b)))||(decide (a<1)))||(decide (1125899906842624<a))) (
 some (0,0,false)) (
 (IA N (IntKind.wrap .u64 c) (IntKind.wrap .u64 b)).bind λg=>
 cond (decide ((IntKind.wrap .u64 a)≤g.1)) (
 some (0,0,false)) (
 (Gi N g.1 g.2 (IntKind.wrap .u64 a)).bind λd=>
 cond (decide (1125899906842624<d.1)) (
 some (0,0,false)) (
 some ((BQ d.1),(BQ d.2),true))))
def Jd (N:Nat) (a:(List By)) (d:Int):Option (Int×Bool):=
 (L0 N (↑a.length:Int) (λx=>JM N a d x)).bind λb=>
 cond (decide (b=0)) (
 (ix a 0).bind λi=>
 some (i.X,false)) (
 (ix a (BQ (b-1))).bind λc=>
 cond (decide (b=(↑a.length:Int))) (
 some (c.X,false)) (
 (ix a b).bind λj=>
 (ix a b).bind λk=>
 (Gv N (BQ (d-c.Q)) (BQ (j.X-c.X)) (BQ (k.Q-c.Q))).bind λg=>
 some ((BQ (c.X+g.1)),(decide (0<g.2.1)))))
def HI (N:Nat) (b:(List By)) (a:(List By)) (i:Option Bool):Nat→Int→Option Bool
 |0,_=>none
 |j+1,c=>
 cond (decide (c<(↑a.length:Int))) (
 (ix a c).bind λd=>
 (Jd N b d.Q).bind λg=>
 cond ((decide (d.X<g.1))||((decide (g.1=d.X))&&g.2)) (
 some false) (
 HI N b a i j (BQ (c+1)))) (
 i)
def Ig (N:Nat):Option Bool:=
 some true
def HK (N:Nat) (a:(List By)) (b:(List By)):Option Bool:=
 HI N a b (Ig N) N 0
def HJ (N:Nat) (a:(List By)) (b:(List By)) (d:Option Bool):Nat→Int→Option Bool
 |0,_=>none
 |j+1,c=>
 cond (decide (c<(↑a.length:Int))) (
 (ix a c).bind λg=>
 (Jd N b g.Q).bind λi=>
 cond (decide (i.1<g.X)) (
 some false) (
 HJ N a b d j (BQ (c+1)))) (
 d)
def Ic (N:Nat) (a:(List By)) (b:(List By)):Option Bool:=
 (Fa N a).bind λc=>
 (cond (!c) (some true) ((Fa N b).bind λd=>
 some (!d))).bind λg=>
 cond g (
 some false) (
 HJ N a b (HK N a b) N 0)
def Eb (N:Nat) (a:BB) (b:Bool):Option Bool:=
 cond b (
 (DA N a.Bc).bind λc=>
 (cond c ((DA N a.Y).bind λd=>
 some d) (some false)).bind λg=>
 (cond g ((DJ N a.S 1 1125899906842624).bind λi=>
 some i) (some false)).bind λj=>
 some j) (
 cond (decide (a.F=2)) (
 (DA N a.Y).bind λk=>
 (cond k ((DJ N a.W 1 64).bind λl=>
 some l) (some false)).bind λm=>
 (cond m ((DJ N a.Ag 0 a.W).bind λn=>
 some n) (some false)).bind λo=>
 some o) (
 cond (decide (a.F=3)) (
 (DA N a.Y).bind λp=>
 (cond p ((DJ N a.S 1 1125899906842624).bind λq=>
 some q) (some false)).bind λs=>
 (cond s ((DA N a.Az).bind λt=>
 some t) (some false)).bind λu=>
 (cond u ((DA N a.Ba).bind λv=>
 some v) (some false)).bind λw=>
 some (w&&(decide (a.Ba<a.Az)))) (
 (DA N a.Y).bind λx=>
 (cond x ((DJ N a.S 1 1125899906842624).bind λy=>
 some y) (some false)).bind λz=>
 (cond z ((Ht N a.Aq a.Al).bind λA=>
 some A) (some false)).bind λB=>
 some (B&&(decide (a.D≠(-1)))))))
def Gc (N:Nat) (a:BB):Option Bool:=
 cond (decide (a.F=0)) (
 (Fa N a.As).bind λb=>
 (cond b ((Fa N a.Ad.Aw).bind λc=>
 some c) (some false)).bind λd=>
 (cond d ((Fa N a.Ad.Ax).bind λg=>
 some g) (some false)).bind λi=>
 (cond i ((Ic N a.Ad.Aw a.As).bind λj=>
 some j) (some false)).bind λk=>
 (cond k ((Ic N a.As a.Ad.Ax).bind λl=>
 some l) (some false)).bind λm=>
 (cond m ((DJ N a.W 0 64).bind λn=>
 some n) (some false)).bind λo=>
 (cond o ((DJ N a.Ag 0 a.W).bind λp=>
 some p) (some false)).bind λq=>
 (cond q ((DA N a.Bb).bind λs=>
 some s) (some false)).bind λt=>
 (cond t ((Ht N a.Aq a.Al).bind λu=>
 some u) (some false)).bind λv=>
 some (v&&((decide (a.D≠(-1)))||(decide (a.Al=0))))) (
 cond (decide (a.F=1)) (
 Eb N a (decide (a.F=1))) (
 Eb N a (decide (a.F=5))))
def Fe (N:Nat) (a:BB):Option Bool:=
 cond ((!(decide (a.F=0)))&&((((decide (0<(↑a.As.length:Int)))||(decide (0<(↑a.Ad.Aw.length:Int))))||(decide (0<(↑a.Ad.Ax.length:Int))))||(decide (a.Bb≠0)))) (
 some false) (
 cond (((!(decide (a.F=0)))&&(decide (a.F≠2)))&&((decide (a.W≠0))||(decide (a.Ag≠0)))) (
 some false) (
 cond (((decide (a.F≠1))&&(decide (a.F≠5)))&&(decide (a.Bc≠0))) (
 some false) (
 cond (((decide (a.F=0))&&(decide (a.Y≠0)))||(((decide (a.F=0))||(decide (a.F=2)))&&(decide (a.S≠0)))) (
 some false) (
 cond ((decide (a.F≠3))&&((decide (a.Az≠0))||(decide (a.Ba≠0)))) (
 some false) (
 some (((decide (a.F=0))||(decide (a.F=4)))||((decide (a.Aq=0))&&(decide (a.Al=0)))))))))
def D2 (N:Nat):Option Bool:=
 some true
def Cd (N:Nat) (a:AF) (d:Option Bool):Nat→Int→Option Bool
 |0,_=>none
 |t+1,c=>
 cond (decide (c<(↑a.C.length:Int))) (
 (ix a.C c).bind λb=>
 (DJ N b.F 0 5).bind λg=>
 (cond (!g) (some true) ((GG N b.M (↑a.A.length:Int)).bind λi=>
 some (!i))).bind λj=>
 (cond j (some true) ((Jq N a b.M b.D).bind λk=>
 some (!k))).bind λl=>
 (cond l (some true) ((DJ N b.R 0 240).bind λm=>
 some (!m))).bind λn=>
 (cond n (some true) ((Gc N b).bind λo=>
 some (!o))).bind λp=>
 (cond p (some true) ((Fe N b).bind λq=>
 some (!q))).bind λs=>
 cond s (
 some false) (
 Cd N a d t (BQ (c+1)))) (
 d)
def FJ (N:Nat) (a:AF):Option Bool:=
 Cd N a (D2 N) N 0
def KV (N:Nat) (c:AF) (a:Int) (b:Int):Option Bool:=
 cond (decide (b=(-1))) (
 some (decide (a=2))) (
 (ix c.A b).bind λd=>
 some ((decide (d.Au=a))||(decide (d.Au=(BQ (a+1))))))
def EM (N:Nat) (a:AF) (g:Option Bool):Nat→Int→Option Bool
 |0,_=>none
 |m+1,d=>
 cond (decide (d<(↑a.C.length:Int))) (
 (ix a.C d).bind λb=>
 (ix a.A b.M).bind λc=>
 (KV N a c.Au b.D).bind λi=>
 (cond (!i) (some true) ((cond (decide (b.F=4)) ((ix a.A b.D).bind λj=>
 some (decide (j.Au≠c.Au))) (some false)).bind λk=>
 some k)).bind λl=>
 cond l (
 some false) (
 EM N a g m (BQ (d+1)))) (
 g)
def F5 (N:Nat):Option Bool:=
 some true
def EO (N:Nat) (a:AF):Option Bool:=
 EM N a (F5 N) N 0
def EN (N:Nat) (a:AF) (c:Option Bool):Nat→Int→Option Bool
 |0,_=>none
 |i+1,b=>
 cond (decide (b<(↑a.A.length:Int))) (
 (ix a.A b).bind λd=>
 (KV N a d.Au d.Ao).bind λg=>
 cond (!g) (
 some false) (
 EN N a c i (BQ (b+1)))) (
 c)
def H4 (N:Nat) (a:AF):Option Bool:=
 EN N a (EO N a) N 0
def KU (N:Nat) (a:Int):Option Int:=
 some (BQ a)
def Gw (N:Nat) (b:Int) (a:Int):Option Int:=
 cond (decide (a=0)) (
 some 0) (
 cond (decide (a<b)) (
 some 1099511627777) (
 (IA N (IntKind.wrap .u64 b) 1099511627776).bind λd=>
 (Gi N d.1 d.2 (IntKind.wrap .u64 a)).bind λc=>
 cond (decide (c.2≠0)) (
 KU N (IntKind.wrap .u64 (c.1+1))) (
 KU N c.1)))
def Ev (N:Nat) (a:Int):Option Int:=
 some a
def Fd (N:Nat) (a:(List By)) (c:Int→Option Int):Nat→Int→Int→Option Int
 |0,_,_=>none
 |m+1,d,b=>
 cond (decide (b<(↑a.length:Int))) (
 (ix a b).bind λg=>
 (ix a (BQ (b-1))).bind λi=>
 (ix a b).bind λj=>
 (ix a (BQ (b-1))).bind λk=>
 (Gw N (BQ (g.X-i.X)) (BQ (j.Q-k.Q))).bind λl=>
 Fd N a c m (max d l) (BQ (b+1))) (
 c d)
def Gb (N:Nat) (a:Int) (b:Int→Int→Option Int) (c:Int):Option Int:=
 b c (BQ (a+1))
def D4 (N:Nat) (a:(List (List By))) (c:Int→Option Int):Nat→Int→Int→Option Int
 |0,_,_=>none
 |i+1,g,b=>
 cond (decide (b<(↑a.length:Int))) (
 (ix a b).bind λd=>
 Fd N d (Gb N b (D4 N a c i)) N g 1) (
 c g)
def Jr (N:Nat) (a:(List (List By))):Option Int:=
 D4 N a (Ev N) N 0 0
def DB (N:Nat) (b:Int) (c:Int→(List Int)→Option Bool) (a:List Int):Option Bool:=
 c (BQ (b+1)) a
def EY (N:Nat) (b:List Int) (a:BB) (g:(List Int)→Option Bool) (i:Bool):Option Bool:=
 cond i (
 (ix b a.M).bind λn=>
 (ix b a.M).bind λj=>
 (Gw N a.Y a.S).bind λk=>
 (ix b a.M).bind λo=>
 (ix b a.M).bind λp=>
 g (upd b a.M (BQ (j+k)))) (
 cond (decide (a.F=4)) (
 (ix b a.M).bind λq=>
 (ix b a.M).bind λc=>
 (Gw N a.Y a.S).bind λd=>
 (ix b a.M).bind λs=>
 (ix b a.M).bind λt=>
 (ix (upd b a.M (BQ (c+(BQ (2*d))))) a.D).bind λu=>
 (ix (upd b a.M (BQ (c+(BQ (2*d))))) a.D).bind λl=>
 (Gw N a.Aq a.Al).bind λm=>
 (ix (upd b a.M (BQ (c+(BQ (2*d))))) a.D).bind λv=>
 (ix (upd b a.M (BQ (c+(BQ (2*d))))) a.D).bind λw=>
 g (upd (upd b a.M (BQ (c+(BQ (2*d))))) a.D (BQ (l+(BQ (2*m)))))) (
 g b))
def IT (N:Nat) (b:Bool→Option Bool) (a:Bool):Option Bool:=
 b a
def B6 (N:Nat) (c:AF) (j:(List Int)→Option Bool):Nat→Int→(List Int)→Option Bool
 |0,_,_=>none
 |k+1,i,b=>
 cond (decide (i<(↑c.C.length:Int))) (
 (ix c.C i).bind λa=>
 cond (decide (a.F=0)) (
 (ix b a.M).bind λn=>
 (ix b a.M).bind λd=>
 (Jr N ([a.As,a.Ad.Aw,a.Ad.Ax]:List (List By))).bind λg=>
 (ix b a.M).bind λo=>
 (ix b a.M).bind λp=>
 cond (decide (a.D≠(-1))) (
 (ix (upd b a.M (BQ (d+g))) a.D).bind λq=>
 (ix (upd b a.M (BQ (d+g))) a.D).bind λl=>
 (Gw N a.Aq a.Al).bind λm=>
 (ix (upd b a.M (BQ (d+g))) a.D).bind λs=>
 (ix (upd b a.M (BQ (d+g))) a.D).bind λt=>
 DB N i (B6 N c j k) (upd (upd b a.M (BQ (d+g))) a.D (BQ (l+m)))) (
 DB N i (B6 N c j k) (upd b a.M (BQ (d+g))))) (
 cond (decide (a.F=1)) (
 EY N b a (DB N i (B6 N c j k)) (decide (a.F=1))) (
 cond (decide (a.F=5)) (
 IT N (EY N b a (DB N i (B6 N c j k))) (decide (a.F=5))) (
 IT N (EY N b a (DB N i (B6 N c j k))) (decide (a.F=3)))))) (
 j b)
def EV (N:Nat) (b:List Int) (c:Option Bool):Nat→Int→Option Bool
 |0,_=>none
 |i+1,a=>
 cond (decide (a<(↑b.length:Int))) (
 (ix b a).bind λg=>
 (ix b a).bind λd=>
 cond (decide (1099511627776<d)) (
 some false) (
 EV N b c i (BQ (a+1)))) (
 c)
def GS (N:Nat):Option Bool:=
 some true
def DO (N:Nat) (a:List Int):Option Bool:=
 EV N a (GS N) N 0
def EZ (N:Nat) (a:AF) (b:List Int):Option Bool:=
 B6 N a (DO N) N 0 b
def EW (N:Nat) (b:AF) (d:(List Int)→Option Bool):Nat→Int→(List Int)→Option Bool
 |0,_,_=>none
 |j+1,a,c=>
 cond (decide (a<(↑b.A.length:Int))) (
 (ix b.A a).bind λg=>
 (Gw N g.Y g.S).bind λi=>
 (ix c a).bind λk=>
 (ix c a).bind λl=>
 EW N b d j (BQ (a+1)) (upd c a i)) (
 d c)
def IL (N:Nat) (a:AF):Option Bool:=
 chk (LI (↑a.A.length:Int) (↑a.A.length:Int) 8) <|
 EW N a (EZ N a) N 0 (List.replicate ((↑a.A.length:Int):Int).toNat (0:Int))
def Em (N:Nat) (a:AF) (c:Option Bool):Nat→Int→Option Bool
 |0,_=>none
 |i+1,b=>
 cond (decide (b<(↑a.Ak.length:Int))) (
 (ix a.Ak b).bind λd=>
 (DJ N d.Aj 0 1073741824).bind λg=>
 cond (!g) (
 some false) (
 Em N a c i (BQ (b+1)))) (
 c)
def Gn (N:Nat):Option Bool:=
 some true
def Eo (N:Nat) (a:AF):Option Bool:=
 Em N a (Gn N) N 0
def En (N:Nat) (a:AF) (d:Option Bool):Nat→Int→Option Bool
 |0,_=>none
 |t+1,c=>
 cond (decide (c<(↑a.Af.length:Int))) (
 (ix a.Af c).bind λb=>
 (GG N b.Ap (↑a.A.length:Int)).bind λg=>
 (cond (!g) (some true) ((DA N b.Br).bind λi=>
 some (!i))).bind λj=>
 (cond j (some true) ((DJ N b.Bp 0 24).bind λk=>
 some (!k))).bind λl=>
 (cond l (some true) ((DJ N b.Bv 0 1073741824).bind λm=>
 some (!m))).bind λn=>
 (cond n (some true) ((DA N b.Bs).bind λo=>
 some (!o))).bind λp=>
 (cond p (some true) ((DJ N b.Bo 0 128).bind λq=>
 some (!q))).bind λs=>
 cond s (
 some false) (
 En N a d t (BQ (c+1)))) (
 d)
def Iu (N:Nat) (a:AF):Option Bool:=
 En N a (Eo N a) N 0
def GT (N:Nat):Option Bool:=
 some true
def Ea (N:Nat) (a:AF) (d:Option Bool):Nat→Int→Option Bool
 |0,_=>none
 |o+1,c=>
 cond (decide (c<(↑a.Ah.length:Int))) (
 (ix a.Ah c).bind λb=>
 (DJ N b.F 0 2).bind λg=>
 (cond (!g) (some true) ((DJ N b.K 0 1099511627776).bind λi=>
 some (!i))).bind λj=>
 (cond j (some true) ((DJ N b.Bt 0 1440).bind λk=>
 some (!k))).bind λl=>
 cond l (
 some false) (
 (ix ([(↑a.A.length:Int),a.J,(↑a.C.length:Int)]:List Int) b.F).bind λm=>
 (GG N b.Aa m).bind λn=>
 cond (!n) (
 some false) (
 Ea N a d o (BQ (c+1))))) (
 d)
def IM (N:Nat) (a:AF):Option Bool:=
 Ea N a (GT N) N 0
def Gp (N:Nat):Option Bool:=
 some true
def Ep (N:Nat) (a:AF) (d:Option Bool):Nat→Int→Option Bool
 |0,_=>none
 |u+1,c=>
 cond (decide (c<(↑a.Ai.length:Int))) (
 (ix a.Ai c).bind λb=>
 (GG N b.M (↑a.Af.length:Int)).bind λg=>
 (cond (!g) (some true) ((GG N b.D (BQ ((↑a.Af.length:Int)+(↑a.Ak.length:Int)))).bind λi=>
 some (!i))).bind λj=>
 (cond (j||(decide (b.M=b.D))) (some true) ((DJ N b.Bw 1 24).bind λk=>
 some (!k))).bind λl=>
 (cond l (some true) ((DJ N b.Bx 0 1073741824).bind λm=>
 some (!m))).bind λn=>
 (cond n (some true) ((DA N b.Bm).bind λo=>
 some (!o))).bind λp=>
 cond p (
 some false) (
 (cond ((decide (b.Bj=(-1)))&&(decide (b.Bm≠0))) (some true) ((cond (decide (b.Bj≠(-1))) ((GG N b.Bj (↑a.A.length:Int)).bind λq=>
 some (!q)) (some false)).bind λs=>
 some s)).bind λt=>
 cond t (
 some false) (
 Ep N a d u (BQ (c+1))))) (
 d)
def Iv (N:Nat) (a:AF):Option Bool:=
 Ep N a (Gp N) N 0
def Gx (N:Nat) (a:AF):Option Bool:=
 (IB N a).bind λv=>
 (cond v ((Jz N a).bind λb=>
 some b) (some false)).bind λc=>
 (cond c ((HZ N a).bind λd=>
 some d) (some false)).bind λg=>
 (cond g ((FJ N a).bind λi=>
 some i) (some false)).bind λj=>
 (cond j ((H4 N a).bind λk=>
 some k) (some false)).bind λl=>
 (cond l ((IL N a).bind λm=>
 some m) (some false)).bind λn=>
 (cond n ((Iu N a).bind λo=>
 some o) (some false)).bind λp=>
 (cond p ((IM N a).bind λq=>
 some q) (some false)).bind λs=>
 (cond s ((Iv N a).bind λt=>
 some t) (some false)).bind λu=>
 some u
def Hf (N:Nat):Option Bool:=
 some true
def FT (N:Nat) (a:(List Int)) (c:Option Bool):Nat→Int→Int→Option Bool
 |0,_,_=>none
 |i+1,g,d=>
 cond (decide (d<(↑a.length:Int))) (
 (ix a d).bind λb=>
 cond ((decide (b<0))||(decide ((BQ (1125899906842624-g))<b))) (
 some false) (
 FT N a c i (BQ (g+b)) (BQ (d+1)))) (
 c)
def JQ (N:Nat) (a:(List Int)):Option Bool:=
 FT N a (Hf N) N 0 0
def KR (N:Nat) (b:(List Int)) (a:Int):Option Bool:=
 (cond (((decide (0≤a))&&(decide (a≤16)))&&(decide ((↑b.length:Int)=a))) ((JQ N b).bind λc=>
 some c) (some false)).bind λd=>
 some d
def H3 (N:Nat) (b:Int) (a:Int):Option Int:=
 cond ((decide (0<a))&&(decide ((BQ (9223372036854775807-a))<b))) (
 some 9223372036854775807) (
 cond ((decide (a<0))&&(decide (b<(BQ ((-9223372036854775808)-a))))) (
 some (-9223372036854775808)) (
 some (BQ (b+a))))
def JL (N:Nat) (a:Int):Option Int:=
 some a
def Hg (N:Nat) (a:(List Int)) (c:Int→Option Int):Nat→Int→Int→Option Int
 |0,_,_=>none
 |j+1,i,b=>
 cond (decide (b<(↑a.length:Int))) (
 (ix a b).bind λd=>
 (H3 N i d).bind λg=>
 Hg N a c j g (BQ (b+1))) (
 c i)
def FE (N:Nat) (a:(List Int)):Option Int:=
 Hg N a (JL N) N 0 0
def HO (N:Nat) (b:Int) (a:Int):Option Bool:=
 some ((decide (0≤b))&&(decide (b<a)))
def G8 (N:Nat) (b:AF) (a:AI) (j:Int→Option (Int×Bool)):Nat→Int→Int→Option (Int×Bool)
 |0,_,_=>none
 |o+1,g,i=>
 cond (decide (i<(↑a.I.length:Int))) (
 (ix a.I i).bind λd=>
 (cond (decide (d.At<a.B)) (some true) ((HO N d.D (↑b.A.length:Int)).bind λk=>
 some (!k))).bind λl=>
 (cond l (some true) ((KR N d.V (↑b.H.length:Int)).bind λm=>
 some (!m))).bind λn=>
 cond n (
 some (0,false)) (
 (FE N d.V).bind λc=>
 cond ((decide (c≤0))||(decide (1125899906842624<(BQ (g+c))))) (
 some (0,false)) (
 G8 N b a j o (BQ (g+c)) (BQ (i+1))))) (
 j g)
def If (N:Nat) (a:Int):Option (Int×Bool):=
 some (a,true)
def GJ (N:Nat) (a:AF) (b:AI) (c:Int):Option (Int×Bool):=
 G8 N a b (If N) N c 0
def GI (N:Nat) (b:AF) (a:AI) (g:Int→Option (Int×Bool)):Nat→Int→Int→Option (Int×Bool)
 |0,_,_=>none
 |l+1,c,d=>
 cond (decide (d<(↑a.G.length:Int))) (
 (ix a.G d).bind λi=>
 (KR N i (↑b.H.length:Int)).bind λk=>
 cond (!k) (
 some (0,false)) (
 (FE N i).bind λj=>
 cond (decide (1125899906842624<(BQ (c+j)))) (
 some (0,false)) (
 GI N b a g l (BQ (c+j)) (BQ (d+1))))) (
 g c)
def Kg (N:Nat) (a:AF) (b:AI):Option (Int×Bool):=
 GI N a b (GJ N a b) N 0 0
def H8 (N:Nat) (a:Int):Option (Int×Bool):=
 some (a,true)
def Gf (N:Nat) (b:(List Int)) (a:Int) (g:Int→Option (Int×Bool)):Nat→Int→Int→Option (Int×Bool)
 |0,_,_=>none
 |j+1,i,c=>
 cond (decide (c<(↑b.length:Int))) (
 (ix b c).bind λd=>
 cond ((decide (d<0))||(decide ((BQ (a-i))<d))) (
 some (0,false)) (
 Gf N b a g j (BQ (i+d)) (BQ (c+1)))) (
 g i)
def Jj (N:Nat) (b:(List Int)) (a:Int):Option (Int×Bool):=
 Gf N b a (H8 N) N 0 0
def G2 (N:Nat) (d:AF) (g:AI) (i:Option Bool):Nat→Int→Option Bool
 |0,_=>none
 |j+1,b=>
 cond (decide (b<(↑d.C.length:Int))) (
 (ix d.C b).bind λc=>
 (ix g.P b).bind λa=>
 cond ((((decide (a.Z<0))||(decide (c.W<a.Z)))||(decide (a.Aa<0)))||(decide (c.W<a.Aa))) (
 some false) (
 cond ((a.Am&&(decide (c.F≠5)))&&(decide (c.F≠3))) (
 some false) (
 G2 N d g i j (BQ (b+1))))) (
 i)
def G4 (N:Nat) (d:AF) (a:AI):Option Bool:=
 (Kg N d a).bind λb=>
 cond (!b.2) (
 some false) (
 (Jj N a.L 1152921504606846976).bind λc=>
 cond (!c.2) (
 some false) (
 (Jj N a.O (BQ ((BQ (c.1+1125899906842624))-b.1))).bind λg=>
 some g.2))
def G5 (N:Nat) (a:AF) (b:AI):Option Bool:=
 G2 N a b (G4 N a b) N 0
def G3 (N:Nat) (a:AF) (b:AI) (d:Option Bool):Nat→Int→Option Bool
 |0,_=>none
 |l+1,c=>
 cond (decide (c<(↑a.A.length:Int))) (
 (ix a.A c).bind λk=>
 (ix b.N c).bind λg=>
 (cond (decide (g<0)) (some true) ((ix b.N c).bind λi=>
 some (decide ((max 0 (BQ (k.S-1)))<i)))).bind λj=>
 cond j (
 some false) (
 G3 N a b d l (BQ (c+1)))) (
 d)
def KQ (N:Nat) (b:AF) (a:AI):Option Bool:=
 cond (((((((decide (a.B<0))||(decide (16777216<a.B)))||(decide ((↑a.G.length:Int)≠(↑b.A.length:Int))))||(decide ((↑a.N.length:Int)≠(↑b.A.length:Int))))||(decide ((↑a.P.length:Int)≠(↑b.C.length:Int))))||(decide ((↑a.L.length:Int)≠(↑b.H.length:Int))))||(decide ((↑a.O.length:Int)≠(↑b.H.length:Int)))) (
 some false) (
 G3 N b a (G5 N b a) N 0)
def GX (N:Nat) (a:(List (List Int))):Option (List (List Int)):=
 chk (Ha (([]:List (List Int)).length+a.length) 24) <|
 some (([]:List (List Int))++a)
def C7 (N:Nat) (a:(List AT)):Option (List AT):=
 chk (Ha (([]:List AT).length+a.length) 40) <|
 some (([]:List AT)++a)
def BY (N:Nat) (a:(List A4)):Option (List A4):=
 chk (Ha (([]:List A4).length+a.length) 24) <|
 some (([]:List A4)++a)
def EC (N:Nat) (c:(List AT)) (d:(List AT)→Option AI):Nat→Int→(List AT)→Option AI
 |0,_,_=>none
 |m+1,a,b=>
 cond (decide (a<(↑c.length:Int))) (
 (ix b a).bind λk=>
 (ix b a).bind λg=>
 (BK N g.V).bind λi=>
 (ix b a).bind λl=>
 (ix b a).bind λj=>
 EC N c d m (BQ (a+1)) (upd b a ({ j with V:=i}))) (
 d b)
def Ei (N:Nat) (a:AI) (j:List (List Int)) (b:List AT):Option AI:=
 (BK N a.N).bind λc=>
 (BY N a.P).bind λd=>
 (BK N a.L).bind λg=>
 (BK N a.O).bind λi=>
 some (⟨a.B,j,c,b,d,g,i⟩:AI)
def Ej (N:Nat) (a:AI) (c:List (List Int)):Option AI:=
 (C7 N a.I).bind λb=>
 EC N b (Ei N a c) N 0 b
def ED (N:Nat) (c:(List (List Int))) (d:(List (List Int))→Option AI):Nat→Int→(List (List Int))→Option AI
 |0,_,_=>none
 |k+1,a,b=>
 cond (decide (a<(↑c.length:Int))) (
 (ix b a).bind λl=>
 (ix b a).bind λg=>
 (BK N g).bind λi=>
 (ix b a).bind λm=>
 (ix b a).bind λj=>
 ED N c d k (BQ (a+1)) (upd b a i)) (
 d b)
def Iq (N:Nat) (a:AI):Option AI:=
 (GX N a.G).bind λb=>
 ED N b (Ej N a) N 0 b
def FQ (N:Nat) (a:(List ByteArray)):Option (List ByteArray):=
 chk (Ha (([]:List ByteArray).length+a.length) 16) <|
 some (([]:List ByteArray)++a)
def Cq (N:Nat) (a:(List Cp)):Option (List Cp):=
 chk (Ha (([]:List Cp).length+a.length) 152) <|
 some (([]:List Cp)++a)
def BU (N:Nat) (a:(List By)):Option (List By):=
 chk (Ha (([]:List By).length+a.length) 16) <|
 some (([]:List By)++a)
def C9 (N:Nat) (a:(List Le)):Option (List Le):=
 chk (Ha (([]:List Le).length+a.length) 16) <|
 some (([]:List Le)++a)
def C8 (N:Nat) (a:(List BB)):Option (List BB):=
 chk (Ha (([]:List BB).length+a.length) 200) <|
 some (([]:List BB)++a)
def C5 (N:Nat) (a:(List Kn)):Option (List Kn):=
 chk (Ha (([]:List Kn).length+a.length) 64) <|
 some (([]:List Kn)++a)
def Cr (N:Nat) (a:(List JK)):Option (List JK):=
 chk (Ha (([]:List JK).length+a.length) 48) <|
 some (([]:List JK)++a)
def C6 (N:Nat) (a:(List Ko)):Option (List Ko):=
 chk (Ha (([]:List Ko).length+a.length) 64) <|
 some (([]:List Ko)++a)
def CS (N:Nat) (a:(List G0)):Option (List G0):=
 chk (Ha (([]:List G0).length+a.length) 24) <|
 some (([]:List G0)++a)
def EE (N:Nat) (j:(List BB)) (l:(List BB)→Option AF):Nat→Int→(List BB)→Option AF
 |0,_,_=>none
 |s+1,a,b=>
 cond (decide (a<(↑j.length:Int))) (
 (ix b a).bind λq=>
 (ix b a).bind λm=>
 (BU N m.As).bind λd=>
 (ix b a).bind λg=>
 (ix (upd b a ({ g with As:=d})) a).bind λn=>
 (BU N n.Ad.Aw).bind λi=>
 (ix (upd b a ({ g with As:=d})) a).bind λc=>
 (ix (upd (upd b a ({ g with As:=d})) a ({ c with Ad:={ c.Ad with Aw:=i}})) a).bind λo=>
 (BU N o.Ad.Ax).bind λp=>
 (ix (upd (upd b a ({ g with As:=d})) a ({ c with Ad:={ c.Ad with Aw:=i}})) a).bind λk=>
 EE N j l s (BQ (a+1)) (upd (upd (upd b a ({ g with As:=d})) a ({ c with Ad:={ c.Ad with Aw:=i}})) a ({ k with Ad:={ k.Ad with Ax:=p}}))) (
 l b)
def Ek (N:Nat) (a:AF) (k:(List ByteArray)) (l:List Cp) (b:List BB):Option AF:=
 (C5 N a.Af).bind λc=>
 (Cr N a.Ah).bind λd=>
 (C6 N a.Ai).bind λg=>
 (CS N a.Ak).bind λi=>
 (BK N a.Aj).bind λj=>
 some (⟨a.E,k,a.J,l,b,c,d,g,i,j,a.K⟩:AF)
def El (N:Nat) (a:AF) (c:(List ByteArray)) (d:List Cp):Option AF:=
 (C8 N a.C).bind λb=>
 EE N b (Ek N a c d) N 0 b
def EF (N:Nat) (j:(List Cp)) (k:(List Cp)→Option AF):Nat→Int→(List Cp)→Option AF
 |0,_,_=>none
 |q+1,a,b=>
 cond (decide (a<(↑j.length:Int))) (
 (ix b a).bind λs=>
 (ix b a).bind λp=>
 (BU N p.Bl).bind λc=>
 (ix b a).bind λd=>
 (ix (upd b a ({ d with Bl:=c})) a).bind λl=>
 (BK N l.An).bind λg=>
 (ix (upd b a ({ d with Bl:=c})) a).bind λi=>
 (ix (upd (upd b a ({ d with Bl:=c})) a ({ i with An:=g})) a).bind λm=>
 (C9 N m.T).bind λn=>
 (ix (upd (upd b a ({ d with Bl:=c})) a ({ i with An:=g})) a).bind λo=>
 EF N j k q (BQ (a+1)) (upd (upd (upd b a ({ d with Bl:=c})) a ({ i with An:=g})) a ({ o with T:=n}))) (
 k b)
def Is (N:Nat) (a:AF):Option AF:=
 (FQ N a.H).bind λc=>
 (Cq N a.A).bind λb=>
 EF N b (El N a c) N 0 b
def KT (N:Nat) (b:AF) (s:AI):Option (Option Ey):=
 (Gx N b).bind λa=>
 (cond (!a) (some true) ((KQ N b s).bind λc=>
 some (!c))).bind λd=>
 cond d (some none) ((Iq N s).bind λg=>(Is N b).bind λi=>some (some ⟨i,[(0,⟨-1,hE,g,[]⟩)],1⟩))
def GW (N:Nat):Option Bool:=
 some true
def D3 (N:Nat) (a:(List Int)) (b:(List Int)) (c:Option Bool):Nat→Int→Option Bool
 |0,_=>none
 |j+1,d=>
 cond (decide (d<(↑a.length:Int))) (
 (ix a d).bind λg=>
 (ix b d).bind λi=>
 cond (decide (g≠i)) (
 some false) (
 D3 N a b c j (BQ (d+1)))) (
 c)
def CQ (N:Nat) (a:(List Int)) (b:(List Int)):Option Bool:=
 cond (decide ((↑a.length:Int)≠(↑b.length:Int))) (
 some false) (
 D3 N a b (GW N) N 0)
def JS (N:Nat) (c:DQ):Option Bool:=
 (CQ N c.a c.b).bind λd=>
 some d
def CX (N:Nat):Option Bool:=
 some true
def CF (N:Nat) (a:(List G1)) (b:(List G1)) (c:Option Bool):Nat→Int→Option Bool
 |0,_=>none
 |j+1,d=>
 cond (decide (d<(↑a.length:Int))) (
 (ix a d).bind λg=>
 (ix b d).bind λi=>
 cond (!(Qt g.v i.v)) (
 some false) (
 CF N a b c j (BQ (d+1)))) (
 c)
def DY (N:Nat) (a:(List G1)) (b:(List G1)):Option Bool:=
 cond (decide ((↑a.length:Int)≠(↑b.length:Int))) (
 some false) (
 CF N a b (CX N) N 0)
def Ew (N:Nat) (c:J0):Option Bool:=
 (DY N c.a c.b).bind λd=>
 some d
def Cy (N:Nat):Option Bool:=
 some true
def CL (N:Nat) (a:(List LA)) (b:(List LA)) (c:Option Bool):Nat→Int→Option Bool
 |0,_=>none
 |j+1,d=>
 cond (decide (d<(↑a.length:Int))) (
 (ix a d).bind λg=>
 (ix b d).bind λi=>
 cond (!(Qt g.v i.v)) (
 some false) (
 CL N a b c j (BQ (d+1)))) (
 c)
def Dw (N:Nat) (a:(List LA)) (b:(List LA)):Option Bool:=
 cond (decide ((↑a.length:Int)≠(↑b.length:Int))) (
 some false) (
 CL N a b (Cy N) N 0)
def FU (N:Nat) (c:NF):Option Bool:=
 (Dw N c.a c.b).bind λd=>
 some d
def Ch (N:Nat):Option Bool:=
 some true
def CI (N:Nat) (a:(List FM)) (b:(List FM)) (c:Option Bool):Nat→Int→Option Bool
 |0,_=>none
 |j+1,d=>
 cond (decide (d<(↑a.length:Int))) (
 (ix a d).bind λg=>
 (ix b d).bind λi=>
 cond (!(Qt g.v i.v)) (
 some false) (
 CI N a b c j (BQ (d+1)))) (
 c)
def Dg (N:Nat) (a:(List FM)) (b:(List FM)):Option Bool:=
 cond (decide ((↑a.length:Int)≠(↑b.length:Int))) (
 some false) (
 CI N a b (Ch N) N 0)
def E7 (N:Nat) (c:K8):Option Bool:=
 (Dg N c.a c.b).bind λd=>
 some d
def Ci (N:Nat):Option Bool:=
 some true
def CJ (N:Nat) (a:(List Iw)) (b:(List Iw)) (c:Option Bool):Nat→Int→Option Bool
 |0,_=>none
 |j+1,d=>
 cond (decide (d<(↑a.length:Int))) (
 (ix a d).bind λg=>
 (ix b d).bind λi=>
 cond (!(Qt g.v i.v)) (
 some false) (
 CJ N a b c j (BQ (d+1)))) (
 c)
def Dh (N:Nat) (a:(List Iw)) (b:(List Iw)):Option Bool:=
 cond (decide ((↑a.length:Int)≠(↑b.length:Int))) (
 some false) (
 CJ N a b (Ci N) N 0)
def E8 (N:Nat) (c:K9):Option Bool:=
 (Dh N c.a c.b).bind λd=>
 some d
def Ip (N:Nat) (a:B3) (b:B3):Option Bool:=
 (JS N (⟨a.T,b.T⟩:DQ)).bind λd=>
 (cond d ((Ew N (⟨a.Ab,b.Ab⟩:J0)).bind λg=>
 some g) (some false)).bind λi=>
 (cond i ((FU N (⟨a.Ac,b.Ac⟩:NF)).bind λj=>
 some j) (some false)).bind λk=>
 (cond k ((E7 N (⟨a.U,b.U⟩:K8)).bind λl=>
 some l) (some false)).bind λm=>
 (cond m ((E8 N (⟨a.Ae,b.Ae⟩:K9)).bind λc=>
 some c) (some false)).bind λn=>
 some n
def DZ (N:Nat) (a:(List G1)):Option (List G1):=
 chk (Ha (([]:List G1).length+a.length) 16) <|
 some (([]:List G1)++a)
def Dy (N:Nat) (a:(List LA)):Option (List LA):=
 chk (Ha (([]:List LA).length+a.length) 16) <|
 some (([]:List LA)++a)
def Di (N:Nat) (a:(List FM)):Option (List FM):=
 chk (Ha (([]:List FM).length+a.length) 32) <|
 some (([]:List FM)++a)
def Dj (N:Nat) (a:(List Iw)):Option (List Iw):=
 chk (Ha (([]:List Iw).length+a.length) 32) <|
 some (([]:List Iw)++a)
def Ir (N:Nat) (a:B3):Option B3:=
 (BK N a.T).bind λb=>
 (DZ N a.Ab).bind λc=>
 (Dy N a.Ac).bind λd=>
 (Di N a.U).bind λg=>
 (Dj N a.Ae).bind λi=>
 some (⟨b,c,d,g,i⟩:B3)
def GL (N:Nat) (a:AI) (d:List (List Int)):Option AI:=
 (BK N a.N).bind λg=>
 (BY N a.P).bind λi=>
 (BK N a.L).bind λb=>
 (BK N a.O).bind λc=>
 some (⟨a.B,d,g,a.I,i,b,c⟩:AI)
def GK (N:Nat) (b:AI) (d:(List (List Int))→Option AI):Nat→Int→(List (List Int))→Option AI
 |0,_,_=>none
 |j+1,a,c=>
 cond (decide (a<(↑b.G.length:Int))) (
 (ix b.G a).bind λg=>
 (BK N g).bind λi=>
 (ix c a).bind λk=>
 (ix c a).bind λl=>
 GK N b d j (BQ (a+1)) (upd c a i)) (
 d c)
def Kh (N:Nat) (a:AI):Option AI:=
 chk (LI (↑a.G.length:Int) (↑a.G.length:Int) 24) <|
 GK N a (GL N a) N 0 (List.replicate ((↑a.G.length:Int):Int).toNat ([]:(List Int)))
def G6 (N:Nat) (a:A4) (b:Bool) (c:Bool):Option A4:=
 some (⟨a.Z,a.Aa,b,c⟩:A4)
def Hh (N:Nat) (d:BB) (a:A4) (b:Int) (c:Bool→Bool→Option A4) (g:Bool):Option A4:=
 cond g (
 cond (decide (d.F=5)) (
 c a.Ay (decide (b=2))) (
 c a.Ay a.Am)) (
 c a.Ay a.Am)
def IS (N:Nat) (c:BB) (b:A4) (a:Int):Option A4:=
 cond (decide (a=0)) (
 G6 N b true b.Am) (
 cond (decide (a=1)) (
 G6 N b false b.Am) (
 cond (decide (a=2)) (
 Hh N c b a (G6 N b) (decide (a=2))) (
 Hh N c b a (G6 N b) (decide (a=3)))))
def Ib (N:Nat) (c:Int) (b:Int) (a:Int):Option Int:=
 cond (decide (c<b)) (
 some b) (
 cond (decide (a<c)) (
 some a) (
 some c))
def L3 (N:Nat) (a:A4) (b:Int):Option A4:=
 some ({ a with Aa:=b}:A4)
def Jx (N:Nat) (c:BB) (b:A4) (a:Int):Option A4:=
 cond (decide (c.W≠0)) (
 (Ib N a 0 c.W).bind λd=>
 L3 N b d) (
 L3 N b b.Aa)
def Hi (N:Nat) (b:Int) (a:Int):Option Int:=
 cond ((decide (a<0))&&(decide ((BQ (9223372036854775807+a))<b))) (
 some 9223372036854775807) (
 cond ((decide (0<a))&&(decide (b<(BQ ((-9223372036854775808)+a))))) (
 some (-9223372036854775808)) (
 some (BQ (b-a))))
def Ia (N:Nat) (b:BB) (a:A4):Option A4:=
 cond a.Ay (
 some a) (
 (Hi N a.Aa a.Z).bind λc=>
 (Hi N 0 b.Ag).bind λd=>
 (Ib N c d b.Ag).bind λg=>
 (H3 N a.Z g).bind λi=>
 some ({ a with Z:=i}:A4))
def HB (N:Nat) (a:Int) (b:Int→(List A4)→Option (List A4)) (c:List A4):Option (List A4):=
 b (BQ (a+1)) c
def DE (N:Nat) (p0_w:AM) (g:(List A4)→Option (List A4)):Nat→Int→(List A4)→Option (List A4)
 |0,_,_=>none
 |m+1,d,c=>
 cond (decide (d<(↑p0_w.in_.Ac.length:Int))) (
 (ix p0_w.in_.Ac d).bind λa=>
 (HO N a.Ar (↑p0_w.b.C.length:Int)).bind λi=>
 cond i (
 (ix p0_w.b.C a.Ar).bind λj=>
 (ix c a.Ar).bind λn=>
 (ix c a.Ar).bind λk=>
 (Jx N j k a.Aa).bind λl=>
 (ix c a.Ar).bind λo=>
 (ix c a.Ar).bind λp=>
 HB N d (DE N p0_w g m) (upd c a.Ar l)) (
 HB N d (DE N p0_w g m) c)) (
 g c)
def D9 (N:Nat) (p0_w:AM):Nat→Int→(List A4)→Option (List A4)
 |0,_,_=>none
 |m+1,a,c=>
 cond (decide (a<(↑p0_w.b.C.length:Int))) (
 (ix p0_w.b.C a).bind λd=>
 (ix c a).bind λj=>
 (ix c a).bind λg=>
 (Ia N d g).bind λi=>
 (ix c a).bind λk=>
 (ix c a).bind λl=>
 D9 N p0_w m (BQ (a+1)) (upd c a i)) (
 some c)
def Dk (N:Nat) (p0_w:AM) (a:List A4):Option (List A4):=
 D9 N p0_w N 0 a
def Dm (N:Nat) (p0_w:AM) (a:List A4):Option (List A4):=
 DE N p0_w (Dk N p0_w) N 0 a
def HC (N:Nat) (c:Int) (a:Int→(List A4)→Option (List A4)) (b:List A4):Option (List A4):=
 a (BQ (c+1)) b
def DF (N:Nat) (p0_w:AM) (c:(List A4)→Option (List A4)):Nat→Int→(List A4)→Option (List A4)
 |0,_,_=>none
 |m+1,g,d=>
 cond (decide (g<(↑p0_w.in_.Ab.length:Int))) (
 (ix p0_w.in_.Ab g).bind λa=>
 (HO N a.Ar (↑p0_w.b.C.length:Int)).bind λi=>
 cond i (
 (ix p0_w.b.C a.Ar).bind λj=>
 (ix d a.Ar).bind λn=>
 (ix d a.Ar).bind λk=>
 (IS N j k a.F).bind λl=>
 (ix d a.Ar).bind λo=>
 (ix d a.Ar).bind λp=>
 HC N g (DF N p0_w c m) (upd d a.Ar l)) (
 HC N g (DF N p0_w c m) d)) (
 c d)
def HQ (N:Nat) (p0_w:AM):Option (List A4):=
 DF N p0_w (Dm N p0_w) N 0 p0_w.s.P
def K0 (N:Nat) (b:(List Int)) (a:Int):Option Int:=
 (cond ((decide (a<0))||(decide ((↑b.length:Int)≤a))) (some true) ((ix b a).bind λd=>
 some (decide (d<0)))).bind λg=>
 cond g (
 some 0) (
 (ix b a).bind λc=>
 some c)
def LQ (N:Nat) (a:List Int):Option (List Int):=
 some a
def MK (N:Nat) (a:(List Int)) (b:Int) (c:Int) (d:Int):Option (List Int):=
 chk (LI (↑a.length:Int) (↑a.length:Int) 8) <|
 (K0 N a b).bind λg=>
 cond ((((decide (0<(min d g)))&&(decide (0≤c)))&&(decide (c<(↑a.length:Int))))&&(decide (b≠c))) (
 (ix (Pb (List.replicate ((↑a.length:Int):Int).toNat (0:Int)) a) b).bind λl=>
 (ix (Pb (List.replicate ((↑a.length:Int):Int).toNat (0:Int)) a) b).bind λi=>
 (ix (Pb (List.replicate ((↑a.length:Int):Int).toNat (0:Int)) a) b).bind λm=>
 (ix (Pb (List.replicate ((↑a.length:Int):Int).toNat (0:Int)) a) b).bind λn=>
 (ix (upd (Pb (List.replicate ((↑a.length:Int):Int).toNat (0:Int)) a) b (BQ (i-(min d g)))) c).bind λo=>
 (ix (upd (Pb (List.replicate ((↑a.length:Int):Int).toNat (0:Int)) a) b (BQ (i-(min d g)))) c).bind λj=>
 (H3 N j (min d g)).bind λk=>
 (ix (upd (Pb (List.replicate ((↑a.length:Int):Int).toNat (0:Int)) a) b (BQ (i-(min d g)))) c).bind λp=>
 (ix (upd (Pb (List.replicate ((↑a.length:Int):Int).toNat (0:Int)) a) b (BQ (i-(min d g)))) c).bind λq=>
 LQ N (upd (upd (Pb (List.replicate ((↑a.length:Int):Int).toNat (0:Int)) a) b (BQ (i-(min d g)))) c k)) (
 LQ N (Pb (List.replicate ((↑a.length:Int):Int).toNat (0:Int)) a))
def HA (N:Nat) (c:Int) (a:Int→(List (List Int))→Option (List (List Int))) (b:List (List Int)):Option (List (List Int)):=
 a (BQ (c+1)) b
def DD (N:Nat) (p0_w:AM):Nat→Int→(List (List Int))→Option (List (List Int))
 |0,_,_=>none
 |o+1,d,c=>
 cond (decide (d<(↑p0_w.in_.Ae.length:Int))) (
 (ix p0_w.in_.Ae d).bind λa=>
 (HO N a.Ap (↑p0_w.b.A.length:Int)).bind λg=>
 (cond g ((HO N a.M (↑p0_w.b.H.length:Int)).bind λi=>
 some i) (some false)).bind λj=>
 (cond j ((HO N a.D (↑p0_w.b.H.length:Int)).bind λk=>
 some k) (some false)).bind λl=>
 cond l (
 (ix c a.Ap).bind λq=>
 (ix c a.Ap).bind λm=>
 (MK N m a.M a.D a.Bd).bind λn=>
 (ix c a.Ap).bind λs=>
 (ix c a.Ap).bind λp=>
 HA N d (DD N p0_w o) (upd c a.Ap n)) (
 HA N d (DD N p0_w o) c)) (
 some c)
def Fu (N:Nat) (p0_w:AM):Option (List (List Int)):=
 DD N p0_w N 0 p0_w.s.G
def Eq (N:Nat) (p0_w:AM) (b:Int→Option ((List (List Int))×(List Int)×(List AX))):Nat→Int→Int→Option ((List (List Int))×(List Int)×(List AX))
 |0,_,_=>none
 |i+1,c,a=>
 cond (decide (a<(↑p0_w.s.I.length:Int))) (
 (ix p0_w.s.I a).bind λd=>
 (FE N d.V).bind λg=>
 Eq N p0_w b i (BQ (c+g)) (BQ (a+1))) (
 b c)
def HX (N:Nat) (p0_w:AM) (k:Int) (l:Int) (d:Int) (i:List AX) (g:List (List Int)) (c:List Int) (m:Int→Int→(List AX)→(List (List Int))→(List Int)→Option ((List (List Int))×(List Int)×(List AX))) (a:Int):Option ((List (List Int))×(List Int)×(List AX)):=
 cond (decide (a≤0)) (
 m k l i g c) (
 (ix g d).bind λp=>
 (ix g d).bind λj=>
 (ix j 0).bind λn=>
 (ix j 0).bind λq=>
 (ix c 0).bind λt=>
 (ix c 0).bind λo=>
 (ix c 0).bind λu=>
 (ix c 0).bind λv=>
 chk (LI (↑p0_w.b.H.length:Int) (↑p0_w.b.H.length:Int) 8) <|
 (ix (List.replicate ((↑p0_w.b.H.length:Int):Int).toNat (0:Int)) 0).bind λw=>
 (ix (List.replicate ((↑p0_w.b.H.length:Int):Int).toNat (0:Int)) 0).bind λx=>
 chk (Ha (i.length+([(⟨p0_w.s.B,(-1),d,(-4),(upd (List.replicate ((↑p0_w.b.H.length:Int):Int).toNat (0:Int)) 0 a)⟩:AX)]:List AX).length) 56) <|
 m (BQ (k+a)) (BQ (l+a)) (i++([(⟨p0_w.s.B,(-1),d,(-4),(upd (List.replicate ((↑p0_w.b.H.length:Int):Int).toNat (0:Int)) 0 a)⟩:AX)]:List AX)) (upd g d (upd j 0 (BQ (n+a)))) (upd c 0 (BQ (o+a))))
def Ga (N:Nat) (a:Int) (j:Int→Int→Int→(List AX)→(List (List Int))→(List Int)→Option ((List (List Int))×(List Int)×(List AX))) (b:Int) (c:Int) (d:List AX) (g:List (List Int)) (i:List Int):Option ((List (List Int))×(List Int)×(List AX)):=
 j b c (BQ (a+1)) d g i
def DT (N:Nat) (p0_w:AM):Nat→Int→Int→Int→(List AX)→(List (List Int))→(List Int)→Option ((List (List Int))×(List Int)×(List AX))
 |0,_,_,_,_,_,_=>none
 |l+1,c,d,a,g,i,j=>
 cond (decide (a<(↑p0_w.b.A.length:Int))) (
 cond (decide (a<(↑p0_w.in_.T.length:Int))) (
 (ix p0_w.in_.T a).bind λk=>
 HX N p0_w c d a g i j (Ga N a (DT N p0_w l)) (min (min k (BQ (1125899906842624-c))) (BQ (1152921504606846976-d)))) (
 HX N p0_w c d a g i j (Ga N a (DT N p0_w l)) 0)) (
 some (i,j,g))
def Es (N:Nat) (p0_w:AM) (a:Int):Option ((List (List Int))×(List Int)×(List AX)):=
 (FE N p0_w.s.L).bind λb=>
 DT N p0_w N a b 0 p0_w.moves p0_w.s.G p0_w.s.L
def Et (N:Nat) (p0_w:AM) (a:Int):Option ((List (List Int))×(List Int)×(List AX)):=
 Eq N p0_w (Es N p0_w) N a 0
def Er (N:Nat) (p0_w:AM) (b:Int→Option ((List (List Int))×(List Int)×(List AX))):Nat→Int→Int→Option ((List (List Int))×(List Int)×(List AX))
 |0,_,_=>none
 |i+1,g,a=>
 cond (decide (a<(↑p0_w.s.G.length:Int))) (
 (ix p0_w.s.G a).bind λj=>
 (ix p0_w.s.G a).bind λc=>
 (FE N c).bind λd=>
 Er N p0_w b i (BQ (g+d)) (BQ (a+1))) (
 b g)
def Jk (N:Nat) (p0_w:AM):Option ((List (List Int))×(List Int)×(List AX)):=
 Er N p0_w (Et N p0_w) N 0 0
def IY (N:Nat) (a:List Int):Option (List Int):=
 some a
def Gu (N:Nat) (c:(List Int)) (d:(List Int)→Option (List Int)):Nat→Int→(List Int)→Option (List Int)
 |0,_,_=>none
 |k+1,a,b=>
 cond (decide (a<(↑c.length:Int))) (
 (ix c a).bind λg=>
 (ix b a).bind λl=>
 (ix b a).bind λi=>
 (H3 N i g).bind λj=>
 (ix b a).bind λm=>
 (ix b a).bind λn=>
 Gu N c d k (BQ (a+1)) (upd b a j)) (
 d b)
def Hq (N:Nat) (a:(List Int)) (b:(List Int)):Option (List Int):=
 chk (LI (max (↑a.length:Int) (↑b.length:Int)) (max (↑a.length:Int) (↑b.length:Int)) 8) <|
 Gu N b (IY N) N 0 (Pb (List.replicate ((max (↑a.length:Int) (↑b.length:Int)):Int).toNat (0:Int)) a)
def KG (N:Nat) (a:Int) (b:(List AT)→Int→(List (List Int))→Option ((List (List Int))×(List AT))) (c:List AT) (d:List (List Int)):Option ((List (List Int))×(List AT)):=
 b c (BQ (a+1)) d
def Gt (N:Nat) (d:(List AT)) (b:Int) (n:Int) (k:(List AT)→(List (List Int))→Option ((List (List Int))×(List AT))):Nat→(List AT)→Int→(List (List Int))→Option ((List (List Int))×(List AT))
 |0,_,_,_=>none
 |o+1,g,i,c=>
 cond (decide (i<(↑d.length:Int))) (
 (ix d i).bind λa=>
 cond (((decide (a.At≤b))&&(decide (0≤a.D)))&&(decide (a.D<n))) (
 (ix c a.D).bind λp=>
 (ix c a.D).bind λl=>
 (Hq N l a.V).bind λm=>
 (ix c a.D).bind λq=>
 (ix c a.D).bind λs=>
 KG N i (Gt N d b n k o) g (upd c a.D m)) (
 (BK N a.V).bind λj=>
 chk (Ha (g.length+([({ a with V:=j}:AT)]:List AT).length) 40) <|
 KG N i (Gt N d b n k o) (g++([({ a with V:=j}:AT)]:List AT)) c)) (
 k g c)
def In (N:Nat) (a:List AT) (b:List (List Int)):Option ((List (List Int))×(List AT)):=
 some (b,a)
def HT (N:Nat) (b:(List AT)) (a:Int) (d:Int) (c:List (List Int)):Option ((List (List Int))×(List AT)):=
 Gt N b a d (In N) N ([]:List AT) 0 c
def HS (N:Nat) (g:Int) (d:Int) (c:(List (List Int))→Option ((List (List Int))×(List AT))):Nat→Int→(List (List Int))→Option ((List (List Int))×(List AT))
 |0,_,_=>none
 |i+1,a,b=>
 cond (decide (a<(↑(List.replicate (g:Int).toNat ([]:(List Int))).length:Int))) (
 chk (LI d d 8) <|
 (ix b a).bind λj=>
 (ix b a).bind λk=>
 HS N g d c i (BQ (a+1)) (upd b a (List.replicate (d:Int).toNat (0:Int)))) (
 c b)
def MH (N:Nat) (d:(List AT)) (c:Int) (a:Int) (b:Int):Option ((List (List Int))×(List AT)):=
 (Ib N a 0 64).bind λg=>
 (Ib N b 0 16).bind λi=>
 chk (LI g g 24) <|
 HS N g i (HT N d c g) N 0 (List.replicate (g:Int).toNat ([]:(List Int)))
def Jm (N:Nat) (a:A4) (b:Bool):Option A4:=
 some ({ a with Am:=b}:A4)
def Hy (N:Nat) (b:BB) (a:A4) (c:Int):Option A4:=
 cond (decide (b.F≠3)) (
 some a) (
 cond (decide (b.Az≤c)) (
 Jm N a true) (
 cond (decide (c≤b.Ba)) (
 Jm N a false) (
 Jm N a a.Am)))
def Fy (N:Nat) (a:Int) (c:Int→(List A4)→Option ((List (List Int))×(List AT)×(List A4)×(List Int))) (b:List A4):Option ((List (List Int))×(List AT)×(List A4)×(List Int)):=
 c (BQ (a+1)) b
def Cu (N:Nat) (p0_w:AM) (j:(List (List Int))×(List AT)) (i:List (List Int)) (d:List Int):Nat→Int→(List A4)→Option ((List (List Int))×(List AT)×(List A4)×(List Int))
 |0,_,_=>none
 |n+1,a,c=>
 cond (decide (a<(↑p0_w.b.C.length:Int))) (
 (ix p0_w.b.C a).bind λg=>
 cond (decide (g.F=3)) (
 (ix c a).bind λo=>
 (ix c a).bind λk=>
 (ix d g.M).bind λp=>
 (ix d g.M).bind λl=>
 (Hy N g k l).bind λm=>
 (ix c a).bind λq=>
 (ix c a).bind λs=>
 Fy N a (Cu N p0_w j i d n) (upd c a m)) (
 Fy N a (Cu N p0_w j i d n) c)) (
 some (i,j.2,c,d))
def DX (N:Nat) (p0_w:AM) (c:(List (List Int))×(List AT)) (a:List (List Int)) (b:List Int):Option ((List (List Int))×(List AT)×(List A4)×(List Int)):=
 Cu N p0_w c a b N 0 p0_w.s.P
def DG (N:Nat) (p0_w:AM) (i:(List (List Int))×(List AT)) (j:(List (List Int))→(List Int)→Option ((List (List Int))×(List AT)×(List A4)×(List Int))):Nat→Int→(List (List Int))→(List Int)→Option ((List (List Int))×(List AT)×(List A4)×(List Int))
 |0,_,_,_=>none
 |w+1,a,c,d=>
 cond (decide (a<(↑p0_w.b.A.length:Int))) (
 (ix c a).bind λo=>
 (ix c a).bind λk=>
 (ix i.1 a).bind λp=>
 (ix i.1 a).bind λl=>
 (Hq N k l).bind λg=>
 (ix c a).bind λq=>
 (ix c a).bind λs=>
 (ix (upd c a g) a).bind λt=>
 (ix (upd c a g) a).bind λm=>
 (FE N m).bind λn=>
 (ix d a).bind λu=>
 (ix d a).bind λv=>
 DG N p0_w i j w (BQ (a+1)) (upd c a g) (upd d a n)) (
 j c d)
def F9 (N:Nat) (p0_w:AM):Option ((List (List Int))×(List AT)×(List A4)×(List Int)):=
 (MH N p0_w.s.I p0_w.s.B (↑p0_w.b.A.length:Int) (↑p0_w.b.H.length:Int)).bind λa=>
 DG N p0_w a (DX N p0_w a) N 0 p0_w.s.G p0_w.peaks
def H9 (N:Nat) (a:List Int):Option (List Int):=
 some a
def Gh (N:Nat) (a:(List Int)) (d:(List Int)→Option (List Int)):Nat→Int→(List Int)→Option (List Int)
 |0,_,_=>none
 |j+1,b,c=>
 cond (decide (b<(↑a.length:Int))) (
 (ix a b).bind λg=>
 (ix c b).bind λk=>
 (ix c b).bind λi=>
 (ix c b).bind λl=>
 (ix c b).bind λm=>
 Gh N a d j (BQ (b+1)) (upd c b (BQ (i-g)))) (
 d c)
def Io (N:Nat) (a:(List Int)) (b:(List Int)):Option (List Int):=
 chk (LI (↑a.length:Int) (↑a.length:Int) 8) <|
 Gh N b (H9 N) N 0 (Pb (List.replicate ((↑a.length:Int):Int).toNat (0:Int)) a)
def Jn (N:Nat) (a:(List Int)) (b:List Int):Option ((List Int)×(List Int)):=
 (Io N a b).bind λc=>
 some (b,c)
def ML (N:Nat) (b:(List Int)) (a:Int) (c:Int):Option ((List Int)×(List Int)):=
 chk (LI (↑b.length:Int) (↑b.length:Int) 8) <|
 (K0 N b a).bind λd=>
 cond (decide (0<(min c d))) (
 (ix (List.replicate ((↑b.length:Int):Int).toNat (0:Int)) a).bind λg=>
 (ix (List.replicate ((↑b.length:Int):Int).toNat (0:Int)) a).bind λi=>
 Jn N b (upd (List.replicate ((↑b.length:Int):Int).toNat (0:Int)) a (min c d))) (
 Jn N b (List.replicate ((↑b.length:Int):Int).toNat (0:Int)))
def EQ (N:Nat) (b:FM) (a:(List Int)):Option ((List Int)×(List Int)):=
 (ML N a b.Bh b.Bd).bind λc=>
 some (c.1,c.2)
def D8 (N:Nat) (a:List AD):Option (List AD):=
 some a
def G9 (N:Nat) (a:Int) (b:(List AD)→Int→Option (List AD)) (c:List AD):Option (List AD):=
 b c (BQ (a+1))
def Cw (N:Nat) (p0_w:AM) (a:Int) (g:(List AD)→Option (List AD)):Nat→(List AD)→Int→Option (List AD)
 |0,_,_=>none
 |j+1,i,d=>
 cond (decide (d<(↑p0_w.in_.U.length:Int))) (
 (ix p0_w.in_.U d).bind λc=>
 (cond (decide (c.Ap≠a)) (some true) ((HO N c.Bh (↑p0_w.b.H.length:Int)).bind λk=>
 some (!k))).bind λl=>
 cond (l||(decide (c.Bd≤0))) (
 G9 N d (Cw N p0_w a g j) i) (
 (cond (decide (c.D≠(-1))) ((HO N c.D (↑p0_w.b.A.length:Int)).bind λm=>
 (cond (!m) (some true) ((ix p0_w.b.A c.D).bind λn=>
 (ix p0_w.b.A a).bind λo=>
 some (decide (n.Au≠o.Au)))).bind λp=>
 some p) (some false)).bind λq=>
 cond q (
 G9 N d (Cw N p0_w a g j) i) (
 chk (Ha (i.length+1) 32) <|
 G9 N d (Cw N p0_w a g j) (i++([(⟨c.D,0,(-3),(λx=>EQ N c x)⟩:AD)]:List AD))))) (
 g i)
def JO (N:Nat) (p0_w:AM) (a:Int):Option (List AD):=
 Cw N p0_w a (D8 N) N ([]:List AD) 0
def IZ (N:Nat) (c:Int) (a:Int) (b:Int):Option Int:=
 (Gv N c a b).bind λd=>
 cond (!d.2.2) (
 some 0) (
 some d.1)
def MM (N:Nat) (b:BB) (a:Int) (c:Int):Option Int:=
 cond (decide (b.D=(-1))) (
 some a) (
 (IZ N c b.Aq b.Al).bind λd=>
 (Hi N a d).bind λg=>
 some (max 0 g))
def M6 (N:Nat) (a:(List By)) (b:Int):Option Int:=
 (Fa N a).bind λc=>
 cond (!c) (
 some 0) (
 (Jd N a b).bind λd=>
 some d.1)
def Jp (N:Nat):Option Int:=
 some 0
def Jo (N:Nat) (a:BB) (b:Int):Option Int:=
 (Hi N b a.Bc).bind λd=>
 (IZ N (max 0 d) a.Y a.S).bind λc=>
 some c
def LU (N:Nat) (a:Bool) (b:Option Int):Option Int:=
 cond (!a) (
 some 0) (
 b)
def LT (N:Nat) (c:BB) (a:Bool) (b:Int) (d:Option Int):Option Int:=
 cond a (
 (IZ N b c.Y c.S).bind λg=>
 some g) (
 d)
def LS (N:Nat) (b:BB) (a:Int):Option Int:=
 (IZ N b.Y a b.W).bind λc=>
 some c
def LR (N:Nat) (a:BB) (c:Int) (g:(List By)) (b:Int) (d:Int):Option Int:=
 (MM N a b d).bind λi=>
 (M6 N g i).bind λj=>
 (IZ N j c a.W).bind λk=>
 (H3 N k a.Bb).bind λl=>
 some l
def MN (N:Nat) (a:BB) (d:Int) (c:Bool) (i:(List By)) (b:Int) (g:Int):Option Int:=
 cond (decide (a.F=0)) (
 LR N a d i b g) (
 cond (decide (a.F=2)) (
 LS N a d) (
 cond (decide (a.F=3)) (
 LT N a c b (Jp N)) (
 cond (decide (a.F=5)) (
 LU N c (Jo N a b)) (
 cond (decide (a.F=1)) (
 Jo N a b) (
 Jp N)))))
def M5 (N:Nat) (b:BB) (c:A4) (a:Int) (d:Int):Option Int:=
 (MN N b c.Z c.Am b.As a d).bind λg=>
 some g
def Hx (N:Nat) (a:Int):Option Int:=
 some a
def GN (N:Nat) (c:Int) (a:(List Int)) (n:Int) (k:Int→(List Int)→(List Int)→(List Int)→Option ((List Int)×Bool)):Nat→Int→Int→(List Int)→(List Int)→(List Int)→Option ((List Int)×Bool)
 |0,_,_,_,_,_=>none
 |v+1,l,b,g,i,j=>
 cond (decide (b<(↑a.length:Int))) (
 (ix a b).bind λm=>
 (Gv N c m n).bind λd=>
 (ix j b).bind λo=>
 (ix j b).bind λp=>
 (ix i b).bind λq=>
 (ix i b).bind λs=>
 (ix g b).bind λt=>
 (ix g b).bind λu=>
 GN N c a n k v (BQ (l-d.1)) (BQ (b+1)) (upd g b b) (upd i b d.2.1) (upd j b d.1)) (
 k l g i j)
def GM (N:Nat) (c:List Int) (g:(List Int)→Option ((List Int)×Bool)):Nat→Int→(List Int)→Option ((List Int)×Bool)
 |0,_,_=>none
 |m+1,d,a=>
 cond (decide (d<(↑c.length:Int))) (
 (ix c d).bind λb=>
 (ix a b).bind λj=>
 (ix a b).bind λi=>
 (ix a b).bind λk=>
 (ix a b).bind λl=>
 GM N c g m (BQ (d+1)) (upd a b (BQ (i+1)))) (
 g a)
def Hr (N:Nat) (a:List Int):Option ((List Int)×Bool):=
 some (a,true)
def GP (N:Nat) (c:Int) (d:List Int) (g:List Int) (i:List Int):Option ((List Int)×Bool):=
 (Sn d g).bind λa=>
 (yZ a c).bind λb=>
 GM N b (Hr N) N 0 i
def GQ (N:Nat) (b:Int) (a:(List Int)) (c:Int):Option ((List Int)×Bool):=
 cond ((decide (b<0))||(decide (c<b))) (
 some (([]:List Int),false)) (
 chk (LI (↑a.length:Int) (↑a.length:Int) 8) <|
 cond (decide (c=0)) (
 some ((List.replicate ((↑a.length:Int):Int).toNat (0:Int)),true)) (
 chk (LI (↑a.length:Int) (↑a.length:Int) 8) <|
 chk (LI (↑a.length:Int) (↑a.length:Int) 8) <|
 GN N b a c (GP N) N b 0 (List.replicate ((↑a.length:Int):Int).toNat (0:Int)) (List.replicate ((↑a.length:Int):Int).toNat (0:Int)) (List.replicate ((↑a.length:Int):Int).toNat (0:Int))))
def GO (N:Nat) (a:(List Int)) (g:Int→Option ((List Int)×Bool)):Nat→Int→Int→Option ((List Int)×Bool)
 |0,_,_=>none
 |i+1,b,c=>
 cond (decide (c<(↑a.length:Int))) (
 (ix a c).bind λd=>
 cond ((decide (d<0))||(decide ((BQ (1125899906842624-b))<d))) (
 some (([]:List Int),false)) (
 GO N a g i (BQ (b+d)) (BQ (c+1)))) (
 g b)
def Ki (N:Nat) (b:Int) (a:(List Int)):Option ((List Int)×Bool):=
 cond (decide (64<(↑a.length:Int))) (
 some (([]:List Int),false)) (
 GO N a (GQ N b a) N 0 0)
def H2 (N:Nat) (a:(List Int)) (b:List Int):Option ((List Int)×(List Int)):=
 (Io N a b).bind λc=>
 some (b,c)
def KH (N:Nat) (a:(List Int)→Option ((List Int)×(List Int))) (b:List Int):Option ((List Int)×(List Int)):=
 a b
def MJ (N:Nat) (a:(List Int)) (b:Int):Option ((List Int)×(List Int)):=
 chk (LI (↑a.length:Int) (↑a.length:Int) 8) <|
 (cond ((decide (0<b))&&(decide ((↑a.length:Int)≤64))) ((JQ N a).bind λd=>
 some d) (some false)).bind λg=>
 cond g (
 (FE N a).bind λi=>
 (Ki N (min b i) a).bind λc=>
 cond c.2 (
 KH N (H2 N a) (Pb (List.replicate ((↑a.length:Int):Int).toNat (0:Int)) c.1)) (
 KH N (H2 N a) (List.replicate ((↑a.length:Int):Int).toNat (0:Int)))) (
 H2 N a (List.replicate ((↑a.length:Int):Int).toNat (0:Int)))
def AL (N:Nat) (b:Int) (a:(List Int)):Option ((List Int)×(List Int)):=
 (MJ N a b).bind λc=>
 some (c.1,c.2)
def LG (N:Nat) (c:Int) (a:Int) (b:Int):Option Int:=
 (Gv N c a b).bind λd=>
 cond (!d.2.2) (
 some 0) (
 some d.1)
def Lt (N:Nat) (a:BB) (b:Int) (c:Int):Option Int:=
 cond (decide (a.F≠4)) (
 some 0) (
 (LG N b a.Y a.S).bind λd=>
 (LG N c a.Aq a.Al).bind λg=>
 some (BQ (d-g)))
def EA (N:Nat) (a:List AD):Option (List AD):=
 some a
def H1 (N:Nat) (p0_w:AM) (c:Int) (m:List AD) (b:Int) (a:BB) (g:(List AD)→Option (List AD)) (i:Int):Option (List AD):=
 (ix p0_w.s.P b).bind λn=>
 (ix p0_w.s.P b).bind λj=>
 (ix p0_w.peaks c).bind λo=>
 (ix p0_w.peaks c).bind λk=>
 (M5 N a j k i).bind λl=>
 (Hx N l).bind λd=>
 chk (Ha (m.length+([(⟨a.D,a.R,b,(λx=>AL N d x)⟩:AD)]:List AD).length) 32) <|
 g (m++([(⟨a.D,a.R,b,(λx=>AL N d x)⟩:AD)]:List AD))
def ES (N:Nat) (a:Int) (b:(List AD)→Int→Option (List AD)) (c:List AD):Option (List AD):=
 b c (BQ (a+1))
def CP (N:Nat) (p0_w:AM) (c:Int) (g:(List AD)→Option (List AD)):Nat→(List AD)→Int→Option (List AD)
 |0,_,_=>none
 |l+1,i,d=>
 cond (decide (d<(↑p0_w.b.C.length:Int))) (
 (ix p0_w.b.C d).bind λa=>
 cond ((decide (a.M=c))&&(decide (a.F≠4))) (
 cond (decide (a.D≠(-1))) (
 (ix p0_w.peaks a.D).bind λA=>
 (ix p0_w.peaks a.D).bind λu=>
 H1 N p0_w c i d a (ES N d (CP N p0_w c g l)) u) (
 H1 N p0_w c i d a (ES N d (CP N p0_w c g l)) 0)) (
 cond (decide (a.M=c)) (
 (ix p0_w.peaks c).bind λv=>
 (ix p0_w.peaks c).bind λm=>
 (ix p0_w.peaks a.D).bind λw=>
 (ix p0_w.peaks a.D).bind λn=>
 (Lt N a m n).bind λo=>
 (Hx N o).bind λj=>
 chk (Ha (i.length+([(⟨a.D,a.R,d,(λx=>AL N j x)⟩:AD)]:List AD).length) 32) <|
 ES N d (CP N p0_w c g l) (i++([(⟨a.D,a.R,d,(λx=>AL N j x)⟩:AD)]:List AD))) (
 cond ((decide (a.D=c))&&(decide (a.F=4))) (
 (ix p0_w.peaks a.M).bind λy=>
 (ix p0_w.peaks a.M).bind λp=>
 (ix p0_w.peaks c).bind λz=>
 (ix p0_w.peaks c).bind λq=>
 (Lt N a p q).bind λs=>
 (Hi N 0 s).bind λt=>
 (Hx N t).bind λk=>
 chk (Ha (i.length+([(⟨a.M,a.R,d,(λx=>AL N k x)⟩:AD)]:List AD).length) 32) <|
 ES N d (CP N p0_w c g l) (i++([(⟨a.M,a.R,d,(λx=>AL N k x)⟩:AD)]:List AD))) (
 ES N d (CP N p0_w c g l) i)))) (
 g i)
def JP (N:Nat) (p0_w:AM) (a:Int):Option (List AD):=
 CP N p0_w a (EA N) N ([]:List AD) 0
def CZ (N:Nat) (a:List AD):Option (List AD):=
 some a
def Cx (N:Nat) (a:Int):Option (List AD):=
 cond (decide (a<0)) (
 none) (
 cond (decide (0<(BQ (a-(BQ (0-0)))))) (
 chk (decide (0<(BQ (a-(BQ (0-0)))))) <|
 chk (Ha ((BQ (a-(BQ (0-0)))):Int).toNat 32) <|
 CZ N ([]:List AD)) (
 CZ N ([]:List AD)))
def CA (N:Nat) (a:(List (List AD))) (d:(List AD)→Option (List AD)):Nat→(List AD)→Int→Option (List AD)
 |0,_,_=>none
 |i+1,b,c=>
 cond (decide (c<(↑a.length:Int))) (
 (ix a c).bind λg=>
 chk (Ha (b.length+g.length) 32) <|
 CA N a d i (b++g) (BQ (c+1))) (
 d b)
def DH (N:Nat) (a:List AD):Option (List AD):=
 some a
def CR (N:Nat) (a:(List (List AD))) (c:Int):Option (List AD):=
 (Cx N c).bind λb=>
 CA N a (DH N) N b 0
def CB (N:Nat) (a:(List (List AD))) (c:Int→Option (List AD)):Nat→Int→Int→Option (List AD)
 |0,_,_=>none
 |i+1,g,b=>
 cond (decide (b<(↑a.length:Int))) (
 (ix a b).bind λd=>
 cond (decide ((BQ (g+(↑d.length:Int)))<0)) (
 none) (
 CB N a c i (BQ (g+(↑d.length:Int))) (BQ (b+1)))) (
 c g)
def Ck (N:Nat) (a:(List (List AD))):Option (List AD):=
 CB N a (CR N a) N 0 0
def E6 (N:Nat):Option Int:=
 some (-1)
def Do (N:Nat) (a:(List Int)) (b:(Int→Option Bool)) (c:Option Int):Nat→Int→Option Int
 |0,_=>none
 |j+1,d=>
 cond (decide (d<(↑a.length:Int))) (
 (ix a d).bind λg=>
 (b g).bind λi=>
 cond i (
 some d) (
 Do N a b c j (BQ (d+1)))) (
 c)
def GA (N:Nat) (a:(List Int)) (b:(Int→Option Bool)):Option Int:=
 Do N a b (E6 N) N 0
def Gg (N:Nat) (a:(List Int)) (b:(Int→Option Bool)):Option Bool:=
 (GA N a b).bind λc=>
 some (decide (0≤c))
def Im (N:Nat) (a:Int):Option Bool:=
 some (decide (0<a))
def LP (N:Nat) (c:Int) (b:Int) (a:(List Int)):Option (List AT):=
 (cond (decide (b<0)) (some true) ((Gg N a (λx=>Im N x)).bind λg=>
 some (!g))).bind λi=>
 cond i (
 some ([]:List AT)) (
 (BK N a).bind λd=>
 chk (Ha (([]:List AT).length+1) 40) <|
 some (([]:List AT)++([(⟨c,b,d⟩:AT)]:List AT)))
def Ho (N:Nat) (p0_w:AM) (a:Int) (b:AD):Option ((List (List Int))×(List Int)×(List AX)×(List AT)):=
 (ix p0_w.s.G a).bind λm=>
 (ix p0_w.s.G a).bind λj=>
 (b.take j).bind λc=>
 (ix p0_w.s.G a).bind λk=>
 (ix p0_w.s.G a).bind λl=>
 (FE N c.1).bind λg=>
 cond (decide (g≤0)) (
 some ((upd p0_w.s.G a c.2),p0_w.s.O,p0_w.moves,p0_w.sent)) (
 chk (Ha (p0_w.moves.length+([(⟨p0_w.s.B,a,b.to_,b.way,c.1⟩:AX)]:List AX).length) 56) <|
 cond (decide (b.to_=(-1))) (
 (Hq N p0_w.s.O c.1).bind λi=>
 some ((upd p0_w.s.G a c.2),i,(p0_w.moves++([(⟨p0_w.s.B,a,b.to_,b.way,c.1⟩:AX)]:List AX)),p0_w.sent)) (
 (LP N (BQ ((BQ (p0_w.s.B+1))+b.delay)) b.to_ c.1).bind λd=>
 chk (Ha (p0_w.sent.length+d.length) 40) <|
 some ((upd p0_w.s.G a c.2),p0_w.s.O,(p0_w.moves++([(⟨p0_w.s.B,a,b.to_,b.way,c.1⟩:AX)]:List AX)),(p0_w.sent++d))))
def Hp (N:Nat) (a:Cp) (b:Int×Int×Bool) (c:Int):Option (Int×Int):=
 cond (decide ((BQ (b.2.1+c))<a.S)) (
 some (b.1,(BQ (b.2.1+c)))) (
 some ((BQ (b.1+1)),(BQ ((BQ (b.2.1+c))-a.S))))
def Jc (N:Nat) (a:Cp) (d:Int) (b:Int):Option (Int×Int):=
 (Gv N d a.Y a.S).bind λc=>
 cond (!c.2.2) (
 some (0,0)) (
 cond ((decide (0≤b))&&(decide (b<a.S))) (
 Hp N a c b) (
 Hp N a c 0))
def E5 (N:Nat) (p0_w:AM) (d:Int) (o:Cp) (g:List (List Int)) (i:List Int) (j:List AX) (k:List AT) (l:Int×Int) (n:(List (List Int))→(List Int)→(List AX)→(List AT)→(List Int)→Option ((List (List Int))×(List Int)×(List Int)×(List AX)×(List AT))) (c:List Int):Option ((List (List Int))×(List Int)×(List Int)×(List AX)×(List AT)):=
 (Hx N l.1).bind λm=>
 (Ho N (⟨p0_w.b,p0_w.in_,(⟨p0_w.s.B,g,c,p0_w.s.I,p0_w.s.P,p0_w.s.L,i⟩:AI),j,p0_w.peaks,k⟩:AM) d (⟨o.Ao,o.R,(-1),(λx=>AL N m x)⟩:AD)).bind λa=>
 n a.1 a.2.1 a.2.2.1 a.2.2.2 c
def DW (N:Nat) (p0_w:AM) (d:Int) (o:Cp) (a:List (List Int)) (i:List Int) (j:List AX) (k:List AT) (g:List Int):Option ((List (List Int))×(List Int)×(List Int)×(List AX)×(List AT)):=
 (ix a d).bind λp=>
 (ix a d).bind λm=>
 (FE N m).bind λl=>
 cond (decide (0<(BQ (l-o.Av)))) (
 (Hx N (BQ (l-o.Av))).bind λn=>
 (Ho N (⟨p0_w.b,p0_w.in_,(⟨p0_w.s.B,a,g,p0_w.s.I,p0_w.s.P,p0_w.s.L,i⟩:AI),j,p0_w.peaks,k⟩:AM) d (⟨o.Ao,o.R,(-2),(λx=>AL N n x)⟩:AD)).bind λc=>
 some (c.1,g,c.2.1,c.2.2.1,c.2.2.2)) (
 some (a,g,i,j,k))
def F8 (N:Nat) (p0_w:AM) (a:Int) (j:Cp) (b:List (List Int)) (d:List Int) (g:List AX) (i:List AT):Option ((List (List Int))×(List Int)×(List Int)×(List AX)×(List AT)):=
 cond (decide (j.S≠0)) (
 (ix p0_w.peaks a).bind λo=>
 (ix p0_w.peaks a).bind λk=>
 (ix p0_w.s.N a).bind λp=>
 (ix p0_w.s.N a).bind λl=>
 (Jc N j k l).bind λc=>
 (ix p0_w.s.N a).bind λq=>
 (ix p0_w.s.N a).bind λt=>
 (ix b a).bind λu=>
 (ix b a).bind λm=>
 (FE N m).bind λn=>
 cond (decide (c.1≤n)) (
 (ix (upd p0_w.s.N a 0) a).bind λv=>
 (ix (upd p0_w.s.N a 0) a).bind λw=>
 E5 N p0_w a j b d g i c (DW N p0_w a j) (upd (upd p0_w.s.N a 0) a c.2)) (
 E5 N p0_w a j b d g i c (DW N p0_w a j) (upd p0_w.s.N a 0))) (
 DW N p0_w a j b d g i p0_w.s.N)
def Dn (N:Nat) (p0_w:AM) (g:Int) (d:(List AD)) (m:(List (List Int))→(List Int)→(List AX)→(List AT)→Option ((List (List Int))×(List Int)×(List Int)×(List AX)×(List AT))):Nat→Int→(List (List Int))→(List Int)→(List AX)→(List AT)→Option ((List (List Int))×(List Int)×(List Int)×(List AX)×(List AT))
 |0,_,_,_,_,_=>none
 |p+1,a,i,j,k,l=>
 cond (decide (a<(↑d.length:Int))) (
 (ix d a).bind λo=>
 (ix d a).bind λn=>
 (Ho N (⟨p0_w.b,p0_w.in_,(⟨p0_w.s.B,i,p0_w.s.N,p0_w.s.I,p0_w.s.P,p0_w.s.L,j⟩:AI),k,p0_w.peaks,l⟩:AM) g n).bind λc=>
 Dn N p0_w g d m p (BQ (a+1)) c.1 c.2.1 c.2.2.1 c.2.2.2) (
 m i j k l)
def HR (N:Nat) (p0_w:AM) (a:Int):Option ((List (List Int))×(List Int)×(List Int)×(List AX)×(List AT)):=
 (ix p0_w.b.A a).bind λi=>
 (JO N p0_w a).bind λc=>
 (JP N p0_w a).bind λd=>
 (Ck N ([c,d]:List (List AD))).bind λg=>
 Dn N p0_w a g (F8 N p0_w a i) N 0 p0_w.s.G p0_w.s.O p0_w.moves p0_w.sent
def FP (N:Nat) (k:AI) (c:(List (List Int))×(List Int)×(List AX)) (a:(List (List Int))×(List AT)×(List A4)×(List Int)) (d:List (List Int)) (g:List Int) (i:List Int) (j:List AX) (b:List AT):Option (AI×(List AX)×(List Int)):=
 chk (Ha (a.2.1.length+b.length) 40) <|
 some ((⟨(BQ (k.B+1)),d,g,(a.2.1++b),a.2.2.1,c.2.1,i⟩:AI),j,a.2.2.2)
def FO (N:Nat) (c:AF) (d:B3) (o:AI) (i:(List (List Int))×(List Int)×(List AX)) (b:(List (List Int))×(List AT)×(List A4)×(List Int)) (p:(List (List Int))→(List Int)→(List Int)→(List AX)→(List AT)→Option (AI×(List AX)×(List Int))):Nat→Int→(List (List Int))→(List Int)→(List Int)→(List AX)→(List AT)→Option (AI×(List AX)×(List Int))
 |0,_,_,_,_,_,_=>none
 |q+1,g,j,k,l,m,n=>
 cond (decide (g<(↑c.A.length:Int))) (
 (HR N (⟨c,d,(⟨o.B,j,k,b.2.1,b.2.2.1,i.2.1,l⟩:AI),m,b.2.2.2,n⟩:AM) g).bind λa=>
 FO N c d o i b p q (BQ (g+1)) a.1 a.2.1 a.2.2.1 a.2.2.2.1 a.2.2.2.2) (
 p j k l m n)
def He (N:Nat) (a:AF) (j:AI) (c:B3):Option (AI×(List AX)×(List Int)):=
 (Kh N j).bind λb=>
 chk (LI (↑a.A.length:Int) (↑a.A.length:Int) 8) <|
 (HQ N (⟨a,c,b,([]:List AX),(List.replicate ((↑a.A.length:Int):Int).toNat (0:Int)),([]:List AT)⟩:AM)).bind λg=>
 (Fu N (⟨a,c,({ b with P:=g}:AI),([]:List AX),(List.replicate ((↑a.A.length:Int):Int).toNat (0:Int)),([]:List AT)⟩:AM)).bind λk=>
 (Jk N (⟨a,c,(⟨b.B,k,b.N,b.I,g,b.L,b.O⟩:AI),([]:List AX),(List.replicate ((↑a.A.length:Int):Int).toNat (0:Int)),([]:List AT)⟩:AM)).bind λd=>
 (F9 N (⟨a,c,(⟨b.B,d.1,b.N,b.I,g,d.2.1,b.O⟩:AI),d.2.2,(List.replicate ((↑a.A.length:Int):Int).toNat (0:Int)),([]:List AT)⟩:AM)).bind λi=>
 FO N a c b d i (FP N b d i) N 0 i.1 b.N b.O d.2.2 ([]:List AT)
def Eu (N:Nat) (vs:List (Int×Dv)) (p:Int) (ks:List Int) (inp:B3) (fd:Int→Option (Int×Int×Option Ey)) (kj:Option (Int×Int×Option Ey)):Nat→Int→Option (Int×Int×Option Ey)
 |0,_=>none
 |n+1,i=>cond (decide (i<(ks.length:Int))) ((ix ks i).bind λk=>cond (decide (k=p)) none ((Cc vs k).bind λx=>(Ip N x.inp inp).bind λy=>cond y (fd k) (Eu N vs p ks inp fd kj n (BQ (i+1))))) kj
def IJ (N:Nat) (t:Ey) (p:Int) (inp:B3) (x:Dv):Option (Int×Int×Option Ey):=
 cond (decide (4096≤(t.vs.length:Int))) (some (0,8,some t)) ((Ir N inp).bind λa=>(He N t.bas x.st a).bind λy=>cond (Cc t.vs t.cr).isSome none (chk (Ha (x.kids.length+1) 8) (some (t.cr,0,some ⟨t.bas,NK t.vs p { x with kids:=x.kids++[t.cr]}++[(t.cr,⟨p,a,y.1,[]⟩)],BQ (t.cr+1)⟩))))
def Cz (N:Nat) (t:Option Ey) (p:Int) (inp:B3):Option (Int×Int×Option Ey):=t.bind λt=>cond (!(Cc t.vs p).isSome) (some (0,11,some t)) ((Cc t.vs p).bind λx=>cond (decide (x.st.B=16777216)) (some (0,15,some t)) (Eu N t.vs p x.kids inp (λk=>some (k,0,some t)) (IJ N t p inp x) N 0))
def GR (N:Nat) (t:Option Ey) (id:Int):Option (AI×Int):=t.bind λt=>cond (!(Cc t.vs id).isSome) (some (st0,11)) ((Cc t.vs id).bind λx=>some (x.st,0))
def D5 (N:Nat):Nat→Int→Int→(List Int)→Option (List Int)
 |0,_,_,_=>none
 |i+1,b,c,a=>
 cond (decide (b<c)) (
 (ix a c).bind λj=>
 (ix a c).bind λd=>
 (ix a b).bind λk=>
 (ix a b).bind λg=>
 (ix a b).bind λl=>
 (ix a b).bind λm=>
 (ix (upd a b d) c).bind λn=>
 (ix (upd a b d) c).bind λo=>
 D5 N i (BQ (b+1)) (BQ (c-1)) (upd (upd a b d) c g)) (
 some a)
def Gs (N:Nat) (a:(List Int)):Option (List Int):=
 D5 N N 0 (BQ ((↑a.length:Int)-1)) a
def Dp (N:Nat) (vs:List (Int×Dv)):Nat→List Int→Int→Option (List Int)
 |0,_,_=>none
 |n+1,l,id=>cond (Cc vs id).isSome ((Cc vs id).bind λx=>chk (Ha (l.length+1) 8) (Dp N vs n (l++[id]) x.par)) (some l)
def GD (N:Nat) (t:Option Ey) (id:Int):Option (List Int):=t.bind λt=>(Dp N t.vs N [] id).bind λl=>Gs N l
def Iy (N:Nat) (a:Int):Option Int:=
 some a
def Hm (N:Nat) (b:List Int) (d:List Int) (c:Int→Option Int):Nat→Int→Int→Option Int
 |0,_,_=>none
 |m+1,g,a=>
 (cond ((decide (a<(↑b.length:Int)))&&(decide (a<(↑d.length:Int)))) ((ix b a).bind λn=>
 (ix b a).bind λi=>
 (ix d a).bind λo=>
 (ix d a).bind λj=>
 some (decide (i=j))) (some false)).bind λk=>
 cond k (
 (ix b a).bind λp=>
 (ix b a).bind λl=>
 Hm N b d c m l (BQ (a+1))) (
 c g)
def K1 (N:Nat) (a:(Option Ey)) (b:Int) (c:Int):Option Int:=
 (GD N a b).bind λd=>
 (GD N a c).bind λg=>
 Hm N d g (Iy N) N (-1) 0
def D1 (vs:List (Int×Dv)):Nat→List Int→Int→Option (List Int)
 |0,_,_=>none
 |n+1,ks,id=>cond ((Cc vs id).isSome&& !(ks.contains id)) ((Cc vs id).bind λx=>D1 vs n (ks++[id]) x.par) (some ks)
def EG (N:Nat) (vs:List (Int×Dv)) (keep:List Int):Nat→List Int→Int→Option (List Int)
 |0,_,_=>none
 |n+1,ks,i=>cond (decide (i<(keep.length:Int))) ((ix keep i).bind λid=>(D1 vs N ks id).bind λa=>EG N vs keep n a (BQ (i+1))) (some ks)
def HY (N:Nat) (t:Option Ey) (keep:List Int):Option (Option Ey):=t.bind λt=>(EG N t.vs keep N (cond (Cc t.vs 0).isSome [0] []) 0).bind λks=>some (some ⟨t.bas,Lm t.vs ks,t.cr⟩)
def It (N:Nat) (t:Option Ey):Option Int:=t.bind λt=>some (max 0 (BQ (t.cr-1)))
def LV (N:Nat) (t:Option Ey):Option Int:=t.bind λt=>chk (decide (t.vs.length≤4611686018427387904)) (some (t.vs.length:Int))
def Iz (N:Nat):Option Bool:=
 some true
def Hn (N:Nat) (a:(List Int)) (b:(List Int)) (c:Option Bool):Nat→Int→Option Bool
 |0,_=>none
 |j+1,d=>
 cond (decide (d<(↑a.length:Int))) (
 (ix a d).bind λg=>
 (ix b d).bind λi=>
 cond (decide (g≠i)) (
 some false) (
 Hn N a b c j (BQ (d+1)))) (
 c)
def K2 (N:Nat) (a:(List Int)) (b:(List Int)):Option Bool:=
 cond (decide ((↑a.length:Int)≠(↑b.length:Int))) (
 some false) (
 Hn N a b (Iz N) N 0)
def Jy (N:Nat) (a:(List Int)) (b:(List Int)):Option Bool:=
 (K2 N a b).bind λc=>
 some c
def Fb (N:Nat):Option Bool:=
 (Kb N).bind λI=>
 (N9 N I 0).bind λH=>
 (KT N I H).bind λk=>
 cond ((k).isNone) (
 some false) (
 (Cz N k 0 (⟨([50]:List Int),[],[],[],[]⟩:B3)).bind λb=>
 (Cz N b.2.2 0 (⟨[],[],[],[],[]⟩:B3)).bind λc=>
 (Cz N c.2.2 b.1 (⟨[],[],[],[],[]⟩:B3)).bind λa=>
 (Cz N a.2.2 0 (⟨([50]:List Int),[],[],[],[]⟩:B3)).bind λi=>
 (Cz N i.2.2 9 (⟨[],[],[],[],[]⟩:B3)).bind λd=>
 (GR N d.2.2 a.1).bind λg=>
 (cond (((((((decide (b.2.1≠0))||(decide (c.2.1≠0)))||(decide (a.2.1≠0)))||(decide (i.2.1≠0)))||(decide (g.2≠0)))||(decide (d.2.1≠11)))||(decide ((↑g.1.G.length:Int)≠1))) (some true) ((ix g.1.G 0).bind λl=>
 some (decide ((↑l.length:Int)≠1)))).bind λm=>
 (cond m (some true) ((ix g.1.G 0).bind λn=>
 (ix n 0).bind λo=>
 some (decide (o≠122)))).bind λp=>
 cond p (
 some false) (
 (GD N d.2.2 a.1).bind λq=>
 (K1 N d.2.2 a.1 c.1).bind λs=>
 (HY N d.2.2 ([c.1]:List Int)).bind λj=>
 (GR N j b.1).bind λt=>
 (cond (decide (b.1=1)) (some (decide (c.1=2))) (some false)).bind λu=>
 (cond u (some (decide (a.1=3))) (some false)).bind λv=>
 (cond v (some (decide (i.1=1))) (some false)).bind λw=>
 (cond w ((It N j).bind λx=>
 some (decide (x=3))) (some false)).bind λy=>
 (cond y ((LV N j).bind λz=>
 some (decide (z=2))) (some false)).bind λA=>
 (cond A ((Jy N q ([0,1,3]:List Int)).bind λB=>
 some B) (some false)).bind λC=>
 (cond C (some (decide (s=0))) (some false)).bind λD=>
 (cond D (some (decide (t.2=11))) (some false)).bind λF=>
 some F))
def HL (N:Nat):Option Bool:=
 some true
def E9 (N:Nat) (a:(List BS)) (d:Option Bool):Nat→Int→Option Bool
 |0,_=>none
 |j+1,c=>
 cond (decide (c<(↑a.length:Int))) (
 (ix a c).bind λb=>
 (cond (((((decide (8<(↑b.L.T.length:Int)))||(decide (6<(↑b.L.Ab.length:Int))))||(decide (6<(↑b.L.Ac.length:Int))))||(decide (6<(↑b.L.U.length:Int))))||(decide (6<(↑b.L.Ae.length:Int)))) (some true) ((ix a c).bind λg=>
 some (decide (8<(↑g.Bn.length:Int))))).bind λi=>
 cond i (
 some false) (
 E9 N a d j (BQ (c+1)))) (
 d)
def JT (N:Nat) (a:AF) (b:(List BS)):Option Bool:=
 cond (((decide (6<(↑a.A.length:Int)))||(decide (6<(↑a.C.length:Int))))||(decide (16<(↑b.length:Int)))) (
 some false) (
 E9 N b (HL N) N 0)
def IK (N:Nat) (a:AF) (b:AI):Option (Option Ey):=
 (Gx N a).bind λc=>
 (cond (!c) (some true) ((KQ N a b).bind λd=>
 some (!d))).bind λg=>
 cond g (
 some (none:Option Ey)) (
 (KT N a b).bind λi=>
 some i)
def Db (N:Nat):Option Bool:=
 some true
def CG (N:Nat) (a:(List (List Int))) (b:(List (List Int))) (c:(((List Int)×(List Int))→Option Bool)) (g:Option Bool):Nat→Int→Option Bool
 |0,_=>none
 |l+1,d=>
 cond (decide (d<(↑a.length:Int))) (
 (ix a d).bind λi=>
 (ix b d).bind λj=>
 (c (i,j)).bind λk=>
 cond (!k) (
 some false) (
 CG N a b c g l (BQ (d+1)))) (
 g)
def Dx (N:Nat) (a:(List (List Int))) (b:(List (List Int))) (c:(((List Int)×(List Int))→Option Bool)):Option Bool:=
 cond (decide ((↑a.length:Int)≠(↑b.length:Int))) (
 some false) (
 CG N a b c (Db N) N 0)
def BD (N:Nat):Option Bool:=
 some true
def AO (N:Nat) (a:(List AT)) (b:(List AT)) (c:((AT×AT)→Option Bool)) (g:Option Bool):Nat→Int→Option Bool
 |0,_=>none
 |l+1,d=>
 cond (decide (d<(↑a.length:Int))) (
 (ix a d).bind λi=>
 (ix b d).bind λj=>
 (c (i,j)).bind λk=>
 cond (!k) (
 some false) (
 AO N a b c g l (BQ (d+1)))) (
 g)
def BG (N:Nat) (a:(List AT)) (b:(List AT)) (c:((AT×AT)→Option Bool)):Option Bool:=
 cond (decide ((↑a.length:Int)≠(↑b.length:Int))) (
 some false) (
 AO N a b c (BD N) N 0)
def Cj (N:Nat):Option Bool:=
 some true
def BP (N:Nat) (a:(List A4)) (b:(List A4)) (c:Option Bool):Nat→Int→Option Bool
 |0,_=>none
 |j+1,d=>
 cond (decide (d<(↑a.length:Int))) (
 (ix a d).bind λg=>
 (ix b d).bind λi=>
 cond (!(Qt g.v i.v)) (
 some false) (
 BP N a b c j (BQ (d+1)))) (
 c)
def C4 (N:Nat) (a:(List A4)) (b:(List A4)):Option Bool:=
 cond (decide ((↑a.length:Int)≠(↑b.length:Int))) (
 some false) (
 BP N a b (Cj N) N 0)
def Hc (N:Nat) (a:AT) (b:AT):Option Bool:=
 (cond ((decide (a.At=b.At))&&(decide (a.D=b.D))) ((CQ N a.V b.V).bind λc=>
 some c) (some false)).bind λd=>
 some d
def LE (N:Nat) (a:AI) (b:AI):Option Bool:=
 (cond (decide (a.B=b.B)) ((Dx N a.G b.G (λx=>CQ N x.1 x.2)).bind λc=>
 some c) (some false)).bind λd=>
 (cond d ((CQ N a.N b.N).bind λg=>
 some g) (some false)).bind λi=>
 (cond i ((BG N a.I b.I (λx=>Hc N x.1 x.2)).bind λj=>
 some j) (some false)).bind λk=>
 (cond k ((C4 N a.P b.P).bind λl=>
 some l) (some false)).bind λm=>
 (cond m ((CQ N a.L b.L).bind λn=>
 some n) (some false)).bind λo=>
 (cond o ((CQ N a.O b.O).bind λp=>
 some p) (some false)).bind λq=>
 some q
def C0 (N:Nat) (a:List Int) (g:(List Bool)→Option Bool):Nat→Int→(List Bool)→Option Bool
 |0,_,_=>none
 |l+1,b,c=>
 cond (decide (b<(↑a.length:Int))) (
 (ix a b).bind λi=>
 (ix a b).bind λd=>
 (ix c d).bind λj=>
 (ix c d).bind λk=>
 C0 N a g l (BQ (b+1)) (upd c d true)) (
 g c)
def DL (N:Nat) (a:Int) (c:Int→(List Bool)→Option Bool) (b:List Bool):Option Bool:=
 c (BQ (a+1)) b
def Bz (N:Nat) (a:(List Int)) (j:(Option Ey)) (d:List AI) (b:Int) (g:AI×Int) (k:(List AI)→(List Bool)→Option Bool):Nat→Int→(List Bool)→Option Bool
 |0,_,_=>none
 |n+1,c,i=>
 cond (decide (c<(↑a.length:Int))) (
 (ix a c).bind λl=>
 cond (decide (l=b)) (
 (GD N j b).bind λm=>
 C0 N m (DL N c (Bz N a j d b g k n)) N 0 i) (
 DL N c (Bz N a j d b g k n) i)) (
 k (d++([g.1]:List AI)) i)
def DM (N:Nat) (a:Int) (d:(List AI)→Int→(List Bool)→Option Bool) (b:List AI) (c:List Bool):Option Bool:=
 d b (BQ (a+1)) c
def BV (N:Nat) (a:(List Int)) (j:(Option Ey)) (d:Int) (k:(List AI)→(List Bool)→Option Bool):Nat→(List AI)→Int→(List Bool)→Option Bool
 |0,_,_,_=>none
 |l+1,c,b,g=>
 cond (decide (b≤d)) (
 (GR N j b).bind λi=>
 cond (decide (i.2≠0)) (
 some false) (
 chk (Ha (c.length+1) 152) <|
 Bz N a j c b i (DM N b (BV N a j d k l)) N 0 g)) (
 k c g)
def Cm (N:Nat) (g:Int) (b:List AI) (c:List Bool) (i:Option Ey) (j:Option Bool):Nat→Int→Option Bool
 |0,_=>none
 |p+1,a=>
 cond (decide (a≤g)) (
 (GR N i a).bind λd=>
 (ix c a).bind λq=>
 (ix c a).bind λk=>
 (cond (!((decide (d.2=0))==k)) (some true) ((cond (decide (d.2=0)) ((ix b a).bind λs=>
 (ix b a).bind λl=>
 (LE N d.1 l).bind λm=>
 some (!m)) (some false)).bind λn=>
 some n)).bind λo=>
 cond o (
 some false) (
 Cm N g b c i j p (BQ (a+1)))) (
 j)
def DK (N:Nat) (d:AF) (b:AI) (g:Bool) (i:Option Ey):Option Bool:=
 (Cz N i 0 (⟨[],[],[],[],[]⟩:B3)).bind λa=>
 (GR N a.2.2 a.1).bind λc=>
 (He N d b (⟨[],[],[],[],[]⟩:B3)).bind λj=>
 cond (decide (b.B=16777216)) (
 some (g&&(decide (a.2.1=15)))) (
 (cond ((g&&(decide (a.2.1=0)))&&(decide (c.2=0))) ((LE N c.1 j.1).bind λk=>
 some k) (some false)).bind λl=>
 some l)
def CU (N:Nat) (c:AF) (d:AI) (a:(List Int)) (k:Bool) (l:(Option Ey)) (g:Int) (i:List AI) (j:List Bool):Option Bool:=
 (HY N l a).bind λb=>
 Cm N g i j b (DK N c d k b) N 0
def Dr (N:Nat) (d:AF) (g:AI) (b:(List Int)) (i:Bool) (c:(Option Ey)):Option Bool:=
 (It N c).bind λa=>
 chk (LI (BQ (a+1)) (BQ (a+1)) 1) <|
 (ix (List.replicate ((BQ (a+1)):Int).toNat (false:Bool)) 0).bind λj=>
 (ix (List.replicate ((BQ (a+1)):Int).toNat (false:Bool)) 0).bind λk=>
 BV N b c a (CU N d g b i c a) N ([]:List AI) 0 (upd (List.replicate ((BQ (a+1)):Int).toNat (false:Bool)) 0 true)
def Dq (N:Nat) (a:Int) (b:Int→((Option Ey))→Option Bool) (c:(Option Ey)):Option Bool:=
 b (BQ (a+1)) c
def B0 (N:Nat) (a:(List BS)) (c:((Option Ey))→Option Bool):Nat→Int→((Option Ey))→Option Bool
 |0,_,_=>none
 |l+1,b,d=>
 cond (decide (b<(↑a.length:Int))) (
 (ix a b).bind λg=>
 cond (decide ((I5 .and .i64 g.Bk 7)<6)) (
 (ix a b).bind λi=>
 (ix a b).bind λj=>
 (Cz N d i.Bi j.L).bind λk=>
 Dq N b (B0 N a c l) k.2.2) (
 Dq N b (B0 N a c l) d)) (
 c d)
def GE (N:Nat) (b:AF) (c:AI) (d:(List BS)) (a:(List Int)):Option Bool:=
 (Fb N).bind λg=>
 (JT N b d).bind λj=>
 (IK N b c).bind λi=>
 cond (((!j)||((i).isNone))||(decide (8<(↑a.length:Int)))) (
 some g) (
 B0 N d (Dr N b c a g) N 0 i)
end Go.Proofs.YtabonambpbofgaaGreat
