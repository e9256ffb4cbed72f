import Derived.Test.YtibidnaedddfdaaGreatAReps
namespace Go.Proofs.YtibidnaedddfdaaGreat
set_option linter.unusedSimpArgs false
open Go.RowKit
set_option linter.unusedVariables false
def HI (N:Nat) (s:(List Ay)) (i:Int) (l:(List Ay)):Option ((List Ay)):=Uf 32 s i l
def Br (N:Nat) (a:(List AF)):Option (List AF):=
 chk (room (([]:List AF).length+a.length) 16) <|
 some (([]:List AF)++a)
def Bk (N:Nat) (a:(List AT)):Option (List AT):=
 chk (room (([]:List AT).length+a.length) 40) <|
 some (([]:List AT)++a)
def FY (N:Nat) (b:Int) (a:Int):Option Bool:=
 some ((decide (0≤b))&&(decide (b<a)))
def Cg (N:Nat) (a:Int):Option AF:=
 some (⟨a,a⟩:AF)
def GR (N:Nat) (c:Int) (b:Int) (a:Int):Option Int:=
 cond (decide (c<b)) (
 some b) (
 cond (decide (a<c)) (
 some a) (
 some c))
def H6 (N:Nat) (a:BM) (b:Int):Option BM:=
 some ({ a with Target:=b}:BM)
def Lr (N:Nat) (c:AX) (b:BM) (a:Int):Option BM:=
 cond (decide (c.Positions≠0)) (
 Option.bind (GR N a 0 c.Positions) λd=>
 H6 N b d) (
 H6 N b b.Target)
def Bt (N:Nat) (b:Int) (a:Int):Option Int:=
 cond ((decide (a<0))&&(decide ((Ar (9223372036854775807+a))<b))) (
 some 9223372036854775807) (
 cond ((decide (0<a))&&(decide (b<(Ar ((-9223372036854775808)+a))))) (
 some (-9223372036854775808)) (
 some (Ar (b-a))))
def CD (N:Nat) (b:Int) (a:Int):Option Int:=
 cond ((decide (0<a))&&(decide ((Ar (9223372036854775807-a))<b))) (
 some 9223372036854775807) (
 cond ((decide (a<0))&&(decide (b<(Ar ((-9223372036854775808)-a))))) (
 some (-9223372036854775808)) (
 some (Ar (b+a))))
def Ky (N:Nat) (b:AX) (a:BM):Option BM:=
 cond a.Stuck (
 some a) (
 Option.bind (Bt N a.Target a.Pos) λc=>
 Option.bind (Bt N 0 b.Speed) λd=>
 Option.bind (GR N c d b.Speed) λg=>
 Option.bind (CD N a.Pos g) λi=>
 some ({ a with Pos:=i}:BM))
def Hm (N:Nat) (c1_:AX) (c2_:AT) (a:Int):Option Int:=
 Option.bind (Ky N c1_ (⟨a,c2_.Target,false,false⟩:BM)) λb=>
 some b.Pos
def Jr (N:Nat) (b:AX) (a:AT) (c:Bool):Option AT:=
 cond c (
 Option.bind (Hm N b a a.Pos.Lo) λd=>
 Option.bind (Hm N b a a.Pos.Hi) λg=>
 some ({ a with Pos:=(⟨d,g⟩:AF)}:AT)) (
 Option.bind (Bt N a.Pos.Lo b.Speed) λi=>
 Option.bind (GR N i 0 b.Positions) λj=>
 Option.bind (CD N a.Pos.Hi b.Speed) λk=>
 Option.bind (GR N k 0 b.Positions) λl=>
 some ({ a with Pos:=(⟨j,l⟩:AF)}:AT))
def FZ (N:Nat) (a:Int) (c:Int→(List AT)→Option (List AT)) (b:List AT):Option (List AT):=
 c (Ar (a+1)) b
def Cp (N:Nat) (p0_w:Ao) (d:DF) (i:(List AT)→Option (List AT)):Nat→Int→(List AT)→Option (List AT)
 |0,_,_=>none
 |o+1,g,c=>
 cond (decide (g<(↑d.Cmds.length:Int))) (
 Option.bind (ix d.Cmds g) λa=>
 Option.bind (FY N a.Link (↑p0_w.b.Links.length:Int)) λj=>
 cond j (
 Option.bind (ix c a.Link) λp=>
 Option.bind (ix p0_w.b.Links a.Link) λk=>
 Option.bind (ix c a.Link) λl=>
 Option.bind (Lr N k (⟨0,l.Target,false,false⟩:BM) a.Target) λm=>
 Option.bind (ix c a.Link) λn=>
 FZ N g (Cp N p0_w d i o) (upd c a.Link ({ n with Target:=m.Target}))) (
 FZ N g (Cp N p0_w d i o) c)) (
 i c)
def EQ (N:Nat) (p0_w:Ao) (c:(List Bool)):Nat→Int→(List AT)→Option (List AT)
 |0,_,_=>none
 |p+1,a,d=>
 cond (decide (a<(↑p0_w.b.Links.length:Int))) (
 Option.bind (ix p0_w.b.Links a) λg=>
 Option.bind (ix d a) λm=>
 Option.bind (ix d a) λi=>
 Option.bind (cond (decide (a<(↑c.length:Int))) (Option.bind (ix c a) λj=>
 some j) (some false)) λk=>
 Option.bind (Jr N g i k) λl=>
 Option.bind (ix d a) λn=>
 Option.bind (ix d a) λo=>
 EQ N p0_w c p (Ar (a+1)) (upd d a l)) (
 some d)
def ER (N:Nat) (p0_w:Ao) (a:(List Bool)) (b:List AT):Option (List AT):=
 EQ N p0_w a N 0 b
def ES (N:Nat) (p0_w:Ao) (b:DF) (a:(List Bool)) (c:List AT):Option (List AT):=
 Cp N p0_w b (ER N p0_w a) N 0 c
def DY (N:Nat) (a:Int) (b:Int→(List AT)→Option (List AT)) (c:List AT):Option (List AT):=
 b (Ar (a+1)) c
def Bl (N:Nat) (p0_w:Ao) (a:DF) (i:(List AT)→Option (List AT)):Nat→Int→(List AT)→Option (List AT)
 |0,_,_=>none
 |j+1,g,d=>
 cond (decide (g<(↑a.Faults.length:Int))) (
 Option.bind (ix a.Faults g) λc=>
 Option.bind (FY N c.Link (↑p0_w.b.Links.length:Int)) λk=>
 Option.bind (cond (!k) (some true) (Option.bind (ix p0_w.b.Links c.Link) λl=>
 some (decide (l.Kind≠5)))) λm=>
 cond m (
 DY N g (Bl N p0_w a i j) d) (
 cond (decide (c.Kind=2)) (
 Option.bind (Cg N 1) λn=>
 Option.bind (ix d c.Link) λs=>
 Option.bind (ix d c.Link) λo=>
 DY N g (Bl N p0_w a i j) (upd d c.Link ({ o with Open:=n}))) (
 cond (decide (c.Kind=3)) (
 Option.bind (Cg N 0) λp=>
 Option.bind (ix d c.Link) λt=>
 Option.bind (ix d c.Link) λq=>
 DY N g (Bl N p0_w a i j) (upd d c.Link ({ q with Open:=p}))) (
 DY N g (Bl N p0_w a i j) d)))) (
 i d)
def Hh (N:Nat) (p0_w:Ao) (a:DF) (b:(List Bool)):Option (List AT):=
 Bl N p0_w a (ES N p0_w a b) N 0 p0_w.h.Links
def EF (N:Nat) (a:AF):Option Bool:=
 some (decide (a.Lo≤a.Hi))
def Hy (N:Nat) (a:AF) (b:AF):Option AF:=
 Option.bind (CD N a.Lo b.Lo) λc=>
 Option.bind (CD N a.Hi b.Hi) λd=>
 some (⟨c,d⟩:AF)
def F3 (N:Nat) (a:AF):Option AF:=
 some (⟨(min a.Lo 1125899906842624),(min a.Hi 1125899906842624)⟩:AF)
def Ir (N:Nat) (a:AX) (b:AF):Option (AF×AX):=
 some (b,a)
def D9 (N:Nat) (a:AF) (b:Int):Option Bool:=
 some ((decide (a.Lo≤b))&&(decide (b≤a.Hi)))
def Hz {σ:Type}(N:Nat) (c1_:AF) (c2_:AX) (yld:Int→σ→Option (Bool×σ)) (s:σ):Option (Bool×σ):=
 Option.bind (EF N c1_) λi=>
 cond (!i) (
 some (true,s)) (
 Option.bind (yld c1_.Lo s) λb=>
 cond b.1 (
 Option.bind (yld c1_.Hi b.2) λa=>
 cond a.1 (
 Option.bind (cond (decide (c2_.Break<9223372036854775807)) (Option.bind (D9 N c1_ (Ar (c2_.Break+1))) λd=>
 some d) (some false)) λg=>
 cond g (
 Option.bind (yld (Ar (c2_.Break+1)) a.2) λc=>
 cond c.1 (
 some (true,c.2)) (
 some (false,c.2))) (
 some (true,a.2))) (
 some (false,a.2))) (
 some (false,b.2)))
def F1 (N:Nat) (a:BM) (b:Bool):Option BM:=
 some ({ a with Open:=b}:BM)
def JN (N:Nat) (b:AX) (a:BM) (c:Int):Option BM:=
 cond (decide (b.Kind≠3)) (
 some a) (
 cond (decide (b.Prime≤c)) (
 F1 N a true) (
 cond (decide (c≤b.Break)) (
 F1 N a false) (
 F1 N a a.Open)))
def Ge (N:Nat) (a:AF) (b:AF):Option AF:=
 some (⟨(min a.Lo b.Lo),(max a.Hi b.Hi)⟩:AF)
def FJ (N:Nat) (a:Int) (g:Int→Int→Int→Bool→Option (Bool×(Int×Int×Bool))) (b:Int) (c:Int) (d:Bool):Option (Bool×(Int×Int×Bool)):=
 g (Ar (a+1)) b c d
def HL (N:Nat) (g:Int) (i:Int) (a:Bool) (j:Int→Int→Bool→Option (Bool×(Int×Int×Bool))) (b:Int):Option (Bool×(Int×Int×Bool)):=
 cond a (
 Option.bind (Cg N b) λk=>
 Option.bind (Ge N (⟨g,i⟩:AF) k) λc=>
 j c.Lo c.Hi a) (
 Option.bind (Cg N b) λd=>
 j d.Lo d.Hi true)
def DK (N:Nat) (b:AX) (c:AT) (j:Int):Nat→Int→Int→Int→Bool→Option (Bool×(Int×Int×Bool))
 |0,_,_,_,_=>none
 |m+1,a,d,g,i=>
 cond (decide (a<2)) (
 Option.bind (D9 N c.Open a) λk=>
 cond (!k) (
 FJ N a (DK N b c j m) d g i) (
 Option.bind (JN N b (⟨0,0,false,(decide (a=1))⟩:BM) j) λl=>
 cond l.Open (
 HL N d g i (FJ N a (DK N b c j m)) 1) (
 HL N d g i (FJ N a (DK N b c j m)) 0))) (
 some (true,(d,g,i)))
def HJ (N:Nat) (a:AX) (b:AT) (c:Int) (d:Int) (g:Int) (i:Bool):Option (Bool×(Int×Int×Bool)):=
 DK N a b c N 0 d g i
def HK (N:Nat) (a:AT) (b:Int) (c:Int):Option AT:=
 some ({ a with Open:=(⟨b,c⟩:AF)}:AT)
def Jp (N:Nat) (b:AX) (a:AT) (d:AF):Option AT:=
 cond (decide (b.Kind≠3)) (
 some a) (
 Option.bind (Ir N b d) λg=>
 Option.bind (Hz N g.1 g.2 (λxx ss=>HJ N b a xx ss.1 ss.2.1 ss.2.2) (0,0,false)) λc=>
 cond c.1 (
 cond c.2.2.2 (
 HK N a c.2.1 c.2.2.1) (
 HK N a a.Open.Lo a.Open.Hi)) (
 none))
def Eg (N:Nat) (a:Int) (d:(List Ay)→Int→(List AF)→Option ((List Ay)×(List AT)×(List AF))) (b:List Ay) (c:List AF):Option ((List Ay)×(List AT)×(List AF)):=
 d b (Ar (a+1)) c
def B5 (N:Nat) (p0_w:Ao) (g:(List Ay)→(List AF)→Option ((List Ay)×(List AT)×(List AF))):Nat→(List Ay)→Int→(List AF)→Option ((List Ay)×(List AT)×(List AF))
 |0,_,_,_=>none
 |k+1,c,d,b=>
 cond (decide (d<(↑p0_w.h.Queue.length:Int))) (
 Option.bind (ix p0_w.h.Queue d) λa=>
 cond (decide (a.At≤p0_w.h.Hour)) (
 Option.bind (ix b a.To) λl=>
 Option.bind (ix b a.To) λi=>
 Option.bind (Hy N i a.Vol) λj=>
 Option.bind (ix b a.To) λm=>
 Option.bind (ix b a.To) λn=>
 Eg N d (B5 N p0_w g k) c (upd b a.To j)) (
 chk (room (c.length+1) 32) <|
 Eg N d (B5 N p0_w g k) (c++([a]:List Ay)) b)) (
 g c b)
def Da (N:Nat) (c:List AF) (d:(List AF)→Option ((List Ay)×(List AT)×(List AF))):Nat→Int→(List AF)→Option ((List Ay)×(List AT)×(List AF))
 |0,_,_=>none
 |m+1,a,b=>
 cond (decide (a<(↑c.length:Int))) (
 Option.bind (ix b a) λj=>
 Option.bind (ix b a) λg=>
 Option.bind (F3 N g) λi=>
 Option.bind (ix b a) λk=>
 Option.bind (ix b a) λl=>
 Da N c d m (Ar (a+1)) (upd b a i)) (
 d b)
def Ee (N:Nat) (a:Int) (c:Int→(List AT)→Option ((List Ay)×(List AT)×(List AF))) (b:List AT):Option ((List Ay)×(List AT)×(List AF)):=
 c (Ar (a+1)) b
def B4 (N:Nat) (p0_w:Ao) (i:List Ay) (d:List AF):Nat→Int→(List AT)→Option ((List Ay)×(List AT)×(List AF))
 |0,_,_=>none
 |m+1,a,c=>
 cond (decide (a<(↑p0_w.b.Links.length:Int))) (
 Option.bind (ix p0_w.b.Links a) λg=>
 cond (decide (g.Kind=3)) (
 Option.bind (ix c a) λn=>
 Option.bind (ix c a) λj=>
 Option.bind (ix d g.From) λo=>
 Option.bind (ix d g.From) λk=>
 Option.bind (Jp N g j k) λl=>
 Option.bind (ix c a) λp=>
 Option.bind (ix c a) λq=>
 Ee N a (B4 N p0_w i d m) (upd c a l)) (
 Ee N a (B4 N p0_w i d m) c)) (
 some (i,c,d))
def Ef (N:Nat) (p0_w:Ao) (a:List Ay) (b:List AF):Option ((List Ay)×(List AT)×(List AF)):=
 B4 N p0_w a b N 0 p0_w.h.Links
def Db (N:Nat) (p0_w:Ao) (b:List Ay) (a:List AF):Option ((List Ay)×(List AT)×(List AF)):=
 Da N a (Ef N p0_w b) N 0 a
def Dc (N:Nat) (p0_w:Ao) (a:List AF):Option ((List Ay)×(List AT)×(List AF)):=
 B5 N p0_w (Db N p0_w) N ([]) 0 a
def Eh (N:Nat) (a:Int) (b:List AF) (c:Int→(List AF)→Option ((List Ay)×(List AT)×(List AF))) (d:Int) (g:Int):Option ((List Ay)×(List AT)×(List AF)):=
 Option.bind (ix b a) λi=>
 Option.bind (ix b a) λj=>
 c (Ar (a+1)) (upd b a (⟨d,g⟩:AF))
def B6 (N:Nat) (p0_w:Ao) (a:(List AF)) (c:(List AF)→Option ((List Ay)×(List AT)×(List AF))):Nat→Int→(List AF)→Option ((List Ay)×(List AT)×(List AF))
 |0,_,_=>none
 |p+1,b,i=>
 cond (decide (b<(↑p0_w.h.Vol.length:Int))) (
 Option.bind (ix p0_w.h.Vol b) λq=>
 Option.bind (ix p0_w.h.Vol b) λd=>
 Option.bind (cond (decide (b<(↑a.length:Int))) (Option.bind (ix a b) λj=>
 Option.bind (EF N j) λk=>
 some k) (some false)) λl=>
 Option.bind (cond l (Option.bind (ix a b) λm=>
 some (decide (0≤m.Lo))) (some false)) λn=>
 cond n (
 Option.bind (ix a b) λo=>
 Option.bind (Hy N d o) λg=>
 Eh N b i (B6 N p0_w a c p) g.Lo g.Hi) (
 Eh N b i (B6 N p0_w a c p) d.Lo d.Hi)) (
 c i)
def Gf (N:Nat) (p0_w:Ao) (a:(List AF)):Option ((List Ay)×(List AT)×(List AF)):=
 B6 N p0_w a (Dc N p0_w) N 0 p0_w.peaks
def Dz (N:Nat) (c1_:Ht) (p0_:Int):Option AF:=
 some (⟨0,c1_.Litres⟩:AF)
def Ec (N:Nat) (a:Int) (b:Int):Option (Int×Int):=
 some ((IntKind.wrap .u64 ((IntKind.wrap .u64 ((IntKind.wrap .u64 ((Ci .u64 a 32)*(Ci .u64 b 32)))+(Ci .u64 (IntKind.wrap .u64 ((IntKind.wrap .u64 ((Ci .u64 a 32)*(F8 .and .u64 b 4294967295)))+(Ci .u64 (IntKind.wrap .u64 ((F8 .and .u64 a 4294967295)*(F8 .and .u64 b 4294967295))) 32))) 32)))+(Ci .u64 (IntKind.wrap .u64 ((F8 .and .u64 (IntKind.wrap .u64 ((IntKind.wrap .u64 ((Ci .u64 a 32)*(F8 .and .u64 b 4294967295)))+(Ci .u64 (IntKind.wrap .u64 ((F8 .and .u64 a 4294967295)*(F8 .and .u64 b 4294967295))) 32))) 4294967295)+(IntKind.wrap .u64 ((F8 .and .u64 a 4294967295)*(Ci .u64 b 32))))) 32))),(IntKind.wrap .u64 (a*b)))
def DT (N:Nat) (a:Int) (b:Int):Option Int:=
 Option.bind (RJ JM (IntKind.wrap .u8 a)) λc=>
 some (Ar (b+(Ar c)))
def DU (N:Nat) (a:Int) (b:Int):Option Int:=
 cond (decide (256≤a)) (
 DT N (Ci .u64 a 8) (Ar (b+8))) (
 DT N a b)
def DV (N:Nat) (a:Int) (b:Int):Option Int:=
 cond (decide (65536≤a)) (
 DU N (Ci .u64 a 16) (Ar (b+16))) (
 DU N a b)
def FX (N:Nat) (a:Int):Option Int:=
 cond (decide (4294967296≤a)) (
 DV N (Ci .u64 a 32) 32) (
 DV N a 0)
def Cm (N:Nat) (a:Int):Option Int:=
 Option.bind (FX N a) λb=>
 some (Ar (64-b))
def Cn (N:Nat) (b:Int) (a:Int) (d:Nat) (j:Nat) (g:Int→Option (Int×Int)):Nat→Int→Int→Option (Int×Int)
 |0,_,_=>none
 |k+1,i,c=>
 cond ((decide (4294967296≤c))||(decide ((IntKind.wrap .u64 ((IntKind.wrap .u64 (4294967296*i))+(F8 .and .u64 (Cu .u64 b j) 4294967295)))<(IntKind.wrap .u64 (c*(F8 .and .u64 (Cu .u64 a d) 4294967295)))))) (
 cond (decide (4294967296≤(IntKind.wrap .u64 (i+(Ci .u64 (Cu .u64 a d) 32))))) (
 g (IntKind.wrap .u64 (c-1))) (
 Cn N b a d j g k (IntKind.wrap .u64 (i+(Ci .u64 (Cu .u64 a d) 32))) (IntKind.wrap .u64 (c-1)))) (
 g c)
def DW (N:Nat) (c:Int) (a:Int) (b:Int) (n:Int) (d:Nat) (k:Nat) (l:Nat) (g:Nat) (i:Int) (j:Int):Option (Int×Int):=
 Option.bind (No (IntKind.wrap .u64 n)) λm=>
 some ((IntKind.wrap .u64 ((IntKind.wrap .u64 (i*4294967296))+j)),(Ci .u64 (IntKind.wrap .u64 ((IntKind.wrap .u64 ((IntKind.wrap .u64 ((IntKind.wrap .u64 ((IntKind.wrap .u64 ((IntKind.wrap .u64 ((F8 .or .u64 (Cu .u64 c k) (Ci .u64 a l))*4294967296))+(Ci .u64 (Cu .u64 a g) 32)))-(IntKind.wrap .u64 (i*(Cu .u64 b d)))))*4294967296))+(F8 .and .u64 (Cu .u64 a g) 4294967295)))-(IntKind.wrap .u64 (j*(Cu .u64 b d))))) m))
def DX (N:Nat) (c:Int) (a:Int) (b:Int) (m:Int) (d:Nat) (i:Nat) (j:Nat) (g:Nat) (k:Int):Option (Int×Int):=
 Option.bind (Oj .u64 (IntKind.wrap .u64 ((IntKind.wrap .u64 ((IntKind.wrap .u64 ((F8 .or .u64 (Cu .u64 c i) (Ci .u64 a j))*4294967296))+(Ci .u64 (Cu .u64 a g) 32)))-(IntKind.wrap .u64 (k*(Cu .u64 b d))))) (Ci .u64 (Cu .u64 b d) 32)) λl=>
 Cn N a b d g (DW N c a b m d i j g k) N (IntKind.wrap .u64 ((IntKind.wrap .u64 ((IntKind.wrap .u64 ((IntKind.wrap .u64 ((F8 .or .u64 (Cu .u64 c i) (Ci .u64 a j))*4294967296))+(Ci .u64 (Cu .u64 a g) 32)))-(IntKind.wrap .u64 (k*(Cu .u64 b d)))))-(IntKind.wrap .u64 (l*(Ci .u64 (Cu .u64 b d) 32))))) l
def Co (N:Nat) (b:Int) (a:Int) (d:Nat) (j:Nat) (g:Int→Option (Int×Int)):Nat→Int→Int→Option (Int×Int)
 |0,_,_=>none
 |k+1,c,i=>
 cond ((decide (4294967296≤c))||(decide ((IntKind.wrap .u64 ((IntKind.wrap .u64 (4294967296*i))+(Ci .u64 (Cu .u64 b j) 32)))<(IntKind.wrap .u64 (c*(F8 .and .u64 (Cu .u64 a d) 4294967295)))))) (
 cond (decide (4294967296≤(IntKind.wrap .u64 (i+(Ci .u64 (Cu .u64 a d) 32))))) (
 g (IntKind.wrap .u64 (c-1))) (
 Co N b a d j g k (IntKind.wrap .u64 (c-1)) (IntKind.wrap .u64 (i+(Ci .u64 (Cu .u64 a d) 32))))) (
 g c)
def Ed (N:Nat) (c:Int) (b:Int) (a:Int):Option (Int×Int):=
 cond (decide (a=0)) (
 none) (
 cond (decide (a≤c)) (
 none) (
 cond (decide (c=0)) (
 Option.bind (Oj .u64 b a) λm=>
 Option.bind (QJ b a) λn=>
 some (m,n)) (
 Option.bind (Cm N a) λj=>
 Option.bind (No (IntKind.wrap .u64 j)) λd=>
 Option.bind (No (IntKind.wrap .u64 j)) λg=>
 Option.bind (No (IntKind.wrap .u64 (64-(IntKind.wrap .u64 j)))) λi=>
 Option.bind (No (IntKind.wrap .u64 j)) λk=>
 Option.bind (Oj .u64 (F8 .or .u64 (Cu .u64 c g) (Ci .u64 b i)) (Ci .u64 (Cu .u64 a d) 32)) λl=>
 Co N b a d k (DX N c b a j d g i k) N l (IntKind.wrap .u64 ((F8 .or .u64 (Cu .u64 c g) (Ci .u64 b i))-(IntKind.wrap .u64 (l*(Ci .u64 (Cu .u64 a d) 32))))))))
def Ez (N:Nat) (c:Int) (b:Int) (a:Int):Option (Int×Int×Bool):=
 cond ((((((decide (c<0))||(decide (1125899906842624<c)))||(decide (b<0)))||(decide (1125899906842624<b)))||(decide (a<1)))||(decide (1125899906842624<a))) (
 some (0,0,false)) (
 Option.bind (Ec N (IntKind.wrap .u64 c) (IntKind.wrap .u64 b)) λg=>
 cond (decide ((IntKind.wrap .u64 a)≤g.1)) (
 some (0,0,false)) (
 Option.bind (Ed N g.1 g.2 (IntKind.wrap .u64 a)) λd=>
 cond (decide (1125899906842624<d.1)) (
 some (0,0,false)) (
 some ((Ar d.1),(Ar d.2),true))))
def Gj (N:Nat) (c:Int) (a:Int) (b:Int):Option Int:=
 Option.bind (Ez N c a b) λd=>
 cond (!d.2.2) (
 some 0) (
 some d.1)
def Kx (N:Nat) (b:AX) (a:Int) (c:Int):Option Int:=
 cond (decide (b.To=(-1))) (
 some a) (
 Option.bind (Gj N c b.BackNum b.BackDen) λd=>
 Option.bind (Bt N a d) λg=>
 some (max 0 g))
def F4 (N:Nat):Option Bool:=
 some true
def EA (N:Nat) (a:(List BA)) (d:Option Bool):Nat→Int→Option Bool
 |0,_=>none
 |l+1,c=>
 cond (decide (c<(↑a.length:Int))) (
 Option.bind (ix a c) λb=>
 cond ((((decide (b.X<0))||(decide (1125899906842624<b.X)))||(decide (b.Y<0)))||(decide (1125899906842624<b.Y))) (
 some false) (
 Option.bind (cond (decide (0<c)) (Option.bind (ix a (Ar (c-1))) λg=>
 Option.bind (cond (decide (b.X≤g.X)) (some true) (Option.bind (ix a (Ar (c-1))) λi=>
 some (decide (b.Y<i.Y)))) λj=>
 some j) (some false)) λk=>
 cond k (
 some false) (
 EA N a d l (Ar (c+1))))) (
 d)
def DD (N:Nat) (a:(List BA)):Option Bool:=
 cond ((decide ((↑a.length:Int)<1))||(decide (32<(↑a.length:Int)))) (
 some false) (
 EA N a (F4 N) N 0)
def Fy (N:Nat) (a:Int):Option Int:=
 some a
def DR (N:Nat) (b:(Int→Option Bool)) (d:Int→Option Int):Nat→Int→Int→Option Int
 |0,_,_=>none
 |i+1,a,c=>
 cond (decide (a<c)) (
 Option.bind (b (Ar (Ci .u64 (IntKind.wrap .u64 (Ar (a+c))) 1))) λg=>
 cond (!g) (
 DR N b d i (Ar ((Ar (Ci .u64 (IntKind.wrap .u64 (Ar (a+c))) 1))+1)) c) (
 DR N b d i a (Ar (Ci .u64 (IntKind.wrap .u64 (Ar (a+c))) 1)))) (
 d a)
def H3 (N:Nat) (a:Int) (b:(Int→Option Bool)):Option Int:=
 DR N b (Fy N) N 0 a
def FM (N:Nat) (c1_:(List BA)) (c2_:Int) (a:Int):Option Bool:=
 Option.bind (ix c1_ a) λb=>
 some (decide (c2_<b.X))
def Fj (N:Nat) (a:(List BA)) (d:Int):Option (Int×Bool):=
 Option.bind (H3 N (↑a.length:Int) (λx=>FM N a d x)) λb=>
 cond (decide (b=0)) (
 Option.bind (ix a 0) λi=>
 some (i.Y,false)) (
 Option.bind (ix a (Ar (b-1))) λc=>
 cond (decide (b=(↑a.length:Int))) (
 some (c.Y,false)) (
 Option.bind (ix a b) λj=>
 Option.bind (ix a b) λk=>
 Option.bind (Ez N (Ar (d-c.X)) (Ar (j.Y-c.Y)) (Ar (k.X-c.X))) λg=>
 some ((Ar (c.Y+g.1)),(decide (0<g.2.1)))))
def Ls (N:Nat) (a:(List BA)) (b:Int):Option Int:=
 Option.bind (DD N a) λc=>
 cond (!c) (
 some 0) (
 Option.bind (Fj N a b) λd=>
 some d.1)
def Gl (N:Nat):Option Int:=
 some 0
def Gk (N:Nat) (a:AX) (b:Int):Option Int:=
 Option.bind (Bt N b a.Crest) λd=>
 Option.bind (Gj N (max 0 d) a.Num a.Den) λc=>
 some c
def Iw (N:Nat) (a:Bool) (b:Option Int):Option Int:=
 cond (!a) (
 some 0) (
 b)
def Iv (N:Nat) (c:AX) (a:Bool) (b:Int) (d:Option Int):Option Int:=
 cond a (
 Option.bind (Gj N b c.Num c.Den) λg=>
 some g) (
 d)
def Iu (N:Nat) (b:AX) (a:Int):Option Int:=
 Option.bind (Gj N b.Num a b.Positions) λc=>
 some c
def It (N:Nat) (a:AX) (c:Int) (g:(List BA)) (b:Int) (d:Int):Option Int:=
 Option.bind (Kx N a b d) λi=>
 Option.bind (Ls N g i) λj=>
 Option.bind (Gj N j c a.Positions) λk=>
 Option.bind (CD N k a.Leak) λl=>
 some l
def JD (N:Nat) (a:AX) (d:Int) (c:Bool) (i:(List BA)) (b:Int) (g:Int):Option Int:=
 cond (decide (a.Kind=0)) (
 It N a d i b g) (
 cond (decide (a.Kind=2)) (
 Iu N a d) (
 cond (decide (a.Kind=3)) (
 Iv N a c b (Gl N)) (
 cond (decide (a.Kind=5)) (
 Iw N c (Gk N a b)) (
 cond (decide (a.Kind=1)) (
 Gk N a b) (
 Gl N)))))
def JO (N:Nat) (b:AX) (c:AT) (a:AF) (d:AF):Option AF:=
 Option.bind (JD N b c.Pos.Lo (decide (1≤c.Open.Lo)) b.Band.Lo a.Lo d.Hi) λg=>
 Option.bind (JD N b c.Pos.Hi (decide (1≤c.Open.Hi)) b.Band.Hi a.Hi d.Lo) λi=>
 some (⟨g,i⟩:AF)
def Dy (N:Nat) (c1_:AX) (c2_:AT) (c3_:AF) (a:Int):Option AF:=
 Option.bind (Cg N a) λb=>
 Option.bind (JO N c1_ c2_ b c3_) λc=>
 some c
def JC (N:Nat) (c:Int) (a:Int) (b:Int):Option Int:=
 Option.bind (Ez N c a b) λd=>
 cond (!d.2.2) (
 some 0) (
 some d.1)
def Jq (N:Nat) (a:AX) (b:Int) (c:Int):Option Int:=
 cond (decide (a.Kind≠4)) (
 some 0) (
 Option.bind (JC N b a.Num a.Den) λd=>
 Option.bind (JC N c a.BackNum a.BackDen) λg=>
 some (Ar (d-g)))
def H4 (N:Nat) (c:AX) (a:AF) (b:AF):Option AF:=
 Option.bind (Jq N c a.Lo b.Hi) λd=>
 Option.bind (Jq N c a.Hi b.Lo) λg=>
 some (⟨d,g⟩:AF)
def HM (N:Nat) (a:AF):Option AF:=
 some (⟨(max 0 a.Lo),(max 0 a.Hi)⟩:AF)
def Dx (N:Nat) (c1_:AX) (c2_:AF) (a:Int):Option AF:=
 Option.bind (Cg N a) λd=>
 Option.bind (H4 N c1_ d c2_) λb=>
 Option.bind (HM N b) λc=>
 some c
def Lq (N:Nat) (a:AF) (b:AF):Option AF:=
 Option.bind (Bt N a.Lo b.Hi) λc=>
 Option.bind (Bt N a.Hi b.Lo) λd=>
 some (⟨c,d⟩:AF)
def Dw (N:Nat) (c1_:AX) (c2_:AF) (a:Int):Option AF:=
 Option.bind (Cg N 0) λi=>
 Option.bind (Cg N a) λb=>
 Option.bind (H4 N c1_ c2_ b) λc=>
 Option.bind (Lq N i c) λd=>
 Option.bind (HM N d) λg=>
 some g
def Gv (N:Nat) (a:Ce) (b:Int×Int×Bool) (c:Int):Option (Int×Int):=
 cond (decide ((Ar (b.2.1+c))<a.Den)) (
 some (b.1,(Ar (b.2.1+c)))) (
 some ((Ar (b.1+1)),(Ar ((Ar (b.2.1+c))-a.Den))))
def H5 (N:Nat) (a:Ce) (d:Int) (b:Int):Option (Int×Int):=
 Option.bind (Ez N d a.Num a.Den) λc=>
 cond (!c.2.2) (
 some (0,0)) (
 cond ((decide (0≤b))&&(decide (b<a.Den))) (
 Gv N a c b) (
 Gv N a c 0))
def Dv (N:Nat) (c1_:Ce) (a:Int):Option AF:=
 Option.bind (H5 N c1_ a 0) λc=>
 Option.bind (H5 N c1_ a (Ar (c1_.Den-1))) λb=>
 some (⟨c.1,b.1⟩:AF)
def Fc (N:Nat) (b:List AS) (a:AX) (c:AT) (i:(List AS)→Option (List AS)) (d:Int) (g:Int):Option (List AS):=
 chk (room (b.length+1) 32) <|
 i (b++([(⟨a.To,a.Delay,2,(λx=>Dy N a c (⟨d,g⟩:AF) x)⟩:AS)]:List AS))
def CC (N:Nat) (a:Int) (c:(List AS)→Int→Option (List AS)) (b:List AS):Option (List AS):=
 c b (Ar (a+1))
def BQ (N:Nat) (p0_w:Ao) (d:Int) (i:(List AS)→Option (List AS)):Nat→(List AS)→Int→Option (List AS)
 |0,_,_=>none
 |l+1,g,c=>
 cond (decide (c<(↑p0_w.b.Links.length:Int))) (
 Option.bind (ix p0_w.b.Links c) λa=>
 cond ((decide (a.From=d))&&(decide (a.Kind≠4))) (
 Option.bind (ix p0_w.h.Links c) λo=>
 Option.bind (ix p0_w.h.Links c) λj=>
 cond (decide (a.To≠(-1))) (
 Option.bind (ix p0_w.peaks a.To) λp=>
 Option.bind (ix p0_w.peaks a.To) λk=>
 Fc N g a j (CC N c (BQ N p0_w d i l)) k.Lo k.Hi) (
 Fc N g a j (CC N c (BQ N p0_w d i l)) 0 0)) (
 cond (decide (a.From=d)) (
 Option.bind (ix p0_w.peaks a.To) λq=>
 Option.bind (ix p0_w.peaks a.To) λm=>
 chk (room (g.length+1) 32) <|
 CC N c (BQ N p0_w d i l) (g++([(⟨a.To,a.Delay,2,(λx=>Dx N a m x)⟩:AS)]:List AS))) (
 cond ((decide (a.To=d))&&(decide (a.Kind=4))) (
 Option.bind (ix p0_w.peaks a.From) λs=>
 Option.bind (ix p0_w.peaks a.From) λn=>
 chk (room (g.length+1) 32) <|
 CC N c (BQ N p0_w d i l) (g++([(⟨a.From,a.Delay,2,(λx=>Dw N a n x)⟩:AS)]:List AS))) (
 CC N c (BQ N p0_w d i l) g)))) (
 i g)
def Fb (N:Nat) (a:List AS):Option (List AS):=
 some a
def DZ (N:Nat) (p0_w:Ao) (d:Int) (c:List AS):Option (List AS):=
 Option.bind (ix p0_w.b.Places d) λa=>
 cond (decide (a.Den≠0)) (
 chk (room (c.length+1) 32) <|
 Fb N (c++([(⟨a.Down,a.Delay,2,(λx=>Dv N a x)⟩:AS)]:List AS))) (
 Fb N c)
def EV (N:Nat) (p0_w:Ao) (a:Int) (b:List AS):Option (List AS):=
 BQ N p0_w a (DZ N p0_w a) N b 0
def EU (N:Nat) (a:Int) (b:(List AS)→Int→Option (List AS)) (c:List AS):Option (List AS):=
 b c (Ar (a+1))
def CB (N:Nat) (p0_w:Ao) (c:Int) (a:(List Ht)) (i:(List AS)→Option (List AS)):Nat→(List AS)→Int→Option (List AS)
 |0,_,_=>none
 |k+1,j,g=>
 cond (decide (g<(↑a.length:Int))) (
 Option.bind (ix a g) λd=>
 Option.bind (cond (decide (d.Place≠c)) (some true) (Option.bind (FY N d.Owner (↑p0_w.b.Owners.length:Int)) λl=>
 some (!l))) λm=>
 cond (m||(decide (d.Litres≤0))) (
 EU N g (CB N p0_w c a i k) j) (
 Option.bind (cond (decide (d.To≠(-1))) (Option.bind (FY N d.To (↑p0_w.b.Places.length:Int)) λn=>
 Option.bind (cond (!n) (some true) (Option.bind (ix p0_w.b.Places d.To) λo=>
 Option.bind (ix p0_w.b.Places c) λp=>
 some (decide (o.Office≠p.Office)))) λq=>
 some q) (some false)) λs=>
 cond s (
 EU N g (CB N p0_w c a i k) j) (
 chk (room (j.length+1) 32) <|
 EU N g (CB N p0_w c a i k) (j++([(⟨d.To,0,0,(λx=>Dz N d x)⟩:AS)]:List AS))))) (
 i j)
def Hk (N:Nat) (p0_w:Ao) (b:Int) (a:(List Ht)):Option (List AS):=
 CB N p0_w b a (EV N p0_w b) N ([]) 0
def Fo (N:Nat) (c0_:AF) (c1_:Int) (c2_:Int):Option AF:=
 Option.bind (Bt N c0_.Lo c1_) λa=>
 Option.bind (Bt N c0_.Hi c2_) λb=>
 some (⟨(max 0 a),(max 0 (min c0_.Hi b))⟩:AF)
def AU (N:Nat) (c:(List Ay)) (a:Ay) (b:((Ay×Ay)→Option Int)) (d:Int):Option (Int×Bool):=
 Option.bind (cond (decide (d<(↑c.length:Int))) (Option.bind (ix c d) λg=>
 Option.bind (b (g,a)) λi=>
 some (decide (i=0))) (some false)) λj=>
 some (d,j)
def AO (N:Nat) (d:(List Ay)) (a:Ay) (b:((Ay×Ay)→Option Int)) (i:Int→Option (Int×Bool)):Nat→Int→Int→Option (Int×Bool)
 |0,_,_=>none
 |l+1,c,g=>
 cond (decide (c<g)) (
 Option.bind (ix d (Ar (Ci .u64 (IntKind.wrap .u64 (Ar (c+g))) 1))) λj=>
 Option.bind (b (j,a)) λk=>
 cond (decide (k<0)) (
 AO N d a b i l (Ar ((Ar (Ci .u64 (IntKind.wrap .u64 (Ar (c+g))) 1))+1)) g) (
 AO N d a b i l c (Ar (Ci .u64 (IntKind.wrap .u64 (Ar (c+g))) 1)))) (
 i c)
def AY (N:Nat) (c:(List Ay)) (a:Ay) (b:((Ay×Ay)→Option Int)):Option (Int×Bool):=
 AO N c a b (AU N c a b) N 0 (↑c.length:Int)
def GJ (N:Nat) (a:Int):Option Bool:=
 some (decide (a≠a))
def Ei (N:Nat) (a:Int) (b:Int):Option Int:=
 Option.bind (GJ N a) λd=>
 Option.bind (GJ N b) λc=>
 cond d (
 cond c (
 some 0) (
 some (-1))) (
 cond c (
 some 1) (
 cond (decide (a<b)) (
 some (-1)) (
 cond (decide (b<a)) (
 some 1) (
 some 0))))
def GK (N:Nat):Option Int:=
 some 0
def FO (N:Nat) (a:(List Int)) (b:Option Int):Nat→Int→Option Int
 |0,_=>none
 |g+1,d=>
 cond (decide (d<(↑a.length:Int))) (
 Option.bind (ix a d) λc=>
 cond (decide (c≠0)) (
 some c) (
 FO N a b g (Ar (d+1)))) (
 b)
def Hn (N:Nat) (a:(List Int)):Option Int:=
 FO N a (GK N) N 0
def Cx (N:Nat) (a:Ay) (b:Ay):Option Int:=
 Option.bind (Ei N a.At b.At) λc=>
 Option.bind (Ei N a.To b.To) λd=>
 Option.bind (Hn N ([c,d]:List Int)) λg=>
 some g
def H0 (N:Nat) (a:(List Ay)) (c:Int) (d:Int) (g:AF):Option (List Ay):=
 cond (decide (g.Hi≤0)) (
 some a) (
 Option.bind (AY N a (⟨c,d,(⟨0,0⟩:AF)⟩:Ay) (λx=>Cx N x.1 x.2)) λb=>
 cond b.2 (
 Option.bind (ix a b.1) λo=>
 Option.bind (ix a b.1) λi=>
 Option.bind (Hy N i.Vol g) λj=>
 Option.bind (F3 N j) λk=>
 Option.bind (ix a b.1) λp=>
 Option.bind (ix a b.1) λl=>
 some (upd a b.1 ({ l with Vol:=k}))) (
 Option.bind (F3 N g) λm=>
 Option.bind (HI N a b.1 ([(⟨c,d,m⟩:Ay)]:List Ay)) λn=>
 some n))
def Gx (N:Nat) (p0_w:Ao) (b:Int) (a:Int) (c:AF):Option (List Ay):=
 cond (decide (b≠(-1))) (
 Option.bind (H0 N p0_w.h.Queue (Ar ((Ar (p0_w.h.Hour+1))+a)) b c) λd=>
 some d) (
 some p0_w.h.Queue)
def Fa (N:Nat) (p0_w:Ao) (b:Int) (g:Ce) (m:AF) (i:Int) (j:Int) (k:List Ay):Option (AF×(List AF)×(List Ay)):=
 Option.bind (Fo N m j i) λa=>
 Option.bind (Bt N a.Lo g.Cap) λc=>
 Option.bind (Bt N a.Hi g.Cap) λd=>
 Option.bind (Gx N ({ p0_w with h:=({ p0_w.h with Queue:=k}:Aq)}:Ao) g.Down g.Delay (⟨(max 0 c),(max 0 d)⟩:AF)) λl=>
 Option.bind (ix p0_w.h.Vol b) λn=>
 Option.bind (ix p0_w.h.Vol b) λo=>
 some ((⟨(max 0 c),(max 0 d)⟩:AF),(upd p0_w.h.Vol b (⟨(min a.Lo g.Cap),(min a.Hi g.Cap)⟩:AF)),l)
def ET (N:Nat) (p0_w:Ao) (a:(List AS)) (i:AF) (n:Int→Int→(List Ay)→Option (AF×(List AF)×(List Ay))):Nat→Int→Int→Int→(List Ay)→Option (AF×(List AF)×(List Ay))
 |0,_,_,_,_=>none
 |u+1,c,d,g,j=>
 cond (decide (c<(↑a.length:Int))) (
 Option.bind (ix a c) λb=>
 Option.bind (b.asks i.Lo) λk=>
 Option.bind (b.asks i.Hi) λl=>
 Option.bind (Fo N i g d) λm=>
 Option.bind (Gx N ({ p0_w with h:=({ p0_w.h with Queue:=j}:Aq)}:Ao) b.to_ b.delay (⟨(min k.Lo m.Lo),(min l.Hi m.Hi)⟩:AF)) λo=>
 Option.bind (CD N k.Hi b.slack) λp=>
 Option.bind (CD N g p) λq=>
 Option.bind (Bt N l.Lo b.slack) λs=>
 Option.bind (CD N d s) λt=>
 ET N p0_w a i n u (Ar (c+1)) t q o) (
 n d g j)
def Hj (N:Nat) (p0_w:Ao) (a:Int) (c:(List AS)):Option (AF×(List AF)×(List Ay)):=
 Option.bind (ix p0_w.b.Places a) λg=>
 Option.bind (ix p0_w.peaks a) λi=>
 Option.bind (ix p0_w.peaks a) λd=>
 ET N p0_w c d (Fa N p0_w a g d) N 0 0 0 p0_w.h.Queue
def Hl (N:Nat) (b:Aq) (a:(List Ay)×(List AT)×(List AF)) (c:List AF) (d:List AF) (g:List Ay):Option (Aq×(List AF)×(List AF)):=
 some ((⟨(Ar (b.Hour+1)),d,g,a.2.1⟩:Aq),a.2.2,c)
def Gh (N:Nat) (c:AJ) (g:Aq) (i:DF) (b:(List Ay)×(List AT)×(List AF)) (m:(List AF)→(List AF)→(List Ay)→Option (Aq×(List AF)×(List AF))):Nat→Int→(List AF)→(List AF)→(List Ay)→Option (Aq×(List AF)×(List AF))
 |0,_,_,_,_=>none
 |q+1,a,d,j,k=>
 cond (decide (a<(↑c.Places.length:Int))) (
 Option.bind (Hk N (⟨c,(⟨g.Hour,j,k,b.2.1⟩:Aq),b.2.2⟩:Ao) a i.Takes) λn=>
 Option.bind (Hj N (⟨c,(⟨g.Hour,j,k,b.2.1⟩:Aq),b.2.2⟩:Ao) a n) λl=>
 Option.bind (ix d a) λo=>
 Option.bind (ix d a) λp=>
 Gh N c g i b m q (Ar (a+1)) (upd d a l.1) l.2.1 l.2.2) (
 m d j k)
def Kw (N:Nat) (a:AJ) (b:Aq) (c:DF) (d:(List Bool)) (g:(List AF)):Option (Aq×(List AF)×(List AF)):=
 Option.bind (Br N b.Vol) λj=>
 Option.bind (Bk N b.Links) λl=>
 chk (L7 (↑a.Places.length:Int) (↑a.Places.length:Int) 16) <|
 Option.bind (Hh N (⟨a,(⟨b.Hour,j,b.Queue,l⟩:Aq),(List.replicate ((↑a.Places.length:Int):Int).toNat ((⟨0,0⟩:AF):AF))⟩:Ao) c d) λk=>
 Option.bind (Gf N (⟨a,(⟨b.Hour,j,b.Queue,k⟩:Aq),(List.replicate ((↑a.Places.length:Int):Int).toNat ((⟨0,0⟩:AF):AF))⟩:Ao) g) λi=>
 chk (L7 (↑a.Places.length:Int) (↑a.Places.length:Int) 16) <|
 Gh N a b c i (Hl N b i) N 0 (List.replicate ((↑a.Places.length:Int):Int).toNat (⟨0,0⟩:AF)) j i.1
def GB (N:Nat) (a:(List Int)):Option (List Int):=
 chk (room (([]:List Int).length+a.length) 8) <|
 some (([]:List Int)++a)
def HH (N:Nat) (a:AJ) (b:Int) (c:List (List Int)):Option AV:=
 some (⟨b,c,(List.replicate ((↑a.Places.length:Int):Int).toNat (0:Int)),[],(List.replicate ((↑a.Links.length:Int):Int).toNat ((⟨0,0,false,false⟩:BM):BM)),(List.replicate ((↑a.Owners.length:Int):Int).toNat (0:Int)),(List.replicate ((↑a.Owners.length:Int):Int).toNat (0:Int))⟩:AV)
def GH (N:Nat) (c:AJ) (d:(List (List Int))→Option AV):Nat→Int→(List (List Int))→Option AV
 |0,_,_=>none
 |l+1,a,b=>
 cond (decide (a<(↑c.Places.length:Int))) (
 Option.bind (ix c.Places a) λg=>
 Option.bind (GB N g.Start) λi=>
 Option.bind (ix b a) λj=>
 Option.bind (ix b a) λk=>
 GH N c d l (Ar (a+1)) (upd b a i)) (
 d b)
def Jo (N:Nat) (a:AJ) (b:Int):Option AV:=
 chk (L7 (↑a.Places.length:Int) (↑a.Places.length:Int) 24) <|
 chk (L7 (↑a.Places.length:Int) (↑a.Places.length:Int) 8) <|
 chk (L7 (↑a.Links.length:Int) (↑a.Links.length:Int) 24) <|
 chk (L7 (↑a.Owners.length:Int) (↑a.Owners.length:Int) 8) <|
 chk (L7 (↑a.Owners.length:Int) (↑a.Owners.length:Int) 8) <|
 GH N a (HH N a b) N 0 (List.replicate ((↑a.Places.length:Int):Int).toNat ([]:(List Int)))
def Fi (N:Nat) (b:AF) (a:AF):Option Bool:=
 Option.bind (Ge N b a) λc=>
 some (MX c.v a.v)
def F2 (N:Nat) (b:AX) (a:AT):Option Bool:=
 Option.bind (EF N a.Pos) λj=>
 Option.bind (cond (!j) (some true) (Option.bind (Fi N a.Pos (⟨0,b.Positions⟩:AF)) λk=>
 some (!k))) λl=>
 Option.bind (cond l (some true) (Option.bind (D9 N (⟨0,b.Positions⟩:AF) a.Target) λm=>
 some (!m))) λn=>
 cond n (
 some false) (
 Option.bind (Cg N 0) λc=>
 Option.bind (Cg N 1) λd=>
 cond ((decide (b.Kind≠5))&&(decide (b.Kind≠3))) (
 some (MX a.Open.v c.v)) (
 Option.bind (cond ((MX a.Open.v c.v)||(MX a.Open.v d.v)) (some true) (Option.bind (Ge N c d) λg=>
 some (MX a.Open.v g.v))) λi=>
 some i))
def DM (N:Nat) (d:AJ) (b:Aq) (g:Option Bool):Nat→Int→Option Bool
 |0,_=>none
 |q+1,c=>
 cond (decide (c<(↑b.Queue.length:Int))) (
 Option.bind (ix b.Queue c) λa=>
 Option.bind (EF N a.Vol) λi=>
 Option.bind (cond (!i) (some true) (Option.bind (Fi N a.Vol (⟨0,1125899906842624⟩:AF)) λj=>
 some (!j))) λk=>
 Option.bind (cond ((k||(decide (a.Vol.Hi≤0)))||(decide (a.At<b.Hour))) (some true) (Option.bind (FY N a.To (↑d.Places.length:Int)) λl=>
 some (!l))) λm=>
 cond m (
 some false) (
 Option.bind (cond (decide (0<c)) (Option.bind (ix b.Queue (Ar (c-1))) λn=>
 Option.bind (Cx N n a) λo=>
 some (decide (0≤o))) (some false)) λp=>
 cond p (
 some false) (
 DM N d b g q (Ar (c+1))))) (
 g)
def DL (N:Nat) (c:AJ) (b:Aq) (d:Option Bool):Nat→Int→Option Bool
 |0,_=>none
 |k+1,a=>
 cond (decide (a<(↑b.Links.length:Int))) (
 Option.bind (ix b.Links a) λg=>
 Option.bind (ix c.Links a) λi=>
 Option.bind (F2 N i g) λj=>
 cond (!j) (
 some false) (
 DL N c b d k (Ar (a+1)))) (
 d)
def Ek (N:Nat):Option Bool:=
 some true
def D5 (N:Nat) (a:AJ) (b:Aq):Option Bool:=
 DL N a b (Ek N) N 0
def D6 (N:Nat) (a:AJ) (b:Aq):Option Bool:=
 DM N a b (D5 N a b) N 0
def DN (N:Nat) (a:Aq) (c:Option Bool):Nat→Int→Option Bool
 |0,_=>none
 |k+1,b=>
 cond (decide (b<(↑a.Vol.length:Int))) (
 Option.bind (ix a.Vol b) λd=>
 Option.bind (EF N d) λg=>
 Option.bind (cond (!g) (some true) (Option.bind (Fi N d (⟨0,1125899906842624⟩:AF)) λi=>
 some (!i))) λj=>
 cond j (
 some false) (
 DN N a c k (Ar (b+1)))) (
 c)
def Gy (N:Nat) (b:AJ) (a:Aq):Option Bool:=
 cond ((((decide (a.Hour<0))||(decide (16777216<a.Hour)))||(decide ((↑a.Vol.length:Int)≠(↑b.Places.length:Int))))||(decide ((↑a.Links.length:Int)≠(↑b.Links.length:Int)))) (
 some false) (
 DN N a (D6 N b a) N 0)
def Gu (N:Nat) (a:AF):Option Int:=
 Option.bind (Bt N a.Hi a.Lo) λb=>
 some b
def Dp (N:Nat) (a:Aq) (c:Int→Option Int):Nat→Int→Int→Option Int
 |0,_,_=>none
 |k+1,d,b=>
 cond (decide (b<(↑a.Queue.length:Int))) (
 Option.bind (ix a.Queue b) λi=>
 Option.bind (Gu N i.Vol) λj=>
 Option.bind (CD N d j) λg=>
 Dp N a c k g (Ar (b+1))) (
 c d)
def EW (N:Nat) (a:Int):Option Int:=
 some a
def Dr (N:Nat) (a:Aq) (b:Int):Option Int:=
 Dp N a (EW N) N b 0
def Dq (N:Nat) (a:Aq) (c:Int→Option Int):Nat→Int→Int→Option Int
 |0,_,_=>none
 |k+1,d,b=>
 cond (decide (b<(↑a.Vol.length:Int))) (
 Option.bind (ix a.Vol b) λg=>
 Option.bind (Gu N g) λi=>
 Option.bind (CD N d i) λj=>
 Dq N a c k j (Ar (b+1))) (
 c d)
def Gg (N:Nat) (a:Aq):Option Int:=
 Dq N a (Dr N a) N 0 0
def FL (N:Nat) (a:Int):Option Int:=
 some a
def D4 (N:Nat) (a:(List Int)) (c:Int→Option Int):Nat→Int→Int→Option Int
 |0,_,_=>none
 |j+1,i,b=>
 cond (decide (b<(↑a.length:Int))) (
 Option.bind (ix a b) λd=>
 Option.bind (CD N i d) λg=>
 D4 N a c j g (Ar (b+1))) (
 c i)
def Cw (N:Nat) (a:(List Int)):Option Int:=
 D4 N a (FL N) N 0 0
def Is (N:Nat) (a:Bool):Option Int:=
 cond a (
 some 1) (
 some 0)
def CI (N:Nat) (b:Aq) (d:(List (AM×Int))) (g:((List (AM×Bool)))→Option Bool):Nat→Int→((List (AM×Bool)))→Option Bool
 |0,_,_=>none
 |l+1,c,i=>
 cond (decide (c<(↑b.Queue.length:Int))) (
 Option.bind (ix b.Queue c) λa=>
 Option.bind (D9 N a.Vol (Ar ((HR (λk:AM=>Value.agg (AM.v k).toArray) d (⟨a.At,a.To⟩:AM)).getD 0))) λj=>
 cond (!j) (
 some false) (
 CI N b d g l (Ar (c+1)) (IH (λk:AM=>Value.agg (AM.v k).toArray) i (⟨a.At,a.To⟩:AM) true))) (
 g i)
def CH (N:Nat) (b:(List (AM×Bool))) (a:AM×Int):Option Bool:=
 cond ((!((HR (λk:AM=>Value.agg (AM.v k).toArray) b a.1).getD false))&&(decide ((Ar a.2)≠0))) (
 some false) (
 none)
def E9 (N:Nat):Option Bool:=
 some true
def CL (N:Nat) (a:(List (AM×Int))) (b:(List (AM×Bool))):Option Bool:=
 cond (List.all a (λe=>(CH N b e).isNone)) (E9 N) (some false)
def CM (N:Nat) (a:Aq) (b:(List (AM×Int))):Option Bool:=
 CI N a b (CL N b) N 0 ([]:(List (AM×Bool)))
def CJ (N:Nat) (a:AV) (g:((List (AM×Int)))→Option Bool):Nat→Int→((List (AM×Int)))→Option Bool
 |0,_,_=>none
 |l+1,c,d=>
 cond (decide (c<(↑a.Queue.length:Int))) (
 Option.bind (ix a.Queue c) λb=>
 Option.bind (Cw N b.Part) λi=>
 Option.bind (CD N (Ar ((HR (λk:AM=>Value.agg (AM.v k).toArray) d (⟨b.At,b.To⟩:AM)).getD 0)) i) λj=>
 CJ N a g l (Ar (c+1)) (IH (λk:AM=>Value.agg (AM.v k).toArray) d (⟨b.At,b.To⟩:AM) j)) (
 g d)
def GI (N:Nat) (a:Aq) (b:AV):Option Bool:=
 CJ N b (CM N a) N 0 ([]:(List (AM×Int)))
def EG (N:Nat) (b:Aq) (c:AV) (i:Option Bool):Nat→Int→Option Bool
 |0,_=>none
 |n+1,a=>
 cond (decide (a<(↑b.Links.length:Int))) (
 Option.bind (ix b.Links a) λd=>
 Option.bind (ix c.Gates a) λg=>
 Option.bind (D9 N d.Pos g.Pos) λj=>
 Option.bind (cond (!j) (some true) (Option.bind (Is N g.Open) λk=>
 Option.bind (D9 N d.Open k) λl=>
 some (!l))) λm=>
 cond m (
 some false) (
 EG N b c i n (Ar (a+1)))) (
 i)
def EI (N:Nat) (a:Aq) (b:AV):Option Bool:=
 Option.bind (GI N a b) λc=>
 some c
def EJ (N:Nat) (a:Aq) (b:AV):Option Bool:=
 EG N a b (EI N a b) N 0
def EH (N:Nat) (a:Aq) (c:AV) (d:Option Bool):Nat→Int→Option Bool
 |0,_=>none
 |l+1,b=>
 cond (decide (b<(↑a.Vol.length:Int))) (
 Option.bind (ix a.Vol b) λk=>
 Option.bind (ix c.Own b) λg=>
 Option.bind (Cw N g) λi=>
 Option.bind (D9 N k i) λj=>
 cond (!j) (
 some false) (
 EH N a c d l (Ar (b+1)))) (
 d)
def Gi (N:Nat) (c:AJ) (a:Aq) (b:AV):Option Bool:=
 cond (((((decide (a.Hour≠b.Hour))||(decide ((↑a.Vol.length:Int)≠(↑c.Places.length:Int))))||(decide ((↑a.Links.length:Int)≠(↑c.Links.length:Int))))||(decide ((↑b.Own.length:Int)≠(↑a.Vol.length:Int))))||(decide ((↑b.Gates.length:Int)≠(↑a.Links.length:Int)))) (
 some false) (
 EH N a b (EJ N a b) N 0)
def Eu (N:Nat) (a:AV) (g:(List Ay)→Option Aq):Nat→Int→(List Ay)→Option Aq
 |0,_,_=>none
 |l+1,b,d=>
 cond (decide (b<(↑a.Queue.length:Int))) (
 Option.bind (ix a.Queue b) λc=>
 Option.bind (Cw N c.Part) λi=>
 Option.bind (Cg N i) λj=>
 Option.bind (H0 N d c.At c.To j) λk=>
 Eu N a g l (Ar (b+1)) k) (
 g d)
def Et (N:Nat) (b:AV) (j:(List AT)→Option Aq):Nat→Int→(List AT)→Option Aq
 |0,_,_=>none
 |l+1,c,d=>
 cond (decide (c<(↑b.Gates.length:Int))) (
 Option.bind (ix b.Gates c) λa=>
 Option.bind (Cg N a.Pos) λg=>
 Option.bind (Is N a.Open) λk=>
 Option.bind (Cg N k) λi=>
 chk (room (d.length+([(⟨g,a.Target,i⟩:AT)]:List AT).length) 40) <|
 Et N b j l (Ar (c+1)) (d++([(⟨g,a.Target,i⟩:AT)]:List AT))) (
 j d)
def Fd (N:Nat) (a:AV) (d:List AF) (b:List Ay) (c:List AT):Option Aq:=
 some (⟨a.Hour,d,b,c⟩:Aq)
def Ew (N:Nat) (a:AV) (c:List AF) (b:List Ay):Option Aq:=
 Et N a (Fd N a c b) N 0 ([])
def Ex (N:Nat) (a:AV) (b:List AF):Option Aq:=
 Eu N a (Ew N a b) N 0 ([])
def Ev (N:Nat) (a:AV) (d:(List AF)→Option Aq):Nat→Int→(List AF)→Option Aq
 |0,_,_=>none
 |k+1,b,c=>
 cond (decide (b<(↑a.Own.length:Int))) (
 Option.bind (ix a.Own b) λi=>
 Option.bind (Cw N i) λj=>
 Option.bind (Cg N j) λg=>
 chk (room (c.length+([g]:List AF).length) 16) <|
 Ev N a d k (Ar (b+1)) (c++([g]:List AF))) (
 d c)
def H1 (N:Nat) (b:AJ) (a:AV):Option Aq:=
 Ev N a (Ex N a) N 0 ([])
def En (N:Nat):Option Bool:=
 Option.bind (Kw N (⟨(ByteArray.mk #[98]),([(ByteArray.mk #[97])]:List ByteArray),0,B3,[],[],[],[],[],([0,0,0]:List Int),0⟩:AJ) (⟨0,([(⟨100,150⟩:AF)]:List AF),[],[]⟩:Aq) (⟨[],[],[],[],[]⟩:DF) [] []) λa=>
 Option.bind (Jo N (⟨(ByteArray.mk #[98]),([(ByteArray.mk #[97])]:List ByteArray),0,B3,[],[],[],[],[],([0,0,0]:List Int),0⟩:AJ) 0) λb=>
 cond (((decide ((↑a.2.1.length:Int)≠1))||(decide ((↑a.2.2.length:Int)≠1)))||(decide ((↑a.1.Vol.length:Int)≠1))) (
 some false) (
 Option.bind (ix a.2.1 0) λy=>
 Option.bind (ix a.2.1 0) λc=>
 Option.bind (cond (MX c.v (⟨100,150⟩:AF).v) (Option.bind (ix a.2.2 0) λz=>
 Option.bind (ix a.2.2 0) λd=>
 some (MX d.v (⟨0,17⟩:AF).v)) (some false)) λg=>
 Option.bind (cond g (Option.bind (ix a.1.Vol 0) λi=>
 some (MX i.v (⟨88,120⟩:AF).v)) (some false)) λj=>
 Option.bind (cond ((j&&(decide (a.1.Hour=1)))&&(decide ((↑a.1.Queue.length:Int)=0))) (Option.bind (Gy N (⟨(ByteArray.mk #[98]),([(ByteArray.mk #[97])]:List ByteArray),0,B3,[],[],[],[],[],([0,0,0]:List Int),0⟩:AJ) (⟨0,([(⟨100,150⟩:AF)]:List AF),[],[]⟩:Aq)) λk=>
 some k) (some false)) λl=>
 Option.bind (cond l (Option.bind (Gg N (⟨0,([(⟨100,150⟩:AF)]:List AF),[],[]⟩:Aq)) λm=>
 some (decide (m=50))) (some false)) λn=>
 Option.bind (cond n (Option.bind (Gi N (⟨(ByteArray.mk #[98]),([(ByteArray.mk #[97])]:List ByteArray),0,B3,[],[],[],[],[],([0,0,0]:List Int),0⟩:AJ) (⟨0,([(⟨100,150⟩:AF)]:List AF),[],[]⟩:Aq) b) λo=>
 some o) (some false)) λp=>
 Option.bind (cond p (Option.bind (H1 N (⟨(ByteArray.mk #[98]),([(ByteArray.mk #[97])]:List ByteArray),0,B3,[],[],[],[],[],([0,0,0]:List Int),0⟩:AJ) b) λq=>
 Option.bind (Gg N q) λs=>
 some (decide (s=0))) (some false)) λt=>
 Option.bind (cond t (Option.bind (H1 N (⟨(ByteArray.mk #[98]),([(ByteArray.mk #[97])]:List ByteArray),0,B3,[],[],[],[],[],([0,0,0]:List Int),0⟩:AJ) b) λu=>
 Option.bind (Gi N (⟨(ByteArray.mk #[98]),([(ByteArray.mk #[97])]:List ByteArray),0,B3,[],[],[],[],[],([0,0,0]:List Int),0⟩:AJ) u b) λw=>
 some w) (some false)) λx=>
 some x)
def Fe (N:Nat) (b:AJ) (c:Aq) (a:DF):Option Bool:=
 cond ((((decide (6<(↑b.Places.length:Int)))||(decide (6<(↑b.Links.length:Int))))||(decide (4<(↑b.Owners.length:Int))))||(decide (16<(↑c.Queue.length:Int)))) (
 some false) (
 some (((((decide ((↑a.Rain.length:Int)≤8))&&(decide ((↑a.Faults.length:Int)≤8)))&&(decide ((↑a.Cmds.length:Int)≤8)))&&(decide ((↑a.Takes.length:Int)≤8)))&&(decide ((↑a.Swaps.length:Int)≤8))))
def BF (N:Nat) (c:Int) (b:Int) (a:Int):Option Bool:=
 some ((decide (b≤c))&&(decide (c≤a)))
def BC (N:Nat) (a:Int):Option Bool:=
 Option.bind (BF N a 0 1125899906842624) λb=>
 some b
def CE (N:Nat) (a:AJ) (c:Option Bool):Nat→Int→Option Bool
 |0,_=>none
 |i+1,b=>
 cond (decide (b<(↑a.Room.length:Int))) (
 Option.bind (ix a.Room b) λd=>
 Option.bind (BC N d) λg=>
 cond (!g) (
 some false) (
 CE N a c i (Ar (b+1)))) (
 c)
def Di (N:Nat):Option Bool:=
 some true
def CG (N:Nat) (a:AJ):Option Bool:=
 CE N a (Di N) N 0
def CF (N:Nat) (a:AJ) (d:Option Bool):Nat→Int→Option Bool
 |0,_=>none
 |g+1,c=>
 cond (decide (c<(↑a.Name.size:Int))) (
 Option.bind (RJ a.Name c) λb=>
 cond ((((decide (b<32))||(decide (126<b)))||(decide (b=34)))||(decide (b=92))) (
 some false) (
 CF N a d g (Ar (c+1)))) (
 d)
def Ff (N:Nat) (a:AJ):Option Bool:=
 Option.bind (cond (decide (500<(↑a.Name.size:Int))) (some true) (Option.bind (BF N (↑a.Owners.length:Int) 1 16) λb=>
 some (!b))) λc=>
 Option.bind (cond c (some true) (Option.bind (BF N a.Cells 0 64) λd=>
 some (!d))) λg=>
 Option.bind (cond g (some true) (Option.bind (BF N (↑a.Places.length:Int) 1 64) λi=>
 some (!i))) λj=>
 Option.bind (cond ((((((j||(decide (96<(↑a.Links.length:Int))))||(decide (40<(↑a.Towns.length:Int))))||(decide (128<(↑a.Gauges.length:Int))))||(decide (128<(↑a.Roads.length:Int))))||(decide (40<(↑a.Shelters.length:Int))))||(decide ((↑a.Room.length:Int)≠3))) (some true) (Option.bind (BF N a.Err 0 1099511627776) λk=>
 some (!k))) λl=>
 cond l (
 some false) (
 CF N a (CG N a) N 0)
def Ej (N:Nat):Option Bool:=
 some true
def C8 (N:Nat) (a:ByteArray) (d:Option Bool):Nat→Int→Option Bool
 |0,_=>none
 |g+1,c=>
 cond (decide (c<(↑a.size:Int))) (
 Option.bind (RJ a c) λb=>
 cond ((((decide (b<97))||(decide (122<b)))&&((decide (b<48))||(decide (57<b))))&&(decide (b≠95))) (
 some false) (
 C8 N a d g (Ar (c+1)))) (
 d)
def Gm (N:Nat) (a:ByteArray):Option Bool:=
 Option.bind (cond (((decide ((↑a.size:Int)<1))||(decide (24<(↑a.size:Int))))||(a==(ByteArray.mk #[111,117,116]))) (some true) (Option.bind (RJ a 0) λb=>
 some (decide (b<97)))) λc=>
 Option.bind (cond c (some true) (Option.bind (RJ a 0) λd=>
 some (decide (122<d)))) λg=>
 cond g (
 some false) (
 C8 N a (Ej N) N 1)
def E5 (N:Nat) (a:(List (AG×Bool))) (b:ByteArray) (d:ByteArray):Option (Bool×(List (AG×Bool))):=
 Option.bind (Gm N b) λc=>
 cond ((!c)||((HR (λk:AG=>Value.agg (AG.v k).toArray) a (⟨d,b⟩:AG)).getD false)) (
 some (false,a)) (
 some (true,(IH (λk:AG=>Value.agg (AG.v k).toArray) a (⟨d,b⟩:AG) true)))
def HC (N:Nat) (a:(List (AG×Bool))) (b:ByteArray) (c:ByteArray):Option (Bool×(List (AG×Bool))):=
 cond (b==(ByteArray.mk #[115,104,101,108,116,101,114])) (
 E5 N a c (ByteArray.mk #[116,111,119,110])) (
 E5 N a c b)
def BR (N:Nat) (c2_:(List (AG×Bool))) (c3_:Bool) (a:ByteArray) (b:ByteArray):Option ((List (AG×Bool))×Bool):=
 Option.bind (HC N c2_ a b) λc=>
 some (c.2,(c.1&&c3_))
def Be (N:Nat) (a:AJ) (d:Bool→((List (AG×Bool)))→Option Bool):Nat→Int→Bool→((List (AG×Bool)))→Option Bool
 |0,_,_,_=>none
 |k+1,c,g,i=>
 cond (decide (c<(↑a.Places.length:Int))) (
 Option.bind (ix a.Places c) λj=>
 Option.bind (BR N i g (ByteArray.mk #[112,108,97,99,101]) j.Name) λb=>
 Be N a d k (Ar (c+1)) b.2 b.1) (
 d g i)
def Bd (N:Nat) (a:AJ) (i:Bool→((List (AG×Bool)))→Option Bool):Nat→Int→Bool→((List (AG×Bool)))→Option Bool
 |0,_,_,_=>none
 |k+1,b,c,d=>
 cond (decide (b<(↑a.Links.length:Int))) (
 Option.bind (ix a.Links b) λj=>
 Option.bind (BR N d c (ByteArray.mk #[108,105,110,107]) j.Name) λg=>
 Bd N a i k (Ar (b+1)) g.2 g.1) (
 i c d)
def Bc (N:Nat) (a:AJ) (i:Bool→((List (AG×Bool)))→Option Bool):Nat→Int→Bool→((List (AG×Bool)))→Option Bool
 |0,_,_,_=>none
 |k+1,b,c,d=>
 cond (decide (b<(↑a.Towns.length:Int))) (
 Option.bind (ix a.Towns b) λj=>
 Option.bind (BR N d c (ByteArray.mk #[116,111,119,110]) j.Name) λg=>
 Bc N a i k (Ar (b+1)) g.2 g.1) (
 i c d)
def Bb (N:Nat) (a:AJ) (i:Bool→((List (AG×Bool)))→Option Bool):Nat→Int→Bool→((List (AG×Bool)))→Option Bool
 |0,_,_,_=>none
 |k+1,b,c,d=>
 cond (decide (b<(↑a.Shelters.length:Int))) (
 Option.bind (ix a.Shelters b) λj=>
 Option.bind (BR N d c (ByteArray.mk #[115,104,101,108,116,101,114]) j.Name) λg=>
 Bb N a i k (Ar (b+1)) g.2 g.1) (
 i c d)
def BX (N:Nat) (a:AJ) (c:Bool→((List (AG×Bool)))→Option Bool):Nat→Int→Bool→((List (AG×Bool)))→Option Bool
 |0,_,_,_=>none
 |k+1,b,d,g=>
 cond (decide (b<(↑a.Gauges.length:Int))) (
 Option.bind (ix a.Gauges b) λj=>
 Option.bind (BR N g d (ByteArray.mk #[103,97,117,103,101]) j.Name) λi=>
 BX N a c k (Ar (b+1)) i.2 i.1) (
 c d g)
def BW (N:Nat) (a:AJ) (c:Bool→Option Bool):Nat→Int→Bool→((List (AG×Bool)))→Option Bool
 |0,_,_,_=>none
 |k+1,b,d,i=>
 cond (decide (b<(↑a.Roads.length:Int))) (
 Option.bind (ix a.Roads b) λj=>
 Option.bind (BR N i d (ByteArray.mk #[114,111,97,100]) j.Name) λg=>
 BW N a c k (Ar (b+1)) g.2 g.1) (
 c d)
def CO (N:Nat) (a:Bool):Option Bool:=
 some a
def CP (N:Nat) (a:AJ) (b:Bool) (c:(List (AG×Bool))):Option Bool:=
 BW N a (CO N) N 0 b c
def CZ (N:Nat) (a:AJ) (b:Bool) (c:(List (AG×Bool))):Option Bool:=
 BX N a (CP N a) N 0 b c
def Ca (N:Nat) (a:AJ) (b:Bool) (c:(List (AG×Bool))):Option Bool:=
 Bb N a (CZ N a) N 0 b c
def Cb (N:Nat) (a:AJ) (b:Bool) (c:(List (AG×Bool))):Option Bool:=
 Bc N a (Ca N a) N 0 b c
def Cc (N:Nat) (a:AJ) (b:Bool) (c:(List (AG×Bool))):Option Bool:=
 Bd N a (Cb N a) N 0 b c
def Cd (N:Nat) (a:AJ) (b:Bool) (c:(List (AG×Bool))):Option Bool:=
 Be N a (Cc N a) N 0 b c
def Bf (N:Nat) (a:AJ) (c:Bool→((List (AG×Bool)))→Option Bool):Nat→Int→Bool→((List (AG×Bool)))→Option Bool
 |0,_,_,_=>none
 |k+1,b,d,g=>
 cond (decide (b<(↑a.Owners.length:Int))) (
 Option.bind (ix a.Owners b) λj=>
 Option.bind (BR N g d (ByteArray.mk #[111,119,110,101,114]) j) λi=>
 Bf N a c k (Ar (b+1)) i.2 i.1) (
 c d g)
def GC (N:Nat) (a:AJ):Option Bool:=
 Bf N a (Cd N a) N 0 true ([]:(List (AG×Bool)))
def EB (N:Nat) (a:Int) (b:Int):Option Bool:=
 Option.bind (BC N a) λc=>
 Option.bind (cond c (Option.bind (BC N b) λd=>
 some d) (some false)) λg=>
 some (g&&((decide (b≠0))||(decide (a=0))))
def Cr (N:Nat) (b:Int) (a:Int):Option Bool:=
 Option.bind (BF N b 0 (Ar (a-1))) λc=>
 some c
def F5 (N:Nat) (c:AJ) (b:Int) (a:Int):Option Bool:=
 Option.bind (cond (decide (a=(-1))) (some true) (Option.bind (Cr N a (↑c.Places.length:Int)) λd=>
 some (d&&(decide (a≠b))))) λg=>
 some g
def A5 (N:Nat) (a:Int):Option Bool:=
 some (decide (a≤1125899906842624))
def BV (N:Nat) (d:Ce) (g:Int→Option Bool):Nat→Int→Int→Option Bool
 |0,_,_=>none
 |j+1,b,a=>
 cond (decide (a<(↑d.Start.length:Int))) (
 Option.bind (ix d.Start a) λc=>
 Option.bind (BC N c) λi=>
 cond (!i) (
 some false) (
 BV N d g j (Ar (b+c)) (Ar (a+1)))) (
 g b)
def BU (N:Nat) (c:AJ) (g:Ce) (d:Int) (i:Int→Option Bool):Nat→Int→Int→Option Bool
 |0,_,_=>none
 |m+1,j,b=>
 cond (decide (b<(↑g.Rain.length:Int))) (
 Option.bind (ix g.Rain b) λa=>
 Option.bind (cond ((decide (a.Index≤j))||(decide (c.Cells≤a.Index))) (some true) (Option.bind (BC N a.Area) λk=>
 some (!k))) λl=>
 cond l (
 some false) (
 BU N c g d i m a.Index (Ar (b+1)))) (
 i d)
def CN (N:Nat) (a:AJ) (c:Ce) (d:Int→Option Bool) (b:Int):Option Bool:=
 BU N a c b d N (-1) 0
def BL (N:Nat) (a:Int) (b:Int→Int→Option Bool) (c:Int):Option Bool:=
 b c (Ar (a+1))
def Ax (N:Nat) (b:AJ) (d:Int→Option Bool):Nat→Int→Int→Option Bool
 |0,_,_=>none
 |y+1,g,c=>
 cond (decide (c<(↑b.Places.length:Int))) (
 Option.bind (ix b.Places c) λa=>
 Option.bind (BF N a.Kind 0 3) λj=>
 Option.bind (cond (!j) (some true) (Option.bind (BF N a.Office 0 2) λk=>
 some (!k))) λl=>
 Option.bind (cond l (some true) (Option.bind (BF N a.Delay 0 240) λm=>
 some (!m))) λn=>
 Option.bind (cond n (some true) (Option.bind (BC N a.Cap) λo=>
 some (!o))) λp=>
 Option.bind (cond p (some true) (Option.bind (BC N a.Floor) λq=>
 some (!q))) λs=>
 Option.bind (cond s (some true) (Option.bind (DD N a.Level) λt=>
 some (!t))) λu=>
 Option.bind (cond (u||(decide ((↑a.Start.length:Int)≠(↑b.Owners.length:Int)))) (some true) (Option.bind (EB N a.Num a.Den) λv=>
 some (!v))) λw=>
 Option.bind (cond w (some true) (Option.bind (F5 N b c a.Down) λi=>
 some (!i))) λx=>
 cond x (
 some false) (
 BV N a (CN N b a (BL N c (Ax N b d y))) N g 0)) (
 d g)
def Fp (N:Nat) (a:AJ):Option Bool:=
 Ax N a (A5 N) N 0 0
def Dd (N:Nat) (b:(List BA)) (a:(List BA)) (i:Option Bool):Nat→Int→Option Bool
 |0,_=>none
 |j+1,c=>
 cond (decide (c<(↑a.length:Int))) (
 Option.bind (ix a c) λd=>
 Option.bind (Fj N b d.X) λg=>
 cond ((decide (d.Y<g.1))||((decide (g.1=d.Y))&&g.2)) (
 some false) (
 Dd N b a i j (Ar (c+1)))) (
 i)
def E4 (N:Nat):Option Bool:=
 some true
def Dg (N:Nat) (a:(List BA)) (b:(List BA)):Option Bool:=
 Dd N a b (E4 N) N 0
def De (N:Nat) (a:(List BA)) (b:(List BA)) (d:Option Bool):Nat→Int→Option Bool
 |0,_=>none
 |j+1,c=>
 cond (decide (c<(↑a.length:Int))) (
 Option.bind (ix a c) λg=>
 Option.bind (Fj N b g.X) λi=>
 cond (decide (i.1<g.Y)) (
 some false) (
 De N a b d j (Ar (c+1)))) (
 d)
def GS (N:Nat) (a:(List BA)) (b:(List BA)):Option Bool:=
 Option.bind (DD N a) λc=>
 Option.bind (cond (!c) (some true) (Option.bind (DD N b) λd=>
 some (!d))) λg=>
 cond g (
 some false) (
 De N a b (Dg N a b) N 0)
def C0 (N:Nat) (a:AX) (b:Bool):Option Bool:=
 cond b (
 Option.bind (BC N a.Crest) λc=>
 Option.bind (cond c (Option.bind (BC N a.Num) λd=>
 some d) (some false)) λg=>
 Option.bind (cond g (Option.bind (BF N a.Den 1 1125899906842624) λi=>
 some i) (some false)) λj=>
 some j) (
 cond (decide (a.Kind=2)) (
 Option.bind (BC N a.Num) λk=>
 Option.bind (cond k (Option.bind (BF N a.Positions 1 64) λl=>
 some l) (some false)) λm=>
 Option.bind (cond m (Option.bind (BF N a.Speed 0 a.Positions) λn=>
 some n) (some false)) λo=>
 some o) (
 cond (decide (a.Kind=3)) (
 Option.bind (BC N a.Num) λp=>
 Option.bind (cond p (Option.bind (BF N a.Den 1 1125899906842624) λq=>
 some q) (some false)) λs=>
 Option.bind (cond s (Option.bind (BC N a.Prime) λt=>
 some t) (some false)) λu=>
 Option.bind (cond u (Option.bind (BC N a.Break) λv=>
 some v) (some false)) λw=>
 some (w&&(decide (a.Break<a.Prime)))) (
 Option.bind (BC N a.Num) λx=>
 Option.bind (cond x (Option.bind (BF N a.Den 1 1125899906842624) λy=>
 some y) (some false)) λz=>
 Option.bind (cond z (Option.bind (EB N a.BackNum a.BackDen) λA=>
 some A) (some false)) λB=>
 some (B&&(decide (a.To≠(-1)))))))
def Es (N:Nat) (a:AX):Option Bool:=
 cond (decide (a.Kind=0)) (
 Option.bind (DD N a.Rate) λb=>
 Option.bind (cond b (Option.bind (DD N a.Band.Lo) λc=>
 some c) (some false)) λd=>
 Option.bind (cond d (Option.bind (DD N a.Band.Hi) λg=>
 some g) (some false)) λi=>
 Option.bind (cond i (Option.bind (GS N a.Band.Lo a.Rate) λj=>
 some j) (some false)) λk=>
 Option.bind (cond k (Option.bind (GS N a.Rate a.Band.Hi) λl=>
 some l) (some false)) λm=>
 Option.bind (cond m (Option.bind (BF N a.Positions 0 64) λn=>
 some n) (some false)) λo=>
 Option.bind (cond o (Option.bind (BF N a.Speed 0 a.Positions) λp=>
 some p) (some false)) λq=>
 Option.bind (cond q (Option.bind (BC N a.Leak) λs=>
 some s) (some false)) λt=>
 Option.bind (cond t (Option.bind (EB N a.BackNum a.BackDen) λu=>
 some u) (some false)) λv=>
 some (v&&((decide (a.To≠(-1)))||(decide (a.BackDen=0))))) (
 cond (decide (a.Kind=1)) (
 C0 N a (decide (a.Kind=1))) (
 C0 N a (decide (a.Kind=5))))
def Eo (N:Nat) (a:AX):Option Bool:=
 cond ((!(decide (a.Kind=0)))&&((((decide (0<(↑a.Rate.length:Int)))||(decide (0<(↑a.Band.Lo.length:Int))))||(decide (0<(↑a.Band.Hi.length:Int))))||(decide (a.Leak≠0)))) (
 some false) (
 cond (((!(decide (a.Kind=0)))&&(decide (a.Kind≠2)))&&((decide (a.Positions≠0))||(decide (a.Speed≠0)))) (
 some false) (
 cond (((decide (a.Kind≠1))&&(decide (a.Kind≠5)))&&(decide (a.Crest≠0))) (
 some false) (
 cond (((decide (a.Kind=0))&&(decide (a.Num≠0)))||(((decide (a.Kind=0))||(decide (a.Kind=2)))&&(decide (a.Den≠0)))) (
 some false) (
 cond ((decide (a.Kind≠3))&&((decide (a.Prime≠0))||(decide (a.Break≠0)))) (
 some false) (
 some (((decide (a.Kind=0))||(decide (a.Kind=4)))||((decide (a.BackNum=0))&&(decide (a.BackDen=0)))))))))
def DC (N:Nat):Option Bool:=
 some true
def B0 (N:Nat) (a:AJ) (d:Option Bool):Nat→Int→Option Bool
 |0,_=>none
 |t+1,c=>
 cond (decide (c<(↑a.Links.length:Int))) (
 Option.bind (ix a.Links c) λb=>
 Option.bind (BF N b.Kind 0 5) λg=>
 Option.bind (cond (!g) (some true) (Option.bind (Cr N b.From (↑a.Places.length:Int)) λi=>
 some (!i))) λj=>
 Option.bind (cond j (some true) (Option.bind (F5 N a b.From b.To) λk=>
 some (!k))) λl=>
 Option.bind (cond l (some true) (Option.bind (BF N b.Delay 0 240) λm=>
 some (!m))) λn=>
 Option.bind (cond n (some true) (Option.bind (Es N b) λo=>
 some (!o))) λp=>
 Option.bind (cond p (some true) (Option.bind (Eo N b) λq=>
 some (!q))) λs=>
 cond s (
 some false) (
 B0 N a d t (Ar (c+1)))) (
 d)
def FC (N:Nat) (a:AJ):Option Bool:=
 B0 N a (DC N) N 0
def G0 (N:Nat) (c:AJ) (a:Int) (b:Int):Option Bool:=
 cond (decide (b=(-1))) (
 some (decide (a=2))) (
 Option.bind (ix c.Places b) λd=>
 some ((decide (d.Office=a))||(decide (d.Office=(Ar (a+1))))))
def Bg (N:Nat) (a:AJ) (g:Option Bool):Nat→Int→Option Bool
 |0,_=>none
 |m+1,d=>
 cond (decide (d<(↑a.Links.length:Int))) (
 Option.bind (ix a.Links d) λb=>
 Option.bind (ix a.Places b.From) λc=>
 Option.bind (G0 N a c.Office b.To) λi=>
 Option.bind (cond (!i) (some true) (Option.bind (cond (decide (b.Kind=4)) (Option.bind (ix a.Places b.To) λj=>
 some (decide (j.Office≠c.Office))) (some false)) λk=>
 some k)) λl=>
 cond l (
 some false) (
 Bg N a g m (Ar (d+1)))) (
 g)
def Ch (N:Nat):Option Bool:=
 some true
def Bi (N:Nat) (a:AJ):Option Bool:=
 Bg N a (Ch N) N 0
def Bh (N:Nat) (a:AJ) (c:Option Bool):Nat→Int→Option Bool
 |0,_=>none
 |i+1,b=>
 cond (decide (b<(↑a.Places.length:Int))) (
 Option.bind (ix a.Places b) λd=>
 Option.bind (G0 N a d.Office d.Down) λg=>
 cond (!g) (
 some false) (
 Bh N a c i (Ar (b+1)))) (
 c)
def EX (N:Nat) (a:AJ):Option Bool:=
 Bh N a (Bi N a) N 0
def Gz (N:Nat) (a:Int):Option Int:=
 some (Ar a)
def Dm (N:Nat) (b:Int) (a:Int):Option Int:=
 cond (decide (a=0)) (
 some 0) (
 cond (decide (a<b)) (
 some 1099511627777) (
 Option.bind (Ec N (IntKind.wrap .u64 b) 1099511627776) λd=>
 Option.bind (Ed N d.1 d.2 (IntKind.wrap .u64 a)) λc=>
 cond (decide (c.2≠0)) (
 Gz N (IntKind.wrap .u64 (c.1+1))) (
 Gz N c.1)))
def B1 (N:Nat) (a:Int):Option Int:=
 some a
def CX (N:Nat) (a:(List BA)) (c:Int→Option Int):Nat→Int→Int→Option Int
 |0,_,_=>none
 |m+1,d,b=>
 cond (decide (b<(↑a.length:Int))) (
 Option.bind (ix a b) λg=>
 Option.bind (ix a (Ar (b-1))) λi=>
 Option.bind (ix a b) λj=>
 Option.bind (ix a (Ar (b-1))) λk=>
 Option.bind (Dm N (Ar (g.Y-i.Y)) (Ar (j.X-k.X))) λl=>
 CX N a c m (max d l) (Ar (b+1))) (
 c d)
def C4 (N:Nat) (a:Int) (b:Int→Int→Option Int) (c:Int):Option Int:=
 b c (Ar (a+1))
def BS (N:Nat) (a:(List (List BA))) (c:Int→Option Int):Nat→Int→Int→Option Int
 |0,_,_=>none
 |i+1,g,b=>
 cond (decide (b<(↑a.length:Int))) (
 Option.bind (ix a b) λd=>
 CX N d (C4 N b (BS N a c i)) N g 1) (
 c g)
def F6 (N:Nat) (a:(List (List BA))):Option Int:=
 BS N a (B1 N) N 0 0
def BD (N:Nat) (b:Int) (c:Int→(List Int)→Option Bool) (a:List Int):Option Bool:=
 c (Ar (b+1)) a
def Bo (N:Nat) (b:List Int) (a:AX) (g:(List Int)→Option Bool) (i:Bool):Option Bool:=
 cond i (
 Option.bind (ix b a.From) λn=>
 Option.bind (ix b a.From) λj=>
 Option.bind (Dm N a.Num a.Den) λk=>
 Option.bind (ix b a.From) λo=>
 Option.bind (ix b a.From) λp=>
 g (upd b a.From (Ar (j+k)))) (
 cond (decide (a.Kind=4)) (
 Option.bind (ix b a.From) λq=>
 Option.bind (ix b a.From) λc=>
 Option.bind (Dm N a.Num a.Den) λd=>
 Option.bind (ix b a.From) λs=>
 Option.bind (ix b a.From) λt=>
 Option.bind (ix (upd b a.From (Ar (c+(Ar (2*d))))) a.To) λu=>
 Option.bind (ix (upd b a.From (Ar (c+(Ar (2*d))))) a.To) λl=>
 Option.bind (Dm N a.BackNum a.BackDen) λm=>
 Option.bind (ix (upd b a.From (Ar (c+(Ar (2*d))))) a.To) λv=>
 Option.bind (ix (upd b a.From (Ar (c+(Ar (2*d))))) a.To) λw=>
 g (upd (upd b a.From (Ar (c+(Ar (2*d))))) a.To (Ar (l+(Ar (2*m)))))) (
 g b))
def Ey (N:Nat) (b:Bool→Option Bool) (a:Bool):Option Bool:=
 b a
def An (N:Nat) (c:AJ) (j:(List Int)→Option Bool):Nat→Int→(List Int)→Option Bool
 |0,_,_=>none
 |k+1,i,b=>
 cond (decide (i<(↑c.Links.length:Int))) (
 Option.bind (ix c.Links i) λa=>
 cond (decide (a.Kind=0)) (
 Option.bind (ix b a.From) λn=>
 Option.bind (ix b a.From) λd=>
 Option.bind (F6 N ([a.Rate,a.Band.Lo,a.Band.Hi]:List (List BA))) λg=>
 Option.bind (ix b a.From) λo=>
 Option.bind (ix b a.From) λp=>
 cond (decide (a.To≠(-1))) (
 Option.bind (ix (upd b a.From (Ar (d+g))) a.To) λq=>
 Option.bind (ix (upd b a.From (Ar (d+g))) a.To) λl=>
 Option.bind (Dm N a.BackNum a.BackDen) λm=>
 Option.bind (ix (upd b a.From (Ar (d+g))) a.To) λs=>
 Option.bind (ix (upd b a.From (Ar (d+g))) a.To) λt=>
 BD N i (An N c j k) (upd (upd b a.From (Ar (d+g))) a.To (Ar (l+m)))) (
 BD N i (An N c j k) (upd b a.From (Ar (d+g))))) (
 cond (decide (a.Kind=1)) (
 Bo N b a (BD N i (An N c j k)) (decide (a.Kind=1))) (
 cond (decide (a.Kind=5)) (
 Ey N (Bo N b a (BD N i (An N c j k))) (decide (a.Kind=5))) (
 Ey N (Bo N b a (BD N i (An N c j k))) (decide (a.Kind=3)))))) (
 j b)
def Bm (N:Nat) (b:List Int) (c:Option Bool):Nat→Int→Option Bool
 |0,_=>none
 |i+1,a=>
 cond (decide (a<(↑b.length:Int))) (
 Option.bind (ix b a) λg=>
 Option.bind (ix b a) λd=>
 cond (decide (1099511627776<d)) (
 some false) (
 Bm N b c i (Ar (a+1)))) (
 c)
def Cy (N:Nat):Option Bool:=
 some true
def BK (N:Nat) (a:List Int):Option Bool:=
 Bm N a (Cy N) N 0
def Bp (N:Nat) (a:AJ) (b:List Int):Option Bool:=
 An N a (BK N) N 0 b
def Bn (N:Nat) (b:AJ) (d:(List Int)→Option Bool):Nat→Int→(List Int)→Option Bool
 |0,_,_=>none
 |j+1,a,c=>
 cond (decide (a<(↑b.Places.length:Int))) (
 Option.bind (ix b.Places a) λg=>
 Option.bind (Dm N g.Num g.Den) λi=>
 Option.bind (ix c a) λk=>
 Option.bind (ix c a) λl=>
 Bn N b d j (Ar (a+1)) (upd c a i)) (
 d c)
def Ep (N:Nat) (a:AJ):Option Bool:=
 chk (L7 (↑a.Places.length:Int) (↑a.Places.length:Int) 8) <|
 Bn N a (Bp N a) N 0 (List.replicate ((↑a.Places.length:Int):Int).toNat 0)
def Bu (N:Nat) (a:AJ) (c:Option Bool):Nat→Int→Option Bool
 |0,_=>none
 |i+1,b=>
 cond (decide (b<(↑a.Shelters.length:Int))) (
 Option.bind (ix a.Shelters b) λd=>
 Option.bind (BF N d.Room 0 1073741824) λg=>
 cond (!g) (
 some false) (
 Bu N a c i (Ar (b+1)))) (
 c)
def DA (N:Nat):Option Bool:=
 some true
def Bw (N:Nat) (a:AJ):Option Bool:=
 Bu N a (DA N) N 0
def Bv (N:Nat) (a:AJ) (d:Option Bool):Nat→Int→Option Bool
 |0,_=>none
 |t+1,c=>
 cond (decide (c<(↑a.Towns.length:Int))) (
 Option.bind (ix a.Towns c) λb=>
 Option.bind (Cr N b.Place (↑a.Places.length:Int)) λg=>
 Option.bind (cond (!g) (some true) (Option.bind (BC N b.Flood) λi=>
 some (!i))) λj=>
 Option.bind (cond j (some true) (Option.bind (BF N b.Lead 0 24) λk=>
 some (!k))) λl=>
 Option.bind (cond l (some true) (Option.bind (BF N b.People 0 1073741824) λm=>
 some (!m))) λn=>
 Option.bind (cond n (some true) (Option.bind (BC N b.Watch) λo=>
 some (!o))) λp=>
 Option.bind (cond p (some true) (Option.bind (BF N b.Quorum 0 128) λq=>
 some (!q))) λs=>
 cond s (
 some false) (
 Bv N a d t (Ar (c+1)))) (
 d)
def FA (N:Nat) (a:AJ):Option Bool:=
 Bv N a (Bw N a) N 0
def Cz (N:Nat):Option Bool:=
 some true
def Bq (N:Nat) (a:AJ) (d:Option Bool):Nat→Int→Option Bool
 |0,_=>none
 |o+1,c=>
 cond (decide (c<(↑a.Gauges.length:Int))) (
 Option.bind (ix a.Gauges c) λb=>
 Option.bind (BF N b.Kind 0 2) λg=>
 Option.bind (cond (!g) (some true) (Option.bind (BF N b.Err 0 1099511627776) λi=>
 some (!i))) λj=>
 Option.bind (cond j (some true) (Option.bind (BF N b.Drift 0 1440) λk=>
 some (!k))) λl=>
 cond l (
 some false) (
 Option.bind (ix ([(↑a.Places.length:Int),a.Cells,(↑a.Links.length:Int)]:List Int) b.Kind) λm=>
 Option.bind (Cr N b.Target m) λn=>
 cond (!n) (
 some false) (
 Bq N a d o (Ar (c+1))))) (
 d)
def Er (N:Nat) (a:AJ):Option Bool:=
 Bq N a (Cz N) N 0
def DB (N:Nat):Option Bool:=
 some true
def Bz (N:Nat) (a:AJ) (d:Option Bool):Nat→Int→Option Bool
 |0,_=>none
 |u+1,c=>
 cond (decide (c<(↑a.Roads.length:Int))) (
 Option.bind (ix a.Roads c) λb=>
 Option.bind (Cr N b.From (↑a.Towns.length:Int)) λg=>
 Option.bind (cond (!g) (some true) (Option.bind (Cr N b.To (Ar ((↑a.Towns.length:Int)+(↑a.Shelters.length:Int)))) λi=>
 some (!i))) λj=>
 Option.bind (cond (j||(decide (b.From=b.To))) (some true) (Option.bind (BF N b.Hours 1 24) λk=>
 some (!k))) λl=>
 Option.bind (cond l (some true) (Option.bind (BF N b.Flow 0 1073741824) λm=>
 some (!m))) λn=>
 Option.bind (cond n (some true) (Option.bind (BC N b.Limit) λo=>
 some (!o))) λp=>
 cond p (
 some false) (
 Option.bind (cond ((decide (b.By=(-1)))&&(decide (b.Limit≠0))) (some true) (Option.bind (cond (decide (b.By≠(-1))) (Option.bind (Cr N b.By (↑a.Places.length:Int)) λq=>
 some (!q)) (some false)) λs=>
 some s)) λt=>
 cond t (
 some false) (
 Bz N a d u (Ar (c+1))))) (
 d)
def FB (N:Nat) (a:AJ):Option Bool:=
 Bz N a (DB N) N 0
def HD (N:Nat) (a:AJ):Option Bool:=
 Option.bind (Ff N a) λv=>
 Option.bind (cond v (Option.bind (GC N a) λb=>
 some b) (some false)) λc=>
 Option.bind (cond c (Option.bind (Fp N a) λd=>
 some d) (some false)) λg=>
 Option.bind (cond g (Option.bind (FC N a) λi=>
 some i) (some false)) λj=>
 Option.bind (cond j (Option.bind (EX N a) λk=>
 some k) (some false)) λl=>
 Option.bind (cond l (Option.bind (Ep N a) λm=>
 some m) (some false)) λn=>
 Option.bind (cond n (Option.bind (FA N a) λo=>
 some o) (some false)) λp=>
 Option.bind (cond p (Option.bind (Er N a) λq=>
 some q) (some false)) λs=>
 Option.bind (cond s (Option.bind (FB N a) λt=>
 some t) (some false)) λu=>
 some u
def FK (N:Nat):Option Bool:=
 some true
def D3 (N:Nat) (a:(List Int)) (c:Option Bool):Nat→Int→Int→Option Bool
 |0,_,_=>none
 |i+1,g,d=>
 cond (decide (d<(↑a.length:Int))) (
 Option.bind (ix a d) λb=>
 cond ((decide (b<0))||(decide ((Ar (1125899906842624-g))<b))) (
 some false) (
 D3 N a c i (Ar (g+b)) (Ar (d+1)))) (
 c)
def Hg (N:Nat) (a:(List Int)):Option Bool:=
 D3 N a (FK N) N 0 0
def Gw (N:Nat) (b:(List Int)) (a:Int):Option Bool:=
 Option.bind (cond (((decide (0≤a))&&(decide (a≤16)))&&(decide ((↑b.length:Int)=a))) (Option.bind (Hg N b) λc=>
 some c) (some false)) λd=>
 some d
def Ib (N:Nat) (b:Int) (a:Int):Option Bool:=
 some ((decide (0≤b))&&(decide (b<a)))
def DQ (N:Nat) (b:AJ) (a:AV) (j:Int→Option (Int×Bool)):Nat→Int→Int→Option (Int×Bool)
 |0,_,_=>none
 |o+1,g,i=>
 cond (decide (i<(↑a.Queue.length:Int))) (
 Option.bind (ix a.Queue i) λd=>
 Option.bind (cond (decide (d.At<a.Hour)) (some true) (Option.bind (Ib N d.To (↑b.Places.length:Int)) λk=>
 some (!k))) λl=>
 Option.bind (cond l (some true) (Option.bind (Gw N d.Part (↑b.Owners.length:Int)) λm=>
 some (!m))) λn=>
 cond n (
 some (0,false)) (
 Option.bind (Cw N d.Part) λc=>
 cond ((decide (c≤0))||(decide (1125899906842624<(Ar (g+c))))) (
 some (0,false)) (
 DQ N b a j o (Ar (g+c)) (Ar (i+1))))) (
 j g)
def E3 (N:Nat) (a:Int):Option (Int×Bool):=
 some (a,true)
def CV (N:Nat) (a:AJ) (b:AV) (c:Int):Option (Int×Bool):=
 DQ N a b (E3 N) N c 0
def CU (N:Nat) (b:AJ) (a:AV) (g:Int→Option (Int×Bool)):Nat→Int→Int→Option (Int×Bool)
 |0,_,_=>none
 |l+1,c,d=>
 cond (decide (d<(↑a.Own.length:Int))) (
 Option.bind (ix a.Own d) λi=>
 Option.bind (Gw N i (↑b.Owners.length:Int)) λk=>
 cond (!k) (
 some (0,false)) (
 Option.bind (Cw N i) λj=>
 cond (decide (1125899906842624<(Ar (c+j)))) (
 some (0,false)) (
 CU N b a g l (Ar (c+j)) (Ar (d+1))))) (
 g c)
def HB (N:Nat) (a:AJ) (b:AV):Option (Int×Bool):=
 CU N a b (CV N a b) N 0 0
def Eb (N:Nat) (a:Int):Option (Int×Bool):=
 some (a,true)
def C7 (N:Nat) (b:(List Int)) (a:Int) (g:Int→Option (Int×Bool)):Nat→Int→Int→Option (Int×Bool)
 |0,_,_=>none
 |j+1,i,c=>
 cond (decide (c<(↑b.length:Int))) (
 Option.bind (ix b c) λd=>
 cond ((decide (d<0))||(decide ((Ar (a-i))<d))) (
 some (0,false)) (
 C7 N b a g j (Ar (i+d)) (Ar (c+1)))) (
 g i)
def Fx (N:Nat) (b:(List Int)) (a:Int):Option (Int×Bool):=
 C7 N b a (Eb N) N 0 0
def DG (N:Nat) (d:AJ) (g:AV) (i:Option Bool):Nat→Int→Option Bool
 |0,_=>none
 |j+1,b=>
 cond (decide (b<(↑d.Links.length:Int))) (
 Option.bind (ix d.Links b) λc=>
 Option.bind (ix g.Gates b) λa=>
 cond ((((decide (a.Pos<0))||(decide (c.Positions<a.Pos)))||(decide (a.Target<0)))||(decide (c.Positions<a.Target))) (
 some false) (
 cond ((a.Open&&(decide (c.Kind≠5)))&&(decide (c.Kind≠3))) (
 some false) (
 DG N d g i j (Ar (b+1))))) (
 i)
def DI (N:Nat) (d:AJ) (a:AV):Option Bool:=
 Option.bind (HB N d a) λb=>
 cond (!b.2) (
 some false) (
 Option.bind (Fx N a.In 1152921504606846976) λc=>
 cond (!c.2) (
 some false) (
 Option.bind (Fx N a.Out (Ar ((Ar (c.1+1125899906842624))-b.1))) λg=>
 some g.2))
def DJ (N:Nat) (a:AJ) (b:AV):Option Bool:=
 DG N a b (DI N a b) N 0
def DH (N:Nat) (a:AJ) (b:AV) (d:Option Bool):Nat→Int→Option Bool
 |0,_=>none
 |l+1,c=>
 cond (decide (c<(↑a.Places.length:Int))) (
 Option.bind (ix a.Places c) λk=>
 Option.bind (ix b.Rem c) λg=>
 Option.bind (cond (decide (g<0)) (some true) (Option.bind (ix b.Rem c) λi=>
 some (decide ((max 0 (Ar (k.Den-1)))<i)))) λj=>
 cond j (
 some false) (
 DH N a b d l (Ar (c+1)))) (
 d)
def Gt (N:Nat) (b:AJ) (a:AV):Option Bool:=
 cond (((((((decide (a.Hour<0))||(decide (16777216<a.Hour)))||(decide ((↑a.Own.length:Int)≠(↑b.Places.length:Int))))||(decide ((↑a.Rem.length:Int)≠(↑b.Places.length:Int))))||(decide ((↑a.Gates.length:Int)≠(↑b.Links.length:Int))))||(decide ((↑a.In.length:Int)≠(↑b.Owners.length:Int))))||(decide ((↑a.Out.length:Int)≠(↑b.Owners.length:Int)))) (
 some false) (
 DH N b a (DJ N b a) N 0)
def BT (N:Nat) (a:Int):Option Int:=
 some a
def Dt (N:Nat) (a:Int) (b:Int→Int→Option Int) (c:Int):Option Int:=
 b c (Ar (a+1))
def BH (N:Nat) (a:AV) (b:Int) (c:Int) (g:Int→Option Int):Nat→Int→Int→Option Int
 |0,_,_=>none
 |o+1,i,d=>
 cond (decide (d<(↑a.Queue.length:Int))) (
 Option.bind (ix a.Queue d) λj=>
 Option.bind (cond (decide (j.At=b)) (Option.bind (ix a.Queue d) λk=>
 some (decide (k.To=c))) (some false)) λl=>
 cond l (
 Option.bind (ix a.Queue d) λm=>
 Option.bind (Cw N m.Part) λn=>
 Dt N d (BH N a b c g o) (Ar (i+n))) (
 Dt N d (BH N a b c g o) i)) (
 g i)
def D0 (N:Nat) (c:AV) (a:Int) (b:Int):Option Int:=
 BH N c a b (BT N) N 0 0
def BI (N:Nat) (d:AJ) (b:AV) (c:AV) (i:Bool→Option Bool):Nat→Bool→Int→Option Bool
 |0,_,_=>none
 |p+1,g,a=>
 cond (decide (a<(↑d.Links.length:Int))) (
 Option.bind (cond g (Option.bind (ix b.Gates a) λj=>
 Option.bind (ix c.Gates a) λk=>
 some (decide (j.Pos=k.Pos))) (some false)) λl=>
 Option.bind (cond l (Option.bind (ix b.Gates a) λm=>
 Option.bind (ix c.Gates a) λn=>
 some (m.Open==n.Open)) (some false)) λo=>
 BI N d b c i p o (Ar (a+1))) (
 i g)
def Cq (N:Nat) (c:AV) (d:AV) (g:Bool) (i:Int) (m:Bool→Int→Option Bool) (a:Int) (b:Int) (n:List Int):Option Bool:=
 Option.bind (cond g (Option.bind (D0 N c a b) λj=>
 Option.bind (D0 N d a b) λk=>
 some (decide (j=k))) (some false)) λl=>
 m l (Ar (i+1))
def A4 (N:Nat) (a:AV) (b:AV) (j:Bool→Option Bool):Nat→Bool→Int→Option Bool
 |0,_,_=>none
 |k+1,d,c=>
 cond (decide (c<(Ar ((↑a.Queue.length:Int)+(↑b.Queue.length:Int))))) (
 cond (decide (c<(↑a.Queue.length:Int))) (
 Option.bind (ix a.Queue c) λg=>
 Cq N a b d c (A4 N a b j k) g.At g.To g.Part) (
 Option.bind (ix b.Queue (Ar (c-(↑a.Queue.length:Int)))) λi=>
 Cq N a b d c (A4 N a b j k) i.At i.To i.Part)) (
 j d)
def Ba (N:Nat) (a:AJ) (b:AV) (i:Bool) (j:Aq) (c:Bool):Option Bool:=
 Option.bind (cond i (Option.bind (Gi N a j b) λd=>
 some (d==c)) (some false)) λg=>
 some g
def B7 (N:Nat) (b:AJ) (c:AV) (a:AV) (g:Bool) (i:Aq) (d:Bool):Option Bool:=
 A4 N c a (Ba N b a g i) N d 0
def B8 (N:Nat) (a:AJ) (b:AV) (c:AV) (g:Bool) (i:Aq) (d:Bool):Option Bool:=
 BI N a b c (B7 N a b c g i) N d 0
def BJ (N:Nat) (b:AJ) (c:AV) (d:AV) (i:Bool→Option Bool):Nat→Bool→Int→Option Bool
 |0,_,_=>none
 |o+1,g,a=>
 cond (decide (a<(↑b.Places.length:Int))) (
 Option.bind (cond g (Option.bind (ix c.Own a) λj=>
 Option.bind (Cw N j) λk=>
 Option.bind (ix d.Own a) λl=>
 Option.bind (Cw N l) λm=>
 some (decide (k=m))) (some false)) λn=>
 BJ N b c d i o n (Ar (a+1))) (
 i g)
def Dh (N:Nat) (a:AJ) (b:AV) (c:AV):Option Bool:=
 Option.bind (En N) λg=>
 Option.bind (Fe N a (⟨0,[],[],[]⟩:Aq) (⟨[],[],[],[],[]⟩:DF)) λn=>
 Option.bind (cond (((!n)||(decide (12<(↑b.Queue.length:Int))))||(decide (12<(↑c.Queue.length:Int)))) (some true) (Option.bind (HD N a) λo=>
 some (!o))) λp=>
 Option.bind (cond p (some true) (Option.bind (Gt N a b) λq=>
 some (!q))) λs=>
 Option.bind (cond s (some true) (Option.bind (Gt N a c) λt=>
 some (!t))) λu=>
 cond u (
 some g) (
 Option.bind (H1 N a b) λd=>
 Option.bind (Gy N a d) λi=>
 Option.bind (cond (!i) (some true) (Option.bind (Gi N a d b) λj=>
 some (!j))) λk=>
 Option.bind (cond k (some true) (Option.bind (Gg N d) λl=>
 some (decide (l≠0)))) λm=>
 cond m (
 some false) (
 BJ N a b c (B8 N a b c g d) N (decide (b.Hour=c.Hour)) 0))
end Go.Proofs.YtibidnaedddfdaaGreat
