import Derived.Test.YtibidnaedddfdaaGreatBReps
namespace Go.Proofs.YtibidnaedddfdaaGreat
set_option linter.unusedSimpArgs false
open Go.RowKit
set_option linter.unusedVariables false
def Gw (N:Nat) (s:(List A4)) (i:Int) (l:(List A4)):Option ((List A4)):=VT 32 s i l
def Bi (N:Nat) (a:(List AF)):Option (List AF):=
 chk (room (([]:List AF).length+a.length) 16) <|
 some (([]:List AF)++a)
def Bf (N:Nat) (a:(List AS)):Option (List AS):=
 chk (room (([]:List AS).length+a.length) 40) <|
 some (([]:List AS)++a)
def Ef (N:Nat) (b:Int) (a:Int):Option Bool:=
 some ((decide (0≤b))&&(decide (b<a)))
def Cn (N:Nat) (a:Int):Option AF:=
 some (⟨a,a⟩:AF)
def Eh (N:Nat) (c:Int) (b:Int) (a:Int):Option Int:=
 cond (decide (c<b)) (
 some b) (
 cond (decide (a<c)) (
 some a) (
 some c))
def Gp (N:Nat) (a:Be) (b:Int):Option Be:=
 some ({ a with Target:=b}:Be)
def IT (N:Nat) (c:AT) (b:Be) (a:Int):Option Be:=
 cond (decide (c.Positions≠0)) (
 Option.bind (Eh N a 0 c.Positions) λd=>
 Gp N b d) (
 Gp N b b.Target)
def CN (N:Nat) (b:Int) (a:Int):Option Int:=
 cond ((decide (a<0))&&(decide ((A3 (9223372036854775807+a))<b))) (
 some 9223372036854775807) (
 cond ((decide (0<a))&&(decide (b<(A3 ((-9223372036854775808)+a))))) (
 some (-9223372036854775808)) (
 some (A3 (b-a))))
def CR (N:Nat) (b:Int) (a:Int):Option Int:=
 cond ((decide (0<a))&&(decide ((A3 (9223372036854775807-a))<b))) (
 some 9223372036854775807) (
 cond ((decide (a<0))&&(decide (b<(A3 ((-9223372036854775808)-a))))) (
 some (-9223372036854775808)) (
 some (A3 (b+a))))
def Ir (N:Nat) (b:AT) (a:Be):Option Be:=
 cond a.Stuck (
 some a) (
 Option.bind (CN N a.Target a.Pos) λc=>
 Option.bind (CN N 0 b.Speed) λd=>
 Option.bind (Eh N c d b.Speed) λg=>
 Option.bind (CR N a.Pos g) λi=>
 some ({ a with Pos:=i}:Be))
def Ff (N:Nat) (c1_:AT) (c2_:AS) (a:Int):Option Int:=
 Option.bind (Ir N c1_ (⟨a,c2_.Target,false,false⟩:Be)) λb=>
 some b.Pos
def HO (N:Nat) (b:AT) (a:AS) (c:Bool):Option AS:=
 cond c (
 Option.bind (Ff N b a a.Pos.Lo) λd=>
 Option.bind (Ff N b a a.Pos.Hi) λg=>
 some ({ a with Pos:=(⟨d,g⟩:AF)}:AS)) (
 Option.bind (CN N a.Pos.Lo b.Speed) λi=>
 Option.bind (Eh N i 0 b.Positions) λj=>
 Option.bind (CR N a.Pos.Hi b.Speed) λk=>
 Option.bind (Eh N k 0 b.Positions) λl=>
 some ({ a with Pos:=(⟨j,l⟩:AF)}:AS))
def Dq (N:Nat) (a:Int) (c:Int→(List AS)→Option (List AS)) (b:List AS):Option (List AS):=
 c (A3 (a+1)) b
def BR (N:Nat) (p0_w:Ah) (d:C7) (i:(List AS)→Option (List AS)):Nat→Int→(List AS)→Option (List AS)
 |0,_,_=>none
 |o+1,g,c=>
 cond (decide (g<(↑d.Cmds.length:Int))) (
 Option.bind (ix d.Cmds g) λa=>
 Option.bind (Ef N a.Link (↑p0_w.b.Links.length:Int)) λj=>
 cond j (
 Option.bind (ix c a.Link) λp=>
 Option.bind (ix p0_w.b.Links a.Link) λk=>
 Option.bind (ix c a.Link) λl=>
 Option.bind (IT N k (⟨0,l.Target,false,false⟩:Be) a.Target) λm=>
 Option.bind (ix c a.Link) λn=>
 Dq N g (BR N p0_w d i o) (upd c a.Link ({ n with Target:=m.Target}))) (
 Dq N g (BR N p0_w d i o) c)) (
 i c)
def Ch (N:Nat) (p0_w:Ah) (c:(List Bool)):Nat→Int→(List AS)→Option (List AS)
 |0,_,_=>none
 |p+1,a,d=>
 cond (decide (a<(↑p0_w.b.Links.length:Int))) (
 Option.bind (ix p0_w.b.Links a) λg=>
 Option.bind (ix d a) λm=>
 Option.bind (ix d a) λi=>
 Option.bind (cond (decide (a<(↑c.length:Int))) (Option.bind (ix c a) λj=>
 some j) (some false)) λk=>
 Option.bind (HO N g i k) λl=>
 Option.bind (ix d a) λn=>
 Option.bind (ix d a) λo=>
 Ch N p0_w c p (A3 (a+1)) (upd d a l)) (
 some d)
def Ba (N:Nat) (p0_w:Ah) (a:(List Bool)) (b:List AS):Option (List AS):=
 Ch N p0_w a N 0 b
def Bb (N:Nat) (p0_w:Ah) (b:C7) (a:(List Bool)) (c:List AS):Option (List AS):=
 BR N p0_w b (Ba N p0_w a) N 0 c
def Ci (N:Nat) (a:Int) (b:Int→(List AS)→Option (List AS)) (c:List AS):Option (List AS):=
 b (A3 (a+1)) c
def BB (N:Nat) (p0_w:Ah) (a:C7) (i:(List AS)→Option (List AS)):Nat→Int→(List AS)→Option (List AS)
 |0,_,_=>none
 |j+1,g,d=>
 cond (decide (g<(↑a.Faults.length:Int))) (
 Option.bind (ix a.Faults g) λc=>
 Option.bind (Ef N c.Link (↑p0_w.b.Links.length:Int)) λk=>
 Option.bind (cond (!k) (some true) (Option.bind (ix p0_w.b.Links c.Link) λl=>
 some (decide (l.Kind≠5)))) λm=>
 cond m (
 Ci N g (BB N p0_w a i j) d) (
 cond (decide (c.Kind=2)) (
 Option.bind (Cn N 1) λn=>
 Option.bind (ix d c.Link) λs=>
 Option.bind (ix d c.Link) λo=>
 Ci N g (BB N p0_w a i j) (upd d c.Link ({ o with Open:=n}))) (
 cond (decide (c.Kind=3)) (
 Option.bind (Cn N 0) λp=>
 Option.bind (ix d c.Link) λt=>
 Option.bind (ix d c.Link) λq=>
 Ci N g (BB N p0_w a i j) (upd d c.Link ({ q with Open:=p}))) (
 Ci N g (BB N p0_w a i j) d)))) (
 i d)
def FL (N:Nat) (p0_w:Ah) (a:C7) (b:(List Bool)):Option (List AS):=
 BB N p0_w a (Bb N p0_w a b) N 0 p0_w.h.Links
def Cp (N:Nat) (a:AF):Option Bool:=
 some (decide (a.Lo≤a.Hi))
def Fl (N:Nat) (a:AF) (b:AF):Option AF:=
 Option.bind (CR N a.Lo b.Lo) λc=>
 Option.bind (CR N a.Hi b.Hi) λd=>
 some (⟨c,d⟩:AF)
def Fe (N:Nat) (a:AF):Option AF:=
 some (⟨(min a.Lo 1125899906842624),(min a.Hi 1125899906842624)⟩:AF)
def HG (N:Nat) (a:AT) (b:AF):Option (AF×AT):=
 some (b,a)
def EY (N:Nat) (a:AF) (b:Int):Option Bool:=
 some ((decide (a.Lo≤b))&&(decide (b≤a.Hi)))
def Fc {σ:Type}(N:Nat) (c1_:AF) (c2_:AT) (yld:Int→σ→Option (Bool×σ)) (s:σ):Option (Bool×σ):=
 Option.bind (Cp N c1_) λi=>
 cond (!i) (
 some (true,s)) (
 Option.bind (yld c1_.Lo s) λb=>
 cond b.1 (
 Option.bind (yld c1_.Hi b.2) λa=>
 cond a.1 (
 Option.bind (cond (decide (c2_.Break<9223372036854775807)) (Option.bind (EY N c1_ (A3 (c2_.Break+1))) λd=>
 some d) (some false)) λg=>
 cond g (
 Option.bind (yld (A3 (c2_.Break+1)) a.2) λc=>
 cond c.1 (
 some (true,c.2)) (
 some (false,c.2))) (
 some (true,a.2))) (
 some (false,a.2))) (
 some (false,b.2)))
def Ej (N:Nat) (a:Be) (b:Bool):Option Be:=
 some ({ a with Open:=b}:Be)
def Gl (N:Nat) (b:AT) (a:Be) (c:Int):Option Be:=
 cond (decide (b.Kind≠3)) (
 some a) (
 cond (decide (b.Prime≤c)) (
 Ej N a true) (
 cond (decide (c≤b.Break)) (
 Ej N a false) (
 Ej N a a.Open)))
def GQ (N:Nat) (a:AF) (b:AF):Option AF:=
 some (⟨(min a.Lo b.Lo),(max a.Hi b.Hi)⟩:AF)
def Cu (N:Nat) (a:Int) (g:Int→Int→Int→Bool→Option (Bool×(Int×Int×Bool))) (b:Int) (c:Int) (d:Bool):Option (Bool×(Int×Int×Bool)):=
 g (A3 (a+1)) b c d
def E8 (N:Nat) (g:Int) (i:Int) (a:Bool) (j:Int→Int→Bool→Option (Bool×(Int×Int×Bool))) (b:Int):Option (Bool×(Int×Int×Bool)):=
 cond a (
 Option.bind (Cn N b) λk=>
 Option.bind (GQ N (⟨g,i⟩:AF) k) λc=>
 j c.Lo c.Hi a) (
 Option.bind (Cn N b) λd=>
 j d.Lo d.Hi true)
def B0 (N:Nat) (b:AT) (c:AS) (j:Int):Nat→Int→Int→Int→Bool→Option (Bool×(Int×Int×Bool))
 |0,_,_,_,_=>none
 |m+1,a,d,g,i=>
 cond (decide (a<2)) (
 Option.bind (EY N c.Open a) λk=>
 cond (!k) (
 Cu N a (B0 N b c j m) d g i) (
 Option.bind (Gl N b (⟨0,0,false,(decide (a=1))⟩:Be) j) λl=>
 cond l.Open (
 E8 N d g i (Cu N a (B0 N b c j m)) 1) (
 E8 N d g i (Cu N a (B0 N b c j m)) 0))) (
 some (true,(d,g,i)))
def EZ (N:Nat) (a:AT) (b:AS) (c:Int) (d:Int) (g:Int) (i:Bool):Option (Bool×(Int×Int×Bool)):=
 B0 N a b c N 0 d g i
def F2 (N:Nat) (a:AS) (b:Int) (c:Int):Option AS:=
 some ({ a with Open:=(⟨b,c⟩:AF)}:AS)
def HH (N:Nat) (b:AT) (a:AS) (d:AF):Option AS:=
 cond (decide (b.Kind≠3)) (
 some a) (
 Option.bind (HG N b d) λg=>
 Option.bind (Fc N g.1 g.2 (λxx ss=>EZ N b a xx ss.1 ss.2.1 ss.2.2) (0,0,false)) λc=>
 cond c.1 (
 cond c.2.2.2 (
 F2 N a c.2.1 c.2.2.1) (
 F2 N a a.Open.Lo a.Open.Hi)) (
 none))
def Du (N:Nat) (a:Int) (d:(List A4)→Int→(List AF)→Option ((List A4)×(List AS)×(List AF))) (b:List A4) (c:List AF):Option ((List A4)×(List AS)×(List AF)):=
 d b (A3 (a+1)) c
def BT (N:Nat) (p0_w:Ah) (g:(List A4)→(List AF)→Option ((List A4)×(List AS)×(List AF))):Nat→(List A4)→Int→(List AF)→Option ((List A4)×(List AS)×(List AF))
 |0,_,_,_=>none
 |k+1,c,d,b=>
 cond (decide (d<(↑p0_w.h.Queue.length:Int))) (
 Option.bind (ix p0_w.h.Queue d) λa=>
 cond (decide (a.At≤p0_w.h.Hour)) (
 Option.bind (ix b a.To) λl=>
 Option.bind (ix b a.To) λi=>
 Option.bind (Fl N i a.Vol) λj=>
 Option.bind (ix b a.To) λm=>
 Option.bind (ix b a.To) λn=>
 Du N d (BT N p0_w g k) c (upd b a.To j)) (
 chk (room (c.length+1) 32) <|
 Du N d (BT N p0_w g k) (c++([a]:List A4)) b)) (
 g c b)
def Bl (N:Nat) (c:List AF) (d:(List AF)→Option ((List A4)×(List AS)×(List AF))):Nat→Int→(List AF)→Option ((List A4)×(List AS)×(List AF))
 |0,_,_=>none
 |m+1,a,b=>
 cond (decide (a<(↑c.length:Int))) (
 Option.bind (ix b a) λj=>
 Option.bind (ix b a) λg=>
 Option.bind (Fe N g) λi=>
 Option.bind (ix b a) λk=>
 Option.bind (ix b a) λl=>
 Bl N c d m (A3 (a+1)) (upd b a i)) (
 d b)
def Dt (N:Nat) (a:Int) (c:Int→(List AS)→Option ((List A4)×(List AS)×(List AF))) (b:List AS):Option ((List A4)×(List AS)×(List AF)):=
 c (A3 (a+1)) b
def Bc (N:Nat) (p0_w:Ah) (i:List A4) (d:List AF):Nat→Int→(List AS)→Option ((List A4)×(List AS)×(List AF))
 |0,_,_=>none
 |m+1,a,c=>
 cond (decide (a<(↑p0_w.b.Links.length:Int))) (
 Option.bind (ix p0_w.b.Links a) λg=>
 cond (decide (g.Kind=3)) (
 Option.bind (ix c a) λn=>
 Option.bind (ix c a) λj=>
 Option.bind (ix d g.From) λo=>
 Option.bind (ix d g.From) λk=>
 Option.bind (HH N g j k) λl=>
 Option.bind (ix c a) λp=>
 Option.bind (ix c a) λq=>
 Dt N a (Bc N p0_w i d m) (upd c a l)) (
 Dt N a (Bc N p0_w i d m) c)) (
 some (i,c,d))
def Bm (N:Nat) (p0_w:Ah) (a:List A4) (b:List AF):Option ((List A4)×(List AS)×(List AF)):=
 Bc N p0_w a b N 0 p0_w.h.Links
def Bd (N:Nat) (p0_w:Ah) (b:List A4) (a:List AF):Option ((List A4)×(List AS)×(List AF)):=
 Bl N a (Bm N p0_w b) N 0 a
def Av (N:Nat) (p0_w:Ah) (a:List AF):Option ((List A4)×(List AS)×(List AF)):=
 BT N p0_w (Bd N p0_w) N ([]) 0 a
def C9 (N:Nat) (a:Int) (b:List AF) (c:Int→(List AF)→Option ((List A4)×(List AS)×(List AF))) (d:Int) (g:Int):Option ((List A4)×(List AS)×(List AF)):=
 Option.bind (ix b a) λi=>
 Option.bind (ix b a) λj=>
 c (A3 (a+1)) (upd b a (⟨d,g⟩:AF))
def Am (N:Nat) (p0_w:Ah) (a:(List AF)) (c:(List AF)→Option ((List A4)×(List AS)×(List AF))):Nat→Int→(List AF)→Option ((List A4)×(List AS)×(List AF))
 |0,_,_=>none
 |p+1,b,i=>
 cond (decide (b<(↑p0_w.h.Vol.length:Int))) (
 Option.bind (ix p0_w.h.Vol b) λq=>
 Option.bind (ix p0_w.h.Vol b) λd=>
 Option.bind (cond (decide (b<(↑a.length:Int))) (Option.bind (ix a b) λj=>
 Option.bind (Cp N j) λk=>
 some k) (some false)) λl=>
 Option.bind (cond l (Option.bind (ix a b) λm=>
 some (decide (0≤m.Lo))) (some false)) λn=>
 cond n (
 Option.bind (ix a b) λo=>
 Option.bind (Fl N d o) λg=>
 C9 N b i (Am N p0_w a c p) g.Lo g.Hi) (
 C9 N b i (Am N p0_w a c p) d.Lo d.Hi)) (
 c i)
def EQ (N:Nat) (p0_w:Ah) (a:(List AF)):Option ((List A4)×(List AS)×(List AF)):=
 Am N p0_w a (Av N p0_w) N 0 p0_w.peaks
def Cb (N:Nat) (c1_:HB) (p0_:Int):Option AF:=
 some (⟨0,c1_.Litres⟩:AF)
def EV (N:Nat) (a:Int) (b:Int):Option (Int×Int):=
 some ((IntKind.wrap .u64 ((IntKind.wrap .u64 ((IntKind.wrap .u64 ((Cg .u64 a 32)*(Cg .u64 b 32)))+(Cg .u64 (IntKind.wrap .u64 ((IntKind.wrap .u64 ((Cg .u64 a 32)*(E4 .and .u64 b 4294967295)))+(Cg .u64 (IntKind.wrap .u64 ((E4 .and .u64 a 4294967295)*(E4 .and .u64 b 4294967295))) 32))) 32)))+(Cg .u64 (IntKind.wrap .u64 ((E4 .and .u64 (IntKind.wrap .u64 ((IntKind.wrap .u64 ((Cg .u64 a 32)*(E4 .and .u64 b 4294967295)))+(Cg .u64 (IntKind.wrap .u64 ((E4 .and .u64 a 4294967295)*(E4 .and .u64 b 4294967295))) 32))) 4294967295)+(IntKind.wrap .u64 ((E4 .and .u64 a 4294967295)*(Cg .u64 b 32))))) 32))),(IntKind.wrap .u64 (a*b)))
def Dn (N:Nat) (a:Int) (b:Int):Option Int:=
 Option.bind (Rq I1 (IntKind.wrap .u8 a)) λc=>
 some (A3 (b+(A3 c)))
def Do (N:Nat) (a:Int) (b:Int):Option Int:=
 cond (decide (256≤a)) (
 Dn N (Cg .u64 a 8) (A3 (b+8))) (
 Dn N a b)
def Dp (N:Nat) (a:Int) (b:Int):Option Int:=
 cond (decide (65536≤a)) (
 Do N (Cg .u64 a 16) (A3 (b+16))) (
 Do N a b)
def FK (N:Nat) (a:Int):Option Int:=
 cond (decide (4294967296≤a)) (
 Dp N (Cg .u64 a 32) 32) (
 Dp N a 0)
def DE (N:Nat) (a:Int):Option Int:=
 Option.bind (FK N a) λb=>
 some (A3 (64-b))
def CI (N:Nat) (b:Int) (a:Int) (d:Nat) (j:Nat) (g:Int→Option (Int×Int)):Nat→Int→Int→Option (Int×Int)
 |0,_,_=>none
 |k+1,i,c=>
 cond ((decide (4294967296≤c))||(decide ((IntKind.wrap .u64 ((IntKind.wrap .u64 (4294967296*i))+(E4 .and .u64 (CF .u64 b j) 4294967295)))<(IntKind.wrap .u64 (c*(E4 .and .u64 (CF .u64 a d) 4294967295)))))) (
 cond (decide (4294967296≤(IntKind.wrap .u64 (i+(Cg .u64 (CF .u64 a d) 32))))) (
 g (IntKind.wrap .u64 (c-1))) (
 CI N b a d j g k (IntKind.wrap .u64 (i+(Cg .u64 (CF .u64 a d) 32))) (IntKind.wrap .u64 (c-1)))) (
 g c)
def DF (N:Nat) (c:Int) (a:Int) (b:Int) (n:Int) (d:Nat) (k:Nat) (l:Nat) (g:Nat) (i:Int) (j:Int):Option (Int×Int):=
 Option.bind (LP (IntKind.wrap .u64 n)) λm=>
 some ((IntKind.wrap .u64 ((IntKind.wrap .u64 (i*4294967296))+j)),(Cg .u64 (IntKind.wrap .u64 ((IntKind.wrap .u64 ((IntKind.wrap .u64 ((IntKind.wrap .u64 ((IntKind.wrap .u64 ((IntKind.wrap .u64 ((E4 .or .u64 (CF .u64 c k) (Cg .u64 a l))*4294967296))+(Cg .u64 (CF .u64 a g) 32)))-(IntKind.wrap .u64 (i*(CF .u64 b d)))))*4294967296))+(E4 .and .u64 (CF .u64 a g) 4294967295)))-(IntKind.wrap .u64 (j*(CF .u64 b d))))) m))
def CJ (N:Nat) (c:Int) (a:Int) (b:Int) (m:Int) (d:Nat) (i:Nat) (j:Nat) (g:Nat) (k:Int):Option (Int×Int):=
 Option.bind (Mq .u64 (IntKind.wrap .u64 ((IntKind.wrap .u64 ((IntKind.wrap .u64 ((E4 .or .u64 (CF .u64 c i) (Cg .u64 a j))*4294967296))+(Cg .u64 (CF .u64 a g) 32)))-(IntKind.wrap .u64 (k*(CF .u64 b d))))) (Cg .u64 (CF .u64 b d) 32)) λl=>
 CI N a b d g (DF N c a b m d i j g k) N (IntKind.wrap .u64 ((IntKind.wrap .u64 ((IntKind.wrap .u64 ((IntKind.wrap .u64 ((E4 .or .u64 (CF .u64 c i) (Cg .u64 a j))*4294967296))+(Cg .u64 (CF .u64 a g) 32)))-(IntKind.wrap .u64 (k*(CF .u64 b d)))))-(IntKind.wrap .u64 (l*(Cg .u64 (CF .u64 b d) 32))))) l
def Bu (N:Nat) (b:Int) (a:Int) (d:Nat) (j:Nat) (g:Int→Option (Int×Int)):Nat→Int→Int→Option (Int×Int)
 |0,_,_=>none
 |k+1,c,i=>
 cond ((decide (4294967296≤c))||(decide ((IntKind.wrap .u64 ((IntKind.wrap .u64 (4294967296*i))+(Cg .u64 (CF .u64 b j) 32)))<(IntKind.wrap .u64 (c*(E4 .and .u64 (CF .u64 a d) 4294967295)))))) (
 cond (decide (4294967296≤(IntKind.wrap .u64 (i+(Cg .u64 (CF .u64 a d) 32))))) (
 g (IntKind.wrap .u64 (c-1))) (
 Bu N b a d j g k (IntKind.wrap .u64 (c-1)) (IntKind.wrap .u64 (i+(Cg .u64 (CF .u64 a d) 32))))) (
 g c)
def Dc (N:Nat) (c:Int) (b:Int) (a:Int):Option (Int×Int):=
 cond (decide (a=0)) (
 none) (
 cond (decide (a≤c)) (
 none) (
 cond (decide (c=0)) (
 Option.bind (Mq .u64 b a) λm=>
 Option.bind (Od b a) λn=>
 some (m,n)) (
 Option.bind (DE N a) λj=>
 Option.bind (LP (IntKind.wrap .u64 j)) λd=>
 Option.bind (LP (IntKind.wrap .u64 j)) λg=>
 Option.bind (LP (IntKind.wrap .u64 (64-(IntKind.wrap .u64 j)))) λi=>
 Option.bind (LP (IntKind.wrap .u64 j)) λk=>
 Option.bind (Mq .u64 (E4 .or .u64 (CF .u64 c g) (Cg .u64 b i)) (Cg .u64 (CF .u64 a d) 32)) λl=>
 Bu N b a d k (CJ N c b a j d g i k) N l (IntKind.wrap .u64 ((E4 .or .u64 (CF .u64 c g) (Cg .u64 b i))-(IntKind.wrap .u64 (l*(Cg .u64 (CF .u64 a d) 32))))))))
def Dz (N:Nat) (c:Int) (b:Int) (a:Int):Option (Int×Int×Bool):=
 cond ((((((decide (c<0))||(decide (1125899906842624<c)))||(decide (b<0)))||(decide (1125899906842624<b)))||(decide (a<1)))||(decide (1125899906842624<a))) (
 some (0,0,false)) (
 Option.bind (EV N (IntKind.wrap .u64 c) (IntKind.wrap .u64 b)) λg=>
 cond (decide ((IntKind.wrap .u64 a)≤g.1)) (
 some (0,0,false)) (
 Option.bind (Dc N g.1 g.2 (IntKind.wrap .u64 a)) λd=>
 cond (decide (1125899906842624<d.1)) (
 some (0,0,false)) (
 some ((A3 d.1),(A3 d.2),true))))
def FP (N:Nat) (c:Int) (a:Int) (b:Int):Option Int:=
 Option.bind (Dz N c a b) λd=>
 cond (!d.2.2) (
 some 0) (
 some d.1)
def Hu (N:Nat) (b:AT) (a:Int) (c:Int):Option Int:=
 cond (decide (b.To=(-1))) (
 some a) (
 Option.bind (FP N c b.BackNum b.BackDen) λd=>
 Option.bind (CN N a d) λg=>
 some (max 0 g))
def EE (N:Nat):Option Bool:=
 some true
def Cx (N:Nat) (a:(List AX)) (d:Option Bool):Nat→Int→Option Bool
 |0,_=>none
 |l+1,c=>
 cond (decide (c<(↑a.length:Int))) (
 Option.bind (ix a c) λb=>
 cond ((((decide (b.X<0))||(decide (1125899906842624<b.X)))||(decide (b.Y<0)))||(decide (1125899906842624<b.Y))) (
 some false) (
 Option.bind (cond (decide (0<c)) (Option.bind (ix a (A3 (c-1))) λg=>
 Option.bind (cond (decide (b.X≤g.X)) (some true) (Option.bind (ix a (A3 (c-1))) λi=>
 some (decide (b.Y<i.Y)))) λj=>
 some j) (some false)) λk=>
 cond k (
 some false) (
 Cx N a d l (A3 (c+1))))) (
 d)
def Cy (N:Nat) (a:(List AX)):Option Bool:=
 cond ((decide ((↑a.length:Int)<1))||(decide (32<(↑a.length:Int)))) (
 some false) (
 Cx N a (EE N) N 0)
def Fb (N:Nat) (a:Int):Option Int:=
 some a
def Dm (N:Nat) (b:(Int→Option Bool)) (d:Int→Option Int):Nat→Int→Int→Option Int
 |0,_,_=>none
 |i+1,a,c=>
 cond (decide (a<c)) (
 Option.bind (b (A3 (Cg .u64 (IntKind.wrap .u64 (A3 (a+c))) 1))) λg=>
 cond (!g) (
 Dm N b d i (A3 ((A3 (Cg .u64 (IntKind.wrap .u64 (A3 (a+c))) 1))+1)) c) (
 Dm N b d i a (A3 (Cg .u64 (IntKind.wrap .u64 (A3 (a+c))) 1)))) (
 d a)
def Hk (N:Nat) (a:Int) (b:(Int→Option Bool)):Option Int:=
 Dm N b (Fb N) N 0 a
def DN (N:Nat) (c1_:(List AX)) (c2_:Int) (a:Int):Option Bool:=
 Option.bind (ix c1_ a) λb=>
 some (decide (c2_<b.X))
def Cv (N:Nat) (a:(List AX)) (d:Int):Option (Int×Bool):=
 Option.bind (Hk N (↑a.length:Int) (λx=>DN N a d x)) λb=>
 cond (decide (b=0)) (
 Option.bind (ix a 0) λi=>
 some (i.Y,false)) (
 Option.bind (ix a (A3 (b-1))) λc=>
 cond (decide (b=(↑a.length:Int))) (
 some (c.Y,false)) (
 Option.bind (ix a b) λj=>
 Option.bind (ix a b) λk=>
 Option.bind (Dz N (A3 (d-c.X)) (A3 (j.Y-c.Y)) (A3 (k.X-c.X))) λg=>
 some ((A3 (c.Y+g.1)),(decide (0<g.2.1)))))
def IU (N:Nat) (a:(List AX)) (b:Int):Option Int:=
 Option.bind (Cy N a) λc=>
 cond (!c) (
 some 0) (
 Option.bind (Cv N a b) λd=>
 some d.1)
def ER (N:Nat):Option Int:=
 some 0
def D4 (N:Nat) (a:AT) (b:Int):Option Int:=
 Option.bind (CN N b a.Crest) λd=>
 Option.bind (FP N (max 0 d) a.Num a.Den) λc=>
 some c
def GV (N:Nat) (a:Bool) (b:Option Int):Option Int:=
 cond (!a) (
 some 0) (
 b)
def GU (N:Nat) (c:AT) (a:Bool) (b:Int) (d:Option Int):Option Int:=
 cond a (
 Option.bind (FP N b c.Num c.Den) λg=>
 some g) (
 d)
def GT (N:Nat) (b:AT) (a:Int):Option Int:=
 Option.bind (FP N b.Num a b.Positions) λc=>
 some c
def HN (N:Nat) (a:AT) (c:Int) (g:(List AX)) (b:Int) (d:Int):Option Int:=
 Option.bind (Hu N a b d) λi=>
 Option.bind (IU N g i) λj=>
 Option.bind (FP N j c a.Positions) λk=>
 Option.bind (CR N k a.Leak) λl=>
 some l
def Fj (N:Nat) (a:AT) (d:Int) (c:Bool) (i:(List AX)) (b:Int) (g:Int):Option Int:=
 cond (decide (a.Kind=0)) (
 HN N a d i b g) (
 cond (decide (a.Kind=2)) (
 GT N a d) (
 cond (decide (a.Kind=3)) (
 GU N a c b (ER N)) (
 cond (decide (a.Kind=5)) (
 GV N c (D4 N a b)) (
 cond (decide (a.Kind=1)) (
 D4 N a b) (
 ER N)))))
def DM (N:Nat) (b:AT) (c:AS) (a:AF) (d:AF):Option AF:=
 Option.bind (Fj N b c.Pos.Lo (decide (1≤c.Open.Lo)) b.Band.Lo a.Lo d.Hi) λg=>
 Option.bind (Fj N b c.Pos.Hi (decide (1≤c.Open.Hi)) b.Band.Hi a.Hi d.Lo) λi=>
 some (⟨g,i⟩:AF)
def Ca (N:Nat) (c1_:AT) (c2_:AS) (c3_:AF) (a:Int):Option AF:=
 Option.bind (Cn N a) λb=>
 Option.bind (DM N c1_ c2_ b c3_) λc=>
 some c
def G8 (N:Nat) (c:Int) (a:Int) (b:Int):Option Int:=
 Option.bind (Dz N c a b) λd=>
 cond (!d.2.2) (
 some 0) (
 some d.1)
def Hd (N:Nat) (a:AT) (b:Int) (c:Int):Option Int:=
 cond (decide (a.Kind≠4)) (
 some 0) (
 Option.bind (G8 N b a.Num a.Den) λd=>
 Option.bind (G8 N c a.BackNum a.BackDen) λg=>
 some (A3 (d-g)))
def GD (N:Nat) (c:AT) (a:AF) (b:AF):Option AF:=
 Option.bind (Hd N c a.Lo b.Hi) λd=>
 Option.bind (Hd N c a.Hi b.Lo) λg=>
 some (⟨d,g⟩:AF)
def E9 (N:Nat) (a:AF):Option AF:=
 some (⟨(max 0 a.Lo),(max 0 a.Hi)⟩:AF)
def CZ (N:Nat) (c1_:AT) (c2_:AF) (a:Int):Option AF:=
 Option.bind (Cn N a) λd=>
 Option.bind (GD N c1_ d c2_) λb=>
 Option.bind (E9 N b) λc=>
 some c
def JS (N:Nat) (a:AF) (b:AF):Option AF:=
 Option.bind (CN N a.Lo b.Hi) λc=>
 Option.bind (CN N a.Hi b.Lo) λd=>
 some (⟨c,d⟩:AF)
def CY (N:Nat) (c1_:AT) (c2_:AF) (a:Int):Option AF:=
 Option.bind (Cn N 0) λi=>
 Option.bind (Cn N a) λb=>
 Option.bind (GD N c1_ c2_ b) λc=>
 Option.bind (JS N i c) λd=>
 Option.bind (E9 N d) λg=>
 some g
def Fd (N:Nat) (a:Ce) (b:Int×Int×Bool) (c:Int):Option (Int×Int):=
 cond (decide ((A3 (b.2.1+c))<a.Den)) (
 some (b.1,(A3 (b.2.1+c)))) (
 some ((A3 (b.1+1)),(A3 ((A3 (b.2.1+c))-a.Den))))
def GE (N:Nat) (a:Ce) (d:Int) (b:Int):Option (Int×Int):=
 Option.bind (Dz N d a.Num a.Den) λc=>
 cond (!c.2.2) (
 some (0,0)) (
 cond ((decide (0≤b))&&(decide (b<a.Den))) (
 Fd N a c b) (
 Fd N a c 0))
def CD (N:Nat) (c1_:Ce) (a:Int):Option AF:=
 Option.bind (GE N c1_ a 0) λc=>
 Option.bind (GE N c1_ a (A3 (c1_.Den-1))) λb=>
 some (⟨c.1,b.1⟩:AF)
def EO (N:Nat) (b:List AO) (a:AT) (c:AS) (i:(List AO)→Option (List AO)) (d:Int) (g:Int):Option (List AO):=
 chk (room (b.length+1) 32) <|
 i (b++([(⟨a.To,a.Delay,2,(λx=>Ca N a c (⟨d,g⟩:AF) x)⟩:AO)]:List AO))
def Bv (N:Nat) (a:Int) (c:(List AO)→Int→Option (List AO)) (b:List AO):Option (List AO):=
 c b (A3 (a+1))
def Ax (N:Nat) (p0_w:Ah) (d:Int) (i:(List AO)→Option (List AO)):Nat→(List AO)→Int→Option (List AO)
 |0,_,_=>none
 |l+1,g,c=>
 cond (decide (c<(↑p0_w.b.Links.length:Int))) (
 Option.bind (ix p0_w.b.Links c) λa=>
 cond ((decide (a.From=d))&&(decide (a.Kind≠4))) (
 Option.bind (ix p0_w.h.Links c) λo=>
 Option.bind (ix p0_w.h.Links c) λj=>
 cond (decide (a.To≠(-1))) (
 Option.bind (ix p0_w.peaks a.To) λp=>
 Option.bind (ix p0_w.peaks a.To) λk=>
 EO N g a j (Bv N c (Ax N p0_w d i l)) k.Lo k.Hi) (
 EO N g a j (Bv N c (Ax N p0_w d i l)) 0 0)) (
 cond (decide (a.From=d)) (
 Option.bind (ix p0_w.peaks a.To) λq=>
 Option.bind (ix p0_w.peaks a.To) λm=>
 chk (room (g.length+1) 32) <|
 Bv N c (Ax N p0_w d i l) (g++([(⟨a.To,a.Delay,2,(λx=>CZ N a m x)⟩:AO)]:List AO))) (
 cond ((decide (a.To=d))&&(decide (a.Kind=4))) (
 Option.bind (ix p0_w.peaks a.From) λs=>
 Option.bind (ix p0_w.peaks a.From) λn=>
 chk (room (g.length+1) 32) <|
 Bv N c (Ax N p0_w d i l) (g++([(⟨a.From,a.Delay,2,(λx=>CY N a n x)⟩:AO)]:List AO))) (
 Bv N c (Ax N p0_w d i l) g)))) (
 i g)
def EN (N:Nat) (a:List AO):Option (List AO):=
 some a
def BS (N:Nat) (p0_w:Ah) (d:Int) (c:List AO):Option (List AO):=
 Option.bind (ix p0_w.b.Places d) λa=>
 cond (decide (a.Den≠0)) (
 chk (room (c.length+1) 32) <|
 EN N (c++([(⟨a.Down,a.Delay,2,(λx=>CD N a x)⟩:AO)]:List AO))) (
 EN N c)
def BK (N:Nat) (p0_w:Ah) (a:Int) (b:List AO):Option (List AO):=
 Ax N p0_w a (BS N p0_w a) N b 0
def Dr (N:Nat) (a:Int) (b:(List AO)→Int→Option (List AO)) (c:List AO):Option (List AO):=
 b c (A3 (a+1))
def A5 (N:Nat) (p0_w:Ah) (c:Int) (a:(List HB)) (i:(List AO)→Option (List AO)):Nat→(List AO)→Int→Option (List AO)
 |0,_,_=>none
 |k+1,j,g=>
 cond (decide (g<(↑a.length:Int))) (
 Option.bind (ix a g) λd=>
 Option.bind (cond (decide (d.Place≠c)) (some true) (Option.bind (Ef N d.Owner (↑p0_w.b.Owners.length:Int)) λl=>
 some (!l))) λm=>
 cond (m||(decide (d.Litres≤0))) (
 Dr N g (A5 N p0_w c a i k) j) (
 Option.bind (cond (decide (d.To≠(-1))) (Option.bind (Ef N d.To (↑p0_w.b.Places.length:Int)) λn=>
 Option.bind (cond (!n) (some true) (Option.bind (ix p0_w.b.Places d.To) λo=>
 Option.bind (ix p0_w.b.Places c) λp=>
 some (decide (o.Office≠p.Office)))) λq=>
 some q) (some false)) λs=>
 cond s (
 Dr N g (A5 N p0_w c a i k) j) (
 chk (room (j.length+1) 32) <|
 Dr N g (A5 N p0_w c a i k) (j++([(⟨d.To,0,0,(λx=>Cb N d x)⟩:AO)]:List AO))))) (
 i j)
def FO (N:Nat) (p0_w:Ah) (b:Int) (a:(List HB)):Option (List AO):=
 A5 N p0_w b a (BK N p0_w b) N ([]) 0
def D7 (N:Nat) (c0_:AF) (c1_:Int) (c2_:Int):Option AF:=
 Option.bind (CN N c0_.Lo c1_) λa=>
 Option.bind (CN N c0_.Hi c2_) λb=>
 some (⟨(max 0 a),(max 0 (min c0_.Hi b))⟩:AF)
def AV (N:Nat) (c:(List A4)) (a:A4) (b:((A4×A4)→Option Int)) (d:Int):Option (Int×Bool):=
 Option.bind (cond (decide (d<(↑c.length:Int))) (Option.bind (ix c d) λg=>
 Option.bind (b (g,a)) λi=>
 some (decide (i=0))) (some false)) λj=>
 some (d,j)
def AN (N:Nat) (d:(List A4)) (a:A4) (b:((A4×A4)→Option Int)) (i:Int→Option (Int×Bool)):Nat→Int→Int→Option (Int×Bool)
 |0,_,_=>none
 |l+1,c,g=>
 cond (decide (c<g)) (
 Option.bind (ix d (A3 (Cg .u64 (IntKind.wrap .u64 (A3 (c+g))) 1))) λj=>
 Option.bind (b (j,a)) λk=>
 cond (decide (k<0)) (
 AN N d a b i l (A3 ((A3 (Cg .u64 (IntKind.wrap .u64 (A3 (c+g))) 1))+1)) g) (
 AN N d a b i l c (A3 (Cg .u64 (IntKind.wrap .u64 (A3 (c+g))) 1)))) (
 i c)
def AY (N:Nat) (c:(List A4)) (a:A4) (b:((A4×A4)→Option Int)):Option (Int×Bool):=
 AN N c a b (AV N c a b) N 0 (↑c.length:Int)
def F4 (N:Nat) (a:Int):Option Bool:=
 some (decide (a≠a))
def EW (N:Nat) (a:Int) (b:Int):Option Int:=
 Option.bind (F4 N a) λd=>
 Option.bind (F4 N b) λc=>
 cond d (
 cond c (
 some 0) (
 some (-1))) (
 cond c (
 some 1) (
 cond (decide (a<b)) (
 some (-1)) (
 cond (decide (b<a)) (
 some 1) (
 some 0))))
def F5 (N:Nat):Option Int:=
 some 0
def FA (N:Nat) (a:(List Int)) (b:Option Int):Nat→Int→Option Int
 |0,_=>none
 |g+1,d=>
 cond (decide (d<(↑a.length:Int))) (
 Option.bind (ix a d) λc=>
 cond (decide (c≠0)) (
 some c) (
 FA N a b g (A3 (d+1)))) (
 b)
def HQ (N:Nat) (a:(List Int)):Option Int:=
 FA N a (F5 N) N 0
def DT (N:Nat) (a:A4) (b:A4):Option Int:=
 Option.bind (EW N a.At b.At) λc=>
 Option.bind (EW N a.To b.To) λd=>
 Option.bind (HQ N ([c,d]:List Int)) λg=>
 some g
def He (N:Nat) (a:(List A4)) (c:Int) (d:Int) (g:AF):Option (List A4):=
 cond (decide (g.Hi≤0)) (
 some a) (
 Option.bind (AY N a (⟨c,d,(⟨0,0⟩:AF)⟩:A4) (λx=>DT N x.1 x.2)) λb=>
 cond b.2 (
 Option.bind (ix a b.1) λo=>
 Option.bind (ix a b.1) λi=>
 Option.bind (Fl N i.Vol g) λj=>
 Option.bind (Fe N j) λk=>
 Option.bind (ix a b.1) λp=>
 Option.bind (ix a b.1) λl=>
 some (upd a b.1 ({ l with Vol:=k}))) (
 Option.bind (Fe N g) λm=>
 Option.bind (Gw N a b.1 ([(⟨c,d,m⟩:A4)]:List A4)) λn=>
 some n))
def El (N:Nat) (p0_w:Ah) (b:Int) (a:Int) (c:AF):Option (List A4):=
 cond (decide (b≠(-1))) (
 Option.bind (He N p0_w.h.Queue (A3 ((A3 (p0_w.h.Hour+1))+a)) b c) λd=>
 some d) (
 some p0_w.h.Queue)
def CM (N:Nat) (p0_w:Ah) (b:Int) (g:Ce) (m:AF) (i:Int) (j:Int) (k:List A4):Option (AF×(List AF)×(List A4)):=
 Option.bind (D7 N m j i) λa=>
 Option.bind (CN N a.Lo g.Cap) λc=>
 Option.bind (CN N a.Hi g.Cap) λd=>
 Option.bind (El N ({ p0_w with h:=({ p0_w.h with Queue:=k}:Al)}:Ah) g.Down g.Delay (⟨(max 0 c),(max 0 d)⟩:AF)) λl=>
 Option.bind (ix p0_w.h.Vol b) λn=>
 Option.bind (ix p0_w.h.Vol b) λo=>
 some ((⟨(max 0 c),(max 0 d)⟩:AF),(upd p0_w.h.Vol b (⟨(min a.Lo g.Cap),(min a.Hi g.Cap)⟩:AF)),l)
def CL (N:Nat) (p0_w:Ah) (a:(List AO)) (i:AF) (n:Int→Int→(List A4)→Option (AF×(List AF)×(List A4))):Nat→Int→Int→Int→(List A4)→Option (AF×(List AF)×(List A4))
 |0,_,_,_,_=>none
 |u+1,c,d,g,j=>
 cond (decide (c<(↑a.length:Int))) (
 Option.bind (ix a c) λb=>
 Option.bind (b.asks i.Lo) λk=>
 Option.bind (b.asks i.Hi) λl=>
 Option.bind (D7 N i g d) λm=>
 Option.bind (El N ({ p0_w with h:=({ p0_w.h with Queue:=j}:Al)}:Ah) b.to_ b.delay (⟨(min k.Lo m.Lo),(min l.Hi m.Hi)⟩:AF)) λo=>
 Option.bind (CR N k.Hi b.slack) λp=>
 Option.bind (CR N g p) λq=>
 Option.bind (CN N l.Lo b.slack) λs=>
 Option.bind (CR N d s) λt=>
 CL N p0_w a i n u (A3 (c+1)) t q o) (
 n d g j)
def FM (N:Nat) (p0_w:Ah) (a:Int) (c:(List AO)):Option (AF×(List AF)×(List A4)):=
 Option.bind (ix p0_w.b.Places a) λg=>
 Option.bind (ix p0_w.peaks a) λi=>
 Option.bind (ix p0_w.peaks a) λd=>
 CL N p0_w c d (CM N p0_w a g d) N 0 0 0 p0_w.h.Queue
def D3 (N:Nat) (b:Al) (a:(List A4)×(List AS)×(List AF)) (c:List AF) (d:List AF) (g:List A4):Option (Al×(List AF)×(List AF)):=
 some ((⟨(A3 (b.Hour+1)),d,g,a.2.1⟩:Al),a.2.2,c)
def D2 (N:Nat) (c:AK) (g:Al) (i:C7) (b:(List A4)×(List AS)×(List AF)) (m:(List AF)→(List AF)→(List A4)→Option (Al×(List AF)×(List AF))):Nat→Int→(List AF)→(List AF)→(List A4)→Option (Al×(List AF)×(List AF))
 |0,_,_,_,_=>none
 |q+1,a,d,j,k=>
 cond (decide (a<(↑c.Places.length:Int))) (
 Option.bind (FO N (⟨c,(⟨g.Hour,j,k,b.2.1⟩:Al),b.2.2⟩:Ah) a i.Takes) λn=>
 Option.bind (FM N (⟨c,(⟨g.Hour,j,k,b.2.1⟩:Al),b.2.2⟩:Ah) a n) λl=>
 Option.bind (ix d a) λo=>
 Option.bind (ix d a) λp=>
 D2 N c g i b m q (A3 (a+1)) (upd d a l.1) l.2.1 l.2.2) (
 m d j k)
def G9 (N:Nat) (a:AK) (b:Al) (c:C7) (d:(List Bool)) (g:(List AF)):Option (Al×(List AF)×(List AF)):=
 Option.bind (Bi N b.Vol) λj=>
 Option.bind (Bf N b.Links) λl=>
 chk (Jt (↑a.Places.length:Int) (↑a.Places.length:Int) 16) <|
 Option.bind (FL N (⟨a,(⟨b.Hour,j,b.Queue,l⟩:Al),(List.replicate ((↑a.Places.length:Int):Int).toNat ((⟨0,0⟩:AF):AF))⟩:Ah) c d) λk=>
 Option.bind (EQ N (⟨a,(⟨b.Hour,j,b.Queue,k⟩:Al),(List.replicate ((↑a.Places.length:Int):Int).toNat ((⟨0,0⟩:AF):AF))⟩:Ah) g) λi=>
 chk (Jt (↑a.Places.length:Int) (↑a.Places.length:Int) 16) <|
 D2 N a b c i (D3 N b i) N 0 (List.replicate ((↑a.Places.length:Int):Int).toNat (⟨0,0⟩:AF)) j i.1
def Fm (N:Nat) (a:(List Int)):Option (List Int):=
 chk (room (([]:List Int).length+a.length) 8) <|
 some (([]:List Int)++a)
def Gv (N:Nat) (a:AK) (b:Int) (c:List (List Int)):Option CQ:=
 some (⟨b,c,(List.replicate ((↑a.Places.length:Int):Int).toNat (0:Int)),[],(List.replicate ((↑a.Links.length:Int):Int).toNat ((⟨0,0,false,false⟩:Be):Be)),(List.replicate ((↑a.Owners.length:Int):Int).toNat (0:Int)),(List.replicate ((↑a.Owners.length:Int):Int).toNat (0:Int))⟩:CQ)
def F1 (N:Nat) (c:AK) (d:(List (List Int))→Option CQ):Nat→Int→(List (List Int))→Option CQ
 |0,_,_=>none
 |l+1,a,b=>
 cond (decide (a<(↑c.Places.length:Int))) (
 Option.bind (ix c.Places a) λg=>
 Option.bind (Fm N g.Start) λi=>
 Option.bind (ix b a) λj=>
 Option.bind (ix b a) λk=>
 F1 N c d l (A3 (a+1)) (upd b a i)) (
 d b)
def JR (N:Nat) (a:AK) (b:Int):Option CQ:=
 chk (Jt (↑a.Places.length:Int) (↑a.Places.length:Int) 24) <|
 chk (Jt (↑a.Places.length:Int) (↑a.Places.length:Int) 8) <|
 chk (Jt (↑a.Links.length:Int) (↑a.Links.length:Int) 24) <|
 chk (Jt (↑a.Owners.length:Int) (↑a.Owners.length:Int) 8) <|
 chk (Jt (↑a.Owners.length:Int) (↑a.Owners.length:Int) 8) <|
 F1 N a (Gv N a b) N 0 (List.replicate ((↑a.Places.length:Int):Int).toNat ([]:(List Int)))
def EL (N:Nat) (b:AF) (a:AF):Option Bool:=
 Option.bind (GQ N b a) λc=>
 some (ML c.v a.v)
def Ek (N:Nat) (b:AT) (a:AS):Option Bool:=
 Option.bind (Cp N a.Pos) λj=>
 Option.bind (cond (!j) (some true) (Option.bind (EL N a.Pos (⟨0,b.Positions⟩:AF)) λk=>
 some (!k))) λl=>
 Option.bind (cond l (some true) (Option.bind (EY N (⟨0,b.Positions⟩:AF) a.Target) λm=>
 some (!m))) λn=>
 cond n (
 some false) (
 Option.bind (Cn N 0) λc=>
 Option.bind (Cn N 1) λd=>
 cond ((decide (b.Kind≠5))&&(decide (b.Kind≠3))) (
 some (ML a.Open.v c.v)) (
 Option.bind (cond ((ML a.Open.v c.v)||(ML a.Open.v d.v)) (some true) (Option.bind (GQ N c d) λg=>
 some (ML a.Open.v g.v))) λi=>
 some i))
def DI (N:Nat) (d:AK) (b:Al) (g:Option Bool):Nat→Int→Option Bool
 |0,_=>none
 |q+1,c=>
 cond (decide (c<(↑b.Queue.length:Int))) (
 Option.bind (ix b.Queue c) λa=>
 Option.bind (Cp N a.Vol) λi=>
 Option.bind (cond (!i) (some true) (Option.bind (EL N a.Vol (⟨0,1125899906842624⟩:AF)) λj=>
 some (!j))) λk=>
 Option.bind (cond ((k||(decide (a.Vol.Hi≤0)))||(decide (a.At<b.Hour))) (some true) (Option.bind (Ef N a.To (↑d.Places.length:Int)) λl=>
 some (!l))) λm=>
 cond m (
 some false) (
 Option.bind (cond (decide (0<c)) (Option.bind (ix b.Queue (A3 (c-1))) λn=>
 Option.bind (DT N n a) λo=>
 some (decide (0≤o))) (some false)) λp=>
 cond p (
 some false) (
 DI N d b g q (A3 (c+1))))) (
 g)
def DH (N:Nat) (c:AK) (b:Al) (d:Option Bool):Nat→Int→Option Bool
 |0,_=>none
 |k+1,a=>
 cond (decide (a<(↑b.Links.length:Int))) (
 Option.bind (ix b.Links a) λg=>
 Option.bind (ix c.Links a) λi=>
 Option.bind (Ek N i g) λj=>
 cond (!j) (
 some false) (
 DH N c b d k (A3 (a+1)))) (
 d)
def Dj (N:Nat):Option Bool:=
 some true
def DK (N:Nat) (a:AK) (b:Al):Option Bool:=
 DH N a b (Dj N) N 0
def DL (N:Nat) (a:AK) (b:Al):Option Bool:=
 DI N a b (DK N a b) N 0
def DJ (N:Nat) (a:Al) (c:Option Bool):Nat→Int→Option Bool
 |0,_=>none
 |k+1,b=>
 cond (decide (b<(↑a.Vol.length:Int))) (
 Option.bind (ix a.Vol b) λd=>
 Option.bind (Cp N d) λg=>
 Option.bind (cond (!g) (some true) (Option.bind (EL N d (⟨0,1125899906842624⟩:AF)) λi=>
 some (!i))) λj=>
 cond j (
 some false) (
 DJ N a c k (A3 (b+1)))) (
 c)
def Ft (N:Nat) (b:AK) (a:Al):Option Bool:=
 cond ((((decide (a.Hour<0))||(decide (16777216<a.Hour)))||(decide ((↑a.Vol.length:Int)≠(↑b.Places.length:Int))))||(decide ((↑a.Links.length:Int)≠(↑b.Links.length:Int)))) (
 some false) (
 DJ N a (DL N b a) N 0)
def IC (N:Nat) (a:AF):Option Int:=
 Option.bind (CN N a.Hi a.Lo) λb=>
 some b
def GR (N:Nat) (a:Al) (c:Int→Option Int):Nat→Int→Int→Option Int
 |0,_,_=>none
 |k+1,d,b=>
 cond (decide (b<(↑a.Queue.length:Int))) (
 Option.bind (ix a.Queue b) λi=>
 Option.bind (IC N i.Vol) λj=>
 Option.bind (CR N d j) λg=>
 GR N a c k g (A3 (b+1))) (
 c d)
def HI (N:Nat) (a:Int):Option Int:=
 some a
def HJ (N:Nat) (a:Al) (b:Int):Option Int:=
 GR N a (HI N) N b 0
def GS (N:Nat) (a:Al) (c:Int→Option Int):Nat→Int→Int→Option Int
 |0,_,_=>none
 |k+1,d,b=>
 cond (decide (b<(↑a.Vol.length:Int))) (
 Option.bind (ix a.Vol b) λg=>
 Option.bind (IC N g) λi=>
 Option.bind (CR N d i) λj=>
 GS N a c k j (A3 (b+1))) (
 c d)
def Iq (N:Nat) (a:Al):Option Int:=
 GS N a (HJ N a) N 0 0
def Gx (N:Nat) (a:Int):Option Int:=
 some a
def F3 (N:Nat) (a:(List Int)) (c:Int→Option Int):Nat→Int→Int→Option Int
 |0,_,_=>none
 |j+1,i,b=>
 cond (decide (b<(↑a.length:Int))) (
 Option.bind (ix a b) λd=>
 Option.bind (CR N i d) λg=>
 F3 N a c j g (A3 (b+1))) (
 c i)
def Gd (N:Nat) (a:(List Int)):Option Int:=
 F3 N a (Gx N) N 0 0
def JT (N:Nat) (a:Bool):Option Int:=
 cond a (
 some 1) (
 some 0)
def Et (N:Nat) (b:Al) (d:(List (AU×Int))) (g:((List (AU×Bool)))→Option Bool):Nat→Int→((List (AU×Bool)))→Option Bool
 |0,_,_=>none
 |l+1,c,i=>
 cond (decide (c<(↑b.Queue.length:Int))) (
 Option.bind (ix b.Queue c) λa=>
 Option.bind (EY N a.Vol (A3 ((KL (λk:AU=>Value.agg (AU.v k).toArray) d (⟨a.At,a.To⟩:AU)).getD 0))) λj=>
 cond (!j) (
 some false) (
 Et N b d g l (A3 (c+1)) (MJ (λk:AU=>Value.agg (AU.v k).toArray) i (⟨a.At,a.To⟩:AU) true))) (
 g i)
def Fo (N:Nat) (b:(List (AU×Bool))) (a:AU×Int):Option Bool:=
 cond ((!((KL (λk:AU=>Value.agg (AU.v k).toArray) b a.1).getD false))&&(decide ((A3 a.2)≠0))) (
 some false) (
 none)
def Fp (N:Nat):Option Bool:=
 some true
def Fq (N:Nat) (a:(List (AU×Int))) (b:(List (AU×Bool))):Option Bool:=
 cond (List.all a (λe=>(Fo N b e).isNone)) (Fp N) (some false)
def Fs (N:Nat) (a:Al) (b:(List (AU×Int))):Option Bool:=
 Et N a b (Fq N b) N 0 ([]:(List (AU×Bool)))
def Eu (N:Nat) (a:CQ) (g:((List (AU×Int)))→Option Bool):Nat→Int→((List (AU×Int)))→Option Bool
 |0,_,_=>none
 |l+1,c,d=>
 cond (decide (c<(↑a.Queue.length:Int))) (
 Option.bind (ix a.Queue c) λb=>
 Option.bind (Gd N b.Part) λi=>
 Option.bind (CR N (A3 ((KL (λk:AU=>Value.agg (AU.v k).toArray) d (⟨b.At,b.To⟩:AU)).getD 0)) i) λj=>
 Eu N a g l (A3 (c+1)) (MJ (λk:AU=>Value.agg (AU.v k).toArray) d (⟨b.At,b.To⟩:AU) j)) (
 g d)
def Hy (N:Nat) (a:Al) (b:CQ):Option Bool:=
 Eu N b (Fs N a) N 0 ([]:(List (AU×Int)))
def Gm (N:Nat) (b:Al) (c:CQ) (i:Option Bool):Nat→Int→Option Bool
 |0,_=>none
 |n+1,a=>
 cond (decide (a<(↑b.Links.length:Int))) (
 Option.bind (ix b.Links a) λd=>
 Option.bind (ix c.Gates a) λg=>
 Option.bind (EY N d.Pos g.Pos) λj=>
 Option.bind (cond (!j) (some true) (Option.bind (JT N g.Open) λk=>
 Option.bind (EY N d.Open k) λl=>
 some (!l))) λm=>
 cond m (
 some false) (
 Gm N b c i n (A3 (a+1)))) (
 i)
def Hl (N:Nat) (a:Al) (b:CQ):Option Bool:=
 Option.bind (Hy N a b) λc=>
 some c
def Hm (N:Nat) (a:Al) (b:CQ):Option Bool:=
 Gm N a b (Hl N a b) N 0
def Gn (N:Nat) (a:Al) (c:CQ) (d:Option Bool):Nat→Int→Option Bool
 |0,_=>none
 |l+1,b=>
 cond (decide (b<(↑a.Vol.length:Int))) (
 Option.bind (ix a.Vol b) λk=>
 Option.bind (ix c.Own b) λg=>
 Option.bind (Gd N g) λi=>
 Option.bind (EY N k i) λj=>
 cond (!j) (
 some false) (
 Gn N a c d l (A3 (b+1)))) (
 d)
def JU (N:Nat) (c:AK) (a:Al) (b:CQ):Option Bool:=
 cond (((((decide (a.Hour≠b.Hour))||(decide ((↑a.Vol.length:Int)≠(↑c.Places.length:Int))))||(decide ((↑a.Links.length:Int)≠(↑c.Links.length:Int))))||(decide ((↑b.Own.length:Int)≠(↑a.Vol.length:Int))))||(decide ((↑b.Gates.length:Int)≠(↑a.Links.length:Int)))) (
 some false) (
 Gn N a b (Hm N a b) N 0)
def HL (N:Nat) (a:CQ) (g:(List A4)→Option Al):Nat→Int→(List A4)→Option Al
 |0,_,_=>none
 |l+1,b,d=>
 cond (decide (b<(↑a.Queue.length:Int))) (
 Option.bind (ix a.Queue b) λc=>
 Option.bind (Gd N c.Part) λi=>
 Option.bind (Cn N i) λj=>
 Option.bind (He N d c.At c.To j) λk=>
 HL N a g l (A3 (b+1)) k) (
 g d)
def HK (N:Nat) (b:CQ) (j:(List AS)→Option Al):Nat→Int→(List AS)→Option Al
 |0,_,_=>none
 |l+1,c,d=>
 cond (decide (c<(↑b.Gates.length:Int))) (
 Option.bind (ix b.Gates c) λa=>
 Option.bind (Cn N a.Pos) λg=>
 Option.bind (JT N a.Open) λk=>
 Option.bind (Cn N k) λi=>
 chk (room (d.length+([(⟨g,a.Target,i⟩:AS)]:List AS).length) 40) <|
 HK N b j l (A3 (c+1)) (d++([(⟨g,a.Target,i⟩:AS)]:List AS))) (
 j d)
def ID (N:Nat) (a:CQ) (d:List AF) (b:List A4) (c:List AS):Option Al:=
 some (⟨a.Hour,d,b,c⟩:Al)
def IE (N:Nat) (a:CQ) (c:List AF) (b:List A4):Option Al:=
 HK N a (ID N a c b) N 0 ([])
def IF (N:Nat) (a:CQ) (b:List AF):Option Al:=
 HL N a (IE N a b) N 0 ([])
def HM (N:Nat) (a:CQ) (d:(List AF)→Option Al):Nat→Int→(List AF)→Option Al
 |0,_,_=>none
 |k+1,b,c=>
 cond (decide (b<(↑a.Own.length:Int))) (
 Option.bind (ix a.Own b) λi=>
 Option.bind (Gd N i) λj=>
 Option.bind (Cn N j) λg=>
 chk (room (c.length+([g]:List AF).length) 16) <|
 HM N a d k (A3 (b+1)) (c++([g]:List AF))) (
 d c)
def Ks (N:Nat) (b:AK) (a:CQ):Option Al:=
 HM N a (IF N a) N 0 ([])
def Ed (N:Nat):Option Bool:=
 Option.bind (G9 N (⟨(ByteArray.mk #[98]),([(ByteArray.mk #[97])]:List ByteArray),0,Cc,[],[],[],[],[],([0,0,0]:List Int),0⟩:AK) (⟨0,([(⟨100,150⟩:AF)]:List AF),[],[]⟩:Al) (⟨[],[],[],[],[]⟩:C7) [] []) λa=>
 Option.bind (JR N (⟨(ByteArray.mk #[98]),([(ByteArray.mk #[97])]:List ByteArray),0,Cc,[],[],[],[],[],([0,0,0]:List Int),0⟩:AK) 0) λb=>
 cond (((decide ((↑a.2.1.length:Int)≠1))||(decide ((↑a.2.2.length:Int)≠1)))||(decide ((↑a.1.Vol.length:Int)≠1))) (
 some false) (
 Option.bind (ix a.2.1 0) λy=>
 Option.bind (ix a.2.1 0) λc=>
 Option.bind (cond (ML c.v (⟨100,150⟩:AF).v) (Option.bind (ix a.2.2 0) λz=>
 Option.bind (ix a.2.2 0) λd=>
 some (ML d.v (⟨0,17⟩:AF).v)) (some false)) λg=>
 Option.bind (cond g (Option.bind (ix a.1.Vol 0) λi=>
 some (ML i.v (⟨88,120⟩:AF).v)) (some false)) λj=>
 Option.bind (cond ((j&&(decide (a.1.Hour=1)))&&(decide ((↑a.1.Queue.length:Int)=0))) (Option.bind (Ft N (⟨(ByteArray.mk #[98]),([(ByteArray.mk #[97])]:List ByteArray),0,Cc,[],[],[],[],[],([0,0,0]:List Int),0⟩:AK) (⟨0,([(⟨100,150⟩:AF)]:List AF),[],[]⟩:Al)) λk=>
 some k) (some false)) λl=>
 Option.bind (cond l (Option.bind (Iq N (⟨0,([(⟨100,150⟩:AF)]:List AF),[],[]⟩:Al)) λm=>
 some (decide (m=50))) (some false)) λn=>
 Option.bind (cond n (Option.bind (JU N (⟨(ByteArray.mk #[98]),([(ByteArray.mk #[97])]:List ByteArray),0,Cc,[],[],[],[],[],([0,0,0]:List Int),0⟩:AK) (⟨0,([(⟨100,150⟩:AF)]:List AF),[],[]⟩:Al) b) λo=>
 some o) (some false)) λp=>
 Option.bind (cond p (Option.bind (Ks N (⟨(ByteArray.mk #[98]),([(ByteArray.mk #[97])]:List ByteArray),0,Cc,[],[],[],[],[],([0,0,0]:List Int),0⟩:AK) b) λq=>
 Option.bind (Iq N q) λs=>
 some (decide (s=0))) (some false)) λt=>
 Option.bind (cond t (Option.bind (Ks N (⟨(ByteArray.mk #[98]),([(ByteArray.mk #[97])]:List ByteArray),0,Cc,[],[],[],[],[],([0,0,0]:List Int),0⟩:AK) b) λu=>
 Option.bind (JU N (⟨(ByteArray.mk #[98]),([(ByteArray.mk #[97])]:List ByteArray),0,Cc,[],[],[],[],[],([0,0,0]:List Int),0⟩:AK) u b) λw=>
 some w) (some false)) λx=>
 some x)
def GL (N:Nat) (b:AK) (c:Al) (a:C7):Option Bool:=
 cond ((((decide (6<(↑b.Places.length:Int)))||(decide (6<(↑b.Links.length:Int))))||(decide (4<(↑b.Owners.length:Int))))||(decide (16<(↑c.Queue.length:Int)))) (
 some false) (
 some (((((decide ((↑a.Rain.length:Int)≤8))&&(decide ((↑a.Faults.length:Int)≤8)))&&(decide ((↑a.Cmds.length:Int)≤8)))&&(decide ((↑a.Takes.length:Int)≤8)))&&(decide ((↑a.Swaps.length:Int)≤8))))
def BU (N:Nat) (c:Int) (b:Int) (a:Int):Option Bool:=
 some ((decide (b≤c))&&(decide (c≤a)))
def BM (N:Nat) (a:Int):Option Bool:=
 Option.bind (BU N a 0 1125899906842624) λb=>
 some b
def Cj (N:Nat) (a:AK) (c:Option Bool):Nat→Int→Option Bool
 |0,_=>none
 |i+1,b=>
 cond (decide (b<(↑a.Room.length:Int))) (
 Option.bind (ix a.Room b) λd=>
 Option.bind (BM N d) λg=>
 cond (!g) (
 some false) (
 Cj N a c i (A3 (b+1)))) (
 c)
def Dw (N:Nat):Option Bool:=
 some true
def Cm (N:Nat) (a:AK):Option Bool:=
 Cj N a (Dw N) N 0
def Ck (N:Nat) (a:AK) (d:Option Bool):Nat→Int→Option Bool
 |0,_=>none
 |g+1,c=>
 cond (decide (c<(↑a.Name.size:Int))) (
 Option.bind (Rq a.Name c) λb=>
 cond ((((decide (b<32))||(decide (126<b)))||(decide (b=34)))||(decide (b=92))) (
 some false) (
 Ck N a d g (A3 (c+1)))) (
 d)
def FQ (N:Nat) (a:AK):Option Bool:=
 Option.bind (cond (decide (500<(↑a.Name.size:Int))) (some true) (Option.bind (BU N (↑a.Owners.length:Int) 1 16) λb=>
 some (!b))) λc=>
 Option.bind (cond c (some true) (Option.bind (BU N a.Cells 0 64) λd=>
 some (!d))) λg=>
 Option.bind (cond g (some true) (Option.bind (BU N (↑a.Places.length:Int) 1 64) λi=>
 some (!i))) λj=>
 Option.bind (cond ((((((j||(decide (96<(↑a.Links.length:Int))))||(decide (40<(↑a.Towns.length:Int))))||(decide (128<(↑a.Gauges.length:Int))))||(decide (128<(↑a.Roads.length:Int))))||(decide (40<(↑a.Shelters.length:Int))))||(decide ((↑a.Room.length:Int)≠3))) (some true) (Option.bind (BU N a.Err 0 1099511627776) λk=>
 some (!k))) λl=>
 cond l (
 some false) (
 Ck N a (Cm N a) N 0)
def EX (N:Nat):Option Bool:=
 some true
def Dd (N:Nat) (a:ByteArray) (d:Option Bool):Nat→Int→Option Bool
 |0,_=>none
 |g+1,c=>
 cond (decide (c<(↑a.size:Int))) (
 Option.bind (Rq a c) λb=>
 cond ((((decide (b<97))||(decide (122<b)))&&((decide (b<48))||(decide (57<b))))&&(decide (b≠95))) (
 some false) (
 Dd N a d g (A3 (c+1)))) (
 d)
def GW (N:Nat) (a:ByteArray):Option Bool:=
 Option.bind (cond (((decide ((↑a.size:Int)<1))||(decide (24<(↑a.size:Int))))||(a==(ByteArray.mk #[111,117,116]))) (some true) (Option.bind (Rq a 0) λb=>
 some (decide (b<97)))) λc=>
 Option.bind (cond c (some true) (Option.bind (Rq a 0) λd=>
 some (decide (122<d)))) λg=>
 cond g (
 some false) (
 Dd N a (EX N) N 1)
def En (N:Nat) (a:(List (AG×Bool))) (b:ByteArray) (d:ByteArray):Option (Bool×(List (AG×Bool))):=
 Option.bind (GW N b) λc=>
 cond ((!c)||((KL (λk:AG=>Value.agg (AG.v k).toArray) a (⟨d,b⟩:AG)).getD false)) (
 some (false,a)) (
 some (true,(MJ (λk:AG=>Value.agg (AG.v k).toArray) a (⟨d,b⟩:AG) true)))
def Gq (N:Nat) (a:(List (AG×Bool))) (b:ByteArray) (c:ByteArray):Option (Bool×(List (AG×Bool))):=
 cond (b==(ByteArray.mk #[115,104,101,108,116,101,114])) (
 En N a c (ByteArray.mk #[116,111,119,110])) (
 En N a c b)
def Bk (N:Nat) (c2_:(List (AG×Bool))) (c3_:Bool) (a:ByteArray) (b:ByteArray):Option ((List (AG×Bool))×Bool):=
 Option.bind (Gq N c2_ a b) λc=>
 some (c.2,(c.1&&c3_))
def B6 (N:Nat) (a:AK) (d:Bool→((List (AG×Bool)))→Option Bool):Nat→Int→Bool→((List (AG×Bool)))→Option Bool
 |0,_,_,_=>none
 |k+1,c,g,i=>
 cond (decide (c<(↑a.Places.length:Int))) (
 Option.bind (ix a.Places c) λj=>
 Option.bind (Bk N i g (ByteArray.mk #[112,108,97,99,101]) j.Name) λb=>
 B6 N a d k (A3 (c+1)) b.2 b.1) (
 d g i)
def B5 (N:Nat) (a:AK) (i:Bool→((List (AG×Bool)))→Option Bool):Nat→Int→Bool→((List (AG×Bool)))→Option Bool
 |0,_,_,_=>none
 |k+1,b,c,d=>
 cond (decide (b<(↑a.Links.length:Int))) (
 Option.bind (ix a.Links b) λj=>
 Option.bind (Bk N d c (ByteArray.mk #[108,105,110,107]) j.Name) λg=>
 B5 N a i k (A3 (b+1)) g.2 g.1) (
 i c d)
def B4 (N:Nat) (a:AK) (i:Bool→((List (AG×Bool)))→Option Bool):Nat→Int→Bool→((List (AG×Bool)))→Option Bool
 |0,_,_,_=>none
 |k+1,b,c,d=>
 cond (decide (b<(↑a.Towns.length:Int))) (
 Option.bind (ix a.Towns b) λj=>
 Option.bind (Bk N d c (ByteArray.mk #[116,111,119,110]) j.Name) λg=>
 B4 N a i k (A3 (b+1)) g.2 g.1) (
 i c d)
def B3 (N:Nat) (a:AK) (i:Bool→((List (AG×Bool)))→Option Bool):Nat→Int→Bool→((List (AG×Bool)))→Option Bool
 |0,_,_,_=>none
 |k+1,b,c,d=>
 cond (decide (b<(↑a.Shelters.length:Int))) (
 Option.bind (ix a.Shelters b) λj=>
 Option.bind (Bk N d c (ByteArray.mk #[115,104,101,108,116,101,114]) j.Name) λg=>
 B3 N a i k (A3 (b+1)) g.2 g.1) (
 i c d)
def Bt (N:Nat) (a:AK) (c:Bool→((List (AG×Bool)))→Option Bool):Nat→Int→Bool→((List (AG×Bool)))→Option Bool
 |0,_,_,_=>none
 |k+1,b,d,g=>
 cond (decide (b<(↑a.Gauges.length:Int))) (
 Option.bind (ix a.Gauges b) λj=>
 Option.bind (Bk N g d (ByteArray.mk #[103,97,117,103,101]) j.Name) λi=>
 Bt N a c k (A3 (b+1)) i.2 i.1) (
 c d g)
def Bs (N:Nat) (a:AK) (c:Bool→Option Bool):Nat→Int→Bool→((List (AG×Bool)))→Option Bool
 |0,_,_,_=>none
 |k+1,b,d,i=>
 cond (decide (b<(↑a.Roads.length:Int))) (
 Option.bind (ix a.Roads b) λj=>
 Option.bind (Bk N i d (ByteArray.mk #[114,111,97,100]) j.Name) λg=>
 Bs N a c k (A3 (b+1)) g.2 g.1) (
 c d)
def Cr (N:Nat) (a:Bool):Option Bool:=
 some a
def Cs (N:Nat) (a:AK) (b:Bool) (c:(List (AG×Bool))):Option Bool:=
 Bs N a (Cr N) N 0 b c
def C2 (N:Nat) (a:AK) (b:Bool) (c:(List (AG×Bool))):Option Bool:=
 Bt N a (Cs N a) N 0 b c
def C3 (N:Nat) (a:AK) (b:Bool) (c:(List (AG×Bool))):Option Bool:=
 B3 N a (C2 N a) N 0 b c
def C4 (N:Nat) (a:AK) (b:Bool) (c:(List (AG×Bool))):Option Bool:=
 B4 N a (C3 N a) N 0 b c
def C5 (N:Nat) (a:AK) (b:Bool) (c:(List (AG×Bool))):Option Bool:=
 B5 N a (C4 N a) N 0 b c
def C6 (N:Nat) (a:AK) (b:Bool) (c:(List (AG×Bool))):Option Bool:=
 B6 N a (C5 N a) N 0 b c
def B7 (N:Nat) (a:AK) (c:Bool→((List (AG×Bool)))→Option Bool):Nat→Int→Bool→((List (AG×Bool)))→Option Bool
 |0,_,_,_=>none
 |k+1,b,d,g=>
 cond (decide (b<(↑a.Owners.length:Int))) (
 Option.bind (ix a.Owners b) λj=>
 Option.bind (Bk N g d (ByteArray.mk #[111,119,110,101,114]) j) λi=>
 B7 N a c k (A3 (b+1)) i.2 i.1) (
 c d g)
def Fu (N:Nat) (a:AK):Option Bool:=
 B7 N a (C6 N a) N 0 true ([]:(List (AG×Bool)))
def EF (N:Nat) (a:Int) (b:Int):Option Bool:=
 Option.bind (BM N a) λc=>
 Option.bind (cond c (Option.bind (BM N b) λd=>
 some d) (some false)) λg=>
 some (g&&((decide (b≠0))||(decide (a=0))))
def DO (N:Nat) (b:Int) (a:Int):Option Bool:=
 Option.bind (BU N b 0 (A3 (a-1))) λc=>
 some c
def Fg (N:Nat) (c:AK) (b:Int) (a:Int):Option Bool:=
 Option.bind (cond (decide (a=(-1))) (some true) (Option.bind (DO N a (↑c.Places.length:Int)) λd=>
 some (d&&(decide (a≠b))))) λg=>
 some g
def BD (N:Nat) (a:Int):Option Bool:=
 some (decide (a≤1125899906842624))
def Br (N:Nat) (d:Ce) (g:Int→Option Bool):Nat→Int→Int→Option Bool
 |0,_,_=>none
 |j+1,b,a=>
 cond (decide (a<(↑d.Start.length:Int))) (
 Option.bind (ix d.Start a) λc=>
 Option.bind (BM N c) λi=>
 cond (!i) (
 some false) (
 Br N d g j (A3 (b+c)) (A3 (a+1)))) (
 g b)
def Bq (N:Nat) (c:AK) (g:Ce) (d:Int) (i:Int→Option Bool):Nat→Int→Int→Option Bool
 |0,_,_=>none
 |m+1,j,b=>
 cond (decide (b<(↑g.Rain.length:Int))) (
 Option.bind (ix g.Rain b) λa=>
 Option.bind (cond ((decide (a.Index≤j))||(decide (c.Cells≤a.Index))) (some true) (Option.bind (BM N a.Area) λk=>
 some (!k))) λl=>
 cond l (
 some false) (
 Bq N c g d i m a.Index (A3 (b+1)))) (
 i d)
def Cq (N:Nat) (a:AK) (c:Ce) (d:Int→Option Bool) (b:Int):Option Bool:=
 Bq N a c b d N (-1) 0
def BY (N:Nat) (a:Int) (b:Int→Int→Option Bool) (c:Int):Option Bool:=
 b c (A3 (a+1))
def A0 (N:Nat) (b:AK) (d:Int→Option Bool):Nat→Int→Int→Option Bool
 |0,_,_=>none
 |y+1,g,c=>
 cond (decide (c<(↑b.Places.length:Int))) (
 Option.bind (ix b.Places c) λa=>
 Option.bind (BU N a.Kind 0 3) λj=>
 Option.bind (cond (!j) (some true) (Option.bind (BU N a.Office 0 2) λk=>
 some (!k))) λl=>
 Option.bind (cond l (some true) (Option.bind (BU N a.Delay 0 240) λm=>
 some (!m))) λn=>
 Option.bind (cond n (some true) (Option.bind (BM N a.Cap) λo=>
 some (!o))) λp=>
 Option.bind (cond p (some true) (Option.bind (BM N a.Floor) λq=>
 some (!q))) λs=>
 Option.bind (cond s (some true) (Option.bind (Cy N a.Level) λt=>
 some (!t))) λu=>
 Option.bind (cond (u||(decide ((↑a.Start.length:Int)≠(↑b.Owners.length:Int)))) (some true) (Option.bind (EF N a.Num a.Den) λv=>
 some (!v))) λw=>
 Option.bind (cond w (some true) (Option.bind (Fg N b c a.Down) λi=>
 some (!i))) λx=>
 cond x (
 some false) (
 Br N a (Cq N b a (BY N c (A0 N b d y))) N g 0)) (
 d g)
def FW (N:Nat) (a:AK):Option Bool:=
 A0 N a (BD N) N 0 0
def CG (N:Nat) (b:(List AX)) (a:(List AX)) (i:Option Bool):Nat→Int→Option Bool
 |0,_=>none
 |j+1,c=>
 cond (decide (c<(↑a.length:Int))) (
 Option.bind (ix a c) λd=>
 Option.bind (Cv N b d.X) λg=>
 cond ((decide (d.Y<g.1))||((decide (g.1=d.Y))&&g.2)) (
 some false) (
 CG N b a i j (A3 (c+1)))) (
 i)
def DU (N:Nat):Option Bool:=
 some true
def Bn (N:Nat) (a:(List AX)) (b:(List AX)):Option Bool:=
 CG N a b (DU N) N 0
def Bz (N:Nat) (a:(List AX)) (b:(List AX)) (d:Option Bool):Nat→Int→Option Bool
 |0,_=>none
 |j+1,c=>
 cond (decide (c<(↑a.length:Int))) (
 Option.bind (ix a c) λg=>
 Option.bind (Cv N b g.X) λi=>
 cond (decide (i.1<g.Y)) (
 some false) (
 Bz N a b d j (A3 (c+1)))) (
 d)
def Cw (N:Nat) (a:(List AX)) (b:(List AX)):Option Bool:=
 Option.bind (Cy N a) λc=>
 Option.bind (cond (!c) (some true) (Option.bind (Cy N b) λd=>
 some (!d))) λg=>
 cond g (
 some false) (
 Bz N a b (Bn N a b) N 0)
def CP (N:Nat) (a:AT) (b:Bool):Option Bool:=
 cond b (
 Option.bind (BM N a.Crest) λc=>
 Option.bind (cond c (Option.bind (BM N a.Num) λd=>
 some d) (some false)) λg=>
 Option.bind (cond g (Option.bind (BU N a.Den 1 1125899906842624) λi=>
 some i) (some false)) λj=>
 some j) (
 cond (decide (a.Kind=2)) (
 Option.bind (BM N a.Num) λk=>
 Option.bind (cond k (Option.bind (BU N a.Positions 1 64) λl=>
 some l) (some false)) λm=>
 Option.bind (cond m (Option.bind (BU N a.Speed 0 a.Positions) λn=>
 some n) (some false)) λo=>
 some o) (
 cond (decide (a.Kind=3)) (
 Option.bind (BM N a.Num) λp=>
 Option.bind (cond p (Option.bind (BU N a.Den 1 1125899906842624) λq=>
 some q) (some false)) λs=>
 Option.bind (cond s (Option.bind (BM N a.Prime) λt=>
 some t) (some false)) λu=>
 Option.bind (cond u (Option.bind (BM N a.Break) λv=>
 some v) (some false)) λw=>
 some (w&&(decide (a.Break<a.Prime)))) (
 Option.bind (BM N a.Num) λx=>
 Option.bind (cond x (Option.bind (BU N a.Den 1 1125899906842624) λy=>
 some y) (some false)) λz=>
 Option.bind (cond z (Option.bind (EF N a.BackNum a.BackDen) λA=>
 some A) (some false)) λB=>
 some (B&&(decide (a.To≠(-1)))))))
def Da (N:Nat) (a:AT):Option Bool:=
 cond (decide (a.Kind=0)) (
 Option.bind (Cy N a.Rate) λb=>
 Option.bind (cond b (Option.bind (Cy N a.Band.Lo) λc=>
 some c) (some false)) λd=>
 Option.bind (cond d (Option.bind (Cy N a.Band.Hi) λg=>
 some g) (some false)) λi=>
 Option.bind (cond i (Option.bind (Cw N a.Band.Lo a.Rate) λj=>
 some j) (some false)) λk=>
 Option.bind (cond k (Option.bind (Cw N a.Rate a.Band.Hi) λl=>
 some l) (some false)) λm=>
 Option.bind (cond m (Option.bind (BU N a.Positions 0 64) λn=>
 some n) (some false)) λo=>
 Option.bind (cond o (Option.bind (BU N a.Speed 0 a.Positions) λp=>
 some p) (some false)) λq=>
 Option.bind (cond q (Option.bind (BM N a.Leak) λs=>
 some s) (some false)) λt=>
 Option.bind (cond t (Option.bind (EF N a.BackNum a.BackDen) λu=>
 some u) (some false)) λv=>
 some (v&&((decide (a.To≠(-1)))||(decide (a.BackDen=0))))) (
 cond (decide (a.Kind=1)) (
 CP N a (decide (a.Kind=1))) (
 CP N a (decide (a.Kind=5))))
def DZ (N:Nat) (a:AT):Option Bool:=
 cond ((!(decide (a.Kind=0)))&&((((decide (0<(↑a.Rate.length:Int)))||(decide (0<(↑a.Band.Lo.length:Int))))||(decide (0<(↑a.Band.Hi.length:Int))))||(decide (a.Leak≠0)))) (
 some false) (
 cond (((!(decide (a.Kind=0)))&&(decide (a.Kind≠2)))&&((decide (a.Positions≠0))||(decide (a.Speed≠0)))) (
 some false) (
 cond (((decide (a.Kind≠1))&&(decide (a.Kind≠5)))&&(decide (a.Crest≠0))) (
 some false) (
 cond (((decide (a.Kind=0))&&(decide (a.Num≠0)))||(((decide (a.Kind=0))||(decide (a.Kind=2)))&&(decide (a.Den≠0)))) (
 some false) (
 cond ((decide (a.Kind≠3))&&((decide (a.Prime≠0))||(decide (a.Break≠0)))) (
 some false) (
 some (((decide (a.Kind=0))||(decide (a.Kind=4)))||((decide (a.BackNum=0))&&(decide (a.BackDen=0)))))))))
def B8 (N:Nat):Option Bool:=
 some true
def BV (N:Nat) (a:AK) (d:Option Bool):Nat→Int→Option Bool
 |0,_=>none
 |t+1,c=>
 cond (decide (c<(↑a.Links.length:Int))) (
 Option.bind (ix a.Links c) λb=>
 Option.bind (BU N b.Kind 0 5) λg=>
 Option.bind (cond (!g) (some true) (Option.bind (DO N b.From (↑a.Places.length:Int)) λi=>
 some (!i))) λj=>
 Option.bind (cond j (some true) (Option.bind (Fg N a b.From b.To) λk=>
 some (!k))) λl=>
 Option.bind (cond l (some true) (Option.bind (BU N b.Delay 0 240) λm=>
 some (!m))) λn=>
 Option.bind (cond n (some true) (Option.bind (Da N b) λo=>
 some (!o))) λp=>
 Option.bind (cond p (some true) (Option.bind (DZ N b) λq=>
 some (!q))) λs=>
 cond s (
 some false) (
 BV N a d t (A3 (c+1)))) (
 d)
def DG (N:Nat) (a:AK):Option Bool:=
 BV N a (B8 N) N 0
def Ge (N:Nat) (c:AK) (a:Int) (b:Int):Option Bool:=
 cond (decide (b=(-1))) (
 some (decide (a=2))) (
 Option.bind (ix c.Places b) λd=>
 some ((decide (d.Office=a))||(decide (d.Office=(A3 (a+1))))))
def CA (N:Nat) (a:AK) (g:Option Bool):Nat→Int→Option Bool
 |0,_=>none
 |m+1,d=>
 cond (decide (d<(↑a.Links.length:Int))) (
 Option.bind (ix a.Links d) λb=>
 Option.bind (ix a.Places b.From) λc=>
 Option.bind (Ge N a c.Office b.To) λi=>
 Option.bind (cond (!i) (some true) (Option.bind (cond (decide (b.Kind=4)) (Option.bind (ix a.Places b.To) λj=>
 some (decide (j.Office≠c.Office))) (some false)) λk=>
 some k)) λl=>
 cond l (
 some false) (
 CA N a g m (A3 (d+1)))) (
 g)
def DA (N:Nat):Option Bool:=
 some true
def CC (N:Nat) (a:AK):Option Bool:=
 CA N a (DA N) N 0
def CB (N:Nat) (a:AK) (c:Option Bool):Nat→Int→Option Bool
 |0,_=>none
 |i+1,b=>
 cond (decide (b<(↑a.Places.length:Int))) (
 Option.bind (ix a.Places b) λd=>
 Option.bind (Ge N a d.Office d.Down) λg=>
 cond (!g) (
 some false) (
 CB N a c i (A3 (b+1)))) (
 c)
def ES (N:Nat) (a:AK):Option Bool:=
 CB N a (CC N a) N 0
def Em (N:Nat) (a:Int):Option Int:=
 some (A3 a)
def Cf (N:Nat) (b:Int) (a:Int):Option Int:=
 cond (decide (a=0)) (
 some 0) (
 cond (decide (a<b)) (
 some 1099511627777) (
 Option.bind (EV N (IntKind.wrap .u64 b) 1099511627776) λd=>
 Option.bind (Dc N d.1 d.2 (IntKind.wrap .u64 a)) λc=>
 cond (decide (c.2≠0)) (
 Em N (IntKind.wrap .u64 (c.1+1))) (
 Em N c.1)))
def BJ (N:Nat) (a:Int):Option Int:=
 some a
def BI (N:Nat) (a:(List AX)) (c:Int→Option Int):Nat→Int→Int→Option Int
 |0,_,_=>none
 |m+1,d,b=>
 cond (decide (b<(↑a.length:Int))) (
 Option.bind (ix a b) λg=>
 Option.bind (ix a (A3 (b-1))) λi=>
 Option.bind (ix a b) λj=>
 Option.bind (ix a (A3 (b-1))) λk=>
 Option.bind (Cf N (A3 (g.Y-i.Y)) (A3 (j.X-k.X))) λl=>
 BI N a c m (max d l) (A3 (b+1))) (
 c d)
def BZ (N:Nat) (a:Int) (b:Int→Int→Option Int) (c:Int):Option Int:=
 b c (A3 (a+1))
def A6 (N:Nat) (a:(List (List AX))) (c:Int→Option Int):Nat→Int→Int→Option Int
 |0,_,_=>none
 |i+1,g,b=>
 cond (decide (b<(↑a.length:Int))) (
 Option.bind (ix a b) λd=>
 BI N d (BZ N b (A6 N a c i)) N g 1) (
 c g)
def DV (N:Nat) (a:(List (List AX))):Option Int:=
 A6 N a (BJ N) N 0 0
def Ay (N:Nat) (b:Int) (c:Int→(List Int)→Option Bool) (a:List Int):Option Bool:=
 c (A3 (b+1)) a
def Bj (N:Nat) (b:List Int) (a:AT) (g:(List Int)→Option Bool) (i:Bool):Option Bool:=
 cond i (
 Option.bind (ix b a.From) λn=>
 Option.bind (ix b a.From) λj=>
 Option.bind (Cf N a.Num a.Den) λk=>
 Option.bind (ix b a.From) λo=>
 Option.bind (ix b a.From) λp=>
 g (upd b a.From (A3 (j+k)))) (
 cond (decide (a.Kind=4)) (
 Option.bind (ix b a.From) λq=>
 Option.bind (ix b a.From) λc=>
 Option.bind (Cf N a.Num a.Den) λd=>
 Option.bind (ix b a.From) λs=>
 Option.bind (ix b a.From) λt=>
 Option.bind (ix (upd b a.From (A3 (c+(A3 (2*d))))) a.To) λu=>
 Option.bind (ix (upd b a.From (A3 (c+(A3 (2*d))))) a.To) λl=>
 Option.bind (Cf N a.BackNum a.BackDen) λm=>
 Option.bind (ix (upd b a.From (A3 (c+(A3 (2*d))))) a.To) λv=>
 Option.bind (ix (upd b a.From (A3 (c+(A3 (2*d))))) a.To) λw=>
 g (upd (upd b a.From (A3 (c+(A3 (2*d))))) a.To (A3 (l+(A3 (2*m)))))) (
 g b))
def Eg (N:Nat) (b:Bool→Option Bool) (a:Bool):Option Bool:=
 b a
def AZ (N:Nat) (c:AK) (j:(List Int)→Option Bool):Nat→Int→(List Int)→Option Bool
 |0,_,_=>none
 |k+1,i,b=>
 cond (decide (i<(↑c.Links.length:Int))) (
 Option.bind (ix c.Links i) λa=>
 cond (decide (a.Kind=0)) (
 Option.bind (ix b a.From) λn=>
 Option.bind (ix b a.From) λd=>
 Option.bind (DV N ([a.Rate,a.Band.Lo,a.Band.Hi]:List (List AX))) λg=>
 Option.bind (ix b a.From) λo=>
 Option.bind (ix b a.From) λp=>
 cond (decide (a.To≠(-1))) (
 Option.bind (ix (upd b a.From (A3 (d+g))) a.To) λq=>
 Option.bind (ix (upd b a.From (A3 (d+g))) a.To) λl=>
 Option.bind (Cf N a.BackNum a.BackDen) λm=>
 Option.bind (ix (upd b a.From (A3 (d+g))) a.To) λs=>
 Option.bind (ix (upd b a.From (A3 (d+g))) a.To) λt=>
 Ay N i (AZ N c j k) (upd (upd b a.From (A3 (d+g))) a.To (A3 (l+m)))) (
 Ay N i (AZ N c j k) (upd b a.From (A3 (d+g))))) (
 cond (decide (a.Kind=1)) (
 Bj N b a (Ay N i (AZ N c j k)) (decide (a.Kind=1))) (
 cond (decide (a.Kind=5)) (
 Eg N (Bj N b a (Ay N i (AZ N c j k))) (decide (a.Kind=5))) (
 Eg N (Bj N b a (Ay N i (AZ N c j k))) (decide (a.Kind=3)))))) (
 j b)
def BP (N:Nat) (b:List Int) (c:Option Bool):Nat→Int→Option Bool
 |0,_=>none
 |i+1,a=>
 cond (decide (a<(↑b.length:Int))) (
 Option.bind (ix b a) λg=>
 Option.bind (ix b a) λd=>
 cond (decide (1099511627776<d)) (
 some false) (
 BP N b c i (A3 (a+1)))) (
 c)
def Bp (N:Nat):Option Bool:=
 some true
def Az (N:Nat) (a:List Int):Option Bool:=
 BP N a (Bp N) N 0
def BC (N:Nat) (a:AK) (b:List Int):Option Bool:=
 AZ N a (Az N) N 0 b
def BQ (N:Nat) (b:AK) (d:(List Int)→Option Bool):Nat→Int→(List Int)→Option Bool
 |0,_,_=>none
 |j+1,a,c=>
 cond (decide (a<(↑b.Places.length:Int))) (
 Option.bind (ix b.Places a) λg=>
 Option.bind (Cf N g.Num g.Den) λi=>
 Option.bind (ix c a) λk=>
 Option.bind (ix c a) λl=>
 BQ N b d j (A3 (a+1)) (upd c a i)) (
 d c)
def C0 (N:Nat) (a:AK):Option Bool:=
 chk (Jt (↑a.Places.length:Int) (↑a.Places.length:Int) 8) <|
 BQ N a (BC N a) N 0 (List.replicate ((↑a.Places.length:Int):Int).toNat 0)
def CS (N:Nat) (a:AK) (c:Option Bool):Nat→Int→Option Bool
 |0,_=>none
 |i+1,b=>
 cond (decide (b<(↑a.Shelters.length:Int))) (
 Option.bind (ix a.Shelters b) λd=>
 Option.bind (BU N d.Room 0 1073741824) λg=>
 cond (!g) (
 some false) (
 CS N a c i (A3 (b+1)))) (
 c)
def Dg (N:Nat):Option Bool:=
 some true
def CU (N:Nat) (a:AK):Option Bool:=
 CS N a (Dg N) N 0
def CT (N:Nat) (a:AK) (d:Option Bool):Nat→Int→Option Bool
 |0,_=>none
 |t+1,c=>
 cond (decide (c<(↑a.Towns.length:Int))) (
 Option.bind (ix a.Towns c) λb=>
 Option.bind (DO N b.Place (↑a.Places.length:Int)) λg=>
 Option.bind (cond (!g) (some true) (Option.bind (BM N b.Flood) λi=>
 some (!i))) λj=>
 Option.bind (cond j (some true) (Option.bind (BU N b.Lead 0 24) λk=>
 some (!k))) λl=>
 Option.bind (cond l (some true) (Option.bind (BU N b.People 0 1073741824) λm=>
 some (!m))) λn=>
 Option.bind (cond n (some true) (Option.bind (BM N b.Watch) λo=>
 some (!o))) λp=>
 Option.bind (cond p (some true) (Option.bind (BU N b.Quorum 0 128) λq=>
 some (!q))) λs=>
 cond s (
 some false) (
 CT N a d t (A3 (c+1)))) (
 d)
def Ev (N:Nat) (a:AK):Option Bool:=
 CT N a (CU N a) N 0
def DW (N:Nat):Option Bool:=
 some true
def CO (N:Nat) (a:AK) (d:Option Bool):Nat→Int→Option Bool
 |0,_=>none
 |o+1,c=>
 cond (decide (c<(↑a.Gauges.length:Int))) (
 Option.bind (ix a.Gauges c) λb=>
 Option.bind (BU N b.Kind 0 2) λg=>
 Option.bind (cond (!g) (some true) (Option.bind (BU N b.Err 0 1099511627776) λi=>
 some (!i))) λj=>
 Option.bind (cond j (some true) (Option.bind (BU N b.Drift 0 1440) λk=>
 some (!k))) λl=>
 cond l (
 some false) (
 Option.bind (ix ([(↑a.Places.length:Int),a.Cells,(↑a.Links.length:Int)]:List Int) b.Kind) λm=>
 Option.bind (DO N b.Target m) λn=>
 cond (!n) (
 some false) (
 CO N a d o (A3 (c+1))))) (
 d)
def Ee (N:Nat) (a:AK):Option Bool:=
 CO N a (DW N) N 0
def Dh (N:Nat):Option Bool:=
 some true
def CV (N:Nat) (a:AK) (d:Option Bool):Nat→Int→Option Bool
 |0,_=>none
 |u+1,c=>
 cond (decide (c<(↑a.Roads.length:Int))) (
 Option.bind (ix a.Roads c) λb=>
 Option.bind (DO N b.From (↑a.Towns.length:Int)) λg=>
 Option.bind (cond (!g) (some true) (Option.bind (DO N b.To (A3 ((↑a.Towns.length:Int)+(↑a.Shelters.length:Int)))) λi=>
 some (!i))) λj=>
 Option.bind (cond (j||(decide (b.From=b.To))) (some true) (Option.bind (BU N b.Hours 1 24) λk=>
 some (!k))) λl=>
 Option.bind (cond l (some true) (Option.bind (BU N b.Flow 0 1073741824) λm=>
 some (!m))) λn=>
 Option.bind (cond n (some true) (Option.bind (BM N b.Limit) λo=>
 some (!o))) λp=>
 cond p (
 some false) (
 Option.bind (cond ((decide (b.By=(-1)))&&(decide (b.Limit≠0))) (some true) (Option.bind (cond (decide (b.By≠(-1))) (Option.bind (DO N b.By (↑a.Places.length:Int)) λq=>
 some (!q)) (some false)) λs=>
 some s)) λt=>
 cond t (
 some false) (
 CV N a d u (A3 (c+1))))) (
 d)
def Ew (N:Nat) (a:AK):Option Bool:=
 CV N a (Dh N) N 0
def Zx (N:Nat) (a:AK):Option Bool:=
 Option.bind (FQ N a) λv=>
 Option.bind (cond v (Option.bind (Fu N a) λb=>
 some b) (some false)) λc=>
 Option.bind (cond c (Option.bind (FW N a) λd=>
 some d) (some false)) λg=>
 Option.bind (cond g (Option.bind (DG N a) λi=>
 some i) (some false)) λj=>
 Option.bind (cond j (Option.bind (ES N a) λk=>
 some k) (some false)) λl=>
 Option.bind (cond l (Option.bind (C0 N a) λm=>
 some m) (some false)) λn=>
 Option.bind (cond n (Option.bind (Ev N a) λo=>
 some o) (some false)) λp=>
 Option.bind (cond p (Option.bind (Ee N a) λq=>
 some q) (some false)) λs=>
 Option.bind (cond s (Option.bind (Ew N a) λt=>
 some t) (some false)) λu=>
 some u
def D5 (N:Nat) (a:Bool):Option Bool:=
 some a
def BX (N:Nat) (c:AK) (b:Al×(List AF)×(List AF)) (d:Option Bool):Nat→Int→Option Bool
 |0,_=>none
 |F+1,a=>
 cond (decide (a<(↑c.Places.length:Int))) (
 Option.bind (ix b.2.1 a) λz=>
 Option.bind (ix b.2.1 a) λg=>
 Option.bind (Cp N g) λi=>
 Option.bind (cond (!i) (some true) (Option.bind (ix b.2.1 a) λA=>
 Option.bind (ix b.2.1 a) λj=>
 Option.bind (EL N j (⟨0,1125899906842624⟩:AF)) λk=>
 some (!k))) λl=>
 Option.bind (cond l (some true) (Option.bind (ix b.2.2 a) λB=>
 Option.bind (ix b.2.2 a) λm=>
 Option.bind (Cp N m) λn=>
 some (!n))) λo=>
 Option.bind (cond o (some true) (Option.bind (ix b.2.2 a) λC=>
 Option.bind (ix b.2.2 a) λp=>
 Option.bind (EL N p (⟨0,1125899906842624⟩:AF)) λq=>
 some (!q))) λs=>
 Option.bind (cond s (some true) (Option.bind (ix b.1.Vol a) λt=>
 Option.bind (ix c.Places a) λu=>
 some (decide (u.Cap<t.Hi)))) λv=>
 Option.bind (cond v (some true) (Option.bind (ix b.1.Vol a) λw=>
 Option.bind (ix b.2.1 a) λD=>
 Option.bind (ix b.2.1 a) λx=>
 some (decide (x.Hi<w.Hi)))) λy=>
 cond y (
 some false) (
 BX N c b d F (A3 (a+1)))) (
 d)
def Dv (N:Nat) (a:AK) (b:Al) (g:C7) (c:(List Bool)) (d:(List AF)):Option Bool:=
 Option.bind (Ed N) λj=>
 Option.bind (GL N a b g) λl=>
 Option.bind (cond (((!l)||(decide (10<(↑c.length:Int))))||(decide (10<(↑d.length:Int)))) (some true) (Option.bind (Zx N a) λm=>
 some (!m))) λn=>
 Option.bind (cond n (some true) (Option.bind (Ft N a b) λo=>
 some (!o))) λp=>
 cond (p||(decide (16777216≤b.Hour))) (
 some j) (
 Option.bind (G9 N a b g c d) λi=>
 Option.bind (Ft N a i.1) λk=>
 cond ((((!k)||(decide (i.1.Hour≠(A3 (b.Hour+1)))))||(decide ((↑i.2.1.length:Int)≠(↑a.Places.length:Int))))||(decide ((↑i.2.2.length:Int)≠(↑a.Places.length:Int)))) (
 some false) (
 BX N a i (D5 N j) N 0))
end Go.Proofs.YtibidnaedddfdaaGreat
