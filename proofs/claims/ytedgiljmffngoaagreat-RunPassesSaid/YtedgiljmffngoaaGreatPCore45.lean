import Derived.Test.YtedgiljmffngoaaGreatPCore40
import Derived.Test.YtedgiljmffngoaaGreatPCore26
import Derived.Test.YtedgiljmffngoaaGreatPCore30
import Derived.Test.YtedgiljmffngoaaGreatPCore31
import Derived.Lib.AppendStr
import Derived.Lib.UnsafeStr
import Derived.Lib.Builder
import Derived.Laws.Strings3
import Derived.Laws.BytesArg
import Derived.Laws.Externs
namespace Go.Proofs.YtedgiljmffngoaaGreat
set_option linter.all false
open Go.RowKit
def St.lt {S:Nat→Prop}{L:List HP}{h:AS}(k:St S L h):∀b,S b→b<h.size:=k.1
def EX {A:Prop}(e:A:=by
 first
  |assumption
  |exact CG.refl _ _
  |repeat (first
    |assumption
    |refine CG.trans ?_ (by assumption)
    |exact DT.ext (by assumption) (St.lt (by assumption))
    |exact SN.ext (St.lt (by assumption)) (by assumption)
    |exact SX.ext (St.lt (by assumption)) (by assumption) (by assumption)
    |refine CG.trans ?_ (DT.ext (by assumption) (St.lt (by assumption)))
    |refine CG.trans ?_ (SN.ext (St.lt (by assumption)) (by assumption))
    |refine CG.trans ?_ (SX.ext (St.lt (by assumption)) (by assumption) (by assumption)))):A:=e
def Rd.nw {b:Type}{S S':Nat→Prop}{h h':AS}{r:A6 b}{v:Value}{x:b}{L:List HP}(k:Rd S h r v x) (a:St S' L h':=by assumption) (e:CG S h S' h':=by exact EX):Rd S' h' r v x:=k.mono e
def Sl.nw {b:Type}{S S':Nat→Prop}{h h':AS}{r:A6 b}{v:Value}{l:List b}{L:List HP}(k:Sl S h r v l) (a:St S' L h':=by assumption) (e:CG S h S' h':=by exact EX):Sl S' h' r v l:=k.mono' e
def Ms.nw {b:Type}{S S':Nat→Prop}{h h':AS}{r:A6 b}{v:Value}{x:b}{L:List HP}(k:Pt S h r v x) (a:St S' L h':=by assumption) (e:CG S h S' h':=by exact EX):Pt S' h' r v x:=Ms.mono k e
def et {S S' S2:Nat→Prop}{h h' c:AS}(b:CG S' h' S2 c) (a:CG S h S' h':=by exact EX):CG S h S2 c:=a.trans b
inductive Dl:List HP→List HP→Prop
 |refl {L:List HP}:Dl L L
 |keep {H:HP} {L1 L2:List HP}:Dl L1 L2→Dl (H::L1) (H::L2)
 |drop {H:HP} {L1 L2:List HP}:Dl L1 L2→Dl L1 (H::L2)
def Sp.dl {S:Nat→Prop}{h:AS}{g i:List HP}(d:Dl g i):∀{A:Nat→Prop},Sp S i h A→Sp S g h A:=by
 induction d with
 |refl=>exact λk=>k
 |keep _ a=>exact λ⟨F,l,j,c⟩=>⟨F,l,j,a c⟩
 |drop _ a=>exact λ⟨F,_,j,c⟩=>a (Sp.mono c λb m=>m.1)
def St.dl {S:Nat→Prop}{h:AS}{a b:List HP}(k:St S b h) (d:Dl a b):St S a h:=⟨k.1,k.2.dl d⟩
def DR {A:Prop}(e:A:=by
 first
  |assumption
  |refine St.dl (by assumption) ?_
   repeat (first|exact Dl.refl|refine Dl.keep ?_|refine Dl.drop ?_)):A:=e
section
variable {P:Program}{fn:Func}{B:World}{S S':Nat→Prop}{h h':AS}{ex:List (Nat×AP)}{N:AP}{cs:List Code}{m:SM}{post:Value→(Nat→Prop)→AS→Prop}{k t:Nat}{v:Value}
def KG (kp:post v S' h') (b:fn.results= #[.tmp t]) (c:lk m t=some v) (e:CG S h S' h'):WF P ex (Rt P fn B S h post) (.ret::cs) N B h' (k,[]) m:=B0 λa w d g=>UC d g b c e kp
end
def CE {p:Prop}(e:true=false):p:=by cases e
section
variable {P:Program}{ops:Array Oper}{n:FN}{m:SM}{rest:List Oper}{d:Nat}{ty:TypeId}{pos:String}{af:Array Edge}{X Y:Operand}{f:Nat}{xs:Array Operand}{tys:Array TypeId}{args vs:List Value}{first cap:Array Value}{h:AS}{B:World}{S:Nat→Prop}{L:List HP}
variable {β ρ:Type}{F:Option β}{K:β→Option ρ}{r:ρ}
def A5 {Q:Act→Prop}{v:β→Value}{Z:β→(Nat→Prop)→AS→Prop}(E:F.bind K=some r) (i:BV m X=some (.func (.func f) first cap)) (a:xs.toList.mapM (BV m)=some args) (c:first.toList++args++cap.toList=vs) (g:BI P f=true) (hd:Nat.blt d n.1=true)
  (j:∀y,F=some y→∀h',DT h h'→B6 P f vs.toArray (λb=>b<h'.size) h' (λu S' l=>u=v y∧Z y S' l))
  (k:∀y,K y=some r→QF P ops (Cl B h) Q rest n ((d,v y)::m)):QF P ops (Cl B h) Q (⟨some d,.call ⟨.value X,xs,tys⟩,ty,pos,af,none⟩::rest) n m:=by
 obtain⟨y,o,E⟩:=bd E;exact K3 i a c g hd (j y o) (k y E)
def B4 {Q:Act→Prop}{v:β→Value}{Ψ:β→Prop}{Z:β→(Nat→Prop)→AS→Prop}(E:F.bind K=some r) (i:BV m X=some (.func (.func f) first cap)) (a:xs.toList.mapM (BV m)=some args) (c:first.toList++args++cap.toList=vs) (g:BI P f=true) (hd:Nat.blt d n.1=true)
  (j:∀y,F=some y→∀h',DT h h'→B6 P f vs.toArray (λb=>b<h'.size) h' (λu S' l=>u=v y∧Ψ y∧Z y S' l))
  (k:∀y,K y=some r→Ψ y→QF P ops (Cl B h) Q rest n ((d,v y)::m)):QF P ops (Cl B h) Q (⟨some d,.call ⟨.value X,xs,tys⟩,ty,pos,af,none⟩::rest) n m:=by
 obtain⟨y,o,E⟩:=bd E;exact PN i a c g hd (j y o) (k y E)
def BQ {Q:Exit→Act→World→Prop}{a:β→Value→(Nat→Prop)→AS→Prop}(E:F.bind K=some r) (i:BV m X=some (.func (.func f) first cap)) (b:xs.toList.mapM (BV m)=some args) (c:first.toList++args++cap.toList=vs) (g:BI P f=true) (hd:Nat.blt d n.1=true) (j:∀y,F=some y→B6 P f vs.toArray S h (a y))
  (k:∀y,K y=some r→∀v S' h',CG S h S' h'→a y v S' h'→LF P ops Q rest B h' n ((d,v)::m)):LF P ops Q (⟨some d,.call ⟨.value X,xs,tys⟩,ty,pos,af,none⟩::rest) B h n m:=by
 obtain⟨y,l,E⟩:=bd E;exact Ed i b c g hd (j y l) (k y E)
def Cf {Q:Exit→Act→World→Prop}{a:β→Value→(Nat→Prop)→AS→Prop}(E:F.bind K=some r) (j:BV m X=some (.func (.func f) first cap)) (c:xs.toList.mapM (BV m)=some args) (g:first.toList++args++cap.toList=vs) (i:BI P f=true) (hd:Nat.blt d n.1=true) (l:St S L h) (o:∀y,F=some y→B6 P f vs.toArray (λb=>b<h.size) h (a y))
  (k:∀y,K y=some r→∀v S' h',St S L h'→CG S h S h'→CG (λb=>b<h.size) h S' h'→a y v S' h'→LF P ops Q rest B h' n ((d,v)::m)):LF P ops Q (⟨some d,.call ⟨.value X,xs,tys⟩,ty,pos,af,none⟩::rest) B h n m:=by
 obtain⟨y,p,E⟩:=bd E;exact GV j c g i hd l (o y p) (k y E)
def A4 {o:Type}{C:World→Prop}{Q:Act→Prop}{a:A6 o}{l:List o}{K:o→Option ρ}{t e:Nat}{v:Value}{i:Int}(E:(Go.Proofs.YtedgiljmffngoaaGreat.ix l i).bind K=some r) (c:BV m X=some v) (g:BV m Y=some (.int .i64 i)) (k0:Sl S h a v l) (j:Pp P t e a.sz=true) (hd:Nat.blt d n.1=true)
  (k:∀x,K x=some r→∀q,Pt S h a q x→QF P ops C Q rest n ((d,q)::m)):QF P ops C Q (⟨some d,.indexAddr t X Y,ty,pos,af,none⟩::rest) n m:=by
 obtain⟨x,b,E⟩:=bd E;exact NM c g k0 j b hd (k x E)
end
def DU {P:Program}{ops:Array Oper}{n:FN}{m:SM}{rest:List Oper}{ty:TypeId}{pos:String}{af:Array Edge}{X Y:Operand}{h:AS}{B:World}{S:Nat→Prop}{L c:List HP}{Q:Exit→Act→World→Prop}{v:Value}{T d:TypeId}{b:Nat}{cs vs:List Value}{sz:Nat}{ag:Bool}(i:BV m X=some (.pointer (some ⟨b,0,none⟩))) (j:BV m Y=some v) (l:v.cells=vs.toArray) (o:∀u∈vs,u.oneCell'=true)
  (p:Jj P T sz ag=true) (a:vs.length=sz) (q:St S L h) (r:Mo L (Bx b d cs) (Bx b d vs) c) (s:Nat.beq cs.length sz=true)
  (k:∀h',St S c h'→CG S h S h'→LF P ops Q rest B h' n m):LF P ops Q (⟨none,.store T X Y,ty,pos,af,none⟩::rest) B h n m:=by
 have g:=Aah s;refine Tg i j l o p a q r (by simp [g]) ?_ k;unfold IZ;simp [g,a]
def ON {A:Prop}(e:A:=by
 repeat (first
  |exact M8
  |refine CM rfl ?_
  |refine CM (Sl.one (by assumption)) ?_)):A:=e
def PA.i {R:AR}{h:AS}{K:SM→Prop}{j d:Nat}{a:List (Nat×Nat)}{fr:SM}(k:∀u,R j u h→PA R h K a ((d,u)::fr)):PA R h K ((j,d)::a) fr:=k
def yX {R:AR}{h:AS}{K:SM→Prop}{fr:SM}(k:K fr):PA R h K [] fr:=k
def tB {a b:Prop}(k:a∧b):a∧b:=k
def ET {A:Prop}(e:A:=by
 intro b c o;have a:=DT.st o (by assumption)
 repeat (refine PA.i (λu f=>?_);first|(obtain ⟨rfl,_⟩:=tB f)|cases f)
 refine yX ?_;refine AU ?_
 first
  |exact BB (DT.refl _) rfl
  |exact BB (DT.refl _) ⟨rfl,(by first|assumption|exact iq rfl|exact BF _)⟩):A:=e
def St.ea {S:Nat→Prop}{L:List HP}{h:AS}(k:St S L h):CG S h (λb=>b<h.size) h:=⟨λb a=>k.1 b a,λ_ _=>rfl,Aal _⟩
def BC {P:Program}{ops:Array Oper}{Q:Exit→Act→World→Prop}{B:World}{n:FN}{d:Nat}{R:Value→AS→Prop}{h:AS}{m:SM}{v:Value}(r:R v h):LF P ops (Exit.then (KS B n d R h m) Q) [] B h n ((d,v)::m):=BB (DT.refl _) r
def Rd.sn {d:Type}{S:Nat→Prop}(h0:AS) {a:AS}{r:A6 d}{v:Value}{x:d}(k:Rd S a r v x):Rd (SN S h0 a) a r v x:=k.mono ⟨λb c=> .inl c,λ_ _=>rfl,Aal _⟩
def Sl.sn {d:Type}{S:Nat→Prop}(h0:AS) {a:AS}{r:A6 d}{v:Value}{x:List d}(k:Sl S a r v x):Sl (SN S h0 a) a r v x:=k.mono' ⟨λb c=> .inl c,λ_ _=>rfl,Aal _⟩
def oP {S:Nat→Prop}{L:List HP}{h a c:AS}(k:St S L h) (d:DT h a) (g:DT a c):CG S a S c:=g.ext λb i=>Aak (k.1 b i) d.siz
def MO {A:Prop}(e:A:=by
 intro i v d g c b a
 repeat (first
  |exact False.elim a
  |(rcases i with _|i;focus first
   |exact a
   |exact Ms.mono a (oP (by assumption) c b)
   |exact Sl.mono' a (oP (by assumption) c b)
   |exact Rd.mono a (oP (by assumption) c b)
   |exact⟨Sl.mono' a.1 (SN.mono (St.lt (by assumption)) c b),a.2⟩
   |exact a.mono b
   |exact Sl.mono' a (SN.mono (St.lt (by assumption)) c b)
   |exact Rd.mono a (SN.mono (St.lt (by assumption)) c b)))):A:=e
def RT {A:Prop}(e:A:=by
 refine AU ?_;cases E
 first
  |exact KG ⟨rfl,DR⟩ rfl rfl EX
  |exact KG ⟨rfl,(by first|assumption|exact iq rfl|exact BF _),DR⟩ rfl rfl EX):A:=e
def subD (s:ByteArray) (i:Int):Option ByteArray:=if 0≤i∧i≤s.size then some (s.extract i.toNat s.size) else none
def Xm {s t:ByteArray}{i:Int}(h:subD s i=some t):t.size≤s.size:=by
 unfold subD at h;split at h
 ·cases h;simp only[ByteArray.size_extract];omega
 ·cases h
def tD (l:List Int):Option ByteArray:=if l.length≤maxLen then some (strOfNums l) else none
def bT {l:List Int}{s:ByteArray}(h:tD l=some s):s.size≤maxLen:=by
 unfold tD at h;split at h
 ·cases h;rw[strOfNums_size];assumption
 ·cases h
def gO {k:IntKind}{x:Int}(h:k.has x):k.wrap x=x:=by
 have:=Ct k x;cases k<;>simp only[IntKind.has,IntKind.min,IntKind.max,IntKind.signed,IntKind.bits,IntKind.wrap] at* <;>simp at* <;>omega
def xD:(0:Int)≤0∧(0:Int)≤1:=⟨by decide,by decide⟩
section
variable {P:Program}{ops:Array Oper}{C:World→Prop}{Q:Act→Prop}{n:FN}{m:SM}{rest:List Oper}
variable {d:Nat}{ty:TypeId}{pos:String}{af:Array Edge}{X Y:Operand}{t t1 t2:TypeId}{v:Value}{S:Nat→Prop}{L:List HP}{h:AS}{B:World}
def QF.subD {s u:ByteArray}{i:Int}{g:IntKind}(l:BV m X=some (.string s)) (o:BV m Y=some (.int g i)) (j:P.underlying t=some .string) (b:subD s i=some u) (hd:Nat.blt d n.1=true) (k:QF P ops C Q rest n ((d,.string u)::m)):
  QF P ops C Q (⟨some d,.slice t X (some Y) none none,ty,pos,af,none⟩::rest) n m:=λa c=>by
 unfold Proofs.YtedgiljmffngoaaGreat.subD at b;split at b
 ·rename_i h0;cases b;exact Dx c hd (λw _=>by simp [execOp,c.eval l,c.eval o,run_sliceAt_string w t _ _ _ _ j,run_slice_string_from_if w t s g i j,h0,Result.andThen]) k
 ·cases b
def fU {A:Nat→Prop}{l:List Int}{s:ByteArray}{e:TypeId}(G:CK C h) (H:∀b,A b→b<h.size) (g:BV m X=some v) (k0:Sl A h (A6.intk .u8) v l) (t:P.underlying t1=some (.slice e)) (y:P.underlying e=some (.int .u8)) (z:P.underlying t2=some .string) (i:tD l=some s) (hd:Nat.blt d n.1=true)
  (k:QF P ops C Q rest n ((d,.string s)::m)):QF P ops C Q (⟨some d,.convert t1 t2 X,ty,pos,af,none⟩::rest) n m:=λa o=>by
 unfold tD at i;split at i
 ·cases i;rcases k0 with ⟨rfl,rfl⟩|⟨ad,cap,rfl,h4,h5,h6⟩
  ·exact Dx o hd (λw _=>by simp [execOp,o.eval g,run_convert_bytes_nil w t1 e t y 0 0 t2 z];rfl) k
  ·refine Dx o hd (λw I=>?_) k;have J:(loadCells ad l.length).run P w= .ok (l.map (Value.int .u8)).toArray w:=by
    have:=run_loadCells_list (P:=P) w ad (l.map (Value.int .u8)) (λj u K=>by
     obtain⟨x,g,rfl⟩:=by simpa using K
     obtain⟨B,cs,⟨W,M,Y,D,U⟩,rfl,Z⟩:=h6 j x g;cases M;have F:=U 0 (by simp);rw[Iz];obtain⟨p,q,ss⟩:=ad;simp only at B;subst B;have c:(⟨p,q,none⟩:Addr).add j=⟨p,q+j,none⟩:=by unfold Addr.add;split<;>simp_all
     rw[c];have V:j*(A6.intk IntKind.u8).sz=j:=Abz j;simp only[Nat.add_zero,V] at D F;rw[P1 (a:=⟨p,q+j,none⟩) (G w I _ (H _ D))];exact F)
    simpa using this
   have hq:ByteArray.empty.data++(l.map λn=>UInt8.ofNat n.toNat).toArray=(l.map λn=>UInt8.ofNat n.toNat).toArray:=by simp
   simp [execOp,o.eval g,run_convert_bytes_string w t1 t2 e (some ad) l.length cap t y z,run_bytesToString w ad l.length cap l J,foldl_push_bytes];rfl
 ·cases i
def VN {α}{r:A6 α}{p:Value}{x:α}(c:BV m X=some p) (k0:Pt S h r p x) (hd:Nat.blt d n.1=true) (k:QF P ops C Q rest n ((d,p)::m)):QF P ops C Q (⟨some d,.nilCheck X,ty,pos,af,none⟩::rest) n m:=by
 obtain⟨cs,⟨g,rfl,_⟩,_⟩:=k0;exact λa b=>Dx b hd (λw _=>by simp [execOp,b.eval c]) k
def oD {a:Act}{w:World}{d:Option Nat}{f:Nat}{xs:Array Operand}{c:Array TypeId}
  {b:List Value} (i:Fr n a m) (j:BV m X=some (.func (.func f) #[] #[])) (g:xs.toList.mapM (BV m)=some b) (k:(callFunc f b.toArray).run P w= .ok (.value v) w):
  (execOp a.eval ⟨d,.call ⟨.value X,xs,c⟩,ty,pos,af,none⟩).run P w= .ok (.value v) w:=by
 simp only[execOp,resolve,i.eval j,Deferred.ofValue,WS i g];simp [invoke,k]
def fE {f:Nat}{xs:Array Operand}{c:Array TypeId}{b:List Value}(j:BV m X=some (.func (.func f) #[] #[])) (g:xs.toList.mapM (BV m)=some b) (l:∀w,(callFunc f b.toArray).run P w= .ok (.value v) w) (hd:Nat.blt d n.1=true)
  (k:QF P ops C Q rest n ((d,v)::m)):QF P ops C Q (⟨some d,.call ⟨.value X,xs,c⟩,ty,pos,af,none⟩::rest) n m:=λa i=>
 Dx i hd (λw _=>oD i j g (l w)) k
end
def LE (x y c:Int):Int×Int:=((x+y+c)%18446744073709551616,(x+y+c)/18446744073709551616)
def LD (x y c:Int):Int×Int:=((x-y-c)%18446744073709551616,if x<y+c then 1 else 0)
def Y9 {x:Int}:IntKind.has .u64 x↔0≤x∧x≤18446744073709551615:=by simp [IntKind.has,IntKind.min,IntKind.max,IntKind.signed,IntKind.bits]
def Z2 {x y c:Int}(a:IntKind.has .u64 x) (b:IntKind.has .u64 y) (d:0≤c∧c≤1):IntKind.has .u64 (LE x y c).1∧IntKind.has .u64 (LE x y c).2∧0≤(LE x y c).2∧(LE x y c).2≤1:=by
 rw[Y9] at *;unfold LE;simp only;rw[Y9];omega
def Z1 {x y c:Int}(a:IntKind.has .u64 x) (b:IntKind.has .u64 y) (d:0≤c∧c≤1):IntKind.has .u64 (LD x y c).1∧IntKind.has .u64 (LD x y c).2∧0≤(LD x y c).2∧(LD x y c).2≤1:=by
 rw[Y9] at *;unfold LD;simp only;rw[Y9];split<;>omega
def wL:Array Value→Sem Value:=λa=>do
 let (x,y,c) ←Extern.MathBitsCarry.three "Add64" a
 pure (Extern.MathBitsCarry.pair ((x+y+c)%Extern.MathBitsCarry.m64) ((x+y+c)/Extern.MathBitsCarry.m64))
def tW:Array Value→Sem Value:=λa=>do
 let (x,y,b) ←Extern.MathBitsCarry.three "Sub64" a
 pure (Extern.MathBitsCarry.pair ((x+Extern.MathBitsCarry.m64-y-b)%Extern.MathBitsCarry.m64) (if x<y+b then 1 else 0))
def bV {P:Program}(x y c:Nat) (a:c≤1) (w:World):(wL #[.int .u64 x,.int .u64 y,.int .u64 c]).run P w= .ok (.tuple #[.int .u64 (((x+y+c)%18446744073709551616:Nat):Int),.int .u64 (((x+y+c)/18446744073709551616:Nat):Int)]) w:=by
 have:c=0∨c=1:=by omega
 rcases this with rfl|rfl<;>rfl
def bU {P:Program}(x y c:Nat) (a:c≤1) (w:World):(tW #[.int .u64 x,.int .u64 y,.int .u64 c]).run P w= .ok (.tuple #[.int .u64 (((x+18446744073709551616-y-c)%18446744073709551616:Nat):Int),.int .u64 ((if x<y+c then 1 else 0:Nat):Int)]) w:=by
 have:c=0∨c=1:=by omega
 rcases this with rfl|rfl<;>rfl
section
variable {P:Program}{f:Nat}{fn:Func}
def Vg (d:P.funcs[f]? =some fn) (g:(fn.name== "runtime.NumGoroutine")=false) (i:fn.body.isNone=true) (j:Extern.findNext fn=none) (k:Extern.find fn=some wL):
  ∀x y c:Int,IntKind.has .u64 x→IntKind.has .u64 y→(0≤c∧c≤1)→∀w,(callFunc f #[.int .u64 x,.int .u64 y,.int .u64 c]).run P w= .ok (.value (.tuple #[.int .u64 (LE x y c).1,.int .u64 (LE x y c).2])) w:=λx y c a b l w=>by
 rw[Y9] at a b;obtain⟨x,rfl⟩:=Ade a.1;obtain⟨y,rfl⟩:=Ade b.1;obtain⟨c,rfl⟩:=Ade l.1;rw[run_callFunc_extern d g i j k,bV x y c (by omega)];simp only[Result.andThen,LE];congr 5<;>omega
def Vf (d:P.funcs[f]? =some fn) (g:(fn.name== "runtime.NumGoroutine")=false) (i:fn.body.isNone=true) (j:Extern.findNext fn=none) (k:Extern.find fn=some tW):
  ∀x y c:Int,IntKind.has .u64 x→IntKind.has .u64 y→(0≤c∧c≤1)→∀w,(callFunc f #[.int .u64 x,.int .u64 y,.int .u64 c]).run P w= .ok (.value (.tuple #[.int .u64 (LD x y c).1,.int .u64 (LD x y c).2])) w:=λx y c a b l w=>by
 rw[Y9] at a b;obtain⟨x,rfl⟩:=Ade a.1;obtain⟨y,rfl⟩:=Ade b.1;obtain⟨c,rfl⟩:=Ade l.1;rw[run_callFunc_extern d g i j k,bU x y c (by omega)];simp only[Result.andThen,LD];have m:(((x+18446744073709551616-y-c)%18446744073709551616:Nat):Int)=((x:Int)-y-c)%18446744073709551616:=by omega
 have n:((if x<y+c then 1 else 0:Nat):Int)=if (x:Int)<y+c then 1 else 0:=by split<;>split<;>omega
 rw[m,n]
end
section
variable {P:Program}{ex:List (Nat×AP)}{RR N:AP}{cs:List Code}{B:World}{h:AS}{n:FN}{m m0:SM}
end
section
variable {P:Program}{ops:Array Oper}{C:World→Prop}{Q:Act→Prop}{n:FN}{m:SM}{rest:List Oper}{a:Act}
variable {d:Nat}{ty:TypeId}{pos:String}{af:Array Edge}{X Y:Operand}{t t1 t2:TypeId}{kd:IntKind}{v:Value}{S:Nat→Prop}{h:AS}
end
def bL (s:ByteArray):List Int:=s.data.toList.map λb=>(b.toNat:Int)
def Mm (s:ByteArray):(bL s).length=s.size:=by simp [bL]
def mP (g j:Nat):(⟨g,0,none⟩:Addr).add j=⟨g,j,none⟩:=by unfold Addr.add;split<;>simp_all
def sA (s t:ByteArray):bL (s++t)=bL s++bL t:=by simp [bL,ByteArray.data_append]
def jO (s:ByteArray) (c:Int) (h:IntKind.has .u8 c):bL (s.push (UInt8.ofNat c.toNat))=bL s++[c]:=by
 have:0≤c∧c≤255:=by simpa [IntKind.has,IntKind.min,IntKind.max,IntKind.signed,IntKind.bits] using h
 have e:(((UInt8.ofNat c.toNat).toNat:Nat):Int)=c:=by rw[UInt8.toNat_ofNat'];omega
 simp only[bL,ByteArray.push,Array.toList_push,Abt,Aaz,List.map_nil,e]
abbrev RB:A6 Int:=A6.intk .u8
def UD {S:Nat→Prop}{h:AS}:∀l:List UInt8,LQ S h RB (l.map λb=>Value.int .u8 b.toNat) (l.map λb=>(b.toNat:Int))
 |[]=>rfl
 |b::l=>⟨[.int .u8 b.toNat],l.map λb=>Value.int .u8 b.toNat,rfl,⟨rfl,by have:=b.toNat_lt;simp [IntKind.has,IntKind.min,IntKind.max,IntKind.signed,IntKind.bits];omega⟩,UD l⟩
def Xu {S:Nat→Prop}{h:AS}(t:ByteArray):LQ S h RB (Lib.strCells t) (bL t):=UD t.data.toList
section
variable {P:Program}{ops:Array Oper}{Q:Exit→Act→World→Prop}{n:FN}{m:SM}{rest:List Oper}{a:Act}
variable {d:Nat}{ty:TypeId}{pos:String}{af:Array Edge}{X Y:Operand}{B w:World}{h:AS}{S:Nat→Prop}{L L2:List HP}{v:Value}
def Vz {T U e H:Nat}{z:List Value}{l:List Int}{t:ByteArray}{F:Nat→Prop}(he:OR P T=some (e,1,H,z)) (p:P.underlying U=some .string)
  (M:l.length+t.size≤maxLen) (Q:Jh (l.length+t.size) H) (c:Wd B h w) (k:(OS RB e v l).holds S F h) (hS:∀b,S b→b<h.size∧¬F b):
  ∃v' w' h' F',(Builtin.append_ #[T,U] ty #[v,.string t]).run P w= .ok v' w'∧Wd B h' w'∧h.size≤h'.size∧(OS RB e v' (l++bL t)).holds S F' h'∧(∀b,F' b→F b∨(h.size≤b∧b<h'.size))∧(∀b,b<h.size→¬F b→h'[b]? =h[b]?)∧(v= .slice none 0 0→t.size=0→v'= .slice none 0 0):=by
 obtain⟨i,D,V,W,h3,h4,h5,h6,h7,h8⟩:=Kz he;have X:l.length+t.size≤9223372036854775807:=by unfold maxLen at M;omega
 have ac:D.cells.size=1:=by rw[h6];simpa using h7
 have d:(bL t).length=t.size:=Mm t;have q:(Lib.strCells t).length=t.size:=Lib.strCells_length t;have s:∀(m:List Value) (o:Nat),LQ S h RB m l→o<l.length+t.size→
   (OS RB e (.slice (some ⟨h.size,0,none⟩) (l.length+t.size) (grownCap w (l.length+t.size) o e)) (l++bL t)).holds S (λb=>b=h.size)
    (h.push (.cells (m.toArray++(Lib.strCells t).toArray++Builtin.zeroCells D.cells (grownCap w (l.length+t.size) o e-(l.length+t.size))) e)):=by
  intro m o ho ag;have ae:=grownCap_ge w (l.length+t.size) o e;refine .inr ⟨h.size,_,_,by rw[Aas,d],λ_=>Abx,Kn _ _,by rw[Aas,d];exact ae,grownCap_le_maxLen w _ o e M,?_,?_⟩
  ·have:=ho.len;simp only[Array.size_append,Acw,size_zeroCells,ac,this,q];show l.length*1+t.size+_*1=_*1
   omega
  ·have y:(l++bL t).length*RB.sz=(m++Lib.strCells t).length:=by
    rw[Aas,Aas,ho.len,q,d];show(l.length+t.size)*1=l.length*1+t.size;omega
   rw[y];simp only[Array.toList_append];rw[Acu];exact(ho.append (Xu t)).mono (λ_ x=>x) λb a=>Gp _ _ _ (hS b a).1
 rcases k with ⟨⟨I,rfl⟩,rfl,hF⟩|⟨g,cap,cur,rfl,hF,hg,hlc,hcm,hcs,hrd⟩
 ·by_cases Y:t.size=0
  ·have hn:Lib.strCells t=[]:=Adc (by rw[q];exact Y);have a:bL t=[]:=Adc (by rw[d];exact Y);refine⟨.slice I 0 0,w,h,F,?_,c,Aal _,.inl ⟨⟨I,rfl⟩,by rw[a];rfl,hF⟩,λb a=> .inl a,λ_ _ _=>rfl,λe _=>e⟩;have hf:=Lib.run_firstCells_string (P:=P) w 1 t;rw[Y,hn] at hf;cases I<;>simp [Builtin.append_,run_underlying V,run_underlying p,sizeOf,typeInfo,W,h4,Builtin.lenOf,Y,hf,storeCells]
  ·have G:Jh t.size H:=by simpa using Q
   have ah:=G.le;have e1:(t.data.map λb=>Value.int .u8 b.toNat)=(Lib.strCells t).toArray:=by
    apply Array.ext';simp [Lib.strCells]
   have Z:(Builtin.append_ #[T,U] ty #[.slice I 0 0,.string t]).run P w= .ok (.slice (some ⟨w.heap.size,0,none⟩) t.size (grownCap w t.size 0 e)) (w.drew.alloc (.cells ((Lib.strCells t).toArray++Builtin.zeroCells D.cells (grownCap w t.size 0 e-t.size)) e)):=by
    cases I with
    |none=>
     have:=run_append_nil_string (P:=P) w T U ty e i D V p W h3 t (by omega) (by simp at X;omega) (by rw[h5];omega);rw[e1] at this;exact this
    |some I=>
     have hq:=Lib.run_append_grow_string (P:=P) w T U ty e i D V p W h3 I 0 0 [] (by simp) (λj u p=>by simp at p) t (by omega) (by omega) (N7 (by omega) (by rw[h5];simpa using G));simpa using hq
   have C:=s [] 0 rfl (by simp;omega);simp only[List.length_nil,Aa7,Aav,Array.empty_append] at C;refine⟨_,_,h.push (.cells ((Lib.strCells t).toArray++Builtin.zeroCells D.cells (grownCap w t.size 0 e-t.size)) e),λb=>b=h.size,Z,⟨?_,c.os,c.tape,c.out⟩,by simp,?_,λb a=> .inr (by subst a;simp),λb a _=>Gp _ _ _ a,λ_ e=>absurd e Y⟩
   ·show(w.heap.push _)=_;rw[c.heap]
   ·rw[c.heap];exact C
 ·have aa:w.heap[g]? =some (.cells cur e (0,0)):=by rw[c.heap];exact hg
  have af:cur.size=cap:=by have:cur.size=cap*1:=hcs;omega
  have n:LQ S h RB (cur.toList.take l.length) l:=by have:=hrd;rwa [show l.length*RB.sz=l.length from Abz _] at this
  by_cases A:l.length+t.size≤cap
  ·have Z:=Lib.run_append_room_string (P:=P) w T U ty e i V p W h4 g l.length cap cur aa t A (by omega);obtain⟨h',e1,e2,e3,e4⟩:=Qf w g cur (c':=(cur.toList.take l.length++Lib.strCells t++cur.toList.drop (l.length+t.size)).toArray) e aa;rw[c.heap] at e2 e4;refine⟨_,_,h',F,Z,⟨e1,c.os,c.tape,c.out⟩,by omega,.inr ⟨g,cap,_,by rw[Aas,d],hF,e3,by rw[Aas,d];exact A,hcm,?_,?_⟩,λb a=> .inl a,λb _ a=>e4 b λe=>a ((hF b).2 e),λe=>by cases e⟩
   ·simp only[Acw,Aas,Abl,Acb,Adl,q];show _=cap*1
    omega
   ·have J:=n.len;have ab:(cur.toList.take l.length).length=l.length:=by rw[J];exact Abz _
    have y:(l++bL t).length*RB.sz=(cur.toList.take l.length++Lib.strCells t).length:=by
     rw[Aas,Aas,ab,q,d];exact Abz _
    rw[y,Acu];exact(n.append (Xu t)).mono (λ_ x=>x) λb a=>e4 b λe=>(hS b a).2 ((hF b).2 e)
  ·have K:∀j u,(cur.toList.take l.length)[j]? =some u→w.cell? ((⟨g,0,none⟩:Addr).add j)=some u:=λj u p=>by
    rw[mP,Iz,c.heap];have hj:j<l.length:=by
     have:=(Aai.1 p).1;simp at this;omega
    rw[Abr hj] at p;simp only[IQ,hg,Ac4,Ab4,Ab5];simpa using p
   have J:=n.len;have Z:=Lib.run_append_grow_string (P:=P) w T U ty e i D V p W h3 ⟨g,0,none⟩ l.length cap _ (by rw[h4];exact J) K t (by omega) (by omega) (N7 (by omega) (by rw[h5];exact Q));have C:=s _ cap n (by omega);refine⟨_,_,h.push (.cells ((cur.toList.take l.length).toArray++(Lib.strCells t).toArray++Builtin.zeroCells D.cells (grownCap w (l.length+t.size) cap e-(l.length+t.size))) e),λb=>b=h.size,Z,⟨?_,c.os,c.tape,c.out⟩,by simp,?_,λb a=> .inr (by subst a;simp),λb a _=>Gp _ _ _ a,λe=>by cases e⟩
   ·show(w.heap.push _)=_;rw[c.heap]
   ·rw[c.heap];exact C
def lB {T U e u:Nat}{z:List Value}{l:List Int}{t:ByteArray}{LL:Value→List HP}(hx:BV m X=some v) (hy:BV m Y=some (.string t)) (he:OR P T=some (e,1,u,z)) (Z:P.underlying U=some .string)
  (y:l.length+t.size≤maxLen) (A:Jh (l.length+t.size) u) (hd:Nat.blt d n.1=true) (s:St S L h) (rp:∀i,Mo L (OS RB e v l) (OS RB e i (l++bL t)) (LL i))
  (k:∀i h',St S (LL i) h'→CG S h S h'→(v= .slice none 0 0→t.size=0→i= .slice none 0 0)→LF P ops Q rest B h' n ((d,i)::m)):
  LF P ops Q (⟨some d,.call ⟨.builtin .append,#[X,Y],#[T,U]⟩,ty,pos,af,none⟩::rest) B h n m:=by
 intro a w g hw;refine wpList_plain rfl λK hK=>?_;unfold Oper.wp;obtain⟨M,p,_⟩:=(rp v).pick;obtain⟨F,g1,g2,_⟩:=Sp.pick p s.2;obtain⟨i,w',h',F',e1,e2,e3,e4,e5,e6,e7⟩:=Vz (ty:=ty) he Z y A hw g1 λb c=>⟨s.1 b c,λg=>(g2 b g).2 c⟩
 have C:(execOp a.eval ⟨some d,.call ⟨.builtin .append,#[X,Y],#[T,U]⟩,ty,pos,af,none⟩).run P w= .ok (.value i) w':=by
  simp [execOp,resolve,invoke,builtin,g.eval hx,g.eval hy,e1]
 rw[C];obtain⟨M,p,q⟩:=(rp i).pick;have D:St S (LL i) h'∧CG S h S h':=by
  obtain⟨G,aa,j,ab⟩:=Sp.pick p s.2;obtain⟨ai,aj,H,ac,I,ad,o,ae,J,V,_⟩:=Vz (ty:=ty) he Z y A hw aa λb c=>⟨s.1 b c,λg=>(j b g).2 c⟩
  rw[e1] at I;injection I with ev ew
  subst ev;subst ew;have hh:H=h':=by rw[←ad.heap,e2.heap]
  subst hh;have W:∀b,S b→H[b]? =h[b]? :=λb c=>V b (s.1 b c) λg=>(j b g).2 c;refine⟨⟨λb c=>Aak (s.1 b c) o,MR q ⟨ac,ae,λb c=>?_,?_⟩⟩,λ_ x=>x,W,o⟩
  ·rcases J b c with g|⟨hl,Z⟩
   ·exact⟨Aak (j b g).1 o,(j b g).2⟩
   ·exact⟨Z,λag=>absurd (s.1 b ag) (by omega)⟩
  ·refine Sp.ext ab (λ_ x=>x) (λb c=>?_) λb c=>⟨⟨Aak c.1.1 o,c.1.2⟩,λah=>?_⟩
   ·rcases c with c|c
    ·exact W b c
    ·exact V b c.1.1 c.2
   ·rcases J b ah with g|⟨hl,_⟩
    ·exact c.2 g
    ·exact absurd c.1.1 (by omega)
 exact hK _ _ (k i h' D.1 D.2 e7 _ w' (g.put hd _) e2)
end
def Vc (b T E:Nat) (s:ByteArray):HP where
 holds:=λS F h=>∃p v a d,(p= .pointer none∨p= .pointer (some ⟨b,0,none⟩))∧(s.size=0→v= .slice none 0 0)∧(Bx b T [p,v]).holds S a h∧(OS RB E v (bL s)).holds S d h∧(∀c,a c→F c)∧(∀c,d c→F c∧¬a c)
 loc:=by
  rintro S S' F h h' ⟨p,v,a,d,m,n,o,q,i,j⟩ k l;exact⟨p,v,a,d,m,n,HP.loc _ o k λb g=>l b (g.imp_right (i b)),HP.loc _ q k λb g=>l b (g.imp_right λx=>(j b x).1),i,j⟩
section
variable {P:Program}{ops:Array Oper}{Q:Exit→Act→World→Prop}{n:FN}{m:SM}{rest:List Oper}
variable {d:Nat}{ty:TypeId}{pos:String}{af:Array Edge}{X Y:Operand}{B w:World}{h:AS}{S:Nat→Prop}{L L2:List HP}{p v:Value}{b T E:Nat}{s:ByteArray}
def St.bldO (j:St S (Vc b T E s::L) h):∃p v,(p= .pointer none∨p= .pointer (some ⟨b,0,none⟩))∧(s.size=0→v= .slice none 0 0)∧St S (Bx b T [p,v]::OS RB E v (bL s)::L) h:=by
 obtain⟨k,F,⟨p,v,l,m,n,o,q,t,g,d⟩,i,u⟩:=j;exact⟨p,v,n,o,k,l,q,λc a=>i c (g c a),m,t,λc a=>⟨i c (d c a).1,(d c a).2⟩,Sp.mono u λc a=>⟨⟨a.1,λx=>a.2 (g c x)⟩,λx=>a.2 (d c x).1⟩⟩
def VJ (j:p= .pointer none∨p= .pointer (some ⟨b,0,none⟩)) (k:s.size=0→v= .slice none 0 0) (l:St S (Bx b T [p,v]::OS RB E v (bL s)::L) h):St S (Vc b T E s::L) h:=by
 obtain⟨m,d,n,o,g,q,i,t⟩:=l;exact⟨m,λc=>d c∨g c,⟨p,v,d,g,j,k,n,q,λc x=> .inl x,λc x=>⟨.inr x,(i c x).2⟩⟩,λc x=>x.elim (o c) λx=>(i c x).1,Sp.mono t λc a=>⟨a.1.1,λx=>x.elim a.1.2 a.2⟩⟩
def fZ (c:D1 P T=some [.pointer none,.slice none 0 0]) (E:Nat) (hd:Nat.blt d n.1=true) (g:St S L h) (k:∀b h',St S (Vc b T E ByteArray.empty::L) h'→CG S h S h'→LF P ops Q rest B h' n ((d,.pointer (some ⟨b,0,none⟩))::m)):LF P ops Q (⟨some d,.alloc T,ty,pos,af,none⟩::rest) B h n m:=
 CP c hd (g.nil RB E) λb h' a e=>k b h' (VJ (.inl rfl) (λ_=>rfl) a) e
def Yp {C:World→Prop}{Q:Act→Prop}{o:Option Addr}{t t2 c:TypeId}{k0:Nat}(g:BV m X=some (.pointer o)) (i:BV m Y=some (.pointer none)) (l:P.underlying t=some (.pointer c)) (p:(P.info? c).map (·.size)=some k0) (hd:Nat.blt d n.1=true) (k:QF P ops C Q rest n ((d,.bool o.isNone)::m)):
  QF P ops C Q (⟨some d,.binOp .eql t X Y t2,ty,pos,af,none⟩::rest) n m:=λa b=>Dx b hd (λw _=>by
 obtain⟨j,s,_⟩:=Abn.1 p;have e:∀q:Nat,(Op.equalIn (q+1) t (.pointer o) (.pointer none)).run P w= .ok o.isNone w:=λq=>by
  cases o<;>simp [Op.equalIn,run_underlying l,sizeOf,typeInfo,s,sameAddr]
 have y:=e 9999;have u:∀w,(eqGuard .eql t X Y (.pointer o) (.pointer none)).run P w= .ok () w:=λw=>by cases o<;>(unfold eqGuard;simp)
 have v:(binOp .eql t (.pointer o) (.pointer none)).run P w= .ok (.bool o.isNone) w:=by
  simp only[binOp];have x:(Op.equalIn Op.maxDepth t (.pointer o) (.pointer none)).run P w= .ok o.isNone w:=e (Op.maxDepth-1);simp [Op.equal,x]
 simp [execOp,b.eval g,b.eval i,u,v]) k
def fK {C:World→Prop}{Q:Act→Prop}{o:Addr}{t t2 c:TypeId}{k0:Nat}(g:BV m X=some (.pointer (some o))) (i:BV m Y=some (.pointer (some o))) (l:P.underlying t=some (.pointer c)) (p:(P.info? c).map (·.size)=some k0) (hd:Nat.blt d n.1=true) (k:QF P ops C Q rest n ((d,.bool false)::m)):
  QF P ops C Q (⟨some d,.binOp .neq t X Y t2,ty,pos,af,none⟩::rest) n m:=λa b=>Dx b hd (λw _=>by
 obtain⟨j,q,_⟩:=Abn.1 p;have:=Lib.run_neq_ptr_same (P:=P) w o l q;have s:∀w,(eqGuard .neq t X Y (.pointer (some o)) (.pointer (some o))).run P w= .ok () w:=λw=>by unfold eqGuard;simp
 simp [execOp,b.eval g,b.eval i,s,this]) k
def zC {cs:List Value}(a:St S L h) (c:Bx b T cs∈L) (d:Wd B h w):w.shape? b=some (T,cs.length):=by
 have:=a.bxW c d;simp [World.shape?,this]
def sF {Q:Act→Prop}{cs:List Value}{c t2:TypeId}{k0:Nat}(i:St S L h) (l:Bx b T cs∈L) (o:BV m X=some (.pointer (some ⟨b,0,none⟩))) (p:P.underlying c=some (.pointer T)) (q:P.underlying t2=some .unsafePointer) (s:(P.info? T).map (·.size)=some (k0+1)) (t:Nat.blt 0 cs.length=true) (hd:Nat.blt d n.1=true)
  (k:QF P ops (Wd B h) Q rest n ((d,.pointer (some ⟨b,0,none⟩))::m)):QF P ops (Wd B h) Q (⟨some d,.convert c t2 X,ty,pos,af,none⟩::rest) n m:=λa g=>Dx g hd (λw u=>by
 obtain⟨j,v,x⟩:=Abn.1 s;have:=Lib.run_to_unsafe (P:=P) w (src:=c) (dst:=t2) ⟨b,0,none⟩ p q v (by omega) (zC i l u) (Acr t);simp [execOp,g.eval o,this]) k
def sT {Q:Act→Prop}{cs:List Value}{c t2:TypeId}{k0:Nat}(i:St S L h) (l:Bx b T cs∈L) (o:BV m X=some (.pointer (some ⟨b,0,none⟩))) (p:P.underlying c=some .unsafePointer) (q:P.underlying t2=some (.pointer T)) (s:(P.info? T).map (·.size)=some k0) (t:liesAt P P.depth T (cs.length/P.cellsOf T) 0 T 1=true) (hd:Nat.blt d n.1=true)
  (k:QF P ops (Wd B h) Q rest n ((d,.pointer (some ⟨b,0,none⟩))::m)):QF P ops (Wd B h) Q (⟨some d,.convert c t2 X,ty,pos,af,none⟩::rest) n m:=λa g=>Dx g hd (λw u=>by
 obtain⟨j,v,x⟩:=Abn.1 s;have:=Lib.run_from_unsafe (P:=P) w (src:=c) (dst:=t2) ⟨b,0,none⟩ p q v (zC i l u) t;simp [execOp,g.eval o,this]) k
def vD {f:Nat}{a:Func}(b:P.funcs[f]? =some a) (c:(a.name== "runtime.NumGoroutine")=false) (d:a.body.isNone=true) (g:Extern.findNext a=none) (i:Extern.find a=some Extern.AbiNoEscape.same) (x:Value) (w:World):
  (callFunc f #[x]).run P w= .ok (.value x) w:=by
 rw[run_callFunc_extern b c d g i,Lib.run_noEscape];rfl
def yR {C:World→Prop}{Q:Act→Prop}{o:Option Addr}{l c:Nat}{t:TypeId}(g:BV m X=some (.slice o l c)) (h0:o.isSome=true→c≠0) (hd:Nat.blt d n.1=true) (k:QF P ops C Q rest n ((d,.pointer o)::m)):
  QF P ops C Q (⟨some d,.call ⟨.builtin .unsafeSliceData,#[X],#[t]⟩,ty,pos,af,none⟩::rest) n m:=λa b=>Dx b hd (λw _=>by
 have e:(Builtin.unsafeSliceData_ #[t] ty #[.slice o l c]).run P w= .ok (.pointer o) w:=by
  cases o with
  |none=>exact Lib.run_unsafeSliceData_nil w _ _ _ _
  |some a=>exact Lib.run_unsafeSliceData_row w _ _ _ _ _ (h0 rfl)
 simp [execOp,resolve,invoke,builtin,b.eval g,e]) k
def fV {c t2:TypeId}{o:Option Addr}(i:BV m X=some (.pointer o)) (j:BV m Y=some (.int .i64 0)) (hd:Nat.blt d n.1=true) (k:LF P ops Q rest B h n ((d,.string ByteArray.empty)::m)):
  LF P ops Q (⟨some d,.call ⟨.builtin .unsafeString,#[X,Y],#[c,t2]⟩,ty,pos,af,none⟩::rest) B h n m:=λa w g l=>by
 refine wpList_plain rfl λK p=>?_;unfold Oper.wp;have e:(Builtin.unsafeString_ #[c,t2] ty #[.pointer o,.int .i64 0]).run P w= .ok (.string ByteArray.empty) w:=Lib.run_unsafeString_none w _ _ _ _;have b:(execOp a.eval ⟨some d,.call ⟨.builtin .unsafeString,#[X,Y],#[c,t2]⟩,ty,pos,af,none⟩).run P w= .ok (.value (.string ByteArray.empty)) w:=by
  simp [execOp,resolve,invoke,builtin,g.eval i,g.eval j,e]
 rw[b];exact p _ _ (k _ w (g.put hd _) l)
def kX {q t2:TypeId}{g cap:Nat}(J:BV m X=some (.pointer (some ⟨g,0,none⟩))) (M:BV m Y=some (.int .i64 s.size)) (U:St S (OS RB E (.slice (some ⟨g,0,none⟩) s.size cap) (bL s)::L) h) (h0:s.size≠0) (V:P.underlying q=some (.pointer E)) (W:P.cellsOf E=1) (hd:Nat.blt d n.1=true)
  (k:∀h',St S L h'→CG S h S h'→LF P ops Q rest B h' n ((d,.string s)::m)):
  LF P ops Q (⟨some d,.call ⟨.builtin .unsafeString,#[X,Y],#[q,t2]⟩,ty,pos,af,none⟩::rest) B h n m:=λa w A o=>by
 refine wpList_plain rfl λK Z=>?_;unfold Oper.wp;obtain⟨h1,F,kO,hF,hL⟩:=U;rcases kO with ⟨_,z,_⟩|⟨g',cap',cur,k1,z,k3,k4,k5,k6,k7⟩
 ·exact absurd (by rw[←Mm,z];rfl) h0
 ·rw[Mm] at k1 k4;injection k1 with t q2 q3
  injection t with t
  injection t with t
  subst t;subst q3;have i:s.data.toList.length=s.size:=by simp
  have C:w.heap[g]? =some (.cells cur E (0,0)):=by rw[o.heap];exact k3
  have aa:cur.size=cap:=by have:cur.size=cap*1:=k6;omega
  have e:(Builtin.unsafeString_ #[q,t2] ty #[.pointer (some ⟨g,0,none⟩),.int .i64 s.data.toList.length]).run P w= .ok (.string ⟨s.data.toList.toArray⟩) (w.freeze ⟨g,0,none⟩ s.data.toList.length):=by
   refine Lib.run_unsafeString_row w q t2 ty E V W g cur.size (by simp [World.shape?,C]) s.data.toList (λe0=>h0 (by rw[←i,e0];rfl)) (by rw[i];omega) (by rw[i];unfold maxLen at k5;omega) ?_;intro j x H;have hr:LQ S h RB (cur.toList.take s.size) (bL s):=by have:=k7;rwa [show (bL s).length*RB.sz=s.size by rw[Mm];exact Abz _] at this
   have c:(bL s)[j]? =some (x.toNat:Int):=by simp [bL,H]
   have D:j<s.size:=by rw[←i];exact(Aai.1 H).1
   have h9:=(hr.at_ c).1;have I:(cur.toList.take s.size)[j]? =some (.int .u8 x.toNat):=by
    have u:((cur.toList.take s.size).drop (j*RB.sz)).take RB.sz=[.int .u8 x.toNat]:=h9;rw[show j*RB.sz=j from Abz j] at u;have G:(((cur.toList.take s.size).drop j).take 1)[0]? =some (.int .u8 x.toNat):=by rw[show (1:Nat)=RB.sz from rfl,u];rfl
    simpa using G
   rw[mP,Iz,o.heap];simp only[IQ,k3,Ac4,Ab4,Ab5];rw[Abr D] at I;simpa using I
  rw[i] at e;have v:(execOp a.eval ⟨some d,.call ⟨.builtin .unsafeString,#[X,Y],#[q,t2]⟩,ty,pos,af,none⟩).run P w= .ok (.value (.string s)) (w.freeze ⟨g,0,none⟩ s.size):=by
   simp [execOp,resolve,invoke,builtin,A.eval J,A.eval M,e]
  rw[v];have l:∀b,b≠g→(w.freeze ⟨g,0,none⟩ s.size).heap[b]? =h[b]? :=λb c=>by
   rw[←o.heap];simp only[World.freeze];split
   ·rfl
   ·rw[Array.getElem?_modify,zY (λe=>c e.symm)]
  have p:(w.freeze ⟨g,0,none⟩ s.size).heap.size=h.size:=by
   rw[←o.heap];simp only[World.freeze];split<;>simp
  have y:∀b,S b→b≠g:=λb c e=>(hF g ((z g).2 rfl)).2 (e▸c);refine Z _ _ (k (w.freeze ⟨g,0,none⟩ s.size).heap ⟨λb c=>by rw[p];exact h1 b c,?_⟩ ⟨λ_ x=>x,λb c=>l b (y b c),by rw[p];exact Aal _⟩ _ _ (A.put hd _) ⟨rfl,?_,?_,?_⟩)
  ·refine Sp.ext hL (λ_ x=>x) (λb c=>l b ?_) λb c=>⟨by rw[p];exact c.1.1,c.1.2⟩
   rcases c with c|c
   ·exact y b c
   ·exact λe=>c.2 ((z b).2 e)
  ·rw[←o.os];simp only[World.freeze];split<;>rfl
  ·rw[←o.tape];simp only[World.freeze];split<;>rfl
  ·rw[←o.out];simp only[World.freeze];split<;>rfl
end
def Ps (N:Nat) (b s:ByteArray):Option ByteArray:=chk (I2 (b.size+s.size) 1) <| some (b++s)
def rZ (N:Nat) (b:ByteArray) (c:Int):Option ByteArray:=chk (I2 (b.size+1) 1) <| some (b.push (UInt8.ofNat c.toNat))
def rY (N:Nat) (b:ByteArray):Option ByteArray:=some b
def lQ {n:Nat}(h:I2 n 1=true):n≤maxLen:=by have:=MJ h;unfold Jh at this;unfold maxLen;omega
def wJ {b s:ByteArray}{v a:Value}(c:b.size=0→v= .slice none 0 0) (d:v= .slice none 0 0→s.size=0→a= .slice none 0 0) (h:(b++s).size=0):a= .slice none 0 0:=by
 rw[ByteArray.size_append] at h;exact d (c (by omega)) (by omega)
def St.oscell {α}{r:A6 α}{T:Nat}{v:Value}{l:List α}{S:Nat→Prop}{L:List HP}{h:AS}(a:St S L h) (b:OS r T v l∈L):v.cells=[v].toArray:=by
 obtain⟨c,cap,rfl,_⟩:=a.oslen b;rfl
def St.osrow {α}{r:A6 α}{T:Nat}{v:Value}{l:List α}{S:Nat→Prop}{L:List HP}{h:AS}(a:St S L h) (b:OS r T v l∈L) (h0:l.length≠0):∃g cap,v= .slice (some ⟨g,0,none⟩) l.length cap∧l.length≤cap:=by
 obtain⟨F,k,_⟩:=a.get b;rcases k with ⟨_,c,_⟩|⟨g,cap,cur,h1,_,_,h4,_⟩
 ·subst c;exact absurd rfl h0
 ·exact⟨g,cap,h1,h4⟩
end Go.Proofs.YtedgiljmffngoaaGreat
