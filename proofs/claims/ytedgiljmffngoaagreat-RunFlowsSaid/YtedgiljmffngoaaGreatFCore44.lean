import Derived.Test.YtedgiljmffngoaaGreatFCore40
import Derived.Test.YtedgiljmffngoaaGreatFCore22
import Derived.Test.YtedgiljmffngoaaGreatFCore31
import Derived.Lib.AppendStr
import Derived.Lib.UnsafeStr
import Derived.Lib.Builder
import Derived.Laws.Strings3
import Derived.Laws.BytesArg
import Derived.Laws.Externs
namespace Go.Proofs.YtedgiljmffngoaaGreat
set_option linter.all false
open Go.RowKit
def St.lt {S:Nat→Prop}{L:List HP}{h:AT}(k:St S L h):∀b,S b→b<h.size:=k.1
def EX {A:Prop}(e:A:=by
 first
  |assumption
  |exact B6.refl _ _
  |repeat (first
    |assumption
    |refine B6.trans ?_ (by assumption)
    |exact CF.ext (by assumption) (St.lt (by assumption))
    |exact SN.ext (St.lt (by assumption)) (by assumption)
    |refine B6.trans ?_ (CF.ext (by assumption) (St.lt (by assumption)))
    |refine B6.trans ?_ (SN.ext (St.lt (by assumption)) (by assumption))
    |refine B6.trans ?_ (SX.ext (St.lt (by assumption)) (by assumption) (by assumption)))):A:=e
def Rd.nw {b:Type}{S S':Nat→Prop}{h h':AT}{r:BB b}{v:Value}{x:b}{L:List HP}(k:Rd S h r v x) (a:St S' L h':=by assumption) (e:B6 S h S' h':=by exact EX):Rd S' h' r v x:=k.mono e
def Sl.nw {b:Type}{S S':Nat→Prop}{h h':AT}{r:BB b}{v:Value}{l:List b}{L:List HP}(k:Sl S h r v l) (a:St S' L h':=by assumption) (e:B6 S h S' h':=by exact EX):Sl S' h' r v l:=k.mono' e
def K4.nw {b:Type}{S S':Nat→Prop}{h h':AT}{r:BB b}{v:Value}{x:b}{L:List HP}(k:Pt S h r v x) (a:St S' L h':=by assumption) (e:B6 S h S' h':=by exact EX):Pt S' h' r v x:=K4.mono k e
def et {S S' S2:Nat→Prop}{h h' c:AT}(b:B6 S' h' S2 c) (a:B6 S h S' h':=by exact EX):B6 S h S2 c:=a.trans b
inductive Dl:List HP→List HP→Prop
 |refl {L:List HP}:Dl L L
 |keep {H:HP} {L1 L2:List HP}:Dl L1 L2→Dl (H::L1) (H::L2)
 |drop {H:HP} {L1 L2:List HP}:Dl L1 L2→Dl L1 (H::L2)
def Sp.dl {S:Nat→Prop}{h:AT}{g i:List HP}(n:Dl g i):∀{A:Nat→Prop},Sp S i h A→Sp S g h A:=by
 induction n with
 |refl=>exact λk=>k
 |keep _ a=>exact λ⟨F,l,j,c⟩=>⟨F,l,j,a c⟩
 |drop _ a=>exact λ⟨F,_,j,c⟩=>a (Sp.mono c λb m=>m.1)
def St.dl {S:Nat→Prop}{h:AT}{a b:List HP}(k:St S b h) (c:Dl a b):St S a h:=⟨k.1,k.2.dl c⟩
def DR {A:Prop}(e:A:=by
 first
  |assumption
  |refine St.dl (by assumption) ?_
   repeat (first|exact Dl.refl|refine Dl.keep ?_|refine Dl.drop ?_)):A:=e
section
variable {P:Program}{fn:Func}{B:World}{S S':Nat→Prop}{h h':AT}{ex:List (Nat×AP)}{N:AP}{cs:List Code}{m:SM}{post:Value→(Nat→Prop)→AT→Prop}{k t:Nat}{v:Value}
def KN (kp:post v S' h') (b:fn.results= #[.tmp t]) (c:lk m t=some v) (e:B6 S h S' h'):WF P ex (Rt P fn B S h post) (.ret::cs) N B h' (k,[]) m:=BS λa w d g=>Oo d g b c e kp
end
def CE {p:Prop}(e:true=false):p:=by cases e
section
variable {P:Program}{ops:Array Oper}{n:FN}{m:SM}{rest:List Oper}{d:Nat}{ty:TypeId}{pos:String}{af:Array Edge}{X Y:Operand}{f:Nat}{xs:Array Operand}{tys:Array TypeId}{args vs:List Value}{first cap:Array Value}{h:AT}{B:World}{S:Nat→Prop}{L:List HP}
variable {β ρ:Type}{F:Option β}{K:β→Option ρ}{r:ρ}
def BC {Q:Act→Prop}{v:β→Value}{Z:β→(Nat→Prop)→AT→Prop}(E:F.bind K=some r) (i:BU m X=some (.func (.func f) first cap)) (a:xs.toList.mapM (BU m)=some args) (c:first.toList++args++cap.toList=vs) (g:BH P f=true) (hd:Nat.blt d n.1=true)
  (j:∀y,F=some y→∀h',CF h h'→B0 P f vs.toArray (λb=>b<h'.size) h' (λp S' l=>p=v y∧Z y S' l))
  (k:∀y,K y=some r→QF P ops (Cl B h) Q rest n ((d,v y)::m)):QF P ops (Cl B h) Q (⟨some d,.call ⟨.value X,xs,tys⟩,ty,pos,af,none⟩::rest) n m:=by
 obtain⟨y,o,E⟩:=bd E;exact Ht i a c g hd (j y o) (k y E)
def CC {Q:Act→Prop}{v:β→Value}{Ψ:β→Prop}{Z:β→(Nat→Prop)→AT→Prop}(E:F.bind K=some r) (i:BU m X=some (.func (.func f) first cap)) (a:xs.toList.mapM (BU m)=some args) (c:first.toList++args++cap.toList=vs) (g:BH P f=true) (hd:Nat.blt d n.1=true)
  (j:∀y,F=some y→∀h',CF h h'→B0 P f vs.toArray (λb=>b<h'.size) h' (λp S' l=>p=v y∧Ψ y∧Z y S' l))
  (k:∀y,K y=some r→Ψ y→QF P ops (Cl B h) Q rest n ((d,v y)::m)):QF P ops (Cl B h) Q (⟨some d,.call ⟨.value X,xs,tys⟩,ty,pos,af,none⟩::rest) n m:=by
 obtain⟨y,o,E⟩:=bd E;exact Kz i a c g hd (j y o) (k y E)
def BR {Q:Exit→Act→World→Prop}{a:β→Value→(Nat→Prop)→AT→Prop}(E:F.bind K=some r) (i:BU m X=some (.func (.func f) first cap)) (b:xs.toList.mapM (BU m)=some args) (c:first.toList++args++cap.toList=vs) (g:BH P f=true) (hd:Nat.blt d n.1=true) (j:∀y,F=some y→B0 P f vs.toArray S h (a y))
  (k:∀y,K y=some r→∀v S' h',B6 S h S' h'→a y v S' h'→LF P ops Q rest B h' n ((d,v)::m)):LF P ops Q (⟨some d,.call ⟨.value X,xs,tys⟩,ty,pos,af,none⟩::rest) B h n m:=by
 obtain⟨y,l,E⟩:=bd E;exact Cr i b c g hd (j y l) (k y E)
def CS {Q:Exit→Act→World→Prop}{a:β→Value→(Nat→Prop)→AT→Prop}(E:F.bind K=some r) (j:BU m X=some (.func (.func f) first cap)) (c:xs.toList.mapM (BU m)=some args) (g:first.toList++args++cap.toList=vs) (i:BH P f=true) (hd:Nat.blt d n.1=true) (l:St S L h) (o:∀y,F=some y→B0 P f vs.toArray (λb=>b<h.size) h (a y))
  (k:∀y,K y=some r→∀v S' h',St S L h'→B6 S h S h'→B6 (λb=>b<h.size) h S' h'→a y v S' h'→LF P ops Q rest B h' n ((d,v)::m)):LF P ops Q (⟨some d,.call ⟨.value X,xs,tys⟩,ty,pos,af,none⟩::rest) B h n m:=by
 obtain⟨y,p,E⟩:=bd E;exact Cn j c g i hd l (o y p) (k y E)
def A9 {o:Type}{C:World→Prop}{Q:Act→Prop}{a:BB o}{l:List o}{K:o→Option ρ}{t e:Nat}{v:Value}{i:Int}(E:(Go.Proofs.YtedgiljmffngoaaGreat.ix l i).bind K=some r) (c:BU m X=some v) (g:BU m Y=some (.int .i64 i)) (k0:Sl S h a v l) (j:N5 P t e a.sz=true) (hd:Nat.blt d n.1=true)
  (k:∀x,K x=some r→∀q,Pt S h a q x→QF P ops C Q rest n ((d,q)::m)):QF P ops C Q (⟨some d,.indexAddr t X Y,ty,pos,af,none⟩::rest) n m:=by
 obtain⟨x,b,E⟩:=bd E;exact Hg c g k0 j b hd (k x E)
end
def Dj {P:Program}{ops:Array Oper}{n:FN}{m:SM}{rest:List Oper}{ty:TypeId}{pos:String}{af:Array Edge}{X Y:Operand}{h:AT}{B:World}{S:Nat→Prop}{L c:List HP}{Q:Exit→Act→World→Prop}{v:Value}{T d:TypeId}{b:Nat}{cs vs:List Value}{sz:Nat}{ag:Bool}(i:BU m X=some (.pointer (some ⟨b,0,none⟩))) (j:BU m Y=some v) (l:v.cells=vs.toArray) (o:∀t∈vs,t.oneCell'=true)
  (p:Ie P T sz ag=true) (a:vs.length=sz) (q:St S L h) (r:Lb L (Bx b d cs) (Bx b d vs) c) (s:Nat.beq cs.length sz=true)
  (k:∀h',St S c h'→B6 S h S h'→LF P ops Q rest B h' n m):LF P ops Q (⟨none,.store T X Y,ty,pos,af,none⟩::rest) B h n m:=by
 have g:=gH s;refine Ld i j l o p a q r (by simp [g]) ?_ k;unfold G7;simp [g,a]
def ON {A:Prop}(e:A:=by
 repeat (first
  |exact HB
  |refine A4 rfl ?_
  |refine A4 (Sl.one (by assumption)) ?_)):A:=e
def PA.i {R:AR}{h:AT}{K:SM→Prop}{j d:Nat}{a:List (Nat×Nat)}{fr:SM}(k:∀b,R j b h→PA R h K a ((d,b)::fr)):PA R h K ((j,d)::a) fr:=k
def fR {R:AR}{h:AT}{K:SM→Prop}{fr:SM}(k:K fr):PA R h K [] fr:=k
def aS {a b:Prop}(k:a∧b):a∧b:=k
def Fg {A:Prop}(e:A:=by
 intro b c o;have a:=CF.st o (by assumption)
 repeat (refine PA.i (λd f=>?_);first|(obtain ⟨rfl,_⟩:=aS f)|cases f)
 refine fR ?_;refine AU ?_
 first
  |exact AL (CF.refl _) rfl
  |exact AL (CF.refl _) ⟨rfl,(by first|assumption|exact iq rfl|exact BF _)⟩):A:=e
def St.ea {S:Nat→Prop}{L:List HP}{h:AT}(k:St S L h):B6 S h (λb=>b<h.size) h:=⟨λb a=>k.1 b a,λ_ _=>rfl,gN _⟩
def CR {P:Program}{ops:Array Oper}{Q:Exit→Act→World→Prop}{B:World}{n:FN}{d:Nat}{R:Value→AT→Prop}{h:AT}{m:SM}{v:Value}(r:R v h):LF P ops (Exit.then (KS B n d R h m) Q) [] B h n ((d,v)::m):=AL (CF.refl _) r
def Rd.sn {d:Type}{S:Nat→Prop}(h0:AT) {a:AT}{r:BB d}{v:Value}{x:d}(k:Rd S a r v x):Rd (SN S h0 a) a r v x:=k.mono ⟨λb c=> .inl c,λ_ _=>rfl,gN _⟩
def Sl.sn {d:Type}{S:Nat→Prop}(h0:AT) {a:AT}{r:BB d}{v:Value}{x:List d}(k:Sl S a r v x):Sl (SN S h0 a) a r v x:=k.mono' ⟨λb c=> .inl c,λ_ _=>rfl,gN _⟩
def Yo {S:Nat→Prop}{L:List HP}{h a c:AT}(k:St S L h) (d:CF h a) (g:CF a c):B6 S a S c:=g.ext λb i=>gJ (k.1 b i) d.siz
def MO {A:Prop}(e:A:=by
 intro i v d g c b a
 repeat (first
  |exact False.elim a
  |(rcases i with _|i;focus first
   |exact a
   |exact K4.mono a (Yo (by assumption) c b)
   |exact Sl.mono' a (Yo (by assumption) c b)
   |exact Rd.mono a (Yo (by assumption) c b)
   |exact⟨Sl.mono' a.1 (SN.mono (St.lt (by assumption)) c b),a.2⟩
   |exact a.mono b
   |exact Sl.mono' a (SN.mono (St.lt (by assumption)) c b)
   |exact Rd.mono a (SN.mono (St.lt (by assumption)) c b)))):A:=e
def RT {A:Prop}(e:A:=by
 refine AU ?_;cases E
 first
  |exact KN ⟨rfl,DR⟩ rfl rfl EX
  |exact KN ⟨rfl,(by first|assumption|exact iq rfl|exact BF _),DR⟩ rfl rfl EX):A:=e
def subD (s:ByteArray) (i:Int):Option ByteArray:=if 0≤i∧i≤s.size then some (s.extract i.toNat s.size) else none
def Tz {s t:ByteArray}{i:Int}(h:subD s i=some t):t.size≤s.size:=by
 unfold subD at h;split at h
 ·cases h;simp only[ByteArray.size_extract];omega
 ·cases h
def aU (l:List Int):Option ByteArray:=if l.length≤maxLen then some (strOfNums l) else none
def VT {l:List Int}{s:ByteArray}(h:aU l=some s):s.size≤maxLen:=by
 unfold aU at h;split at h
 ·cases h;rw[strOfNums_size];assumption
 ·cases h
def Ty {k:IntKind}{x:Int}(h:k.has x):k.wrap x=x:=by
 have:=CT k x;cases k<;>simp only[IntKind.has,IntKind.min,IntKind.max,IntKind.signed,IntKind.bits,IntKind.wrap] at* <;>simp at* <;>omega
def aV:(0:Int)≤0∧(0:Int)≤1:=⟨by decide,by decide⟩
section
variable {P:Program}{ops:Array Oper}{C:World→Prop}{Q:Act→Prop}{n:FN}{m:SM}{rest:List Oper}
variable {d:Nat}{ty:TypeId}{pos:String}{af:Array Edge}{X Y:Operand}{t t1 t2:TypeId}{v:Value}{S:Nat→Prop}{L:List HP}{h:AT}{B:World}
def QF.subD {s p:ByteArray}{i:Int}{g:IntKind}(l:BU m X=some (.string s)) (o:BU m Y=some (.int g i)) (j:P.underlying t=some .string) (b:subD s i=some p) (hd:Nat.blt d n.1=true) (k:QF P ops C Q rest n ((d,.string p)::m)):
  QF P ops C Q (⟨some d,.slice t X (some Y) none none,ty,pos,af,none⟩::rest) n m:=λa c=>by
 unfold Proofs.YtedgiljmffngoaaGreat.subD at b;split at b
 ·rename_i h0;cases b;exact Cu c hd (λw _=>by simp [execOp,c.eval l,c.eval o,run_sliceAt_string w t _ _ _ _ j,run_slice_string_from_if w t s g i j,h0,Result.andThen]) k
 ·cases b
def Wa {A:Nat→Prop}{l:List Int}{s:ByteArray}{e:TypeId}(G:CK C h) (H:∀b,A b→b<h.size) (g:BU m X=some v) (k0:Sl A h (BB.intk .u8) v l) (t:P.underlying t1=some (.slice e)) (y:P.underlying e=some (.int .u8)) (z:P.underlying t2=some .string) (i:aU l=some s) (hd:Nat.blt d n.1=true)
  (k:QF P ops C Q rest n ((d,.string s)::m)):QF P ops C Q (⟨some d,.convert t1 t2 X,ty,pos,af,none⟩::rest) n m:=λa o=>by
 unfold aU at i;split at i
 ·cases i;rcases k0 with ⟨rfl,rfl⟩|⟨ad,cap,rfl,h4,h5,h6⟩
  ·exact Cu o hd (λw _=>by simp [execOp,o.eval g,run_convert_bytes_nil w t1 e t y 0 0 t2 z];rfl) k
  ·refine Cu o hd (λw I=>?_) k;have J:(loadCells ad l.length).run P w= .ok (l.map (Value.int .u8)).toArray w:=by
    have:=run_loadCells_list (P:=P) w ad (l.map (Value.int .u8)) (λj u K=>by
     obtain⟨x,g,rfl⟩:=by simpa using K
     obtain⟨B,cs,⟨W,M,Y,D,U⟩,rfl,Z⟩:=h6 j x g;cases M;have F:=U 0 (by simp);rw[Hl];obtain⟨p,q,ss⟩:=ad;simp only at B;subst B;have c:(⟨p,q,none⟩:Addr).add j=⟨p,q+j,none⟩:=by unfold Addr.add;split<;>simp_all
     rw[c];have V:j*(BB.intk IntKind.u8).sz=j:=iO j;simp only[Nat.add_zero,V] at D F;rw[OH (a:=⟨p,q+j,none⟩) (G w I _ (H _ D))];exact F)
    simpa using this
   have hq:ByteArray.empty.data++(l.map λn=>UInt8.ofNat n.toNat).toArray=(l.map λn=>UInt8.ofNat n.toNat).toArray:=by simp
   simp [execOp,o.eval g,run_convert_bytes_string w t1 t2 e (some ad) l.length cap t y z,run_bytesToString w ad l.length cap l J,foldl_push_bytes];rfl
 ·cases i
def SE {α}{r:BB α}{p:Value}{x:α}(c:BU m X=some p) (k0:Pt S h r p x) (hd:Nat.blt d n.1=true) (k:QF P ops C Q rest n ((d,p)::m)):QF P ops C Q (⟨some d,.nilCheck X,ty,pos,af,none⟩::rest) n m:=by
 obtain⟨cs,⟨g,rfl,_⟩,_⟩:=k0;exact λa b=>Cu b hd (λw _=>by simp [execOp,b.eval c]) k
def Yf {a:Act}{w:World}{d:Option Nat}{f:Nat}{xs:Array Operand}{c:Array TypeId}
  {b:List Value} (i:Fr n a m) (j:BU m X=some (.func (.func f) #[] #[])) (g:xs.toList.mapM (BU m)=some b) (k:(callFunc f b.toArray).run P w= .ok (.value v) w):
  (execOp a.eval ⟨d,.call ⟨.value X,xs,c⟩,ty,pos,af,none⟩).run P w= .ok (.value v) w:=by
 simp only[execOp,resolve,i.eval j,Deferred.ofValue,Sz i g];simp [invoke,k]
def TB {f:Nat}{xs:Array Operand}{c:Array TypeId}{b:List Value}(j:BU m X=some (.func (.func f) #[] #[])) (g:xs.toList.mapM (BU m)=some b) (l:∀w,(callFunc f b.toArray).run P w= .ok (.value v) w) (hd:Nat.blt d n.1=true)
  (k:QF P ops C Q rest n ((d,v)::m)):QF P ops C Q (⟨some d,.call ⟨.value X,xs,c⟩,ty,pos,af,none⟩::rest) n m:=λa i=>
 Cu i hd (λw _=>Yf i j g (l w)) k
end
def GG (x y c:Int):Int×Int:=((x+y+c)%18446744073709551616,(x+y+c)/18446744073709551616)
def KR (x y c:Int):Int×Int:=((x-y-c)%18446744073709551616,if x<y+c then 1 else 0)
def TM {x:Int}:IntKind.has .u64 x↔0≤x∧x≤18446744073709551615:=by simp [IntKind.has,IntKind.min,IntKind.max,IntKind.signed,IntKind.bits]
def P9 {x y c:Int}(a:IntKind.has .u64 x) (b:IntKind.has .u64 y) (d:0≤c∧c≤1):IntKind.has .u64 (GG x y c).1∧IntKind.has .u64 (GG x y c).2∧0≤(GG x y c).2∧(GG x y c).2≤1:=by
 rw[TM] at *;unfold GG;simp only;rw[TM];omega
def VG {x y c:Int}(a:IntKind.has .u64 x) (b:IntKind.has .u64 y) (d:0≤c∧c≤1):IntKind.has .u64 (KR x y c).1∧IntKind.has .u64 (KR x y c).2∧0≤(KR x y c).2∧(KR x y c).2≤1:=by
 rw[TM] at *;unfold KR;simp only;rw[TM];split<;>omega
def dR:Array Value→Sem Value:=λa=>do
 let (x,y,c) ←Extern.MathBitsCarry.three "Add64" a
 pure (Extern.MathBitsCarry.pair ((x+y+c)%Extern.MathBitsCarry.m64) ((x+y+c)/Extern.MathBitsCarry.m64))
def bH:Array Value→Sem Value:=λa=>do
 let (x,y,b) ←Extern.MathBitsCarry.three "Sub64" a
 pure (Extern.MathBitsCarry.pair ((x+Extern.MathBitsCarry.m64-y-b)%Extern.MathBitsCarry.m64) (if x<y+b then 1 else 0))
def VV {P:Program}(x y c:Nat) (a:c≤1) (w:World):(dR #[.int .u64 x,.int .u64 y,.int .u64 c]).run P w= .ok (.tuple #[.int .u64 (((x+y+c)%18446744073709551616:Nat):Int),.int .u64 (((x+y+c)/18446744073709551616:Nat):Int)]) w:=by
 have:c=0∨c=1:=by omega
 rcases this with rfl|rfl<;>rfl
def VU {P:Program}(x y c:Nat) (a:c≤1) (w:World):(bH #[.int .u64 x,.int .u64 y,.int .u64 c]).run P w= .ok (.tuple #[.int .u64 (((x+18446744073709551616-y-c)%18446744073709551616:Nat):Int),.int .u64 ((if x<y+c then 1 else 0:Nat):Int)]) w:=by
 have:c=0∨c=1:=by omega
 rcases this with rfl|rfl<;>rfl
section
variable {P:Program}{f:Nat}{fn:Func}
def SZ (d:P.funcs[f]? =some fn) (g:(fn.name== "runtime.NumGoroutine")=false) (i:fn.body.isNone=true) (j:Extern.findNext fn=none) (k:Extern.find fn=some dR):
  ∀x y c:Int,IntKind.has .u64 x→IntKind.has .u64 y→(0≤c∧c≤1)→∀w,(callFunc f #[.int .u64 x,.int .u64 y,.int .u64 c]).run P w= .ok (.value (.tuple #[.int .u64 (GG x y c).1,.int .u64 (GG x y c).2])) w:=λx y c a b l w=>by
 rw[TM] at a b;obtain⟨x,rfl⟩:=kA a.1;obtain⟨y,rfl⟩:=kA b.1;obtain⟨c,rfl⟩:=kA l.1;rw[run_callFunc_extern d g i j k,VV x y c (by omega)];simp only[Result.andThen,GG];congr 5<;>omega
def SY (d:P.funcs[f]? =some fn) (g:(fn.name== "runtime.NumGoroutine")=false) (i:fn.body.isNone=true) (j:Extern.findNext fn=none) (k:Extern.find fn=some bH):
  ∀x y c:Int,IntKind.has .u64 x→IntKind.has .u64 y→(0≤c∧c≤1)→∀w,(callFunc f #[.int .u64 x,.int .u64 y,.int .u64 c]).run P w= .ok (.value (.tuple #[.int .u64 (KR x y c).1,.int .u64 (KR x y c).2])) w:=λx y c a b l w=>by
 rw[TM] at a b;obtain⟨x,rfl⟩:=kA a.1;obtain⟨y,rfl⟩:=kA b.1;obtain⟨c,rfl⟩:=kA l.1;rw[run_callFunc_extern d g i j k,VU x y c (by omega)];simp only[Result.andThen,KR];have m:(((x+18446744073709551616-y-c)%18446744073709551616:Nat):Int)=((x:Int)-y-c)%18446744073709551616:=by omega
 have n:((if x<y+c then 1 else 0:Nat):Int)=if (x:Int)<y+c then 1 else 0:=by split<;>split<;>omega
 rw[m,n]
end
section
variable {P:Program}{ex:List (Nat×AP)}{RR N:AP}{cs:List Code}{B:World}{h:AT}{n:FN}{m m0:SM}
end
section
variable {P:Program}{ops:Array Oper}{C:World→Prop}{Q:Act→Prop}{n:FN}{m:SM}{rest:List Oper}{a:Act}
variable {d:Nat}{ty:TypeId}{pos:String}{af:Array Edge}{X Y:Operand}{t t1 t2:TypeId}{kd:IntKind}{v:Value}{S:Nat→Prop}{h:AT}
end
end Go.Proofs.YtedgiljmffngoaaGreat
