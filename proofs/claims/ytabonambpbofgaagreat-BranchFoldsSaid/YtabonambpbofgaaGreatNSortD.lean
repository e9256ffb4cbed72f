import Derived.Test.YtabonambpbofgaaGreatNCore40
import Derived.Test.YtabonambpbofgaaGreatNCore26
import Derived.Test.YtabonambpbofgaaGreatNCore31
import Derived.Lib.AppendStr
import Derived.Lib.UnsafeStr
import Derived.Lib.Builder
import Derived.Laws.Strings3
import Derived.Laws.BytesArg
import Derived.Laws.Externs
namespace Go.Proofs.YtabonambpbofgaaGreat
set_option linter.all false
open Go.RowKit
def St.lt {S:Nat→Prop}{L:List HP}{h:AS}(k:St S L h):∀b,S b→b<h.size:=k.1
def EX {A:Prop}(e:A:=by
 first
  |assumption
  |exact CJ.refl _ _
  |repeat (first
    |assumption
    |refine CJ.trans ?_ (by assumption)
    |exact EY.ext (by assumption) (St.lt (by assumption))
    |exact SN.ext (St.lt (by assumption)) (by assumption)
    |exact SX.ext (St.lt (by assumption)) (by assumption) (by assumption)
    |refine CJ.trans ?_ (EY.ext (by assumption) (St.lt (by assumption)))
    |refine CJ.trans ?_ (SN.ext (St.lt (by assumption)) (by assumption))
    |refine CJ.trans ?_ (SX.ext (St.lt (by assumption)) (by assumption) (by assumption)))):A:=e
def Rd.nw {b:Type}{S S':Nat→Prop}{h h':AS}{r:A5 b}{v:Value}{x:b}{L:List HP}(k:Rd S h r v x) (a:St S' L h':=by assumption) (e:CJ S h S' h':=by exact EX):Rd S' h' r v x:=k.mono e
def Sl.nw {b:Type}{S S':Nat→Prop}{h h':AS}{r:A5 b}{v:Value}{l:List b}{L:List HP}(k:Sl S h r v l) (a:St S' L h':=by assumption) (e:CJ S h S' h':=by exact EX):Sl S' h' r v l:=k.mono' e
def NX.nw {b:Type}{S S':Nat→Prop}{h h':AS}{r:A5 b}{v:Value}{x:b}{L:List HP}(k:Pt S h r v x) (a:St S' L h':=by assumption) (e:CJ S h S' h':=by exact EX):Pt S' h' r v x:=NX.mono k e
def et {S S' S2:Nat→Prop}{h h' c:AS}(b:CJ S' h' S2 c) (a:CJ S h S' h':=by exact EX):CJ S h S2 c:=a.trans b
inductive Dl:List HP→List HP→Prop
 |refl {L:List HP}:Dl L L
 |keep {H:HP} {L1 L2:List HP}:Dl L1 L2→Dl (H::L1) (H::L2)
 |drop {H:HP} {L1 L2:List HP}:Dl L1 L2→Dl L1 (H::L2)
def Sp.dl {S:Nat→Prop}{h:AS}{L1 g:List HP}(d:Dl L1 g):∀{A:Nat→Prop},Sp S g h A→Sp S L1 h A:=by
 induction d with
 |refl=>exact λk=>k
 |keep _ a=>exact λ⟨F,j,i,c⟩=>⟨F,j,i,a c⟩
 |drop _ a=>exact λ⟨F,_,i,c⟩=>a (Sp.mono c λb l=>l.1)
def St.dl {S:Nat→Prop}{h:AS}{L1 a:List HP}(k:St S a h) (d:Dl L1 a):St S L1 h:=⟨k.1,k.2.dl d⟩
def DR {A:Prop}(e:A:=by
 first
  |assumption
  |refine St.dl (by assumption) ?_
   repeat (first|exact Dl.refl|refine Dl.keep ?_|refine Dl.drop ?_)):A:=e
section
variable {P:Program}{fn:Func}{B:World}{S S':Nat→Prop}{h h':AS}{ex:List (Nat×AP)}{N:AP}{cs:List Code}{m:SM}{post:Value→(Nat→Prop)→AS→Prop}{k t:Nat}{v:Value}
def GE (kp:post v S' h') (b:fn.results= #[.tmp t]) (c:lk m t=some v) (e:CJ S h S' h'):WF P ex (Rt P fn B S h post) (.ret::cs) N B h' (k,[]) m:=CO λa w d g=>TH d g b c e kp
end
def CE {p:Prop}(e:true=false):p:=by cases e
section
variable {P:Program}{ops:Array Oper}{n:FN}{m:SM}{rest:List Oper}{d:Nat}{ty:TypeId}{pos:String}{af:Array Edge}{X Y:Operand}{f:Nat}{xs:Array Operand}{tys:Array TypeId}{args vs:List Value}{first cap:Array Value}{h:AS}{B:World}{S:Nat→Prop}{L:List HP}
variable {β ρ:Type}{F:Option β}{K:β→Option ρ}{r:ρ}
def BE {Q:Act→Prop}{v:β→Value}{Z:β→(Nat→Prop)→AS→Prop}(E:F.bind K=some r) (i:B4 m X=some (.func (.func f) first cap)) (a:xs.toList.mapM (B4 m)=some args) (c:first.toList++args++cap.toList=vs) (g:BJ P f=true) (hd:Nat.blt d n.1=true)
  (j:∀y,F=some y→∀h',EY h h'→CL P f vs.toArray (λb=>b<h'.size) h' (λu S' l=>u=v y∧Z y S' l))
  (k:∀y,K y=some r→QF P ops (Cl B h) Q rest n ((d,v y)::m)):QF P ops (Cl B h) Q (⟨some d,.call ⟨.value X,xs,tys⟩,ty,pos,af,none⟩::rest) n m:=by
 obtain⟨y,o,E⟩:=bd E;exact JH i a c g hd (j y o) (k y E)
def DM {Q:Act→Prop}{v:β→Value}{Ψ:β→Prop}{Z:β→(Nat→Prop)→AS→Prop}(E:F.bind K=some r) (i:B4 m X=some (.func (.func f) first cap)) (a:xs.toList.mapM (B4 m)=some args) (c:first.toList++args++cap.toList=vs) (g:BJ P f=true) (hd:Nat.blt d n.1=true)
  (j:∀y,F=some y→∀h',EY h h'→CL P f vs.toArray (λb=>b<h'.size) h' (λu S' l=>u=v y∧Ψ y∧Z y S' l))
  (k:∀y,K y=some r→Ψ y→QF P ops (Cl B h) Q rest n ((d,v y)::m)):QF P ops (Cl B h) Q (⟨some d,.call ⟨.value X,xs,tys⟩,ty,pos,af,none⟩::rest) n m:=by
 obtain⟨y,o,E⟩:=bd E;exact Vd i a c g hd (j y o) (k y E)
def Ga {Q:Exit→Act→World→Prop}{a:β→Value→(Nat→Prop)→AS→Prop}(E:F.bind K=some r) (i:B4 m X=some (.func (.func f) first cap)) (b:xs.toList.mapM (B4 m)=some args) (c:first.toList++args++cap.toList=vs) (g:BJ P f=true) (hd:Nat.blt d n.1=true) (j:∀y,F=some y→CL P f vs.toArray S h (a y))
  (k:∀y,K y=some r→∀v S' h',CJ S h S' h'→a y v S' h'→LF P ops Q rest B h' n ((d,v)::m)):LF P ops Q (⟨some d,.call ⟨.value X,xs,tys⟩,ty,pos,af,none⟩::rest) B h n m:=by
 obtain⟨y,l,E⟩:=bd E;exact CY i b c g hd (j y l) (k y E)
def DX {Q:Exit→Act→World→Prop}{a:β→Value→(Nat→Prop)→AS→Prop}(E:F.bind K=some r) (j:B4 m X=some (.func (.func f) first cap)) (c:xs.toList.mapM (B4 m)=some args) (g:first.toList++args++cap.toList=vs) (i:BJ P f=true) (hd:Nat.blt d n.1=true) (l:St S L h) (o:∀y,F=some y→CL P f vs.toArray (λb=>b<h.size) h (a y))
  (k:∀y,K y=some r→∀v S' h',St S L h'→CJ S h S h'→CJ (λb=>b<h.size) h S' h'→a y v S' h'→LF P ops Q rest B h' n ((d,v)::m)):LF P ops Q (⟨some d,.call ⟨.value X,xs,tys⟩,ty,pos,af,none⟩::rest) B h n m:=by
 obtain⟨y,p,E⟩:=bd E;exact E9 j c g i hd l (o y p) (k y E)
def BK {o:Type}{C:World→Prop}{Q:Act→Prop}{a:A5 o}{l:List o}{K:o→Option ρ}{t e:Nat}{v:Value}{i:Int}(E:(Go.Proofs.YtabonambpbofgaaGreat.ix l i).bind K=some r) (c:B4 m X=some v) (g:B4 m Y=some (.int .i64 i)) (k0:Sl S h a v l) (j:O3 P t e a.sz=true) (hd:Nat.blt d n.1=true)
  (k:∀x,K x=some r→∀q,Pt S h a q x→QF P ops C Q rest n ((d,q)::m)):QF P ops C Q (⟨some d,.indexAddr t X Y,ty,pos,af,none⟩::rest) n m:=by
 obtain⟨x,b,E⟩:=bd E;exact Pb c g k0 j b hd (k x E)
end
def IH {P:Program}{ops:Array Oper}{n:FN}{m:SM}{rest:List Oper}{ty:TypeId}{pos:String}{af:Array Edge}{X Y:Operand}{h:AS}{B:World}{S:Nat→Prop}{L c:List HP}{Q:Exit→Act→World→Prop}{v:Value}{T d:TypeId}{b:Nat}{cs vs:List Value}{sz:Nat}{ag:Bool}(i:B4 m X=some (.pointer (some ⟨b,0,none⟩))) (j:B4 m Y=some v) (l:v.cells=vs.toArray) (o:∀u∈vs,u.oneCell'=true)
  (p:Kh P T sz ag=true) (a:vs.length=sz) (q:St S L h) (r:Mx L (Bx b d cs) (Bx b d vs) c) (s:Nat.beq cs.length sz=true)
  (k:∀h',St S c h'→CJ S h S h'→LF P ops Q rest B h' n m):LF P ops Q (⟨none,.store T X Y,ty,pos,af,none⟩::rest) B h n m:=by
 have g:=Aco s;refine Lx i j l o p a q r (by simp [g]) ?_ k;unfold H7;simp [g,a]
def ON {A:Prop}(e:A:=by
 repeat (first
  |exact Ji
  |refine A8 rfl ?_
  |refine A8 (Sl.one (by assumption)) ?_)):A:=e
def PA.i {R:AR}{h:AS}{K:SM→Prop}{j d:Nat}{a:List (Nat×Nat)}{fr:SM}(k:∀u,R j u h→PA R h K a ((d,u)::fr)):PA R h K ((j,d)::a) fr:=k
def Abr {R:AR}{h:AS}{K:SM→Prop}{fr:SM}(k:K fr):PA R h K [] fr:=k
def vL {a b:Prop}(k:a∧b):a∧b:=k
def Fy {A:Prop}(e:A:=by
 intro b c o;have a:=EY.st o (by assumption)
 repeat (refine PA.i (λu f=>?_);first|(obtain ⟨rfl,_⟩:=vL f)|cases f)
 refine Abr ?_;refine AU ?_
 first
  |exact BB (EY.refl _) rfl
  |exact BB (EY.refl _) ⟨rfl,(by first|assumption|exact iq rfl|exact BV _)⟩):A:=e
def St.ea {S:Nat→Prop}{L:List HP}{h:AS}(k:St S L h):CJ S h (λb=>b<h.size) h:=⟨λb a=>k.1 b a,λ_ _=>rfl,Acr _⟩
def B0 {P:Program}{ops:Array Oper}{Q:Exit→Act→World→Prop}{B:World}{n:FN}{d:Nat}{R:Value→AS→Prop}{h:AS}{m:SM}{v:Value}(r:R v h):LF P ops (Exit.then (KS B n d R h m) Q) [] B h n ((d,v)::m):=BB (EY.refl _) r
def Rd.sn {d:Type}{S:Nat→Prop}(h0:AS) {a:AS}{r:A5 d}{v:Value}{x:d}(k:Rd S a r v x):Rd (SN S h0 a) a r v x:=k.mono ⟨λb c=> .inl c,λ_ _=>rfl,Acr _⟩
def Sl.sn {d:Type}{S:Nat→Prop}(h0:AS) {a:AS}{r:A5 d}{v:Value}{x:List d}(k:Sl S a r v x):Sl (SN S h0 a) a r v x:=k.mono' ⟨λb c=> .inl c,λ_ _=>rfl,Acr _⟩
def rF {S:Nat→Prop}{L:List HP}{h a c:AS}(k:St S L h) (d:EY h a) (g:EY a c):CJ S a S c:=g.ext λb i=>Acv (k.1 b i) d.siz
def MO {A:Prop}(e:A:=by
 intro i v d g c b a
 repeat (first
  |exact False.elim a
  |(rcases i with _|i;focus first
   |exact a
   |exact NX.mono a (rF (by assumption) c b)
   |exact Sl.mono' a (rF (by assumption) c b)
   |exact Rd.mono a (rF (by assumption) c b)
   |exact⟨Sl.mono' a.1 (SN.mono (St.lt (by assumption)) c b),a.2⟩
   |exact a.mono b
   |exact Sl.mono' a (SN.mono (St.lt (by assumption)) c b)
   |exact Rd.mono a (SN.mono (St.lt (by assumption)) c b)))):A:=e
def RT {A:Prop}(e:A:=by
 refine AU ?_;cases E
 first
  |exact GE ⟨rfl,DR⟩ rfl rfl EX
  |exact GE ⟨rfl,(by first|assumption|exact iq rfl|exact BV _),DR⟩ rfl rfl EX):A:=e
section
variable {P:Program}{ops:Array Oper}{C:World→Prop}{Q:Act→Prop}{n:FN}{m:SM}{rest:List Oper}
variable {d:Nat}{ty:TypeId}{pos:String}{af:Array Edge}{X Y:Operand}{t t1 t2:TypeId}{v:Value}{S:Nat→Prop}{L:List HP}{h:AS}{B:World}
end
section
variable {P:Program}{f:Nat}{fn:Func}
end
section
variable {P:Program}{ex:List (Nat×AP)}{RR N:AP}{cs:List Code}{B:World}{h:AS}{n:FN}{m m0:SM}
end
section
variable {P:Program}{ops:Array Oper}{C:World→Prop}{Q:Act→Prop}{n:FN}{m:SM}{rest:List Oper}{a:Act}
variable {d:Nat}{ty:TypeId}{pos:String}{af:Array Edge}{X Y:Operand}{t t1 t2:TypeId}{kd:IntKind}{v:Value}{S:Nat→Prop}{h:AS}
end
def bL (s:ByteArray):List Int:=s.data.toList.map λb=>(b.toNat:Int)
abbrev RB:A5 Int:=A5.intk .u8
section
variable {P:Program}{ops:Array Oper}{Q:Exit→Act→World→Prop}{n:FN}{m:SM}{rest:List Oper}{a:Act}
variable {d:Nat}{ty:TypeId}{pos:String}{af:Array Edge}{X Y:Operand}{B w:World}{h:AS}{S:Nat→Prop}{L L2:List HP}{v:Value}
end
def Aca (b T E:Nat) (s:ByteArray):HP where
 holds:=λS F h=>∃p v a d,(p= .pointer none∨p= .pointer (some ⟨b,0,none⟩))∧(s.size=0→v= .slice none 0 0)∧(Bx b T [p,v]).holds S a h∧(OS RB E v (bL s)).holds S d h∧(∀c,a c→F c)∧(∀c,d c→F c∧¬a c)
 loc:=by
  rintro S S' F h h' ⟨p,v,a,d,m,n,o,q,i,j⟩ k l;exact⟨p,v,a,d,m,n,HP.loc _ o k λb g=>l b (g.imp_right (i b)),HP.loc _ q k λb g=>l b (g.imp_right λx=>(j b x).1),i,j⟩
section
variable {P:Program}{ops:Array Oper}{Q:Exit→Act→World→Prop}{n:FN}{m:SM}{rest:List Oper}
variable {d:Nat}{ty:TypeId}{pos:String}{af:Array Edge}{X Y:Operand}{B w:World}{h:AS}{S:Nat→Prop}{L L2:List HP}{p v:Value}{b T E:Nat}{s:ByteArray}
def lP (j:p= .pointer none∨p= .pointer (some ⟨b,0,none⟩)) (k:s.size=0→v= .slice none 0 0) (l:St S (Bx b T [p,v]::OS RB E v (bL s)::L) h):St S (Aca b T E s::L) h:=by
 obtain⟨m,d,n,o,g,q,i,t⟩:=l;exact⟨m,λc=>d c∨g c,⟨p,v,d,g,j,k,n,q,λc x=> .inl x,λc x=>⟨.inr x,(i c x).2⟩⟩,λc x=>x.elim (o c) λx=>(i c x).1,Sp.mono t λc a=>⟨a.1.1,λx=>x.elim a.1.2 a.2⟩⟩
def Abs (c:FM P T=some [.pointer none,.slice none 0 0]) (E:Nat) (hd:Nat.blt d n.1=true) (g:St S L h) (k:∀b h',St S (Aca b T E ByteArray.empty::L) h'→CJ S h S h'→LF P ops Q rest B h' n ((d,.pointer (some ⟨b,0,none⟩))::m)):LF P ops Q (⟨some d,.alloc T,ty,pos,af,none⟩::rest) B h n m:=
 Dp c hd (g.nil RB E) λb h' a e=>k b h' (lP (.inl rfl) (λ_=>rfl) a) e
def Sk {C:World→Prop}{Q:Act→Prop}{o:Option Addr}{t t2 c:TypeId}{k0:Nat}(g:B4 m X=some (.pointer o)) (i:B4 m Y=some (.pointer none)) (l:P.underlying t=some (.pointer c)) (p:(P.info? c).map (·.size)=some k0) (hd:Nat.blt d n.1=true) (k:QF P ops C Q rest n ((d,.bool o.isNone)::m)):
  QF P ops C Q (⟨some d,.binOp .eql t X Y t2,ty,pos,af,none⟩::rest) n m:=λa b=>GI b hd (λw _=>by
 obtain⟨j,s,_⟩:=Adt.1 p;have e:∀q:Nat,(Op.equalIn (q+1) t (.pointer o) (.pointer none)).run P w= .ok o.isNone w:=λq=>by
  cases o<;>simp [Op.equalIn,run_underlying l,sizeOf,typeInfo,s,sameAddr]
 have y:=e 9999;have u:∀w,(eqGuard .eql t X Y (.pointer o) (.pointer none)).run P w= .ok () w:=λw=>by cases o<;>(unfold eqGuard;simp)
 have v:(binOp .eql t (.pointer o) (.pointer none)).run P w= .ok (.bool o.isNone) w:=by
  simp only[binOp];have x:(Op.equalIn Op.maxDepth t (.pointer o) (.pointer none)).run P w= .ok o.isNone w:=e (Op.maxDepth-1);simp [Op.equal,x]
 simp [execOp,b.eval g,b.eval i,u,v]) k
end
def St.oscell {α}{r:A5 α}{T:Nat}{v:Value}{l:List α}{S:Nat→Prop}{L:List HP}{h:AS}(a:St S L h) (b:OS r T v l∈L):v.cells=[v].toArray:=by
 obtain⟨c,cap,rfl,_⟩:=a.oslen b;rfl
section
variable {P:Program}{ex:List (Nat×AP)}{RR N:AP}{cs:List Code}{B:World}{h:AS}{n:FN}{m m':SM}{S:Nat→Prop}{L:List HP}{C:World→Prop}{l:List Oper}{fuel:Nat}{listed:Array Bool}
variable {d:Nat}{ty:TypeId}{pos:String}{af:Array Edge}{X Y:Operand}{t:TypeId}{v:Value}
def zW (i:Nat) {b:Addr}(g:l[i]? =some ⟨some d,.nilCheck X,ty,pos,af,none⟩) (c:Sf l listed i=true) (j:∀w,Wd B h w→C w) (o:B4 m X=some (.pointer (some b))) (hd:Nat.blt d n.1=true) (k:HF P l (QW P ex RR cs N) C fuel (listed.setIfInBounds i true) B h n ((d,.pointer (some b))::m)):HF P l (QW P ex RR cs N) C (fuel+1) listed B h n m:=
 Pe i g c j hd (λa w p _=>by simp [execOp,p.eval o]) k
def Aal (i:Nat) {o:Option Addr}{q z e sz:Nat}(b:l[i]? =some ⟨some d,.call ⟨.builtin .len,#[X],#[t]⟩,ty,pos,af,none⟩) (c:Sf l listed i=true) (g:∀w,Wd B h w→C w) (j:B4 m X=some (.slice o q z)) (p:O3 P t e sz=true) (hd:Nat.blt d n.1=true) (k:HF P l (QW P ex RR cs N) C fuel (listed.setIfInBounds i true) B h n ((d,.int .i64 q)::m)):HF P l (QW P ex RR cs N) C (fuel+1) listed B h n m:=
 Pe i b c g hd (λa w s _=>by
  obtain⟨i,u,_⟩:=ML p;simp [execOp,resolve,invoke,builtin,Builtin.len_,s.eval j,run_underlying u,goInt]) k
end
section
variable {P:Program}{ops:Array Oper}{n:FN}{m:SM}{d:Nat}{ty:TypeId}{pos:String}{af:Array Edge}{X Y:Operand}{t:TypeId}{kd:IntKind}{v:Value}{S:Nat→Prop}{h:AS}
end
section
variable {P:Program}{ex:List (Nat×AP)}{RR N:AP}{cs:List Code}{B:World}{h:AS}{n:FN}{m m0:SM}
end
section
variable {P:Program}{ops:Array Oper}{Q:Exit→Act→World→Prop}{a:Act}{w:World}
def Vv {o:Oper}{K K':Act→World→Prop}(m:o.guard=none) (g:∀a w,K a w→K' a w) (h:wpList P ops (Exit.then K Q) [o] a w):wpList P ops (Exit.then K' Q) [o] a w:=by
 unfold wpList at h ⊢;rw[Acf (by simp [Region.wanted,m])] at h ⊢;rcases h with b|⟨b,i,j,h2⟩
 ·refine .inl ?_;unfold Oper.wp at b ⊢;generalize (execOp a.eval o).run P w=r at b
  cases r with
  |ok n w'=>
   cases n<;>simp only[Oper.upon] at b ⊢
   case value v=>exact g _ _ b
   case skip=>exact g _ _ b
   case defer d=>exact g _ _ b
   case enter f args=>
    refine b.mono λe k l=>?_;cases e with
    |returned v=>exact g _ _ l
    |panicked c=>exact l
    |outgrown=>obtain⟨i,j,h0⟩:=l;exact⟨i,j,h0⟩
   case row r args=>exact Rows.mono b λv k p=>g _ _ p
  |halt x w'=>cases x<;>simp only[Oper.upon] at b ⊢;exact b
 ·exact .inr ⟨b,i,j,h2⟩
end
section
variable {P:Program}{ops:Array Oper}{Q:Exit→Act→World→Prop}{B:World}{n:FN}{m:SM}{h0:AS}
def YX (As:List Nat) (R:XR):FR:=λ_ X F i v h=>R X i v h∧∀b,F b↔i∈As∧Ol v=some b
def YX.fr {As:List Nat}{R:XR}{a:Nat→Value}{X:Nat→Prop}{i:Nat}{v:Value}{h:AS}(k:vJ (YX As R) a X i v h):R X i v h:=by
 obtain⟨_,_,_,k,_⟩:=k;exact k
def PA.sub {R b:AR}{h:AS}{K:SM→Prop}(c:∀i v,b i v h→R i v h):∀(a:List (Nat×Nat)) (fr:SM),PA R h K a fr→PA b h K a fr
 |[],_,k=>k
 |(_,d)::a,fr,k=>λu g=>PA.sub c a _ (k u (c _ _ g))
def YX.step {R:XR}{As:List Nat}(q:∀X i,i∈As→∀v h,R X i v h→∃b,Ol v=some b∧h0.size≤b∧b<h.size) (y:∀i,i∈As→∀X s v h,R X i v h→R s i v h)
  (l:∀i v h h' X s,EY h0 h→EY h h'→(∀b,X b→s b)→(∀b,s b→X b∨h.size≤b)→R X i v h→R s i v h') {i:Nat} {o:Oper} {d:Nat} {D:List (Nat×Nat)} (k:Tu P ops Q B n m h0 R As i o d D):Vq P ops Q B n m h0 (YX As R) i o d D:=λF X mt h G U=>by
 have H:∀v h',EY h h'→vS (R X) As i h v h'→oX (YX As R) F X i h v h':=λv h' V ⟨t,z⟩=>by
  by_cases p:i∈As
  ·obtain⟨b,u,W⟩:=z (Acp.2 p);obtain⟨b',I,e4,Y⟩:=q X i p v h' t;rw[u] at I;cases I;exact⟨λc=>c=b,λc A=>by subst A;exact⟨W,Y⟩,y i p _ _ _ _ t,λc=>⟨λh=>⟨p,by rw[h];exact u⟩,λh=>by rw[u] at h;exact(Acg h.2).symm⟩⟩
  ·refine⟨λ_=>False,λc A=>A.elim,?_,λc=>⟨λh=>h.elim,λh=>p h.1⟩⟩;exact l i v h' h' X _ (G.trans V) (EY.refl h') (λb C=> .inl C) (λb C=> .inl (C.resolve_right id)) t
 refine PA.imp (λfr j=>?_) _ _ (PA.sub (λi v Z=>YX.fr Z) _ _ (k X mt h G U));have J:∀o:Oper,o.guard=none→LF P ops (Exit.then (KS B n d (vS (R X) As i h) h (fr++(m++mt))) Q) [o] B h n (fr++(m++mt))→LF P ops (Exit.then (KS B n d (oX (YX As R) F X i h) h (fr++(m++mt))) Q) [o] B h n (fr++(m++mt)):=λo x k a w hf hw=>Vv x (λa w ⟨v,h',q1,q2,K,q4⟩=>⟨v,h',q1,q2,K,H v h' K q4⟩) (k a w hf hw);cases x:o.guard with
 |none=>rw[x] at j;exact J o x j
 |some g=>
  rw[x] at j;obtain⟨dg,e,k⟩:=j;refine⟨dg,e,k.imp (λk=>⟨k.1,J _ rfl k.2⟩) λ⟨v,t,z,M⟩=>⟨v,t,z,H _ _ (EY.refl h) ⟨M,λp=>?_⟩⟩⟩;obtain⟨b,u,_⟩:=q X i (Acp.1 p) _ _ M;cases u
def Up.x {R:AR}{i:Nat}{o:Oper}{d:Nat}{j:List (Nat×Nat)}(k:Up P ops Q B n m h0 R i o d j):Tu P ops Q B n m h0 (λ_=>R) [] i o d j:=λX mt h p _=>by
 refine PA.imp (λfr b=>?_) _ _ (k mt h p);have l:∀o:Oper,o.guard=none→LF P ops (Exit.then (KS B n d (R i) h (fr++(m++mt))) Q) [o] B h n (fr++(m++mt))→LF P ops (Exit.then (KS B n d (vS R [] i h) h (fr++(m++mt))) Q) [o] B h n (fr++(m++mt)):=λo c k a w q s=>Vv c (λa w ⟨v,h',t,u,y,z⟩=>⟨v,h',t,u,y,z,λh=>by cases h⟩) (k a w q s);cases c:o.guard with
 |none=>rw[c] at b;exact l o c b
 |some g=>
  rw[c] at b;obtain⟨A,e,k⟩:=b;exact⟨A,e,k.imp (λk=>⟨k.1,l _ rfl k.2⟩) λk=>k⟩
def Wv {R:XR}(ks As:List Nat) (V:∀X i,i∈As→∀v h,R X i v h→∃b,Ol v=some b∧h0.size≤b∧b<h.size) (W:∀i,i∈As→∀X z v h,R X i v h→R z i v h) (Y:∀t,t∈ks→t<ops.size) (Z:ks.Nodup) (A:RM ops=true)
  (F:List Nat) (I:ks=[]∨TC ops ks F=true) (aa:PI ops ks) (ab:Ps ops ks=true) (J:Region.noSelect ops=true) (hQ:∀c a w,¬Q (.panic c) a w)
  (ac:∀f,f∈F→f∉As) (hF:∀f,f∈F→(f<ops.size∧f∉ks)∧NI ops f=true∧∃o d q,ops[f]? =some o∧o.dst=some d∧TN ops o q=true∧∀X,Pi P ops n m h0 (R X) f o q)
  (K:U5 ops ks n (m.map (·.1))=true)
  (l:∀i v h h' X z,EY h0 h→EY h h'→(∀b,X b→z b)→(∀b,z b→X b∨h.size≤b)→R X i v h→R z i v h')
  (ad:∀i,i∈As→i∉ks) (step:∀i o d,i∉ks→ops[i]? =some o→o.dst=some d→∃q,TN ops o q=true∧Tu P ops Q B n m h0 R As i o d q)
  (ae:∀a w h X,Wd B h w→EY h0 h→Fr n a m→(∀b,X b→h0.size≤b∧b<h.size)→(∀i,i<ops.size→i∉ks→∃d v,IQ ops i=some d∧a.tmps[d]? =some v∧R X i v h)→mS (Wl ops As) (λs=>a.tmps[s]?)→Aak (Wl ops As) (λs=>a.tmps[s]?) X→wpList P ops Q (ks.filterMap λt=>ops[t]?) a w)
  (p:Nat) (g:Array Bool) (a:Act) (w:World) (C:XB g=p) (x:SZ ops ks g) (af:∀i,g.getD i false=false) (h1:Wd B h0 w) (h2:Fr n a m):wpAny P .any ops Q p g a w:=by
 refine Wu (R:=YX As R) ks Y Z A F I aa ab J hQ (λf hf=>?_) K (λM i v h h' X z F o1 o2 _ x1 x2 k=>⟨l i v h h' X z o1 o2 x1 x2 k.1,k.2⟩) (λM al X F i v h _ k=>k) (λi o d x ho hd=>?_) (λa w h fp M g1 g2 g3 g4 g5 g6=>?_) p g a w C x ⟨λ_ _=>False,λ_=>undef,h0,h1,EY.refl h0,h2,λ_ _ h=>h.elim,λ_ _ _ h=>h.elim,λ_ _ _ h=>h,λi _ hl=>by rw[af i] at hl;cases hl⟩
 ·obtain⟨q1,q2,o,d,q,q3,q4,q5,q6⟩:=hF f hf;exact⟨q1,q2,o,d,q,q3,q4,q5,λM X mt h hO=>PA.imp (λfr k a ha=>by
   obtain⟨v,y1,y2⟩:=k a ha;exact⟨v,y1,y2,λb=>⟨λh=>h.elim,λh=>ac f hf h.1⟩⟩) _ _ (PA.sub (λi v hv=>YX.fr hv) _ _ (q6 X mt h hO))⟩
 ·obtain⟨q,q1,q2⟩:=step i o d x ho hd;exact⟨q,q1,YX.step V W l q2⟩
 ·have D:∀s,s∈Wl ops As→∀u,a.tmps[s]? =some u→∃i,i∈As∧IQ ops i=some s∧u=M i∧∀b,Ol u=some b→fp i b:=λs U u C=>by
   obtain⟨i,x,e⟩:=Afl.1 U;have ag:i<ops.size:=by
    rcases Acy i ops.size with h|h
    ·exact h
    ·unfold IQ at e;rw[Afu h] at e;cases e
   obtain⟨d,G,y,_,H⟩:=g6 i ag (ad i x);rw[e] at G;cases G;rw[C] at y;cases y;exact⟨i,x,e,rfl,λb A=>(H b).2 ⟨x,A⟩⟩
  refine ae a w h (UX fp) g1 g2 g3 (λb ⟨j,hj⟩=>g4 j b hj) (λi x hk=>?_) (λs U s' ah ai u u' C aj b b' A ak e=>?_) (λs U u C b A=>?_)
  ·obtain⟨d,G,y,H,_⟩:=g6 i x hk;exact⟨d,M i,G,y,H⟩
  ·obtain⟨i,_,G,_,y⟩:=D s U u C;obtain⟨j,_,H,_,e4⟩:=D s' ah u' aj;subst e;have:=g5 i j b (y b A) (e4 b ak);subst this;rw[G] at H;exact ai (Acg H)
  ·obtain⟨i,_,_,_,y⟩:=D s U u C;exact⟨i,y b A⟩
end
def sE (ops:Array Oper) (a:Nat) (F:List Nat):Bool:=Nat.ble a ops.size&&Wn ops (List.range' a (ops.size-a)) F
def Yo {α}(l:List α):∀(j a:Nat),l.length-a=j→(List.range' a j).filterMap (λt=>l[t]?)=l.drop a
 |0,a,h=>by rw[Aee (by omega)];rfl
 |j+1,a,h=>by
  have b:a<l.length:=by omega
  rw[List.range'_succ,List.filterMap_cons_some (Acn b),Yo l j (a+1) (by omega),←Aen b]
section
variable {P:Program}{ex:List (Nat×AP)}{RR N:AP}{cs:List Code}{B:World}{h:AS}{n:FN}{m m0:SM}{S:Nat→Prop}{L:List HP}
def Yx {l:List Oper}{id:Nat}(ks F As:List Nat) (R:XR) (pss:List (List (Nat×Nat))) (fs:List (Nat×Nat)) {ls:List Oper}(hm:P.follows .mixedOrders=true) (hc:Wn l.toArray ks F=true) (ms:List Nat) (aa:m.map (·.1)=ms) (G:U5 l.toArray ks n ms=true)
  (y:U3 l.toArray ks l pss=true) (ab:(fs.all λp=>Nat.blt p.1 l.length&& !ks.contains p.1&&(IQ l.toArray p.1).any (Nat.beq p.2 ·))=true) (ac:(ks.filterMap λt=>l[t]?)=ls) (H:Un m0 m)
  (A:∀i v C V X Y,EY h C→EY C V→(∀b,X b→Y b)→(∀b,Y b→X b∨C.size≤b)→R X i v C→R Y i v V)
  (ad:(As.all λi=> !ks.contains i&& !F.contains i)=true) (I:∀i,i∈As→mJ h R i)
  (hF:QK P l.toArray ks n m h R F)
  (step:FW P l.toArray (Qx ex RR (W P ex RR cs N)) B n m h R ks As 0 l pss)
  (ae:∀h' X,EY h h'→(∀b,X b→h.size≤b∧b<h'.size)→PA (R X) h' (λfr=>mS (Wl l.toArray As) (lk fr)→Aak (Wl l.toArray As) (lk fr) X→LF P l.toArray (Qx ex RR (W P ex RR cs N)) ls B h' n (fr++m)) fs []):WF P ex RR (.region id l.toArray true::cs) N B h n m0:=by
 intro a w J hw;subst aa;simp only[Wn,Acj,Ac5,Ac1] at hc;obtain⟨⟨⟨⟨⟨⟨C,V⟩,h3⟩,h4⟩,h5⟩,h6⟩,h7⟩:=hc;simp only[U3,Acj] at y;have K:l.length=pss.length:=Aco y.1;have q:∀i,i∈As→i∉ks∧i∉F:=λi g=>by
  have:=Acm.1 ad i g;simp only[Acj,Ada] at this;exact⟨λh=>(by rw[Acp.2 h] at this;cases this.1),λh=>(by rw[Acp.2 h] at this;cases this.2)⟩
 refine λrd af=>QR af Nk hm (Wv (R:=R) (B:=B) (h0:=h) (n:=n) (m:=m) ks As (λX i g v h' M=>by obtain⟨r,Q,Z⟩:=I i g;rw[Q] at M;exact Z v h' M) (λi g X Y v h' M=>by obtain⟨r,Q,_⟩:=I i g;rw[Q] at M ⊢;exact M) (λt ht=>by have:=Acm.1 C t ht;simp [Nat.blt] at this ⊢;omega) V h6 F (h3.imp (λe=>by cases ks with|nil=>rfl|cons _ _=>simp at e) λx=>x) (M6 h4) h5 h7 (λc a w hq=>hq) (λf J hA=>(q f hA).2 J) (λf J=>hF.at_ f J) G A (λi g=>(q i g).1) (λi o d g ho hd=>?_) (λa w h' X g1 g2 g3 gX g4 g5 g6=>?_) _ _ _ _ ?_ ⟨by simp,λj oj _ hl=>(by rw[getD_replicate_false] at hl;cases hl),λt ht=>getD_in (by have:=Acm.1 C t ht;simp [Nat.blt] at this ⊢;omega) (getD_replicate_false _ _)⟩ (λi=>getD_replicate_false _ _) hw.drew (J.sub H))
 ·have D:l[i]? =some o:=by simpa using ho
  obtain⟨ps,q1,q2⟩:=FW.at_ (k:=0) step K (by rw[Adj];exact g) D hd;rw[Adj] at q2;refine⟨ps,?_,q2⟩;have ai:i<l.length:=(Acq.1 D).1;have hz:((o,ps),i)∈(l.zip pss).zipIdx:=by
   rw[Aek];exact⟨i,by rw[List.getElem?_zipIdx,(Af8 (z:=(o,ps))).2 ⟨D,q1⟩];simp⟩
  have:=Acm.1 y.2 _ hz;simp only[Ac5,Acp,g,Ad1] at this;exact this
 ·obtain⟨fr,k1,k2⟩:=NP (a:=a) (n:=n) _ _ (ae h' X g2 gX) (λp hp=>by
   have e:=Acm.1 ab p hp;simp only[Acj,Ada] at e;have Q:p.1<l.toArray.size:=by have:=e.1.1;simp [Nat.blt] at this ⊢;omega
   obtain⟨d,v,q1,q2,q3⟩:=g4 p.1 Q (λh=>by rw[Acp.2 h] at e;cases e.1.2);have Z:=e.2;rw[q1] at Z;have:p.2=d:=Aco (by simpa using Z);exact⟨v,by rw[this];exact q2,q3⟩) ⟨g3.dfr,g3.siz,λi v g=>by simp [lk] at g⟩
  have U:(ks.filterMap λt=>l.toArray[t]?)=ls:=by rw[←ac];congr 1;funext t;simp
  rw[U];exact k1 (λs hs s' ag ah u u' e e'=>g5 s hs s' ag ah u u' (k2.at_ _ _ e) (k2.at_ _ _ e')) (λs hs u e=>g6 s hs u (k2.at_ _ _ e)) a w (k2.append g3) g1
 ·unfold XB;rw[Array.toList_replicate];simp
def Tj {l:List Oper}{id:Nat}(b:Nat) (F:List Nat) (R:AR) (pss:List (List (Nat×Nat))) (fs:List (Nat×Nat)) (hm:P.follows .mixedOrders=true) (hc:sE l.toArray b F=true) (ms:List Nat) (G:m.map (·.1)=ms) (z:U5 l.toArray (List.range' b (l.toArray.size-b)) n ms=true)
  (H:XQ l.toArray (l.take b) pss=true) (I:(fs.all λp=>Nat.blt p.1 b&&(IQ l.toArray p.1).any (Nat.beq p.2 ·))=true) (A:Un m0 m)
  (q:∀i v s u,EY h s→EY s u→R i v s→R i v u)
  (hF:Ry P l.toArray b n m h R F)
  (step:A7 P l.toArray (Qx ex RR (W P ex RR cs N)) B n m h R 0 (l.take b) pss)
  (J:∀h',EY h h'→PA R h' (λfr=>LF P l.toArray (Qx ex RR (W P ex RR cs N)) (l.drop b) B h' n (fr++m)) fs []):WF P ex RR (.region id l.toArray true::cs) N B h n m0:=by
 intro a w C hw;subst G;simp only[sE,Wn,Acj,Ac5,Ac1] at hc;obtain⟨h0,⟨⟨⟨⟨⟨s,u⟩,h3⟩,h4⟩,h5⟩,h6⟩,h7⟩:=hc;have ac:b≤l.toArray.size:=Afh h0;have g:∀t,t∈List.range' b (l.toArray.size-b)↔b≤t∧t<l.toArray.size:=λt=>by rw[List.mem_range'_1];omega
 refine λrd K=>QR K Nk hm (Wv (R:=λ_=>R) (B:=B) (h0:=h) (n:=n) (m:=m) (List.range' b (l.toArray.size-b)) [] (λX i k=>by cases k) (λi k=>by cases k) (λt M=>((g t).1 M).2) u h6 F (h3.imp (λe=>List.isEmpty_iff.1 e) λx=>x) (M6 h4) h5 h7 (λc a w hq=>hq) (λf C hA=>by cases hA) (λf C=>by
  obtain⟨D,y,o,d,Q,U,q4,q5,q6⟩:=hF.at_ f C;exact⟨⟨by omega,λh=>by have:=(g f).1 h;omega⟩,y,o,d,Q,U,q4,q5,λ_=>q6⟩) z (λi v s u _ _ o1 o2 _ _ r=>q i v s u o1 o2 r) (λi k=>by cases k) (λi o d k V hd=>?_) (λa w h' X g1 g2 Y gX g4 g5 g6=>?_) _ _ _ _ ?_ ⟨by simp,λj oj _ hl=>(by rw[getD_replicate_false] at hl;cases hl),λt M=>getD_in (by have:=((g t).1 M).2;simp at this ⊢;omega) (getD_replicate_false _ _)⟩ (λi=>getD_replicate_false _ _) hw.drew (C.sub A))
 ·have Z:i<l.toArray.size:=by
   rcases Acy i l.toArray.size with h|h
   ·exact h
   ·rw[Afu h] at V;cases V
  have aa:i<b:=by
   rcases Acy i b with h|h
   ·exact h
   ·exact absurd ((g i).2 ⟨h,Z⟩) k
  have ab:(l.take b)[i]? =some o:=by rw[Ad3 aa];simpa using V
  obtain⟨Q,D,y⟩:=A7.at_ step H ab hd;rw[Adj] at y;exact⟨Q,D,y.x⟩
 ·obtain⟨fr,k1,k2⟩:=NP (a:=a) (n:=n) _ _ (J h' g2) (λp hp=>by
   have e:=Acm.1 I p hp;simp only[Acj] at e;have e1:p.1<b:=(by simpa [Nat.blt] using e.1:p.1+1≤b)
   obtain⟨d,v,D,y,U⟩:=g4 p.1 (by omega) (λh=>by have:=(g p.1).1 h;omega);have e2:=e.2;rw[D] at e2;have:p.2=d:=Aco (by simpa using e2);exact⟨v,by rw[this];exact y,U⟩) ⟨Y.dfr,Y.siz,λi v k=>by simp [lk] at k⟩
  rw[show (List.range' b (l.toArray.size-b)).filterMap (λt=>l.toArray[t]?)=l.drop b from by
   simp only[List.getElem?_toArray,Afj];exact Yo l _ b rfl]
  exact k1 a w (k2.append Y) g1
 ·unfold XB;rw[Array.toList_replicate];simp
def Nd {l:List Oper}{id:Nat}(a:Nat) (R:AR) (pss:List (List (Nat×Nat))) (g:List (Nat×Nat)) (w:P.follows .mixedOrders=true) (x:sE l.toArray a []=true) (j:List Nat) (k:m.map (·.1)=j) (c:U5 l.toArray (List.range' a (l.toArray.size-a)) n j=true)
  (o:XQ l.toArray (l.take a) pss=true) (q:(g.all λp=>Nat.blt p.1 a&&(IQ l.toArray p.1).any (Nat.beq p.2 ·))=true) (d:Un m0 m)
  (b:∀i v s u,EY h s→EY s u→R i v s→R i v u)
  (step:A7 P l.toArray (Qx ex RR (W P ex RR cs N)) B n m h R 0 (l.take a) pss)
  (t:∀h',EY h h'→PA R h' (λfr=>LF P l.toArray (Qx ex RR (W P ex RR cs N)) (l.drop a) B h' n (fr++m)) g []):WF P ex RR (.region id l.toArray true::cs) N B h n m0:=Tj a [] R pss g w x j k c o q d b trivial step t
end
def xL:SM→SM→List Nat→Option SM
 |[],_,_=>some []
 |(k,v)::r,m,s=>match cond (s.any λj=>Nat.beq k j) (some v) (lk m k) with
  |some w=>match xL r m (k::s) with
   |some l=>some ((k,w)::l)
   |none=>none
  |none=>none
def kq:∀{c m l:SM}(s:List Nat),xL c m s=some l→c=l→∀i u,(s.any λj=>Nat.beq i j)=false→lk c i=some u→lk m i=some u
 |[],m,l,s,_,_,i,u,_,y=>by cases y
 |(k,v)::r,m,l,s,y,e,i,u,d,a=>by
  simp only[xL] at y;split at y
  ·rename_i w g;split at y
   ·rename_i x n;cases y;injection e with o p
    injection o with _ q
    simp only[lk] at a;cases b:Nat.beq k i with
    |true=>
     have:=Aco b;subst this;rw[b,Acc] at a;rw[d,Acd] at g;rw[g,←q,a]
    |false=>
     rw[b,Acd] at a;refine kq (k::s) n p i u ?_ a;rw[List.any_cons,d,Bool.or_false];cases t:Nat.beq i k with
     |false=>rfl
     |true=>
      have:=Aco t;subst this;rw[show Nat.beq i i=true by simp] at b;cases b
   ·cases y
  ·cases y
section
variable {P:Program}{ops:Array Oper}{C:World→Prop}{n:FN}{m:SM}
def ZF {b:SM}(d:xL b m []=some b):QF P ops C (λa=>Fr n a b) [] n m:=QF.nil λa c=>⟨c.dfr,c.siz,λi u g=>c.at_ i u (kq [] d rfl i u rfl g)⟩
def uO {l:List Oper}{c b:SM}(g:Rc ops n.1 l m=some c) (d:xL b c []=some b):QF P ops C (λa=>Fr n a b) l n m:=OR g (ZF d)
end
section
variable {P:Program}{ex:List (Nat×AP)}{RR N:AP}{cs:List Code}{B:World}{h:AS}{n:FN}{m m':SM}{S:Nat→Prop}{L:List HP}{C:World→Prop}{l:List Oper}{fuel:Nat}{listed:Array Bool}
variable {d:Nat}{ty:TypeId}{pos:String}{af:Array Edge}{X Y:Operand}{t:TypeId}{v:Value}
def Yd (l:List Oper) (m:SM) (g:Option (Nat×Bool)):Bool:=match g with
 |none=>true
 |some (j,b)=>match (l[j]?).bind (·.dst) with
  |none=>false
  |some e=>match lk m e with
   |some (.bool c)=>c==b
   |_=>false
def UW {o:Oper}{a:Act}(k:Fr n a m) (d:Yd l m o.guard=true):Region.wanted o (yielded l.toArray a.tmps)=true:=by
 unfold Yd at d;unfold Region.wanted;cases p:o.guard with
 |none=>rfl
 |some q=>
  obtain⟨j,b⟩:=q;rw[p] at d;simp only at d ⊢;cases g:(l[j]?).bind (·.dst) with
  |none=>rw[g] at d;cases d
  |some e=>
   rw[g] at d;simp only at d;cases i:lk m e with
   |none=>rw[i] at d;cases d
   |some u=>
    rw[i] at d;cases u with
    |bool c=>
     have s:c=b:=by simpa using d
     have:=k.at_ e _ i;subst s;simp [yielded,g,this]
    |_=>cases d
def Aba (l:List Oper) (m:SM) (g:Option (Nat×Bool)):Bool:=match g with
 |none=>false
 |some (j,b)=>match (l[j]?).bind (·.dst) with
  |none=>false
  |some e=>match lk m e with
   |some (.bool c)=> !(c==b)
   |some _=>true
   |none=>false
def rO {o:Oper}{a:Act}(p:Fr n a m) (d:Aba l m o.guard=true):Region.wanted o (yielded l.toArray a.tmps)=false:=by
 unfold Aba at d;unfold Region.wanted;cases s:o.guard with
 |none=>rw[s] at d;cases d
 |some q=>
  obtain⟨j,b⟩:=q;rw[s] at d;simp only at d ⊢;cases g:(l[j]?).bind (·.dst) with
  |none=>rw[g] at d;cases d
  |some e=>
   rw[g] at d;simp only at d;cases i:lk m e with
   |none=>rw[i] at d;cases d
   |some u=>
    rw[i] at d;cases u with
    |bool c=>
     have t:(c==b)=false:=by simpa using d
     have:=p.at_ e _ i;have k:¬c=b:=by simpa using t
     simp [yielded,g,this,k]
    |_=>
     have:=p.at_ e _ i;simp [yielded,g,this]
def M0 {o:Op}{gd:Option (Nat×Bool)}(i:Nat) (q:l[i]? =some ⟨some d,o,ty,pos,af,gd⟩) (c:Sf l listed i=true) (s:Yd l m gd=true) (t:∀w,Wd B h w→C w) (hd:Nat.blt d n.1=true)
  (b:∀a w,Fr n a m→C w→(execOp a.eval ⟨some d,o,ty,pos,af,gd⟩).run P w= .ok (.value v) w) (k:HF P l (QW P ex RR cs N) C fuel (listed.setIfInBounds i true) B h n ((d,v)::m)):HF P l (QW P ex RR cs N) C (fuel+1) listed B h n m:=by
 intro a w g p;simp only[Sf,Acj] at c;exact wpAnyH_take (oi:=⟨some d,o,ty,pos,af,gd⟩) (v:=v) (by simpa using q) c.1.1 c.1.2 c.2 (λ_ _ _ u=>u.elim) (.inl ⟨UW g s,λw' j=>b a w' g j⟩) (t w p) (k _ _ (g.put hd v) p)
def Gx {o:Op}{gd:Option (Nat×Bool)}(i:Nat) (j:l[i]? =some ⟨some d,o,ty,pos,af,gd⟩) (c:Sf l listed i=true) (p:Aba l m gd=true) (q:∀w,Wd B h w→C w) (hd:Nat.blt d n.1=true)
  (k:HF P l (QW P ex RR cs N) C fuel (listed.setIfInBounds i true) B h n ((d,undef)::m)):HF P l (QW P ex RR cs N) C (fuel+1) listed B h n m:=by
 intro a w b g;simp only[Sf,Acj] at c;exact wpAnyH_take (oi:=⟨some d,o,ty,pos,af,gd⟩) (v:=undef) (by simpa using j) c.1.1 c.1.2 c.2 (λ_ _ _ s=>s.elim) (.inr ⟨rO b p,rfl⟩) (q w g) (k _ _ (b.put hd undef) g)
def J5 {gd:Option (Nat×Bool)}(i:Nat) (b:l[i]? =some ⟨some d,.move X,ty,pos,af,gd⟩) (c:Sf l listed i=true) (g:Yd l m gd=true) (j:∀w,Wd B h w→C w) (o:B4 m X=some v) (hd:Nat.blt d n.1=true) (k:HF P l (QW P ex RR cs N) C fuel (listed.setIfInBounds i true) B h n ((d,v)::m)):HF P l (QW P ex RR cs N) C (fuel+1) listed B h n m:=
 M0 i b c g j hd (λa w p _=>by simp [execOp,p.eval o]) k
def Pf {gd:Option (Nat×Bool)}(i:Nat) (b:l[i]? =some ⟨some d,.assign X,ty,pos,af,gd⟩) (c:Sf l listed i=true) (g:Yd l m gd=true) (j:∀w,Wd B h w→C w) (o:B4 m X=some v) (hd:Nat.blt d n.1=true) (k:HF P l (QW P ex RR cs N) C fuel (listed.setIfInBounds i true) B h n ((d,v)::m)):HF P l (QW P ex RR cs N) C (fuel+1) listed B h n m:=
 M0 i b c g j hd (λa w p _=>by simp [execOp,p.eval o]) k
def ZK {gd:Option (Nat×Bool)}{b:Bool}(i:Nat) (g:l[i]? =some ⟨some d,.unOp .not t X,ty,pos,af,gd⟩) (c:Sf l listed i=true) (j:Yd l m gd=true) (o:∀w,Wd B h w→C w) (p:B4 m X=some (.bool b)) (hd:Nat.blt d n.1=true) (k:HF P l (QW P ex RR cs N) C fuel (listed.setIfInBounds i true) B h n ((d,.bool (!b))::m)):HF P l (QW P ex RR cs N) C (fuel+1) listed B h n m:=
 M0 i g c j o hd (λa w q _=>by simp [execOp,q.eval p,Op.unary]) k
def N6 {gd:Option (Nat×Bool)}{b:Bool}{Z:Operand}(i:Nat) (j:l[i]? =some ⟨some d,.pick Z X Y,ty,pos,af,gd⟩) (c:Sf l listed i=true) (o:Yd l m gd=true) (p:∀w,Wd B h w→C w) (q:B4 m Z=some (.bool b)) (s:B4 m (if b then X else Y)=some v) (hd:Nat.blt d n.1=true) (k:HF P l (QW P ex RR cs N) C fuel (listed.setIfInBounds i true) B h n ((d,v)::m)):HF P l (QW P ex RR cs N) C (fuel+1) listed B h n m:=
 M0 i j c o p hd (λa w g _=>by cases b<;>simp [execOp,g.eval q,asBool]<;>exact g.eval (by simpa using s)) k
def biV (o:BinOp) (x y:Int):Option Value:=match o with
 | .add=>some (.int .i64 (BT (x+y)))
 | .eql=>some (.bool (decide (x=y)))
 | .neq=>some (.bool (decide (x≠y)))
 | .lss=>some (.bool (decide (x<y)))
 | .geq=>some (.bool (decide (y≤x)))
 | .leq=>some (.bool (decide (x≤y)))
 | .gtr=>some (.bool (decide (y<x)))
 |_=>none
def RS {gd:Option (Nat×Bool)}{o:BinOp}{t2:TypeId}{x y:Int}(i:Nat) (g:l[i]? =some ⟨some d,.binOp o t X Y t2,ty,pos,af,gd⟩) (c:Sf l listed i=true) (j:Yd l m gd=true) (p:∀w,Wd B h w→C w) (q:B4 m X=some (.int .i64 x)) (s:B4 m Y=some (.int .i64 y)) (u:biV o x y=some v) (hd:Nat.blt d n.1=true) (k:HF P l (QW P ex RR cs N) C fuel (listed.setIfInBounds i true) B h n ((d,v)::m)):HF P l (QW P ex RR cs N) C (fuel+1) listed B h n m:=
 M0 i g c j p hd (λa w b _=>by
  have z:(eqGuard o t X Y (.int .i64 x) (.int .i64 y)).run P w= .ok () w:=by unfold eqGuard;cases o<;>simp
  have A:(binOp o t (.int .i64 x) (.int .i64 y)).run P w= .ok v w:=by
   cases o<;>cases u
   ·simp [binOp,Op.intArith]
   ·simp [binOp,Op.intCmp,Po]
   ·simp [binOp,Op.intCmp,bne,Po]
   ·simp [binOp,Op.intCmp]
   ·simp [binOp,Op.intCmp]
   ·simp [binOp,Op.intCmp]
   ·simp [binOp,Op.intCmp]
  simp [execOp,b.eval q,b.eval s,z,A]) k
def ZL {gd:Option (Nat×Bool)}{b:Option Addr}{len cap:Nat}{e sz:Nat}(i:Nat) (g:l[i]? =some ⟨some d,.call ⟨.builtin .len,#[X],#[t]⟩,ty,pos,af,gd⟩) (c:Sf l listed i=true) (j:Yd l m gd=true) (o:∀w,Wd B h w→C w) (p:B4 m X=some (.slice b len cap)) (q:O3 P t e sz=true) (hd:Nat.blt d n.1=true) (k:HF P l (QW P ex RR cs N) C fuel (listed.setIfInBounds i true) B h n ((d,.int .i64 len)::m)):HF P l (QW P ex RR cs N) C (fuel+1) listed B h n m:=
 M0 i g c j o hd (λa w s _=>by
  obtain⟨i,u,_⟩:=ML q;simp [execOp,resolve,invoke,builtin,Builtin.len_,s.eval p,run_underlying u,goInt]) k
def SK (S:Nat→Prop) (h:AS) (w:World):Prop:=∀b,S b→w.heap[b]? =h[b]?
def SK.of {S S':Nat→Prop}{h h':AS}{w:World}(e:CJ S h S' h'):Wd B h' w→SK S h w:=λa b c=>by rw[a.heap];exact e.same b c
def mP {α}{r:A5 α}{xs:List α}{a:Nat→Prop}{h0:AS}{gd:Option (Nat×Bool)}{e:Nat}(i:Nat) (b:l[i]? =some ⟨some d,.call ⟨.builtin .len,#[X],#[t]⟩,ty,pos,af,gd⟩) (c:Sf l listed i=true) (g:Yd l m gd=true) (j:∀w,Wd B h w→C w) (o:B4 m X=some v) (k0:Sl a h0 r v xs) (p:O3 P t e r.sz=true) (hd:Nat.blt d n.1=true) (k:xs.length≤maxLen→HF P l (QW P ex RR cs N) C fuel (listed.setIfInBounds i true) B h n ((d,.int .i64 (xs.length:Int))::m)):HF P l (QW P ex RR cs N) C (fuel+1) listed B h n m:=by
 obtain⟨s,cap,rfl,q⟩:=k0.len;exact ZL i b c g j o p hd (k q)
def Xp {α}{r:A5 α}{xs:List α}{g:Nat→Prop}{h0:AS}{gd:Option (Nat×Bool)}{e:Nat}{j:Int}{x:α}(i:Nat) (p:l[i]? =some ⟨some d,.indexAddr t X Y,ty,pos,af,gd⟩) (c:Sf l listed i=true) (s:Yd l m gd=true) (u:∀w,Wd B h w→C w) (y:B4 m X=some v) (z:B4 m Y=some (.int .i64 j)) (k0:Sl g h0 r v xs) (A:O3 P t e r.sz=true) (b:Go.Proofs.YtabonambpbofgaaGreat.ix xs j=some x) (hd:Nat.blt d n.1=true)
  (k:∀q,Pt g h0 r q x→HF P l (QW P ex RR cs N) C fuel (listed.setIfInBounds i true) B h n ((d,q)::m)):HF P l (QW P ex RR cs N) C (fuel+1) listed B h n m:=by
 obtain⟨D,cap,rfl,F⟩:=k0.at_ (FB b).2;have G:j.toNat<xs.length:=(Acq.1 (FB b).2).1;exact M0 i p c s u hd (λa w o _=>by simp [execOp,o.eval y,o.eval z,MM (P:=P) (w:=w) (cap:=cap) (a:=D) A (FB b).1 G]) (k _ F)
def iM {α β}{r:A5 α}{r':A5 β}{f:α→β}{x:α}{j off:Nat}{b:Nat→Prop}{h0:AS}{gd:Option (Nat×Bool)}{p:Value}(i:Nat) (g:l[i]? =some ⟨some d,.fieldAddr t X j,ty,pos,af,gd⟩) (c:Sf l listed i=true) (o:Yd l m gd=true) (s:∀w,Wd B h w→C w) (u:B4 m X=some p) (k0:Pt b h0 r p x) (v:FZ r off r' f) (y:aA P t j off=true) (hd:Nat.blt d n.1=true)
  (k:∀q,Pt b h0 r' q (f x)→HF P l (QW P ex RR cs N) C fuel (listed.setIfInBounds i true) B h n ((d,q)::m)):HF P l (QW P ex RR cs N) C (fuel+1) listed B h n m:=by
 obtain⟨a,rfl,z⟩:=k0.fld v;exact M0 i g c o s hd (λa w A _=>by simp [execOp,A.eval u,MN y]) (k _ z)
def NS {α}{r:A5 α}{x:α}{g:Nat→Prop}{h0:AS}{gd:Option (Nat×Bool)}{p:Value}(i:Nat) (q:l[i]? =some ⟨some d,.load t X,ty,pos,af,gd⟩) (c:Sf l listed i=true) (s:Yd l m gd=true) (u:∀w,Wd B h w→C w) (y:∀w,C w→SK g h0 w) (z:B4 m X=some p) (k0:Pt g h0 r p x) (A:Kh P t r.sz r.ag=true) (D:r.ag=false→r.sz=1) (hd:Nat.blt d n.1=true)
  (k:∀v,Rd g h0 r v x→HF P l (QW P ex RR cs N) C fuel (listed.setIfInBounds i true) B h n ((d,v)::m)):HF P l (QW P ex RR cs N) C (fuel+1) listed B h n m:=by
 obtain⟨cs',F,o⟩:=k0;have b:=r.len o;refine M0 (v:=if r.ag then .agg cs'.toArray else cs'.headD undef) i q c s u hd (λa w G H=>?_) (k _ ⟨cs',rfl,o⟩);have j:N8 g w.heap p cs':=F.mono (λ_ x=>x) (y w H);have:=NC (P:=P) (w:=w) (t:=t) j b A D;simp [execOp,G.eval z,this]
def W1 (i j:Nat) {d g:Oper}(v:l[i]? =some d) (x:l[j]? =some g) (p:d.guard=none) (s:g.guard=none) (c:Region.ready .any l.toArray listed=[i,j])
  (y:LF P l.toArray (Exit.then (λo w'=>C w'∧wpAnyH P .any l.toArray (QW P ex RR cs N) C fuel (listed.setIfInBounds i true) o w') (QW P ex RR cs N)) [d] B h n m)
  (z:LF P l.toArray (Exit.then (λo w'=>C w'∧wpAnyH P .any l.toArray (QW P ex RR cs N) C fuel (listed.setIfInBounds j true) o w') (QW P ex RR cs N)) [g] B h n m):HF P l (QW P ex RR cs N) C (fuel+1) listed B h n m:=by
 intro a w t u;refine wpAnyH_all c (by simp) λq k=>?_;rcases Acl.1 k with rfl|k
 ·unfold wpOp;have b:l.toArray[q]? =some d:=by simpa using v
  simp only[b];rw[Acf (by simp [Region.wanted,p])];exact Jz p (y a w t u)
 ·rw[Ac3] at k;subst k;unfold wpOp;have b:l.toArray[q]? =some g:=by simpa using x
  simp only[b];rw[Acf (by simp [Region.wanted,s])];exact Jz s (z a w t u)
def zV (i j u:Nat) {p s t:Oper}(v:l[i]? =some p) (z:l[j]? =some s) (A:l[u]? =some t) (k:p.guard=none) (D:s.guard=none) (F:t.guard=none) (c:Region.ready .any l.toArray listed=[i,j,u])
  (x:LF P l.toArray (Exit.then (λb w'=>C w'∧wpAnyH P .any l.toArray (QW P ex RR cs N) C fuel (listed.setIfInBounds i true) b w') (QW P ex RR cs N)) [p] B h n m)
  (G:LF P l.toArray (Exit.then (λb w'=>C w'∧wpAnyH P .any l.toArray (QW P ex RR cs N) C fuel (listed.setIfInBounds j true) b w') (QW P ex RR cs N)) [s] B h n m)
  (H:LF P l.toArray (Exit.then (λb w'=>C w'∧wpAnyH P .any l.toArray (QW P ex RR cs N) C fuel (listed.setIfInBounds u true) b w') (QW P ex RR cs N)) [t] B h n m):HF P l (QW P ex RR cs N) C (fuel+1) listed B h n m:=by
 intro a w I J;refine wpAnyH_all c (by simp) λq d=>?_;have one:∀{g:Nat} {o:Oper},l[g]? =some o→o.guard=none→LF P l.toArray (Exit.then (λb w'=>C w'∧wpAnyH P .any l.toArray (QW P ex RR cs N) C fuel (listed.setIfInBounds g true) b w') (QW P ex RR cs N)) [o] B h n m→wpOp P l.toArray (QW P ex RR cs N) g (λb w'=>C w'∧wpAnyH P .any l.toArray (QW P ex RR cs N) C fuel (listed.setIfInBounds g true) b w') a w:=by
  intro g o v k x;unfold wpOp;have y:l.toArray[g]? =some o:=by simpa using v
  simp only[y];rw[Acf (by simp [Region.wanted,k])];exact Jz k (x a w I J)
 rcases Acl.1 d with rfl|d
 ·exact one v k x
 rcases Acl.1 d with rfl|d
 ·exact one z D G
 ·rw[Ac3] at d;subst d;exact one A F H
def HM (i:Nat) {b:Option Nat}{o:Op}{gd:Option (Nat×Bool)}(s:l[i]? =some ⟨b,o,ty,pos,af,gd⟩) (t:Yd l m gd=true) (c:Region.ready .any l.toArray listed=[i])
  (k:LF P l.toArray (Exit.then (λu w'=>C w'∧wpAnyH P .any l.toArray (QW P ex RR cs N) C fuel (listed.setIfInBounds i true) u w') (QW P ex RR cs N)) [⟨b,o,ty,pos,af,none⟩] B h n m):HF P l (QW P ex RR cs N) C (fuel+1) listed B h n m:=by
 intro a w g v;refine wpAnyH_all c (by simp) λj p=>?_;rw[Ac3] at p;subst p;unfold wpOp;have d:l.toArray[j]? =some ⟨b,o,ty,pos,af,gd⟩:=by simpa using s
 simp only[d];rw[Acf (UW (o:=⟨b,o,ty,pos,af,gd⟩) g t)];have:=Jz (o:=⟨b,o,ty,pos,af,none⟩) rfl (k a w g v);cases gd with
 |none=>exact this
 |some q=>exact QM this
end
def SQ (R:Nat→Int) (a b:Nat):Bool:=cond (!decide (R a=R b)) (decide (R b<R a)) (decide (a<b))
def T4 (lt:Int→Int→Bool) (x:Int):List Int→List Int
 |[]=>[x]
 |y::l=>cond (lt y x) (y::T4 lt x l) (x::y::l)
def N0 (lt:Int→Int→Bool):List Int→List Int
 |[]=>[]
 |x::l=>T4 lt x (N0 lt l)
def R4 (c:List Int) (a b:Int):Bool:=SQ (λt=>c.getD t 0) a.toNat b.toNat
def TD (a b:List Int):Option (List Int):=
 if a.length=b.length∧1≤a.length∧a.length≤64∧(a.all λx=>decide (0≤x)&&decide (x<a.length))=true then some (N0 (R4 b) a) else none
def Pp (lt:Int→Int→Bool) (x:Int):∀l,(T4 lt x l).Perm (x::l)
 |[]=> .refl _
 |y::l=>by
  unfold T4;cases lt y x with
  |true=>exact((Pp lt x l).cons y).trans (.swap x y l)
  |false=>exact .refl _
def NH (lt:Int→Int→Bool):∀l,(N0 lt l).Perm l
 |[]=> .refl _
 |x::l=>(Pp lt x _).trans ((NH lt l).cons x)
end Go.Proofs.YtabonambpbofgaaGreat
