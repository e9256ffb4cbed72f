import Derived.Test.YtibidnaedddfdaaGreatECore17
import Derived.Maps.RangeRun
namespace Go.Proofs.YtibidnaedddfdaaGreat
set_option linter.all false
open Go.RowKit
def nA (L:List HP):HP where
 holds:=λS F h=>Sp S L h F
 loc:=λk s e=>Sp.ext k s e λ_ x=>x
def VC (l:Nat) (r:Loop):HP where
 holds:=λ_ F h=>(∀b,F b↔b=l)∧h[l]? =some (.loop r)
 loc:=λ⟨a,c⟩ _ e=>⟨a,(e l (.inr ((a l).2 rfl))).trans c⟩
def cA {S:Nat→Prop}{h:AX}:∀{L1 L:List HP}{A:Nat→Prop},Sp S (L1++L) h A→∃F,Sp S L1 h F∧(∀b,F b→A b)∧Sp S L h (λb=>A b∧¬F b)
 |[],L,A,k=>⟨λ_=>False,trivial,λ_ x=>x.elim,k.mono λb a=>⟨a,λx=>x⟩⟩
 |H::L1,L,A,⟨F,d,g,i⟩=>by
  obtain⟨G,j,c,l⟩:=cA i;refine⟨λb=>F b∨G b,⟨F,d,λb a=> .inl a,j.mono λb a=>⟨.inr a,(c b a).2⟩⟩,λb a=>a.elim (g b) λx=>(c b x).1,l.mono λb a=>⟨a.1.1,λx=>x.elim a.1.2 a.2⟩⟩
def Sp.app2 {S:Nat→Prop}{h:AX}:∀{L1 L:List HP}{A F:Nat→Prop},Sp S L1 h F→(∀b,F b→A b)→Sp S L h (λb=>A b∧¬F b)→Sp S (L1++L) h A
 |[],L,A,F,_,_,k=>k.mono λb a=>a.1
 |H::L1,L,A,F,⟨G,d,c,g⟩,i,k=>⟨G,d,λb a=>i b (c b a),Sp.app2 g (λb a=>⟨i b a.1,a.2⟩) (k.mono λb a=>⟨⟨a.1,λx=>a.2 (c b x)⟩,λx=>a.2 x.1⟩)⟩
section
variable {S:Nat→Prop}{L L1 M:List HP}{h:AX}{H:HP}
def X2 (a:St S (L1++L) h):St S (nA L1::L) h:=by
 obtain⟨F,b,c,d⟩:=cA a.2;exact⟨a.1,F,b,c,d⟩
def UL (a:St S (nA L1::L) h):St S (L1++L) h:=by
 obtain⟨F,b,c,d⟩:=a.2;exact⟨a.1,Sp.app2 b c d⟩
def Sx:∀{M:List HP},P6 (M++H::L) H (M++L)
 |[]=> .head
 |K::M=> .tail Sx
def Ve {H':HP}:∀{M:List HP},Mp (M++H::L) H H' (M++H'::L)
 |[]=> .head
 |K::M=> .tail Ve
def St.mid (a:St S (H::(M++L)) h):St S (M++H::L) h:=⟨a.1,Pp Sx a.2⟩
def bY (a:St S (M++H::L) h):St S (H::(M++L)) h:=⟨a.1,Sp.pick Sx a.2⟩
def St.rec {l:Nat}{r r':Loop}(d:St S (VC l r::L) h):h[l]? =some (.loop r)∧St S (VC l r'::L) (h.setIfInBounds l (.loop r'))∧Cc S h S (h.setIfInBounds l (.loop r')):=by
 obtain⟨F,k,_⟩:=d.get (vW ..);have a:l<h.size:=(vJ.1 k.2).1;refine⟨k.2,d.upd (H':=VC l r') .head (by simp) λF g _=>⟨F,⟨g.1,by simp [a]⟩,λ_ c=> .inl c,λb _ c=>?_⟩⟩;have:b≠l:=λe=>c ((g.1 b).2 e);simp [Array.getElem?_setIfInBounds_ne (Ne.symm this)]
end
def Wd.putObj {B w:World}{h:AX}(k:Wd B h w) (l:Nat) (o:Obj):Wd B (h.setIfInBounds l o) (w.putObj l o):=⟨by show w.heap.setIfInBounds l o=_;rw[k.heap],k.os,k.tape,k.out⟩
abbrev VI (a:Type):=(Nat→Prop)→AX→List Value→a→Prop
def YC {m σ:Type}(P:Program) (i:Value) (Y:Bool→σ→HP) (AR:VI m) (g:m→σ→Option (Bool×σ)) (j:Nat→Prop) (h0:AX):Prop:=
 ∃l,i= .func (.yield l) #[] #[]∧∀(x:m) (s:σ) (b:Bool×σ),g x s=some b→∀(S:Nat→Prop) (L:List HP) (h:AX) (vs:List Value) (B w:World),Cc j h0 S h→St S (Y true s::L) h→AR S h vs x→Wd B h w→
  ∃fn c a d,(Instr.yield l vs.toArray).run P w= .ok (.round l fn c a d) w∧
   RoundIn Fence.wide 0 P l fn c a d w (λe k=>∃S' h',e= .returned (.bool b.1)∧Wd B h' k∧Cc S h S' h'∧St S' (Y b.1 b.2::L) h')
def YC.mono {o σ:Type}{P:Program}{c:Value}{Y:Bool→σ→HP}{AR:VI o}{a:o→σ→Option (Bool×σ)}{d g:Nat→Prop}{h0 i:AX}(k:YC P c Y AR a d h0) (e:Cc d h0 g i):YC P c Y AR a g i:=by
 obtain⟨l,j,k⟩:=k;exact⟨l,j,λx s b m S L h vs B w n=>k x s b m S L h vs B w (e.trans n)⟩
def YL (P:Program) (ops:Array Oper) (Q:Exit→Act→World→Prop) (l:List Oper) (B:World) (h:AX) (n:FN) (m:SM):Prop:=∀a w,Fr n a m→Wd B h w→wpListIn (FF none) 0 P ops Q l a w
def XL {P:Program}{l:Nat}{f:FuncId}{b:Array Value}{a d:Code}{w:World}{R:Ending→World→Prop}{g:Option Nat}{n i:Nat}(h:RoundIn Fence.wide n P l f b a d w R):RoundIn (FF g) i P l f b a d w R:=
 ⟨OZ g f,λc cs _=>by rw[Pw];exact h.2 c cs (room_wide _)⟩
def PH {P:Program}{ops:Array Oper}{Q:Exit→Act→World→Prop}{g:Option Nat}:∀(l:List Oper) (a:Act) (w:World),(g=none∨l.all Y3=true)→wpListIn (FF none) 0 P ops Q l a w→wpListIn (FF g) 0 P ops Q l a w
 |[],_,_,_,h=>h
 |o::rest,a,w,i,h=>by
  have q:g=none∨Y3 o=true:=i.imp (λx=>x) λh=>by simp only[List.all_cons,uL] at h;exact h.1
  have j:g=none∨rest.all Y3=true:=i.imp (λx=>x) λh=>by simp only[List.all_cons,uL] at h;exact h.2
  unfold wpListIn at h ⊢;split
  ·rename_i n;rw[uJ n] at h;refine⟨λf _=>OZ g f,?_⟩;have b:=h.2;have s:o.semAt (FF g).round a.eval=o.semAt (FF none).round a.eval:=by
    rw[Th,Th];cases g with
    |none=>rfl
    |some l=>exact Oper.semAt_some l _ _ λc t=>q.elim (λi=>by cases i) λi=>by unfold Y3 at i;rw[t] at i;cases i
   rw[s];generalize (o.semAt (FF none).round a.eval).run P w=r at b
   cases r with
   |ok u y=>
    cases u<;>simp only[Oper.uponIn] at b ⊢
    case value v=>exact PH rest _ _ j b
    case skip=>exact PH rest _ _ j b
    case defer d=>exact PH rest _ _ j b
    case enter f args=>exact⟨λhd=>(by rw[MQ] at hd;cases hd),Ut ((callsIn_wide.1 b.2).mono λe k m=>by cases e<;>first|exact PH rest _ _ j m|exact m)⟩
    case row r args=>exact⟨λhd=>(by rw[MQ] at hd;cases hd),λc cs _=>by
     obtain⟨v,k,z,p⟩:=b.2 c cs (fN none _);exact⟨v,k,PH rest _ _ j z,by rw[Pw] at p ⊢;exact p⟩⟩
    case round l f tmps assign body=>exact⟨λhd=>(by rw[MQ] at hd;cases hd),XL (RoundIn.mono b.2 λe k m=>by cases e<;>first|exact PH rest _ _ j m|exact m)⟩
   |halt x y=>cases x<;>simp only[Oper.uponIn] at b ⊢;exact b
  ·rename_i n;rw[uI n] at h;exact⟨λf _=>OZ g f,PH rest _ w j h.2⟩
section
variable {P:Program}{ex:List (Nat×AP)}{R N:AP}{cs:List Code}{B:World}{h:AX}{n:FN}{m m':SM}{S:Nat→Prop}{L:List HP}
def bW {l:List Oper}{id:Nat}(k:YL P l.toArray (Qx ex R (W P ex R cs N)) l B h n m):WF P ex R (.region id l.toArray false::cs) N B h n m:=λa w b c d hd=>
 wpIn_region_lit (PH l a w (hd.imp (λx=>x) λh=>by simpa [WM] using h) (k a w b c))
end
section
variable {P:Program}{ops:Array Oper}{Q:Exit→Act→World→Prop}{n:FN}{m m':SM}{rest l:List Oper}{B:World}{h:AX}{S:Nat→Prop}{L:List HP}
def OI (g:∀a w,¬Q .outgrown a w):∀(k:Nat) (l:List Oper) (a:Act) (w:World),wpList P ops (Exit.then (wpListIn (FF none) 0 P ops Q (l.drop k)) Q) (l.take k) a w→wpListIn (FF none) 0 P ops Q l a w
 |0,l,a,w,h=>by simpa [wpList,Exit.then] using h
 |k+1,[],a,w,h=>by simpa [wpList,Exit.then] using h
 |k+1,o::l,a,w,h=>by
  simp only[List.take_succ_cons,List.drop_succ_cons] at h;unfold wpList at h;unfold wpListIn;split
  ·rename_i i;rw[uJ i] at h;have b:=h.imp (Oper.wp_mono λa w p=>OI g k l a w p) id;refine jQ (.inl rfl) g ?_;rcases b with b|⟨_,j,m,h2⟩
   ·refine .inl ?_;unfold Oper.wp at b ⊢;generalize (execOp a.eval o).run P w=r at b
    cases r with
    |ok q s=>
     cases q<;>simp only[Oper.upon] at b ⊢
     case value v=>exact b
     case skip=>exact b
     case defer d=>exact b
     case enter f args=>
      refine b.mono λe t n=>?_;cases e with
      |returned v=>exact n
      |panicked c=>exact n
      |outgrown=>obtain⟨j,m,h0⟩:=n;exact⟨j,m,h0⟩
     case row r args=>exact b
    |halt x s=>cases x<;>simp only[Oper.upon] at b ⊢;exact b
   ·exact absurd h2 (g j m)
  ·rename_i i;rw[uI i] at h;exact⟨λf _=>OZ none f,OI g k l _ w h⟩
def ND (j:Nat) (c:∀a w,¬Q .outgrown a w) (k:QF P ops (Wd B h) (λa=>∀w,Wd B h w→wpListIn (FF none) 0 P ops Q (l.drop j) a w) (l.take j) n m):YL P ops Q l B h n m:=λa w d b=>
 OI c j l a w (L6 (Q:=Exit.then (wpListIn (FF none) 0 P ops Q (l.drop j)) Q) (λ_ w b g=>g w b) (l.take j) a w b (k a d))
def NE {C:World→Prop}(k:YL P ops Q l B h n m):QF P ops C (λa=>∀w,Wd B h w→wpListIn (FF none) 0 P ops Q l a w) [] n m:=λa b w c=>k a w b c
def rO (j:Nat) (b:∀a w,¬Q .outgrown a w) (k:LF P ops (Exit.then (wpListIn (FF none) 0 P ops Q (l.drop j)) Q) (l.take j) B h n m):YL P ops Q l B h n m:=λa w c d=>OI b j l a w (k a w c d)
def rW (k:YL P ops Q l B h n m):LF P ops (Exit.then (wpListIn (FF none) 0 P ops Q l) Q) [] B h n m:=λa w b c=>k a w b c
def YL.nil {ex:List (Nat×AP)}{R N:AP}{cs:List Code}(b:Tk m m') (k:WF P ex R cs N B h n m'):YL P ops (Qx ex R (W P ex R cs N)) [] B h n m:=λa w c d=>k a w (c.sub b) d
def YL.gy {o:Oper}{j e:Nat}{b:Bool}(g:o.guard=some (j,b)) (i:(ops[j]?).bind (·.dst)=some e) (l:lk m e=some (.bool b)) (k:YL P ops Q ({ o with guard:=none}::rest) B h n m):YL P ops Q (o::rest) B h n m:=by
 intro a w d p;have q:Region.wanted o (yielded ops a.tmps)=true:=by
  have:=d.at_ e _ l;simp [Region.wanted,g,yielded,i,this]
 have c:=k a w d p;unfold wpListIn at c ⊢;rw[uJ (by simp [Region.wanted])] at c;rw[uJ q];exact c
def YL.gn {o:Oper}{j e d:Nat}{b:Bool}(g:o.guard=some (j,!b)) (i:(ops[j]?).bind (·.dst)=some e) (l:lk m e=some (.bool b)) (p:o.dst=some d) (hd:Nat.blt d n.1=true) (k:YL P ops Q rest B h n ((d,undef)::m)):YL P ops Q (o::rest) B h n m:=by
 intro a w c q;have s:Region.wanted o (yielded ops a.tmps)=false:=by
  have:=c.at_ e _ l;cases b<;>simp [Region.wanted,g,yielded,i,this]
 unfold wpListIn;rw[uI (by rw[s];exact Bool.false_ne_true),p];exact⟨λf _=>OZ none f,k _ w (c.put hd _) q⟩
def tQ {α σ:Type}{C:Value}{Y:Bool→σ→HP}{AR:VI α}{j:α→σ→Option (Bool×σ)}{D:Nat→Prop}{h0:AX}{X:Operand}{xs:Array Operand}{c:Array TypeId}{vs:List Value}{d:Nat}{ty:TypeId}{g:String}{t:Array Edge}{x:α}{s:σ}{b:Bool×σ}
  (u:YC P C Y AR j D h0) (F:CL m X=some C) (v:xs.toList.mapM (CL m)=some vs) (G:j x s=some b) (H:Cc D h0 S h) (I:St S (Y true s::L) h) (J:AR S h vs x) (hd:Nat.blt d n.1=true)
  (k:∀S' h',Cc S h S' h'→St S' (Y b.1 b.2::L) h'→YL P ops Q rest B h' n ((d,.bool b.1)::m)):YL P ops Q (⟨some d,.call ⟨.value X,xs,c⟩,ty,g,t,none⟩::rest) B h n m:=by
 intro a w z K;obtain⟨l,rfl,u⟩:=u;obtain⟨fn,o,i,p,M,U⟩:=u x s b G S L h vs B w H I J K;unfold wpListIn;rw[uJ (by simp [Region.wanted])];refine⟨λf _=>OZ none f,?_⟩;have q:(execOp a.eval ⟨some d,.call ⟨.value X,xs,c⟩,ty,g,t,none⟩).run P w= .ok (.round l fn o i p) w:=by
  have V:=z.eval F;have W:=Xl z v;simp [execOp,resolve,Deferred.ofValue,invoke,V,W,M]
 have A:(⟨some d,.call ⟨.value X,xs,c⟩,ty,g,t,none⟩:Oper).semAt (FF none).round a.eval=execOp a.eval ⟨some d,.call ⟨.value X,xs,c⟩,ty,g,t,none⟩:=rfl;rw[A,q];refine⟨λhd=>(by rw[MQ] at hd;cases hd),XL (RoundIn.mono U λe Z he=>?_)⟩;obtain⟨S',h',rfl,r1,r2,r3⟩:=he;exact k S' h' r2 r3 _ Z (z.put hd _) r1
end
def YX {P:Program}{f:Nat}(a:BG P f=true) (args:Array Value) (w:World):(callFunc f args).run P w= .ok (.enter f args) w:=by
 unfold BG at a;split at a
 ·rename_i fn b;simp only[uL,vE] at a;have c:¬fn.name= "runtime.NumGoroutine" :=by simpa using a.1
  have d:¬fn.body=none:=by intro h0;rw[h0] at a;simp at a
  simp [callFunc,b,c,d]
 ·cases a
def parm (m:SM):List (Nat×Value)→SM
 |[]=>m
 |p::r=>parm (p::m) r
def Fr.parm {n:FN}:∀(l:List (Nat×Value)) {t:Array Value}{m:SM},(∀p,p∈l→Nat.blt p.1 n.1=true)→Fr (n.1,[]) { tmps:=t,defers:=[]} m→Fr (n.1,[]) { tmps:=l.foldl (λt p=>t.setIfInBounds p.1 p.2) t,defers:=[]} (parm m l)
 |[],t,m,_,k=>k
 |p::l,t,m,a,k=>Fr.parm l (λq b=>a q (vX _ b)) (k.put (a p (vW ..)) p.2)
def Re (r:Loop) (a:Code) (b:Bool):Loop:={ r with state:=if b then .ready else .done,pending:=if b then none else some a}
def YR {σ:Type}(l:Nat) (r:Loop) (a:Code) (J:σ→List HP):Bool→σ→HP:=λb s=>nA (VC l (Re r a b)::J s)
section
variable {P:Program}{ex:List (Nat×AP)}{R N:AP}{cs:List Code}{B:World}{h:AX}{k:Nat}{Ds:List Nat}{m:SM}{S:Nat→Prop}{L:List HP}
def RN {σ:Type}(B:World) (i:Nat→Prop) (j:AX) (J:σ→List HP) (L1:List HP) (c:Bool×σ) (b:Bool):AP:=λa w=>c.1=b∧∃g d,Wd B d w∧Cc i j g d∧St g (J c.2++L1) d
set_option maxHeartbeats 1000000 in
def bX {α σ:Type}{g:Operand}{M:Array Tmp}{C G:Code}(j:Nat) {f:Nat}{y:Array Value}(J:σ→List HP) (s0:σ) (AR:VI α) (V:α→σ→Option (Bool×σ)) (r:Bool×σ) (m2:List Value→SM)
  (hg:CL m g=some (.func (.func f) #[] y)) (av:BG P f=true) (aa:(WM C&&WM G&&M.toList.all λp=>Nat.blt p k)=true) (hs:St S (J s0++WL Ds::L) h)
  (aw:∀{S h vs x},AR S h vs x→vs.length=M.size) (ax:∀{S h S' h' vs x},AR S h vs x→Cc S h S' h'→AR S' h' vs x)
  (W:∀yv (Y:Bool→σ→HP) K z L1,Cc S h K z→YC P yv Y AR V K z→St K (Y true s0::L1) z→CD P f (#[yv]++y) K z (λv S' h'=>St S' (Y r.1 r.2::L1) h'))
  (ab:∀vs B z,vs.length=M.size→WF P [] (λ_ _=>False) [C] (λa w=>Fr (k,[]) a (m2 vs)∧Wd B z w) B z (k,[]) (parm m (M.toList.zip vs)))
  (X:∀x s l vs K z L1 B,V x s=some l→Cc S h K z→AR K z vs x→St K (J s++L1) z→WF P [(j,RN B K z J L1 l false)] (λ_ _=>False) [G] (RN B K z J L1 l true) B z (k,[]) (m2 vs))
  (ay:r.1=true→∀S' h' D,Cc S h S' h'→St S' (J r.2++WL (D::Ds)::L) h'→WF P ex R cs N B h' (k,OQ (D::Ds)) m)
  (ac:r.1=false→∀S' h' D,Cc S h S' h'→St S' (J r.2++WL (D::Ds)::L) h'→WF P ex R (.exit j::cs) N B h' (k,OQ (D::Ds)) m):
  WF P ex R (.rangeFunc g M C G::cs) N B h (k,OQ Ds) m:=by
 intro a w Z hw rd hd;simp only[uL] at aa;obtain⟨⟨ad,ae⟩,af⟩:=aa;have az:rd=none:=hd.elim (λx=>x) λh=>by cases h
 subst az;clear hd;refine wpIn_rangeFunc λfn bg=>?_;obtain⟨d,o⟩:∃d:Loop,d={ state:= .ready,pending:=none,fn,tmps:=a.tmps,params:=M,assign:=C,body:=G,defers:=w.heap.size}:=⟨_,rfl⟩
 have hz:w.heap.size=h.size:=by rw[hw.heap]
 have ag:Re d (.exit j) true=d:=by rw[o];rfl
 have s1:=hs.upd (H':=WL (h.size::Ds)) (h':=h.push (.deferred (some []))) Ve (by simp) λF q1 q2=>⟨λb=>F b∨b=h.size,⟨yO.2 ⟨λhm=>by have:=(q2 _ ((q1.2.1 _).2 hm)).1;omega,q1.1⟩,λb=>by rw[uS,←q1.2.1 b];exact Or.comm,λD hD=>by
   rcases uS.1 hD with rfl|hD
   ·exact Le _ _
   ·rw[IE _ _ _ (q2 D ((q1.2.1 D).2 hD)).1];exact q1.2.2 D hD⟩,λb A=>A.imp (λx=>x) λe=>by subst e;simp,λb A _=>IE _ _ _ A⟩
 have s2:=s1.1.add (H':=VC (h.size+1) d) (h':=(h.push (.deferred (some []))).push (.loop d)) (by simp) (λb A=>IE _ _ _ A) ⟨λb=>b=h.size+1,⟨λ_=>Iff.rfl,by have:=Le (h.push (.deferred (some []))) (.loop d);simpa using this⟩,λb A=>by subst A;simp⟩;have a0:Wd B ((h.push (.deferred (some []))).push (.loop d)) ((w.alloc (.deferred (some []))).alloc (.loop d)):=(hw.alloc _).alloc _;have e1:Cc S h S ((h.push (.deferred (some []))).push (.loop d)):=s1.2.trans s2.2;have sY:St S (YR (h.size+1) d (.exit j) J true s0::WL (h.size::Ds)::L) ((h.push (.deferred (some []))).push (.loop d)):=by
  refine X2 (L1:=VC (h.size+1) (Re d (.exit j) true)::J s0) ?_;rw[ag];exact s2.1
 have yc:YC P (.func (.yield (h.size+1)) #[] #[]) (YR (h.size+1) d (.exit j) J) AR V S ((h.push (.deferred (some []))).push (.loop d)):=by
  refine⟨h.size+1,rfl,λx s l hy S2 L2 h2 vs B2 w2 e2 a2 ar ah=>?_⟩;have u:=UL a2;rw[ag] at u;obtain⟨g1,g2,g3⟩:=St.rec (r':={ d with state:= .busy}) u;have a3:w2.heap[h.size+1]? =some (.loop d):=by rw[ah.heap];exact g1
  have ai:=aw ar;have a4:=run_yield (P:=P) (args:=vs.toArray) a3 (by rw[o];simpa using ai);refine⟨_,_,_,_,a4,?_⟩;have hF:(FF none).inRound (h.size+1)=FF (some (h.size+1)):=rfl;refine roundIn_of_wpIn (F:=FF none) (n:=0) (OZ none _) ?_;rw[hF];have a6:Fr (k,[]) { tmps:=(d.params.zip vs.toArray).foldl (λtm (t,a)=>tm.setIfInBounds t a) d.tmps,defers:=[]} (parm m (M.toList.zip vs)):=by
   have:=Fr.parm (n:=(k,[])) (M.toList.zip vs) (t:=a.tmps) (m:=m) (λp hp=>uQ.1 af _ (List.of_mem_zip hp).1) ⟨rfl,Z.siz,Z.at_⟩;have e:(d.params.zip vs.toArray).foldl (λtm (t,a)=>tm.setIfInBounds t a) d.tmps=(M.toList.zip vs).foldl (λt p=>t.setIfInBounds p.1 p.2) a.tmps:=by
    rw[o,←Array.foldl_toList];simp
   rw[e];exact this
  have ea:d.assign=C:=by rw[o]
  have eb:d.body=G:=by rw[o]
  rw[ea,eb];refine wpIn_mono (ab vs B2 h2 ai _ w2 a6 ah (some (h.size+1)) (.inr ad)) λe a1 w3 q=>?_;cases e with
  |normal=>
   obtain⟨a7,aj⟩:=q;have a8:w3.heap[h.size+1]? =some (.loop d):=by rw[aj.heap];exact g1
   refine⟨_,run_beginRound a8 (by rw[o]),?_⟩;have a9:=aj.putObj (h.size+1) (.loop { d with state:= .busy});have ba:=St.mid g2;refine wpIn_mono (X x s l vs S2 _ (VC (h.size+1) { d with state:= .busy}::L2) B2 hy (e1.trans (e2.trans g3)) (ax ar g3) ba a1 _ a7 a9 (some (h.size+1)) (.inr ae)) λe a5 w5 q=>?_;have ak:∀(b:Bool) (i:Option Code),(i=if b then none else some (.exit j))→RN B2 S2 (h2.setIfInBounds (h.size+1) (.loop { d with state:= .busy})) J (VC (h.size+1) { d with state:= .busy}::L2) l b a5 w5→
     ∃v w',(Instr.endRound (h.size+1) i).run P w5= .ok v w'∧∃S' h',Ending.returned v= .returned (.bool l.1)∧Wd B2 h' w'∧Cc S2 h2 S' h'∧St S' (YR (h.size+1) d (.exit j) J l.1 l.2::L2) h':=by
    rintro b i hj ⟨A,S6,h6,H,e6,Q⟩;have u6:=bY Q;obtain⟨p1,p2,p3⟩:=St.rec (r':=Re d (.exit j) b) u6;have bb:w5.heap[h.size+1]? =some (.loop { d with state:= .busy}):=by rw[H.heap];exact p1
    have I:=run_endRound (P:=P) i bb;have bc:({ d with state:=if i.isNone then .ready else .done,pending:=i}:Loop)=Re d (.exit j) b:=by
     subst hj;cases b<;>rfl
    have al:i.isNone=b:=by subst hj;cases b<;>rfl
    rw[al] at I;have am:({ { d with state:=LoopState.busy} with state:=if b then .ready else .done,pending:=i}:Loop)=Re d (.exit j) b:=by rw[←bc,al]
    rw[am] at I;refine⟨_,_,I,S6,_,by rw[A],H.putObj _ _,g3.trans (e6.trans p3),?_⟩;rw[A];exact X2 (L1:=VC (h.size+1) (Re d (.exit j) b)::J l.2) p2
   cases e with
   |normal=>exact ak true none rfl q
   |exit id=>
    simp only[Qx,dU] at q;cases A:Nat.beq j id with
    |true=>
     rw[A] at q;have be:j=id:=uR A;subst be;exact ak false (some (.exit j)) rfl q
    |false=>rw[A] at q;exact q.elim
   |ret=>exact q.elim
   |goto t=>exact q.elim
   |panic c=>exact q.elim
   |outgrown=>exact q.elim
  |exit id=>simp only[Qx,dU] at q
  |ret=>exact q.elim
  |goto t=>exact q.elim
  |panic c=>exact q.elim
  |outgrown=>exact q.elim
 have U:=W (.func (.yield (h.size+1)) #[] #[]) (YR (h.size+1) d (.exit j) J) S _ (WL (h.size::Ds)::L) e1 yc sY;have bf:=Z.eval hg;refine⟨w.heap.size+1,[{ target:= .collected w.heap.size,args:= #[]}],(w.alloc (.deferred (some []))).alloc (.loop d),{ target:= .fn (.func f) y,args:= #[.func (.yield (w.heap.size+1)) #[] #[]]},(w.alloc (.deferred (some []))).alloc (.loop d),f,#[.func (.yield (w.heap.size+1)) #[] #[]]++y,(w.alloc (.deferred (some []))).alloc (.loop d),?_,?_,λ_ _=>OZ none _,?_,λhd=>(by rw[MQ] at hd;cases hd),?_⟩
 ·rw[o];exact run_enterLoop_outer _ _ _ _ _
 ·simp only[resolve,bf,rangeCall];simp [go_sem,Deferred.ofValue]
 ·simp [invoke,YX av]
 ·rw[hz];refine Ut ((U B _ a0).mono λe w5 q=>?_);obtain⟨v,S5,h5,rfl,an,e5,ao⟩:=q;have u:=UL ao;obtain⟨p1,p2,p3⟩:=St.rec (r':={ Re d (.exit j) r.1 with state:= .exhausted}) u;have ap:w5.heap[h.size+1]? =some (.loop (Re d (.exit j) r.1)):=by rw[an.heap];exact p1
  refine⟨_,_,run_endLoop ap (by unfold Re;cases r.1<;>simp),?_⟩;have H:=an.putObj (h.size+1) (.loop { Re d (.exit j) r.1 with state:= .exhausted});have Q:=p2.drop .head;have aq:(Re d (.exit j) r.1).pending=if r.1 then none else some (.exit j):=rfl
  generalize ({ Re d (.exit j) r.1 with state:= .exhausted}:Loop)=rx at*
  rw[aq];clear aq ap p1 u ao U;have au:Fr (k,OQ (h.size::Ds)) { a with defers:=[{ target:= .collected h.size,args:= #[]}]++a.defers} m:=⟨by show _::a.defers=_;rw[Z.dfr];rfl,Z.siz,Z.at_⟩
  cases hr:r.1 with
  |true=>
   exact ay hr S5 _ h.size (e1.trans (e5.trans p3)) Q _ _ au H
  |false=>
   exact ac hr S5 _ h.size (e1.trans (e5.trans p3)) Q _ _ au H none (.inl rfl)
end
def Pu (p:Prop):HP where
 holds:=λ_ F _=>p∧∀b,¬F b
 loc:=λk _ _=>k
section
variable {S:Nat→Prop}{L:List HP}{h:AX}
def WE {p:Prop}(a:St S (Pu p::L) h):p∧St S L h:=by
 obtain⟨F,k,_⟩:=a.get (vW ..);exact⟨k.1,a.drop .head⟩
def RC {p:Prop}(a:St S L h) (k:p):St S (Pu p::L) h:=(a.add (H':=Pu p) (uW _) (λ_ _=>rfl) ⟨λ_=>False,⟨k,λ_ x=>x⟩,λ_ x=>x.elim⟩).1
def bZ (a:St S L h):St S (WL []::L) h:=(a.add (H':=WL []) (uW _) (λ_ _=>rfl) ⟨λ_=>False,⟨List.nodup_nil,λb=>⟨λx=>x.elim,λx=>by cases x⟩,λD c=>by cases c⟩,λ_ x=>x.elim⟩).1
end
section
variable {P:Program}{ops:Array Oper}{Q:Exit→Act→World→Prop}{n:FN}{m m':SM}{rest l:List Oper}{B:World}{h:AX}{S:Nat→Prop}{L:List HP}
def Xx {C σ:Type}{l:Value}{Y:Bool→σ→HP}{AR:VI C}{c:C→σ→Option (Bool×σ)}{o:Nat→Prop}{h0:AX}{X:Operand}{xs:Array Operand}{i:Array TypeId}{vs:List Value}{d:Nat}{ty:TypeId}{j:String}{p:Array Edge}{x:C}{s:σ}{a:Bool×σ}
  (q:YC P l Y AR c o h0) (t:CL m X=some l) (k:xs.toList.mapM (CL m)=some vs) (u:c x s=some a) (v:Cc o h0 S h) (b:St S (Y true s::L) h) (w:AR S h vs x) (hd:Nat.blt d n.1=true)
  (z:a.1=true→∀S' h',Cc S h S' h'→St S' (Y true a.2::L) h'→YL P ops Q rest B h' n ((d,.bool true)::m))
  (A:a.1=false→∀S' h',Cc S h S' h'→St S' (Y false a.2::L) h'→YL P ops Q rest B h' n ((d,.bool false)::m)):YL P ops Q (⟨some d,.call ⟨.value X,xs,i⟩,ty,j,p,none⟩::rest) B h n m:=
 tQ q t k u v b w hd λS' h' e b=>by
  cases g:a.1 with
  |true=>rw[g] at b;exact z g S' h' e b
  |false=>rw[g] at b;exact A g S' h' e b
end
section
variable {P:Program}{fn:Func}{B:World}{S S':Nat→Prop}{h h':AX}{post:Value→(Nat→Prop)→AX→Prop}{a:Act}{m:SM}{w:World}{L:List HP}
def dF {k:Nat}{Ds:List Nat}{t:List ResultVar}{vs:List Value}{v:Value}(A:Fr (k,OQ Ds) a m) (C:fn.results.toList=t) (i:Wd B h' w) (u:St S' (WL Ds::L) h') (G:iL vs=v) (e:Cc S h S' h')
  (o:∀d j,Wd B j d→St S' L j→Cc S' h' S' j→Y0 P d a t vs∧post v S' j):Rt P fn B S h post a w:=by
 obtain⟨F,n,H,I⟩:=u.2;refine⟨Ds,A.dfr,n.1,λD J=>by rw[i.heap];exact n.2.2 D J,λd K j M Q y=>?_⟩;have c:∀b,S' b→d.heap[b]? =h'[b]? :=λb g=>by rw[y b λp=>(H b ((n.2.1 b).2 p)).2 g,i.heap]
 have q:h'.size≤d.heap.size:=by rw[Q,i.heap];exact uW _
 have z:Cc S' h' S' d.heap:=⟨λ_ x=>x,c,q⟩
 have s:St S' L d.heap:=⟨λb g=>vB (u.1 b g) q,Sp.ext I (λ_ x=>x) (λb g=>g.elim (c b) λx=>by rw[y b λp=>x.2 ((n.2.1 b).2 p),i.heap]) λb g=>⟨vB g.1.1 q,g.1.2⟩⟩
 have l:Wd B d.heap d:=⟨rfl,K.trans i.os,j.trans i.tape,M.trans i.out⟩
 obtain⟨U,V⟩:=o d _ l s z;exact⟨v,by rw[←G];exact Rx C U,S',_,l,e.trans z,V⟩
end
def pJ:List Nat→SM→Option SM
 |[],_=>some []
 |k::a,m=>match lk m k with
  |some v=>match pJ a m with
   |some r=>some ((k,v)::r)
   |none=>none
  |none=>none
def kp:∀{m a:SM}(b:List Nat),pJ b m=some a→Tk m a
 |m,a,[],h=>by cases h;trivial
 |m,a,k::b,h=>by
  simp only[pJ] at h;split at h
  ·rename_i v c;split at h
   ·rename_i r d;cases h;exact⟨c,kp b d⟩
   ·cases h
  ·cases h
def fI {c:Type}(S:Nat→Prop) (h:AX) (r:BU c) (T:TypeId) (l:List c) (v:Value) (a:AX):Prop:=∃d cap,v= .slice (some ⟨d,0,none⟩) l.length cap∧h.size≤d∧d<a.size∧(OS r T v l).holds S (λb=>b=d) a
def fI.mono {q:Type}{S:Nat→Prop}{h a c:AX}{r:BU q}{T:TypeId}{l:List q}{v:Value}(k:fI S h r T l v a) (i:∀b,S b→b<h.size) (o:Gf a c):fI S h r T l v c:=by
 obtain⟨s,cap,j,m,d,n⟩:=k;exact⟨s,cap,j,m,vB d o.siz,HP.loc _ n (λ_ x=>x) λb p=>o.same b (p.elim (λx=>by have:=i b x;omega) λx=>by subst x;exact d)⟩
def fH {d:Type}{S:Nat→Prop}{h:AX}{r:BU d}{T:TypeId}{l:List d}:Rq (fI S h r T l):=λv c ⟨i,_,a,_,b,_⟩=>⟨i,by rw[a];rfl,b⟩
def bU {b:Type}{R:AR}{S:Nat→Prop}{h:AX}{r:BU b}{a T:Nat}{l:List b}{is:List Nat}(e:R a=fI S h r T l) (t:∀i,i∈is→Rq (R i)):∀i,i∈a::is→Rq (R i):=WD (by rw[e];exact fH) t
def Y2 {u:Type}{S:Nat→Prop}{L:List HP}{h d:AX}{i:List Nat}{r:BU u}{w T:Nat}{v:Value}{l:List u}(k:SB S h d i L) (j:h.size≤w) (m:w<d.size) (n:(OS r T v l).holds S (λb=>b=w) d) (o:w∉i):SB S h d (w::i) (OS r T v l::L):=by
 obtain⟨p,q,s,t⟩:=k;refine⟨p,q,λc a=>?_,λc=>c=w,n,λc a=>by subst a;exact .inr (vW ..),t.mono λc a=>⟨a.imp_right (vX _),λe=>?_⟩⟩
 ·rcases uS.1 a with rfl|a
  ·exact⟨j,m⟩
  ·exact s c a
 ·subst e;rcases a with a|a
  ·have:=a.1;omega
  ·exact o a
def nE {α:Type}{P:Program}{q:Array Oper}{Q:Exit→Act→World→Prop}{n:FN}{m:SM}{p:List Oper}{d:Nat}{ty:TypeId}{s:String}{Y:Array Edge}{B:World}{S:Nat→Prop}{h0 h:AX}{r:BU α}{T e sz g:Nat}{z:List Value}{zx:α}{len cap:Int}{Z kc:IntKind}{U V:Operand}(he:QY P T=some (e,sz,g,z)) (t:r.sz=sz) (hz:r.rd S h z zx)
  (hx:CL m U=some (.int Z len)) (hy:CL m V=some (.int kc cap)) (u:Mn len cap g=true) (y:Nat.blt 0 g=true) (hd:Nat.blt d n.1=true) (o:Gf h0 h) (hS:∀b,S b→b<h0.size)
  (k:∀v h',Gf h h'→fI S h0 r e (List.replicate len.toNat zx) v h'→UP h v→LF P q Q p B h' n ((d,v)::m)):LF P q Q (⟨some d,.makeSlice T U V,ty,s,Y,none⟩::p) B h n m:=by
 simp only[Mn,uL,uY] at u;obtain⟨⟨aa,ab⟩,I⟩:=u;obtain⟨a,rfl⟩:∃a:Nat,len=a:=⟨len.toNat,by omega⟩
 obtain⟨c,rfl⟩:∃c:Nat,cap=c:=⟨cap.toNat,by omega⟩
 have ad:((g*c:Nat):Int)≤140737488355328:=by rw[xV];exact I
 have J:1≤g:=by simpa [Nat.blt] using y
 have ae:c≤g*c:=Nat.le_mul_of_pos_left _ J;have A:a≤c:=by omega
 have C:c≤maxLen:=by unfold maxLen;omega
 intro ac w M hw;refine wpList_plain rfl λK hK=>?_;unfold Oper.wp;obtain⟨i,zv,h1,h2,h3,h4,h5,h6,h7,h8⟩:=MK he;have D:=run_make (P:=P) w T e i zv h1 h2 h3 Z kc (a:Int) (c:Int) (by omega) (by omega) (by rw[h5];omega) (by unfold maxLen at C;omega);simp only[xT,h6,h4] at D;have F:(execOp ac.eval ⟨some d,.makeSlice T U V,ty,s,Y,none⟩).run P w= .ok (.value (.slice (some ⟨w.heap.size,0,none⟩) a c)) (w.alloc (.cells (madeCells z.toArray (c*sz)) e)):=by
  simp [execOp,M.eval hx,M.eval hy,D]
 rw[F];have W:∀b,S b→b<h.size:=λb G=>vB (hS b G) o.siz;have l:(madeCells z.toArray (c*sz)).toList=(List.replicate c z).flatten:=by rw[←h7];exact My z c (by omega)
 have X:(OS r e (.slice (some ⟨h.size,0,none⟩) a c) (List.replicate a zx)).holds S (λb=>b=h.size) (h.push (.cells (madeCells z.toArray (c*sz)) e)):=by
  refine .inr ⟨h.size,c,madeCells z.toArray (c*sz),by simp,λ_=>Iff.rfl,Le _ _,by simpa using A,C,by rw[size_madeCells,t],?_⟩;rw[l];have:((List.replicate c z).flatten).take ((List.replicate a zx).length*r.sz)=(List.replicate a z).flatten:=by
   obtain⟨j,rfl⟩:=Nat.exists_eq_add_of_le A;rw[←List.replicate_append_replicate,List.flatten_append,List.length_replicate,t,←h7];have:(List.replicate a z).flatten.length=a*z.length:=by simp
   rw[←this,yS]
  rw[this];exact(R4 hz a).mono (λ_ x=>x) λb G=>IE _ _ _ (W b G)
 have H:=hw.heap;have:=k (.slice (some ⟨w.heap.size,0,none⟩) a c) (h.push (.cells (madeCells z.toArray (c*sz)) e)) ⟨by simp,λb G=>IE _ _ _ G⟩ (by rw[H];exact⟨h.size,c,by simp,o.siz,by simp,by simpa using X⟩) ⟨h.size,by rw[H];rfl,uW _⟩;exact hK _ _ (this _ _ (M.put hd _) (hw.alloc _))
def fP:VI Int:=λ_ _ vs x=>vs=[.int .i64 x]∧AA x
def VH {a:Type}(r:BU a):VI (Int×List a):=λS h vs x=>∃v,vs=[.int .i64 x.1,v]∧AA x.1∧Sl S h r v x.2
def fP.len {S:Nat→Prop}{h:AX}{vs:List Value}{x:Int}(k:fP S h vs x):vs.length=1:=by rw[k.1];rfl
def fP.mono {S S':Nat→Prop}{h h':AX}{vs:List Value}{x:Int}(k:fP S h vs x) (_:Cc S h S' h'):fP S' h' vs x:=k
def VH.len {a:Type}{r:BU a}{S:Nat→Prop}{h:AX}{vs:List Value}{x:Int×List a}(k:VH r S h vs x):vs.length=2:=by obtain⟨v,e,_⟩:=k;rw[e];rfl
def VH.mono {d:Type}{r:BU d}{S S':Nat→Prop}{h h':AX}{vs:List Value}{x:Int×List d}(k:VH r S h vs x) (e:Cc S h S' h'):VH r S' h' vs x:=by obtain⟨v,a,b,c⟩:=k;exact⟨v,a,b,c.mono' e⟩
def Px {P:Program}{b:List (Nat×AP)}{R N:AP}{cs:List Code}:∀a w,¬Qx b R (W P b R cs N) .outgrown a w:=λ_ _ x=>x
def rM (a:Value) (l:List Value):(#[a]++l.toArray:Array Value)=(a::l).toArray:=by simp
open Go.ChangeMaps (setBlock)
section
variable {P:Program}{ops:Array Oper}{Q:Exit→Act→World→Prop}{n:FN}{m:SM}{rest:List Oper}
variable {d:Nat}{ty:TypeId}{pos:String}{af:Array Edge}{X:Operand}{B:World}{h:AX}{S:Nat→Prop}{L:List HP}{t kt et:TypeId}{b r:Nat}
variable {κ β:Type}{kv:κ→Value}{vv:β→Value}{l rem:List (κ×β)}
end
def dC:List Nat→Nat→List HP→Option (List HP)
 |[],m,L=>some (L.drop m)
 |i::is,m,L=>match L[i]? with
  |some H=>match dC is m (L.eraseIdx i) with
   |some r=>some (H::r)
   |none=>none
  |none=>none
def XT:∀{L:List HP}{i:Nat}{H:HP},L[i]? =some H→P6 L H (L.eraseIdx i)
 |[],i,H,h=>by simp at h
 |K::L,0,H,h=>by
  simp only[xR,vU] at h;subst h;exact .head
 |K::L,i+1,H,h=>by
  simp only[xL] at h;exact .tail (XT h)
def Sp.dropn {S:Nat→Prop}{h:AX}:∀(m:Nat) {L:List HP}{A:Nat→Prop},Sp S L h A→Sp S (L.drop m) h A
 |0,L,A,k=>k
 |m+1,[],A,k=>k
 |m+1,H::L,A,⟨F,_,_,k⟩=>Sp.dropn m (k.mono λb a=>a.1)
def Sp.sel {S:Nat→Prop}{h:AX}:∀(is:List Nat) {m:Nat}{L a:List HP}{A:Nat→Prop},dC is m L=some a→Sp S L h A→Sp S a h A
 |[],m,L,a,A,e,k=>by cases e;exact k.dropn m
 |i::is,m,L,a,A,e,k=>by
  simp only[dC] at e;split at e
  ·rename_i H b;split at e
   ·rename_i r c;cases e;obtain⟨F,d,g,j⟩:=Sp.pick (XT b) k;exact⟨F,d,g,Sp.sel is c j⟩
   ·cases e
  ·cases e
def St.sel {S:Nat→Prop}{h:AX}{L a:List HP}(b:St S L h) (is:List Nat) (m:Nat) (e:dC is m L=some a):St S a h:=⟨b.1,Sp.sel is e b.2⟩
abbrev IV (B:World) (S:Nat→Prop) (h:AX) (n:FN) (a:Act) (w:World) (m:SM) (L:List HP) (F:(Nat→Prop)→AX→Prop):Prop:=∃(S':Nat→Prop) (h':AX),Fr n a m∧Wd B h' w∧St S' L h'∧Cc S h S' h'∧F S' h'
def XV {vs:List Value}(h:vs.all (·.oneCell')=true):∀u∈vs,u.oneCell'=true:=λu a=>uQ.1 h u a
section
variable {P:Program}{ops:Array Oper}{Q:Exit→Act→World→Prop}{n:FN}{m:SM}{rest:List Oper}
variable {d:Nat}{ty:TypeId}{pos:String}{af:Array Edge}{X Y:Operand}{B:World}{h:AX}{S:Nat→Prop}{L L2:List HP}{v:Value}
def Ic {T d:TypeId}{b o:Nat}{cs vs cs':List Value}{sz:Nat}{ag:Bool}(g:CL m X=some (.pointer (some ⟨b,o,none⟩))) (i:CL m Y=some v) (j:v.cells=vs.toArray) (l:vs.all (·.oneCell')=true)
  (p:LV P T sz ag=true) (c:vs.length=sz) (q:St S L h) (r:Mp L (Bx b d cs) (Bx b d cs') L2) (a:Nat.ble (o+sz) cs.length=true) (s:IA cs o vs=cs')
  (k:∀h',St S L2 h'→Cc S h S h'→LF P ops Q rest B h' n m):LF P ops Q (⟨none,.store T X Y,ty,pos,af,none⟩::rest) B h n m:=cM g i j (XV l) p c q r a s k
def AW {T c:TypeId}{b:Nat}{cs vs:List Value}{sz:Nat}{ag:Bool}(d:CL m X=some (.pointer (some ⟨b,0,none⟩))) (g:CL m Y=some v) (i:v.cells=vs.toArray) (j:vs.all (·.oneCell')=true)
  (l:LV P T sz ag=true) (a:Nat.beq vs.length sz=true) (o:St S L h) (r:Mp L (Bx b c cs) (Bx b c vs) L2) (p:Nat.beq cs.length sz=true)
  (k:∀h',St S L2 h'→Cc S h S h'→LF P ops Q rest B h' n m):LF P ops Q (⟨none,.store T X Y,ty,pos,af,none⟩::rest) B h n m:=by
 have q:=uR a;have s:=uR p;refine cM d g i (XV j) l q o r (by simp [s]) ?_ k;unfold IA;rw[xU (by omega)];simp
end
section
variable {P:Program}{ops:Array Oper}{C:World→Prop}{Q:Act→Prop}{n:FN}{m:SM}{rest:List Oper}{v:Value}
variable {d:Nat}{ty:TypeId}{pos:String}{af:Array Edge}{X Y:Operand}{h:AX}{S:Nat→Prop}{L:List HP}{t:TypeId}
def Kb {T b o:Nat}{cs:List Value}(g:CK C h) (i:St S L h) (j:CL m X=some (.pointer (some ⟨b,o,none⟩))) (l:Bx b T cs∈L) (c:cs[o]? =some v) (p:LV P t 1 false=true) (hd:Nat.blt d n.1=true)
  (k:QF P ops C Q rest n ((d,v)::m)):QF P ops C Q (⟨some d,.load t X,ty,pos,af,none⟩::rest) n m:=by
 have e:(cs.drop o).take 1=[v]:=by
  have a:=(uV.1 c).1;have q:=(uV.1 c).2;rw[yI a,q];simp
 exact Mb (vs:=[v]) g i j l e rfl p rfl hd k
def mV {o:Oper}{j e:Nat}{b:Bool}{u:Value}(p:o.guard=some (j,b)) (q:(ops[j]?).bind (·.dst)=some e) (g:lk m e=some u) (s:yb u≠some b) (i:o.dst=some d) (hd:Nat.blt d n.1=true) (k:QF P ops C Q rest n ((d,undef)::m)):QF P ops C Q (o::rest) n m:=by
 intro a c;have l:Region.wanted o (yielded ops a.tmps)=false:=by
  have:=c.at_ e _ g;cases u<;>simp_all [Region.wanted,yielded,yb]
 unfold wpQuiet;rw[uI (by rw[l];exact Bool.false_ne_true),i];exact k _ (c.put hd _)
def pE (a:Op) (m:SM):Option Value:=
 match a with
 | .pick c x y=>match CL m c with
  |some (.bool true)=>CL m x
  |some (.bool false)=>CL m y
  |_=>none
 |_=>none
def SD (ops:Array Oper) (k:Nat):List Oper→SM→Option SM
 |[],m=>some m
 |o::r,m=>match o.guard,o.dst with
  |some (j,b),some d=>match (ops[j]?).bind (·.dst) with
   |some e=>match lk m e with
    |some u=>match yb u,b with
     |some true,true=>match pE o.op m with
      |some v=>cond (Nat.blt d k) (SD ops k r ((d,v)::m)) none
      |none=>none
     |some false,false=>match pE o.op m with
      |some v=>cond (Nat.blt d k) (SD ops k r ((d,v)::m)) none
      |none=>none
     |_,_=>cond (Nat.blt d k) (SD ops k r ((d,undef)::m)) none
    |none=>none
   |none=>none
  |none,some d=>match pE o.op m with
   |some v=>cond (Nat.blt d k) (SD ops k r ((d,v)::m)) none
   |none=>none
  |_,none=>none
def Nx {a:Type}{c:Bool}{x:Option a}{y:a}(h:cond c x none=some y):c=true∧x=some y:=by cases c<;>simp_all
def W5 {u:Value}{b:Bool}(h:yb u=some b):u= .bool b:=by
 cases u<;>simp_all [yb]
def Wu {o:Oper}{d:Nat}{v:Value}(c:o.guard=none) (hd:o.dst=some d) (a:pE o.op m=some v) (g:Nat.blt d n.1=true) (k:QF P ops C Q rest n ((d,v)::m)):QF P ops C Q (o::rest) n m:=by
 obtain⟨j,l,p,i,q,s⟩:=o;simp only at c hd a;subst c hd;unfold pE at a;split at a
 ·split at a
  ·rename_i b;exact RG b a g k
  ·rename_i b;exact RG b a g k
  ·cases a
 ·cases a
def Pr:∀{l:List Oper}{m p:SM},SD ops n.1 l m=some p→QF P ops C Q [] n p→QF P ops C Q l n m
 |[],m,p,h,k=>by cases h;exact k
 |o::r,m,p,h,k=>by
  simp only[SD] at h;split at h
  ·rename_i j b d g hd;split at h
   ·rename_i e s;split at h
    ·rename_i u t;split at h
     ·rename_i w;split at h
      ·rename_i v i;obtain⟨a,c⟩:=Nx h;have:=W5 w;subst this;exact YF g s t (Wu rfl hd i a (Pr c k))
      ·cases h
     ·rename_i w;split at h
      ·rename_i v i;obtain⟨a,c⟩:=Nx h;have:=W5 w;subst this;exact YF g s t (Wu rfl hd i a (Pr c k))
      ·cases h
     ·rename_i x y;obtain⟨a,c⟩:=Nx h;refine mV g s t (λz=>?_) hd a (Pr c k);generalize A:yb u=zz at*
      subst z;revert x y;intro x y;exact Bool.rec (motive:=λq=>(some q=some true→q=true→False)→(some q=some false→q=false→False)→False) (λ_ h=>h rfl rfl) (λh _=>h rfl rfl) _ x y
    ·cases h
   ·cases h
  ·rename_i d g hd;split at h
   ·rename_i v i;obtain⟨a,c⟩:=Nx h;exact Wu g hd i a (Pr c k)
   ·cases h
  ·cases h
def A5 {b:SM}(c:pJ (b.map (·.1)) m=some b):QF P ops C (λa=>Fr n a b) [] n m:=eZ (kp _ c)
def BO {l:List Oper}{c b:SM}(h:SD ops n.1 l m=some c) (d:pJ (b.map (·.1)) c=some b):QF P ops C (λa=>Fr n a b) l n m:=Pr h (A5 d)
end
section
variable {P:Program}{ops:Array Oper}{Q:Act→Prop}{n:FN}{m:SM}{rest:List Oper}{d:Nat}{ty:TypeId}{pos:String}{af:Array Edge}{X:Operand}{v:Value}{Ψ:Prop}{f:Nat}{xs:Array Operand}{tys:Array TypeId}{args vs:List Value}{first cap:Array Value}{h:AX}{B:World}{Z:(Nat→Prop)→AX→Prop}
def Lp (i:CL m X=some (.func (.func f) first cap)) (a:xs.toList.mapM (CL m)=some args) (c:first.toList++args++cap.toList=vs) (g:BG P f=true) (hd:Nat.blt d n.1=true)
  (j:∀h',Gf h h'→CD P f vs.toArray (λb=>b<h'.size) h' (λu S' l=>u=v∧Z S' l))
  (k:QF P ops (Cl B h) Q rest n ((d,v)::m)):QF P ops (Cl B h) Q (⟨some d,.call ⟨.value X,xs,tys⟩,ty,pos,af,none⟩::rest) n m:=
 Hu (Ψ:=True) i a c g hd (λh' o=>(j h' o).mono λ_ _ _ _ p=>⟨p.1,trivial⟩) λ_=>k
def In (i:CL m X=some (.func (.func f) first cap)) (a:xs.toList.mapM (CL m)=some args) (c:first.toList++args++cap.toList=vs) (g:BG P f=true) (hd:Nat.blt d n.1=true)
  (j:∀h',Gf h h'→CD P f vs.toArray (λb=>b<h'.size) h' (λu S' l=>u=v∧Ψ∧Z S' l))
  (k:Ψ→QF P ops (Cl B h) Q rest n ((d,v)::m)):QF P ops (Cl B h) Q (⟨some d,.call ⟨.value X,xs,tys⟩,ty,pos,af,none⟩::rest) n m:=
 Hu i a c g hd (λh' o=>(j h' o).mono λ_ _ _ _ p=>⟨p.1,p.2.1⟩) k
end
def iq {n:Int}(h:(decide (-9223372036854775808≤n)&&decide (n≤9223372036854775807))=true):AA n:=by
 simp only[uL,uY] at h;exact h
def M0 {n:Nat}(h:n≤maxLen):AA (n:Int):=by unfold maxLen at h;unfold AA;omega
section
variable {P:Program}{fn:Func}{B:World}{S S':Nat→Prop}{h h':AX}{post:Value→(Nat→Prop)→AX→Prop}{a:Act}{m:SM}{w:World}
def rtT {k t:Nat}{v:Value}(b:Fr (k,[]) a m) (c:Wd B h' w) (d:fn.results= #[.tmp t]) (g:lk m t=some v) (e:Cc S h S' h') (kp:post v S' h'):Rt P fn B S h post a w:=rt1 b d g c e kp
end
end Go.Proofs.YtibidnaedddfdaaGreat
