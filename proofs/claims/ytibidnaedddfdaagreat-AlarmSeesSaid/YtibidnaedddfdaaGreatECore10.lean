import Derived.Test.YtibidnaedddfdaaGreatECore6
import Derived.StillTail
namespace Go.Proofs.YtibidnaedddfdaaGreat
set_option linter.all false
open Go.RowKit
def gt {α}[Inhabited α] (l:List α) (i:Int):α:=l.getD i.toNat default
def gd {α}[Inhabited α] {l:List α}{i:Int}(h0:0≤i) (h:i<(l.length:Int)):l[i.toNat]? =some (gt l i):=by
 have:i.toNat<l.length:=by omega
 simp [gt,List.getD,uU this]
instance:Inhabited ByteArray:=⟨.empty⟩
def Sl.one {α S h}{r:BU α}{v l}(k:Sl S h r v l):v.oneCell'=true:=by
 rcases k with ⟨rfl,_⟩|⟨a,c,rfl,_⟩<;>rfl
section
variable {P:Program}{ex ex':List (Nat×AP)}{R N N':AP}{cs cs':List Code}{B:World}{h:AX}{n:FN}{m m':SM}{S:Nat→Prop}{L:List HP}
def LG {i:Nat}(b:dU ex i=some (W P ex' R cs' N')) (k:WF P ex' R cs' N' B h n m):WF P ex R (.exit i::cs) N B h n m:=λa w c d=>ZC b (k a w c d)
def B3 (k:WF P ex' R cs' N' B h n m):WF P ex R [] (W P ex' R cs' N') B h n m:=λa w b c=>k a w b c
def AI {a w}(k:WF P ex R cs N B h n m) (b:Fr n a m) (c:Wd B h w):W P ex R cs N a w:=k a w b c
end
section
variable {P:Program}{ops:Array Oper}{C:World→Prop}{Q:Act→Prop}{n:FN}{m m':SM}{rest:List Oper}
variable {d:Nat}{ty:TypeId}{pos:String}{af:Array Edge}{X Y:Operand}{t t1 t2:TypeId}{x y:Int}{kd:IntKind}{v p:Value}{A S:Nat→Prop}{L:List HP}{h:AX}
def A6 (j d:Nat) (v:Value) {l:List Oper}(b:QF P ops C (λa=>Fr n a ((d,v)::m)) (l.take j) n m) (c:QF P ops C Q (l.drop j) n ((d,v)::m)):QF P ops C Q l n m:=mY j _ b c
end
def RV (P:Program) (w:World) (a:Act):ResultVar→Value→Prop
 | .tmp t,v=>a.tmps.getD t undef=v
 | .cell t T,v=>∀b:World,b.heap=w.heap→(do loadVar T (←asAddr (a.tmps.getD t undef)):Sem Value).run P b= .ok v b
def Y0 (P:Program) (w:World) (a:Act):List ResultVar→List Value→Prop
 |[],[]=>True
 |r::b,v::vs=>RV P w a r v∧Y0 P w a b vs
 |_,_=>False
def iL:List Value→Value
 |[v]=>v
 |vs=> .tuple vs.toArray
def Rx {P:Program}{w:World}{a:Act}{fn:Func}{b:List ResultVar}{vs:List Value}(m:fn.results.toList=b) (k:Y0 P w a b vs):(results fn a.tmps).run P w= .ok (iL vs) w:=by
 have g:∀(b:List ResultVar) (vs:List Value),Y0 P w a b vs→(b.mapM λr:ResultVar=>(match r with
   | .tmp t=>pure (a.tmps.getD t undef)
   | .cell c t=>do loadVar t (←asAddr (a.tmps.getD c undef)):Sem Value)).run P w= .ok vs w:=by
  intro b
  induction b with
  |nil=>intro vs k;cases vs with
   |nil=>simp
   |cons _ _=>exact k.elim
  |cons r b n=>intro vs k;cases vs with
   |nil=>exact k.elim
   |cons v vs=>
    obtain⟨d,o⟩:=k;have j:=n vs o;cases r with
    |tmp t=>
     have d:a.tmps.getD t undef=v:=d;simp only[yP,Sem.run_bind,Sem.run_pure,Result.andThen_ok,j,d]
    |cell c t=>
     have d:(do loadVar t (←asAddr (a.tmps.getD c undef)):Sem Value).run P w= .ok v w:=d w rfl;simp only[yP];rw[Sem.run_bind,d];simp only[Result.andThen_ok,Sem.run_bind,j,Sem.run_pure]
 have l:=g b vs k;unfold results;simp only[Array.mapM_eq_mapM_toList,m,Sem.run_bind,Sem.run_map];refine(uP (λx=>(Result.andThen x λa i=>Result.ok a.toArray i).andThen λa i=>Sem.run P (pure (if h:a.size=1 then a[0] else Value.tuple a)) i) l).trans ?_;clear l g k
 match vs with
 |[]=>rfl
 |[v]=>rfl
 |_::_::_=>rfl
section
variable {P:Program}{fn:Func}{B:World}{S S':Nat→Prop}{h h':AX}{post:Value→(Nat→Prop)→AX→Prop}{n:FN}{a:Act}{m:SM}{w:World}{L:List HP}
def KG {t v}(b:Fr n a m) (c:lk m t=some v):RV P w a (.tmp t) v:=by
 have:=b.eval (X:= .tmp t) c;simpa [RV,Act.eval] using this
def K5 {t T b T' sz}{cs:List Value}(d:Fr n a m) (g:Wd B h w) (i:St S L h) (k:lk m t=some (.pointer (some ⟨b,0,none⟩))) (l:Bx b T' cs∈L) (o:LV P T sz true=true) (q:cs.length=sz):RV P w a (.cell t T) (.agg cs.toArray):=by
 obtain⟨F,s,_⟩:=i.get l;have c:=d.eval (X:= .tmp t) k;simp only[Act.eval] at c;intro u v;have:=N5 (P:=P) (w:=u) (S:=λ_=>True) (p:= .pointer (some ⟨b,0,none⟩)) (cs:=cs) ⟨⟨b,0,none⟩,rfl,rfl,trivial,λj _=>by rw[v,g.heap,vO,Bx.cell s]⟩ q o (λe=>by cases e);simp only[Instr.loadAt,Instr.sureAddr,Sem.run_bind,Sem.run_pure,Result.andThen_ok,if_true] at this;simp only[c,asAddr,Sem.run_bind,Sem.run_pure,Result.andThen_ok,this]
def UN {d:World}(g:d.heap=w.heap):∀{b:List ResultVar}{vs:List Value},Y0 P w a b vs→Y0 P d a b vs
 |[],[],_=>trivial
 |[],_::_,h=>h.elim
 |_::_,[],h=>h.elim
 |r::b,v::vs,⟨h,t⟩=>⟨by
   cases r with
   |tmp t=>exact h
   |cell c t=>exact λi j=>h i (j.trans g),UN g t⟩
def ID:Y0 P w a [] []:=trivial
def GB {r v rs vs}(k:RV P w a r v) (b:Y0 P w a rs vs):Y0 P w a (r::rs) (v::vs):=⟨k,b⟩
def IS {k:Nat}{d:List ResultVar}{vs:List Value}{v:Value}(i:Fr (k,[]) a m) (j:fn.results.toList=d) (b:Wd B h' w) (l:Y0 P w a d vs) (n:iL vs=v) (e:Cc S h S' h') (kp:post v S' h'):Rt P fn B S h post a w:=by
 refine⟨[],i.dfr,List.nodup_nil,λD o=>(by cases o),λp q s t u x=>?_⟩;have g:=UA u x;have c:Wd B h' p:=⟨g.trans b.heap,q.trans b.os,s.trans b.tape,t.trans b.out⟩
 exact⟨v,by rw[←n];exact Rx j (UN g l),S',h',c,e,kp⟩
end
def sb {m:SM}(k:Nat) {v:Value}{r:SM}(h:lk m k=some v) (s:Tk m r):Tk m ((k,v)::r):=⟨h,s⟩
def Ob {m:SM}:Tk m []:=trivial
section
variable {P:Program}{ex:List (Nat×AP)}{R N:AP}{cs:List Code}{B:World}{h:AX}{n:FN}{m m':SM}{S:Nat→Prop}{L:List HP}
end
def CD.pure {P f args S h}{post:Value→(Nat→Prop)→AX→Prop}(k:CD P f args S h post):∃v S' h',post v S' h':=by
 let w:World:={ (default:World) with heap:=h}
 obtain⟨e,b,fr,⟨v,S',h',_,_,_,a⟩,_⟩:=k w w ⟨rfl,rfl,rfl,rfl⟩ [];exact⟨v,S',h',a⟩
def Hu {P:Program}{ops:Array Oper}{Q:Act→Prop}{n:FN}{m:SM}{rest:List Oper}{d:Nat}{ty:TypeId}{pos:String}{af:Array Edge}{X:Operand}{v:Value}{Ψ:Prop}{f:Nat}{xs:Array Operand}{a:Array TypeId}{args vs:List Value}{first cap:Array Value}{h B}
  (l:CL m X=some (.func (.func f) first cap)) (c:xs.toList.mapM (CL m)=some args) (g:first.toList++args++cap.toList=vs) (i:BG P f=true) (hd:Nat.blt d n.1=true)
  (j:∀h',Gf h h'→CD P f vs.toArray (λb=>b<h'.size) h' (λu _ _=>u=v∧Ψ))
  (k:Ψ→QF P ops (Cl B h) Q rest n ((d,v)::m)):QF P ops (Cl B h) Q (⟨some d,.call ⟨.value X,xs,a⟩,ty,pos,af,none⟩::rest) n m:=by
 obtain⟨_,_,_,_,q⟩:=(j h (Gf.refl h)).pure;exact fC l c g i hd (λh' o=>(j h' o).mono λ_ _ _ _ p=>p.1) (k q)
section
variable {P:Program}{ops:Array Oper}{C:World→Prop}{Q:Act→Prop}{n:FN}{m m':SM}{rest:List Oper}{d:Nat}
def LT {o:Oper}{j e:Nat}(a:o.guard=some (j,false)) (c:(ops[j]?).bind (·.dst)=some e) (g:lk m e=some (.bool true)) (i:o.dst=some d) (hd:Nat.blt d n.1=true) (k:QF P ops C Q rest n ((d,undef)::m)):QF P ops C Q (o::rest) n m:=rU (b:=true) a c g i hd k
end
def mh {α}{a:α}{l:List α}:a∈a::l:=List.Mem.head _
def mt {α}{a b:α}{l:List α}(h:a∈l):a∈b::l:=List.Mem.tail _ h
def fM {P:Program}{ops:Array Oper}{Q:Exit→Act→World→Prop}{n:FN}{m:SM}{rest:List Oper}{d:Nat}{ty:TypeId}{pos:String}{af:Array Edge}{X Y:Operand}{B:World}{h:AX}{S:Nat→Prop}{L:List HP}{v:Value}
  {α} {r:BU α} {T e sz a:Nat} {z:List Value} {l xs:List α} {p s b sc:Nat} {news:List Value} {q:Value→List HP} (t:CL m X=some v) (u:CL m Y=some (.slice (some ⟨p,0,none⟩) b sc)) (w:QY P T=some (e,sz,a,z)) (j:r.sz=sz)
  (x:Bx p s news∈L) (y:MX S h r news xs) (o:b=xs.length) (c:Nat.blt 0 a=true) (g:L0 (l.length+xs.length) a) (hd:Nat.blt d n.1=true) (A:St S L h) (C:∀i,Mp L (OS r e v l) (OS r e i (l++xs)) (q i))
  (k:∀i h',St S (q i) h'→Cc S h S h'→LF P ops Q rest B h' n ((d,i)::m)):LF P ops Q (⟨some d,.call ⟨.builtin .append,#[X,Y],#[T,T]⟩,ty,pos,af,none⟩::rest) B h n m:=by
 have D:1≤a:=by simpa [Nat.blt] using c
 have F:l.length+xs.length≤(l.length+xs.length)*a:=Nat.le_mul_of_pos_right _ D;have G:=g.le;exact fL t u w j x y o (by unfold maxLen;omega) g hd A C k
section
variable {P:Program}{ops:Array Oper}{C:World→Prop}{Q:Act→Prop}{n:FN}{m m':SM}{rest:List Oper}{d:Nat}{ty:TypeId}{pos:String}{af:Array Edge}{X Y Z:Operand}{t1 t2 t3 aty:TypeId}{x y z:Int}{kd:IntKind}
def mX {X Y:Operand}{t1 t2:TypeId}{a b:Bool}(g:CL m X=some (.bool a)) (i:CL m Y=some (.bool b)) (j:P.underlying t1=some .bool) (hd:Nat.blt d n.1=true) (k:QF P ops C Q rest n ((d,.bool (a==b))::m)):QF P ops C Q (⟨some d,.binOp .eql t1 X Y t2,ty,pos,af,none⟩::rest) n m:=
 λ_ c=>Hf c hd (λw _=>by
  have l:(eqGuard .eql t1 X Y (.bool a) (.bool b)).run P w= .ok () w:=by unfold eqGuard;simp
  have o:(Op.equal t1 (.bool a) (.bool b)).run P w= .ok (a==b) w:=run_equalIn_bool' w 9999 t1 a b j;simp [execOp,c.eval g,c.eval i,l,binOp,o]) k
def WK {X Y:Operand}{t1 t2:TypeId}{a b:ByteArray}(g:CL m X=some (.string a)) (i:CL m Y=some (.string b)) (hd:Nat.blt d n.1=true) (k:QF P ops C Q rest n ((d,.bool (a==b))::m)):QF P ops C Q (⟨some d,.binOp .eql t1 X Y t2,ty,pos,af,none⟩::rest) n m:=
 λ_ c=>Hf c hd (λw _=>by
  have j:(eqGuard .eql t1 X Y (.string a) (.string b)).run P w= .ok () w:=by unfold eqGuard;simp
  simp [execOp,c.eval g,c.eval i,j,binOp,Op.stringOp,beq_toListBytes]) k
def eV {X:Operand}{t1:TypeId}{s:ByteArray}(b:CL m X=some (.string s)) (c:P.underlying t1=some .string) (hd:Nat.blt d n.1=true) (k:QF P ops C Q rest n ((d,.int .i64 s.size)::m)):QF P ops C Q (⟨some d,.call ⟨.builtin .len,#[X],#[t1]⟩,aty,pos,af,none⟩::rest) n m:=
 λ_ a=>Hf a hd (λw _=>by simp [execOp,resolve,invoke,builtin,Builtin.len_,a.eval b,run_underlying c,goInt]) k
end
def qz (o:Oper):Oper:={ o with dst:=none,op:= .move (.const undef),guard:=none}
def NX (ops:Array Oper):Bool:=(List.range ops.size).all λi=>((ops[i]?).map λo=>o.after.all λe=> !Region.binds .any e||decide (e.on<i)).getD true
def Zu (ops:Array Oper) (n:Nat):Bool:=(List.range ops.size).all λi=>((ops[i]?).map λo=>match o.guard with|some (j,_)=> !Nat.beq j n|none=>true).getD true
def W8 (ops:Array Oper) (n:Nat):Bool:=
 match ops[n]? with
 |some on=>Nat.beq (n+1) ops.size&&Region.sinkB .any ops n&&Region.chainB .any ops n&&NX ops&&Zu ops n&&Region.lexB .any (ops.setIfInBounds n (qz on))
 |none=>false
section
variable {P:Program}{ops:Array Oper}{C:World→Prop}{n:Nat}{on:Oper}
def Ud (b:ops[n]? =some on) (i:Nat):(ops.setIfInBounds n (qz on))[i]? =if i=n then some (qz on) else ops[i]? :=by
 have a:n<ops.size:=(vJ.1 b).1;rw[wE];by_cases h:n=i
 ·subst h;simp [a]
 ·rw[uI h,uI (λe=>h e.symm)]
def Sw (b:ops[n]? =some on) (a:Array Bool):Region.ready .any (ops.setIfInBounds n (qz on)) a=Region.ready .any ops a:=by
 unfold Region.ready;simp only[Array.size_setIfInBounds];congr 1;funext i;rw[Ud b];by_cases h:i=n
 ·subst h;simp [b,qz]
 ·rw[uI h]
def Sv (b:ops[n]? =some on) {j:Nat}(h:j≠n) (a:Array Value):yielded (ops.setIfInBounds n (qz on)) a j=yielded ops a j:=by
 unfold yielded;rw[Ud b,uI h]
def Mo {p:Nat→Bool}:∀k,p k=false→∃i,i≤k∧p i=false∧∀j,j<i→p j=true:=by
 intro k
 induction k using Nat.strongRecOn with
 |_ k c=>
  intro d;by_cases h:∃j,j<k∧p j=false
  ·obtain⟨j,a,b⟩:=h;obtain⟨i,m,g,l⟩:=c j a b;exact⟨i,by omega,g,l⟩
  ·refine⟨k,uW _,d,λj a=>?_⟩;cases b:p j with
   |true=>rfl
   |false=>exact absurd ⟨j,a,b⟩ h
def VS {Q':Exit→Act→World→Prop}(y:ops[n]? =some on) (ac:n+1=ops.size) (hs:Region.sinkB .any ops n=true) (hc:Region.chainB .any ops n=true) (hb:NX ops=true) (hg:Zu ops n=true):
  ∀(d:Nat) (c:Array Bool) (a:Act) (w:World),HeadInv .any ops n c→C w→
   wpAnyQ P .any (ops.setIfInBounds n (qz on)) C (λa=>∀w,C w→wpList P ops Q' [on] a w) d c a→wpAny P .any ops Q' d c a w:=by
 have z:n<ops.size:=by omega
 have o:∀c,HeadInv .any ops n c→Region.ready .any ops c≠[]:=by
  intro c k h0;have H:c.getD n true=false:=k.tail n (uW _) z;obtain⟨i,t,U,B⟩:=Mo (p:=λi=>c.getD i true) n H;have m:i<ops.size:=by omega
  have D:i∈Region.ready .any ops c:=by
   refine mem_ready.2 ⟨U,ops[i],by simp [m],λe he V=>?_⟩;have u:=uQ.1 hb i (vF.2 m);have F:ops[i]? =some ops[i]:=by simp [m]
   rw[F] at u;simp only[xM,vM,xN] at u;have h6:=u e he;simp only[V,vL,wH,uY] at h6;have h7:=B e.on h6;have h8:e.on<c.size:=by rw[k.size];omega
   simp only[wL,yE h8,vM] at h7 ⊢;exact h7
  rw[h0] at D;cases D
 intro d
 induction d with
 |zero=>
  intro c a w k _ h;have t:=h.1;rw[Sw y] at t;exact absurd t (o c k)
 |succ d ih=>
  intro c a w k hw h;refine⟨λh0=>absurd h0 (o c k),λi D=>?_⟩;have W:i∈Region.ready .any (ops.setIfInBounds n (qz on)) c:=by rw[Sw y];exact D
  have t:=h.2 i W;obtain⟨H,oi,x,_⟩:=mem_ready.1 D;have m:i<ops.size:=(vJ.1 x).1;by_cases I:i=n
  ·subst I;have X:oi=on:=uX (x.symm.trans y);subst X;have J:∀j,j<i→c.getD j true=true:=by
    intro j A;cases hl:c.getD j true with
    |true=>rfl
    |false=>exact absurd D (tail_waits hs hc z k _ j rfl A hl i (uW _))
   have l:Region.ready .any ops (c.setIfInBounds i true)=[]:=by
    apply List.eq_nil_iff_forall_not_mem.2;intro j A;obtain⟨q,oj,Y,_⟩:=mem_ready.1 A;have ab:j<ops.size:=(vJ.1 Y).1;have Z:i<c.size:=by rw[k.size];omega
    have ad:j<c.size:=by rw[k.size];omega
    simp only[wL,wE] at q;by_cases e:i=j
    ·subst e;simp [Z] at q
    ·rw[uI e] at q;have:=J j (by omega);simp only[wL] at this;rw[this] at q;cases q
   unfold qOp at t;rw[Ud y,uJ rfl] at t;simp only at t;rw[uJ (by simp [Region.wanted,qz])] at t;obtain⟨v,_,U⟩:=t;have hk:∀w,C w→wpList P ops Q' [oi] a w:=by
    cases d with
    |zero=>exact U.2
    |succ f=>exact U.1 (by rw[Sw y];exact l)
   have B:=hk w hw;unfold wpOp;simp only[y];unfold wpList at B;have hQ:∀K M,wpList P ops Q' [] K M→wpAny P .any ops Q' d (c.setIfInBounds i true) K M:=by
    intro K M hq;cases d with
    |zero=>exact⟨l,hq⟩
    |succ f=>exact⟨λ_=>hq,λj A=>by rw[l] at A;cases A⟩
   split
   ·rename_i s;rw[uJ s] at B;exact B.imp (Oper.wp_mono hQ) id
   ·rename_i s;rw[uI s] at B;exact hQ _ _ B
  ·have Q:i<n:=by omega
   have u:=wpOp_of_qOp (Q':=Q') hw (K':=wpAny P .any ops Q' d (c.setIfInBounds i true)) (λK M s h'=>ih _ K M (k.set D Q) s h') t;unfold wpOp at u ⊢;rw[Ud y,uI I] at u;simp only[x] at u ⊢;have G:Region.wanted oi (yielded (ops.setIfInBounds n (qz on)) a.tmps)=Region.wanted oi (yielded ops a.tmps):=by
    have F:=uQ.1 hg i (vF.2 m);rw[x] at F;simp only[xM,vM] at F;unfold Region.wanted;cases aa:oi.guard with
    |none=>rfl
    |some g=>
     obtain⟨j,b⟩:=g;rw[aa] at F;simp only[vE] at F;have A:j≠n:=λe=>by subst e;simp at F
     simp only[Sv y A]
   rw[G] at u;exact u
def O0 {c:Array Oper}{Q:Act→Prop}(i:∀(j:Nat) (d:Array Value),j<n→yielded c d j=yielded ops d j):
  ∀(l:List Oper) (a:Act),(∀o∈l,∀j b,o.guard=some (j,b)→j<n)→wpQuiet P ops C Q l a→wpQuiet P c C Q l a
 |[],_,_,h=>h
 |o::l,a,k,h=>by
  have s:Region.wanted o (yielded c a.tmps)=Region.wanted o (yielded ops a.tmps):=by
   unfold Region.wanted;cases m:o.guard with
   |none=>rfl
   |some w=>obtain⟨j,b⟩:=w;simp only;rw[i j _ (k o (by simp) j b m)]
  unfold wpQuiet at h ⊢;rw[s];split
  ·rename_i p;rw[uJ p] at h;obtain⟨v,t,u⟩:=h;exact⟨v,t,O0 i l _ (λo q=>k o (by simp [q])) u⟩
  ·rename_i p;rw[uI p] at h;exact O0 i l _ (λo q=>k o (by simp [q])) h
def Zw (l:List Oper) (n:Nat):Bool:=l.all λo=>match o.guard with|some (j,_)=>Nat.blt j n|none=>true
def Oz {l:List Oper}{id:Nat}{Q':Exit→Act→World→Prop}{a:Act}{w:World}{D:Option Nat}(v:RD D (.region id l.toArray true)) (H:∀a w,¬Q' .outgrown a w) (n:Nat) (I:P.follows .mixedOrders=true) (m:W8 l.toArray n=true) (x:Zw (l.take n) n=true) (J:C { w with drawn:=w.drawn+1})
  (h:wpQuiet P l.toArray C (λa=>∀w,C w→wpList P l.toArray Q' (l.drop n) a w) (l.take n) a):(Code.region id l.toArray true).wpIn (FF D) 0 P Q' a w:=by
 unfold W8 at m;split at m
 ·rename_i on y;simp only[uL] at m;obtain⟨⟨⟨⟨⟨K,M⟩,Q⟩,U⟩,V⟩,z⟩:=m;have p:=uR K;have F:n+1=l.length:=by simpa using p
  have k:l.drop n=[on]:=by
   have A:l[n]? =some on:=by simpa using y
   have d:n<l.length:=by omega
   rw[yI d,xU (by omega)];have:=uU d;rw[A] at this;rw[←uX this]
  rw[k] at h;have q:(l.toArray.setIfInBounds n (qz on)).toList=l.take n++[qz on]:=by
   have d:n<l.length:=by omega
   rw[List.setIfInBounds_toArray,List.set_eq_take_append_cons_drop,uJ d,xU (by omega)]
  have W:wpQuiet P (l.toArray.setIfInBounds n (qz on)) C (λa=>∀w,C w→wpList P l.toArray Q' [on] a w) (l.take n++[qz on]) a:=by
   refine T4 n (λa=>∀w,C w→wpList P l.toArray Q' [on] a w) ?_ λa' X=>?_
   ·have e:(l.take n++[qz on]).take n=l.take n:=by
     have:(l.take n).length=n:=by simp;omega
     rw[zD (by omega),yJ,Nat.min_self]
    rw[e];refine O0 (n:=n) (λj s hj=>Sv y (by omega) s) _ _ (λo Y j b B=>?_) h;have:=uQ.1 x o Y;rw[B] at this;have h8:j+1≤n:=by simpa [Nat.blt] using this
    omega
   ·have e:(l.take n++[qz on]).drop n=[qz on]:=by
     have:(l.take n).length=n:=by simp;omega
     rw[List.drop_append_of_le_length (by omega),xU (by omega),wB]
    rw[e];unfold wpQuiet;rw[uJ (by simp [Region.wanted,qz])];exact⟨undef,λw _=>by unfold Oper.quietAt;simp [execOp,qz,Act.eval,Oper.quietUpon],X⟩
  simp only[Region.lexB,uL] at z;refine O9 v H I ?_;have g:(l.toArray.setIfInBounds n (qz on)).size=l.toArray.size:=by simp
  have c:(l.take n++[qz on]).length=l.toArray.size:=by rw[←q,Array.length_toList,g]
  have u:HeadInv .any l.toArray n (Array.replicate l.toArray.size false):=
   ⟨by simp,λj oj _ G=>(by rw[getD_replicate_false] at G;cases G),λt _ Z=>getD_in (by simpa using Z) (getD_replicate_false _ _)⟩
  have i:=wpAnyQ_lex (P:=P) (C:=C) (md:= .any) z.1 (l.take n++[qz on]) 0 (Array.replicate l.toArray.size false) a (λj=>by rw[←q];simp) (by rw[c,←g];exact z.2) W;rw[c] at i;exact VS y p M Q U V _ _ _ _ u J i
 ·cases m
end
section
variable {P:Program}{ex:List (Nat×AP)}{R N:AP}{cs:List Code}{B:World}{h:AX}{n:FN}{m:SM}{S:Nat→Prop}{L:List HP}
def Pa {l:List Oper}{id:Nat}(j:Nat) (c:P.follows .mixedOrders=true) (d:W8 l.toArray j=true) (b:Zw (l.take j) j=true)
  (k:QF P l.toArray (Wd B h) (λa=>∀w,Wd B h w→wpList P l.toArray (Qx ex R (W P ex R cs N)) (l.drop j) a w) (l.take j) n m):WF P ex R (.region id l.toArray true::cs) N B h n m:=
 λa _ g i _ hd=>Oz hd Mx j c d b i.drew (k a g)
def Gs {l:List Oper}{id:Nat}(j:Nat) (g:P.follows .mixedOrders=true) (i:W8 l.toArray j=true) (b:Zw (l.take j) j=true) (c:St S L h)
  (k:QF P l.toArray (Cl B h) (λa=>∀w h',Wd B h' w→St S L h'→Cc S h S h'→wpList P l.toArray (Qx ex R (W P ex R cs N)) (l.drop j) a w) (l.take j) n m):WF P ex R (.region id l.toArray true::cs) N B h n m:=by
 intro a w o p u hd;refine Oz hd Mx (C:=Cl B h) j g i b ⟨h,p.drew,Gf.refl h⟩ ?_;refine T4 j (λa=>∀w h',Wd B h' w→St S L h'→Cc S h S h'→wpList P l.toArray (Qx ex R (W P ex R cs N)) (l.drop j) a w) (by rw[yJ,Nat.min_self];exact k a o) λv q=>?_;have e:(l.take j).drop j=[]:=by rw[xU];simp;omega
 rw[e];exact λs ⟨h',t,d⟩=>q s h' t (d.st c) (d.ext c.1)
def Em {ops:Array Oper}{C}{Q:Exit→Act→World→Prop}{l:List Oper}(k:∀h',St S L h'→Cc S h S h'→LF P ops Q l B h' n m):QF P ops C (λa=>∀w h',Wd B h' w→St S L h'→Cc S h S h'→wpList P ops Q l a w) [] n m:=
 λa b w h' c s e=>k h' s e a w b c
end
def ix {α}(l:List α) (i:Int):Option α:=if i<0 then none else l[i.toNat]?
def upd {α}(l:List α) (i:Int) (x:α):List α:=l.set i.toNat x
def chk {α}(b:Bool) (x:Option α):Option α:=cond b x none
def room (n a:Nat):Bool:=decide (n*a≤140737488355328)||(decide (n*a≤175921860444160)&&decide (a≤274877906944))
def Mn (len cap:Int) (a:Nat):Bool:=decide (0≤len)&&decide (len≤cap)&&decide (a*cap≤140737488355328)
def bd {α β}{a:Option α}{f:α→Option β}{r}(e:a.bind f=some r):∃x,a=some x∧f x=some r:=xK.1 e
def H7 {α}{b:Bool}{x y r:α}(h:b=true) (e:cond b x y=r):x=r:=by subst h;exact e
def H8 {α}{b:Bool}{x y r:α}(h:b=false) (e:cond b x y=r):y=r:=by subst h;exact e
def RM {α}{b:Bool}{x:Option α}{r}(e:chk b x=some r):b=true∧x=some r:=by
 cases b with
 |false=>cases e
 |true=>exact⟨rfl,e⟩
def LK {α}{l:List α}{i:Int}{x:α}(h:ix l i=some x):0≤i∧l[i.toNat]? =some x:=by
 unfold ix at h;split at h
 ·cases h
 ·exact⟨by omega,h⟩
def gF {α}{l:List α}{i:Int}{x:α}(h:ix l i=some x):0≤i∧i<(l.length:Int):=by
 obtain⟨a,b⟩:=LK h;have:=(uV.1 b).1;exact⟨a,by omega⟩
def Rc {n a:Nat}(h:room n a=true):L0 n a:=by simpa [room,L0] using h
def HK {x y:Int}(a:AA x) (b:AA y):AA (max x y):=by unfold AA at *;omega
def G4 {x y:Int}(a:AA x) (b:AA y):AA (min x y):=by unfold AA at *;omega
def St.pick {S L h H L2}(a:St S L h) (p:P6 L H L2):St S (H::L2) h:=⟨a.1,Sp.pick p a.2⟩
def HP.Flat (H:HP):Prop:=∀{S S' F h},H.holds S F h→H.holds S' F h
def BU.Flat {α}(r:BU α):Prop:=∀{S h S' h' cs x},r.rd S h cs x→r.rd S' h' cs x
def MX.flat {α}{r:BU α}(f:r.Flat) {S h S' h'}:∀{l:List α}{cs},MX S h r cs l→MX S' h' r cs l
 |[],_,k=>k
 |_::_,_,⟨a,b,e,c,d⟩=>⟨a,b,e,f c,d.flat f⟩
def OS.flat {α}{r:BU α}{T v l}(f:r.Flat):(OS r T v l).Flat:=λ{_ _ _ _} k=>by
 rcases k with k|⟨g,cap,cur,k1,k2,k3,k4,k5,k6,k7⟩
 ·exact .inl k
 ·exact .inr ⟨g,cap,cur,k1,k2,k3,k4,k5,k6,k7.flat f⟩
def VG:List HP→Prop
 |[]=>True
 |H::M=>H.Flat∧VG M
def Sp.join {S S':Nat→Prop}{h}{L:List HP}:∀{M:List HP}{c d A:Nat→Prop},VG M→Sp S' M h c→Sp S L h d→(∀b,c b→A b)→(∀b,d b→A b)→(∀b,c b→¬d b)→Sp S (M++L) h A
 |[],c,d,A,_,_,g,_,i,_=>g.mono i
 |H::M,c,d,A,⟨f,m⟩,⟨F,n,j,o⟩,g,k,i,l=>
  ⟨F,f n,λb a=>k b (j b a),Sp.join m o g (λb a=>⟨k b a.1,a.2⟩) (λb a=>⟨i b a,λp=>l b (j b p) a⟩) λb a=>l b a.1⟩
def St.join {S S' L M h h'}(d:St S L h) (e:Cc (λb=>b<h.size) h S' h') (g:St S' M h') (f:VG M):St S (M++L) h':=by
 refine⟨λb a=>vB (d.1 b a) e.siz,?_⟩;have i:Sp S L h' (λb=>b<h.size∧¬S b):=Sp.ext d.2 (λ_ x=>x) (λb a=>e.same b (a.elim (d.1 b) (·.1))) λ_ x=>x;exact Sp.join f g.2 i (λb a=>⟨a.1,λc=>a.2 (e.sub b (d.1 b c))⟩) (λb a=>⟨vB a.1 e.siz,a.2⟩) λb a c=>a.2 (e.sub b c.1)
def QD {α β}(r:BU α) (a:Nat) (r':BU β) (b:α→β→α):Prop:=
 a+r'.sz≤r.sz∧∀{S h c x vs y},r.rd S h c x→r'.rd S h vs y→r.rd S h (IA c a vs) (b x y)
def GC.id {α}{r:BU α}:GC r 0 r (λx=>x):=λ{S h cs x} k=>by
 have:=r.len k;simp only[List.drop_zero,←this,wQ];exact k
def GC.trans {α β γ}{r:BU α}{c:BU β}{d:BU γ}{o1 o2 f g}(a:GC r o1 c f) (b:GC c o2 d g) (i:o2+d.sz≤c.sz):GC r (o1+o2) d (λx=>g (f x)):=λ{S h cs x} k=>by
 have:=b (a k);rw[List.drop_take,List.drop_drop,yJ] at this;rw[Nat.min_eq_left (by omega)] at this;exact this
def QD.id {α}{r:BU α}:QD r 0 r (λ_ y=>y):=⟨by omega,λ{S h c x vs y} b a=>by
 have d:=r.len b;have g:=r.len a;simp only[IA,List.take_zero,wB,vO];rw[List.drop_of_length_le (by omega),vR];exact a⟩
def QD.trans {α β γ}{r:BU α}{d:BU β}{g:BU γ}{o1 o2 f g1 g2}(a:QD r o1 d g1) (k:GC r o1 d f) (b:QD d o2 g g2):QD r (o1+o2) g (λx y=>g1 x (g2 (f x) y)):=by
 refine⟨by have:=a.1;have:=b.1;omega,λ{S h c x vs y} i j=>?_⟩;have l:=k i;have m:=b.2 l j;have n:=a.2 i m;have t:=r.len i;have u:=g.len j;have v:=a.1;have w:=b.1;have:IA c (o1+o2) vs=IA c o1 (IA ((c.drop o1).take d.sz) o2 vs):=by
  unfold IA;have z:((c.drop o1).take d.sz).length=d.sz:=by simp;omega
  simp only[wC,vV,xC];rw[yJ,Nat.min_eq_left (by omega),List.drop_take,List.drop_drop];have o:c.take (o1+o2)=c.take o1++(c.drop o1).take o2:=List.take_add ..;rw[o];simp only[xE,List.append_cancel_left_eq];have p:o1+(min o2 (min d.sz (c.length-o1))+vs.length+(min d.sz (c.length-o1)-(o2+vs.length)))=o1+d.sz:=by omega
  rw[p];have q:c.drop (o1+(o2+vs.length))=(c.drop (o1+(o2+vs.length))).take (d.sz-(o2+vs.length))++(c.drop (o1+(o2+vs.length))).drop (d.sz-(o2+vs.length)):=(yK _ _).symm;have s:(c.drop (o1+(o2+vs.length))).drop (d.sz-(o2+vs.length))=c.drop (o1+d.sz):=by rw[List.drop_drop];congr 1;omega
  rw[←s,Nat.add_assoc];exact q
 rw[this];exact n
def kG {b k a:Nat}:(⟨b,k,none⟩:Addr).add a=⟨b,k+a,none⟩:=by unfold Addr.add;split<;>simp_all
def St.epAt {α β}{r:BU α}{r':BU β}{S L h T v l i x off f q}(o:St S L h) (p:OS r T v l∈L) (s:ix l i=some x) (t:GC r off r' f) (u:EP v (i.toNat*r.sz+off) q):NK (λb=>b<h.size) S h r' q (f x):=by
 obtain⟨y,cap,rfl,k⟩:=o.osAt p (LK s).2;obtain⟨w,n,c,d,rfl⟩:=u;injection d with d
 injection d with d
 injection d with d
 subst d;obtain⟨a,j,m⟩:=k.fld t;injection j with j
 injection j with j
 subst j;rw[kG] at m;exact m
def BU.fn {t u:Type}(P:Program) (k:t→List Value) (l:t→Prop) (m:u→Value) (d:u→Prop):BU (t→Option u) where
 sz:=1
 ag:=false
 rd:=λS h cs w=>∃(f:FuncId) (a:Array Value),cs=[.func (.func f) #[] a]∧BG P f=true∧∀(S':Nat→Prop) (h':AX),(∀b,S b→S' b)→(∀b,S b→h'[b]? =h[b]?)→∀L,St S' L h'→∀x y,l x→w x=some y→
  CD P f (k x++a.toList).toArray S' h' (λv g i=>v=m y∧d y∧St g L i)
 len:=λ⟨_,_,h,_⟩=>by rw[h];rfl
 one:=λ⟨_,_,h,_⟩ v j=>by rw[h] at j;simp at j;rw[j];rfl
 mono:=λ⟨f,a,n,o,p⟩ s e=>⟨f,a,n,o,λS' h' s' q=>p S' h' (λb c=>s' b (s b c)) λb c=>(q b (s b c)).trans (e b c)⟩
def Rd.fn {m n:Type}{P:Program}{i:m→List Value}{j:m→Prop}{l:n→Value}{c:n→Prop}{S h v}{o:m→Option n}(k:Rd S h (BU.fn P i j l c) v o):
  ∃(f:FuncId) (a:Array Value),v= .func (.func f) #[] a∧BG P f=true∧∀(S':Nat→Prop) (h':AX),(∀b,S b→S' b)→(∀b,S b→h'[b]? =h[b]?)→∀L,St S' L h'→∀x y,j x→o x=some y→
  CD P f (i x++a.toList).toArray S' h' (λv d g=>v=l y∧c y∧St d L g):=by
 obtain⟨_,rfl,f,a,rfl,h⟩:=k;exact⟨f,a,rfl,h⟩
def NZ {n o:Type}{P:Program}{i:n→List Value}{j:n→Prop}{k:o→Value}{c:o→Prop}{S h}{p:n→Option o}(f:FuncId) (a:Array Value) (l:BG P f=true)
  (m:∀(S':Nat→Prop) (h':AX),(∀b,S b→S' b)→(∀b,S b→h'[b]? =h[b]?)→∀L,St S' L h'→∀x y,j x→p x=some y→CD P f (i x++a.toList).toArray S' h' (λv d g=>v=k y∧c y∧St d L g)):
  Rd S h (BU.fn P i j k c) (.func (.func f) #[] a) p:=⟨_,rfl,f,a,rfl,l,m⟩
def NK.mono'' {α S h S' h'}{r:BU α}{p x}(k:Pt S h r p x) (s:∀b,S b→S' b) (e:∀b,S b→h'[b]? =h[b]?):Pt S' h' r p x:=
 let ⟨cs,a,c⟩:=k;⟨cs,a.mono s e,r.mono c s e⟩
def Rd.mono'' {α S h S' h'}{r:BU α}{v x}(k:Rd S h r v x) (s:∀b,S b→S' b) (e:∀b,S b→h'[b]? =h[b]?):Rd S' h' r v x:=
 let ⟨cs,a,c⟩:=k;⟨cs,a,r.mono c s e⟩
def St.pubb {S L L2 h b T cs}{α}{r:BU α}{x:α}(d:St S L h) (p:P6 L (Bx b T cs) L2) (g:r.rd S h cs x):∃S',St S' L2 h∧Cc S h S' h∧Pt S' h r (.pointer (some ⟨b,0,none⟩)) x:=by
 obtain⟨F,c,k,i,a⟩:=d.pub p;exact⟨_,i,a,cs,⟨⟨b,0,none⟩,rfl,rfl,.inr ((c.1 b).2 rfl),λj _=>by simp only[vO];exact Bx.cell c j⟩,r.mono g a.sub a.same⟩
section
variable {P:Program}{ops:Array Oper}{C:World→Prop}{Q:Act→Prop}{n:FN}{m m':SM}{rest:List Oper}
variable {d:Nat}{ty:TypeId}{pos:String}{af:Array Edge}{X Y:Operand}{t t1 t2:TypeId}{x y z:Int}{kd:IntKind}{v p:Value}{S:Nat→Prop}{L:List HP}{h:AX}
def Mc {α}{r:BU α}{l:List α}{e i x}(b:CL m X=some v) (c:CL m Y=some (.int .i64 i)) (k0:Sl S h r v l) (g:RY P t e r.sz=true) (a:Go.Proofs.YtibidnaedddfdaaGreat.ix l i=some x) (hd:Nat.blt d n.1=true)
  (k:∀q,Pt S h r q x→QF P ops C Q rest n ((d,q)::m)):QF P ops C Q (⟨some d,.indexAddr t X Y,ty,pos,af,none⟩::rest) n m:=rS b c k0 g (LK a).1 (LK a).2 hd k
def CS {α}{r:BU α}{l:List α}{T e i x}(b:St S L h) (c:OS r T v l∈L) (g:CL m X=some v) (j:CL m Y=some (.int .i64 i)) (o:RY P t e r.sz=true) (a:Go.Proofs.YtibidnaedddfdaaGreat.ix l i=some x) (hd:Nat.blt d n.1=true)
  (k:∀q,EP v (i.toNat*r.sz+0) q→QF P ops C Q rest n ((d,q)::m)):QF P ops C Q (⟨some d,.indexAddr t X Y,ty,pos,af,none⟩::rest) n m:=mT b c g j o (LK a).1 (LK a).2 hd λq _ e=>k q e
def LU {k0 j a:Nat}{q:Value}(i:CL m X=some q) (l:EP v k0 q) (o:Zz P t j a=true) (hd:Nat.blt d n.1=true)
  (k:∀b,EP v (k0+a) b→QF P ops C Q rest n ((d,b)::m)):QF P ops C Q (⟨some d,.fieldAddr t X j,ty,pos,af,none⟩::rest) n m:=by
 obtain⟨u,p,c,s,rfl⟩:=l;exact HJ i o hd (k _ ⟨u,p,c,s,rfl⟩)
def Pv (a:CL m X=some (.int .i64 x)) (b:CL m Y=some (.int .i64 y)) (hd:Nat.blt d n.1=true) (c:BR (x+y)=z) (k:QF P ops C Q rest n ((d,.int .i64 z)::m)):QF P ops C Q (⟨some d,.binOp .add t1 X Y t2,ty,pos,af,none⟩::rest) n m:=YJ a b hd (c▸k)
def eP (a:CL m X=some (.int .i64 x)) (b:CL m Y=some (.int .i64 y)) (hd:Nat.blt d n.1=true) (c:BR (x-y)=z) (k:QF P ops C Q rest n ((d,.int .i64 z)::m)):QF P ops C Q (⟨some d,.binOp .sub t1 X Y t2,ty,pos,af,none⟩::rest) n m:=YD a b hd (c▸k)
def cK {xs:Array Value}{i:Nat}{u:Value}(c:CL m X=some (.tuple xs)) (g:xs[i]? =some u) (hd:Nat.blt d n.1=true) (k:QF P ops C Q rest n ((d,u)::m)):QF P ops C Q (⟨some d,.extract X i,ty,pos,af,none⟩::rest) n m:=
 λa b=>Hf b hd (λw _=>by simp [execOp,b.eval c,Instr.extract,g]) k
def Ma {f:Fn}{b cs:Array Operand}{g i:List Value}(j:b.toList.mapM (CL m)=some g) (l:cs.toList.mapM (CL m)=some i) (hd:Nat.blt d n.1=true) (k:QF P ops C Q rest n ((d,.func f g.toArray i.toArray)::m)):QF P ops C Q (⟨some d,.makeFunc f b cs,ty,pos,af,none⟩::rest) n m:=
 λa c=>Hf c hd (λw _=>by
  have e:(execOp a.eval ⟨some d,.makeFunc f b cs,ty,pos,af,none⟩).run P w= .ok (.value (.func f (b.map a.eval) (cs.map a.eval))) w:=rfl;rw[e,Xl c j,Xl c l]) k
end
section
variable {P:Program}{ex:List (Nat×AP)}{R N:AP}{cs:List Code}{B:World}{h:AX}{n:FN}{m m':SM}{S:Nat→Prop}{L:List HP}
def AQ {i:Nat}{c:Code}(I:AP) (b:WF P ((i,I)::ex) R [c] I B h n m) (d:∀a w,I a w→W P ex R cs N a w):WF P ex R (.block i c::cs) N B h n m:=λa w g j=>VN I (b a w g j) d
def BJ {c:Code}(I:Nat→AP) (d:Nat) (h0:∀a w,Fr n a m→Wd B h w→I d a w) (j:∀a w,¬I 0 a w) (b:∀k a w,I (k+1) a w→W P ex R [c] (I k) a w):WF P ex R (.loop c::cs) N B h n m:=by
 refine eO (λi a w=>∃k,i+k=d∧I k a w) d 0 (λa w l o=>⟨d,by omega,h0 a w l o⟩) (λi a w ⟨k,p,_⟩=>by omega) λi a w ⟨k,p,g⟩=>?_;cases k with
 |zero=>exact absurd g (j a w)
 |succ k=>exact iJ (b k a w g) λq s h'=>⟨k,by omega,h'⟩
end
section
variable {P:Program}{ops:Array Oper}{Q:Exit→Act→World→Prop}{n:FN}{m:SM}{rest:List Oper}
variable {d:Nat}{ty:TypeId}{pos:String}{af:Array Edge}{X Y:Operand}{B:World}{h:AX}{S:Nat→Prop}{L L2:List HP}{v:Value}
def EQ {f:Nat}{xs:Array Operand}{g:Array TypeId}{args vs:List Value}{first cap:Array Value}{c:Value→(Nat→Prop)→AX→Prop}
  (u:CL m X=some (.func (.func f) first cap)) (i:xs.toList.mapM (CL m)=some args) (j:first.toList++args++cap.toList=vs) (l:BG P f=true) (hd:Nat.blt d n.1=true) (t:St S L h) (x:CD P f vs.toArray (λb=>b<h.size) h c)
  (k:∀v S' h',St S L h'→Cc S h S h'→Cc (λb=>b<h.size) h S' h'→c v S' h'→LF P ops Q rest B h' n ((d,v)::m)):LF P ops Q (⟨some d,.call ⟨.value X,xs,g⟩,ty,pos,af,none⟩::rest) B h n m:=
 λ_ _ q s=>Zo q u i j l hd s x λv a w S' h' q s e p=>
  have o:Gf h h':=⟨e.siz,λb y=>e.same b y⟩
  k v S' h' (o.st t) (o.ext t.1) e p a w q s
def J2 {α}{r:BU α}{T e sz b:Nat}{z:List Value}{l xs:List α}{p s a sc:Nat}{news:List Value}{q:Value→List HP}(t:CL m X=some v) (u:CL m Y=some (.slice (some ⟨p,0,none⟩) a sc)) (w:QY P T=some (e,sz,b,z)) (i:r.sz=sz)
  (x:Bx p s news∈L) (y:MX S h r news xs) (j:a=xs.length) (c:Nat.blt 0 b=true) (o:room (l.length+xs.length) b=true) (hd:Nat.blt d n.1=true) (A:St S L h) (C:∀g,Mp L (OS r e v l) (OS r e g (l++xs)) (q g))
  (k:∀g h',St S (q g) h'→Cc S h S h'→LF P ops Q rest B h' n ((d,g)::m)):LF P ops Q (⟨some d,.call ⟨.builtin .append,#[X,Y],#[T,T]⟩,ty,pos,af,none⟩::rest) B h n m:=
 fM t u w i x y j c (Rc o) hd A C k
def Tc {α}{r:BU α}{T e sz b:Nat}{z:List Value}{zx:α}{len cap:Int}{l o:IntKind}{U V:Operand}(p:QY P T=some (e,sz,b,z)) (j:r.sz=sz) (q:r.rd S h z zx)
  (s:CL m U=some (.int l len)) (t:CL m V=some (.int o cap)) (g:Mn len cap b=true) (i:Nat.blt 0 b=true) (hd:Nat.blt d n.1=true) (u:St S L h)
  (k:∀v h',St S (OS r e v (List.replicate len.toNat zx)::L) h'→Cc S h S h'→LF P ops Q rest B h' n ((d,v)::m)):LF P ops Q (⟨some d,.makeSlice T U V,ty,pos,af,none⟩::rest) B h n m:=by
 simp only[Mn,uL,uY] at g;obtain⟨⟨h0,A⟩,w⟩:=g;obtain⟨a,rfl⟩:∃a:Nat,len=a:=⟨len.toNat,by omega⟩
 obtain⟨c,rfl⟩:∃c:Nat,cap=c:=⟨cap.toNat,by omega⟩
 have x:((b*c:Nat):Int)≤140737488355328:=by rw[xV];exact w
 have C:b*c≤140737488355328:=by omega
 have y:1≤b:=by simpa [Nat.blt] using i
 have D:c≤b*c:=Nat.le_mul_of_pos_left _ y;exact rX p j q s t (by omega) (by omega) (by unfold maxLen;omega) hd u (by simpa using k)
def JD {α β}{r:BU α}{r':BU β}{T' e:TypeId}{l:List α}{i:Int}{x:α}{y:β}{g:α→β→α}{j:Nat}{q u:Value}(hx:CL m X=some q) (hy:CL m Y=some u) (hu:Rd S h r' u y) (ep:EP v (i.toNat*r.sz+j) q) (ad:ix l i=some x)
  (up:QD r j r' g) (ht:LV P T' r'.sz r'.ag=true) (h1:r'.ag=false→r'.sz=1) (hs:St S L h) (rp:Mp L (OS r e v l) (OS r e v (upd l i (g x y))) L2)
  (k:∀h',St S L2 h'→Cc S h S h'→LF P ops Q rest B h' n m):LF P ops Q (⟨none,.store T' X Y,ty,pos,af,none⟩::rest) B h n m:=by
 intro a w hf J;refine wpList_plain rfl λK hK=>?_;unfold Oper.wp;obtain⟨vs,rfl,o⟩:=hu;have t:=r'.len o;have hv:(r'.val vs).cells=vs.toArray:=by
  unfold BU.val;cases U:r'.ag with
  |true=>rfl
  |false=>
   have hl:=t;rw[h1 U] at hl
   match vs,hl,o with
   |[c],_,o=>
    have ho:=r'.one o c (by simp);cases c<;>first|rfl|(simp [Value.oneCell'] at ho)
 obtain⟨M,p,_⟩:=rp.pick;obtain⟨F,g1,g2,_⟩:=Sp.pick p hs.2;obtain⟨s,n',c',rfl,rfl⟩:=ep;obtain⟨i0,V⟩:=LK ad;have A:i.toNat<l.length:=(uV.1 V).1;have ak:i.toNat*r.sz+r.sz≤l.length*r.sz:=by rw[←wY];exact wM _ A
 have ai:=up.1;obtain⟨ti,dd,hi,hd,ae,U⟩:=Qm ht;have z:∀F,(OS r e (.slice (some ⟨s,0,none⟩) n' c') l).holds S F h→(∀b,F b→b<h.size∧¬S b)→∃d,(∀b,F b↔b=s)∧h[s]? =some (.cells d e (0,0))∧l.length*r.sz≤d.size∧
   ∀h',h'.size=h.size→h'[s]? =some (.cells (IA d.toList (i.toNat*r.sz+j) vs).toArray e (0,0))→(∀b,b≠s→h'[b]? =h[b]?)→(OS r e (.slice (some ⟨s,0,none⟩) n' c') (upd l i (g x y))).holds S F h':=by
  intro F C hF;rcases C with ⟨_,C,_⟩|⟨g0,cap,d,C,H,k3,k4,k5,k6,k7⟩
  ·rw[C] at A;exact absurd A (Nat.not_lt_zero _)
  ·injection C with D e2 e3
   injection D with D
   injection D with D
   subst D;subst e2;subst e3;have ah:l.length*r.sz≤d.size:=by rw[k6];exact wM _ k4
   refine⟨d,H,k3,ah,λh' z1 z2 z3=> .inr ⟨s,c',_,?_,H,z2,?_,k5,?_,?_⟩⟩
   ·simp [upd]
   ·simpa [upd] using k4
   ·rw[zF,Vk _ _ _ (by simp;omega)];simpa using k6
   ·have W:((IA d.toList (i.toNat*r.sz+j) vs).toArray.toList.take ((upd l i (g x y)).length*r.sz))=IA (d.toList.take (l.length*r.sz)) (i.toNat*r.sz+j) vs:=by
     unfold IA upd;simp only[yL];rw[yJ,Nat.min_eq_left (by omega),List.take_append,yM (by simp;omega),List.drop_take];congr 2;simp;omega
    rw[W];have G:MX S h' r (d.toList.take (l.length*r.sz)) l:=k7.mono (λ_ x=>x) λb hb=>z3 b λe=>(hF b ((H b).2 e)).2 hb;have Z:r'.rd S h' vs y:=r'.mono o (λ_ x=>x) λb hb=>z3 b λe=>(hF b ((H b).2 e)).2 hb;exact G.set V (by omega) λc hc=>up.2 hc Z
 obtain⟨d,m1,m2,m3,m4⟩:=z F g1 g2;have hg:w.heap[s]? =some (.cells d e (0,0)):=by rw[J.heap];exact m2
 have aa:=run_storeCells_at P s (i.toNat*r.sz+j) e vs 0 d w hg (by omega) (λu hu=>r'.one o u hu);have ab:(List.take (i.toNat*r.sz+j+0) d.toList++vs++List.drop (i.toNat*r.sz+j+0+vs.length) d.toList)=IA d.toList (i.toNat*r.sz+j) vs:=by simp [IA]
 rw[ab] at aa;have ac:(execOp a.eval ⟨none,.store T' X Y,ty,pos,af,none⟩).run P w= .ok .skip (w.setRow s (IA d.toList (i.toNat*r.sz+j) vs).toArray):=by
  simp [execOp,hf.eval hx,hf.eval hy,Instr.storeAt,Instr.sureAddr,storeVar,hv,Rb hi,ae,t,aa]
 rw[ac];obtain⟨h',D,e2,e3,W⟩:=Qo w s d (IA d.toList (i.toNat*r.sz+j) vs).toArray e hg;rw[J.heap] at e2 W;obtain⟨u1,u2⟩:=hs.upd (h':=h') rp (by omega) λF C H=>by
  obtain⟨aj,q1,I,q3,q4⟩:=z F C H;rw[m2] at I;injection I with I
  injection I with I
  subst I;exact⟨F,q4 h' e2 e3 W,λc hc=> .inl hc,λc _ hc=>W c λe=>hc ((q1 c).2 e)⟩
 exact hK _ _ (k h' u1 u2 _ _ hf ⟨D,J.os,J.tape,J.out⟩)
end
end Go.Proofs.YtibidnaedddfdaaGreat
