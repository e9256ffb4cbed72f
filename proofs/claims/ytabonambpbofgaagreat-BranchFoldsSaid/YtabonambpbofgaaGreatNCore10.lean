import Derived.Test.YtabonambpbofgaaGreatNCore6
import Derived.StillTail
namespace Go.Proofs.YtabonambpbofgaaGreat
set_option linter.all false
open Go.RowKit
def gt {α}[Inhabited α] (l:List α) (i:Int):α:=l.getD i.toNat default
def gd {α}[Inhabited α] {l:List α}{i:Int}(h0:0≤i) (h:i<(l.length:Int)):l[i.toNat]? =some (gt l i):=by
 have:i.toNat<l.length:=by omega
 simp [gt,List.getD,Acn this]
instance:Inhabited ByteArray:=⟨.empty⟩
def Sl.one {α S h}{r:A5 α}{v l}(k:Sl S h r v l):v.oneCell'=true:=by
 rcases k with ⟨rfl,_⟩|⟨a,c,rfl,_⟩<;>rfl
section
variable {P:Program}{ex ex':List (Nat×AP)}{R N N':AP}{cs cs':List Code}{B:World}{h:AS}{n:FN}{m m':SM}{S:Nat→Prop}{L:List HP}
def JV {i:Nat}(b:rH ex i=some (W P ex' R cs' N')) (k:WF P ex' R cs' N' B h n m):WF P ex R (.exit i::cs) N B h n m:=λa w c d=>aI b (k a w c d)
def BP (k:WF P ex' R cs' N' B h n m):WF P ex R [] (W P ex' R cs' N') B h n m:=λa w b c=>k a w b c
def AK {a w}(k:WF P ex R cs N B h n m) (b:Fr n a m) (c:Wd B h w):W P ex R cs N a w:=k a w b c
end
section
variable {P:Program}{ops:Array Oper}{C:World→Prop}{Q:Act→Prop}{n:FN}{m m':SM}{rest:List Oper}
variable {d:Nat}{ty:TypeId}{pos:String}{af:Array Edge}{X Y:Operand}{t t1 t2:TypeId}{x y:Int}{kd:IntKind}{v p:Value}{A S:Nat→Prop}{L:List HP}{h:AS}
def AZ (j d:Nat) (v:Value) {l:List Oper}(b:QF P ops C (λa=>Fr n a ((d,v)::m)) (l.take j) n m) (c:QF P ops C Q (l.drop j) n ((d,v)::m)):QF P ops C Q l n m:=vC j _ b c
end
def RV (P:Program) (w:World) (a:Act):ResultVar→Value→Prop
 | .tmp t,v=>a.tmps.getD t undef=v
 | .cell t T,v=>∀b:World,b.heap=w.heap→(do loadVar T (←asAddr (a.tmps.getD t undef)):Sem Value).run P b= .ok v b
def aB (P:Program) (w:World) (a:Act):List ResultVar→List Value→Prop
 |[],[]=>True
 |r::b,v::vs=>RV P w a r v∧aB P w a b vs
 |_,_=>False
def wI:List Value→Value
 |[v]=>v
 |vs=> .tuple vs.toArray
def WH {P:Program}{w:World}{a:Act}{fn:Func}{b:List ResultVar}{vs:List Value}(l:fn.results.toList=b) (k:aB P w a b vs):(results fn a.tmps).run P w= .ok (wI vs) w:=by
 have g:∀(b:List ResultVar) (vs:List Value),aB P w a b vs→(b.mapM λr:ResultVar=>(match r with
   | .tmp t=>pure (a.tmps.getD t undef)
   | .cell c t=>do loadVar t (←asAddr (a.tmps.getD c undef)):Sem Value)).run P w= .ok vs w:=by
  intro b
  induction b with
  |nil=>intro vs k;cases vs with
   |nil=>simp
   |cons _ _=>exact k.elim
  |cons r b m=>intro vs k;cases vs with
   |nil=>exact k.elim
   |cons v vs=>
    obtain⟨d,n⟩:=k;have i:=m vs n;cases r with
    |tmp t=>
     have d:a.tmps.getD t undef=v:=d;simp only[Aez,Sem.run_bind,Sem.run_pure,Result.andThen_ok,i,d]
    |cell c t=>
     have d:(do loadVar t (←asAddr (a.tmps.getD c undef)):Sem Value).run P w= .ok v w:=d w rfl;simp only[Aez];rw[Sem.run_bind,d];simp only[Result.andThen_ok,Sem.run_bind,i,Sem.run_pure]
 have j:=g b vs k;unfold results;simp only[Array.mapM_eq_mapM_toList,l,Sem.run_bind,Sem.run_map];refine(Ach (λx=>(Result.andThen x λa w'=>Result.ok a.toArray w').andThen λa w'=>Sem.run P (pure (if h:a.size=1 then a[0] else Value.tuple a)) w') j).trans ?_;clear j g k
 match vs with
 |[]=>rfl
 |[v]=>rfl
 |_::_::_=>rfl
section
variable {P:Program}{fn:Func}{B:World}{S S':Nat→Prop}{h h':AS}{post:Value→(Nat→Prop)→AS→Prop}{n:FN}{a:Act}{m:SM}{w:World}{L:List HP}
def J7 {t v}(b:Fr n a m) (c:lk m t=some v):RV P w a (.tmp t) v:=by
 have:=b.eval (X:= .tmp t) c;simpa [RV,Act.eval] using this
def W5 {t T b T' sz}{cs:List Value}(d:Fr n a m) (g:Wd B h w) (i:St S L h) (k:lk m t=some (.pointer (some ⟨b,0,none⟩))) (l:Bx b T' cs∈L) (o:Kh P T sz true=true) (q:cs.length=sz):RV P w a (.cell t T) (.agg cs.toArray):=by
 obtain⟨F,s,_⟩:=i.get l;have c:=d.eval (X:= .tmp t) k;simp only[Act.eval] at c;intro u v;have:=NC (P:=P) (w:=u) (S:=λ_=>True) (p:= .pointer (some ⟨b,0,none⟩)) (cs:=cs) ⟨⟨b,0,none⟩,rfl,rfl,trivial,λj _=>by rw[v,g.heap,Adj,Bx.cell s]⟩ q o (λe=>by cases e);simp only[Instr.loadAt,Instr.sureAddr,Sem.run_bind,Sem.run_pure,Result.andThen_ok,if_true] at this;simp only[c,asAddr,Sem.run_bind,Sem.run_pure,Result.andThen_ok,this]
def Uo {d:World}(g:d.heap=w.heap):∀{b:List ResultVar}{vs:List Value},aB P w a b vs→aB P d a b vs
 |[],[],_=>trivial
 |[],_::_,h=>h.elim
 |_::_,[],h=>h.elim
 |r::b,v::vs,⟨h,t⟩=>⟨by
   cases r with
   |tmp t=>exact h
   |cell c t=>exact λi j=>h i (j.trans g),Uo g t⟩
def K5:aB P w a [] []:=trivial
def Iy {r v rs vs}(k:RV P w a r v) (ks:aB P w a rs vs):aB P w a (r::rs) (v::vs):=⟨k,ks⟩
def K6 {k:Nat}{d:List ResultVar}{vs:List Value}{v:Value}(i:Fr (k,[]) a m) (j:fn.results.toList=d) (b:Wd B h' w) (l:aB P w a d vs) (n:wI vs=v) (e:CJ S h S' h') (kp:post v S' h'):Rt P fn B S h post a w:=by
 refine⟨[],i.dfr,List.nodup_nil,λD o=>(by cases o),λp q s t u x=>?_⟩;have g:=UV u x;have c:Wd B h' p:=⟨g.trans b.heap,q.trans b.os,s.trans b.tape,t.trans b.out⟩
 exact⟨v,by rw[←n];exact WH j (Uo g l),S',h',c,e,kp⟩
end
def sb {m:SM}(k:Nat) {v:Value}{r:SM}(h:lk m k=some v) (s:Un m r):Un m ((k,v)::r):=⟨h,s⟩
def R5 {m:SM}:Un m []:=trivial
section
variable {P:Program}{ex:List (Nat×AP)}{R N:AP}{cs:List Code}{B:World}{h:AS}{n:FN}{m m':SM}{S:Nat→Prop}{L:List HP}
end
def CL.pure {P f args S h}{post:Value→(Nat→Prop)→AS→Prop}(k:CL P f args S h post):∃v S' h',post v S' h':=by
 let w:World:={ (default:World) with heap:=h}
 obtain⟨e,w',fr,⟨v,S',h',_,_,_,a⟩,_⟩:=k w w ⟨rfl,rfl,rfl,rfl⟩ [];exact⟨v,S',h',a⟩
def KA {P:Program}{ops:Array Oper}{Q:Act→Prop}{n:FN}{m:SM}{rest:List Oper}{d:Nat}{ty:TypeId}{pos:String}{af:Array Edge}{X:Operand}{v:Value}{Ψ:Prop}{f:Nat}{xs:Array Operand}{c:Array TypeId}{a vs:List Value}{first cap:Array Value}{h B}
  (q:B4 m X=some (.func (.func f) first cap)) (g:xs.toList.mapM (B4 m)=some a) (i:first.toList++a++cap.toList=vs) (j:BJ P f=true) (hd:Nat.blt d n.1=true)
  (l:∀h',EY h h'→CL P f vs.toArray (λb=>b<h'.size) h' (λu _ _=>u=v∧Ψ))
  (k:Ψ→QF P ops (Cl B h) Q rest n ((d,v)::m)):QF P ops (Cl B h) Q (⟨some d,.call ⟨.value X,xs,c⟩,ty,pos,af,none⟩::rest) n m:=by
 obtain⟨_,_,_,_,s⟩:=(l h (EY.refl h)).pure;exact mD q g i j hd (λh' o=>(l h' o).mono λ_ _ _ _ p=>p.1) (k s)
section
variable {P:Program}{ops:Array Oper}{C:World→Prop}{Q:Act→Prop}{n:FN}{m m':SM}{rest:List Oper}{d:Nat}
def vA {o:Oper}{j e:Nat}(a:o.guard=some (j,true)) (c:(ops[j]?).bind (·.dst)=some e) (g:lk m e=some (.bool false)) (i:o.dst=some d) (hd:Nat.blt d n.1=true) (k:QF P ops C Q rest n ((d,undef)::m)):QF P ops C Q (o::rest) n m:=QF.gn (b:=false) a c g i hd k
end
def mh {α}{a:α}{l:List α}:a∈a::l:=List.Mem.head _
def mt {α}{a b:α}{l:List α}(h:a∈l):a∈b::l:=List.Mem.tail _ h
def Vj {P:Program}{ops:Array Oper}{Q:Exit→Act→World→Prop}{n:FN}{m:SM}{rest:List Oper}{d:Nat}{ty:TypeId}{pos:String}{af:Array Edge}{X Y:Operand}{B:World}{h:AS}{S:Nat→Prop}{L:List HP}{v:Value}
  {α} {r:A5 α} {T e sz a:Nat} {z:List Value} {l xs:List α} {q s b sc:Nat} {c:List Value} {LL:Value→List HP} (t:B4 m X=some v) (u:B4 m Y=some (.slice (some ⟨q,0,none⟩) b sc)) (w:Nc P T=some (e,sz,a,z)) (o:r.sz=sz)
  (x:Bx q s c∈L) (y:Me S h r c xs) (p:b=xs.length) (g:Nat.blt 0 a=true) (i:Md (l.length+xs.length) a) (hd:Nat.blt d n.1=true) (A:St S L h) (C:∀j,Mx L (OS r e v l) (OS r e j (l++xs)) (LL j))
  (k:∀j h',St S (LL j) h'→CJ S h S h'→LF P ops Q rest B h' n ((d,j)::m)):LF P ops Q (⟨some d,.call ⟨.builtin .append,#[X,Y],#[T,T]⟩,ty,pos,af,none⟩::rest) B h n m:=by
 have D:1≤a:=by simpa [Nat.blt] using g
 have F:l.length+xs.length≤(l.length+xs.length)*a:=Nat.le_mul_of_pos_right _ D;have G:=i.le;exact mO t u w o x y p (by unfold maxLen;omega) i hd A C k
section
variable {P:Program}{ops:Array Oper}{C:World→Prop}{Q:Act→Prop}{n:FN}{m m':SM}{rest:List Oper}{d:Nat}{ty:TypeId}{pos:String}{af:Array Edge}{X Y Z:Operand}{t1 t2 t3 aty:TypeId}{x y z:Int}{kd:IntKind}
def lZ (c:B4 m X=some (.int kd x)) (g:B4 m Y=some (.int kd y)) (i:B4 m Z=some (.int kd z)) (hd:Nat.blt d n.1=true) (k:QF P ops C Q rest n ((d,.int kd (Min.min (Min.min x y) z))::m)):QF P ops C Q (⟨some d,.call ⟨.builtin .min,#[X,Y,Z],#[t1,t2,t3]⟩,aty,pos,af,none⟩::rest) n m:=
 λa b=>GI b hd (λw _=>by
  have j:(if y<x then y else x)=Min.min x y:=by rw[Int.min_def];split<;>split<;>omega
  have l:(if z<Min.min x y then z else Min.min x y)=Min.min (Min.min x y) z:=by rw[Int.min_def (Min.min x y)];split<;>split<;>omega
  simp [execOp,resolve,invoke,builtin,Builtin.min_,Builtin.min2,b.eval c,b.eval g,b.eval i,j,l]) k
def Abn {X Y:Operand}{t1 t2:TypeId}{a b:Bool}(g:B4 m X=some (.bool a)) (i:B4 m Y=some (.bool b)) (j:P.underlying t1=some .bool) (hd:Nat.blt d n.1=true) (k:QF P ops C Q rest n ((d,.bool (a==b))::m)):QF P ops C Q (⟨some d,.binOp .eql t1 X Y t2,ty,pos,af,none⟩::rest) n m:=
 λ_ c=>GI c hd (λw _=>by
  have l:(eqGuard .eql t1 X Y (.bool a) (.bool b)).run P w= .ok () w:=by unfold eqGuard;simp
  have o:(Op.equal t1 (.bool a) (.bool b)).run P w= .ok (a==b) w:=run_equalIn_bool' w 9999 t1 a b j;simp [execOp,c.eval g,c.eval i,l,binOp,o]) k
def W0 {X Y:Operand}{t1 t2:TypeId}{a b:ByteArray}(g:B4 m X=some (.string a)) (i:B4 m Y=some (.string b)) (hd:Nat.blt d n.1=true) (k:QF P ops C Q rest n ((d,.bool (a==b))::m)):QF P ops C Q (⟨some d,.binOp .eql t1 X Y t2,ty,pos,af,none⟩::rest) n m:=
 λ_ c=>GI c hd (λw _=>by
  have j:(eqGuard .eql t1 X Y (.string a) (.string b)).run P w= .ok () w:=by unfold eqGuard;simp
  simp [execOp,c.eval g,c.eval i,j,binOp,Op.stringOp,beq_toListBytes]) k
def Pv {X:Operand}{t1:TypeId}{s:ByteArray}(b:B4 m X=some (.string s)) (c:P.underlying t1=some .string) (hd:Nat.blt d n.1=true) (k:QF P ops C Q rest n ((d,.int .i64 s.size)::m)):QF P ops C Q (⟨some d,.call ⟨.builtin .len,#[X],#[t1]⟩,aty,pos,af,none⟩::rest) n m:=
 λ_ a=>GI a hd (λw _=>by simp [execOp,resolve,invoke,builtin,Builtin.len_,a.eval b,run_underlying c,goInt]) k
end
def qz (o:Oper):Oper:={ o with dst:=none,op:= .move (.const undef),guard:=none}
def RM (ops:Array Oper):Bool:=(List.range ops.size).all λi=>((ops[i]?).map λo=>o.after.all λe=> !Region.binds .any e||decide (e.on<i)).getD true
def eF (ops:Array Oper) (n:Nat):Bool:=(List.range ops.size).all λi=>((ops[i]?).map λo=>match o.guard with|some (j,_)=> !Nat.beq j n|none=>true).getD true
def YD (ops:Array Oper) (n:Nat):Bool:=
 match ops[n]? with
 |some on=>Nat.beq (n+1) ops.size&&Region.sinkB .any ops n&&Region.chainB .any ops n&&RM ops&&eF ops n&&Region.lexB .any (ops.setIfInBounds n (qz on))
 |none=>false
section
variable {P:Program}{ops:Array Oper}{C:World→Prop}{n:Nat}{on:Oper}
def U2 (b:ops[n]? =some on) (i:Nat):(ops.setIfInBounds n (qz on))[i]? =if i=n then some (qz on) else ops[i]? :=by
 have a:n<ops.size:=(Ade.1 b).1;rw[Ad6];by_cases h:n=i
 ·subst h;simp [a]
 ·rw[Ace h,Ace (λe=>h e.symm)]
def TM (b:ops[n]? =some on) (a:Array Bool):Region.ready .any (ops.setIfInBounds n (qz on)) a=Region.ready .any ops a:=by
 unfold Region.ready;simp only[Array.size_setIfInBounds];congr 1;funext i;rw[U2 b];by_cases h:i=n
 ·subst h;simp [b,qz]
 ·rw[Ace h]
def TL (b:ops[n]? =some on) {j:Nat}(h:j≠n) (a:Array Value):yielded (ops.setIfInBounds n (qz on)) a j=yielded ops a j:=by
 unfold yielded;rw[U2 b,Ace h]
def Mv {p:Nat→Bool}:∀k,p k=false→∃i,i≤k∧p i=false∧∀j,j<i→p j=true:=by
 intro k
 induction k using Nat.strongRecOn with
 |_ k c=>
  intro d;by_cases h:∃j,j<k∧p j=false
  ·obtain⟨j,a,b⟩:=h;obtain⟨i,m,g,l⟩:=c j a b;exact⟨i,by omega,g,l⟩
  ·refine⟨k,Acr _,d,λj a=>?_⟩;cases b:p j with
   |true=>rfl
   |false=>exact absurd ⟨j,a,b⟩ h
def V7 {Q':Exit→Act→World→Prop}(y:ops[n]? =some on) (ab:n+1=ops.size) (hs:Region.sinkB .any ops n=true) (hc:Region.chainB .any ops n=true) (hb:RM ops=true) (hg:eF ops n=true):
  ∀(d:Nat) (c:Array Bool) (a:Act) (w:World),HeadInv .any ops n c→C w→
   wpAnyQ P .any (ops.setIfInBounds n (qz on)) C (λa=>∀w,C w→wpList P ops Q' [on] a w) d c a→wpAny P .any ops Q' d c a w:=by
 have z:n<ops.size:=by omega
 have o:∀c,HeadInv .any ops n c→Region.ready .any ops c≠[]:=by
  intro c k h0;have H:c.getD n true=false:=k.tail n (Acr _) z;obtain⟨i,t,Q,B⟩:=Mv (p:=λi=>c.getD i true) n H;have m:i<ops.size:=by omega
  have D:i∈Region.ready .any ops c:=by
   refine mem_ready.2 ⟨Q,ops[i],by simp [m],λe he U=>?_⟩;have u:=Acm.1 hb i (Adf.2 m);have F:ops[i]? =some ops[i]:=by simp [m]
   rw[F] at u;simp only[Aed,Ad0,Ae9] at u;have h6:=u e he;simp only[U,Adg,Ae2,Ac1] at h6;have h7:=B e.on h6;have h8:e.on<c.size:=by rw[k.size];omega
   simp only[Aea,Aey h8,Ad0] at h7 ⊢;exact h7
  rw[h0] at D;cases D
 intro d
 induction d with
 |zero=>
  intro c a w k _ h;have t:=h.1;rw[TM y] at t;exact absurd t (o c k)
 |succ d ih=>
  intro c a w k hw h;refine⟨λh0=>absurd h0 (o c k),λi D=>?_⟩;have V:i∈Region.ready .any (ops.setIfInBounds n (qz on)) c:=by rw[TM y];exact D
  have t:=h.2 i V;obtain⟨H,oi,x,_⟩:=mem_ready.1 D;have m:i<ops.size:=(Ade.1 x).1;by_cases I:i=n
  ·subst I;have W:oi=on:=Acg (x.symm.trans y);subst W;have J:∀j,j<i→c.getD j true=true:=by
    intro j A;cases hl:c.getD j true with
    |true=>rfl
    |false=>exact absurd D (tail_waits hs hc z k _ j rfl A hl i (Acr _))
   have l:Region.ready .any ops (c.setIfInBounds i true)=[]:=by
    apply List.eq_nil_iff_forall_not_mem.2;intro j A;obtain⟨q,oj,X,_⟩:=mem_ready.1 A;have aa:j<ops.size:=(Ade.1 X).1;have Y:i<c.size:=by rw[k.size];omega
    have ac:j<c.size:=by rw[k.size];omega
    simp only[Aea,Ad6] at q;by_cases e:i=j
    ·subst e;simp [Y] at q
    ·rw[Ace e] at q;have:=J j (by omega);simp only[Aea] at this;rw[this] at q;cases q
   unfold qOp at t;rw[U2 y,Acf rfl] at t;simp only at t;rw[Acf (by simp [Region.wanted,qz])] at t;obtain⟨v,_,Q⟩:=t;have hk:∀w,C w→wpList P ops Q' [oi] a w:=by
    cases d with
    |zero=>exact Q.2
    |succ f=>exact Q.1 (by rw[TM y];exact l)
   have B:=hk w hw;unfold wpOp;simp only[y];unfold wpList at B;have hQ:∀K w',wpList P ops Q' [] K w'→wpAny P .any ops Q' d (c.setIfInBounds i true) K w':=by
    intro K w' hq;cases d with
    |zero=>exact⟨l,hq⟩
    |succ f=>exact⟨λ_=>hq,λj A=>by rw[l] at A;cases A⟩
   split
   ·rename_i s;rw[Acf s] at B;exact B.imp (Oper.wp_mono hQ) id
   ·rename_i s;rw[Ace s] at B;exact hQ _ _ B
  ·have M:i<n:=by omega
   have u:=wpOp_of_qOp (Q':=Q') hw (K':=wpAny P .any ops Q' d (c.setIfInBounds i true)) (λK w' s h'=>ih _ K w' (k.set D M) s h') t;unfold wpOp at u ⊢;rw[U2 y,Ace I] at u;simp only[x] at u ⊢;have G:Region.wanted oi (yielded (ops.setIfInBounds n (qz on)) a.tmps)=Region.wanted oi (yielded ops a.tmps):=by
    have F:=Acm.1 hg i (Adf.2 m);rw[x] at F;simp only[Aed,Ad0] at F;unfold Region.wanted;cases Z:oi.guard with
    |none=>rfl
    |some g=>
     obtain⟨j,b⟩:=g;rw[Z] at F;simp only[Ada] at F;have A:j≠n:=λe=>by subst e;simp at F
     simp only[TL y A]
   rw[G] at u;exact u
def Ox {c:Array Oper}{Q:Act→Prop}(i:∀(j:Nat) (d:Array Value),j<n→yielded c d j=yielded ops d j):
  ∀(l:List Oper) (a:Act),(∀o∈l,∀j b,o.guard=some (j,b)→j<n)→wpQuiet P ops C Q l a→wpQuiet P c C Q l a
 |[],_,_,h=>h
 |o::l,a,k,h=>by
  have s:Region.wanted o (yielded c a.tmps)=Region.wanted o (yielded ops a.tmps):=by
   unfold Region.wanted;cases m:o.guard with
   |none=>rfl
   |some g=>obtain⟨j,b⟩:=g;simp only;rw[i j _ (k o (by simp) j b m)]
  unfold wpQuiet at h ⊢;rw[s];split
  ·rename_i p;rw[Acf p] at h;obtain⟨v,t,u⟩:=h;exact⟨v,t,Ox i l _ (λo q=>k o (by simp [q])) u⟩
  ·rename_i p;rw[Ace p] at h;exact Ox i l _ (λo q=>k o (by simp [q])) h
def eG (l:List Oper) (n:Nat):Bool:=l.all λo=>match o.guard with|some (j,_)=>Nat.blt j n|none=>true
def Ow {l:List Oper}{id:Nat}{Q':Exit→Act→World→Prop}{a:Act}{w:World}{D:Option Nat}(v:RD D (.region id l.toArray true)) (H:∀a w,¬Q' .outgrown a w) (n:Nat) (I:P.follows .mixedOrders=true) (m:YD l.toArray n=true) (x:eG (l.take n) n=true) (J:C { w with drawn:=w.drawn+1})
  (h:wpQuiet P l.toArray C (λa=>∀w,C w→wpList P l.toArray Q' (l.drop n) a w) (l.take n) a):(Code.region id l.toArray true).wpIn (FF D) 0 P Q' a w:=by
 unfold YD at m;split at m
 ·rename_i on y;simp only[Acj] at m;obtain⟨⟨⟨⟨⟨K,M⟩,Q⟩,U⟩,V⟩,z⟩:=m;have p:=Aco K;have F:n+1=l.length:=by simpa using p
  have k:l.drop n=[on]:=by
   have A:l[n]? =some on:=by simpa using y
   have d:n<l.length:=by omega
   rw[Aen d,Aee (by omega)];have:=Acn d;rw[A] at this;rw[←Acg this]
  rw[k] at h;have q:(l.toArray.setIfInBounds n (qz on)).toList=l.take n++[qz on]:=by
   have d:n<l.length:=by omega
   rw[List.setIfInBounds_toArray,List.set_eq_take_append_cons_drop,Acf d,Aee (by omega)]
  have W:wpQuiet P (l.toArray.setIfInBounds n (qz on)) C (λa=>∀w,C w→wpList P l.toArray Q' [on] a w) (l.take n++[qz on]) a:=by
   refine UK n (λa=>∀w,C w→wpList P l.toArray Q' [on] a w) ?_ λa' X=>?_
   ·have e:(l.take n++[qz on]).take n=l.take n:=by
     have:(l.take n).length=n:=by simp;omega
     rw[List.take_append_of_le_length (by omega),Afa,Nat.min_self]
    rw[e];refine Ox (n:=n) (λj s hj=>TL y (by omega) s) _ _ (λo Y j b B=>?_) h;have:=Acm.1 x o Y;rw[B] at this;have h8:j+1≤n:=by simpa [Nat.blt] using this
    omega
   ·have e:(l.take n++[qz on]).drop n=[qz on]:=by
     have:(l.take n).length=n:=by simp;omega
     rw[List.drop_append_of_le_length (by omega),Aee (by omega),Acs]
    rw[e];unfold wpQuiet;rw[Acf (by simp [Region.wanted,qz])];exact⟨undef,λw _=>by unfold Oper.quietAt;simp [execOp,qz,Act.eval,Oper.quietUpon],X⟩
  simp only[Region.lexB,Acj] at z;refine QR v H I ?_;have g:(l.toArray.setIfInBounds n (qz on)).size=l.toArray.size:=by simp
  have c:(l.take n++[qz on]).length=l.toArray.size:=by rw[←q,Array.length_toList,g]
  have u:HeadInv .any l.toArray n (Array.replicate l.toArray.size false):=
   ⟨by simp,λj oj _ G=>(by rw[getD_replicate_false] at G;cases G),λt _ Z=>getD_in (by simpa using Z) (getD_replicate_false _ _)⟩
  have i:=wpAnyQ_lex (P:=P) (C:=C) (md:= .any) z.1 (l.take n++[qz on]) 0 (Array.replicate l.toArray.size false) a (λj=>by rw[←q];simp) (by rw[c,←g];exact z.2) W;rw[c] at i;exact V7 y p M Q U V _ _ _ _ u J i
 ·cases m
end
section
variable {P:Program}{ex:List (Nat×AP)}{R N:AP}{cs:List Code}{B:World}{h:AS}{n:FN}{m:SM}{S:Nat→Prop}{L:List HP}
def uH {l:List Oper}{id:Nat}(j:Nat) (c:P.follows .mixedOrders=true) (d:YD l.toArray j=true) (b:eG (l.take j) j=true)
  (k:QF P l.toArray (Wd B h) (λa=>∀w,Wd B h w→wpList P l.toArray (Qx ex R (W P ex R cs N)) (l.drop j) a w) (l.take j) n m):WF P ex R (.region id l.toArray true::cs) N B h n m:=
 λa _ g i _ hd=>Ow hd Nk j c d b i.drew (k a g)
def OM {l:List Oper}{id:Nat}(j:Nat) (g:P.follows .mixedOrders=true) (i:YD l.toArray j=true) (b:eG (l.take j) j=true) (c:St S L h)
  (k:QF P l.toArray (Cl B h) (λa=>∀w h',Wd B h' w→St S L h'→CJ S h S h'→wpList P l.toArray (Qx ex R (W P ex R cs N)) (l.drop j) a w) (l.take j) n m):WF P ex R (.region id l.toArray true::cs) N B h n m:=by
 intro a w o p t hd;refine Ow hd Nk (C:=Cl B h) j g i b ⟨h,p.drew,EY.refl h⟩ ?_;refine UK j (λa=>∀w h',Wd B h' w→St S L h'→CJ S h S h'→wpList P l.toArray (Qx ex R (W P ex R cs N)) (l.drop j) a w) (by rw[Afa,Nat.min_self];exact k a o) λu q=>?_;have e:(l.take j).drop j=[]:=by rw[Aee];simp;omega
 rw[e];exact λw' ⟨h',s,d⟩=>q w' h' s (d.st c) (d.ext c.1)
def Mz {ops:Array Oper}{C}{Q:Exit→Act→World→Prop}{l:List Oper}(k:∀h',St S L h'→CJ S h S h'→LF P ops Q l B h' n m):QF P ops C (λa=>∀w h',Wd B h' w→St S L h'→CJ S h S h'→wpList P ops Q l a w) [] n m:=
 λa b w h' c s e=>k h' s e a w b c
end
def ix {α}(l:List α) (i:Int):Option α:=if i<0 then none else l[i.toNat]?
def upd {α}(l:List α) (i:Int) (x:α):List α:=l.set i.toNat x
def chk {α}(b:Bool) (x:Option α):Option α:=cond b x none
def HQ (n a:Nat):Bool:=decide (n*a≤140737488355328)||(decide (n*a≤175921860444160)&&decide (a≤274877906944))
def LU (len cap:Int) (a:Nat):Bool:=decide (0≤len)&&decide (len≤cap)&&decide (a*cap≤140737488355328)
def bd {α β}{a:Option α}{f:α→Option β}{r}(e:a.bind f=some r):∃x,a=some x∧f x=some r:=Aeh.1 e
def HW {α}{b:Bool}{x y r:α}(h:b=true) (e:cond b x y=r):x=r:=by subst h;exact e
def HX {α}{b:Bool}{x y r:α}(h:b=false) (e:cond b x y=r):y=r:=by subst h;exact e
def Lt {α}{b:Bool}{x:Option α}{r}(e:chk b x=some r):b=true∧x=some r:=by
 cases b with
 |false=>cases e
 |true=>exact⟨rfl,e⟩
def FB {α}{l:List α}{i:Int}{x:α}(h:ix l i=some x):0≤i∧l[i.toNat]? =some x:=by
 unfold ix at h;split at h
 ·cases h
 ·exact⟨by omega,h⟩
def xO {α}{l:List α}{i:Int}{x:α}(h:ix l i=some x):0≤i∧i<(l.length:Int):=by
 obtain⟨a,b⟩:=FB h;have:=(Acq.1 b).1;exact⟨a,by omega⟩
def Nx {n a:Nat}(h:HQ n a=true):Md n a:=by simpa [HQ,Md] using h
def Rl {x y:Int}(a:AA x) (b:AA y):AA (max x y):=by unfold AA at *;omega
def N2 {x y:Int}(a:AA x) (b:AA y):AA (min x y):=by unfold AA at *;omega
def St.pick {S L h H L2}(a:St S L h) (p:P7 L H L2):St S (H::L2) h:=⟨a.1,Sp.pick p a.2⟩
def HP.Flat (H:HP):Prop:=∀{S S' F h},H.holds S F h→H.holds S' F h
def A5.Flat {α}(r:A5 α):Prop:=∀{S h S' h' cs x},r.rd S h cs x→r.rd S' h' cs x
def Me.flat {α}{r:A5 α}(f:r.Flat) {S h S' h'}:∀{l:List α}{cs},Me S h r cs l→Me S' h' r cs l
 |[],_,k=>k
 |_::_,_,⟨a,b,e,c,d⟩=>⟨a,b,e,f c,d.flat f⟩
def OS.flat {α}{r:A5 α}{T v l}(f:r.Flat):(OS r T v l).Flat:=λ{_ _ _ _} k=>by
 rcases k with k|⟨g,cap,cur,k1,k2,k3,k4,k5,k6,k7⟩
 ·exact .inl k
 ·exact .inr ⟨g,cap,cur,k1,k2,k3,k4,k5,k6,k7.flat f⟩
def Vp:List HP→Prop
 |[]=>True
 |H::M=>H.Flat∧Vp M
def Sp.join {S S':Nat→Prop}{h}{L:List HP}:∀{M:List HP}{c d A:Nat→Prop},Vp M→Sp S' M h c→Sp S L h d→(∀b,c b→A b)→(∀b,d b→A b)→(∀b,c b→¬d b)→Sp S (M++L) h A
 |[],c,d,A,_,_,g,_,i,_=>g.mono i
 |H::M,c,d,A,⟨f,m⟩,⟨F,n,j,o⟩,g,k,i,l=>
  ⟨F,f n,λb a=>k b (j b a),Sp.join m o g (λb a=>⟨k b a.1,a.2⟩) (λb a=>⟨i b a,λp=>l b (j b p) a⟩) λb a=>l b a.1⟩
def St.join {S S' L M h h'}(d:St S L h) (e:CJ (λb=>b<h.size) h S' h') (g:St S' M h') (f:Vp M):St S (M++L) h':=by
 refine⟨λb a=>Acv (d.1 b a) e.siz,?_⟩;have i:Sp S L h' (λb=>b<h.size∧¬S b):=Sp.ext d.2 (λ_ x=>x) (λb a=>e.same b (a.elim (d.1 b) (·.1))) λ_ x=>x;exact Sp.join f g.2 i (λb a=>⟨a.1,λc=>a.2 (e.sub b (d.1 b c))⟩) (λb a=>⟨Acv a.1 e.siz,a.2⟩) λb a c=>a.2 (e.sub b c.1)
def Mh {α β}(r:A5 α) (off:Nat) (r':A5 β) (g:α→β→α):Prop:=
 off+r'.sz≤r.sz∧∀{S h c x vs y},r.rd S h c x→r'.rd S h vs y→r.rd S h (H7 c off vs) (g x y)
def FZ.id {α}{r:A5 α}:FZ r 0 r (λx=>x):=λ{S h cs x} k=>by
 have:=r.len k;simp only[List.drop_zero,←this,Adk];exact k
def FZ.trans {α β γ}{r:A5 α}{c:A5 β}{d:A5 γ}{o1 o2 f g}(a:FZ r o1 c f) (b:FZ c o2 d g) (i:o2+d.sz≤c.sz):FZ r (o1+o2) d (λx=>g (f x)):=λ{S h cs x} k=>by
 have:=b (a k);rw[List.drop_take,List.drop_drop,Afa] at this;rw[Ae3 (by omega)] at this;exact this
def Mh.id {α}{r:A5 α}:Mh r 0 r (λ_ y=>y):=⟨by omega,λ{S h c x vs y} b a=>by
 have d:=r.len b;have g:=r.len a;simp only[H7,Ad8,Acs,Adj];rw[List.drop_of_length_le (by omega),Adr];exact a⟩
def Mh.trans {α β γ}{r:A5 α}{d:A5 β}{g:A5 γ}{o1 o2 f g1 g2}(a:Mh r o1 d g1) (k:FZ r o1 d f) (b:Mh d o2 g g2):Mh r (o1+o2) g (λx y=>g1 x (g2 (f x) y)):=by
 refine⟨by have:=a.1;have:=b.1;omega,λ{S h c x vs y} i j=>?_⟩;have l:=k i;have m:=b.2 l j;have n:=a.2 i m;have t:=r.len i;have u:=g.len j;have v:=a.1;have w:=b.1;have:H7 c (o1+o2) vs=H7 c o1 (H7 ((c.drop o1).take d.sz) o2 vs):=by
  unfold H7;have l1:((c.drop o1).take d.sz).length=d.sz:=by simp;omega
  simp only[Ac6,Adv,Aex];rw[Afa,Ae3 (by omega),List.drop_take,List.drop_drop];have o:c.take (o1+o2)=c.take o1++(c.drop o1).take o2:=List.take_add ..;rw[o];simp only[Ado,List.append_cancel_left_eq];have p:o1+(min o2 (min d.sz (c.length-o1))+vs.length+(min d.sz (c.length-o1)-(o2+vs.length)))=o1+d.sz:=by omega
  rw[p];have q:c.drop (o1+(o2+vs.length))=(c.drop (o1+(o2+vs.length))).take (d.sz-(o2+vs.length))++(c.drop (o1+(o2+vs.length))).drop (d.sz-(o2+vs.length)):=(List.take_append_drop _ _).symm;have s:(c.drop (o1+(o2+vs.length))).drop (d.sz-(o2+vs.length))=c.drop (o1+d.sz):=by rw[List.drop_drop];congr 1;omega
  rw[←s,Nat.add_assoc];exact q
 rw[this];exact n
def rY {g k off:Nat}:(⟨g,k,none⟩:Addr).add off=⟨g,k+off,none⟩:=by unfold Addr.add;split<;>simp_all
def St.epAt {α β}{r:A5 α}{r':A5 β}{S L h T v l i x off f q}(o:St S L h) (p:OS r T v l∈L) (s:ix l i=some x) (t:FZ r off r' f) (u:EP v (i.toNat*r.sz+off) q):NX (λb=>b<h.size) S h r' q (f x):=by
 obtain⟨g,cap,rfl,k⟩:=o.osAt p (FB s).2;obtain⟨w,n,c,d,rfl⟩:=u;injection d with d
 injection d with d
 injection d with d
 subst d;obtain⟨a,j,m⟩:=k.fld t;injection j with j
 injection j with j
 subst j;rw[rY] at m;exact m
def A5.fn {t u:Type}(P:Program) (k:t→List Value) (l:t→Prop) (m:u→Value) (d:u→Prop):A5 (t→Option u) where
 sz:=1
 ag:=false
 rd:=λS h cs w=>∃(f:FuncId) (a:Array Value),cs=[.func (.func f) #[] a]∧BJ P f=true∧∀(S':Nat→Prop) (h':AS),(∀b,S b→S' b)→(∀b,S b→h'[b]? =h[b]?)→∀L,St S' L h'→∀x y,l x→w x=some y→
  CL P f (k x++a.toList).toArray S' h' (λv g i=>v=m y∧d y∧St g L i)
 len:=λ⟨_,_,h,_⟩=>by rw[h];rfl
 one:=λ⟨_,_,h,_⟩ v j=>by rw[h] at j;simp at j;rw[j];rfl
 mono:=λ⟨f,a,n,o,p⟩ s e=>⟨f,a,n,o,λS' h' s' q=>p S' h' (λb c=>s' b (s b c)) λb c=>(q b (s b c)).trans (e b c)⟩
def Rd.fn {m n:Type}{P:Program}{i:m→List Value}{j:m→Prop}{l:n→Value}{c:n→Prop}{S h v}{o:m→Option n}(k:Rd S h (A5.fn P i j l c) v o):
  ∃(f:FuncId) (a:Array Value),v= .func (.func f) #[] a∧BJ P f=true∧∀(S':Nat→Prop) (h':AS),(∀b,S b→S' b)→(∀b,S b→h'[b]? =h[b]?)→∀L,St S' L h'→∀x y,j x→o x=some y→
  CL P f (i x++a.toList).toArray S' h' (λv d g=>v=l y∧c y∧St d L g):=by
 obtain⟨_,rfl,f,a,rfl,h⟩:=k;exact⟨f,a,rfl,h⟩
def Rd.ofFn {n o:Type}{P:Program}{i:n→List Value}{j:n→Prop}{k:o→Value}{c:o→Prop}{S h}{p:n→Option o}(f:FuncId) (a:Array Value) (l:BJ P f=true)
  (m:∀(S':Nat→Prop) (h':AS),(∀b,S b→S' b)→(∀b,S b→h'[b]? =h[b]?)→∀L,St S' L h'→∀x y,j x→p x=some y→CL P f (i x++a.toList).toArray S' h' (λv d g=>v=k y∧c y∧St d L g)):
  Rd S h (A5.fn P i j k c) (.func (.func f) #[] a) p:=⟨_,rfl,f,a,rfl,l,m⟩
def NX.mono'' {α S h S' h'}{r:A5 α}{p x}(k:Pt S h r p x) (s:∀b,S b→S' b) (e:∀b,S b→h'[b]? =h[b]?):Pt S' h' r p x:=
 let ⟨cs,a,c⟩:=k;⟨cs,a.mono s e,r.mono c s e⟩
def Rd.mono'' {α S h S' h'}{r:A5 α}{v x}(k:Rd S h r v x) (s:∀b,S b→S' b) (e:∀b,S b→h'[b]? =h[b]?):Rd S' h' r v x:=
 let ⟨cs,a,c⟩:=k;⟨cs,a,r.mono c s e⟩
def St.pubb {S L L2 h b T cs}{α}{r:A5 α}{x:α}(d:St S L h) (p:P7 L (Bx b T cs) L2) (g:r.rd S h cs x):∃S',St S' L2 h∧CJ S h S' h∧Pt S' h r (.pointer (some ⟨b,0,none⟩)) x:=by
 obtain⟨F,c,k,i,a⟩:=d.pub p;exact⟨_,i,a,cs,⟨⟨b,0,none⟩,rfl,rfl,.inr ((c.1 b).2 rfl),λj _=>by simp only[Adj];exact Bx.cell c j⟩,r.mono g a.sub a.same⟩
section
variable {P:Program}{ops:Array Oper}{C:World→Prop}{Q:Act→Prop}{n:FN}{m m':SM}{rest:List Oper}
variable {d:Nat}{ty:TypeId}{pos:String}{af:Array Edge}{X Y:Operand}{t t1 t2:TypeId}{x y z:Int}{kd:IntKind}{v p:Value}{S:Nat→Prop}{L:List HP}{h:AS}
def Pb {α}{r:A5 α}{l:List α}{e i x}(b:B4 m X=some v) (c:B4 m Y=some (.int .i64 i)) (k0:Sl S h r v l) (g:O3 P t e r.sz=true) (a:Go.Proofs.YtabonambpbofgaaGreat.ix l i=some x) (hd:Nat.blt d n.1=true)
  (k:∀q,Pt S h r q x→QF P ops C Q rest n ((d,q)::m)):QF P ops C Q (⟨some d,.indexAddr t X Y,ty,pos,af,none⟩::rest) n m:=zP b c k0 g (FB a).1 (FB a).2 hd k
def BY {α}{r:A5 α}{l:List α}{T e i x}(b:St S L h) (c:OS r T v l∈L) (g:B4 m X=some v) (j:B4 m Y=some (.int .i64 i)) (o:O3 P t e r.sz=true) (a:Go.Proofs.YtabonambpbofgaaGreat.ix l i=some x) (hd:Nat.blt d n.1=true)
  (k:∀q,EP v (i.toNat*r.sz+0) q→QF P ops C Q rest n ((d,q)::m)):QF P ops C Q (⟨some d,.indexAddr t X Y,ty,pos,af,none⟩::rest) n m:=uX b c g j o (FB a).1 (FB a).2 hd λq _ e=>k q e
def KF {k0 j off:Nat}{q:Value}(b:B4 m X=some q) (i:EP v k0 q) (l:aA P t j off=true) (hd:Nat.blt d n.1=true)
  (k:∀a,EP v (k0+off) a→QF P ops C Q rest n ((d,a)::m)):QF P ops C Q (⟨some d,.fieldAddr t X j,ty,pos,af,none⟩::rest) n m:=by
 obtain⟨g,o,c,p,rfl⟩:=i;exact Ew b l hd (k _ ⟨g,o,c,p,rfl⟩)
def iF {xs:Array Value}{i:Nat}{u:Value}(c:B4 m X=some (.tuple xs)) (g:xs[i]? =some u) (hd:Nat.blt d n.1=true) (k:QF P ops C Q rest n ((d,u)::m)):QF P ops C Q (⟨some d,.extract X i,ty,pos,af,none⟩::rest) n m:=
 λa b=>GI b hd (λw _=>by simp [execOp,b.eval c,Instr.extract,g]) k
def Rv {f:Fn}{b cs:Array Operand}{g i:List Value}(j:b.toList.mapM (B4 m)=some g) (l:cs.toList.mapM (B4 m)=some i) (hd:Nat.blt d n.1=true) (k:QF P ops C Q rest n ((d,.func f g.toArray i.toArray)::m)):QF P ops C Q (⟨some d,.makeFunc f b cs,ty,pos,af,none⟩::rest) n m:=
 λa c=>GI c hd (λw _=>by
  have e:(execOp a.eval ⟨some d,.makeFunc f b cs,ty,pos,af,none⟩).run P w= .ok (.value (.func f (b.map a.eval) (cs.map a.eval))) w:=rfl;rw[e,Yl c j,Yl c l]) k
end
section
variable {P:Program}{ex:List (Nat×AP)}{R N:AP}{cs:List Code}{B:World}{h:AS}{n:FN}{m m':SM}{S:Nat→Prop}{L:List HP}
def AV {i:Nat}{c:Code}(I:AP) (b:WF P ((i,I)::ex) R [c] I B h n m) (d:∀a w,I a w→W P ex R cs N a w):WF P ex R (.block i c::cs) N B h n m:=λa w g j=>Vw I (b a w g j) d
def A9 {c:Code}(I:Nat→AP) (d:Nat) (h0:∀a w,Fr n a m→Wd B h w→I d a w) (j:∀a w,¬I 0 a w) (b:∀k a w,I (k+1) a w→W P ex R [c] (I k) a w):WF P ex R (.loop c::cs) N B h n m:=by
 refine lM (λi a w=>∃k,i+k=d∧I k a w) d 0 (λa w l o=>⟨d,by omega,h0 a w l o⟩) (λi a w ⟨k,p,_⟩=>by omega) λi a w ⟨k,p,g⟩=>?_;cases k with
 |zero=>exact absurd g (j a w)
 |succ k=>exact pM (b k a w g) λq w' h'=>⟨k,by omega,h'⟩
end
section
variable {P:Program}{ops:Array Oper}{Q:Exit→Act→World→Prop}{n:FN}{m:SM}{rest:List Oper}
variable {d:Nat}{ty:TypeId}{pos:String}{af:Array Edge}{X Y:Operand}{B:World}{h:AS}{S:Nat→Prop}{L L2:List HP}{v:Value}
def E9 {f:Nat}{xs:Array Operand}{i:Array TypeId}{c vs:List Value}{first cap:Array Value}{g:Value→(Nat→Prop)→AS→Prop}
  (x:B4 m X=some (.func (.func f) first cap)) (j:xs.toList.mapM (B4 m)=some c) (l:first.toList++c++cap.toList=vs) (q:BJ P f=true) (hd:Nat.blt d n.1=true) (u:St S L h) (y:CL P f vs.toArray (λb=>b<h.size) h g)
  (k:∀v S' h',St S L h'→CJ S h S h'→CJ (λb=>b<h.size) h S' h'→g v S' h'→LF P ops Q rest B h' n ((d,v)::m)):LF P ops Q (⟨some d,.call ⟨.value X,xs,i⟩,ty,pos,af,none⟩::rest) B h n m:=
 λ_ _ s t=>dP s x j l q hd t y λv a w S' h' s t e p=>
  have o:EY h h':=⟨e.siz,λb z=>e.same b z⟩
  k v S' h' (o.st u) (o.ext u.1) e p a w s t
def I3 {α}{r:A5 α}{T e sz c:Nat}{z:List Value}{l xs:List α}{q s a sc:Nat}{b:List Value}{LL:Value→List HP}(t:B4 m X=some v) (u:B4 m Y=some (.slice (some ⟨q,0,none⟩) a sc)) (w:Nc P T=some (e,sz,c,z)) (j:r.sz=sz)
  (x:Bx q s b∈L) (y:Me S h r b xs) (o:a=xs.length) (g:Nat.blt 0 c=true) (p:HQ (l.length+xs.length) c=true) (hd:Nat.blt d n.1=true) (A:St S L h) (C:∀i,Mx L (OS r e v l) (OS r e i (l++xs)) (LL i))
  (k:∀i h',St S (LL i) h'→CJ S h S h'→LF P ops Q rest B h' n ((d,i)::m)):LF P ops Q (⟨some d,.call ⟨.builtin .append,#[X,Y],#[T,T]⟩,ty,pos,af,none⟩::rest) B h n m:=
 Vj t u w j x y o g (Nx p) hd A C k
def Lf {α}{r:A5 α}{T e sz b:Nat}{z:List Value}{zx:α}{len cap:Int}{l o:IntKind}{U V:Operand}(p:Nc P T=some (e,sz,b,z)) (j:r.sz=sz) (q:r.rd S h z zx)
  (s:B4 m U=some (.int l len)) (t:B4 m V=some (.int o cap)) (g:LU len cap b=true) (i:Nat.blt 0 b=true) (hd:Nat.blt d n.1=true) (u:St S L h)
  (k:∀v h',St S (OS r e v (List.replicate len.toNat zx)::L) h'→CJ S h S h'→LF P ops Q rest B h' n ((d,v)::m)):LF P ops Q (⟨some d,.makeSlice T U V,ty,pos,af,none⟩::rest) B h n m:=by
 simp only[LU,Acj,Ac1] at g;obtain⟨⟨h0,A⟩,w⟩:=g;obtain⟨a,rfl⟩:∃a:Nat,len=a:=⟨len.toNat,by omega⟩
 obtain⟨c,rfl⟩:∃c:Nat,cap=c:=⟨cap.toNat,by omega⟩
 have x:((b*c:Nat):Int)≤140737488355328:=by rw[Int.natCast_mul];exact w
 have C:b*c≤140737488355328:=by omega
 have y:1≤b:=by simpa [Nat.blt] using i
 have D:c≤b*c:=Nat.le_mul_of_pos_left _ y;exact zT p j q s t (by omega) (by omega) (by unfold maxLen;omega) hd u (by simpa using k)
def Ed {α β}{r:A5 α}{r':A5 β}{T' e:TypeId}{l:List α}{i:Int}{x:α}{y:β}{g:α→β→α}{off:Nat}{q u:Value}(hx:B4 m X=some q) (hy:B4 m Y=some u) (hu:Rd S h r' u y) (ep:EP v (i.toNat*r.sz+off) q) (ac:ix l i=some x)
  (up:Mh r off r' g) (ht:Kh P T' r'.sz r'.ag=true) (h1:r'.ag=false→r'.sz=1) (hs:St S L h) (rp:Mx L (OS r e v l) (OS r e v (upd l i (g x y))) L2)
  (k:∀h',St S L2 h'→CJ S h S h'→LF P ops Q rest B h' n m):LF P ops Q (⟨none,.store T' X Y,ty,pos,af,none⟩::rest) B h n m:=by
 intro a w hf H;refine wpList_plain rfl λK hK=>?_;unfold Oper.wp;obtain⟨vs,rfl,d⟩:=hu;have o:=r'.len d;have hv:(r'.val vs).cells=vs.toArray:=by
  unfold A5.val;cases I:r'.ag with
  |true=>rfl
  |false=>
   have hl:=o;rw[h1 I] at hl
   match vs,hl,d with
   |[c],_,d=>
    have ho:=r'.one d c (by simp);cases c<;>first|rfl|(simp [Value.oneCell'] at ho)
 obtain⟨M,p,_⟩:=rp.pick;obtain⟨F,g1,g2,_⟩:=Sp.pick p hs.2;obtain⟨j,n',c',rfl,rfl⟩:=ep;obtain⟨i0,J⟩:=FB ac;have t:i.toNat<l.length:=(Acq.1 J).1;have aj:i.toNat*r.sz+r.sz≤l.length*r.sz:=by rw[←Ad7];exact Ady _ t
 have ah:=up.1;obtain⟨ti,dd,hi,hd,ad,I⟩:=Qm ht;have s:∀F,(OS r e (.slice (some ⟨j,0,none⟩) n' c') l).holds S F h→(∀b,F b→b<h.size∧¬S b)→∃cur,(∀b,F b↔b=j)∧h[j]? =some (.cells cur e (0,0))∧l.length*r.sz≤cur.size∧
   ∀h',h'.size=h.size→h'[j]? =some (.cells (H7 cur.toList (i.toNat*r.sz+off) vs).toArray e (0,0))→(∀b,b≠j→h'[b]? =h[b]?)→(OS r e (.slice (some ⟨j,0,none⟩) n' c') (upd l i (g x y))).holds S F h':=by
  intro F z hF;rcases z with ⟨_,z,_⟩|⟨g0,cap,cur,z,D,k3,k4,k5,k6,k7⟩
  ·rw[z] at t;exact absurd t (Nat.not_lt_zero _)
  ·injection z with A e2 e3
   injection A with A
   injection A with A
   subst A;subst e2;subst e3;have ae:l.length*r.sz≤cur.size:=by rw[k6];exact Ady _ k4
   refine⟨cur,D,k3,ae,λh' z1 z2 z3=> .inr ⟨j,c',_,?_,D,z2,?_,k5,?_,?_⟩⟩
   ·simp [upd]
   ·simpa [upd] using k4
   ·rw[Afj,WR _ _ _ (by simp;omega)];simpa using k6
   ·have U:((H7 cur.toList (i.toNat*r.sz+off) vs).toArray.toList.take ((upd l i (g x y)).length*r.sz))=H7 (cur.toList.take (l.length*r.sz)) (i.toNat*r.sz+off) vs:=by
     unfold H7 upd;simp only[List.length_set];rw[Afa,Ae3 (by omega),List.take_append,List.take_of_length_le (by simp;omega),List.drop_take];congr 2;simp;omega
    rw[U];have C:Me S h' r (cur.toList.take (l.length*r.sz)) l:=k7.mono (λ_ x=>x) λb hb=>z3 b λe=>(hF b ((D b).2 e)).2 hb;have V:r'.rd S h' vs y:=r'.mono d (λ_ x=>x) λb hb=>z3 b λe=>(hF b ((D b).2 e)).2 hb;exact C.set J (by omega) λc W=>up.2 W V
 obtain⟨cur,m1,m2,m3,m4⟩:=s F g1 g2;have hg:w.heap[j]? =some (.cells cur e (0,0)):=by rw[H.heap];exact m2
 have Z:=run_storeCells_at P j (i.toNat*r.sz+off) e vs 0 cur w hg (by omega) (λu hu=>r'.one d u hu);have aa:(List.take (i.toNat*r.sz+off+0) cur.toList++vs++List.drop (i.toNat*r.sz+off+0+vs.length) cur.toList)=H7 cur.toList (i.toNat*r.sz+off) vs:=by simp [H7]
 rw[aa] at Z;have ab:(execOp a.eval ⟨none,.store T' X Y,ty,pos,af,none⟩).run P w= .ok .skip (w.setRow j (H7 cur.toList (i.toNat*r.sz+off) vs).toArray):=by
  simp [execOp,hf.eval hx,hf.eval hy,Instr.storeAt,Instr.sureAddr,storeVar,hv,Rf hi,ad,o,Z]
 rw[ab];obtain⟨h',A,e2,e3,U⟩:=Qs w j cur (H7 cur.toList (i.toNat*r.sz+off) vs).toArray e hg;rw[H.heap] at e2 U;obtain⟨u1,u2⟩:=hs.upd (h':=h') rp (by omega) λF z D=>by
  obtain⟨ai,q1,G,q3,q4⟩:=s F z D;rw[m2] at G;injection G with G
  injection G with G
  subst G;exact⟨F,q4 h' e2 e3 U,λc W=> .inl W,λc _ W=>U c λe=>W ((q1 c).2 e)⟩
 exact hK _ _ (k h' u1 u2 _ _ hf ⟨A,H.os,H.tape,H.out⟩)
end
end Go.Proofs.YtabonambpbofgaaGreat
