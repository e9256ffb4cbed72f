import Derived.Test.YtedgiljmffngoaaGreatFCore6
import Derived.StillTail
namespace Go.Proofs.YtedgiljmffngoaaGreat
set_option linter.all false
open Go.RowKit
instance:Inhabited ByteArray:=⟨.empty⟩
def Sl.one {α S h}{r:BB α}{v l}(k:Sl S h r v l):v.oneCell'=true:=by
 rcases k with ⟨rfl,_⟩|⟨a,c,rfl,_⟩<;>rfl
section
variable {P:Program}{ex ex':List (Nat×AP)}{R N N':AP}{cs cs':List Code}{B:World}{h:AT}{n:FN}{m m':SM}{S:Nat→Prop}{L:List HP}
def JI {i:Nat}(b:Yq ex i=some (W P ex' R cs' N')) (k:WF P ex' R cs' N' B h n m):WF P ex R (.exit i::cs) N B h n m:=λa w c d=>VH b (k a w c d)
def BD (k:WF P ex' R cs' N' B h n m):WF P ex R [] (W P ex' R cs' N') B h n m:=λa w b c=>k a w b c
def AI {a w}(k:WF P ex R cs N B h n m) (b:Fr n a m) (c:Wd B h w):W P ex R cs N a w:=k a w b c
end
section
variable {P:Program}{ops:Array Oper}{C:World→Prop}{Q:Act→Prop}{n:FN}{m m':SM}{rest:List Oper}
variable {d:Nat}{ty:TypeId}{pos:String}{af:Array Edge}{X Y:Operand}{t t1 t2:TypeId}{x y:Int}{kd:IntKind}{v p:Value}{A S:Nat→Prop}{L:List HP}{h:AT}
def AS (j d:Nat) (v:Value) {l:List Oper}(b:QF P ops C (λa=>Fr n a ((d,v)::m)) (l.take j) n m) (c:QF P ops C Q (l.drop j) n ((d,v)::m)):QF P ops C Q l n m:=aO j _ b c
end
def RV (P:Program) (w:World) (a:Act):ResultVar→Value→Prop
 | .tmp t,v=>a.tmps.getD t undef=v
 | .cell t T,v=>∀b:World,b.heap=w.heap→(do loadVar T (←asAddr (a.tmps.getD t undef)):Sem Value).run P b= .ok v b
def U7 (P:Program) (w:World) (a:Act):List ResultVar→List Value→Prop
 |[],[]=>True
 |r::b,v::vs=>RV P w a r v∧U7 P w a b vs
 |_,_=>False
def bF:List Value→Value
 |[v]=>v
 |vs=> .tuple vs.toArray
def Sg {P:Program}{w:World}{a:Act}{fn:Func}{b:List ResultVar}{vs:List Value}(m:fn.results.toList=b) (k:U7 P w a b vs):(results fn a.tmps).run P w= .ok (bF vs) w:=by
 have g:∀(b:List ResultVar) (vs:List Value),U7 P w a b vs→(b.mapM λr:ResultVar=>(match r with
   | .tmp t=>pure (a.tmps.getD t undef)
   | .cell c t=>do loadVar t (←asAddr (a.tmps.getD c undef)):Sem Value)).run P w= .ok vs w:=by
  intro b
  induction b with
  |nil=>intro vs k;cases vs with
   |nil=>simp
   |cons _ _=>exact k.elim
  |cons r b n=>intro vs k;cases vs with
   |nil=>exact k.elim
   |cons v vs=>
    obtain⟨d,o⟩:=k;have j:=n vs o;cases r with
    |tmp t=>
     have d:a.tmps.getD t undef=v:=d;simp only[jO,Sem.run_bind,Sem.run_pure,Result.andThen_ok,j,d]
    |cell c t=>
     have d:(do loadVar t (←asAddr (a.tmps.getD c undef)):Sem Value).run P w= .ok v w:=d w rfl;simp only[jO];rw[Sem.run_bind,d];simp only[Result.andThen_ok,Sem.run_bind,j,Sem.run_pure]
 have l:=g b vs k;unfold results;simp only[Array.mapM_eq_mapM_toList,m,Sem.run_bind,Sem.run_map];refine(gB (λx=>(Result.andThen x λa i=>Result.ok a.toArray i).andThen λa i=>Sem.run P (pure (if h:a.size=1 then a[0] else Value.tuple a)) i) l).trans ?_;clear l g k
 match vs with
 |[]=>rfl
 |[v]=>rfl
 |_::_::_=>rfl
section
variable {P:Program}{fn:Func}{B:World}{S S':Nat→Prop}{h h':AT}{post:Value→(Nat→Prop)→AT→Prop}{n:FN}{a:Act}{m:SM}{w:World}{L:List HP}
def GE {t v}(b:Fr n a m) (c:lk m t=some v):RV P w a (.tmp t) v:=by
 have:=b.eval (X:= .tmp t) c;simpa [RV,Act.eval] using this
def Rn {t T b T' sz}{cs:List Value}(d:Fr n a m) (g:Wd B h w) (i:St S L h) (k:lk m t=some (.pointer (some ⟨b,0,none⟩))) (l:Bx b T' cs∈L) (o:Ie P T sz true=true) (q:cs.length=sz):RV P w a (.cell t T) (.agg cs.toArray):=by
 obtain⟨F,s,_⟩:=i.get l;have c:=d.eval (X:= .tmp t) k;simp only[Act.eval] at c;intro u v;have:=Ma (P:=P) (w:=u) (S:=λ_=>True) (p:= .pointer (some ⟨b,0,none⟩)) (cs:=cs) ⟨⟨b,0,none⟩,rfl,rfl,trivial,λj _=>by rw[v,g.heap,hM,Bx.cell s]⟩ q o (λe=>by cases e);simp only[Instr.loadAt,Instr.sureAddr,Sem.run_bind,Sem.run_pure,Result.andThen_ok,if_true] at this;simp only[c,asAddr,Sem.run_bind,Sem.run_pure,Result.andThen_ok,this]
def Rf {d:World}(g:d.heap=w.heap):∀{b:List ResultVar}{vs:List Value},U7 P w a b vs→U7 P d a b vs
 |[],[],_=>trivial
 |[],_::_,h=>h.elim
 |_::_,[],h=>h.elim
 |r::b,v::vs,⟨h,t⟩=>⟨by
   cases r with
   |tmp t=>exact h
   |cell c t=>exact λi j=>h i (j.trans g),Rf g t⟩
def Hj:U7 P w a [] []:=trivial
def Eg {r v rs vs}(k:RV P w a r v) (b:U7 P w a rs vs):U7 P w a (r::rs) (v::vs):=⟨k,b⟩
def Hk {k:Nat}{d:List ResultVar}{vs:List Value}{v:Value}(i:Fr (k,[]) a m) (j:fn.results.toList=d) (b:Wd B h' w) (l:U7 P w a d vs) (n:bF vs=v) (e:B6 S h S' h') (kp:post v S' h'):Rt P fn B S h post a w:=by
 refine⟨[],i.dfr,List.nodup_nil,λD o=>(by cases o),λp q s t u x=>?_⟩;have g:=RY u x;have c:Wd B h' p:=⟨g.trans b.heap,q.trans b.os,s.trans b.tape,t.trans b.out⟩
 exact⟨v,by rw[←n];exact Sg j (Rf g l),S',h',c,e,kp⟩
end
def sb {m:SM}(k:Nat) {v:Value}{r:SM}(h:lk m k=some v) (s:RE m r):RE m ((k,v)::r):=⟨h,s⟩
def MC {m:SM}:RE m []:=trivial
section
variable {P:Program}{ex:List (Nat×AP)}{R N:AP}{cs:List Code}{B:World}{h:AT}{n:FN}{m m':SM}{S:Nat→Prop}{L:List HP}
end
def B0.pure {P f args S h}{post:Value→(Nat→Prop)→AT→Prop}(k:B0 P f args S h post):∃v S' h',post v S' h':=by
 let w:World:={ (default:World) with heap:=h}
 obtain⟨e,b,fr,⟨v,S',h',_,_,_,a⟩,_⟩:=k w w ⟨rfl,rfl,rfl,rfl⟩ [];exact⟨v,S',h',a⟩
def G5 {P:Program}{ops:Array Oper}{Q:Act→Prop}{n:FN}{m:SM}{rest:List Oper}{d:Nat}{ty:TypeId}{pos:String}{af:Array Edge}{X:Operand}{v:Value}{Ψ:Prop}{f:Nat}{xs:Array Operand}{c:Array TypeId}{a vs:List Value}{first cap:Array Value}{h B}
  (q:BU m X=some (.func (.func f) first cap)) (g:xs.toList.mapM (BU m)=some a) (i:first.toList++a++cap.toList=vs) (j:BH P f=true) (hd:Nat.blt d n.1=true)
  (l:∀h',CF h h'→B0 P f vs.toArray (λb=>b<h'.size) h' (λt _ _=>t=v∧Ψ))
  (k:Ψ→QF P ops (Cl B h) Q rest n ((d,v)::m)):QF P ops (Cl B h) Q (⟨some d,.call ⟨.value X,xs,c⟩,ty,pos,af,none⟩::rest) n m:=by
 obtain⟨_,_,_,_,s⟩:=(l h (CF.refl h)).pure;exact XW q g i j hd (λh' o=>(l h' o).mono λ_ _ _ _ p=>p.1) (k s)
section
variable {P:Program}{ops:Array Oper}{C:World→Prop}{Q:Act→Prop}{n:FN}{m m':SM}{rest:List Oper}{d:Nat}
def aL {o:Oper}{j e:Nat}(a:o.guard=some (j,true)) (c:(ops[j]?).bind (·.dst)=some e) (g:lk m e=some (.bool false)) (i:o.dst=some d) (hd:Nat.blt d n.1=true) (k:QF P ops C Q rest n ((d,undef)::m)):QF P ops C Q (o::rest) n m:=YG (b:=false) a c g i hd k
def KX {o:Oper}{j e:Nat}(a:o.guard=some (j,false)) (c:(ops[j]?).bind (·.dst)=some e) (g:lk m e=some (.bool true)) (i:o.dst=some d) (hd:Nat.blt d n.1=true) (k:QF P ops C Q rest n ((d,undef)::m)):QF P ops C Q (o::rest) n m:=YG (b:=true) a c g i hd k
end
def mh {α}{a:α}{l:List α}:a∈a::l:=List.Mem.head _
def mt {α}{a b:α}{l:List α}(h:a∈l):a∈b::l:=List.Mem.tail _ h
def Xl {P:Program}{ops:Array Oper}{Q:Exit→Act→World→Prop}{n:FN}{m:SM}{rest:List Oper}{d:Nat}{ty:TypeId}{pos:String}{af:Array Edge}{X Y:Operand}{B:World}{h:AT}{S:Nat→Prop}{L:List HP}{v:Value}
  {α} {r:BB α} {T e sz a:Nat} {z:List Value} {l xs:List α} {q s b sc:Nat} {c:List Value} {LL:Value→List HP} (t:BU m X=some v) (u:BU m Y=some (.slice (some ⟨q,0,none⟩) b sc)) (w:M3 P T=some (e,sz,a,z)) (o:r.sz=sz)
  (x:Bx q s c∈L) (y:KW S h r c xs) (p:b=xs.length) (g:Nat.blt 0 a=true) (i:Ic (l.length+xs.length) a) (hd:Nat.blt d n.1=true) (A:St S L h) (C:∀j,Lb L (OS r e v l) (OS r e j (l++xs)) (LL j))
  (k:∀j h',St S (LL j) h'→B6 S h S h'→LF P ops Q rest B h' n ((d,j)::m)):LF P ops Q (⟨some d,.call ⟨.builtin .append,#[X,Y],#[T,T]⟩,ty,pos,af,none⟩::rest) B h n m:=by
 have D:1≤a:=by simpa [Nat.blt] using g
 have F:l.length+xs.length≤(l.length+xs.length)*a:=Nat.le_mul_of_pos_right _ D;have G:=i.le;exact Ui t u w o x y p (by unfold maxLen;omega) i hd A C k
section
variable {P:Program}{ops:Array Oper}{C:World→Prop}{Q:Act→Prop}{n:FN}{m m':SM}{rest:List Oper}{d:Nat}{ty:TypeId}{pos:String}{af:Array Edge}{X Y Z:Operand}{t1 t2 t3 aty:TypeId}{x y z:Int}{kd:IntKind}
def XT (c:BU m X=some (.int kd x)) (g:BU m Y=some (.int kd y)) (i:BU m Z=some (.int kd z)) (hd:Nat.blt d n.1=true) (k:QF P ops C Q rest n ((d,.int kd (Min.min (Min.min x y) z))::m)):QF P ops C Q (⟨some d,.call ⟨.builtin .min,#[X,Y,Z],#[t1,t2,t3]⟩,aty,pos,af,none⟩::rest) n m:=
 λa b=>Cu b hd (λw _=>by
  have j:(if y<x then y else x)=Min.min x y:=by rw[Int.min_def];split<;>split<;>omega
  have l:(if z<Min.min x y then z else Min.min x y)=Min.min (Min.min x y) z:=by rw[Int.min_def (Min.min x y)];split<;>split<;>omega
  simp [execOp,resolve,invoke,builtin,Builtin.min_,Builtin.min2,b.eval c,b.eval g,b.eval i,j,l]) k
def O8 {X Y:Operand}{t1 t2:TypeId}{a b:ByteArray}(g:BU m X=some (.string a)) (i:BU m Y=some (.string b)) (hd:Nat.blt d n.1=true) (k:QF P ops C Q rest n ((d,.bool (a==b))::m)):QF P ops C Q (⟨some d,.binOp .eql t1 X Y t2,ty,pos,af,none⟩::rest) n m:=
 λ_ c=>Cu c hd (λw _=>by
  have j:(eqGuard .eql t1 X Y (.string a) (.string b)).run P w= .ok () w:=by unfold eqGuard;simp
  simp [execOp,c.eval g,c.eval i,j,binOp,Op.stringOp,beq_toListBytes]) k
def TC {X Y:Operand}{t1 t2:TypeId}{a b:ByteArray}(g:BU m X=some (.string a)) (i:BU m Y=some (.string b)) (hd:Nat.blt d n.1=true) (k:QF P ops C Q rest n ((d,.bool (!(a==b)))::m)):QF P ops C Q (⟨some d,.binOp .neq t1 X Y t2,ty,pos,af,none⟩::rest) n m:=
 λ_ c=>Cu c hd (λw _=>by
  have j:(eqGuard .neq t1 X Y (.string a) (.string b)).run P w= .ok () w:=by unfold eqGuard;simp
  simp [execOp,c.eval g,c.eval i,j,binOp,Op.stringOp,beq_toListBytes]) k
def LB {X:Operand}{t1:TypeId}{s:ByteArray}(b:BU m X=some (.string s)) (c:P.underlying t1=some .string) (hd:Nat.blt d n.1=true) (k:QF P ops C Q rest n ((d,.int .i64 s.size)::m)):QF P ops C Q (⟨some d,.call ⟨.builtin .len,#[X],#[t1]⟩,aty,pos,af,none⟩::rest) n m:=
 λ_ a=>Cu a hd (λw _=>by simp [execOp,resolve,invoke,builtin,Builtin.len_,a.eval b,run_underlying c,goInt]) k
end
def qz (o:Oper):Oper:={ o with dst:=none,op:= .move (.const undef),guard:=none}
def K3 (ops:Array Oper):Bool:=(List.range ops.size).all λi=>((ops[i]?).map λo=>o.after.all λe=> !Region.binds .any e||decide (e.on<i)).getD true
def Vi (ops:Array Oper) (n:Nat):Bool:=(List.range ops.size).all λi=>((ops[i]?).map λo=>match o.guard with|some (j,_)=> !Nat.beq j n|none=>true).getD true
def VN (ops:Array Oper) (n:Nat):Bool:=
 match ops[n]? with
 |some on=>Nat.beq (n+1) ops.size&&Region.sinkB .any ops n&&Region.chainB .any ops n&&K3 ops&&Vi ops n&&Region.lexB .any (ops.setIfInBounds n (qz on))
 |none=>false
section
variable {P:Program}{ops:Array Oper}{C:World→Prop}{n:Nat}{on:Oper}
def Ru (b:ops[n]? =some on) (i:Nat):(ops.setIfInBounds n (qz on))[i]? =if i=n then some (qz on) else ops[i]? :=by
 have a:n<ops.size:=(gR.1 b).1;rw[iA];by_cases h:n=i
 ·subst h;simp [a]
 ·rw[gL h,gL (λe=>h e.symm)]
def QO (b:ops[n]? =some on) (a:Array Bool):Region.ready .any (ops.setIfInBounds n (qz on)) a=Region.ready .any ops a:=by
 unfold Region.ready;simp only[Array.size_setIfInBounds];congr 1;funext i;rw[Ru b];by_cases h:i=n
 ·subst h;simp [b,qz]
 ·rw[gL h]
def QN (b:ops[n]? =some on) {j:Nat}(h:j≠n) (a:Array Value):yielded (ops.setIfInBounds n (qz on)) a j=yielded ops a j:=by
 unfold yielded;rw[Ru b,gL h]
def Jt {p:Nat→Bool}:∀k,p k=false→∃i,i≤k∧p i=false∧∀j,j<i→p j=true:=by
 intro k
 induction k using Nat.strongRecOn with
 |_ k c=>
  intro d;by_cases h:∃j,j<k∧p j=false
  ·obtain⟨j,a,b⟩:=h;obtain⟨i,m,g,l⟩:=c j a b;exact⟨i,by omega,g,l⟩
  ·refine⟨k,gN _,d,λj a=>?_⟩;cases b:p j with
   |true=>rfl
   |false=>exact absurd ⟨j,a,b⟩ h
def Sc {Q':Exit→Act→World→Prop}(y:ops[n]? =some on) (ac:n+1=ops.size) (hs:Region.sinkB .any ops n=true) (hc:Region.chainB .any ops n=true) (hb:K3 ops=true) (hg:Vi ops n=true):
  ∀(d:Nat) (c:Array Bool) (a:Act) (w:World),HeadInv .any ops n c→C w→
   wpAnyQ P .any (ops.setIfInBounds n (qz on)) C (λa=>∀w,C w→wpList P ops Q' [on] a w) d c a→wpAny P .any ops Q' d c a w:=by
 have z:n<ops.size:=by omega
 have o:∀c,HeadInv .any ops n c→Region.ready .any ops c≠[]:=by
  intro c k h0;have H:c.getD n true=false:=k.tail n (gN _) z;obtain⟨i,t,U,B⟩:=Jt (p:=λi=>c.getD i true) n H;have m:i<ops.size:=by omega
  have D:i∈Region.ready .any ops c:=by
   refine mem_ready.2 ⟨U,ops[i],by simp [m],λe he V=>?_⟩;have u:=gE.1 hb i (gP.2 m);have F:ops[i]? =some ops[i]:=by simp [m]
   rw[F] at u;simp only[iU,iI,iV] at u;have h6:=u e he;simp only[V,iP,iN,hO] at h6;have h7:=B e.on h6;have h8:e.on<c.size:=by rw[k.size];omega
   simp only[iE,jD h8,iI] at h7 ⊢;exact h7
  rw[h0] at D;cases D
 intro d
 induction d with
 |zero=>
  intro c a w k _ h;have t:=h.1;rw[QO y] at t;exact absurd t (o c k)
 |succ d ih=>
  intro c a w k hw h;refine⟨λh0=>absurd h0 (o c k),λi D=>?_⟩;have W:i∈Region.ready .any (ops.setIfInBounds n (qz on)) c:=by rw[QO y];exact D
  have t:=h.2 i W;obtain⟨H,oi,x,_⟩:=mem_ready.1 D;have m:i<ops.size:=(gR.1 x).1;by_cases I:i=n
  ·subst I;have X:oi=on:=gC (x.symm.trans y);subst X;have J:∀j,j<i→c.getD j true=true:=by
    intro j A;cases hl:c.getD j true with
    |true=>rfl
    |false=>exact absurd D (tail_waits hs hc z k _ j rfl A hl i (gN _))
   have l:Region.ready .any ops (c.setIfInBounds i true)=[]:=by
    apply List.eq_nil_iff_forall_not_mem.2;intro j A;obtain⟨q,oj,Y,_⟩:=mem_ready.1 A;have ab:j<ops.size:=(gR.1 Y).1;have Z:i<c.size:=by rw[k.size];omega
    have ad:j<c.size:=by rw[k.size];omega
    simp only[iE,iA] at q;by_cases e:i=j
    ·subst e;simp [Z] at q
    ·rw[gL e] at q;have:=J j (by omega);simp only[iE] at this;rw[this] at q;cases q
   unfold qOp at t;rw[Ru y,gO rfl] at t;simp only at t;rw[gO (by simp [Region.wanted,qz])] at t;obtain⟨v,_,U⟩:=t;have hk:∀w,C w→wpList P ops Q' [oi] a w:=by
    cases d with
    |zero=>exact U.2
    |succ f=>exact U.1 (by rw[QO y];exact l)
   have B:=hk w hw;unfold wpOp;simp only[y];unfold wpList at B;have hQ:∀K M,wpList P ops Q' [] K M→wpAny P .any ops Q' d (c.setIfInBounds i true) K M:=by
    intro K M hq;cases d with
    |zero=>exact⟨l,hq⟩
    |succ f=>exact⟨λ_=>hq,λj A=>by rw[l] at A;cases A⟩
   split
   ·rename_i s;rw[gO s] at B;exact B.imp (Oper.wp_mono hQ) id
   ·rename_i s;rw[gL s] at B;exact hQ _ _ B
  ·have Q:i<n:=by omega
   have u:=wpOp_of_qOp (Q':=Q') hw (K':=wpAny P .any ops Q' d (c.setIfInBounds i true)) (λK M s h'=>ih _ K M (k.set D Q) s h') t;unfold wpOp at u ⊢;rw[Ru y,gL I] at u;simp only[x] at u ⊢;have G:Region.wanted oi (yielded (ops.setIfInBounds n (qz on)) a.tmps)=Region.wanted oi (yielded ops a.tmps):=by
    have F:=gE.1 hg i (gP.2 m);rw[x] at F;simp only[iU,iI] at F;unfold Region.wanted;cases aa:oi.guard with
    |none=>rfl
    |some g=>
     obtain⟨j,b⟩:=g;rw[aa] at F;simp only[gS] at F;have A:j≠n:=λe=>by subst e;simp at F
     simp only[QN y A]
   rw[G] at u;exact u
def ND {c:Array Oper}{Q:Act→Prop}(i:∀(j:Nat) (d:Array Value),j<n→yielded c d j=yielded ops d j):
  ∀(l:List Oper) (a:Act),(∀o∈l,∀j b,o.guard=some (j,b)→j<n)→wpQuiet P ops C Q l a→wpQuiet P c C Q l a
 |[],_,_,h=>h
 |o::l,a,k,h=>by
  have s:Region.wanted o (yielded c a.tmps)=Region.wanted o (yielded ops a.tmps):=by
   unfold Region.wanted;cases m:o.guard with
   |none=>rfl
   |some g=>obtain⟨j,b⟩:=g;simp only;rw[i j _ (k o (by simp) j b m)]
  unfold wpQuiet at h ⊢;rw[s];split
  ·rename_i p;rw[gO p] at h;obtain⟨v,t,u⟩:=h;exact⟨v,t,ND i l _ (λo q=>k o (by simp [q])) u⟩
  ·rename_i p;rw[gL p] at h;exact ND i l _ (λo q=>k o (by simp [q])) h
def X2 (l:List Oper) (n:Nat):Bool:=l.all λo=>match o.guard with|some (j,_)=>Nat.blt j n|none=>true
def QA {l:List Oper}{id:Nat}{Q':Exit→Act→World→Prop}{a:Act}{w:World}{D:Option Nat}(v:RD D (.region id l.toArray true)) (H:∀a w,¬Q' .outgrown a w) (n:Nat) (I:P.follows .mixedOrders=true) (m:VN l.toArray n=true) (x:X2 (l.take n) n=true) (J:C { w with drawn:=w.drawn+1})
  (h:wpQuiet P l.toArray C (λa=>∀w,C w→wpList P l.toArray Q' (l.drop n) a w) (l.take n) a):(Code.region id l.toArray true).wpIn (FF D) 0 P Q' a w:=by
 unfold VN at m;split at m
 ·rename_i on y;simp only[gG] at m;obtain⟨⟨⟨⟨⟨K,M⟩,Q⟩,U⟩,V⟩,z⟩:=m;have p:=gH K;have F:n+1=l.length:=by simpa using p
  have k:l.drop n=[on]:=by
   have A:l[n]? =some on:=by simpa using y
   have d:n<l.length:=by omega
   rw[jX d,jC (by omega)];have:=kE d;rw[A] at this;rw[←gC this]
  rw[k] at h;have q:(l.toArray.setIfInBounds n (qz on)).toList=l.take n++[qz on]:=by
   have d:n<l.length:=by omega
   rw[List.setIfInBounds_toArray,List.set_eq_take_append_cons_drop,gO d,jC (by omega)]
  have W:wpQuiet P (l.toArray.setIfInBounds n (qz on)) C (λa=>∀w,C w→wpList P l.toArray Q' [on] a w) (l.take n++[qz on]) a:=by
   refine RW n (λa=>∀w,C w→wpList P l.toArray Q' [on] a w) ?_ λa' X=>?_
   ·have e:(l.take n++[qz on]).take n=l.take n:=by
     have:(l.take n).length=n:=by simp;omega
     rw[List.take_append_of_le_length (by omega),List.take_take,Nat.min_self]
    rw[e];refine ND (n:=n) (λj s hj=>QN y (by omega) s) _ _ (λo Y j b B=>?_) h;have:=gE.1 x o Y;rw[B] at this;have h8:j+1≤n:=by simpa [Nat.blt] using this
    omega
   ·have e:(l.take n++[qz on]).drop n=[qz on]:=by
     have:(l.take n).length=n:=by simp;omega
     rw[List.drop_append_of_le_length (by omega),jC (by omega),gQ]
    rw[e];unfold wpQuiet;rw[gO (by simp [Region.wanted,qz])];exact⟨undef,λw _=>by unfold Oper.quietAt;simp [execOp,qz,Act.eval,Oper.quietUpon],X⟩
  simp only[Region.lexB,gG] at z;refine Mb v H I ?_;have g:(l.toArray.setIfInBounds n (qz on)).size=l.toArray.size:=by simp
  have c:(l.take n++[qz on]).length=l.toArray.size:=by rw[←q,kD,g]
  have u:HeadInv .any l.toArray n (Array.replicate l.toArray.size false):=
   ⟨by simp,λj oj _ G=>(by rw[getD_replicate_false] at G;cases G),λt _ Z=>getD_in (by simpa using Z) (getD_replicate_false _ _)⟩
  have i:=wpAnyQ_lex (P:=P) (C:=C) (md:= .any) z.1 (l.take n++[qz on]) 0 (Array.replicate l.toArray.size false) a (λj=>by rw[←q];simp) (by rw[c,←g];exact z.2) W;rw[c] at i;exact Sc y p M Q U V _ _ _ _ u J i
 ·cases m
end
section
variable {P:Program}{ex:List (Nat×AP)}{R N:AP}{cs:List Code}{B:World}{h:AT}{n:FN}{m:SM}{S:Nat→Prop}{L:List HP}
def Ky {l:List Oper}{id:Nat}(j:Nat) (g:P.follows .mixedOrders=true) (i:VN l.toArray j=true) (b:X2 (l.take j) j=true) (c:St S L h)
  (k:QF P l.toArray (Cl B h) (λa=>∀w h',Wd B h' w→St S L h'→B6 S h S h'→wpList P l.toArray (Qx ex R (W P ex R cs N)) (l.drop j) a w) (l.take j) n m):WF P ex R (.region id l.toArray true::cs) N B h n m:=by
 intro a w o p u hd;refine QA hd LI (C:=Cl B h) j g i b ⟨h,p.drew,CF.refl h⟩ ?_;refine RW j (λa=>∀w h',Wd B h' w→St S L h'→B6 S h S h'→wpList P l.toArray (Qx ex R (W P ex R cs N)) (l.drop j) a w) (by rw[List.take_take,Nat.min_self];exact k a o) λv q=>?_;have e:(l.take j).drop j=[]:=by rw[jC];simp;omega
 rw[e];exact λs ⟨h',t,d⟩=>q s h' t (d.st c) (d.ext c.1)
def JW {ops:Array Oper}{C}{Q:Exit→Act→World→Prop}{l:List Oper}(k:∀h',St S L h'→B6 S h S h'→LF P ops Q l B h' n m):QF P ops C (λa=>∀w h',Wd B h' w→St S L h'→B6 S h S h'→wpList P ops Q l a w) [] n m:=
 λa b w h' c s e=>k h' s e a w b c
end
end Go.Proofs.YtedgiljmffngoaaGreat
