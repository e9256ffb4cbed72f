import Derived.Test.YtibidnaedddfdaaGreatDCore6
namespace Go.Proofs.YtibidnaedddfdaaGreat
set_option linter.all false
open Go.RowKit
def gt {α}[Inhabited α] (l:List α) (i:Int):α:=l.getD i.toNat default
def gd {α}[Inhabited α] {l:List α}{i:Int}(h0:0≤i) (h:i<(l.length:Int)):l[i.toNat]? =some (gt l i):=by
 have:i.toNat<l.length:=by omega
 simp [gt,List.getD,jE this]
instance:Inhabited ByteArray:=⟨.empty⟩
def Sl.one {α S h}{r:B7 α}{v l}(k:Sl S h r v l):v.oneCell'=true:=by
 rcases k with ⟨rfl,_⟩|⟨a,c,rfl,_⟩<;>rfl
section
variable {P:Program}{ex ex':List (Nat×AP)}{R N N':AP}{cs cs':List Code}{B:World}{h:BB}{n:FN}{m m':SM}{S:Nat→Prop}{L:List HP}
def JV {i:Nat}(b:Xx ex i=some (W P ex' R cs' N')) (k:WF P ex' R cs' N' B h n m):WF P ex R (.exit i::cs) N B h n m:=λa w c d=>VG b (k a w c d)
def B0 (k:WF P ex' R cs' N' B h n m):WF P ex R [] (W P ex' R cs' N') B h n m:=λa w b c=>k a w b c
def A8 {a w}(k:WF P ex R cs N B h n m) (b:Fr n a m) (c:Wd B h w):W P ex R cs N a w:=k a w b c
end
section
variable {P:Program}{ops:Array Oper}{C:World→Prop}{Q:Act→Prop}{n:FN}{m m':SM}{rest:List Oper}
variable {d:Nat}{ty:TypeId}{pos:String}{af:Array Edge}{X Y:Operand}{t t1 t2:TypeId}{x y:Int}{kd:IntKind}{v p:Value}{A S:Nat→Prop}{L:List HP}{h:BB}
def AO (j d:Nat) (v:Value) {l:List Oper}(b:QF P ops C (λa=>Fr n a ((d,v)::m)) (l.take j) n m) (c:QF P ops C Q (l.drop j) n ((d,v)::m)):QF P ops C Q l n m:=bI j _ b c
end
def RV (P:Program) (w:World) (a:Act):ResultVar→Value→Prop
 | .tmp t,v=>a.tmps.getD t undef=v
 | .cell t T,v=>∀b:World,b.heap=w.heap→(do loadVar T (←asAddr (a.tmps.getD t undef)):Sem Value).run P b= .ok v b
def U5 (P:Program) (w:World) (a:Act):List ResultVar→List Value→Prop
 |[],[]=>True
 |r::b,v::vs=>RV P w a r v∧U5 P w a b vs
 |_,_=>False
def ZP:List Value→Value
 |[v]=>v
 |vs=> .tuple vs.toArray
def OQ {P:Program}{w:World}{a:Act}{fn:Func}{b:List ResultVar}{vs:List Value}(m:fn.results.toList=b) (k:U5 P w a b vs):(results fn a.tmps).run P w= .ok (ZP vs) w:=by
 have g:∀(b:List ResultVar) (vs:List Value),U5 P w a b vs→(b.mapM λr:ResultVar=>(match r with
   | .tmp t=>pure (a.tmps.getD t undef)
   | .cell c t=>do loadVar t (←asAddr (a.tmps.getD c undef)):Sem Value)).run P w= .ok vs w:=by
  intro b
  induction b with
  |nil=>intro vs k;cases vs with
   |nil=>simp
   |cons _ _=>exact k.elim
  |cons r b n=>intro vs k;cases vs with
   |nil=>exact k.elim
   |cons v vs=>
    obtain⟨d,o⟩:=k
    have j:=n vs o
    cases r with
    |tmp t=>
     have d:a.tmps.getD t undef=v:=d
     simp only[lT,Sem.run_bind,Sem.run_pure,Result.andThen_ok,j,d]
    |cell c t=>
     have d:(do loadVar t (←asAddr (a.tmps.getD c undef)):Sem Value).run P w= .ok v w:=d w rfl
     simp only[lT]
     rw[Sem.run_bind,d]
     simp only[Result.andThen_ok,Sem.run_bind,j,Sem.run_pure]
 have l:=g b vs k
 unfold results
 simp only[Array.mapM_eq_mapM_toList,m,Sem.run_bind,Sem.run_map]
 refine(jA (λx=>(Result.andThen x λa i=>Result.ok a.toArray i).andThen λa i=>Sem.run P (pure (if h:a.size=1 then a[0] else Value.tuple a)) i) l).trans ?_
 clear l g k
 match vs with
 |[]=>rfl
 |[v]=>rfl
 |_::_::_=>rfl
section
variable {P:Program}{fn:Func}{B:World}{S S':Nat→Prop}{h h':BB}{post:Value→(Nat→Prop)→BB→Prop}{n:FN}{a:Act}{m:SM}{w:World}{L:List HP}
def LV {t v}(b:Fr n a m) (c:lk m t=some v):RV P w a (.tmp t) v:=by
 have:=b.eval (X:= .tmp t) c
 simpa [RV,Act.eval] using this
def M2 {t T b T' sz}{cs:List Value}(d:Fr n a m) (g:Wd B h w) (i:St S L h) (k:lk m t=some (.pointer (some ⟨b,0,none⟩))) (l:Bx b T' cs∈L) (o:Hd P T sz true=true) (q:cs.length=sz):RV P w a (.cell t T) (.agg cs.toArray):=by
 obtain⟨F,s,_⟩:=i.get l
 have c:=d.eval (X:= .tmp t) k
 simp only[Act.eval] at c
 intro u v
 have:=K0 (P:=P) (w:=u) (S:=λ_=>True) (p:= .pointer (some ⟨b,0,none⟩)) (cs:=cs) ⟨⟨b,0,none⟩,rfl,rfl,trivial,λj _=>by rw[v,g.heap,jR,Bx.cell s]⟩ q o (λe=>by cases e)
 simp only[Instr.loadAt,Instr.sureAddr,Sem.run_bind,Sem.run_pure,Result.andThen_ok,if_true] at this
 simp only[c,asAddr,Sem.run_bind,Sem.run_pure,Result.andThen_ok,this]
def Qf {d:World}(g:d.heap=w.heap):∀{b:List ResultVar}{vs:List Value},U5 P w a b vs→U5 P d a b vs
 |[],[],_=>trivial
 |[],_::_,h=>h.elim
 |_::_,[],h=>h.elim
 |r::b,v::vs,⟨h,t⟩=>⟨by
   cases r with
   |tmp t=>exact h
   |cell c t=>exact λi j=>h i (j.trans g),Qf g t⟩
def Io:U5 P w a [] []:=trivial
def IH {r v rs vs}(k:RV P w a r v) (b:U5 P w a rs vs):U5 P w a (r::rs) (v::vs):=⟨k,b⟩
def I1 {k:Nat}{d:List ResultVar}{vs:List Value}{v:Value}(i:Fr (k,[]) a m) (j:fn.results.toList=d) (b:Wd B h' w) (l:U5 P w a d vs) (n:ZP vs=v) (e:Cm S h S' h') (kp:post v S' h'):Rt P fn B S h post a w:=by
 refine⟨[],i.dfr,List.nodup_nil,λD o=>(by cases o),λp q s t u x=>?_⟩
 have g:=QS u x
 have c:Wd B h' p:=⟨g.trans b.heap,q.trans b.os,s.trans b.tape,t.trans b.out⟩
 exact⟨v,by rw[←n];exact OQ j (Qf g l),S',h',c,e,kp⟩
end
def sb {m:SM}(k:Nat) {v:Value}{r:SM}(h:lk m k=some v) (s:QC m r):QC m ((k,v)::r):=⟨h,s⟩
def Kv {m:SM}:QC m []:=trivial
section
variable {P:Program}{ex:List (Nat×AP)}{R N:AP}{cs:List Code}{B:World}{h:BB}{n:FN}{m m':SM}{S:Nat→Prop}{L:List HP}
end
def Ct.pure {P f args S h}{post:Value→(Nat→Prop)→BB→Prop}(k:Ct P f args S h post):∃v S' h',post v S' h':=by
 let w:World:={ (default:World) with heap:=h}
 obtain⟨e,b,fr,⟨v,S',h',_,_,_,a⟩,_⟩:=k w w ⟨rfl,rfl,rfl,rfl⟩ []
 exact⟨v,S',h',a⟩
def Hk {P:Program}{ops:Array Oper}{Q:Act→Prop}{n:FN}{m:SM}{rest:List Oper}{d:Nat}{ty:TypeId}{pos:String}{af:Array Edge}{X:Operand}{v:Value}{Ψ:Prop}{f:Nat}{xs:Array Operand}{a:Array TypeId}{args vs:List Value}{first cap:Array Value}{h B}
  (l:CE m X=some (.func (.func f) first cap)) (c:xs.toList.mapM (CE m)=some args) (g:first.toList++args++cap.toList=vs) (i:Br P f=true) (hd:Nat.blt d n.1=true)
  (j:∀h',FW h h'→Ct P f vs.toArray (λb=>b<h'.size) h' (λu _ _=>u=v∧Ψ))
  (k:Ψ→QF P ops (Cl B h) Q rest n ((d,v)::m)):QF P ops (Cl B h) Q (⟨some d,.call ⟨.value X,xs,a⟩,ty,pos,af,none⟩::rest) n m:=by
 obtain⟨_,_,_,_,q⟩:=(j h (FW.refl h)).pure
 exact Ya l c g i hd (λh' o=>(j h' o).mono λ_ _ _ _ p=>p.1) (k q)
section
variable {P:Program}{ops:Array Oper}{C:World→Prop}{Q:Act→Prop}{n:FN}{m m':SM}{rest:List Oper}{d:Nat}
def Ig {o:Oper}{j e:Nat}(a:o.guard=some (j,false)) (c:(ops[j]?).bind (·.dst)=some e) (g:lk m e=some (.bool true)) (i:o.dst=some d) (hd:Nat.blt d n.1=true) (k:QF P ops C Q rest n ((d,undef)::m)):QF P ops C Q (o::rest) n m:=fL (b:=true) a c g i hd k
end
def mh {α}{a:α}{l:List α}:a∈a::l:=List.Mem.head _
def mt {α}{a b:α}{l:List α}(h:a∈l):a∈b::l:=List.Mem.tail _ h
def Yh {P:Program}{ops:Array Oper}{Q:Exit→Act→World→Prop}{n:FN}{m:SM}{rest:List Oper}{d:Nat}{ty:TypeId}{pos:String}{af:Array Edge}{X Y:Operand}{B:World}{h:BB}{S:Nat→Prop}{L:List HP}{v:Value}
  {α} {r:B7 α} {T e sz a:Nat} {z:List Value} {l xs:List α} {p s b sc:Nat} {news:List Value} {q:Value→List HP} (t:CE m X=some v) (u:CE m Y=some (.slice (some ⟨p,0,none⟩) b sc)) (w:NI P T=some (e,sz,a,z)) (j:r.sz=sz)
  (x:Bx p s news∈L) (y:Jd S h r news xs) (o:b=xs.length) (c:Nat.blt 0 a=true) (g:I4 (l.length+xs.length) a) (hd:Nat.blt d n.1=true) (A:St S L h) (C:∀i,KA L (OS r e v l) (OS r e i (l++xs)) (q i))
  (k:∀i h',St S (q i) h'→Cm S h S h'→LF P ops Q rest B h' n ((d,i)::m)):LF P ops Q (⟨some d,.call ⟨.builtin .append,#[X,Y],#[T,T]⟩,ty,pos,af,none⟩::rest) B h n m:=by
 have D:1≤a:=by simpa [Nat.blt] using c
 have F:l.length+xs.length≤(l.length+xs.length)*a:=Nat.le_mul_of_pos_right _ D
 have G:=g.le
 exact Yg t u w j x y o (by unfold maxLen;omega) g hd A C k
section
variable {P:Program}{ops:Array Oper}{C:World→Prop}{Q:Act→Prop}{n:FN}{m m':SM}{rest:List Oper}{d:Nat}{ty:TypeId}{pos:String}{af:Array Edge}{X Y Z:Operand}{t1 t2 t3 aty:TypeId}{x y z:Int}{kd:IntKind}
def Su {X Y:Operand}{t1 t2:TypeId}{a b:ByteArray}(g:CE m X=some (.string a)) (i:CE m Y=some (.string b)) (hd:Nat.blt d n.1=true) (k:QF P ops C Q rest n ((d,.bool (a==b))::m)):QF P ops C Q (⟨some d,.binOp .eql t1 X Y t2,ty,pos,af,none⟩::rest) n m:=
 λ_ c=>Fo c hd (λw _=>by
  have j:(eqGuard .eql t1 X Y (.string a) (.string b)).run P w= .ok () w:=by unfold eqGuard;simp
  simp [execOp,c.eval g,c.eval i,j,binOp,Op.stringOp,beq_toListBytes]) k
def Nw {X:Operand}{t1:TypeId}{s:ByteArray}(b:CE m X=some (.string s)) (c:P.underlying t1=some .string) (hd:Nat.blt d n.1=true) (k:QF P ops C Q rest n ((d,.int .i64 s.size)::m)):QF P ops C Q (⟨some d,.call ⟨.builtin .len,#[X],#[t1]⟩,aty,pos,af,none⟩::rest) n m:=
 λ_ a=>Fo a hd (λw _=>by simp [execOp,resolve,invoke,builtin,Builtin.len_,a.eval b,run_underlying c,goInt]) k
end
end Go.Proofs.YtibidnaedddfdaaGreat
