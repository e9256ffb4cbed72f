import Derived.Test.YtedgiljmffngoaaGreatFCore8
namespace Go.Proofs.YtedgiljmffngoaaGreat
set_option linter.all false
open Go.RowKit
def ix {α}(l:List α) (i:Int):Option α:=if i<0 then none else l[i.toNat]?
def upd {α}(l:List α) (i:Int) (x:α):List α:=l.set i.toNat x
def chk {α}(b:Bool) (x:Option α):Option α:=cond b x none
def Hn (n a:Nat):Bool:=decide (n*a≤140737488355328)||(decide (n*a≤175921860444160)&&decide (a≤274877906944))
def KM (len cap:Int) (a:Nat):Bool:=decide (0≤len)&&decide (len≤cap)&&decide (a*cap≤140737488355328)
def bd {α β}{a:Option α}{f:α→Option β}{r}(e:a.bind f=some r):∃x,a=some x∧f x=some r:=iZ.1 e
def El {α}{b:Bool}{x y r:α}(h:b=true) (e:cond b x y=r):x=r:=by subst h;exact e
def Em {α}{b:Bool}{x y r:α}(h:b=false) (e:cond b x y=r):y=r:=by subst h;exact e
def LA {α}{b:Bool}{x:Option α}{r}(e:chk b x=some r):b=true∧x=some r:=by
 cases b with
 |false=>cases e
 |true=>exact⟨rfl,e⟩
def Gj {α}{l:List α}{i:Int}{x:α}(h:ix l i=some x):0≤i∧l[i.toNat]? =some x:=by
 unfold ix at h;split at h
 ·cases h
 ·exact⟨by omega,h⟩
def cN {α}{l:List α}{i:Int}{x:α}(h:ix l i=some x):0≤i∧i<(l.length:Int):=by
 obtain⟨a,b⟩:=Gj h;have:=(hJ.1 b).1;exact⟨a,by omega⟩
def LC {n a:Nat}(h:Hn n a=true):Ic n a:=by simpa [Hn,Ic] using h
def PQ {x y:Int}(a:AA x) (b:AA y):AA (max x y):=by unfold AA at *;omega
def MM {x y:Int}(a:AA x) (b:AA y):AA (min x y):=by unfold AA at *;omega
def St.pick {S L h H L2}(a:St S L h) (p:OA L H L2):St S (H::L2) h:=⟨a.1,Sp.pick p a.2⟩
def HP.Flat (H:HP):Prop:=∀{S S' F h},H.holds S F h→H.holds S' F h
def BB.Flat {α}(r:BB α):Prop:=∀{S h S' h' cs x},r.rd S h cs x→r.rd S' h' cs x
def KW.flat {α}{r:BB α}(f:r.Flat) {S h S' h'}:∀{l:List α}{cs},KW S h r cs l→KW S' h' r cs l
 |[],_,k=>k
 |_::_,_,⟨a,b,e,c,d⟩=>⟨a,b,e,f c,d.flat f⟩
def OS.flat {α}{r:BB α}{T v l}(f:r.Flat):(OS r T v l).Flat:=λ{_ _ _ _} k=>by
 rcases k with k|⟨g,cap,cur,k1,k2,k3,k4,k5,k6,k7⟩
 ·exact .inl k
 ·exact .inr ⟨g,cap,cur,k1,k2,k3,k4,k5,k6,k7.flat f⟩
def SR:List HP→Prop
 |[]=>True
 |H::M=>H.Flat∧SR M
def Sp.join {S S':Nat→Prop}{h}{L:List HP}:∀{M:List HP}{c d A:Nat→Prop},SR M→Sp S' M h c→Sp S L h d→(∀b,c b→A b)→(∀b,d b→A b)→(∀b,c b→¬d b)→Sp S (M++L) h A
 |[],c,d,A,_,_,g,_,i,_=>g.mono i
 |H::M,c,d,A,⟨f,m⟩,⟨F,n,j,o⟩,g,k,i,l=>
  ⟨F,f n,λb a=>k b (j b a),Sp.join m o g (λb a=>⟨k b a.1,a.2⟩) (λb a=>⟨i b a,λp=>l b (j b p) a⟩) λb a=>l b a.1⟩
def St.join {S S' L M h h'}(d:St S L h) (e:B6 (λb=>b<h.size) h S' h') (g:St S' M h') (f:SR M):St S (M++L) h':=by
 refine⟨λb a=>gJ (d.1 b a) e.siz,?_⟩;have i:Sp S L h' (λb=>b<h.size∧¬S b):=Sp.ext d.2 (λ_ x=>x) (λb a=>e.same b (a.elim (d.1 b) (·.1))) λ_ x=>x;exact Sp.join f g.2 i (λb a=>⟨a.1,λc=>a.2 (e.sub b (d.1 b c))⟩) (λb a=>⟨gJ a.1 e.siz,a.2⟩) λb a c=>a.2 (e.sub b c.1)
def MT {α β}(r:BB α) (off:Nat) (r':BB β) (g:α→β→α):Prop:=
 off+r'.sz≤r.sz∧∀{S h c x vs y},r.rd S h c x→r'.rd S h vs y→r.rd S h (G7 c off vs) (g x y)
def Co.id {α}{r:BB α}:Co r 0 r (λx=>x):=λ{S h cs x} k=>by
 have:=r.len k;simp only[List.drop_zero,←this,jT];exact k
def Co.trans {α β γ}{r:BB α}{c:BB β}{d:BB γ}{o1 o2 f g}(a:Co r o1 c f) (b:Co c o2 d g) (i:o2+d.sz≤c.sz):Co r (o1+o2) d (λx=>g (f x)):=λ{S h cs x} k=>by
 have:=b (a k);rw[List.drop_take,List.drop_drop,List.take_take] at this;rw[Nat.min_eq_left (by omega)] at this;exact this
def MT.id {α}{r:BB α}:MT r 0 r (λ_ y=>y):=⟨by omega,λ{S h c x vs y} b a=>by
 have d:=r.len b;have g:=r.len a;simp only[G7,List.take_zero,gQ,hM];rw[List.drop_of_length_le (by omega),iD];exact a⟩
def MT.trans {α β γ}{r:BB α}{d:BB β}{g:BB γ}{o1 o2 f g1 g2}(a:MT r o1 d g1) (k:Co r o1 d f) (b:MT d o2 g g2):MT r (o1+o2) g (λx y=>g1 x (g2 (f x) y)):=by
 refine⟨by have:=a.1;have:=b.1;omega,λ{S h c x vs y} i j=>?_⟩;have l:=k i;have m:=b.2 l j;have n:=a.2 i m;have t:=r.len i;have u:=g.len j;have v:=a.1;have w:=b.1;have:G7 c (o1+o2) vs=G7 c o1 (G7 ((c.drop o1).take d.sz) o2 vs):=by
  unfold G7;have z:((c.drop o1).take d.sz).length=d.sz:=by simp;omega
  simp only[hP,iL,iW];rw[List.take_take,Nat.min_eq_left (by omega),List.drop_take,List.drop_drop];have o:c.take (o1+o2)=c.take o1++(c.drop o1).take o2:=List.take_add ..;rw[o];simp only[List.append_assoc,List.append_cancel_left_eq];have p:o1+(min o2 (min d.sz (c.length-o1))+vs.length+(min d.sz (c.length-o1)-(o2+vs.length)))=o1+d.sz:=by omega
  rw[p];have q:c.drop (o1+(o2+vs.length))=(c.drop (o1+(o2+vs.length))).take (d.sz-(o2+vs.length))++(c.drop (o1+(o2+vs.length))).drop (d.sz-(o2+vs.length)):=(List.take_append_drop _ _).symm;have s:(c.drop (o1+(o2+vs.length))).drop (d.sz-(o2+vs.length))=c.drop (o1+d.sz):=by rw[List.drop_drop];congr 1;omega
  rw[←s,Nat.add_assoc];exact q
 rw[this];exact n
def Y2 {g k off:Nat}:(⟨g,k,none⟩:Addr).add off=⟨g,k+off,none⟩:=by unfold Addr.add;split<;>simp_all
def St.epAt {α β}{r:BB α}{r':BB β}{S L h T v l i x off f q}(o:St S L h) (p:OS r T v l∈L) (s:ix l i=some x) (fl:Co r off r' f) (t:EP v (i.toNat*r.sz+off) q):K4 (λb=>b<h.size) S h r' q (f x):=by
 obtain⟨g,cap,rfl,k⟩:=o.osAt p (Gj s).2;obtain⟨u,n,c,d,rfl⟩:=t;injection d with d
 injection d with d
 injection d with d
 subst d;obtain⟨a,j,m⟩:=k.fld fl;injection j with j
 injection j with j
 subst j;rw[Y2] at m;exact m
def BB.fn {t u:Type}(P:Program) (k:t→List Value) (l:t→Prop) (m:u→Value) (d:u→Prop):BB (t→Option u) where
 sz:=1
 ag:=false
 rd:=λS h cs w=>∃(f:FuncId) (a:Array Value),cs=[.func (.func f) #[] a]∧BH P f=true∧∀(S':Nat→Prop) (h':AT),(∀b,S b→S' b)→(∀b,S b→h'[b]? =h[b]?)→∀L,St S' L h'→∀x y,l x→w x=some y→
  B0 P f (k x++a.toList).toArray S' h' (λv g i=>v=m y∧d y∧St g L i)
 len:=λ⟨_,_,h,_⟩=>by rw[h];rfl
 one:=λ⟨_,_,h,_⟩ v j=>by rw[h] at j;simp at j;rw[j];rfl
 mono:=λ⟨f,a,n,o,p⟩ s e=>⟨f,a,n,o,λS' h' s' q=>p S' h' (λb c=>s' b (s b c)) λb c=>(q b (s b c)).trans (e b c)⟩
def Rd.fn {m n:Type}{P:Program}{i:m→List Value}{j:m→Prop}{l:n→Value}{c:n→Prop}{S h v}{o:m→Option n}(k:Rd S h (BB.fn P i j l c) v o):
  ∃(f:FuncId) (a:Array Value),v= .func (.func f) #[] a∧BH P f=true∧∀(S':Nat→Prop) (h':AT),(∀b,S b→S' b)→(∀b,S b→h'[b]? =h[b]?)→∀L,St S' L h'→∀x y,j x→o x=some y→
  B0 P f (i x++a.toList).toArray S' h' (λv d g=>v=l y∧c y∧St d L g):=by
 obtain⟨_,rfl,f,a,rfl,h⟩:=k;exact⟨f,a,rfl,h⟩
def Rd.ofFn {n o:Type}{P:Program}{i:n→List Value}{j:n→Prop}{k:o→Value}{c:o→Prop}{S h}{p:n→Option o}(f:FuncId) (a:Array Value) (l:BH P f=true)
  (m:∀(S':Nat→Prop) (h':AT),(∀b,S b→S' b)→(∀b,S b→h'[b]? =h[b]?)→∀L,St S' L h'→∀x y,j x→p x=some y→B0 P f (i x++a.toList).toArray S' h' (λv d g=>v=k y∧c y∧St d L g)):
  Rd S h (BB.fn P i j k c) (.func (.func f) #[] a) p:=⟨_,rfl,f,a,rfl,l,m⟩
def K4.mono'' {α S h S' h'}{r:BB α}{p x}(k:Pt S h r p x) (s:∀b,S b→S' b) (e:∀b,S b→h'[b]? =h[b]?):Pt S' h' r p x:=
 let ⟨cs,a,c⟩:=k;⟨cs,a.mono s e,r.mono c s e⟩
def Rd.mono'' {α S h S' h'}{r:BB α}{v x}(k:Rd S h r v x) (s:∀b,S b→S' b) (e:∀b,S b→h'[b]? =h[b]?):Rd S' h' r v x:=
 let ⟨cs,a,c⟩:=k;⟨cs,a,r.mono c s e⟩
def St.pubb {S L L2 h b T cs}{α}{r:BB α}{x:α}(d:St S L h) (p:OA L (Bx b T cs) L2) (g:r.rd S h cs x):∃S',St S' L2 h∧B6 S h S' h∧Pt S' h r (.pointer (some ⟨b,0,none⟩)) x:=by
 obtain⟨F,c,k,i,a⟩:=d.pub p;exact⟨_,i,a,cs,⟨⟨b,0,none⟩,rfl,rfl,.inr ((c.1 b).2 rfl),λj _=>by simp only[hM];exact Bx.cell c j⟩,r.mono g a.sub a.same⟩
section
variable {P:Program}{ops:Array Oper}{C:World→Prop}{Q:Act→Prop}{n:FN}{m m':SM}{rest:List Oper}
variable {d:Nat}{ty:TypeId}{pos:String}{af:Array Edge}{X Y:Operand}{t t1 t2:TypeId}{x y z:Int}{kd:IntKind}{v p:Value}{S:Nat→Prop}{L:List HP}{h:AT}
def Hg {α}{r:BB α}{l:List α}{e i x}(b:BU m X=some v) (c:BU m Y=some (.int .i64 i)) (k0:Sl S h r v l) (g:N5 P t e r.sz=true) (a:Go.Proofs.YtedgiljmffngoaaGreat.ix l i=some x) (hd:Nat.blt d n.1=true)
  (k:∀q,Pt S h r q x→QF P ops C Q rest n ((d,q)::m)):QF P ops C Q (⟨some d,.indexAddr t X Y,ty,pos,af,none⟩::rest) n m:=dT b c k0 g (Gj a).1 (Gj a).2 hd k
def BT {α}{r:BB α}{l:List α}{T e i x}(b:St S L h) (c:OS r T v l∈L) (g:BU m X=some v) (j:BU m Y=some (.int .i64 i)) (o:N5 P t e r.sz=true) (a:Go.Proofs.YtedgiljmffngoaaGreat.ix l i=some x) (hd:Nat.blt d n.1=true)
  (k:∀q,EP v (i.toNat*r.sz+0) q→QF P ops C Q rest n ((d,q)::m)):QF P ops C Q (⟨some d,.indexAddr t X Y,ty,pos,af,none⟩::rest) n m:=aI b c g j o (Gj a).1 (Gj a).2 hd λq _ e=>k q e
def Tl {k0 j off:Nat}{q:Value}(b:BU m X=some q) (i:EP v k0 q) (l:U6 P t j off=true) (hd:Nat.blt d n.1=true)
  (k:∀a,EP v (k0+off) a→QF P ops C Q rest n ((d,a)::m)):QF P ops C Q (⟨some d,.fieldAddr t X j,ty,pos,af,none⟩::rest) n m:=by
 obtain⟨g,o,c,p,rfl⟩:=i;exact DJ b l hd (k _ ⟨g,o,c,p,rfl⟩)
def Xa (a:BU m X=some (.int .i64 x)) (b:BU m Y=some (.int .i64 y)) (hd:Nat.blt d n.1=true) (c:BG (x+y)=z) (k:QF P ops C Q rest n ((d,.int .i64 z)::m)):QF P ops C Q (⟨some d,.binOp .add t1 X Y t2,ty,pos,af,none⟩::rest) n m:=Uf a b hd (c▸k)
def XI (a:BU m X=some (.int .i64 x)) (b:BU m Y=some (.int .i64 y)) (hd:Nat.blt d n.1=true) (c:BG (x-y)=z) (k:QF P ops C Q rest n ((d,.int .i64 z)::m)):QF P ops C Q (⟨some d,.binOp .sub t1 X Y t2,ty,pos,af,none⟩::rest) n m:=UV a b hd (c▸k)
def WX {xs:Array Value}{i:Nat}{j:Value}(c:BU m X=some (.tuple xs)) (g:xs[i]? =some j) (hd:Nat.blt d n.1=true) (k:QF P ops C Q rest n ((d,j)::m)):QF P ops C Q (⟨some d,.extract X i,ty,pos,af,none⟩::rest) n m:=
 λa b=>Cu b hd (λw _=>by simp [execOp,b.eval c,Instr.extract,g]) k
def Nk {f:Fn}{b cs:Array Operand}{g i:List Value}(j:b.toList.mapM (BU m)=some g) (l:cs.toList.mapM (BU m)=some i) (hd:Nat.blt d n.1=true) (k:QF P ops C Q rest n ((d,.func f g.toArray i.toArray)::m)):QF P ops C Q (⟨some d,.makeFunc f b cs,ty,pos,af,none⟩::rest) n m:=
 λa c=>Cu c hd (λw _=>by
  have e:(execOp a.eval ⟨some d,.makeFunc f b cs,ty,pos,af,none⟩).run P w= .ok (.value (.func f (b.map a.eval) (cs.map a.eval))) w:=rfl;rw[e,Sz c j,Sz c l]) k
end
section
variable {P:Program}{ex:List (Nat×AP)}{R N:AP}{cs:List Code}{B:World}{h:AT}{n:FN}{m m':SM}{S:Nat→Prop}{L:List HP}
def AK {i:Nat}{c:Code}(I:AP) (b:WF P ((i,I)::ex) R [c] I B h n m) (d:∀a w,I a w→W P ex R cs N a w):WF P ex R (.block i c::cs) N B h n m:=λa w g j=>Sa I (b a w g j) d
def AY {c:Code}(I:Nat→AP) (d:Nat) (h0:∀a w,Fr n a m→Wd B h w→I d a w) (j:∀a w,¬I 0 a w) (b:∀k a w,I (k+1) a w→W P ex R [c] (I k) a w):WF P ex R (.loop c::cs) N B h n m:=by
 refine XG (λi a w=>∃k,i+k=d∧I k a w) d 0 (λa w l o=>⟨d,by omega,h0 a w l o⟩) (λi a w ⟨k,p,_⟩=>by omega) λi a w ⟨k,p,g⟩=>?_;cases k with
 |zero=>exact absurd g (j a w)
 |succ k=>exact YX (b k a w g) λq s h'=>⟨k,by omega,h'⟩
end
section
variable {P:Program}{ops:Array Oper}{Q:Exit→Act→World→Prop}{n:FN}{m:SM}{rest:List Oper}
variable {d:Nat}{ty:TypeId}{pos:String}{af:Array Edge}{X Y:Operand}{B:World}{h:AT}{S:Nat→Prop}{L L2:List HP}{v:Value}
def Cn {f:Nat}{xs:Array Operand}{i:Array TypeId}{c vs:List Value}{first cap:Array Value}{g:Value→(Nat→Prop)→AT→Prop}
  (x:BU m X=some (.func (.func f) first cap)) (j:xs.toList.mapM (BU m)=some c) (l:first.toList++c++cap.toList=vs) (q:BH P f=true) (hd:Nat.blt d n.1=true) (u:St S L h) (y:B0 P f vs.toArray (λb=>b<h.size) h g)
  (k:∀v S' h',St S L h'→B6 S h S h'→B6 (λb=>b<h.size) h S' h'→g v S' h'→LF P ops Q rest B h' n ((d,v)::m)):LF P ops Q (⟨some d,.call ⟨.value X,xs,i⟩,ty,pos,af,none⟩::rest) B h n m:=
 λ_ _ s t=>Vg s x j l q hd t y λv a w S' h' s t e p=>
  have o:CF h h':=⟨e.siz,λb z=>e.same b z⟩
  k v S' h' (o.st u) (o.ext u.1) e p a w s t
def JX {α}{r:BB α}{T e sz c:Nat}{z:List Value}{l xs:List α}{q s a sc:Nat}{b:List Value}{LL:Value→List HP}(t:BU m X=some v) (u:BU m Y=some (.slice (some ⟨q,0,none⟩) a sc)) (w:M3 P T=some (e,sz,c,z)) (j:r.sz=sz)
  (x:Bx q s b∈L) (y:KW S h r b xs) (o:a=xs.length) (g:Nat.blt 0 c=true) (p:Hn (l.length+xs.length) c=true) (hd:Nat.blt d n.1=true) (A:St S L h) (C:∀i,Lb L (OS r e v l) (OS r e i (l++xs)) (LL i))
  (k:∀i h',St S (LL i) h'→B6 S h S h'→LF P ops Q rest B h' n ((d,i)::m)):LF P ops Q (⟨some d,.call ⟨.builtin .append,#[X,Y],#[T,T]⟩,ty,pos,af,none⟩::rest) B h n m:=
 Xl t u w j x y o g (LC p) hd A C k
def I7 {α}{r:BB α}{T e sz b:Nat}{z:List Value}{zx:α}{len cap:Int}{l o:IntKind}{U V:Operand}(p:M3 P T=some (e,sz,b,z)) (j:r.sz=sz) (q:r.rd S h z zx)
  (s:BU m U=some (.int l len)) (t:BU m V=some (.int o cap)) (g:KM len cap b=true) (i:Nat.blt 0 b=true) (hd:Nat.blt d n.1=true) (u:St S L h)
  (k:∀v h',St S (OS r e v (List.replicate len.toNat zx)::L) h'→B6 S h S h'→LF P ops Q rest B h' n ((d,v)::m)):LF P ops Q (⟨some d,.makeSlice T U V,ty,pos,af,none⟩::rest) B h n m:=by
 simp only[KM,gG,hO] at g;obtain⟨⟨h0,A⟩,w⟩:=g;obtain⟨a,rfl⟩:∃a:Nat,len=a:=⟨len.toNat,by omega⟩
 obtain⟨c,rfl⟩:∃c:Nat,cap=c:=⟨cap.toNat,by omega⟩
 have x:((b*c:Nat):Int)≤140737488355328:=by rw[Int.natCast_mul];exact w
 have C:b*c≤140737488355328:=by omega
 have y:1≤b:=by simpa [Nat.blt] using i
 have D:c≤b*c:=Nat.le_mul_of_pos_left _ y;exact dU p j q s t (by omega) (by omega) (by unfold maxLen;omega) hd u (by simpa using k)
def De {α β}{r:BB α}{r':BB β}{T' e:TypeId}{l:List α}{i:Int}{x:α}{y:β}{g:α→β→α}{off:Nat}{q u:Value}(hx:BU m X=some q) (hy:BU m Y=some u) (hu:Rd S h r' u y) (ep:EP v (i.toNat*r.sz+off) q) (ac:ix l i=some x)
  (up:MT r off r' g) (ht:Ie P T' r'.sz r'.ag=true) (h1:r'.ag=false→r'.sz=1) (hs:St S L h) (rp:Lb L (OS r e v l) (OS r e v (upd l i (g x y))) L2)
  (k:∀h',St S L2 h'→B6 S h S h'→LF P ops Q rest B h' n m):LF P ops Q (⟨none,.store T' X Y,ty,pos,af,none⟩::rest) B h n m:=by
 intro a w hf H;refine wpList_plain rfl λK hK=>?_;unfold Oper.wp;obtain⟨vs,rfl,d⟩:=hu;have o:=r'.len d;have hv:(r'.val vs).cells=vs.toArray:=by
  unfold BB.val;cases I:r'.ag with
  |true=>rfl
  |false=>
   have hl:=o;rw[h1 I] at hl
   match vs,hl,d with
   |[c],_,d=>
    have ho:=r'.one d c (by simp);cases c<;>first|rfl|(simp [Value.oneCell'] at ho)
 obtain⟨M,p,_⟩:=rp.pick;obtain⟨F,g1,g2,_⟩:=Sp.pick p hs.2;obtain⟨j,n',c',rfl,rfl⟩:=ep;obtain⟨i0,J⟩:=Gj ac;have t:i.toNat<l.length:=(hJ.1 J).1;have aj:i.toNat*r.sz+r.sz≤l.length*r.sz:=by rw[←iT];exact jG _ t
 have ah:=up.1;obtain⟨ti,dd,hi,hd,ad,I⟩:=Ot ht;have s:∀F,(OS r e (.slice (some ⟨j,0,none⟩) n' c') l).holds S F h→(∀b,F b→b<h.size∧¬S b)→∃cur,(∀b,F b↔b=j)∧h[j]? =some (.cells cur e (0,0))∧l.length*r.sz≤cur.size∧
   ∀h',h'.size=h.size→h'[j]? =some (.cells (G7 cur.toList (i.toNat*r.sz+off) vs).toArray e (0,0))→(∀b,b≠j→h'[b]? =h[b]?)→(OS r e (.slice (some ⟨j,0,none⟩) n' c') (upd l i (g x y))).holds S F h':=by
  intro F z hF;rcases z with ⟨_,z,_⟩|⟨g0,cap,cur,z,D,k3,k4,k5,k6,k7⟩
  ·rw[z] at t;exact absurd t (Nat.not_lt_zero _)
  ·injection z with A e2 e3
   injection A with A
   injection A with A
   subst A;subst e2;subst e3;have ae:l.length*r.sz≤cur.size:=by rw[k6];exact jG _ k4
   refine⟨cur,D,k3,ae,λh' z1 z2 z3=> .inr ⟨j,c',_,?_,D,z2,?_,k5,?_,?_⟩⟩
   ·simp [upd]
   ·simpa [upd] using k4
   ·rw[jS,Sn _ _ _ (by simp;omega)];simpa using k6
   ·have U:((G7 cur.toList (i.toNat*r.sz+off) vs).toArray.toList.take ((upd l i (g x y)).length*r.sz))=G7 (cur.toList.take (l.length*r.sz)) (i.toNat*r.sz+off) vs:=by
     unfold G7 upd;simp only[List.length_set];rw[List.take_take,Nat.min_eq_left (by omega),List.take_append,List.take_of_length_le (by simp;omega),List.drop_take];congr 2;simp;omega
    rw[U];have C:KW S h' r (cur.toList.take (l.length*r.sz)) l:=k7.mono (λ_ x=>x) λb hb=>z3 b λe=>(hF b ((D b).2 e)).2 hb;have V:r'.rd S h' vs y:=r'.mono d (λ_ x=>x) λb hb=>z3 b λe=>(hF b ((D b).2 e)).2 hb;exact C.set J (by omega) λc W=>up.2 W V
 obtain⟨cur,m1,m2,m3,m4⟩:=s F g1 g2;have hg:w.heap[j]? =some (.cells cur e (0,0)):=by rw[H.heap];exact m2
 have Z:=run_storeCells_at P j (i.toNat*r.sz+off) e vs 0 cur w hg (by omega) (λu hu=>r'.one d u hu);have aa:(List.take (i.toNat*r.sz+off+0) cur.toList++vs++List.drop (i.toNat*r.sz+off+0+vs.length) cur.toList)=G7 cur.toList (i.toNat*r.sz+off) vs:=by simp [G7]
 rw[aa] at Z;have ab:(execOp a.eval ⟨none,.store T' X Y,ty,pos,af,none⟩).run P w= .ok .skip (w.setRow j (G7 cur.toList (i.toNat*r.sz+off) vs).toArray):=by
  simp [execOp,hf.eval hx,hf.eval hy,Instr.storeAt,Instr.sureAddr,storeVar,hv,PJ hi,ad,o,Z]
 rw[ab];obtain⟨h',A,e2,e3,U⟩:=Ou w j cur (G7 cur.toList (i.toNat*r.sz+off) vs).toArray e hg;rw[H.heap] at e2 U;obtain⟨u1,u2⟩:=hs.upd (h':=h') rp (by omega) λF z D=>by
  obtain⟨ai,q1,G,q3,q4⟩:=s F z D;rw[m2] at G;injection G with G
  injection G with G
  subst G;exact⟨F,q4 h' e2 e3 U,λc W=> .inl W,λc _ W=>U c λe=>W ((q1 c).2 e)⟩
 exact hK _ _ (k h' u1 u2 _ _ hf ⟨A,H.os,H.tape,H.out⟩)
end
end Go.Proofs.YtedgiljmffngoaaGreat
