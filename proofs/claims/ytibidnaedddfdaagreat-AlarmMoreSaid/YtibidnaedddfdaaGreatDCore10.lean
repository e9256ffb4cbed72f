import Derived.Test.YtibidnaedddfdaaGreatDCore8
namespace Go.Proofs.YtibidnaedddfdaaGreat
set_option linter.all false
open Go.RowKit
def ix {α}(l:List α) (i:Int):Option α:=if i<0 then none else l[i.toNat]?
def upd {α}(l:List α) (i:Int) (x:α):List α:=l.set i.toNat x
def chk {α}(b:Bool) (x:Option α):Option α:=cond b x none
def room (n a:Nat):Bool:=decide (n*a≤140737488355328)||(decide (n*a≤175921860444160)&&decide (a≤274877906944))
def Kj (len cap:Int) (a:Nat):Bool:=decide (0≤len)&&decide (len≤cap)&&decide (a*cap≤140737488355328)
def bd {α β}{a:Option α}{f:α→Option β}{r}(e:a.bind f=some r):∃x,a=some x∧f x=some r:=kX.1 e
def GX {α}{b:Bool}{x y r:α}(h:b=true) (e:cond b x y=r):x=r:=by subst h;exact e
def GY {α}{b:Bool}{x y r:α}(h:b=false) (e:cond b x y=r):y=r:=by subst h;exact e
def TW {α}{b:Bool}{x:Option α}{r}(e:chk b x=some r):b=true∧x=some r:=by
 cases b with
 |false=>cases e
 |true=>exact⟨rfl,e⟩
def IS {α}{l:List α}{i:Int}{x:α}(h:ix l i=some x):0≤i∧l[i.toNat]? =some x:=by
 unfold ix at h
 split at h
 ·cases h
 ·exact⟨by omega,h⟩
def Y0 {α}{l:List α}{i:Int}{x:α}(h:ix l i=some x):0≤i∧i<(l.length:Int):=by
 obtain⟨a,b⟩:=IS h
 have:=(jF.1 b).1
 exact⟨a,by omega⟩
def OC {n a:Nat}(h:room n a=true):I4 n a:=by simpa [room,I4] using h
def HI {x y:Int}(a:AD x) (b:AD y):AD (max x y):=by unfold AD at *;omega
def ID {x y:Int}(a:AD x) (b:AD y):AD (min x y):=by unfold AD at *;omega
def St.pick {S L h H L2}(a:St S L h) (p:Ml L H L2):St S (H::L2) h:=⟨a.1,Sp.pick p a.2⟩
def HP.Flat (H:HP):Prop:=∀{S S' F h},H.holds S F h→H.holds S' F h
def B7.Flat {α}(r:B7 α):Prop:=∀{S h S' h' cs x},r.rd S h cs x→r.rd S' h' cs x
def Jd.flat {α}{r:B7 α}(f:r.Flat) {S h S' h'}:∀{l:List α}{cs},Jd S h r cs l→Jd S' h' r cs l
 |[],_,k=>k
 |_::_,_,⟨a,b,e,c,d⟩=>⟨a,b,e,f c,d.flat f⟩
def OS.flat {α}{r:B7 α}{T v l}(f:r.Flat):(OS r T v l).Flat:=λ{_ _ _ _} k=>by
 rcases k with k|⟨g,cap,cur,k1,k2,k3,k4,k5,k6,k7⟩
 ·exact .inl k
 ·exact .inr ⟨g,cap,cur,k1,k2,k3,k4,k5,k6,k7.flat f⟩
def Rh:List HP→Prop
 |[]=>True
 |H::M=>H.Flat∧Rh M
def Sp.join {S S':Nat→Prop}{h}{L:List HP}:∀{M:List HP}{c d A:Nat→Prop},Rh M→Sp S' M h c→Sp S L h d→(∀b,c b→A b)→(∀b,d b→A b)→(∀b,c b→¬d b)→Sp S (M++L) h A
 |[],c,d,A,_,_,g,_,i,_=>g.mono i
 |H::M,c,d,A,⟨f,m⟩,⟨F,n,j,o⟩,g,k,i,l=>
  ⟨F,f n,λb a=>k b (j b a),Sp.join m o g (λb a=>⟨k b a.1,a.2⟩) (λb a=>⟨i b a,λp=>l b (j b p) a⟩) λb a=>l b a.1⟩
def St.join {S S' L M h h'}(d:St S L h) (e:Cm (λb=>b<h.size) h S' h') (g:St S' M h') (f:Rh M):St S (M++L) h':=by
 refine⟨λb a=>iY (d.1 b a) e.siz,?_⟩
 have i:Sp S L h' (λb=>b<h.size∧¬S b):=Sp.ext d.2 (λ_ x=>x) (λb a=>e.same b (a.elim (d.1 b) (·.1))) λ_ x=>x
 exact Sp.join f g.2 i (λb a=>⟨a.1,λc=>a.2 (e.sub b (d.1 b c))⟩) (λb a=>⟨iY a.1 e.siz,a.2⟩) λb a c=>a.2 (e.sub b c.1)
def N3 {α β}(r:B7 α) (a:Nat) (r':B7 β) (b:α→β→α):Prop:=
 a+r'.sz≤r.sz∧∀{S h c x vs y},r.rd S h c x→r'.rd S h vs y→r.rd S h (Fs c a vs) (b x y)
def Fm.id {α}{r:B7 α}:Fm r 0 r (λx=>x):=λ{S h cs x} k=>by
 have:=r.len k
 simp only[List.drop_zero,←this,mG];exact k
def Fm.trans {α β γ}{r:B7 α}{c:B7 β}{d:B7 γ}{o1 o2 f g}(a:Fm r o1 c f) (b:Fm c o2 d g) (i:o2+d.sz≤c.sz):Fm r (o1+o2) d (λx=>g (f x)):=λ{S h cs x} k=>by
 have:=b (a k)
 rw[List.drop_take,List.drop_drop,lP] at this
 rw[Nat.min_eq_left (by omega)] at this
 exact this
def N3.id {α}{r:B7 α}:N3 r 0 r (λ_ y=>y):=⟨by omega,λ{S h c x vs y} b a=>by
 have d:=r.len b
 have g:=r.len a
 simp only[Fs,List.take_zero,kF,jR]
 rw[List.drop_of_length_le (by omega),jW]
 exact a⟩
def N3.trans {α β γ}{r:B7 α}{d:B7 β}{g:B7 γ}{o1 o2 f g1 g2}(a:N3 r o1 d g1) (k:Fm r o1 d f) (b:N3 d o2 g g2):N3 r (o1+o2) g (λx y=>g1 x (g2 (f x) y)):=by
 refine⟨by have:=a.1;have:=b.1;omega,λ{S h c x vs y} i j=>?_⟩
 have l:=k i
 have m:=b.2 l j
 have n:=a.2 i m
 have t:=r.len i
 have u:=g.len j
 have v:=a.1
 have w:=b.1
 have:Fs c (o1+o2) vs=Fs c o1 (Fs ((c.drop o1).take d.sz) o2 vs):=by
  unfold Fs
  have z:((c.drop o1).take d.sz).length=d.sz:=by simp;omega
  simp only[kD,kH,kK]
  rw[lP,Nat.min_eq_left (by omega),List.drop_take,List.drop_drop]
  have o:c.take (o1+o2)=c.take o1++(c.drop o1).take o2:=List.take_add ..
  rw[o]
  simp only[mH,List.append_cancel_left_eq]
  have p:o1+(min o2 (min d.sz (c.length-o1))+vs.length+(min d.sz (c.length-o1)-(o2+vs.length)))=o1+d.sz:=by omega
  rw[p]
  have q:c.drop (o1+(o2+vs.length))=(c.drop (o1+(o2+vs.length))).take (d.sz-(o2+vs.length))++(c.drop (o1+(o2+vs.length))).drop (d.sz-(o2+vs.length)):=(mU _ _).symm
  have s:(c.drop (o1+(o2+vs.length))).drop (d.sz-(o2+vs.length))=c.drop (o1+d.sz):=by rw[List.drop_drop];congr 1;omega
  rw[←s,lS]
  exact q
 rw[this]
 exact n
def Zu {b k a:Nat}:(⟨b,k,none⟩:Addr).add a=⟨b,k+a,none⟩:=by unfold Addr.add;split<;>simp_all
def St.epAt {α β}{r:B7 α}{r':B7 β}{S L h T v l i x off f q}(o:St S L h) (p:OS r T v l∈L) (s:ix l i=some x) (t:Fm r off r' f) (u:EP v (i.toNat*r.sz+off) q):N0 (λb=>b<h.size) S h r' q (f x):=by
 obtain⟨y,cap,rfl,k⟩:=o.osAt p (IS s).2
 obtain⟨w,n,c,d,rfl⟩:=u
 injection d with d
 injection d with d
 injection d with d
 subst d
 obtain⟨a,j,m⟩:=k.fld t
 injection j with j
 injection j with j
 subst j
 rw[Zu] at m
 exact m
def B7.fn {t u:Type}(P:Program) (k:t→List Value) (l:t→Prop) (m:u→Value) (d:u→Prop):B7 (t→Option u) where
 sz:=1
 ag:=false
 rd:=λS h cs w=>∃(f:FuncId) (a:Array Value),cs=[.func (.func f) #[] a]∧Br P f=true∧∀(S':Nat→Prop) (h':BB),(∀b,S b→S' b)→(∀b,S b→h'[b]? =h[b]?)→∀L,St S' L h'→∀x y,l x→w x=some y→
  Ct P f (k x++a.toList).toArray S' h' (λv g i=>v=m y∧d y∧St g L i)
 len:=λ⟨_,_,h,_⟩=>by rw[h];rfl
 one:=λ⟨_,_,h,_⟩ v j=>by rw[h] at j;simp at j;rw[j];rfl
 mono:=λ⟨f,a,n,o,p⟩ s e=>⟨f,a,n,o,λS' h' s' q=>p S' h' (λb c=>s' b (s b c)) λb c=>(q b (s b c)).trans (e b c)⟩
def Rd.fn {m n:Type}{P:Program}{i:m→List Value}{j:m→Prop}{l:n→Value}{c:n→Prop}{S h v}{o:m→Option n}(k:Rd S h (B7.fn P i j l c) v o):
  ∃(f:FuncId) (a:Array Value),v= .func (.func f) #[] a∧Br P f=true∧∀(S':Nat→Prop) (h':BB),(∀b,S b→S' b)→(∀b,S b→h'[b]? =h[b]?)→∀L,St S' L h'→∀x y,j x→o x=some y→
  Ct P f (i x++a.toList).toArray S' h' (λv d g=>v=l y∧c y∧St d L g):=by
 obtain⟨_,rfl,f,a,rfl,h⟩:=k
 exact⟨f,a,rfl,h⟩
def LB {n o:Type}{P:Program}{i:n→List Value}{j:n→Prop}{k:o→Value}{c:o→Prop}{S h}{p:n→Option o}(f:FuncId) (a:Array Value) (l:Br P f=true)
  (m:∀(S':Nat→Prop) (h':BB),(∀b,S b→S' b)→(∀b,S b→h'[b]? =h[b]?)→∀L,St S' L h'→∀x y,j x→p x=some y→Ct P f (i x++a.toList).toArray S' h' (λv d g=>v=k y∧c y∧St d L g)):
  Rd S h (B7.fn P i j k c) (.func (.func f) #[] a) p:=⟨_,rfl,f,a,rfl,l,m⟩
def N0.mono'' {α S h S' h'}{r:B7 α}{p x}(k:Pt S h r p x) (s:∀b,S b→S' b) (e:∀b,S b→h'[b]? =h[b]?):Pt S' h' r p x:=
 let ⟨cs,a,c⟩:=k;⟨cs,a.mono s e,r.mono c s e⟩
def Rd.mono'' {α S h S' h'}{r:B7 α}{v x}(k:Rd S h r v x) (s:∀b,S b→S' b) (e:∀b,S b→h'[b]? =h[b]?):Rd S' h' r v x:=
 let ⟨cs,a,c⟩:=k;⟨cs,a,r.mono c s e⟩
def St.pubb {S L L2 h b T cs}{α}{r:B7 α}{x:α}(d:St S L h) (p:Ml L (Bx b T cs) L2) (g:r.rd S h cs x):∃S',St S' L2 h∧Cm S h S' h∧Pt S' h r (.pointer (some ⟨b,0,none⟩)) x:=by
 obtain⟨F,c,k,i,a⟩:=d.pub p
 exact⟨_,i,a,cs,⟨⟨b,0,none⟩,rfl,rfl,.inr ((c.1 b).2 rfl),λj _=>by simp only[jR];exact Bx.cell c j⟩,r.mono g a.sub a.same⟩
section
variable {P:Program}{ops:Array Oper}{C:World→Prop}{Q:Act→Prop}{n:FN}{m m':SM}{rest:List Oper}
variable {d:Nat}{ty:TypeId}{pos:String}{af:Array Edge}{X Y:Operand}{t t1 t2:TypeId}{x y z:Int}{kd:IntKind}{v p:Value}{S:Nat→Prop}{L:List HP}{h:BB}
def B6 {α}{r:B7 α}{l:List α}{e i x}(b:CE m X=some v) (c:CE m Y=some (.int .i64 i)) (k0:Sl S h r v l) (g:JZ P t e r.sz=true) (a:Go.Proofs.YtibidnaedddfdaaGreat.ix l i=some x) (hd:Nat.blt d n.1=true)
  (k:∀q,Pt S h r q x→QF P ops C Q rest n ((d,q)::m)):QF P ops C Q (⟨some d,.indexAddr t X Y,ty,pos,af,none⟩::rest) n m:=fK b c k0 g (IS a).1 (IS a).2 hd k
def DN {α}{r:B7 α}{l:List α}{T e i x}(b:St S L h) (c:OS r T v l∈L) (g:CE m X=some v) (j:CE m Y=some (.int .i64 i)) (o:JZ P t e r.sz=true) (a:Go.Proofs.YtibidnaedddfdaaGreat.ix l i=some x) (hd:Nat.blt d n.1=true)
  (k:∀q,EP v (i.toNat*r.sz+0) q→QF P ops C Q rest n ((d,q)::m)):QF P ops C Q (⟨some d,.indexAddr t X Y,ty,pos,af,none⟩::rest) n m:=bD b c g j o (IS a).1 (IS a).2 hd λq _ e=>k q e
def NG {k0 j a:Nat}{q:Value}(i:CE m X=some q) (l:EP v k0 q) (o:FZ P t j a=true) (hd:Nat.blt d n.1=true)
  (k:∀b,EP v (k0+a) b→QF P ops C Q rest n ((d,b)::m)):QF P ops C Q (⟨some d,.fieldAddr t X j,ty,pos,af,none⟩::rest) n m:=by
 obtain⟨u,p,c,s,rfl⟩:=l
 exact XN i o hd (k _ ⟨u,p,c,s,rfl⟩)
def Mc (a:CE m X=some (.int .i64 x)) (b:CE m Y=some (.int .i64 y)) (hd:Nat.blt d n.1=true) (c:B8 (x+y)=z) (k:QF P ops C Q rest n ((d,.int .i64 z)::m)):QF P ops C Q (⟨some d,.binOp .add t1 X Y t2,ty,pos,af,none⟩::rest) n m:=Ud a b hd (c▸k)
def YS (a:CE m X=some (.int .i64 x)) (b:CE m Y=some (.int .i64 y)) (hd:Nat.blt d n.1=true) (c:B8 (x-y)=z) (k:QF P ops C Q rest n ((d,.int .i64 z)::m)):QF P ops C Q (⟨some d,.binOp .sub t1 X Y t2,ty,pos,af,none⟩::rest) n m:=Ua a b hd (c▸k)
def bH {xs:Array Value}{i:Nat}{u:Value}(c:CE m X=some (.tuple xs)) (g:xs[i]? =some u) (hd:Nat.blt d n.1=true) (k:QF P ops C Q rest n ((d,u)::m)):QF P ops C Q (⟨some d,.extract X i,ty,pos,af,none⟩::rest) n m:=
 λa b=>Fo b hd (λw _=>by simp [execOp,b.eval c,Instr.extract,g]) k
def KD {f:Fn}{b cs:Array Operand}{g i:List Value}(j:b.toList.mapM (CE m)=some g) (l:cs.toList.mapM (CE m)=some i) (hd:Nat.blt d n.1=true) (k:QF P ops C Q rest n ((d,.func f g.toArray i.toArray)::m)):QF P ops C Q (⟨some d,.makeFunc f b cs,ty,pos,af,none⟩::rest) n m:=
 λa c=>Fo c hd (λw _=>by
  have e:(execOp a.eval ⟨some d,.makeFunc f b cs,ty,pos,af,none⟩).run P w= .ok (.value (.func f (b.map a.eval) (cs.map a.eval))) w:=rfl
  rw[e,UK c j,UK c l]) k
end
section
variable {P:Program}{ex:List (Nat×AP)}{R N:AP}{cs:List Code}{B:World}{h:BB}{n:FN}{m m':SM}{S:Nat→Prop}{L:List HP}
def BG {i:Nat}{c:Code}(I:AP) (b:WF P ((i,I)::ex) R [c] I B h n m) (d:∀a w,I a w→W P ex R cs N a w):WF P ex R (.block i c::cs) N B h n m:=λa w g j=>Rl I (b a w g j) d
def Bt {c:Code}(I:Nat→AP) (d:Nat) (h0:∀a w,Fr n a m→Wd B h w→I d a w) (j:∀a w,¬I 0 a w) (b:∀k a w,I (k+1) a w→W P ex R [c] (I k) a w):WF P ex R (.loop c::cs) N B h n m:=by
 refine YQ (λi a w=>∃k,i+k=d∧I k a w) d 0 (λa w l o=>⟨d,by omega,h0 a w l o⟩) (λi a w ⟨k,p,_⟩=>by omega) λi a w ⟨k,p,g⟩=>?_
 cases k with
 |zero=>exact absurd g (j a w)
 |succ k=>exact ZL (b k a w g) λq s h'=>⟨k,by omega,h'⟩
end
section
variable {P:Program}{ops:Array Oper}{Q:Exit→Act→World→Prop}{n:FN}{m:SM}{rest:List Oper}
variable {d:Nat}{ty:TypeId}{pos:String}{af:Array Edge}{X Y:Operand}{B:World}{h:BB}{S:Nat→Prop}{L L2:List HP}{v:Value}
def Ea {f:Nat}{xs:Array Operand}{g:Array TypeId}{args vs:List Value}{first cap:Array Value}{c:Value→(Nat→Prop)→BB→Prop}
  (u:CE m X=some (.func (.func f) first cap)) (i:xs.toList.mapM (CE m)=some args) (j:first.toList++args++cap.toList=vs) (l:Br P f=true) (hd:Nat.blt d n.1=true) (t:St S L h) (x:Ct P f vs.toArray (λb=>b<h.size) h c)
  (k:∀v S' h',St S L h'→Cm S h S h'→Cm (λb=>b<h.size) h S' h'→c v S' h'→LF P ops Q rest B h' n ((d,v)::m)):LF P ops Q (⟨some d,.call ⟨.value X,xs,g⟩,ty,pos,af,none⟩::rest) B h n m:=
 λ_ _ q s=>V0 q u i j l hd s x λv a w S' h' q s e p=>
  have o:FW h h':=⟨e.siz,λb y=>e.same b y⟩
  k v S' h' (o.st t) (o.ext t.1) e p a w q s
def LH {α}{r:B7 α}{T e sz b:Nat}{z:List Value}{l xs:List α}{p s a sc:Nat}{news:List Value}{q:Value→List HP}(t:CE m X=some v) (u:CE m Y=some (.slice (some ⟨p,0,none⟩) a sc)) (w:NI P T=some (e,sz,b,z)) (i:r.sz=sz)
  (x:Bx p s news∈L) (y:Jd S h r news xs) (j:a=xs.length) (c:Nat.blt 0 b=true) (o:room (l.length+xs.length) b=true) (hd:Nat.blt d n.1=true) (A:St S L h) (C:∀g,KA L (OS r e v l) (OS r e g (l++xs)) (q g))
  (k:∀g h',St S (q g) h'→Cm S h S h'→LF P ops Q rest B h' n ((d,g)::m)):LF P ops Q (⟨some d,.call ⟨.builtin .append,#[X,Y],#[T,T]⟩,ty,pos,af,none⟩::rest) B h n m:=
 Yh t u w i x y j c (OC o) hd A C k
def Pr {α}{r:B7 α}{T e sz b:Nat}{z:List Value}{zx:α}{len cap:Int}{l o:IntKind}{U V:Operand}(p:NI P T=some (e,sz,b,z)) (j:r.sz=sz) (q:r.rd S h z zx)
  (s:CE m U=some (.int l len)) (t:CE m V=some (.int o cap)) (g:Kj len cap b=true) (i:Nat.blt 0 b=true) (hd:Nat.blt d n.1=true) (u:St S L h)
  (k:∀v h',St S (OS r e v (List.replicate len.toNat zx)::L) h'→Cm S h S h'→LF P ops Q rest B h' n ((d,v)::m)):LF P ops Q (⟨some d,.makeSlice T U V,ty,pos,af,none⟩::rest) B h n m:=by
 simp only[Kj,iQ,jG] at g
 obtain⟨⟨h0,A⟩,w⟩:=g
 obtain⟨a,rfl⟩:∃a:Nat,len=a:=⟨len.toNat,by omega⟩
 obtain⟨c,rfl⟩:∃c:Nat,cap=c:=⟨cap.toNat,by omega⟩
 have x:((b*c:Nat):Int)≤140737488355328:=by rw[lX];exact w
 have C:b*c≤140737488355328:=by omega
 have y:1≤b:=by simpa [Nat.blt] using i
 have D:c≤b*c:=Nat.le_mul_of_pos_left _ y
 exact fO p j q s t (by omega) (by omega) (by unfold maxLen;omega) hd u (by simpa using k)
def IB {α β}{r:B7 α}{r':B7 β}{T' e:TypeId}{l:List α}{i:Int}{x:α}{y:β}{g:α→β→α}{j:Nat}{q u:Value}(hx:CE m X=some q) (hy:CE m Y=some u) (hu:Rd S h r' u y) (ep:EP v (i.toNat*r.sz+j) q) (ad:ix l i=some x)
  (up:N3 r j r' g) (ht:Hd P T' r'.sz r'.ag=true) (h1:r'.ag=false→r'.sz=1) (hs:St S L h) (rp:KA L (OS r e v l) (OS r e v (upd l i (g x y))) L2)
  (k:∀h',St S L2 h'→Cm S h S h'→LF P ops Q rest B h' n m):LF P ops Q (⟨none,.store T' X Y,ty,pos,af,none⟩::rest) B h n m:=by
 intro a w hf J
 refine wpList_plain rfl λK hK=>?_
 unfold Oper.wp
 obtain⟨vs,rfl,o⟩:=hu
 have t:=r'.len o
 have hv:(r'.val vs).cells=vs.toArray:=by
  unfold B7.val
  cases U:r'.ag with
  |true=>rfl
  |false=>
   have hl:=t
   rw[h1 U] at hl
   match vs,hl,o with
   |[c],_,o=>
    have ho:=r'.one o c (by simp)
    cases c<;>first|rfl|(simp [Value.oneCell'] at ho)
 obtain⟨M,p,_⟩:=rp.pick
 obtain⟨F,g1,g2,_⟩:=Sp.pick p hs.2
 obtain⟨s,n',c',rfl,rfl⟩:=ep
 obtain⟨i0,V⟩:=IS ad
 have A:i.toNat<l.length:=(jF.1 V).1
 have ak:i.toNat*r.sz+r.sz≤l.length*r.sz:=by rw[←kQ];exact kE _ A
 have ai:=up.1
 obtain⟨ti,dd,hi,hd,ae,U⟩:=NN ht
 have z:∀F,(OS r e (.slice (some ⟨s,0,none⟩) n' c') l).holds S F h→(∀b,F b→b<h.size∧¬S b)→∃d,(∀b,F b↔b=s)∧h[s]? =some (.cells d e (0,0))∧l.length*r.sz≤d.size∧
   ∀h',h'.size=h.size→h'[s]? =some (.cells (Fs d.toList (i.toNat*r.sz+j) vs).toArray e (0,0))→(∀b,b≠s→h'[b]? =h[b]?)→(OS r e (.slice (some ⟨s,0,none⟩) n' c') (upd l i (g x y))).holds S F h':=by
  intro F C hF
  rcases C with ⟨_,C,_⟩|⟨g0,cap,d,C,H,k3,k4,k5,k6,k7⟩
  ·rw[C] at A;exact absurd A (Nat.not_lt_zero _)
  ·injection C with D e2 e3
   injection D with D
   injection D with D
   subst D;subst e2;subst e3
   have ah:l.length*r.sz≤d.size:=by rw[k6];exact kE _ k4
   refine⟨d,H,k3,ah,λh' z1 z2 z3=> .inr ⟨s,c',_,?_,H,z2,?_,k5,?_,?_⟩⟩
   ·simp [upd]
   ·simpa [upd] using k4
   ·rw[mF,R8 _ _ _ (by simp;omega)];simpa using k6
   ·have W:((Fs d.toList (i.toNat*r.sz+j) vs).toArray.toList.take ((upd l i (g x y)).length*r.sz))=Fs (d.toList.take (l.length*r.sz)) (i.toNat*r.sz+j) vs:=by
     unfold Fs upd
     simp only[List.length_set]
     rw[lP,Nat.min_eq_left (by omega),List.take_append,lY (by simp;omega),List.drop_take]
     congr 2
     simp
     omega
    rw[W]
    have G:Jd S h' r (d.toList.take (l.length*r.sz)) l:=k7.mono (λ_ x=>x) λb hb=>z3 b λe=>(hF b ((H b).2 e)).2 hb
    have Z:r'.rd S h' vs y:=r'.mono o (λ_ x=>x) λb hb=>z3 b λe=>(hF b ((H b).2 e)).2 hb
    exact G.set V (by omega) λc hc=>up.2 hc Z
 obtain⟨d,m1,m2,m3,m4⟩:=z F g1 g2
 have hg:w.heap[s]? =some (.cells d e (0,0)):=by rw[J.heap];exact m2
 have aa:=run_storeCells_at P s (i.toNat*r.sz+j) e vs 0 d w hg (by omega) (λu hu=>r'.one o u hu)
 have ab:(List.take (i.toNat*r.sz+j+0) d.toList++vs++List.drop (i.toNat*r.sz+j+0+vs.length) d.toList)=Fs d.toList (i.toNat*r.sz+j) vs:=by simp [Fs]
 rw[ab] at aa
 have ac:(execOp a.eval ⟨none,.store T' X Y,ty,pos,af,none⟩).run P w= .ok .skip (w.setRow s (Fs d.toList (i.toNat*r.sz+j) vs).toArray):=by
  simp [execOp,hf.eval hx,hf.eval hy,Instr.storeAt,Instr.sureAddr,storeVar,hv,OB hi,ae,t,aa]
 rw[ac]
 obtain⟨h',D,e2,e3,W⟩:=NU w s d (Fs d.toList (i.toNat*r.sz+j) vs).toArray e hg
 rw[J.heap] at e2 W
 obtain⟨u1,u2⟩:=hs.upd (h':=h') rp (by omega) λF C H=>by
  obtain⟨aj,q1,I,q3,q4⟩:=z F C H
  rw[m2] at I
  injection I with I
  injection I with I
  subst I
  exact⟨F,q4 h' e2 e3 W,λc hc=> .inl hc,λc _ hc=>W c λe=>hc ((q1 c).2 e)⟩
 exact hK _ _ (k h' u1 u2 _ _ hf ⟨D,J.os,J.tape,J.out⟩)
end
end Go.Proofs.YtibidnaedddfdaaGreat
