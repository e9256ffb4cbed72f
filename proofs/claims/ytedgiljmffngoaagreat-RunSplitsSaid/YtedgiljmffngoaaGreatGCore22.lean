import Derived.Test.YtedgiljmffngoaaGreatGCore18
import Derived.Maps.RangeRun
namespace Go.Proofs.YtedgiljmffngoaaGreat
set_option linter.all false
open Go.RowKit
def oU:List Nat→SM→Option SM
 |[],_=>some []
 |k::a,m=>match lk m k with
  |some v=>match oU a m with
   |some r=>some ((k,v)::r)
   |none=>none
  |none=>none
def kp:∀{m a:SM}(b:List Nat),oU b m=some a→Su m a
 |m,a,[],g=>by cases g;trivial
 |m,a,k::b,g=>by
  simp only[oU] at g;split at g
  ·rename_i v c;split at g
   ·rename_i r d;cases g;exact⟨c,kp b d⟩
   ·cases g
  ·cases g
def YQ {c:Type}(S:Nat→Prop) (d:AW) (r:A7 c) (T:TypeId) (l:List c) (v:Value) (a:AW):Prop:=∃g cap,v= .slice (some ⟨g,0,none⟩) l.length cap∧d.size≤g∧g<a.size∧(OS r T v l).holds S (λb=>b=g) a
def YQ.mono {q:Type}{S:Nat→Prop}{s a c:AW}{r:A7 q}{T:TypeId}{l:List q}{v:Value}(k:YQ S s r T l v a) (i:∀b,S b→b<s.size) (o:C5 a c):YQ S s r T l v c:=by
 obtain⟨g,cap,j,m,d,n⟩:=k;exact⟨g,cap,j,m,tZ d o.siz,HP.loc _ n (λ_ x=>x) λb p=>o.same b (p.elim (λx=>by have:=i b x;omega) λx=>by subst x;exact d)⟩
def eO {d:Type}{S:Nat→Prop}{i:AW}{r:A7 d}{T:TypeId}{l:List d}:Sv (YQ S i r T l):=λv c ⟨g,_,a,_,b,_⟩=>⟨g,by rw[a];rfl,b⟩
def Oi {b:Type}{R:AR}{S:Nat→Prop}{c:AW}{r:A7 b}{a T:Nat}{l:List b}{is:List Nat}(e:R a=YQ S c r T l) (t:∀i,i∈is→Sv (R i)):∀i,i∈a::is→Sv (R i):=VQ (by rw[e];exact eO) t
def NT {u:Type}{S:Nat→Prop}{L:List HP}{w d:AW}{i:List Nat}{r:A7 u}{g T:Nat}{v:Value}{l:List u}(k:VT S w d i L) (j:w.size≤g) (m:g<d.size) (n:(OS r T v l).holds S (λb=>b=g) d) (o:g∉i):VT S w d (g::i) (OS r T v l::L):=by
 obtain⟨p,q,s,t⟩:=k;refine⟨p,q,λc a=>?_,λc=>c=g,n,λc a=>by subst a;exact .inr (uN ..),t.mono λc a=>⟨a.imp_right (uR _),λe=>?_⟩⟩
 ·rcases uA.1 a with rfl|a
  ·exact⟨j,m⟩
  ·exact s c a
 ·subst e;rcases a with a|a
  ·have:=a.1;omega
  ·exact o a
def Sa {α:Type}{P:Program}{q:Array Oper}{Q:Exit→Act→World→Prop}{n:FN}{m:SM}{p:List Oper}{d:Nat}{ty:TypeId}{s:String}{Y:Array Edge}{B:World}{S:Nat→Prop}{h0 h:AW}{r:A7 α}{T e sz g:Nat}{z:List Value}{zx:α}{len cap:Int}{Z kc:IntKind}{U V:Operand}(he:N3 P T=some (e,sz,g,z)) (t:r.sz=sz) (hz:r.rd S h z zx)
  (hx:BT m U=some (.int Z len)) (hy:BT m V=some (.int kc cap)) (u:KH len cap g=true) (y:Nat.blt 0 g=true) (hd:Nat.blt d n.1=true) (o:C5 h0 h) (hS:∀b,S b→b<h0.size)
  (k:∀v h',C5 h h'→YQ S h0 r e (List.replicate len.toNat zx) v h'→Tc h v→LF P q Q p B h' n ((d,v)::m)):LF P q Q (⟨some d,.makeSlice T U V,ty,s,Y,none⟩::p) B h n m:=by
 simp only[KH,tO,uF] at u;obtain⟨⟨aa,ab⟩,I⟩:=u;obtain⟨a,rfl⟩:∃a:Nat,len=a:=⟨len.toNat,by omega⟩
 obtain⟨c,rfl⟩:∃c:Nat,cap=c:=⟨cap.toNat,by omega⟩
 have ad:((g*c:Nat):Int)≤140737488355328:=by rw[Int.natCast_mul];exact I
 have J:1≤g:=by simpa [Nat.blt] using y
 have ae:c≤g*c:=Nat.le_mul_of_pos_left _ J;have A:a≤c:=by omega
 have C:c≤maxLen:=by unfold maxLen;omega
 intro ac w M hw;refine wpList_plain rfl λK hK=>?_;unfold Oper.wp;obtain⟨i,zv,h1,h2,h3,h4,h5,h6,h7,h8⟩:=Kq he;have D:=run_make (P:=P) w T e i zv h1 h2 h3 Z kc (a:Int) (c:Int) (by omega) (by omega) (by rw[h5];omega) (by unfold maxLen at C;omega);simp only[vR,h6,h4] at D;have F:(execOp ac.eval ⟨some d,.makeSlice T U V,ty,s,Y,none⟩).run P w= .ok (.value (.slice (some ⟨w.heap.size,0,none⟩) a c)) (w.alloc (.cells (madeCells z.toArray (c*sz)) e)):=by
  simp [execOp,M.eval hx,M.eval hy,D]
 rw[F];have W:∀b,S b→b<h.size:=λb G=>tZ (hS b G) o.siz;have l:(madeCells z.toArray (c*sz)).toList=(List.replicate c z).flatten:=by rw[←h7];exact MJ z c (by omega)
 have X:(OS r e (.slice (some ⟨h.size,0,none⟩) a c) (List.replicate a zx)).holds S (λb=>b=h.size) (h.push (.cells (madeCells z.toArray (c*sz)) e)):=by
  refine .inr ⟨h.size,c,madeCells z.toArray (c*sz),by simp,λ_=>vZ,Ka _ _,by simpa using A,C,by rw[size_madeCells,t],?_⟩;rw[l];have:((List.replicate c z).flatten).take ((List.replicate a zx).length*r.sz)=(List.replicate a z).flatten:=by
   obtain⟨j,rfl⟩:=Nat.exists_eq_add_of_le A;rw[←List.replicate_append_replicate,List.flatten_append,List.length_replicate,t,←h7];have:(List.replicate a z).flatten.length=a*z.length:=by simp
   rw[←this,xL]
  rw[this];exact(Q7 hz a).mono (λ_ x=>x) λb G=>Gi _ _ _ (W b G)
 have H:=hw.heap;have:=k (.slice (some ⟨w.heap.size,0,none⟩) a c) (h.push (.cells (madeCells z.toArray (c*sz)) e)) ⟨by simp,λb G=>Gi _ _ _ G⟩ (by rw[H];exact⟨h.size,c,by simp,o.siz,by simp,by simpa using X⟩) ⟨h.size,by rw[H];rfl,tX _⟩;exact hK _ _ (this _ _ (M.put hd _) (hw.alloc _))
def qL:UU Int:=λ_ _ vs x=>vs=[.int .i64 x]∧AA x
def bS {a:Type}(r:A7 a):UU (Int×List a):=λS b vs x=>∃v,vs=[.int .i64 x.1,v]∧AA x.1∧Sl S b r v x.2
def qL.len {S:Nat→Prop}{a:AW}{vs:List Value}{x:Int}(k:qL S a vs x):vs.length=1:=by rw[k.1];rfl
def qL.mono {S S':Nat→Prop}{a h':AW}{vs:List Value}{x:Int}(k:qL S a vs x) (_:CB S a S' h'):qL S' h' vs x:=k
def bS.len {a:Type}{r:A7 a}{S:Nat→Prop}{b:AW}{vs:List Value}{x:Int×List a}(k:bS r S b vs x):vs.length=2:=by obtain⟨v,e,_⟩:=k;rw[e];rfl
def bS.mono {d:Type}{r:A7 d}{S S':Nat→Prop}{g h':AW}{vs:List Value}{x:Int×List d}(k:bS r S g vs x) (e:CB S g S' h'):bS r S' h' vs x:=by obtain⟨v,a,b,c⟩:=k;exact⟨v,a,b,c.mono' e⟩
open Go.ChangeMaps (setBlock)
def MI {κ β:Type}(kv:κ→Value) (vv:β→Value) (b r:Nat) (l rem:List (κ×β)):HP where
 holds:=λ_ F h=>(∀c,F c↔(c=b∨c=r))∧b≠r∧∃es a d seen,h[b]? =some (.map es a)∧es.toList.map (λe=>(e.key,e.val))=(l.map λe=>(kv e.1,vv e.2))∧Nq es.toList a∧
  h[r]? =some (.mapIter (some b) d seen a)∧d=a∧(leftOf es seen).toList.map (λe=>(e.key,e.val))=rem.map λe=>(kv e.1,vv e.2)
 loc:=λ⟨g,i,es,c,d,seen,j,k,m,n,o⟩ _ e=>⟨g,i,es,c,d,seen,(e _ (.inr ((g _).2 (.inl rfl)))).trans j,k,m,(e _ (.inr ((g _).2 (.inr rfl)))).trans n,o⟩
section
variable {P:Program}{ops:Array Oper}{Q:Exit→Act→World→Prop}{n:FN}{m:SM}{rest:List Oper}
variable {d:Nat}{ty:TypeId}{pos:String}{af:Array Edge}{X:Operand}{B:World}{h:AW}{S:Nat→Prop}{L:List HP}{t kt et:TypeId}{b r:Nat}
variable {κ β:Type}{kv:κ→Value}{vv:β→Value}{l rem:List (κ×β)}
def YR (q:St S (MP kv vv b l::L) h) (g:BT m X=some (.map (some b))) (y:P.underlying t=some (.map kt et)) (hd:Nat.blt d n.1=true)
  (k:∀r h',St S (MI kv vv b r l l::L) h'→CB S h S h'→LF P ops Q rest B h' n ((d,.pointer (some ⟨r,0,none⟩))::m)):LF P ops Q (⟨some d,.range t X,ty,pos,af,none⟩::rest) B h n m:=by
 intro a w s j;refine wpList_plain rfl λK o=>?_;unfold Oper.wp;obtain⟨F,⟨z,es,c,u,v,A⟩,C,_⟩:=q.2;have D:w.heap[b]? =some (.map es c):=by rw[j.heap];exact u
 have i:(execOp a.eval ⟨some d,.range t X,ty,pos,af,none⟩).run P w= .ok (.value (.pointer (some ⟨w.heap.size,0,none⟩))) (w.alloc (.mapIter (some b) c #[] c)):=by
  simp [execOp,s.eval g,Instr.range,run_underlying y,MapKept.run_getObj_map D,newObj,Sem.run]
 rw[i];have G:b<h.size:=(C b ((z b).2 rfl)).1;obtain⟨H,I⟩:=q.upd (H':=MI kv vv b h.size l l) (h':=h.push (.mapIter (some b) c #[] c)) .head (by simp) λF J M=>⟨λx=>x=b∨x=h.size,⟨λx=>vZ,by omega,es,c,c,#[],by rw[Gi _ _ _ G];exact u,v,A,Ka _ _,rfl,by rw[show leftOf es #[]=es from Array.filter_eq_self.2 λx _=>(by simp)];exact v⟩,λx g=>g.imp (λe=>(J.1 x).2 e) λe=>by subst e;simp,λx g _=>Gi _ _ _ g⟩
 have p:=j.heap;exact o _ _ (k w.heap.size _ (by rw[p];exact H) I _ _ (s.put hd _) (j.alloc _))
def eQ {h:AW}{b r:Nat}{o:Obj}(a:r<h.size) (c:b≠r):(h.setIfInBounds r o)[b]? =h[b]? ∧(h.setIfInBounds r o)[r]? =some o∧(h.setIfInBounds r o).size=h.size:=
 ⟨by rw[yW (Ne.symm c)],by rw[Array.getElem?_setIfInBounds_self];simp [a],by simp⟩
def bM (hs:St S (MI kv vv b r l rem::L) h) (p:BT m X=some (.pointer (some ⟨r,0,none⟩))) (hd:Nat.blt d n.1=true)
  (k0:rem=[]→LF P ops Q rest B h n ((d,.tuple #[.bool false])::m))
  (C:∀(x:κ×β) (l1 s:List (κ×β)) h',rem=l1++x::s→St S (MI kv vv b r l (l1++s)::L) h'→CB S h S h'→(∀w,Wd B h' w→(Instr.entry (.pointer (some ⟨r,0,none⟩))).run P w= .ok (.tuple #[kv x.1,vv x.2]) w)→LF P ops Q rest B h' n ((d,.tuple #[.bool true,kv x.1,vv x.2])::m)):LF P ops Q (⟨some d,.next X false,ty,pos,af,none⟩::rest) B h n m:=by
 intro a w D t;refine wpList_plain rfl λK u=>?_;unfold Oper.wp;obtain⟨F,⟨g1,gn,es,c,g,seen,J,g3,G,g5,g6,H⟩,hF,_⟩:=hs.2;have hr:w.heap[r]? =some (.mapIter (some b) g seen c):=by rw[t.heap];exact g5
 have hb:w.heap[b]? =some (.map es c):=by rw[t.heap];exact J
 have M:r<h.size:=(hF r ((g1 r).2 (.inr rfl))).1;subst g6;rcases run_next_at (P:=P) w ty r b g g seen es g hr hb (λx p=>G.2 x p) (tX _) with ⟨h0,j⟩|⟨e,he,w1,hw1,j⟩
 ·have I:(execOp a.eval ⟨some d,.next X false,ty,pos,af,none⟩).run P w= .ok (.value (.tuple #[.bool false])) w:=by simp [execOp,D.eval p,j]
  rw[I];have v:rem=[]:=by
   have:(leftOf es seen).toList=[]:=by
    have:=Array.eq_empty_of_size_eq_zero h0;rw[this]
   rw[this] at H;cases rem with
   |nil=>rfl
   |cons _ _=>cases H
  exact u _ _ (k0 v _ _ (D.put hd _) t)
 ·have I:(execOp a.eval ⟨some d,.next X false,ty,pos,af,none⟩).run P w= .ok (.value (.tuple #[.bool true,e.key,e.val])) (setBlock w1 r (.mapIter (some b) g (seen.push e.born) g)):=by simp [execOp,D.eval p,j]
  rw[I];obtain⟨p1,p2,U⟩:=List.append_of_mem he;rw[U,wM,uY] at H;obtain⟨l1,lx,hl,q1,q2⟩:=List.map_eq_append_iff.1 H.symm;obtain⟨x,s,V,q3,q4⟩:=List.map_eq_cons_iff.1 q2;subst V;have k:e.key=kv x.1∧e.val=vv x.2:=by
   have:=q3;simp only[xK] at this;exact⟨this.1.symm,this.2.symm⟩
  have z:((leftOf es seen).toList.map (·.born)).Nodup:=by
   unfold leftOf;rw[Array.toList_filter];exact(List.Sublist.map _ List.filter_sublist).nodup G.1
  have q:(leftOf es (seen.push e.born)).toList=p1++p2:=by
   have e1:(leftOf es (seen.push e.born)).toList=(leftOf es seen).toList.filter λy=>y.born != e.born:=by
    unfold leftOf;rw[Array.toList_filter,Array.toList_filter,List.filter_filter];congr 1;funext y;cases I:seen.contains y.born<;>cases h2:(y.born==e.born)<;>simp_all
   rw[e1,U,xN,List.filter_cons];rw[U,wM,uY,List.nodup_append] at z;obtain⟨_,n2,n3⟩:=z;obtain⟨n4,_⟩:=wU.1 n2;simp only[bne_self_eq_false,wH,wI];rw[List.filter_eq_self.2,List.filter_eq_self.2]
   ·intro y W;simp only[bne_iff_ne,ne_eq];exact λY=>n4 (by rw[←Y];exact uX.2 ⟨y,W,rfl⟩)
   ·intro y W;simp only[bne_iff_ne,ne_eq];exact λY=>n3 _ (uX.2 ⟨y,W,rfl⟩) _ (uN ..) Y
  obtain⟨s1,s2,s3⟩:=eQ (o:= .mapIter (some b) g (seen.push e.born) g) M gn;have Z:Wd B (h.setIfInBounds r (.mapIter (some b) g (seen.push e.born) g)) (setBlock w1 r (.mapIter (some b) g (seen.push e.born) g)):=by
   have i:Wd B h w1:=by
    rcases hw1 with rfl|rfl
    ·exact t
    ·exact t.drew
   exact⟨by show w1.heap.setIfInBounds _ _=_;rw[i.heap],i.os,i.tape,i.out⟩
  obtain⟨u1,u2⟩:=hs.upd (H':=MI kv vv b r l (l1++s)) (h':=h.setIfInBounds r (.mapIter (some b) g (seen.push e.born) g)) .head (by omega) λF C k2=>⟨F,⟨C.1,gn,es,g,g,seen.push e.born,by rw[s1];exact J,g3,G,s2,rfl,by rw[q,wM,wM,q1,q4]⟩,λx p=> .inl p,λx p aa=>by
   have:x≠r:=λe=>aa ((C.1 x).2 (.inr e));rw[yW (Ne.symm this)]⟩
  have:=C x l1 s _ hl u1 u2 (λw' A=>by
   have:=run_entry_at (P:=P) w' r b g seen es g e (by rw[A.heap];exact s2) (by rw[A.heap,s1];exact J) (by
    have:e∈(leftOf es seen).toList:=he;unfold leftOf at this;rw[Array.toList_filter] at this;exact(vL.1 this).1) G.1
   rw[this,k.1,k.2])
  rw[k.1,k.2];exact u _ _ (this _ _ (D.put hd _) Z)
def YO {C:World→Prop}{Q:Act→Prop}{v:Value}(c:BT m X=some (.pointer (some ⟨r,0,none⟩))) (g:∀w,C w→(Instr.entry (.pointer (some ⟨r,0,none⟩))).run P w= .ok v w) (hd:Nat.blt d n.1=true)
  (k:QF P ops C Q rest n ((d,v)::m)):QF P ops C Q (⟨some d,.entry X,ty,pos,af,none⟩::rest) n m:=λa b=>
 Dn b hd (λw i=>by simp [execOp,b.eval c,g w i]) k
def St.miMP (g:St S (MI kv vv b r l rem::L) h):St S (MP kv vv b l::L) h:=by
 obtain⟨F,⟨i,p,es,c,d,seen,j,k,m,_⟩,n,o⟩:=g.2;exact⟨g.1,λx=>x=b,⟨λ_=>vZ,es,c,j,k,m⟩,λx a=>n x ((i x).2 (.inl a)),o.mono λx a=>⟨a.1,λe=>a.2 ((i x).2 (.inl e))⟩⟩
end
def Zx {b:Type}{c:Bool}{a y:b}(h:cond c (some a) none=some y):y=a:=by cases c<;>simp_all
def cT {d:Type}(c:Bool) (a b z:Option d):(cond c a b).or z=cond c (a.or z) (b.or z):=by cases c<;>rfl
def X8 {d g:Type}{f:d→Option g}{C:g}{x:d}{l1 b:List d}{K:Option g}{r:g}(c:∀e y,f e=some y→y=C) (E:cond ((l1++x::b).all λe=>(f e).isNone) K (some C)=some r):(f x).or (cond ((l1++b).all λe=>(f e).isNone) K (some C))=some r:=by
 cases a:f x with
 |none=>
  rw[Option.none_or];rw[List.all_append,List.all_cons,a] at E;rw[List.all_append];simpa using E
 |some y=>
  have:=c x y a;subst this;rw[List.all_append,List.all_cons,a] at E;simpa using E
def cJ:List Nat→Nat→List HP→Option (List HP)
 |[],m,L=>some (L.drop m)
 |i::is,m,L=>match L[i]? with
  |some H=>match cJ is m (L.eraseIdx i) with
   |some r=>some (H::r)
   |none=>none
  |none=>none
def Wl:∀{L:List HP}{i:Nat}{H:HP},L[i]? =some H→PI L H (L.eraseIdx i)
 |[],i,H,h=>by simp at h
 |K::L,0,H,h=>by
  simp only[wW,vB] at h;subst h;exact .head
 |K::L,i+1,H,h=>by
  simp only[wP] at h;exact .tail (Wl h)
def Sp.dropn {S:Nat→Prop}{h:AW}:∀(m:Nat) {L:List HP}{A:Nat→Prop},Sp S L h A→Sp S (L.drop m) h A
 |0,L,A,k=>k
 |m+1,[],A,k=>k
 |m+1,H::L,A,⟨F,_,_,k⟩=>Sp.dropn m (k.mono λb a=>a.1)
def Sp.sel {S:Nat→Prop}{h:AW}:∀(is:List Nat) {m:Nat}{L a:List HP}{A:Nat→Prop},cJ is m L=some a→Sp S L h A→Sp S a h A
 |[],m,L,a,A,e,k=>by cases e;exact k.dropn m
 |i::is,m,L,a,A,e,k=>by
  simp only[cJ] at e;split at e
  ·rename_i H b;split at e
   ·rename_i r c;cases e;obtain⟨F,d,g,j⟩:=Sp.pick (Wl b) k;exact⟨F,d,g,Sp.sel is c j⟩
   ·cases e
  ·cases e
def St.sel {S:Nat→Prop}{h:AW}{L a:List HP}(b:St S L h) (is:List Nat) (m:Nat) (e:cJ is m L=some a):St S a h:=⟨b.1,Sp.sel is e b.2⟩
abbrev IV (B:World) (S:Nat→Prop) (h:AW) (n:FN) (a:Act) (w:World) (m:SM) (L:List HP) (F:(Nat→Prop)→AW→Prop):Prop:=∃(S':Nat→Prop) (h':AW),Fr n a m∧Wd B h' w∧St S' L h'∧CB S h S' h'∧F S' h'
def Wn {vs:List Value}(h:vs.all (·.oneCell')=true):∀u∈vs,u.oneCell'=true:=λu a=>tS.1 h u a
section
variable {P:Program}{ops:Array Oper}{Q:Exit→Act→World→Prop}{n:FN}{m:SM}{rest:List Oper}
variable {d:Nat}{ty:TypeId}{pos:String}{af:Array Edge}{X Y:Operand}{B:World}{h:AW}{S:Nat→Prop}{L L2:List HP}{v:Value}
def E5 {T d:TypeId}{b o:Nat}{cs vs cs':List Value}{sz:Nat}{ag:Bool}(g:BT m X=some (.pointer (some ⟨b,o,none⟩))) (i:BT m Y=some v) (j:v.cells=vs.toArray) (l:vs.all (·.oneCell')=true)
  (p:Jd P T sz ag=true) (c:vs.length=sz) (q:St S L h) (r:MX L (Bx b d cs) (Bx b d cs') L2) (a:Nat.ble (o+sz) cs.length=true) (s:IY cs o vs=cs')
  (k:∀h',St S L2 h'→CB S h S h'→LF P ops Q rest B h' n m):LF P ops Q (⟨none,.store T X Y,ty,pos,af,none⟩::rest) B h n m:=SZ g i j (Wn l) p c q r a s k
def Cu {T c:TypeId}{b:Nat}{cs vs:List Value}{sz:Nat}{ag:Bool}(d:BT m X=some (.pointer (some ⟨b,0,none⟩))) (g:BT m Y=some v) (i:v.cells=vs.toArray) (j:vs.all (·.oneCell')=true)
  (l:Jd P T sz ag=true) (a:Nat.beq vs.length sz=true) (o:St S L h) (r:MX L (Bx b c cs) (Bx b c vs) L2) (p:Nat.beq cs.length sz=true)
  (k:∀h',St S L2 h'→CB S h S h'→LF P ops Q rest B h' n m):LF P ops Q (⟨none,.store T X Y,ty,pos,af,none⟩::rest) B h n m:=by
 have q:=tV a;have s:=tV p;refine SZ d g i (Wn j) l q o r (by simp [s]) ?_ k;unfold IY;rw[wX (by omega)];simp
end
section
variable {P:Program}{ops:Array Oper}{C:World→Prop}{Q:Act→Prop}{n:FN}{m:SM}{rest:List Oper}{v:Value}
variable {d:Nat}{ty:TypeId}{pos:String}{af:Array Edge}{X Y:Operand}{h:AW}{S:Nat→Prop}{L:List HP}{t:TypeId}
def Nm {T b o:Nat}{cs:List Value}(g:CK C h) (i:St S L h) (j:BT m X=some (.pointer (some ⟨b,o,none⟩))) (l:Bx b T cs∈L) (c:cs[o]? =some v) (p:Jd P t 1 false=true) (hd:Nat.blt d n.1=true)
  (k:QF P ops C Q rest n ((d,v)::m)):QF P ops C Q (⟨some d,.load t X,ty,pos,af,none⟩::rest) n m:=by
 have e:(cs.drop o).take 1=[v]:=by
  have a:=(uB.1 c).1;have q:=(uB.1 c).2;rw[yL a,q];simp
 exact Nl (vs:=[v]) g i j l e rfl p rfl hd k
def mS {o:Oper}{j e:Nat}{b:Bool}{u:Value}(p:o.guard=some (j,b)) (q:(ops[j]?).bind (·.dst)=some e) (g:lk m e=some u) (s:yb u≠some b) (i:o.dst=some d) (hd:Nat.blt d n.1=true) (k:QF P ops C Q rest n ((d,undef)::m)):QF P ops C Q (o::rest) n m:=by
 intro a c;have l:Region.wanted o (yielded ops a.tmps)=false:=by
  have:=c.at_ e _ g;cases u<;>simp_all [Region.wanted,yielded,yb]
 unfold wpQuiet;rw[tQ (by rw[l];exact Bool.false_ne_true),i];exact k _ (c.put hd _)
def oQ (a:Op) (m:SM):Option Value:=
 match a with
 | .pick c x y=>match BT m c with
  |some (.bool true)=>BT m x
  |some (.bool false)=>BT m y
  |_=>none
 |_=>none
def QY (ops:Array Oper) (k:Nat):List Oper→SM→Option SM
 |[],m=>some m
 |o::r,m=>match o.guard,o.dst with
  |some (j,b),some d=>match (ops[j]?).bind (·.dst) with
   |some e=>match lk m e with
    |some u=>match yb u,b with
     |some true,true=>match oQ o.op m with
      |some v=>cond (Nat.blt d k) (QY ops k r ((d,v)::m)) none
      |none=>none
     |some false,false=>match oQ o.op m with
      |some v=>cond (Nat.blt d k) (QY ops k r ((d,v)::m)) none
      |none=>none
     |_,_=>cond (Nat.blt d k) (QY ops k r ((d,undef)::m)) none
    |none=>none
   |none=>none
  |none,some d=>match oQ o.op m with
   |some v=>cond (Nat.blt d k) (QY ops k r ((d,v)::m)) none
   |none=>none
  |_,none=>none
def NH {a:Type}{c:Bool}{x:Option a}{y:a}(h:cond c x none=some y):c=true∧x=some y:=by cases c<;>simp_all
def WR {u:Value}{b:Bool}(h:yb u=some b):u= .bool b:=by
 cases u<;>simp_all [yb]
def WC {o:Oper}{d:Nat}{v:Value}(c:o.guard=none) (hd:o.dst=some d) (a:oQ o.op m=some v) (g:Nat.blt d n.1=true) (k:QF P ops C Q rest n ((d,v)::m)):QF P ops C Q (o::rest) n m:=by
 obtain⟨j,l,p,i,q,s⟩:=o;simp only at c hd a;subst c hd;unfold oQ at a;split at a
 ·split at a
  ·rename_i b;exact QK b a g k
  ·rename_i b;exact QK b a g k
  ·cases a
 ·cases a
def Nk:∀{l:List Oper}{m p:SM},QY ops n.1 l m=some p→QF P ops C Q [] n p→QF P ops C Q l n m
 |[],m,p,h,k=>by cases h;exact k
 |o::r,m,p,h,k=>by
  simp only[QY] at h;split at h
  ·rename_i j b d g hd;split at h
   ·rename_i e s;split at h
    ·rename_i u t;split at h
     ·rename_i w;split at h
      ·rename_i v i;obtain⟨a,c⟩:=NH h;have:=WR w;subst this;exact XV g s t (WC rfl hd i a (Nk c k))
      ·cases h
     ·rename_i w;split at h
      ·rename_i v i;obtain⟨a,c⟩:=NH h;have:=WR w;subst this;exact XV g s t (WC rfl hd i a (Nk c k))
      ·cases h
     ·rename_i x y;obtain⟨a,c⟩:=NH h;refine mS g s t (λz=>?_) hd a (Nk c k);generalize A:yb u=zz at*
      subst z;revert x y;intro x y;exact Bool.rec (motive:=λq=>(some q=some true→q=true→False)→(some q=some false→q=false→False)→False) (λ_ h=>h rfl rfl) (λh _=>h rfl rfl) _ x y
    ·cases h
   ·cases h
  ·rename_i d g hd;split at h
   ·rename_i v i;obtain⟨a,c⟩:=NH h;exact WC g hd i a (Nk c k)
   ·cases h
  ·cases h
def A0 {b:SM}(c:oU (b.map (·.1)) m=some b):QF P ops C (λa=>Fr n a b) [] n m:=eH (kp _ c)
def BF {l:List Oper}{c b:SM}(h:QY ops n.1 l m=some c) (d:oU (b.map (·.1)) c=some b):QF P ops C (λa=>Fr n a b) l n m:=Nk h (A0 d)
end
section
variable {P:Program}{ops:Array Oper}{Q:Act→Prop}{n:FN}{m:SM}{rest:List Oper}{d:Nat}{ty:TypeId}{pos:String}{af:Array Edge}{X:Operand}{v:Value}{Ψ:Prop}{f:Nat}{xs:Array Operand}{tys:Array TypeId}{args vs:List Value}{first cap:Array Value}{h:AW}{B:World}{Z:(Nat→Prop)→AW→Prop}
def Kt (i:BT m X=some (.func (.func f) first cap)) (a:xs.toList.mapM (BT m)=some args) (c:first.toList++args++cap.toList=vs) (g:BJ P f=true) (hd:Nat.blt d n.1=true)
  (j:∀h',C5 h h'→B0 P f vs.toArray (λb=>b<h'.size) h' (λu S' l=>u=v∧Z S' l))
  (k:QF P ops (Cl B h) Q rest n ((d,v)::m)):QF P ops (Cl B h) Q (⟨some d,.call ⟨.value X,xs,tys⟩,ty,pos,af,none⟩::rest) n m:=
 IW (Ψ:=True) i a c g hd (λh' o=>(j h' o).mono λ_ _ _ _ p=>⟨p.1,trivial⟩) λ_=>k
def Pq (i:BT m X=some (.func (.func f) first cap)) (a:xs.toList.mapM (BT m)=some args) (c:first.toList++args++cap.toList=vs) (g:BJ P f=true) (hd:Nat.blt d n.1=true)
  (j:∀h',C5 h h'→B0 P f vs.toArray (λb=>b<h'.size) h' (λu S' l=>u=v∧Ψ∧Z S' l))
  (k:Ψ→QF P ops (Cl B h) Q rest n ((d,v)::m)):QF P ops (Cl B h) Q (⟨some d,.call ⟨.value X,xs,tys⟩,ty,pos,af,none⟩::rest) n m:=
 IW i a c g hd (λh' o=>(j h' o).mono λ_ _ _ _ p=>⟨p.1,p.2.1⟩) k
end
def iq {n:Int}(h:(decide (-9223372036854775808≤n)&&decide (n≤9223372036854775807))=true):AA n:=by
 simp only[tO,uF] at h;exact h
def Je {n:Nat}(h:n≤maxLen):AA (n:Int):=by unfold maxLen at h;unfold AA;omega
section
variable {P:Program}{fn:Func}{B:World}{S S':Nat→Prop}{h h':AW}{post:Value→(Nat→Prop)→AW→Prop}{a:Act}{m:SM}{w:World}
def TC {k t:Nat}{v:Value}(b:Fr (k,[]) a m) (c:Wd B h' w) (d:fn.results= #[.tmp t]) (g:lk m t=some v) (e:CB S h S' h') (kp:post v S' h'):Rt P fn B S h post a w:=rt1 b d g c e kp
end
abbrev XR:=(Nat→Prop)→AR
def XO (ops:Array Oper) (As:List Nat) (c:Array Bool) (a:Act):Nat→Prop:=λb=>∃i d u,i∈As∧c.getD i false=true∧D6 ops i=some d∧a.tmps[d]? =some u∧NK u=some b
def qI (a:List Nat) (f:Nat→Option Value) (X:Nat→Prop):Prop:=∀s,s∈a→∀u,f s=some u→∀b,NK u=some b→X b
structure gI (B:World) (h0:AW) (n:FN) (m:SM) (ops:Array Oper) (ks As:List Nat) (R:XR) (listed:Array Bool) (a:Act) (w:World):Prop where
 ex:∃h,Wd B h w∧C5 h0 h∧Fr n a m∧∀i,i∉ks→listed.getD i false=true→∃d v,D6 ops i=some d∧a.tmps[d]? =some v∧R (XO ops As listed a) i v h
 dis:∀i,i∈As→∀j,j∈As→i≠j→listed.getD i false=true→listed.getD j false=true→∀d d' u u',D6 ops i=some d→D6 ops j=some d'→a.tmps[d]? =some u→a.tmps[d']? =some u'→∀b b',NK u=some b→NK u'=some b'→b≠b'
def qV (R:AR) (As:List Nat) (i:Nat) (h:AW) (v:Value) (h':AW):Prop:=R i v h'∧(As.contains i=true→Tc h v)
def WO (P:Program) (ops:Array Oper) (Q:Exit→Act→World→Prop) (B:World) (n:FN) (m:SM) (h0:AW) (R:XR) (As:List Nat) (i:Nat) (o:Oper) (d:Nat) (c:List (Nat×Nat)):Prop:=
 ∀X mt h,C5 h0 h→(∀b,X b→h0.size≤b∧b<h.size)→PA (R X) h (λfr=>match o.guard with
  |none=>LF P ops (Exit.then (KS B n d (qV (R X) As i h) h (fr++(m++mt))) Q) [o] B h n (fr++(m++mt))
  |some (g,b)=>∃a,D6 ops g=some a∧((lk fr a=some (.bool b)∧LF P ops (Exit.then (KS B n d (qV (R X) As i h) h (fr++(m++mt))) Q) [{ o with guard:=none}] B h n (fr++(m++mt)))∨∃v,lk fr a=some v∧yb v≠some b∧R X i undef h)) c []
section
variable {P:Program}{ops:Array Oper}{Q:Exit→Act→World→Prop}
def aM {B:World}{h0:AW}{n:FN}{m:SM}{R:XR}(ks As:List Nat) (ba:∀X i,i∈As→∀v h,R X i v h→∃b,NK v=some b∧h0.size≤b∧b<h.size) (b7:∀i,i∈As→∀X X' v h,R X i v h→R X' i v h) (bn:∀t,t∈ks→t<ops.size) (bo:ks.Nodup) (hb:Lu ops=true)
  (F:List Nat) (bp:ks=[]∨Qz ops ks F=true) (bb:Lm ops ks) (b8:Ng ops ks=true) (bq:Region.noSelect ops=true) (hQ:∀c a w,¬Q (.panic c) a w)
  (b9:∀f,f∈F→f∉As) (hF:∀f,f∈F→(f<ops.size∧f∉ks)∧Lt ops f=true∧∃o d ps,ops[f]? =some o∧o.dst=some d∧QP ops o ps=true∧∀X,Ny P ops n m h0 (R X) f o ps)
  (a3:U5 ops ks n (m.map (·.1))=true)
  (am:∀i v h h' X X',C5 h0 h→C5 h h'→(∀b,X b→X' b)→(∀b,X' b→X b∨h.size≤b)→R X i v h→R X' i v h')
  (V:∀i,i∈As→i∉ks) (step:∀i o d,i∉ks→ops[i]? =some o→o.dst=some d→∃ps,QP ops o ps=true∧WO P ops Q B n m h0 R As i o d ps)
  (br:∀a w h X,Wd B h w→C5 h0 h→Fr n a m→(∀b,X b→h0.size≤b∧b<h.size)→(∀i,i<ops.size→i∉ks→∃d v,D6 ops i=some d∧a.tmps[d]? =some v∧R X i v h)→bV (T4 ops As) (λs=>a.tmps[s]?)→qI (T4 ops As) (λs=>a.tmps[s]?) X→wpList P ops Q (ks.filterMap λt=>ops[t]?) a w):
  ∀(C:Nat) (k:Array Bool) (a:Act) (w:World),Pw k=C→Qv ops ks k→gI B h0 n m ops ks As R k a w→wpAny P .any ops Q C k a w:=by
 intro C;have an:∀(k:Array Bool) (a:Act) (w:World),gI B h0 n m ops ks As R k a w→(∀i,i<ops.size→i∉ks→k.getD i false=true)→bV (T4 ops As) (λs=>a.tmps[s]?):=by
  intro k a w ai U s hs s' ca J u u' e e';obtain⟨i,I,hd⟩:=xW.1 hs;obtain⟨j,hj,H⟩:=xW.1 ca;have lt:∀i d,D6 ops i=some d→i<ops.size:=λi d y=>by
   unfold D6 at y;cases K:ops[i]? with
   |none=>rw[K] at y;cases y
   |some oj=>exact(uH.1 K).1
  exact ai.dis i I j hj (λe=>J (by subst e;rw[hd] at H;exact tN H)) (U i (lt _ _ hd) (V i I)) (U j (lt _ _ H) (V j hj)) _ _ _ _ hd H e e'
 have cb:∀i d,D6 ops i=some d→i<ops.size:=λi d y=>by
  unfold D6 at y;cases K:ops[i]? with
  |none=>rw[K] at y;cases y
  |some oj=>exact(uH.1 K).1
 have bs:∀(X:Nat→Prop) (k:Array Bool) (a:Act) (h:AW),(∀i,i∉ks→k.getD i false=true→∃d v,D6 ops i=some d∧a.tmps[d]? =some v∧R X i v h)→∀b,XO ops As k a b→h0.size≤b∧b<h.size:=by
  rintro X k a h g4 b ⟨i,d,u,I,U,hd,hu,aj⟩;obtain⟨d',v,y,M,q3⟩:=g4 i (V i I) U;rw[hd] at y;cases y;rw[hu] at M;cases M;obtain⟨b',e1,e2⟩:=ba _ i I _ _ q3;rw[aj] at e1;cases e1;exact e2
 have a4:∀(k:Array Bool) (a:Act),(∀i,i<ops.size→i∉ks→k.getD i false=true)→qI (T4 ops As) (λs=>a.tmps[s]?) (XO ops As k a):=by
  intro k a U s hs u e b D;obtain⟨i,I,hd⟩:=xW.1 hs;exact⟨i,s,u,I,U i (cb _ _ hd) (V i I),hd,e,D⟩
 induction C with
 |zero=>
  intro k a w hu G ai;have Z:∀i,k.getD i true=true:=λi=>OH hu;obtain⟨h,g1,g2,g3,g4⟩:=ai.ex;have hX:=bs _ _ _ _ g4;have z:∀i,i<ops.size→i∉ks→k.getD i false=true:=λi W l=>by
   have h2:=Z i;have:i<k.size:=by rw[G.size];exact W
   simpa [this] using h2
  have hf:=br a w h _ g1 g2 g3 hX (λi W l=>g4 i l (z i W l)) (an _ _ _ ai z) (a4 _ _ z);exact II hb ks 0 k a w hu G.size (λi _ _=>Z i) (λt ht=>⟨bn t ht,G.tail t ht⟩) bb bo hf
 |succ C ih=>
  intro k a w hu G ai;obtain⟨h,g1,g2,g3,g4⟩:=ai.ex;have hX:=bs _ _ _ _ g4;by_cases Z:∀i,i<ops.size→i∉ks→k.getD i true=true
  ·have z:∀i,i<ops.size→i∉ks→k.getD i false=true:=λi W l=>by
    have h2:=Z i W l;have:i<k.size:=by rw[G.size];exact W
    simpa [this] using h2
   have hf:=br a w h _ g1 g2 g3 hX (λi W l=>g4 i l (z i W l)) (an _ _ _ ai z) (a4 _ _ z);exact II hb ks (C+1) k a w hu G.size Z (λt ht=>⟨bn t ht,G.tail t ht⟩) bb bo hf
  ·have bt:∀j,k.getD j false=true→j∉ks:=λj hj cc=>by
    have:=getD_both (G.tail j cc);rw[hj] at this;cases this
   have ac:∀i o,i∈Region.ready .any ops k→ops[i]? =some o→∀ps,QP ops o ps=true→∀p∈ps,∃v,a.tmps[p.2]? =some v∧R (XO ops As k a) p.1 v h:=by
    intro i o I ho ps ao p hp;obtain⟨ax,o',ap,a5⟩:=mem_ready.1 I;have:o'=o:=tN (ap.symm.trans ho);subst this;have A:=tS.1 ao p hp;simp only[tO] at A;have hj:p.1∈Kb o':=by simpa using A.1
    obtain⟨e,he,cd⟩:=uX.1 hj;obtain⟨ce,cf⟩:=vL.1 he;have cg:e∈o'.after:=by simpa using ce
    have h3:=a5 e cg cf;rw[cd] at h3;obtain⟨d',v,y,M,q3⟩:=g4 p.1 (bt _ h3) h3;have h2:=A.2;rw[y] at h2;have:p.2=d':=tV (by simpa using h2);exact⟨v,by rw[this];exact M,q3⟩
   have aq:∀i o d,i∉ks→i∈Region.ready .any ops k→ops[i]? =some o→o.dst=some d→∀v w' h',Wd B h' w'→C5 h h'→R (XO ops As k a) i v h'→(i∈As→Tc h v)→wpAny P .any ops Q C (k.setIfInBounds i true) (a.put (some d) v) w':=by
    intro i o d l I ho ad v w' h' ch ap hr ae;obtain⟨ax,oo,ci,_⟩:=mem_ready.1 I;have ar:i<ops.size:=(uH.1 ci).1;have hd:D6 ops i=some d:=by unfold D6;rw[ho];exact ad
    have q:=tS.1 a3 i (uG.2 ar);rw[hd] at q;simp only[tO,uI,tS,uG,uD,tW,l,vF] at q;obtain⟨⟨ay,bc⟩,be⟩:=q;have au:d+1≤n.1:=by simpa [Nat.blt] using ay
    have ah:d<n.1:=au;have av:(a.put (some d) v).tmps[d]? =some v:=by
     simp only[Act.put,vE];have:=g3.siz;simp [this,ah]
    have af:∀j dj,D6 ops j=some dj→j≠i→j∉ks→(a.put (some d) v).tmps[dj]? =a.tmps[dj]? :=by
     intro j dj y e hj;have bf:j<ops.size:=by
      unfold D6 at y;cases K:ops[j]? with
      |none=>rw[K] at y;cases y
      |some oj=>exact(uH.1 K).1
     have A:=be j bf;rw[y] at A;have J:d≠dj:=by
      rcases A with (A|A)|A
      ·exact absurd A hj
      ·exact absurd (tV A).symm e
      ·intro e';subst e';simp at A
     simp only[Act.put,vE];rw[tQ J]
    have a6:∀j,j∈As→j≠i→(k.setIfInBounds i true).getD j false=true→i∈As→∀dj u,D6 ops j=some dj→(a.put (some d) v).tmps[dj]? =some u→∀b b',NK v=some b→NK u=some b'→b≠b':=by
     intro j hj e U az dj u y M b1 b2 z1 z2;rw[getD_set_ne false (λx=>e x.symm)] at U;rw[af j dj y e (V j hj)] at M;obtain⟨cw,vj,p1,p2,p3⟩:=g4 j (V j hj) U;rw[y] at p1;cases p1;rw[M] at p2;cases p2;obtain⟨b,e1,_,e2⟩:=ba _ j hj _ _ p3;obtain⟨b',e3,e4⟩:=ae az;rw[z1] at e3;rw[z2] at e1;cases e3;cases e1;omega
    have bu:∀j,k.getD j false=true→j≠i:=λj U e=>by
     subst e;rw[getD_both ax] at U;cases U
    have up:∀b,XO ops As k a b→XO ops As (k.setIfInBounds i true) (a.put (some d) v) b:=by
     rintro b ⟨i',d',u,Y,ak,H,aa,aj⟩;exact⟨i',d',u,Y,by rw[getD_set_ne false (λx=>bu i' ak x.symm)];exact ak,H,by rw[af i' d' H (bu i' ak) (V i' Y)];exact aa,aj⟩
    have a7:∀b,XO ops As (k.setIfInBounds i true) (a.put (some d) v) b→XO ops As k a b∨(i∈As∧h.size≤b):=by
     rintro b ⟨i',d',u,Y,ak,H,aa,aj⟩;by_cases e:i'=i
     ·subst e;rw[hd] at H;cases H;rw[av] at aa;cases aa;obtain⟨b',e1,e2⟩:=ae Y;rw[aj] at e1;cases e1;exact .inr ⟨Y,e2⟩
     ·rw[getD_set_ne false (λx=>e x.symm)] at ak;rw[af i' d' H e (V i' Y)] at aa;exact .inl ⟨i',d',u,Y,ak,H,aa,aj⟩
    have cj:R (XO ops As (k.setIfInBounds i true) (a.put (some d) v)) i v h':=by
     by_cases az:i∈As
     ·exact b7 i az _ _ _ _ hr
     ·exact am _ _ _ _ _ _ (g2.trans ap) (C5.refl h') up (λb D=>(a7 b D).imp_right λx=>absurd x.1 az) hr
    refine ih _ _ _ (by have:=J8 ax;omega) (G.set I l) ⟨⟨h',ch,g2.trans ap,?_,λj hj U=>?_⟩,λi1 a0 j1 a1 a8 bg bh d1 d2 u1 u2 y M q3 q4=>?_⟩
    rotate_left 2
    ·by_cases e:i1=i
     ·subst e;rw[hd] at y;cases y;rw[av] at q3;cases q3;exact a6 j1 a1 (λe=>a8 e.symm) bh a0 d2 u2 M q4
     ·by_cases e':j1=i
      ·subst e';rw[hd] at M;cases M;rw[av] at q4;cases q4;exact λb b' z1 z2 e2=>a6 i1 a0 e bg a1 d1 u1 y q3 b' b z2 z1 e2.symm
      ·rw[af i1 d1 y e (V i1 a0)] at q3;rw[af j1 d2 M e' (V j1 a1)] at q4;rw[getD_set_ne false (λx=>e x.symm)] at bg;rw[getD_set_ne false (λx=>e' x.symm)] at bh;exact ai.dis i1 a0 j1 a1 a8 bg bh d1 d2 u1 u2 y M q3 q4
    ·have hp:=g3.put ay v;refine⟨hp.dfr,hp.siz,λi' u Y=>hp.at_ i' u ?_⟩;have J:Nat.beq d i'=false:=by
      cases D:Nat.beq d i' with
      |false=>rfl
      |true=>
       have:=tV D;subst this;have A:=R7 Y;rw[←tW] at A;rw[A] at bc;cases bc
     simp only[lk,J,tM];exact Y
    ·by_cases e:i=j
     ·subst e;refine⟨d,v,hd,?_,cj⟩;simp only[Act.put,vE];have:=g3.siz;simp [this,ah]
     ·rw[getD_set_ne false e] at U;obtain⟨dj,vj,y,M,q3⟩:=g4 j hj U;refine⟨dj,vj,y,?_,am _ _ _ _ _ _ g2 ap up (λb D=>(a7 b D).imp_right (·.2)) q3⟩;have bf:j<ops.size:=by
       unfold D6 at y;cases K:ops[j]? with
       |none=>rw[K] at y;cases y
       |some oj=>exact(uH.1 K).1
      have A:=be j bf;rw[y] at A;have J:d≠dj:=by
       rcases A with (A|A)|A
       ·exact absurd A hj
       ·exact absurd (tV A) e
       ·intro e';subst e';simp at A
      simp only[Act.put,vE];rw[tQ J];exact M
   by_cases bv:∃f,f∈F∧f∈Region.ready .any ops k
   ·obtain⟨f,bw,a2⟩:=bv;obtain⟨ck,bi,o,d,ps,ho,ad,ao,cl⟩:=hF f bw;obtain⟨fr,hK,ae⟩:=JA (a:=a) (n:=n) _ _ (cl (XO ops As k a) (Gl a) h g2) (ac f o a2 ho ps ao) ⟨g3.dfr,g3.siz,λi v I=>by simp [lk] at I⟩;obtain⟨v,hy,hr⟩:=hK a (ae.append (g3.append g3.full));refine wpAny_first ho (Region.noSelect_spec bq) (λc a w hq=>absurd hq (hQ c _ w)) C k a w (λj oj hj J bx bj=>?_) a2 hy ?_
    ·have A:=tS.1 bi j (uG.2 (uH.1 hj).1);simp only[ho,hj,uD,beq_iff_eq,J,vF] at A;rcases A with A|A
     ·obtain⟨cm,bz,e,he,D,bk⟩:=Region.waitsFor_spec A;have:cm=oj:=tN (bz.symm.trans hj);subst this;exact absurd bk (bj e he D)
     ·rcases A with A|A
      ·obtain⟨cn,b0,e,he,D,bk⟩:=Region.waitsFor_spec A;obtain⟨_,co,b3,z⟩:=mem_ready.1 a2;have:cn=co:=tN (b0.symm.trans b3);subst this;have h5:=z e he D;rw[bk,getD_both bx] at h5;cases h5
      ·exact A
    ·rw[ad];exact aq f o d ck.2 a2 ho ad v w h g1 (C5.refl h) hr (λhA=>absurd hA (b9 f bw))
   have b4:∃k0,k0<ops.size∧k0∉ks∧k.getD k0 true=false∧k0∉F:=by
    obtain⟨k1,cu,cp,cq⟩:∃k1,k1<ops.size∧k1∉ks∧k.getD k1 true=false:=by
     apply wY;intro bj;refine Z λi W l=>?_;cases U:k.getD i true with
     |true=>rfl
     |false=>exact absurd ⟨i,W,l,U⟩ bj
    obtain⟨i0,y,M,q3⟩:=Kf (p:=λi=>k.getD i true||ks.contains i) k1 (by simp [cq,cp]);simp only[uS] at M;have ag:i0<ops.size:=by omega
    have a9:i0∉ks:=λh=>by rw[tW.2 h] at M;cases M.2
    refine⟨i0,ag,a9,M.1,λhf=>bv ⟨i0,hf,mem_ready.2 ⟨M.1,ops[i0],by simp [ag],λe he b5=>?_⟩⟩⟩;have h4:=tS.1 hb i0 (uG.2 ag);have h5:ops[i0]? =some ops[i0]:=by simp [ag]
    rw[h5] at h4;simp only[wK,vK,wL] at h4;have h6:=h4 e he;simp only[b5,uP,wC,uF] at h6;have h7:=q3 e.on h6;have h9:=tS.1 b8 i0 (uG.2 ag);simp only[uD,tW,a9,vF,h5,wK,vK,wL] at h9;have al:=h9 e he;simp only[b5,uP,wC,uI] at al;rcases al with al|al
    ·cases al
    rw[al,Bool.or_false] at h7;have h8:e.on<k.size:=by rw[G.size];omega
    simp only[vQ,xC h8,vK] at h7 ⊢;exact h7
   have ⟨cx,bl,cv,b6,_⟩:=b4;obtain⟨i0,_,cr,_⟩:=IJ hb G.size bl b6;refine⟨λh0=>absurd (h0▸cr) (by simp),λi I=>?_⟩;obtain⟨ax,o,ho,a5⟩:=mem_ready.1 I;have ar:i<ops.size:=(uH.1 ho).1;have l:i∉ks:=λl=>by
    rcases bp with hc|hc
    ·rw[hc] at l;cases l
    ·obtain⟨k0,y,M,q3,q4⟩:=b4;exact OI hc bb G _ k0 rfl y M q4 (getD_in (by rw[G.size];exact y) (by
      cases U:k.getD k0 false with
      |false=>rfl
      |true=>rw[getD_both q3] at U;cases U)) i l I
   have q:=tS.1 a3 i (uG.2 ar);cases hd:D6 ops i with
   |none=>rw[hd] at q;simp only[tW,l,uD,vF] at q;cases q
   |some d=>
   rw[hd] at q;simp only[tO,uI,tS,uG,uD,tW,l,vF] at q;obtain⟨⟨ay,bc⟩,be⟩:=q;have au:d+1≤n.1:=by simpa [Nat.blt] using ay
   have ah:d<n.1:=au;have ad:o.dst=some d:=by unfold D6 at hd;rw[ho] at hd;exact hd
   obtain⟨ps,ao,bm⟩:=step i o d l ho ad;have aw:=ac i o I ho ps ao;obtain⟨fr,hK,ae⟩:=JA (a:=a) (n:=n) _ _ (bm (XO ops As k a) (Gl a) h g2 hX) aw ⟨g3.dfr,g3.siz,λi v I=>by simp [lk] at I⟩;have ab:Fr n a (fr++(m++Gl a)):=ae.append (g3.append g3.full);have cs:∀i u,a.tmps[i]? =some u→lk (fr++(m++Gl a)) i=some u:=by
    intro i u hu;have U:lk (Gl a) i=some u:=by
     have:i<a.tmps.size:=(uH.1 hu).1;rw[Oz this];simp [vQ,hu]
    have ct:∃u',lk (fr++(m++Gl a)) i=some u':=by
     rw[IC,IC,U];cases lk fr i with
     |some x=>exact⟨x,by simp⟩
     |none=>cases lk m i with
      |some x=>exact⟨x,by simp⟩
      |none=>exact⟨u,by simp⟩
    obtain⟨u',aa⟩:=ct;have:=ab.at_ i u' aa;rw[hu] at this;rw[aa,←tN this]
   have next:=aq i o d l I ho ad
   have conv:∀a' w',KS B n d (qV (R (XO ops As k a)) As i h) h (fr++(m++Gl a)) a' w'→wpAny P .any ops Q C (k.setIfInBounds i true) a' w':=by
    rintro a' w' ⟨v,h',f1,f2,f3,f4⟩;have:=Fr.same ah ab f1 λi u I hu=>by
     have J:Nat.beq d i=false:=by
      cases D:Nat.beq d i with
      |false=>rfl
      |true=>exact absurd (tV D).symm I
     simp only[lk,J,tM];exact cs i u hu
    subst this;exact next v w' h' f2 f3 f4.1 (λhA=>f4.2 (tW.2 hA))
   unfold wpOp;simp only[ho];cases hg:o.guard with
   |none=>
    rw[hg] at hK;rw[tT (by simp [Region.wanted,hg])];exact(HQ hg (hK a w ab g1)).imp (Oper.wp_mono conv) id
   |some gb=>
    obtain⟨g,b⟩:=gb;rw[hg] at hK;obtain⟨dg,y,hK⟩:=hK;rcases hK with ⟨k1,k2⟩|⟨v,k1,k2,k3⟩
    ·have hy:yielded ops a.tmps g=some b:=Ju ae y k1;rw[tT (by simp [Region.wanted,hg,hy])];exact(L9 (HQ rfl (k2 a w ab g1))).imp (Oper.wp_mono conv) id
    ·have hy:yielded ops a.tmps g≠some b:=by rw[Ju ae y k1];exact k2
     rw[tQ (by simp [Region.wanted,hg,hy]),ad];exact next undef w h g1 (C5.refl h) k3 (λhA=>by obtain⟨b,e,_⟩:=ba _ i hA _ _ k3;cases e)
end
def QO (P:Program) (ops:Array Oper) (ks:List Nat) (n:FN) (m:SM) (h0:AW) (R:XR):List Nat→Prop
 |[]=>True
 |f::F=>((f<ops.size∧f∉ks)∧Lt ops f=true∧∃o d a,ops[f]? =some o∧o.dst=some d∧QP ops o a=true∧∀X,Ny P ops n m h0 (R X) f o a)∧QO P ops ks n m h0 R F
def QO.at_ {P:Program}{ops:Array Oper}{ks:List Nat}{n:FN}{m:SM}{h0:AW}{R:XR}:∀{F:List Nat},QO P ops ks n m h0 R F→∀f,f∈F→(f<ops.size∧f∉ks)∧Lt ops f=true∧∃o d b,ops[f]? =some o∧o.dst=some d∧QP ops o b=true∧∀X,Ny P ops n m h0 (R X) f o b
 |[],_,f,a=>by cases a
 |g::F,⟨c,i⟩,f,a=>by
  rcases uA.1 a with rfl|a
  ·exact c
  ·exact QO.at_ i f a
def QO.cons {P:Program}{ops:Array Oper}{ks:List Nat}{n:FN}{m:SM}{h0:AW}{R:XR}{f d:Nat}{o:Oper}{F:List Nat}(b:List (Nat×Nat)) (a:(Nat.blt f ops.size&& !ks.contains f&&Lt ops f)=true) (g:ops[f]? =some o) (hd:o.dst=some d) (c:QP ops o b=true) (i:∀X,Ny P ops n m h0 (R X) f o b) (t:QO P ops ks n m h0 R F):QO P ops ks n m h0 R (f::F):=by
 simp only[tO,uI] at a;exact⟨⟨⟨(by simpa [Nat.blt] using a.1.1:f+1≤ops.size),λh=>by rw[tW.2 h] at a;cases a.1.2⟩,a.2,o,d,b,g,hd,c,i⟩,t⟩
def CM (P:Program) (ops:Array Oper) (Q:Exit→Act→World→Prop) (B:World) (n:FN) (m:SM) (h0:AW) (R:XR) (ks As:List Nat):Nat→List Oper→List (List (Nat×Nat))→Prop
 |i,o::l,a::pss=>(i∈ks∨match o.dst with|some d=>WO P ops Q B n m h0 R As i o d a|none=>False)∧CM P ops Q B n m h0 R ks As (i+1) l pss
 |_,_,_=>True
section
variable {P:Program}{ops:Array Oper}{Q:Exit→Act→World→Prop}{B:World}{n:FN}{m:SM}{h0:AW}{R:XR}{ks As:List Nat}
def CM.at_:∀{l:List Oper}{pss:List (List (Nat×Nat))}{k i:Nat}{o:Oper}{d:Nat},CM P ops Q B n m h0 R ks As k l pss→l.length=pss.length→k+i∉ks→l[i]? =some o→o.dst=some d→∃a,pss[i]? =some a∧WO P ops Q B n m h0 R As (k+i) o d a
 |[],_,_,_,_,_,_,_,_,h,_=>by simp at h
 |_::_,[],_,_,_,_,_,c,_,_,_=>by simp at c
 |p::l,a::pss,k,0,o,d,g,c,j,b,hd=>by
  simp only[wW,vB] at b;subst b;simp only[CM,hd] at g;exact⟨a,rfl,g.1.resolve_left j⟩
 |p::l,a::pss,k,i+1,o,d,g,c,j,b,hd=>by
  simp only[wP] at b;obtain⟨q,s,t⟩:=CM.at_ (l:=l) (pss:=pss) (k:=k+1) (i:=i) g.2 (by simpa using c) (by rw[show k+1+i=k+(i+1) by omega];exact j) b hd;rw[show k+(i+1)=k+1+i by omega];exact⟨q,by simpa using s,t⟩
def CM.cons {i:Nat}{o:Oper}{l:List Oper}{c:List (Nat×Nat)}{pss:List (List (Nat×Nat))}{d:Nat}(hd:o.dst=some d) (g:As.contains i=false) (j:o.guard=none)
  (h:∀X mt h,C5 h0 h→(∀b,X b→h0.size≤b∧b<h.size)→PA (R X) h (λfr=>LF P ops (Exit.then (KS B n d (R X i) h (fr++(m++mt))) Q) [o] B h n (fr++(m++mt))) c []) (t:CM P ops Q B n m h0 R ks As (i+1) l pss):CM P ops Q B n m h0 R ks As i (o::l) (c::pss):=by
 simp only[CM,hd];refine⟨.inr λX mt p s u=>PA.imp (λfr k=>?_) _ _ (h X mt p s u),t⟩;rw[j];refine λa w x y=>HC (λe a w q=>?_) _ a w (k a w x y);cases e<;>first|exact q|skip
 obtain⟨v,z,A,C,D,F⟩:=q;exact⟨v,z,A,C,D,F,λh=>by rw[g] at h;cases h⟩
def CM.al {i:Nat}{l:List Oper}{pss:List (List (Nat×Nat))}{d T:Nat}{cs:List Value}{ty:TypeId}{a:String}{g:Array Edge}(j:∀X,R X i=Xj h0 T cs) (k:D9 P T=some cs) (hd:Nat.blt d n.1=true) (t:CM P ops Q B n m h0 R ks As (i+1) l pss):CM P ops Q B n m h0 R ks As i (⟨some d,.alloc T,ty,a,g,none⟩::l) ([]::pss):=by
 refine⟨.inr ?_,t⟩;intro X mt h o _;show LF P ops (Exit.then (KS B n d (qV (R X) As i h) h _) Q) _ B h n _
 refine bP (C5.refl h) k hd λv h' p r'=>A9 p ?_;obtain⟨b,e,c,q,s⟩:=r';have u:R X i v h':=by rw[j];exact⟨b,e,vH o.siz c,q,s⟩
 exact⟨u,λ_=>⟨b,by rw[e];rfl,c⟩⟩
def CM.skip {i:Nat}{o:Oper}{l:List Oper}{a:List (Nat×Nat)}{pss:List (List (Nat×Nat))}(h:ks.contains i=true) (t:CM P ops Q B n m h0 R ks As (i+1) l pss):CM P ops Q B n m h0 R ks As i (o::l) (a::pss):=
 ⟨.inl (tW.1 h),t⟩
end
def eP (h0:AW) (R:XR) (i:Nat):Prop:=∃r,(∀X,R X i=r)∧∀v h,r v h→∃b,NK v=some b∧h0.size≤b∧b<h.size
def O3 {h0:AW}{R:XR}:∀i,i∈([]:List Nat)→eP h0 R i:=λi a=>by cases a
def SQ {R:XR}{h:AW}{a T:Nat}{cs:List Value}{l:List Nat}(e:∀X,R X a=Xj h T cs) (t:∀i,i∈l→eP h R i):∀i,i∈a::l→eP h R i:=λi c=>by
 rcases uA.1 c with rfl|c
 ·exact⟨_,e,λv h' ⟨b,d,g,j,_⟩=>⟨b,by rw[d];rfl,g,j⟩⟩
 ·exact t i c
section
variable {P:Program}{ex:List (Nat×AP)}{RR N:AP}{cs:List Code}{B:World}{h:AW}{n:FN}{m m0:SM}{S:Nat→Prop}{L:List HP}
def O4 {l:List Oper}{id:Nat}(ks F As:List Nat) (R:XR) (pss:List (List (Nat×Nat))) (fs:List (Nat×Nat)) {ls:List Oper}(hm:P.follows .mixedOrders=true) (hc:YI l.toArray ks F=true) (ms:List Nat) (aa:m.map (·.1)=ms) (H:U5 l.toArray ks n ms=true)
  (A:R4 l.toArray ks l pss=true) (ab:(fs.all λp=>Nat.blt p.1 l.length&& !ks.contains p.1&&(D6 l.toArray p.1).any (Nat.beq p.2 ·))=true) (ac:(ks.filterMap λt=>l[t]?)=ls) (I:Su m0 m)
  (C:∀i v D Y X Z,C5 h D→C5 D Y→(∀b,X b→Z b)→(∀b,Z b→X b∨D.size≤b)→R X i v D→R Z i v Y)
  (ad:(As.all λi=> !ks.contains i&& !F.contains i)=true) (J:∀i,i∈As→eP h R i)
  (hF:QO P l.toArray ks n m h R F)
  (step:CM P l.toArray (Qx ex RR (W P ex RR cs N)) B n m h R ks As 0 l pss)
  (ae:∀h' X,C5 h h'→(∀b,X b→h.size≤b∧b<h'.size)→PA (R X) h' (λfr=>bV (T4 l.toArray As) (lk fr)→qI (T4 l.toArray As) (lk fr) X→LF P l.toArray (Qx ex RR (W P ex RR cs N)) ls B h' n (fr++m)) fs []):WF P ex RR (.region id l.toArray true::cs) N B h n m0:=by
 intro a w K hw;subst aa;simp only[YI,tO,uD,uF] at hc;obtain⟨⟨⟨⟨⟨⟨D,Y⟩,h3⟩,h4⟩,h5⟩,h6⟩,h7⟩:=hc;simp only[R4,tO] at A;have M:l.length=pss.length:=tV A.1;have q:∀i,i∈As→i∉ks∧i∉F:=λi g=>by
  have:=tS.1 ad i g;simp only[tO,uI] at this;exact⟨λh=>(by rw[tW.2 h] at this;cases this.1),λh=>(by rw[tW.2 h] at this;cases this.2)⟩
 refine λrd af=>NY af MG hm (aM (R:=R) (B:=B) (h0:=h) (n:=n) (m:=m) ks As (λX i g v h' Q=>by obtain⟨r,U,e2⟩:=J i g;rw[U] at Q;exact e2 v h' Q) (λi g X Z v h' Q=>by obtain⟨r,U,_⟩:=J i g;rw[U] at Q ⊢;exact Q) (λt ht=>by have:=tS.1 D t ht;simp [Nat.blt] at this ⊢;omega) Y h6 F (h3.imp (λe=>by cases ks with|nil=>rfl|cons _ _=>simp at e) λx=>x) (Jm h4) h5 h7 (λc a w hq=>hq) (λf K hA=>(q f hA).2 K) (λf K=>hF.at_ f K) H C (λi g=>(q i g).1) (λi o d g ho hd=>?_) (λa w h' X g1 g2 g3 gX g4 g5 g6=>?_) _ _ _ _ ?_ ⟨by simp,λj oj _ y=>(by rw[getD_replicate_false] at y;cases y),λt ht=>getD_in (by have:=tS.1 D t ht;simp [Nat.blt] at this ⊢;omega) (getD_replicate_false _ _)⟩ ⟨⟨h,hw.drew,C5.refl h,K.sub I,λi _ y=>(by rw[getD_replicate_false] at y;cases y)⟩,λi _ j _ _ y=>(by rw[getD_replicate_false] at y;cases y)⟩)
 ·have G:l[i]? =some o:=by simpa using ho
  obtain⟨ps,q1,q2⟩:=CM.at_ (k:=0) step M (by rw[uT];exact g) G hd;rw[uT] at q2;refine⟨ps,?_,q2⟩;have ai:i<l.length:=(uB.1 G).1;have hz:((o,ps),i)∈(l.zip pss).zipIdx:=by
   rw[wN];exact⟨i,by rw[yO,(yP (z:=(o,ps))).2 ⟨G,q1⟩];simp⟩
  have:=tS.1 A.2 _ hz;simp only[uD,tW,g,vF] at this;exact this
 ·obtain⟨fr,k1,k2⟩:=JA (a:=a) (n:=n) _ _ (ae h' X g2 gX) (λp hp=>by
   have e:=tS.1 ab p hp;simp only[tO,uI] at e;have U:p.1<l.toArray.size:=by have:=e.1.1;simp [Nat.blt] at this ⊢;omega
   obtain⟨d,v,q1,q2,q3⟩:=g4 p.1 U (λh=>by rw[tW.2 h] at e;cases e.1.2);have e2:=e.2;rw[q1] at e2;have:p.2=d:=tV (by simpa using e2);exact⟨v,by rw[this];exact q2,q3⟩) ⟨g3.dfr,g3.siz,λi v g=>by simp [lk] at g⟩
  have V:(ks.filterMap λt=>l.toArray[t]?)=ls:=by rw[←ac];congr 1;funext t;simp
  rw[V];exact k1 (λs hs s' ag ah u u' e e'=>g5 s hs s' ag ah u u' (k2.at_ _ _ e) (k2.at_ _ _ e')) (λs hs u e=>g6 s hs u (k2.at_ _ _ e)) a w (k2.append g3) g1
 ·unfold Pw;rw[yB];simp
end
def SX (S:Nat→Prop) (h0 h:AW) (X:Nat→Prop):Nat→Prop:=λb=>SN S h0 h b∧¬X b
def SX.mono {S:Nat→Prop}{h0 h h':AW}{X c:Nat→Prop}(d:∀b,S b→b<h0.size) (g:C5 h0 h) (j:C5 h h') (u:∀b,X b→c b) (k:∀b,c b→X b∨h.size≤b):CB (SX S h0 h X) h (SX S h0 h' c) h':=by
 have e:=SN.mono d g j;refine⟨λb a=>⟨e.sub b a.1,λl=>?_⟩,λb a=>e.same b a.1,e.siz⟩;rcases k b l with i|i
 ·exact a.2 i
 ·have:b<h.size:=a.1.elim (λx=>tZ (d b x) g.siz) (·.2);omega
def SX.lt {S:Nat→Prop}{h0 h:AW}{X:Nat→Prop}(a:∀b,S b→b<h0.size) (o:C5 h0 h):∀b,SX S h0 h X b→b<h.size:=λb c=>c.1.elim (λx=>tZ (a b x) o.siz) (·.2)
def Gd {S:Nat→Prop}{L:List HP}{h0 h:AW}{X:Nat→Prop}(a:St S L h0) (o:C5 h0 h):St (SX S h0 h X) [] h:=⟨SX.lt a.1 o,trivial⟩
def SX.ext {S:Nat→Prop}{h0 h:AW}{X:Nat→Prop}(a:∀b,S b→b<h0.size) (o:C5 h0 h) (c:∀b,X b→h0.size≤b∧b<h.size):CB S h0 (SX S h0 h X) h:=
 ⟨λb x=>⟨.inl x,λd=>by have:=a b x;have:=(c b d).1;omega⟩,λb g=>o.same b (a b g),o.siz⟩
def SX.done {S S2:Nat→Prop}{h0 h a:AW}{X:Nat→Prop}(o:C5 h0 h) (j:∀b,X b→h0.size≤b∧b<h.size) (e:CB (SX S h0 h X) h S2 a) (i:St S2 [qJ (SX S h0 h X) h] a):C5 h a∧CB S2 a (SX S h0 a X) a:=by
 obtain⟨F,⟨k,l⟩,m,_⟩:=i.2;refine⟨⟨e.siz,λb c=>?_⟩,λb c=>?_,λ_ _=>rfl,tX _⟩
 ·rcases Classical.em (SX S h0 h X b) with g|g
  ·exact e.same b g
  ·exact l b ⟨c,g⟩
 ·rcases uM b h.size with g|g
  ·rcases Classical.em (SX S h0 h X b) with d|d
   ·exact⟨d.1.imp_right λx=>⟨x.1,i.1 b c⟩,d.2⟩
   ·exact absurd c (m b ((k b).2 ⟨g,d⟩)).2
  ·exact⟨.inr ⟨vH o.siz g,i.1 b c⟩,λn=>by have:=(j b n).2;omega⟩
def VX (S X:Nat→Prop) (h a:AW) (c:List Nat) (L:List HP):Prop:=(∀b,S b→b<h.size)∧C5 h a∧(∀b,b∈c→(h.size≤b∧b<a.size)∧X b)∧Sp (SX S h a X) L a (λb=>(b<h.size∧¬S b)∨b∈c)
def VX.nil {S X:Nat→Prop}{L:List HP}{h d:AW}(a:St S L h) (o:C5 h d) (i:∀b,X b→h.size≤b∧b<d.size):VX S X h d [] L:=
 ⟨a.1,o,λb j=>(by cases j),Sp.ext a.2 (λb x=>(SX.ext a.1 o i).sub b x) (λc g=>o.same c (g.elim (a.1 c) (·.1))) λc g=> .inl g⟩
def VX.cons {S X:Nat→Prop}{L:List HP}{h d:AW}{g:List Nat}{b T:Nat}{cs:List Value}(k:VX S X h d g L) (i:h.size≤b) (j:b<d.size) (l:d[b]? =some (.cells cs.toArray T (0,0))) (m:b∉g) (n:X b):VX S X h d (b::g) (Bx b T cs::L):=by
 obtain⟨o,p,q,s⟩:=k;refine⟨o,p,λc a=>?_,λc=>c=b,⟨λ_=>vZ,l⟩,λc a=>by subst a;exact .inr (uN ..),s.mono λc a=>⟨a.imp_right (uR _),λe=>?_⟩⟩
 ·rcases uA.1 a with rfl|a
  ·exact⟨⟨i,j⟩,n⟩
  ·exact q c a
 ·subst e;rcases a with a|a
  ·have:=a.1;omega
  ·exact m a
def VX.st {S X:Nat→Prop}{L:List HP}{h b:AW}{j:List Nat}(k:VX S X h b j L):St (SX S h b X) L b:=by
 obtain⟨l,g,i,m⟩:=k;refine⟨SX.lt l g,m.mono λc a=>?_⟩;rcases a with a|a
 ·exact⟨tZ a.1 g.siz,λd=>d.1.elim a.2 λx=>by omega⟩
 ·exact⟨(i c a).1.2,λd=>d.2 (i c a).2⟩
def qI.at_ {a:List Nat}{f:Nat→Option Value}{X:Nat→Prop}(k:qI a f X) {s b:Nat}{u:Value}(h:a.contains s=true) (e:f s=some u) (z:NK u=some b):X b:=k s (tW.1 h) u e b z
end Go.Proofs.YtedgiljmffngoaaGreat
