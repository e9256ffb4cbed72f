import Derived.Test.YtabonambpbofgaaGreatNCore18
import Derived.Maps.RangeRun
namespace Go.Proofs.YtabonambpbofgaaGreat
set_option linter.all false
open Go.RowKit
def xM:List Nat→SM→Option SM
 |[],_=>some []
 |k::ks,m=>match lk m k with
  |some v=>match xM ks m with
   |some r=>some ((k,v)::r)
   |none=>none
  |none=>none
def kp:∀{m a:SM}(ks:List Nat),xM ks m=some a→Un m a
 |m,a,[],d=>by cases d;trivial
 |m,a,k::ks,d=>by
  simp only[xM] at d;split at d
  ·rename_i v b;split at d
   ·rename_i r c;cases d;exact⟨b,kp ks c⟩
   ·cases d
  ·cases d
def Z2 {c:Type}(S:Nat→Prop) (d:AS) (r:A5 c) (T:TypeId) (l:List c) (v:Value) (a:AS):Prop:=∃g cap,v= .slice (some ⟨g,0,none⟩) l.length cap∧d.size≤g∧g<a.size∧(OS r T v l).holds S (λb=>b=g) a
def Z2.mono {q:Type}{S:Nat→Prop}{s a c:AS}{r:A5 q}{T:TypeId}{l:List q}{v:Value}(k:Z2 S s r T l v a) (i:∀b,S b→b<s.size) (o:EY a c):Z2 S s r T l v c:=by
 obtain⟨g,cap,j,m,d,n⟩:=k;exact⟨g,cap,j,m,Acv d o.siz,HP.loc _ n (λ_ x=>x) λb p=>o.same b (p.elim (λx=>by have:=i b x;omega) λx=>by subst x;exact d)⟩
def mI {d:Type}{S:Nat→Prop}{i:AS}{r:A5 d}{T:TypeId}{l:List d}:UA (Z2 S i r T l):=λv c ⟨g,_,a,_,b,_⟩=>⟨g,by rw[a];rfl,b⟩
def PY {b:Type}{R:AR}{S:Nat→Prop}{c:AS}{r:A5 b}{a T:Nat}{l:List b}{is:List Nat}(e:R a=Z2 S c r T l) (t:∀i,i∈is→UA (R i)):∀i,i∈a::is→UA (R i):=Wx (by rw[e];exact mI) t
def N9 {u:Type}{S:Nat→Prop}{L:List HP}{w d:AS}{i:List Nat}{r:A5 u}{g T:Nat}{v:Value}{l:List u}(k:W3 S w d i L) (j:w.size≤g) (m:g<d.size) (n:(OS r T v l).holds S (λb=>b=g) d) (o:g∉i):W3 S w d (g::i) (OS r T v l::L):=by
 obtain⟨p,q,s,t⟩:=k;refine⟨p,q,λc a=>?_,λc=>c=g,n,λc a=>by subst a;exact .inr (Ac4 ..),t.mono λc a=>⟨a.imp_right (Adi _),λe=>?_⟩⟩
 ·rcases Acl.1 a with rfl|a
  ·exact⟨j,m⟩
  ·exact s c a
 ·subst e;rcases a with a|a
  ·have:=a.1;omega
  ·exact o a
def Tp {α:Type}{P:Program}{q:Array Oper}{Q:Exit→Act→World→Prop}{n:FN}{m:SM}{p:List Oper}{d:Nat}{ty:TypeId}{s:String}{Y:Array Edge}{B:World}{S:Nat→Prop}{h0 h:AS}{r:A5 α}{T e sz g:Nat}{z:List Value}{zx:α}{len cap:Int}{Z kc:IntKind}{U V:Operand}(he:Nc P T=some (e,sz,g,z)) (t:r.sz=sz) (hz:r.rd S h z zx)
  (hx:B4 m U=some (.int Z len)) (hy:B4 m V=some (.int kc cap)) (u:LU len cap g=true) (y:Nat.blt 0 g=true) (hd:Nat.blt d n.1=true) (o:EY h0 h) (hS:∀b,S b→b<h0.size)
  (k:∀v h',EY h h'→Z2 S h0 r e (List.replicate len.toNat zx) v h'→W2 h v→LF P q Q p B h' n ((d,v)::m)):LF P q Q (⟨some d,.makeSlice T U V,ty,s,Y,none⟩::p) B h n m:=by
 simp only[LU,Acj,Ac1] at u;obtain⟨⟨aa,ab⟩,I⟩:=u;obtain⟨a,rfl⟩:∃a:Nat,len=a:=⟨len.toNat,by omega⟩
 obtain⟨c,rfl⟩:∃c:Nat,cap=c:=⟨cap.toNat,by omega⟩
 have ad:((g*c:Nat):Int)≤140737488355328:=by rw[Int.natCast_mul];exact I
 have J:1≤g:=by simpa [Nat.blt] using y
 have ae:c≤g*c:=Nat.le_mul_of_pos_left _ J;have A:a≤c:=by omega
 have C:c≤maxLen:=by unfold maxLen;omega
 intro ac w M hw;refine wpList_plain rfl λK hK=>?_;unfold Oper.wp;obtain⟨i,zv,h1,h2,h3,h4,h5,h6,h7,h8⟩:=Mc he;have D:=run_make (P:=P) w T e i zv h1 h2 h3 Z kc (a:Int) (c:Int) (by omega) (by omega) (by rw[h5];omega) (by unfold maxLen at C;omega);simp only[Adm,h6,h4] at D;have F:(execOp ac.eval ⟨some d,.makeSlice T U V,ty,s,Y,none⟩).run P w= .ok (.value (.slice (some ⟨w.heap.size,0,none⟩) a c)) (w.alloc (.cells (madeCells z.toArray (c*sz)) e)):=by
  simp [execOp,M.eval hx,M.eval hy,D]
 rw[F];have W:∀b,S b→b<h.size:=λb G=>Acv (hS b G) o.siz;have l:(madeCells z.toArray (c*sz)).toList=(List.replicate c z).flatten:=by rw[←h7];exact NF z c (by omega)
 have X:(OS r e (.slice (some ⟨h.size,0,none⟩) a c) (List.replicate a zx)).holds S (λb=>b=h.size) (h.push (.cells (madeCells z.toArray (c*sz)) e)):=by
  refine .inr ⟨h.size,c,madeCells z.toArray (c*sz),by simp,λ_=>Iff.rfl,MR _ _,by simpa using A,C,by rw[size_madeCells,t],?_⟩;rw[l];have:((List.replicate c z).flatten).take ((List.replicate a zx).length*r.sz)=(List.replicate a z).flatten:=by
   obtain⟨j,rfl⟩:=Nat.exists_eq_add_of_le A;rw[←List.replicate_append_replicate,List.flatten_append,List.length_replicate,t,←h7];have:(List.replicate a z).flatten.length=a*z.length:=by simp
   rw[←this,List.take_left]
  rw[this];exact(SD hz a).mono (λ_ x=>x) λb G=>If _ _ _ (W b G)
 have H:=hw.heap;have:=k (.slice (some ⟨w.heap.size,0,none⟩) a c) (h.push (.cells (madeCells z.toArray (c*sz)) e)) ⟨by simp,λb G=>If _ _ _ G⟩ (by rw[H];exact⟨h.size,c,by simp,o.siz,by simp,by simpa using X⟩) ⟨h.size,by rw[H];rfl,Acr _⟩;exact hK _ _ (this _ _ (M.put hd _) (hw.alloc _))
def zZ:Vr Int:=λ_ _ vs x=>vs=[.int .i64 x]∧AA x
def iP {a:Type}(r:A5 a):Vr (Int×List a):=λS b vs x=>∃v,vs=[.int .i64 x.1,v]∧AA x.1∧Sl S b r v x.2
def zZ.len {S:Nat→Prop}{a:AS}{vs:List Value}{x:Int}(k:zZ S a vs x):vs.length=1:=by rw[k.1];rfl
def zZ.mono {S S':Nat→Prop}{a h':AS}{vs:List Value}{x:Int}(k:zZ S a vs x) (_:CJ S a S' h'):zZ S' h' vs x:=k
def iP.len {a:Type}{r:A5 a}{S:Nat→Prop}{b:AS}{vs:List Value}{x:Int×List a}(k:iP r S b vs x):vs.length=2:=by obtain⟨v,e,_⟩:=k;rw[e];rfl
def iP.mono {d:Type}{r:A5 d}{S S':Nat→Prop}{g h':AS}{vs:List Value}{x:Int×List d}(k:iP r S g vs x) (e:CJ S g S' h'):iP r S' h' vs x:=by obtain⟨v,a,b,c⟩:=k;exact⟨v,a,b,c.mono' e⟩
open Go.ChangeMaps (setBlock)
def MI {κ β:Type}(kv:κ→Value) (vv:β→Value) (b r:Nat) (l rem:List (κ×β)):HP where
 holds:=λ_ F h=>(∀c,F c↔(c=b∨c=r))∧b≠r∧∃es a d seen,h[b]? =some (.map es a)∧es.toList.map (λe=>(e.key,e.val))=(l.map λe=>(kv e.1,vv e.2))∧Nq es.toList a∧
  h[r]? =some (.mapIter (some b) d seen a)∧d=a∧(leftOf es seen).toList.map (λe=>(e.key,e.val))=rem.map λe=>(kv e.1,vv e.2)
 loc:=λ⟨g,i,es,c,d,seen,j,k,m,n,o⟩ _ e=>⟨g,i,es,c,d,seen,(e _ (.inr ((g _).2 (.inl rfl)))).trans j,k,m,(e _ (.inr ((g _).2 (.inr rfl)))).trans n,o⟩
section
variable {P:Program}{ops:Array Oper}{Q:Exit→Act→World→Prop}{n:FN}{m:SM}{rest:List Oper}
variable {d:Nat}{ty:TypeId}{pos:String}{af:Array Edge}{X:Operand}{B:World}{h:AS}{S:Nat→Prop}{L:List HP}{t kt et:TypeId}{b r:Nat}
variable {κ β:Type}{kv:κ→Value}{vv:β→Value}{l rem:List (κ×β)}
def Z3 (q:St S (MP kv vv b l::L) h) (g:B4 m X=some (.map (some b))) (y:P.underlying t=some (.map kt et)) (hd:Nat.blt d n.1=true)
  (k:∀r h',St S (MI kv vv b r l l::L) h'→CJ S h S h'→LF P ops Q rest B h' n ((d,.pointer (some ⟨r,0,none⟩))::m)):LF P ops Q (⟨some d,.range t X,ty,pos,af,none⟩::rest) B h n m:=by
 intro a w s j;refine wpList_plain rfl λK o=>?_;unfold Oper.wp;obtain⟨F,⟨z,es,c,u,v,A⟩,C,_⟩:=q.2;have D:w.heap[b]? =some (.map es c):=by rw[j.heap];exact u
 have i:(execOp a.eval ⟨some d,.range t X,ty,pos,af,none⟩).run P w= .ok (.value (.pointer (some ⟨w.heap.size,0,none⟩))) (w.alloc (.mapIter (some b) c #[] c)):=by
  simp [execOp,s.eval g,Instr.range,run_underlying y,MapKept.run_getObj_map D,newObj,Sem.run]
 rw[i];have G:b<h.size:=(C b ((z b).2 rfl)).1;obtain⟨H,I⟩:=q.upd (H':=MI kv vv b h.size l l) (h':=h.push (.mapIter (some b) c #[] c)) .head (by simp) λF J M=>⟨λx=>x=b∨x=h.size,⟨λx=>Iff.rfl,by omega,es,c,c,#[],by rw[If _ _ _ G];exact u,v,A,MR _ _,rfl,by rw[show leftOf es #[]=es from Array.filter_eq_self.2 λx _=>(by simp)];exact v⟩,λx g=>g.imp (λe=>(J.1 x).2 e) λe=>by subst e;simp,λx g _=>If _ _ _ g⟩
 have p:=j.heap;exact o _ _ (k w.heap.size _ (by rw[p];exact H) I _ _ (s.put hd _) (j.alloc _))
def mK {h:AS}{b r:Nat}{o:Obj}(a:r<h.size) (c:b≠r):(h.setIfInBounds r o)[b]? =h[b]? ∧(h.setIfInBounds r o)[r]? =some o∧(h.setIfInBounds r o).size=h.size:=
 ⟨by rw[Afx (Ne.symm c)],by rw[Array.getElem?_setIfInBounds_self];simp [a],by simp⟩
def iJ (hs:St S (MI kv vv b r l rem::L) h) (p:B4 m X=some (.pointer (some ⟨r,0,none⟩))) (hd:Nat.blt d n.1=true)
  (k0:rem=[]→LF P ops Q rest B h n ((d,.tuple #[.bool false])::m))
  (C:∀(x:κ×β) (l1 s:List (κ×β)) h',rem=l1++x::s→St S (MI kv vv b r l (l1++s)::L) h'→CJ S h S h'→(∀w,Wd B h' w→(Instr.entry (.pointer (some ⟨r,0,none⟩))).run P w= .ok (.tuple #[kv x.1,vv x.2]) w)→LF P ops Q rest B h' n ((d,.tuple #[.bool true,kv x.1,vv x.2])::m)):LF P ops Q (⟨some d,.next X false,ty,pos,af,none⟩::rest) B h n m:=by
 intro a w D t;refine wpList_plain rfl λK u=>?_;unfold Oper.wp;obtain⟨F,⟨g1,gn,es,c,g,seen,J,g3,G,g5,g6,H⟩,hF,_⟩:=hs.2;have hr:w.heap[r]? =some (.mapIter (some b) g seen c):=by rw[t.heap];exact g5
 have hb:w.heap[b]? =some (.map es c):=by rw[t.heap];exact J
 have M:r<h.size:=(hF r ((g1 r).2 (.inr rfl))).1;subst g6;rcases run_next_at (P:=P) w ty r b g g seen es g hr hb (λx p=>G.2 x p) (Acr _) with ⟨h0,j⟩|⟨e,he,w1,hw1,j⟩
 ·have I:(execOp a.eval ⟨some d,.next X false,ty,pos,af,none⟩).run P w= .ok (.value (.tuple #[.bool false])) w:=by simp [execOp,D.eval p,j]
  rw[I];have v:rem=[]:=by
   have:(leftOf es seen).toList=[]:=by
    have:=Array.eq_empty_of_size_eq_zero h0;rw[this]
   rw[this] at H;cases rem with
   |nil=>rfl
   |cons _ _=>cases H
  exact u _ _ (k0 v _ _ (D.put hd _) t)
 ·have I:(execOp a.eval ⟨some d,.next X false,ty,pos,af,none⟩).run P w= .ok (.value (.tuple #[.bool true,e.key,e.val])) (setBlock w1 r (.mapIter (some b) g (seen.push e.born) g)):=by simp [execOp,D.eval p,j]
  rw[I];obtain⟨p1,p2,U⟩:=List.append_of_mem he;rw[U,Adw,Acz] at H;obtain⟨l1,lx,hl,q1,q2⟩:=List.map_eq_append_iff.1 H.symm;obtain⟨x,s,V,q3,q4⟩:=List.map_eq_cons_iff.1 q2;subst V;have k:e.key=kv x.1∧e.val=vv x.2:=by
   have:=q3;simp only[Ae0] at this;exact⟨this.1.symm,this.2.symm⟩
  have z:((leftOf es seen).toList.map (·.born)).Nodup:=by
   unfold leftOf;rw[Array.toList_filter];exact(List.Sublist.map _ List.filter_sublist).nodup G.1
  have q:(leftOf es (seen.push e.born)).toList=p1++p2:=by
   have e1:(leftOf es (seen.push e.born)).toList=(leftOf es seen).toList.filter λy=>y.born != e.born:=by
    unfold leftOf;rw[Array.toList_filter,Array.toList_filter,List.filter_filter];congr 1;funext y;cases I:seen.contains y.born<;>cases h2:(y.born==e.born)<;>simp_all
   rw[e1,U,Aep,List.filter_cons];rw[U,Adw,Acz,Afb] at z;obtain⟨_,n2,n3⟩:=z;obtain⟨n4,_⟩:=Aet.1 n2;simp only[bne_self_eq_false,Aeb,Aec];rw[Afz.2,Afz.2]
   ·intro y W;simp only[bne_iff_ne,ne_eq];exact λY=>n4 (by rw[←Y];exact Adb.2 ⟨y,W,rfl⟩)
   ·intro y W;simp only[bne_iff_ne,ne_eq];exact λY=>n3 _ (Adb.2 ⟨y,W,rfl⟩) _ (Ac4 ..) Y
  obtain⟨s1,s2,s3⟩:=mK (o:= .mapIter (some b) g (seen.push e.born) g) M gn;have Z:Wd B (h.setIfInBounds r (.mapIter (some b) g (seen.push e.born) g)) (setBlock w1 r (.mapIter (some b) g (seen.push e.born) g)):=by
   have i:Wd B h w1:=by
    rcases hw1 with rfl|rfl
    ·exact t
    ·exact t.drew
   exact⟨by show w1.heap.setIfInBounds _ _=_;rw[i.heap],i.os,i.tape,i.out⟩
  obtain⟨u1,u2⟩:=hs.upd (H':=MI kv vv b r l (l1++s)) (h':=h.setIfInBounds r (.mapIter (some b) g (seen.push e.born) g)) .head (by omega) λF C k2=>⟨F,⟨C.1,gn,es,g,g,seen.push e.born,by rw[s1];exact J,g3,G,s2,rfl,by rw[q,Adw,Adw,q1,q4]⟩,λx p=> .inl p,λx p aa=>by
   have:x≠r:=λe=>aa ((C.1 x).2 (.inr e));rw[Afx (Ne.symm this)]⟩
  have:=C x l1 s _ hl u1 u2 (λw' A=>by
   have:=run_entry_at (P:=P) w' r b g seen es g e (by rw[A.heap];exact s2) (by rw[A.heap,s1];exact J) (by
    have:e∈(leftOf es seen).toList:=he;unfold leftOf at this;rw[Array.toList_filter] at this;exact(Ads.1 this).1) G.1
   rw[this,k.1,k.2])
  rw[k.1,k.2];exact u _ _ (this _ _ (D.put hd _) Z)
def Z0 {C:World→Prop}{Q:Act→Prop}{v:Value}(c:B4 m X=some (.pointer (some ⟨r,0,none⟩))) (g:∀w,C w→(Instr.entry (.pointer (some ⟨r,0,none⟩))).run P w= .ok v w) (hd:Nat.blt d n.1=true)
  (k:QF P ops C Q rest n ((d,v)::m)):QF P ops C Q (⟨some d,.entry X,ty,pos,af,none⟩::rest) n m:=λa b=>
 GI b hd (λw i=>by simp [execOp,b.eval c,g w i]) k
def St.miMP (g:St S (MI kv vv b r l rem::L) h):St S (MP kv vv b l::L) h:=by
 obtain⟨F,⟨i,p,es,c,d,seen,j,k,m,_⟩,n,o⟩:=g.2;exact⟨g.1,λx=>x=b,⟨λ_=>Iff.rfl,es,c,j,k,m⟩,λx a=>n x ((i x).2 (.inl a)),o.mono λx a=>⟨a.1,λe=>a.2 ((i x).2 (.inl e))⟩⟩
end
def jI:List Nat→Nat→List HP→Option (List HP)
 |[],m,L=>some (L.drop m)
 |i::is,m,L=>match L[i]? with
  |some H=>match jI is m (L.eraseIdx i) with
   |some r=>some (H::r)
   |none=>none
  |none=>none
def YN:∀{L:List HP}{i:Nat}{H:HP},L[i]? =some H→P7 L H (L.eraseIdx i)
 |[],i,H,h=>by simp at h
 |K::L,0,H,h=>by
  simp only[Aem,Adh] at h;subst h;exact .head
 |K::L,i+1,H,h=>by
  simp only[Aej] at h;exact .tail (YN h)
def Sp.dropn {S:Nat→Prop}{h:AS}:∀(m:Nat) {L:List HP}{A:Nat→Prop},Sp S L h A→Sp S (L.drop m) h A
 |0,L,A,k=>k
 |m+1,[],A,k=>k
 |m+1,H::L,A,⟨F,_,_,k⟩=>Sp.dropn m (k.mono λb a=>a.1)
def Sp.sel {S:Nat→Prop}{h:AS}:∀(is:List Nat) {m:Nat}{L a:List HP}{A:Nat→Prop},jI is m L=some a→Sp S L h A→Sp S a h A
 |[],m,L,a,A,e,k=>by cases e;exact k.dropn m
 |i::is,m,L,a,A,e,k=>by
  simp only[jI] at e;split at e
  ·rename_i H b;split at e
   ·rename_i r c;cases e;obtain⟨F,d,g,j⟩:=Sp.pick (YN b) k;exact⟨F,d,g,Sp.sel is c j⟩
   ·cases e
  ·cases e
def St.sel {S:Nat→Prop}{h:AS}{L a:List HP}(b:St S L h) (is:List Nat) (m:Nat) (e:jI is m L=some a):St S a h:=⟨b.1,Sp.sel is e b.2⟩
abbrev IV (B:World) (S:Nat→Prop) (h:AS) (n:FN) (a:Act) (w:World) (m:SM) (L:List HP) (F:(Nat→Prop)→AS→Prop):Prop:=∃(S':Nat→Prop) (h':AS),Fr n a m∧Wd B h' w∧St S' L h'∧CJ S h S' h'∧F S' h'
def YP {vs:List Value}(h:vs.all (·.oneCell')=true):∀u∈vs,u.oneCell'=true:=λu a=>Acm.1 h u a
section
variable {P:Program}{ops:Array Oper}{Q:Exit→Act→World→Prop}{n:FN}{m:SM}{rest:List Oper}
variable {d:Nat}{ty:TypeId}{pos:String}{af:Array Edge}{X Y:Operand}{B:World}{h:AS}{S:Nat→Prop}{L L2:List HP}{v:Value}
def Ge {T d:TypeId}{b o:Nat}{cs vs cs':List Value}{sz:Nat}{ag:Bool}(g:B4 m X=some (.pointer (some ⟨b,o,none⟩))) (i:B4 m Y=some v) (j:v.cells=vs.toArray) (l:vs.all (·.oneCell')=true)
  (p:Kh P T sz ag=true) (c:vs.length=sz) (q:St S L h) (r:Mx L (Bx b d cs) (Bx b d cs') L2) (a:Nat.ble (o+sz) cs.length=true) (s:H7 cs o vs=cs')
  (k:∀h',St S L2 h'→CJ S h S h'→LF P ops Q rest B h' n m):LF P ops Q (⟨none,.store T X Y,ty,pos,af,none⟩::rest) B h n m:=Lx g i j (YP l) p c q r a s k
def FK {T c:TypeId}{b:Nat}{cs vs:List Value}{sz:Nat}{ag:Bool}(d:B4 m X=some (.pointer (some ⟨b,0,none⟩))) (g:B4 m Y=some v) (i:v.cells=vs.toArray) (j:vs.all (·.oneCell')=true)
  (l:Kh P T sz ag=true) (a:Nat.beq vs.length sz=true) (o:St S L h) (r:Mx L (Bx b c cs) (Bx b c vs) L2) (p:Nat.beq cs.length sz=true)
  (k:∀h',St S L2 h'→CJ S h S h'→LF P ops Q rest B h' n m):LF P ops Q (⟨none,.store T X Y,ty,pos,af,none⟩::rest) B h n m:=by
 have q:=Aco a;have s:=Aco p;refine Lx d g i (YP j) l q o r (by simp [s]) ?_ k;unfold H7;rw[Aee (by omega)];simp
end
section
variable {P:Program}{ops:Array Oper}{C:World→Prop}{Q:Act→Prop}{n:FN}{m:SM}{rest:List Oper}{v:Value}
variable {d:Nat}{ty:TypeId}{pos:String}{af:Array Edge}{X Y:Operand}{h:AS}{S:Nat→Prop}{L:List HP}{t:TypeId}
def NO {T b o:Nat}{cs:List Value}(g:CK C h) (i:St S L h) (j:B4 m X=some (.pointer (some ⟨b,o,none⟩))) (l:Bx b T cs∈L) (c:cs[o]? =some v) (p:Kh P t 1 false=true) (hd:Nat.blt d n.1=true)
  (k:QF P ops C Q rest n ((d,v)::m)):QF P ops C Q (⟨some d,.load t X,ty,pos,af,none⟩::rest) n m:=by
 have e:(cs.drop o).take 1=[v]:=by
  have a:=(Acq.1 c).1;have q:=(Acq.1 c).2;rw[Aen a,q];simp
 exact Fq (vs:=[v]) g i j l e rfl p rfl hd k
def uZ {o:Oper}{j e:Nat}{b:Bool}{u:Value}(p:o.guard=some (j,b)) (q:(ops[j]?).bind (·.dst)=some e) (g:lk m e=some u) (s:yb u≠some b) (i:o.dst=some d) (hd:Nat.blt d n.1=true) (k:QF P ops C Q rest n ((d,undef)::m)):QF P ops C Q (o::rest) n m:=by
 intro a c;have l:Region.wanted o (yielded ops a.tmps)=false:=by
  have:=c.at_ e _ g;cases u<;>simp_all [Region.wanted,yielded,yb]
 unfold wpQuiet;rw[Ace (by rw[l];exact Bool.false_ne_true),i];exact k _ (c.put hd _)
def xJ (a:Op) (m:SM):Option Value:=
 match a with
 | .pick c x y=>match B4 m c with
  |some (.bool true)=>B4 m x
  |some (.bool false)=>B4 m y
  |_=>none
 |_=>none
def Rc (ops:Array Oper) (k:Nat):List Oper→SM→Option SM
 |[],m=>some m
 |o::r,m=>match o.guard,o.dst with
  |some (j,b),some d=>match (ops[j]?).bind (·.dst) with
   |some e=>match lk m e with
    |some u=>match yb u,b with
     |some true,true=>match xJ o.op m with
      |some v=>cond (Nat.blt d k) (Rc ops k r ((d,v)::m)) none
      |none=>none
     |some false,false=>match xJ o.op m with
      |some v=>cond (Nat.blt d k) (Rc ops k r ((d,v)::m)) none
      |none=>none
     |_,_=>cond (Nat.blt d k) (Rc ops k r ((d,undef)::m)) none
    |none=>none
   |none=>none
  |none,some d=>match xJ o.op m with
   |some v=>cond (Nat.blt d k) (Rc ops k r ((d,v)::m)) none
   |none=>none
  |_,none=>none
def N3 {a:Type}{c:Bool}{x:Option a}{y:a}(h:cond c x none=some y):c=true∧x=some y:=by cases c<;>simp_all
def Xy {u:Value}{b:Bool}(h:yb u=some b):u= .bool b:=by
 cases u<;>simp_all [yb]
def Xm {o:Oper}{d:Nat}{v:Value}(c:o.guard=none) (hd:o.dst=some d) (a:xJ o.op m=some v) (g:Nat.blt d n.1=true) (k:QF P ops C Q rest n ((d,v)::m)):QF P ops C Q (o::rest) n m:=by
 obtain⟨j,l,p,i,q,s⟩:=o;simp only at c hd a;subst c hd;unfold xJ at a;split at a
 ·split at a
  ·rename_i b;exact RO b a g k
  ·rename_i b;exact RO b a g k
  ·cases a
 ·cases a
def OR:∀{l:List Oper}{m p:SM},Rc ops n.1 l m=some p→QF P ops C Q [] n p→QF P ops C Q l n m
 |[],m,p,h,k=>by cases h;exact k
 |o::r,m,p,h,k=>by
  simp only[Rc] at h;split at h
  ·rename_i j b d g hd;split at h
   ·rename_i e s;split at h
    ·rename_i u t;split at h
     ·rename_i w;split at h
      ·rename_i v i;obtain⟨a,c⟩:=N3 h;have:=Xy w;subst this;exact ZC g s t (Xm rfl hd i a (OR c k))
      ·cases h
     ·rename_i w;split at h
      ·rename_i v i;obtain⟨a,c⟩:=N3 h;have:=Xy w;subst this;exact ZC g s t (Xm rfl hd i a (OR c k))
      ·cases h
     ·rename_i x y;obtain⟨a,c⟩:=N3 h;refine uZ g s t (λz=>?_) hd a (OR c k);generalize A:yb u=zz at*
      subst z;revert x y;intro x y;exact Bool.rec (motive:=λq=>(some q=some true→q=true→False)→(some q=some false→q=false→False)→False) (λ_ h=>h rfl rfl) (λh _=>h rfl rfl) _ x y
    ·cases h
   ·cases h
  ·rename_i d g hd;split at h
   ·rename_i v i;obtain⟨a,c⟩:=N3 h;exact Xm g hd i a (OR c k)
   ·cases h
  ·cases h
def A0 {b:SM}(c:xM (b.map (·.1)) m=some b):QF P ops C (λa=>Fr n a b) [] n m:=mC (kp _ c)
def BI {l:List Oper}{c b:SM}(h:Rc ops n.1 l m=some c) (d:xM (b.map (·.1)) c=some b):QF P ops C (λa=>Fr n a b) l n m:=OR h (A0 d)
end
section
variable {P:Program}{ops:Array Oper}{Q:Act→Prop}{n:FN}{m:SM}{rest:List Oper}{d:Nat}{ty:TypeId}{pos:String}{af:Array Edge}{X:Operand}{v:Value}{Ψ:Prop}{f:Nat}{xs:Array Operand}{tys:Array TypeId}{args vs:List Value}{first cap:Array Value}{h:AS}{B:World}{Z:(Nat→Prop)→AS→Prop}
def JH (i:B4 m X=some (.func (.func f) first cap)) (a:xs.toList.mapM (B4 m)=some args) (c:first.toList++args++cap.toList=vs) (g:BJ P f=true) (hd:Nat.blt d n.1=true)
  (j:∀h',EY h h'→CL P f vs.toArray (λb=>b<h'.size) h' (λu S' l=>u=v∧Z S' l))
  (k:QF P ops (Cl B h) Q rest n ((d,v)::m)):QF P ops (Cl B h) Q (⟨some d,.call ⟨.value X,xs,tys⟩,ty,pos,af,none⟩::rest) n m:=
 KA (Ψ:=True) i a c g hd (λh' o=>(j h' o).mono λ_ _ _ _ p=>⟨p.1,trivial⟩) λ_=>k
def Vd (i:B4 m X=some (.func (.func f) first cap)) (a:xs.toList.mapM (B4 m)=some args) (c:first.toList++args++cap.toList=vs) (g:BJ P f=true) (hd:Nat.blt d n.1=true)
  (j:∀h',EY h h'→CL P f vs.toArray (λb=>b<h'.size) h' (λu S' l=>u=v∧Ψ∧Z S' l))
  (k:Ψ→QF P ops (Cl B h) Q rest n ((d,v)::m)):QF P ops (Cl B h) Q (⟨some d,.call ⟨.value X,xs,tys⟩,ty,pos,af,none⟩::rest) n m:=
 KA i a c g hd (λh' o=>(j h' o).mono λ_ _ _ _ p=>⟨p.1,p.2.1⟩) k
end
def iq {n:Int}(h:(decide (-9223372036854775808≤n)&&decide (n≤9223372036854775807))=true):AA n:=by
 simp only[Acj,Ac1] at h;exact h
def Ls {n:Nat}(h:n≤maxLen):AA (n:Int):=by unfold maxLen at h;unfold AA;omega
section
variable {P:Program}{fn:Func}{B:World}{S S':Nat→Prop}{h h':AS}{post:Value→(Nat→Prop)→AS→Prop}{a:Act}{m:SM}{w:World}
def TH {k t:Nat}{v:Value}(b:Fr (k,[]) a m) (c:Wd B h' w) (d:fn.results= #[.tmp t]) (g:lk m t=some v) (e:CJ S h S' h') (kp:post v S' h'):Rt P fn B S h post a w:=rt1 b d g c e kp
end
abbrev XR:=(Nat→Prop)→AR
def Aak (a:List Nat) (f:Nat→Option Value) (X:Nat→Prop):Prop:=∀s,s∈a→∀u,f s=some u→∀b,Ol u=some b→X b
def vS (R:AR) (As:List Nat) (i:Nat) (h:AS) (v:Value) (h':AS):Prop:=R i v h'∧(As.contains i=true→W2 h v)
def Tu (P:Program) (ops:Array Oper) (Q:Exit→Act→World→Prop) (B:World) (n:FN) (m:SM) (h0:AS) (R:XR) (As:List Nat) (i:Nat) (o:Oper) (d:Nat) (c:List (Nat×Nat)):Prop:=
 ∀X mt h,EY h0 h→(∀b,X b→h0.size≤b∧b<h.size)→PA (R X) h (λfr=>match o.guard with
  |none=>LF P ops (Exit.then (KS B n d (vS (R X) As i h) h (fr++(m++mt))) Q) [o] B h n (fr++(m++mt))
  |some (g,b)=>∃a,IQ ops g=some a∧((lk fr a=some (.bool b)∧LF P ops (Exit.then (KS B n d (vS (R X) As i h) h (fr++(m++mt))) Q) [{ o with guard:=none}] B h n (fr++(m++mt)))∨∃v,lk fr a=some v∧yb v≠some b∧R X i undef h)) c []
section
variable {P:Program}{ops:Array Oper}{Q:Exit→Act→World→Prop}
end
def QK (P:Program) (ops:Array Oper) (ks:List Nat) (n:FN) (m:SM) (h0:AS) (R:XR):List Nat→Prop
 |[]=>True
 |f::F=>((f<ops.size∧f∉ks)∧NI ops f=true∧∃o d a,ops[f]? =some o∧o.dst=some d∧TN ops o a=true∧∀X,Pi P ops n m h0 (R X) f o a)∧QK P ops ks n m h0 R F
def QK.at_ {P:Program}{ops:Array Oper}{ks:List Nat}{n:FN}{m:SM}{h0:AS}{R:XR}:∀{F:List Nat},QK P ops ks n m h0 R F→∀f,f∈F→(f<ops.size∧f∉ks)∧NI ops f=true∧∃o d b,ops[f]? =some o∧o.dst=some d∧TN ops o b=true∧∀X,Pi P ops n m h0 (R X) f o b
 |[],_,f,a=>by cases a
 |g::F,⟨c,i⟩,f,a=>by
  rcases Acl.1 a with rfl|a
  ·exact c
  ·exact QK.at_ i f a
def QK.cons {P:Program}{ops:Array Oper}{ks:List Nat}{n:FN}{m:SM}{h0:AS}{R:XR}{f d:Nat}{o:Oper}{F:List Nat}(b:List (Nat×Nat)) (a:(Nat.blt f ops.size&& !ks.contains f&&NI ops f)=true) (g:ops[f]? =some o) (hd:o.dst=some d) (c:TN ops o b=true) (i:∀X,Pi P ops n m h0 (R X) f o b) (t:QK P ops ks n m h0 R F):QK P ops ks n m h0 R (f::F):=by
 simp only[Acj,Ada] at a;exact⟨⟨⟨(by simpa [Nat.blt] using a.1.1:f+1≤ops.size),λh=>by rw[Acp.2 h] at a;cases a.1.2⟩,a.2,o,d,b,g,hd,c,i⟩,t⟩
def FW (P:Program) (ops:Array Oper) (Q:Exit→Act→World→Prop) (B:World) (n:FN) (m:SM) (h0:AS) (R:XR) (ks As:List Nat):Nat→List Oper→List (List (Nat×Nat))→Prop
 |i,o::l,a::pss=>(i∈ks∨match o.dst with|some d=>Tu P ops Q B n m h0 R As i o d a|none=>False)∧FW P ops Q B n m h0 R ks As (i+1) l pss
 |_,_,_=>True
section
variable {P:Program}{ops:Array Oper}{Q:Exit→Act→World→Prop}{B:World}{n:FN}{m:SM}{h0:AS}{R:XR}{ks As:List Nat}
def FW.at_:∀{l:List Oper}{pss:List (List (Nat×Nat))}{k i:Nat}{o:Oper}{d:Nat},FW P ops Q B n m h0 R ks As k l pss→l.length=pss.length→k+i∉ks→l[i]? =some o→o.dst=some d→∃a,pss[i]? =some a∧Tu P ops Q B n m h0 R As (k+i) o d a
 |[],_,_,_,_,_,_,_,_,h,_=>by simp at h
 |_::_,[],_,_,_,_,_,c,_,_,_=>by simp at c
 |p::l,a::pss,k,0,o,d,g,c,j,b,hd=>by
  simp only[Aem,Adh] at b;subst b;simp only[FW,hd] at g;exact⟨a,rfl,g.1.resolve_left j⟩
 |p::l,a::pss,k,i+1,o,d,g,c,j,b,hd=>by
  simp only[Aej] at b;obtain⟨q,s,t⟩:=FW.at_ (l:=l) (pss:=pss) (k:=k+1) (i:=i) g.2 (by simpa using c) (by rw[show k+1+i=k+(i+1) by omega];exact j) b hd;rw[show k+(i+1)=k+1+i by omega];exact⟨q,by simpa using s,t⟩
def FW.cons {i:Nat}{o:Oper}{l:List Oper}{c:List (Nat×Nat)}{pss:List (List (Nat×Nat))}{d:Nat}(hd:o.dst=some d) (g:As.contains i=false) (j:o.guard=none)
  (h:∀X mt h,EY h0 h→(∀b,X b→h0.size≤b∧b<h.size)→PA (R X) h (λfr=>LF P ops (Exit.then (KS B n d (R X i) h (fr++(m++mt))) Q) [o] B h n (fr++(m++mt))) c []) (t:FW P ops Q B n m h0 R ks As (i+1) l pss):FW P ops Q B n m h0 R ks As i (o::l) (c::pss):=by
 simp only[FW,hd];refine⟨.inr λX mt p s u=>PA.imp (λfr k=>?_) _ _ (h X mt p s u),t⟩;rw[j];refine λa w x y=>H0 (λe a w q=>?_) _ a w (k a w x y);cases e<;>first|exact q|skip
 obtain⟨v,z,A,C,D,F⟩:=q;exact⟨v,z,A,C,D,F,λh=>by rw[g] at h;cases h⟩
def FW.al {i:Nat}{l:List Oper}{pss:List (List (Nat×Nat))}{d T:Nat}{cs:List Value}{ty:TypeId}{a:String}{g:Array Edge}(j:∀X,R X i=aC h0 T cs) (k:FM P T=some cs) (hd:Nat.blt d n.1=true) (t:FW P ops Q B n m h0 R ks As (i+1) l pss):FW P ops Q B n m h0 R ks As i (⟨some d,.alloc T,ty,a,g,none⟩::l) ([]::pss):=by
 refine⟨.inr ?_,t⟩;intro X mt h o _;show LF P ops (Exit.then (KS B n d (vS (R X) As i h) h _) Q) _ B h n _
 refine iL (EY.refl h) k hd λv h' p r'=>BB p ?_;obtain⟨b,e,c,q,s⟩:=r';have u:R X i v h':=by rw[j];exact⟨b,e,Adq o.siz c,q,s⟩
 exact⟨u,λ_=>⟨b,by rw[e];rfl,c⟩⟩
def FW.skip {i:Nat}{o:Oper}{l:List Oper}{a:List (Nat×Nat)}{pss:List (List (Nat×Nat))}(h:ks.contains i=true) (t:FW P ops Q B n m h0 R ks As (i+1) l pss):FW P ops Q B n m h0 R ks As i (o::l) (a::pss):=
 ⟨.inl (Acp.1 h),t⟩
end
def mJ (h0:AS) (R:XR) (i:Nat):Prop:=∃r,(∀X,R X i=r)∧∀v h,r v h→∃b,Ol v=some b∧h0.size≤b∧b<h.size
def Yv {h0:AS}{R:XR}:∀i,i∈([]:List Nat)→mJ h0 R i:=λi a=>by cases a
def gR {R:XR}{h:AS}{a T:Nat}{cs:List Value}{l:List Nat}(e:∀X,R X a=aC h T cs) (t:∀i,i∈l→mJ h R i):∀i,i∈a::l→mJ h R i:=λi c=>by
 rcases Acl.1 c with rfl|c
 ·exact⟨_,e,λv h' ⟨b,d,g,j,_⟩=>⟨b,by rw[d];rfl,g,j⟩⟩
 ·exact t i c
section
variable {P:Program}{ex:List (Nat×AP)}{RR N:AP}{cs:List Code}{B:World}{h:AS}{n:FN}{m m0:SM}{S:Nat→Prop}{L:List HP}
end
def SX (S:Nat→Prop) (h0 h:AS) (X:Nat→Prop):Nat→Prop:=λb=>SN S h0 h b∧¬X b
def SX.mono {S:Nat→Prop}{h0 h h':AS}{X c:Nat→Prop}(d:∀b,S b→b<h0.size) (g:EY h0 h) (j:EY h h') (u:∀b,X b→c b) (k:∀b,c b→X b∨h.size≤b):CJ (SX S h0 h X) h (SX S h0 h' c) h':=by
 have e:=SN.mono d g j;refine⟨λb a=>⟨e.sub b a.1,λl=>?_⟩,λb a=>e.same b a.1,e.siz⟩;rcases k b l with i|i
 ·exact a.2 i
 ·have:b<h.size:=a.1.elim (λx=>Acv (d b x) g.siz) (·.2);omega
def SX.lt {S:Nat→Prop}{h0 h:AS}{X:Nat→Prop}(a:∀b,S b→b<h0.size) (o:EY h0 h):∀b,SX S h0 h X b→b<h.size:=λb c=>c.1.elim (λx=>Acv (a b x) o.siz) (·.2)
def Mm {S:Nat→Prop}{L:List HP}{h0 h:AS}{X:Nat→Prop}(a:St S L h0) (o:EY h0 h):St (SX S h0 h X) [] h:=⟨SX.lt a.1 o,trivial⟩
def SX.ext {S:Nat→Prop}{h0 h:AS}{X:Nat→Prop}(a:∀b,S b→b<h0.size) (o:EY h0 h) (c:∀b,X b→h0.size≤b∧b<h.size):CJ S h0 (SX S h0 h X) h:=
 ⟨λb x=>⟨.inl x,λd=>by have:=a b x;have:=(c b d).1;omega⟩,λb g=>o.same b (a b g),o.siz⟩
def SX.done {S S2:Nat→Prop}{h0 h a:AS}{X:Nat→Prop}(o:EY h0 h) (j:∀b,X b→h0.size≤b∧b<h.size) (e:CJ (SX S h0 h X) h S2 a) (i:St S2 [zX (SX S h0 h X) h] a):EY h a∧CJ S2 a (SX S h0 a X) a:=by
 obtain⟨F,⟨k,l⟩,m,_⟩:=i.2;refine⟨⟨e.siz,λb c=>?_⟩,λb c=>?_,λ_ _=>rfl,Acr _⟩
 ·rcases Classical.em (SX S h0 h X b) with g|g
  ·exact e.same b g
  ·exact l b ⟨c,g⟩
 ·rcases Acy b h.size with g|g
  ·rcases Classical.em (SX S h0 h X b) with d|d
   ·exact⟨d.1.imp_right λx=>⟨x.1,i.1 b c⟩,d.2⟩
   ·exact absurd c (m b ((k b).2 ⟨g,d⟩)).2
  ·exact⟨.inr ⟨Adq o.siz g,i.1 b c⟩,λn=>by have:=(j b n).2;omega⟩
def iT (S X:Nat→Prop) (h a:AS) (c:List Nat) (L:List HP):Prop:=(∀b,S b→b<h.size)∧EY h a∧(∀b,b∈c→(h.size≤b∧b<a.size)∧X b)∧Sp (SX S h a X) L a (λb=>(b<h.size∧¬S b)∨b∈c)
def iT.nil {S X:Nat→Prop}{L:List HP}{h d:AS}(a:St S L h) (o:EY h d) (i:∀b,X b→h.size≤b∧b<d.size):iT S X h d [] L:=
 ⟨a.1,o,λb j=>(by cases j),Sp.ext a.2 (λb x=>(SX.ext a.1 o i).sub b x) (λc g=>o.same c (g.elim (a.1 c) (·.1))) λc g=> .inl g⟩
def iT.cons {S X:Nat→Prop}{L:List HP}{h d:AS}{g:List Nat}{b T:Nat}{cs:List Value}(k:iT S X h d g L) (i:h.size≤b) (j:b<d.size) (l:d[b]? =some (.cells cs.toArray T (0,0))) (m:b∉g) (n:X b):iT S X h d (b::g) (Bx b T cs::L):=by
 obtain⟨o,p,q,s⟩:=k;refine⟨o,p,λc a=>?_,λc=>c=b,⟨λ_=>Iff.rfl,l⟩,λc a=>by subst a;exact .inr (Ac4 ..),s.mono λc a=>⟨a.imp_right (Adi _),λe=>?_⟩⟩
 ·rcases Acl.1 a with rfl|a
  ·exact⟨⟨i,j⟩,n⟩
  ·exact q c a
 ·subst e;rcases a with a|a
  ·have:=a.1;omega
  ·exact m a
def iT.st {S X:Nat→Prop}{L:List HP}{h b:AS}{j:List Nat}(k:iT S X h b j L):St (SX S h b X) L b:=by
 obtain⟨l,g,i,m⟩:=k;refine⟨SX.lt l g,m.mono λc a=>?_⟩;rcases a with a|a
 ·exact⟨Acv a.1 g.siz,λd=>d.1.elim a.2 λx=>by omega⟩
 ·exact⟨(i c a).1.2,λd=>d.2 (i c a).2⟩
def Aak.at_ {a:List Nat}{f:Nat→Option Value}{X:Nat→Prop}(k:Aak a f X) {s b:Nat}{u:Value}(h:a.contains s=true) (e:f s=some u) (z:Ol u=some b):X b:=k s (Acp.1 h) u e b z
def Aac {α}(l:List α) (i:Int):Option (List α):=if 0≤i∧i≤l.length∧0<l.length then some (l.take i.toNat) else none
section
variable {P:Program}{ops:Array Oper}{C:World→Prop}{Q:Act→Prop}{n:FN}{m m':SM}{rest:List Oper}
variable {d:Nat}{ty:TypeId}{pos:String}{af:Array Edge}{X Y Z:Operand}{t:TypeId}{kd:IntKind}{v p:Value}{S:Nat→Prop}{h:AS}
def Sl.ne {α}{r:A5 α}{l:List α}(k:Sl S h r v l) (h0:0<l.length):∃(b o cap:Nat),v= .slice (some ⟨b,o,none⟩) l.length cap∧l.length≤cap∧cap≤maxLen∧∀i x,l[i]? =some x→Pt S h r (.pointer (some ⟨b,o+i*r.sz,none⟩)) x:=by
 rcases k with ⟨_,rfl⟩|⟨a,cap,h1,h4,h5,h6⟩
 ·cases h0
 ·have c:=(h6 0 l[0] (by simp [h0])).1;obtain⟨b,o,g⟩:=a;simp only at c;subst c;exact⟨b,o,cap,h1,h4,h5,λi x d=>(h6 i x d).2⟩
def lT {α}{r:A5 α}{e:TypeId}{l g:List α}{y:Int}(p:B4 m X=some v) (q:B4 m Y=some (.int kd y)) (k0:Sl S h r v l) (s:O3 P t e r.sz=true) (a:Aac l y=some g) (hd:Nat.blt d n.1=true)
  (k:∀u,Sl S h r u g→QF P ops C Q rest n ((d,u)::m)):QF P ops C Q (⟨some d,.slice t X none (some Y) none,ty,pos,af,none⟩::rest) n m:=by
 unfold Aac at a;split at a
 ·rename_i w;obtain⟨D,F,z⟩:=w;cases a;obtain⟨b,o,cap,rfl,G,A,B⟩:=k0.ne z;refine Xl p q (j:=y.toNat) (by omega) s (by omega) hd (k _ (.inr ⟨⟨b,o,none⟩,cap,?_,?_,A,λi x c=>⟨rfl,?_⟩⟩))
  ·rw[Adv,Ae3 (by omega)]
  ·rw[Adv];omega
  ·rw[Afy] at c;split at c
   ·exact B i x c
   ·cases c
 ·cases a
end
def I1:A5 Value where
 sz:=1
 ag:=false
 rd:=λ_ _ cs x=>cs=[x]∧x.oneCell'=true
 len:=λ⟨h,_⟩=>by rw[h];rfl
 one:=λ⟨h,k⟩ v a=>by rw[h] at a;simp at a;rw[a];exact k
 mono:=λk _ _=>k
def Vt {α}(r:A5 α) (e:TypeId):List Value→List (List α)→List HP
 |u::us,l::a=>OS r e u l::Vt r e us a
 |_,_=>[]
def OO {α}(r:A5 α) (e T:TypeId) (v:Value) (ll:List (List α)):HP where
 holds:=λS F h=>∃vs:List Value,vs.length=ll.length∧Sp S (OS I1 T v vs::Vt r e vs ll) h F
 loc:=λ⟨vs,a,k⟩ s e=>⟨vs,a,Sp.ext k s e λ_ x=>x⟩
section
variable {α:Type}{r:A5 α}{e T:TypeId}{v u:Value}{l:List α}{vs:List Value}{ll:List (List α)}{S F:Nat→Prop}{h:AS}{L L2:List HP}
def St.ooOpen (c:St S (OO r e T v ll::L) h):∃vs:List Value,vs.length=ll.length∧St S (OS I1 T v vs::P8 (Vt r e vs ll)::L) h:=by
 obtain⟨F,⟨vs,i,G,j,d,k⟩,g,l⟩:=c.2;exact⟨vs,i,c.1,G,j,λb a=>g b (d b a),λb=>F b∧¬G b,k,λb a=>⟨g b a.1,a.2⟩,l.mono λb a=>⟨⟨a.1,λx=>a.2 (d b x)⟩,λx=>a.2 x.1⟩⟩
def Qg (g:vs.length=ll.length) (c:St S (OS I1 T v vs::P8 (Vt r e vs ll)::L) h):St S (OO r e T v ll::L) h:=by
 obtain⟨G,i,j,k,l,d,m⟩:=c.2;exact⟨c.1,λb=>G b∨k b,⟨vs,g,G,i,λ_ x=> .inl x,Sp.mono l λb a=>⟨.inr a,(d b a).2⟩⟩,λb a=>a.elim (j b) λx=>(d b x).1,m.mono λb a=>⟨a.1.1,λx=>x.elim a.1.2 a.2⟩⟩
def Vt.pick:∀{vs:List Value}{ll:List (List α)}{i:Nat}{u:Value}{l:List α},vs[i]? =some u→ll[i]? =some l→
  ∃M,P7 (Vt r e vs ll) (OS r e u l) M∧∀c d,P7 (Vt r e (vs.set i c) (ll.set i d)) (OS r e c d) M
 |[],_,_,_,_,a,_=>by simp at a
 |_::_,[],_,_,_,_,b=>by simp at b
 |g::us,j::k,0,u,l,a,b=>by
  simp only[Aem,Adh] at a b;subst a;subst b;exact⟨_,.head,λ_ _=> .head⟩
 |g::us,j::k,i+1,u,l,a,b=>by
  simp only[Aej] at a b;obtain⟨M,p,q⟩:=Vt.pick a b;exact⟨_,.tail p,λc d=> .tail (q c d)⟩
def Ru {i:Nat}(s:vs[i]? =some u) (t:ll[i]? =some l):∃M,(∀{S:Nat→Prop}{h:AS}{L:List HP},St S (P8 (Vt r e vs ll)::L) h→St S (OS r e u l::P8 M::L) h)∧
  ∀d g {S:Nat→Prop} {h:AS} {L:List HP},St S (OS r e d g::P8 M::L) h→St S (P8 (Vt r e (vs.set i d) (ll.set i g))::L) h:=by
 obtain⟨M,p,q⟩:=Vt.pick (r:=r) (e:=e) s t;refine⟨M,λ{S h L} c=>?_,λd g {S h L} c=>?_⟩
 ·obtain⟨F,v,n,w⟩:=c.2;obtain⟨G,k,j,m⟩:=Sp.pick p v;exact⟨c.1,G,k,λb a=>n b (j b a),λb=>F b∧¬G b,m,λb a=>⟨n b a.1,a.2⟩,w.mono λb a=>⟨⟨a.1,λx=>a.2 (j b x)⟩,λx=>a.2 x.1⟩⟩
 ·obtain⟨G,k,j,y,m,o,z⟩:=c.2;exact⟨c.1,λb=>G b∨y b,N5 (q d g) ⟨G,k,λ_ x=> .inl x,Sp.mono m λb a=>⟨.inr a,(o b a).2⟩⟩,λb a=>a.elim (j b) λx=>(o b x).1,z.mono λb a=>⟨a.1.1,λx=>x.elim a.1.2 a.2⟩⟩
def U0:∀{vs:List Value}{cs:List Value},Me S h I1 cs vs→cs=vs
 |[],_,k=>k
 |x::vs,cs,⟨c,i,e,d,g⟩=>by
  have a:c=[x]:=d.1;have b:=U0 g;subst e;subst a;subst b;rfl
def YJ {S2:Nat→Prop}:∀{vs:List Value}{ll:List (List α)},vs.length=ll.length→(∀(i:Nat) (u:Value) (l:List α),vs[i]? =some u→ll[i]? =some l→Sl S2 h r u l)→Me S2 h (A5.sl r) vs ll
 |[],[],_,_=>rfl
 |u::vs,l::ll,c,k=>⟨[u],vs,rfl,⟨u,rfl,k 0 u l rfl rfl⟩,YJ (Nat.succ.inj c) λi d g a b=>k (i+1) d g a b⟩
def dU {S2:Nat→Prop}:∀{vs:List Value}{ll:List (List α)}{A:Nat→Prop},Sp S (Vt r e vs ll) h A→(∀b,S b→S2 b)→(∀b,A b→S2 b)→∀(i:Nat) (u:Value) (l:List α),vs[i]? =some u→ll[i]? =some l→Sl S2 h r u l
 |[],_,_,_,_,_,_,_,_,c,_=>by simp at c
 |_::_,[],_,_,_,_,_,_,_,_,d=>by simp at d
 |n::us,o::p,A,⟨F,j,k,m⟩,s,a,0,u,l,c,d=>by
  simp only[Aem,Adh] at c d;subst c;subst d;exact OS.sl (HP.loc _ j s λ_ _=>rfl) λb g=>a b (k b g)
 |n::us,o::p,A,⟨F,j,k,m⟩,s,a,i+1,u,l,c,d=>by
  simp only[Aej] at c d;exact dU m s (λb g=>a b g.1) i u l c d
def St.ooPub (a:St S (OO r e T v ll::L) h):∃S',St S' (OS (A5.sl r) T v ll::L) h∧CJ S h S' h:=by
 obtain⟨vs,c,a⟩:=a.ooOpen;obtain⟨F,i,s,d,j⟩:=a.pub (.tail .head);have ks:=dU (S2:=λb=>S b∨F b) i (λ_ x=> .inl x) λ_ x=> .inr x;refine⟨_,?_,j⟩;obtain⟨G,k,l,m⟩:=d.2;refine⟨d.1,G,?_,l,m⟩;rcases k with ⟨n,o,p⟩|⟨g,cap,cur,k1,k2,k3,k4,k5,k6,k7⟩
 ·subst o;have:ll=[]:=List.length_eq_zero_iff.1 c.symm;exact .inl ⟨n,this,p⟩
 ·rw[c] at k1 k4 k7;refine .inr ⟨g,cap,cur,k1,k2,k3,k4,k5,k6,?_⟩;have q:=U0 k7;have:=YJ c ks;rw[←q] at this;exact this
def Yb:∀{n:Nat}{A:Nat→Prop},Sp S (Vt r e (List.replicate n (.slice none 0 0)) (List.replicate n ([]:List α))) h A
 |0,_=>trivial
 |n+1,A=>⟨λ_=>False,.inl ⟨⟨none,rfl⟩,rfl,λ_ x=>x⟩,λ_ x=>x.elim,Yb⟩
def St.ooNil {n:Nat}(a:St S (OS I1 T v (List.replicate n (.slice none 0 0))::L) h):St S (OO r e T v (List.replicate n ([]:List α))::L) h:=by
 refine Qg (vs:=List.replicate n (.slice none 0 0)) (by simp) ?_;obtain⟨G,c,d,g⟩:=a.2;exact⟨a.1,G,c,d,λ_=>False,Yb,λ_ x=>x.elim,g.mono λb i=>⟨i,λx=>x⟩⟩
end
abbrev lQ (a:Type):=(Nat→Prop)→AS→Value→a→Prop
def A5.fnr {o p:Type}(P:Program) (AR:Vr o) (j:lQ p):A5 (o→Option p) where
 sz:=1
 ag:=false
 rd:=λS q cs t=>∃(f:FuncId) (a:Array Value),cs=[.func (.func f) #[] a]∧BJ P f=true∧∀(S':Nat→Prop) (h':AS),(∀b,S b→S' b)→(∀b,S b→h'[b]? =q[b]?)→∀L,St S' L h'→∀x y vs,AR S' h' vs x→t x=some y→
  CL P f (vs++a.toList).toArray S' h' (λv c d=>j c d v y∧St c L d)
 len:=λ⟨_,_,q,_⟩=>by rw[q];rfl
 one:=λ⟨_,_,q,_⟩ v i=>by rw[q] at i;simp at i;rw[i];rfl
 mono:=λ⟨f,a,k,l,m⟩ s e=>⟨f,a,k,l,λS' h' s' n=>m S' h' (λb g=>s' b (s b g)) λb g=>(n b (s b g)).trans (e b g)⟩
def Rd.fnr {i j:Type}{P:Program}{AR:Vr i}{g:lQ j}{S l v}{m:i→Option j}(k:Rd S l (A5.fnr P AR g) v m):
  ∃(f:FuncId) (a:Array Value),v= .func (.func f) #[] a∧BJ P f=true∧∀(S':Nat→Prop) (h':AS),(∀b,S b→S' b)→(∀b,S b→h'[b]? =l[b]?)→∀L,St S' L h'→∀x y vs,AR S' h' vs x→m x=some y→
  CL P f (vs++a.toList).toArray S' h' (λv c d=>g c d v y∧St c L d):=by
 obtain⟨_,rfl,f,a,rfl,l⟩:=k;exact⟨f,a,rfl,l⟩
def Mf {k l:Type}{P:Program}{AR:Vr k}{g:lQ l}{S h}{m:k→Option l}(f:FuncId) (a:Array Value) (i:BJ P f=true)
  (j:∀(S':Nat→Prop) (h':AS),(∀b,S b→S' b)→(∀b,S b→h'[b]? =h[b]?)→∀L,St S' L h'→∀x y vs,AR S' h' vs x→m x=some y→CL P f (vs++a.toList).toArray S' h' (λv c d=>g c d v y∧St c L d)):
  Rd S h (A5.fnr P AR g) (.func (.func f) #[] a) m:=⟨_,rfl,f,a,rfl,i,j⟩
def Abj {b c:Type}(r:A5 b) (r':A5 c):lQ (List b×List c):=λS d v y=>∃v1 a,v= .tuple #[v1,a]∧Sl S d r v1 y.1∧Sl S d r' a y.2
def CL.grow {P f args S h}{b a:Value→(Nat→Prop)→AS→Prop}(k:CL P f args S h b) (c:∀v S' h',b v S' h'→∃S2,CJ S' h' S2 h'∧a v S2 h'):CL P f args S h a:=
 λB w d=>(k B w d).mono λ_ _ ⟨v,S',h',g,i,j,l⟩=>let ⟨S2,e,m⟩:=c v S' h' l;⟨v,S2,h',g,i,j.trans e,m⟩
def Pm {q s:Type}{r:A5 q}{r':A5 s}{e i:TypeId}{P:Program}{f:FuncId}{a:Array Value}{S:Nat→Prop}{t:AS}{L:List HP}{y:List q×List s}
  (k:CL P f a S t (λv S' h'=>∃v1 b,v= .tuple #[v1,b]∧St S' (OS r e v1 y.1::OS r' i b y.2::L) h')):
  CL P f a S t (λv S' h'=>Abj r r' S' h' v y∧St S' L h'):=by
 refine k.grow λv S' h' ⟨v1,b,j,l⟩=>?_;obtain⟨p,c,m,n⟩:=l.pubs .head;obtain⟨S2,d,g,o⟩:=c.pubs .head;exact⟨S2,m.trans g,⟨v1,b,j,n.mono g.sub g.same,o⟩,d⟩
end Go.Proofs.YtabonambpbofgaaGreat
