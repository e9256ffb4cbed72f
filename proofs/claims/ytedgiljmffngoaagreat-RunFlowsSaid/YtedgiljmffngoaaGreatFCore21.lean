import Derived.Test.YtedgiljmffngoaaGreatFCore18
import Derived.Maps.RangeRun
namespace Go.Proofs.YtedgiljmffngoaaGreat
set_option linter.all false
open Go.RowKit
def cL:List Nat→SM→Option SM
 |[],_=>some []
 |k::a,m=>match lk m k with
  |some v=>match cL a m with
   |some r=>some ((k,v)::r)
   |none=>none
  |none=>none
def kp:∀{m a:SM}(b:List Nat),cL b m=some a→RE m a
 |m,a,[],g=>by cases g;trivial
 |m,a,k::b,g=>by
  simp only[cL] at g;split at g
  ·rename_i v c;split at g
   ·rename_i r d;cases g;exact⟨c,kp b d⟩
   ·cases g
  ·cases g
def U3 {c:Type}(S:Nat→Prop) (d:AT) (r:BB c) (T:TypeId) (l:List c) (v:Value) (a:AT):Prop:=∃g cap,v= .slice (some ⟨g,0,none⟩) l.length cap∧d.size≤g∧g<a.size∧(OS r T v l).holds S (λb=>b=g) a
def U3.mono {q:Type}{S:Nat→Prop}{s a c:AT}{r:BB q}{T:TypeId}{l:List q}{v:Value}(k:U3 S s r T l v a) (i:∀b,S b→b<s.size) (o:CF a c):U3 S s r T l v c:=by
 obtain⟨g,cap,j,m,d,n⟩:=k;exact⟨g,cap,j,m,gJ d o.siz,HP.loc _ n (λ_ x=>x) λb p=>o.same b (p.elim (λx=>by have:=i b x;omega) λx=>by subst x;exact d)⟩
def Xc {d:Type}{S:Nat→Prop}{i:AT}{r:BB d}{T:TypeId}{l:List d}:RG (U3 S i r T l):=λv c ⟨g,_,a,_,b,_⟩=>⟨g,by rw[a];rfl,b⟩
def Ni {b:Type}{R:AR}{S:Nat→Prop}{c:AT}{r:BB b}{a T:Nat}{l:List b}{is:List Nat}(e:R a=U3 S c r T l) (t:∀i,i∈is→RG (R i)):∀i,i∈a::is→RG (R i):=TA (by rw[e];exact Xc) t
def MY {u:Type}{S:Nat→Prop}{L:List HP}{w d:AT}{i:List Nat}{r:BB u}{g T:Nat}{v:Value}{l:List u}(k:TF S w d i L) (j:w.size≤g) (m:g<d.size) (n:(OS r T v l).holds S (λb=>b=g) d) (o:g∉i):TF S w d (g::i) (OS r T v l::L):=by
 obtain⟨p,q,s,t⟩:=k;refine⟨p,q,λc a=>?_,λc=>c=g,n,λc a=>by subst a;exact .inr (gY ..),t.mono λc a=>⟨a.imp_right (hE _),λe=>?_⟩⟩
 ·rcases gK.1 a with rfl|a
  ·exact⟨j,m⟩
  ·exact s c a
 ·subst e;rcases a with a|a
  ·have:=a.1;omega
  ·exact o a
def Qm {α:Type}{P:Program}{q:Array Oper}{Q:Exit→Act→World→Prop}{n:FN}{m:SM}{p:List Oper}{d:Nat}{ty:TypeId}{s:String}{Y:Array Edge}{B:World}{S:Nat→Prop}{h0 h:AT}{r:BB α}{T e sz g:Nat}{z:List Value}{zx:α}{len cap:Int}{Z kc:IntKind}{U V:Operand}(he:M3 P T=some (e,sz,g,z)) (t:r.sz=sz) (hz:r.rd S h z zx)
  (hx:BU m U=some (.int Z len)) (hy:BU m V=some (.int kc cap)) (u:KM len cap g=true) (y:Nat.blt 0 g=true) (hd:Nat.blt d n.1=true) (o:CF h0 h) (hS:∀b,S b→b<h0.size)
  (k:∀v h',CF h h'→U3 S h0 r e (List.replicate len.toNat zx) v h'→Rh h v→LF P q Q p B h' n ((d,v)::m)):LF P q Q (⟨some d,.makeSlice T U V,ty,s,Y,none⟩::p) B h n m:=by
 simp only[KM,gG,hO] at u;obtain⟨⟨aa,ab⟩,I⟩:=u;obtain⟨a,rfl⟩:∃a:Nat,len=a:=⟨len.toNat,by omega⟩
 obtain⟨c,rfl⟩:∃c:Nat,cap=c:=⟨cap.toNat,by omega⟩
 have ad:((g*c:Nat):Int)≤140737488355328:=by rw[Int.natCast_mul];exact I
 have J:1≤g:=by simpa [Nat.blt] using y
 have ae:c≤g*c:=Nat.le_mul_of_pos_left _ J;have A:a≤c:=by omega
 have C:c≤maxLen:=by unfold maxLen;omega
 intro ac w M hw;refine wpList_plain rfl λK hK=>?_;unfold Oper.wp;obtain⟨i,zv,h1,h2,h3,h4,h5,h6,h7,h8⟩:=KF he;have D:=run_make (P:=P) w T e i zv h1 h2 h3 Z kc (a:Int) (c:Int) (by omega) (by omega) (by rw[h5];omega) (by unfold maxLen at C;omega);simp only[Int.toNat_natCast,h6,h4] at D;have F:(execOp ac.eval ⟨some d,.makeSlice T U V,ty,s,Y,none⟩).run P w= .ok (.value (.slice (some ⟨w.heap.size,0,none⟩) a c)) (w.alloc (.cells (madeCells z.toArray (c*sz)) e)):=by
  simp [execOp,M.eval hx,M.eval hy,D]
 rw[F];have W:∀b,S b→b<h.size:=λb G=>gJ (hS b G) o.siz;have l:(madeCells z.toArray (c*sz)).toList=(List.replicate c z).flatten:=by rw[←h7];exact LM z c (by omega)
 have X:(OS r e (.slice (some ⟨h.size,0,none⟩) a c) (List.replicate a zx)).holds S (λb=>b=h.size) (h.push (.cells (madeCells z.toArray (c*sz)) e)):=by
  refine .inr ⟨h.size,c,madeCells z.toArray (c*sz),by simp,λ_=>iM,Jr _ _,by simpa using A,C,by rw[size_madeCells,t],?_⟩;rw[l];have:((List.replicate c z).flatten).take ((List.replicate a zx).length*r.sz)=(List.replicate a z).flatten:=by
   obtain⟨j,rfl⟩:=Nat.exists_eq_add_of_le A;rw[←List.replicate_append_replicate,List.flatten_append,List.length_replicate,t,←h7];have:(List.replicate a z).flatten.length=a*z.length:=by simp
   rw[←this,jJ]
  rw[this];exact(Pj hz a).mono (λ_ x=>x) λb G=>Ed _ _ _ (W b G)
 have H:=hw.heap;have:=k (.slice (some ⟨w.heap.size,0,none⟩) a c) (h.push (.cells (madeCells z.toArray (c*sz)) e)) ⟨by simp,λb G=>Ed _ _ _ G⟩ (by rw[H];exact⟨h.size,c,by simp,o.siz,by simp,by simpa using X⟩) ⟨h.size,by rw[H];rfl,gN _⟩;exact hK _ _ (this _ _ (M.put hd _) (hw.alloc _))
def dX:SS Int:=λ_ _ vs x=>vs=[.int .i64 x]∧AA x
def Wj {a:Type}(r:BB a):SS (Int×List a):=λS b vs x=>∃v,vs=[.int .i64 x.1,v]∧AA x.1∧Sl S b r v x.2
def dX.len {S:Nat→Prop}{a:AT}{vs:List Value}{x:Int}(k:dX S a vs x):vs.length=1:=by rw[k.1];rfl
def dX.mono {S S':Nat→Prop}{a h':AT}{vs:List Value}{x:Int}(k:dX S a vs x) (_:B6 S a S' h'):dX S' h' vs x:=k
def Wj.len {a:Type}{r:BB a}{S:Nat→Prop}{b:AT}{vs:List Value}{x:Int×List a}(k:Wj r S b vs x):vs.length=2:=by obtain⟨v,e,_⟩:=k;rw[e];rfl
def Wj.mono {d:Type}{r:BB d}{S S':Nat→Prop}{g h':AT}{vs:List Value}{x:Int×List d}(k:Wj r S g vs x) (e:B6 S g S' h'):Wj r S' h' vs x:=by obtain⟨v,a,b,c⟩:=k;exact⟨v,a,b,c.mono' e⟩
open Go.ChangeMaps (setBlock)
def MI {κ β:Type}(kv:κ→Value) (vv:β→Value) (b r:Nat) (l rem:List (κ×β)):HP where
 holds:=λ_ F h=>(∀c,F c↔(c=b∨c=r))∧b≠r∧∃g a d seen,h[b]? =some (.map g a)∧g.toList.map (λe=>(e.key,e.val))=(l.map λe=>(kv e.1,vv e.2))∧Mu g.toList a∧
  h[r]? =some (.mapIter (some b) d seen a)∧d=a∧(leftOf g seen).toList.map (λe=>(e.key,e.val))=rem.map λe=>(kv e.1,vv e.2)
 loc:=λ⟨i,j,g,c,d,seen,k,m,n,o,p⟩ _ e=>⟨i,j,g,c,d,seen,(e _ (.inr ((i _).2 (.inl rfl)))).trans k,m,n,(e _ (.inr ((i _).2 (.inr rfl)))).trans o,p⟩
section
variable {P:Program}{ops:Array Oper}{Q:Exit→Act→World→Prop}{n:FN}{m:SM}{rest:List Oper}
variable {d:Nat}{ty:TypeId}{pos:String}{af:Array Edge}{X:Operand}{B:World}{h:AT}{S:Nat→Prop}{L:List HP}{t kt et:TypeId}{b r:Nat}
variable {κ β:Type}{kv:κ→Value}{vv:β→Value}{l rem:List (κ×β)}
def U4 (s:St S (MP kv vv b l::L) h) (g:BU m X=some (.map (some b))) (z:P.underlying t=some (.map kt et)) (hd:Nat.blt d n.1=true)
  (k:∀r h',St S (MI kv vv b r l l::L) h'→B6 S h S h'→LF P ops Q rest B h' n ((d,.pointer (some ⟨r,0,none⟩))::m)):LF P ops Q (⟨some d,.range t X,ty,pos,af,none⟩::rest) B h n m:=by
 intro a w u o;refine wpList_plain rfl λK p=>?_;unfold Oper.wp;obtain⟨F,⟨A,j,c,v,y,C⟩,D,_⟩:=s.2;have G:w.heap[b]? =some (.map j c):=by rw[o.heap];exact v
 have i:(execOp a.eval ⟨some d,.range t X,ty,pos,af,none⟩).run P w= .ok (.value (.pointer (some ⟨w.heap.size,0,none⟩))) (w.alloc (.mapIter (some b) c #[] c)):=by
  simp [execOp,u.eval g,Instr.range,run_underlying z,MapKept.run_getObj_map G,newObj,Sem.run]
 rw[i];have H:b<h.size:=(D b ((A b).2 rfl)).1;obtain⟨I,J⟩:=s.upd (H':=MI kv vv b h.size l l) (h':=h.push (.mapIter (some b) c #[] c)) .head (by simp) λF M U=>⟨λx=>x=b∨x=h.size,⟨λx=>iM,by omega,j,c,c,#[],by rw[Ed _ _ _ H];exact v,y,C,Jr _ _,rfl,by rw[show leftOf j #[]=j from Array.filter_eq_self.2 λx _=>(by simp)];exact y⟩,λx g=>g.imp (λe=>(M.1 x).2 e) λe=>by subst e;simp,λx g _=>Ed _ _ _ g⟩
 have q:=o.heap;exact p _ _ (k w.heap.size _ (by rw[q];exact I) J _ _ (u.put hd _) (o.alloc _))
def Xf {h:AT}{b r:Nat}{o:Obj}(a:r<h.size) (c:b≠r):(h.setIfInBounds r o)[b]? =h[b]? ∧(h.setIfInBounds r o)[r]? =some o∧(h.setIfInBounds r o).size=h.size:=
 ⟨by rw[kM (Ne.symm c)],by rw[Array.getElem?_setIfInBounds_self];simp [a],by simp⟩
def Wc (hs:St S (MI kv vv b r l rem::L) h) (q:BU m X=some (.pointer (some ⟨r,0,none⟩))) (hd:Nat.blt d n.1=true)
  (k0:rem=[]→LF P ops Q rest B h n ((d,.tuple #[.bool false])::m))
  (G:∀(x:κ×β) (t u:List (κ×β)) h',rem=t++x::u→St S (MI kv vv b r l (t++u)::L) h'→B6 S h S h'→(∀w,Wd B h' w→(Instr.entry (.pointer (some ⟨r,0,none⟩))).run P w= .ok (.tuple #[kv x.1,vv x.2]) w)→LF P ops Q rest B h' n ((d,.tuple #[.bool true,kv x.1,vv x.2])::m)):LF P ops Q (⟨some d,.next X false,ty,pos,af,none⟩::rest) B h n m:=by
 intro a w H v;refine wpList_plain rfl λK z=>?_;unfold Oper.wp;obtain⟨F,⟨g1,gn,k,c,g,seen,U,g3,I,g5,g6,J⟩,hF,_⟩:=hs.2;have hr:w.heap[r]? =some (.mapIter (some b) g seen c):=by rw[v.heap];exact g5
 have hb:w.heap[b]? =some (.map k c):=by rw[v.heap];exact U
 have V:r<h.size:=(hF r ((g1 r).2 (.inr rfl))).1;subst g6;rcases run_next_at (P:=P) w ty r b g g seen k g hr hb (λx q=>I.2 x q) (gN _) with ⟨h0,j⟩|⟨e,he,w1,hw1,j⟩
 ·have M:(execOp a.eval ⟨some d,.next X false,ty,pos,af,none⟩).run P w= .ok (.value (.tuple #[.bool false])) w:=by simp [execOp,H.eval q,j]
  rw[M];have A:rem=[]:=by
   have:(leftOf k seen).toList=[]:=by
    have:=Array.eq_empty_of_size_eq_zero h0;rw[this]
   rw[this] at J;cases rem with
   |nil=>rfl
   |cons _ _=>cases J
  exact z _ _ (k0 A _ _ (H.put hd _) v)
 ·have M:(execOp a.eval ⟨some d,.next X false,ty,pos,af,none⟩).run P w= .ok (.value (.tuple #[.bool true,e.key,e.val])) (setBlock w1 r (.mapIter (some b) g (seen.push e.born) g)):=by simp [execOp,H.eval q,j]
  rw[M];obtain⟨p1,p2,W⟩:=List.append_of_mem he;rw[W,jM,iF] at J;obtain⟨t,lx,hl,q1,q2⟩:=List.map_eq_append_iff.1 J.symm;obtain⟨x,u,Y,q3,q4⟩:=List.map_eq_cons_iff.1 q2;subst Y;have p:e.key=kv x.1∧e.val=vv x.2:=by
   have:=q3;simp only[jF] at this;exact⟨this.1.symm,this.2.symm⟩
  have C:((leftOf k seen).toList.map (·.born)).Nodup:=by
   unfold leftOf;rw[Array.toList_filter];exact(List.Sublist.map _ List.filter_sublist).nodup I.1
  have s:(leftOf k (seen.push e.born)).toList=p1++p2:=by
   have e1:(leftOf k (seen.push e.born)).toList=(leftOf k seen).toList.filter λy=>y.born != e.born:=by
    unfold leftOf;rw[Array.toList_filter,Array.toList_filter,List.filter_filter];congr 1;funext y;cases M:seen.contains y.born<;>cases h2:(y.born==e.born)<;>simp_all
   rw[e1,W,List.filter_append,List.filter_cons];rw[W,jM,iF,List.nodup_append] at C;obtain⟨_,n2,n3⟩:=C;obtain⟨n4,_⟩:=iY.1 n2;simp only[bne_self_eq_false,iR,iS];rw[List.filter_eq_self.2,List.filter_eq_self.2]
   ·intro y Z;simp only[bne_iff_ne,ne_eq];exact λe0=>n4 (by rw[←e0];exact iJ.2 ⟨y,Z,rfl⟩)
   ·intro y Z;simp only[bne_iff_ne,ne_eq];exact λe0=>n3 _ (iJ.2 ⟨y,Z,rfl⟩) _ (gY ..) e0
  obtain⟨s1,s2,s3⟩:=Xf (o:= .mapIter (some b) g (seen.push e.born) g) V gn;have aa:Wd B (h.setIfInBounds r (.mapIter (some b) g (seen.push e.born) g)) (setBlock w1 r (.mapIter (some b) g (seen.push e.born) g)):=by
   have i:Wd B h w1:=by
    rcases hw1 with rfl|rfl
    ·exact v
    ·exact v.drew
   exact⟨by show w1.heap.setIfInBounds _ _=_;rw[i.heap],i.os,i.tape,i.out⟩
  obtain⟨u1,u2⟩:=hs.upd (H':=MI kv vv b r l (t++u)) (h':=h.setIfInBounds r (.mapIter (some b) g (seen.push e.born) g)) .head (by omega) λF G k2=>⟨F,⟨G.1,gn,k,g,g,seen.push e.born,by rw[s1];exact U,g3,I,s2,rfl,by rw[s,jM,jM,q1,q4]⟩,λx q=> .inl q,λx q ab=>by
   have:x≠r:=λe=>ab ((G.1 x).2 (.inr e));rw[kM (Ne.symm this)]⟩
  have:=G x t u _ hl u1 u2 (λw' D=>by
   have:=run_entry_at (P:=P) w' r b g seen k g e (by rw[D.heap];exact s2) (by rw[D.heap,s1];exact U) (by
    have:e∈(leftOf k seen).toList:=he;unfold leftOf at this;rw[Array.toList_filter] at this;exact(iQ.1 this).1) I.1
   rw[this,p.1,p.2])
  rw[p.1,p.2];exact z _ _ (this _ _ (H.put hd _) aa)
def U2 {C:World→Prop}{Q:Act→Prop}{v:Value}(c:BU m X=some (.pointer (some ⟨r,0,none⟩))) (g:∀w,C w→(Instr.entry (.pointer (some ⟨r,0,none⟩))).run P w= .ok v w) (hd:Nat.blt d n.1=true)
  (k:QF P ops C Q rest n ((d,v)::m)):QF P ops C Q (⟨some d,.entry X,ty,pos,af,none⟩::rest) n m:=λa b=>
 Cu b hd (λw i=>by simp [execOp,b.eval c,g w i]) k
def St.miMP (g:St S (MI kv vv b r l rem::L) h):St S (MP kv vv b l::L) h:=by
 obtain⟨F,⟨i,q,j,c,d,seen,k,m,n,_⟩,o,p⟩:=g.2;exact⟨g.1,λx=>x=b,⟨λ_=>iM,j,c,k,m,n⟩,λx a=>o x ((i x).2 (.inl a)),p.mono λx a=>⟨a.1,λe=>a.2 ((i x).2 (.inl e))⟩⟩
end
def Vp {b:Type}{c:Bool}{a y:b}(h:cond c (some a) none=some y):y=a:=by cases c<;>simp_all
def W2 {d:Type}(c:Bool) (a b z:Option d):(cond c a b).or z=cond c (a.or z) (b.or z):=by cases c<;>rfl
def Uv {g i:Type}{f:g→Option i}{C:i}{x:g}{b c:List g}{K:Option i}{r:i}(d:∀e y,f e=some y→y=C) (E:cond ((b++x::c).all λe=>(f e).isNone) K (some C)=some r):(f x).or (cond ((b++c).all λe=>(f e).isNone) K (some C))=some r:=by
 cases a:f x with
 |none=>
  rw[Option.none_or];rw[List.all_append,List.all_cons,a] at E;rw[List.all_append];simpa using E
 |some y=>
  have:=d x y a;subst this;rw[List.all_append,List.all_cons,a] at E;simpa using E
def Wv:List Nat→Nat→List HP→Option (List HP)
 |[],m,L=>some (L.drop m)
 |i::is,m,L=>match L[i]? with
  |some H=>match Wv is m (L.eraseIdx i) with
   |some r=>some (H::r)
   |none=>none
  |none=>none
def T6:∀{L:List HP}{i:Nat}{H:HP},L[i]? =some H→OA L H (L.eraseIdx i)
 |[],i,H,h=>by simp at h
 |K::L,0,H,h=>by
  simp only[jB,hY] at h;subst h;exact .head
 |K::L,i+1,H,h=>by
  simp only[iX] at h;exact .tail (T6 h)
def Sp.dropn {S:Nat→Prop}{h:AT}:∀(m:Nat) {L:List HP}{A:Nat→Prop},Sp S L h A→Sp S (L.drop m) h A
 |0,L,A,k=>k
 |m+1,[],A,k=>k
 |m+1,H::L,A,⟨F,_,_,k⟩=>Sp.dropn m (k.mono λb a=>a.1)
def Sp.sel {S:Nat→Prop}{h:AT}:∀(is:List Nat) {m:Nat}{L a:List HP}{A:Nat→Prop},Wv is m L=some a→Sp S L h A→Sp S a h A
 |[],m,L,a,A,e,k=>by cases e;exact k.dropn m
 |i::is,m,L,a,A,e,k=>by
  simp only[Wv] at e;split at e
  ·rename_i H b;split at e
   ·rename_i r c;cases e;obtain⟨F,d,g,j⟩:=Sp.pick (T6 b) k;exact⟨F,d,g,Sp.sel is c j⟩
   ·cases e
  ·cases e
def St.sel {S:Nat→Prop}{h:AT}{L a:List HP}(b:St S L h) (is:List Nat) (m:Nat) (e:Wv is m L=some a):St S a h:=⟨b.1,Sp.sel is e b.2⟩
abbrev IV (B:World) (S:Nat→Prop) (h:AT) (n:FN) (a:Act) (w:World) (m:SM) (L:List HP) (F:(Nat→Prop)→AT→Prop):Prop:=∃(S':Nat→Prop) (h':AT),Fr n a m∧Wd B h' w∧St S' L h'∧B6 S h S' h'∧F S' h'
def T8 {vs:List Value}(h:vs.all (·.oneCell')=true):∀b∈vs,b.oneCell'=true:=λb a=>gE.1 h b a
section
variable {P:Program}{ops:Array Oper}{Q:Exit→Act→World→Prop}{n:FN}{m:SM}{rest:List Oper}
variable {d:Nat}{ty:TypeId}{pos:String}{af:Array Edge}{X Y:Operand}{B:World}{h:AT}{S:Nat→Prop}{L L2:List HP}{v:Value}
def DY {T d:TypeId}{b o:Nat}{cs vs cs':List Value}{sz:Nat}{ag:Bool}(g:BU m X=some (.pointer (some ⟨b,o,none⟩))) (i:BU m Y=some v) (j:v.cells=vs.toArray) (l:vs.all (·.oneCell')=true)
  (p:Ie P T sz ag=true) (c:vs.length=sz) (q:St S L h) (r:Lb L (Bx b d cs) (Bx b d cs') L2) (a:Nat.ble (o+sz) cs.length=true) (s:G7 cs o vs=cs')
  (k:∀h',St S L2 h'→B6 S h S h'→LF P ops Q rest B h' n m):LF P ops Q (⟨none,.store T X Y,ty,pos,af,none⟩::rest) B h n m:=Ld g i j (T8 l) p c q r a s k
def CV {T c:TypeId}{b:Nat}{cs vs:List Value}{sz:Nat}{ag:Bool}(d:BU m X=some (.pointer (some ⟨b,0,none⟩))) (g:BU m Y=some v) (i:v.cells=vs.toArray) (j:vs.all (·.oneCell')=true)
  (l:Ie P T sz ag=true) (a:Nat.beq vs.length sz=true) (o:St S L h) (r:Lb L (Bx b c cs) (Bx b c vs) L2) (p:Nat.beq cs.length sz=true)
  (k:∀h',St S L2 h'→B6 S h S h'→LF P ops Q rest B h' n m):LF P ops Q (⟨none,.store T X Y,ty,pos,af,none⟩::rest) B h n m:=by
 have q:=gH a;have s:=gH p;refine Ld d g i (T8 j) l q o r (by simp [s]) ?_ k;unfold G7;rw[jC (by omega)];simp
end
section
variable {P:Program}{ops:Array Oper}{C:World→Prop}{Q:Act→Prop}{n:FN}{m:SM}{rest:List Oper}{v:Value}
variable {d:Nat}{ty:TypeId}{pos:String}{af:Array Edge}{X Y:Operand}{h:AT}{S:Nat→Prop}{L:List HP}{t:TypeId}
def E4 {T b o:Nat}{cs:List Value}(g:CK C h) (i:St S L h) (j:BU m X=some (.pointer (some ⟨b,o,none⟩))) (l:Bx b T cs∈L) (c:cs[o]? =some v) (p:Ie P t 1 false=true) (hd:Nat.blt d n.1=true)
  (k:QF P ops C Q rest n ((d,v)::m)):QF P ops C Q (⟨some d,.load t X,ty,pos,af,none⟩::rest) n m:=by
 have e:(cs.drop o).take 1=[v]:=by
  have a:=(hJ.1 c).1;have q:=(hJ.1 c).2;rw[jX a,q];simp
 exact Eb (vs:=[v]) g i j l e rfl p rfl hd k
def aK {o:Oper}{j e:Nat}{b:Bool}{t:Value}(p:o.guard=some (j,b)) (q:(ops[j]?).bind (·.dst)=some e) (g:lk m e=some t) (s:yb t≠some b) (i:o.dst=some d) (hd:Nat.blt d n.1=true) (k:QF P ops C Q rest n ((d,undef)::m)):QF P ops C Q (o::rest) n m:=by
 intro a c;have l:Region.wanted o (yielded ops a.tmps)=false:=by
  have:=c.at_ e _ g;cases t<;>simp_all [Region.wanted,yielded,yb]
 unfold wpQuiet;rw[gL (by rw[l];exact Bool.false_ne_true),i];exact k _ (c.put hd _)
def cH (a:Op) (m:SM):Option Value:=
 match a with
 | .pick c x y=>match BU m c with
  |some (.bool true)=>BU m x
  |some (.bool false)=>BU m y
  |_=>none
 |_=>none
def Pv (ops:Array Oper) (k:Nat):List Oper→SM→Option SM
 |[],m=>some m
 |o::r,m=>match o.guard,o.dst with
  |some (j,b),some d=>match (ops[j]?).bind (·.dst) with
   |some e=>match lk m e with
    |some a=>match yb a,b with
     |some true,true=>match cH o.op m with
      |some v=>cond (Nat.blt d k) (Pv ops k r ((d,v)::m)) none
      |none=>none
     |some false,false=>match cH o.op m with
      |some v=>cond (Nat.blt d k) (Pv ops k r ((d,v)::m)) none
      |none=>none
     |_,_=>cond (Nat.blt d k) (Pv ops k r ((d,undef)::m)) none
    |none=>none
   |none=>none
  |none,some d=>match cH o.op m with
   |some v=>cond (Nat.blt d k) (Pv ops k r ((d,v)::m)) none
   |none=>none
  |_,none=>none
def MQ {a:Type}{c:Bool}{x:Option a}{y:a}(h:cond c x none=some y):c=true∧x=some y:=by cases c<;>simp_all
def Tx {a:Value}{b:Bool}(h:yb a=some b):a= .bool b:=by
 cases a<;>simp_all [yb]
def Ti {o:Oper}{d:Nat}{v:Value}(c:o.guard=none) (hd:o.dst=some d) (a:cH o.op m=some v) (g:Nat.blt d n.1=true) (k:QF P ops C Q rest n ((d,v)::m)):QF P ops C Q (o::rest) n m:=by
 obtain⟨j,l,p,i,q,s⟩:=o;simp only at c hd a;subst c hd;unfold cH at a;split at a
 ·split at a
  ·rename_i b;exact O6 b a g k
  ·rename_i b;exact O6 b a g k
  ·cases a
 ·cases a
def Ny:∀{l:List Oper}{m p:SM},Pv ops n.1 l m=some p→QF P ops C Q [] n p→QF P ops C Q l n m
 |[],m,p,h,k=>by cases h;exact k
 |o::r,m,p,h,k=>by
  simp only[Pv] at h;split at h
  ·rename_i j b d g hd;split at h
   ·rename_i e s;split at h
    ·rename_i B t;split at h
     ·rename_i w;split at h
      ·rename_i v i;obtain⟨a,c⟩:=MQ h;have:=Tx w;subst this;exact UZ g s t (Ti rfl hd i a (Ny c k))
      ·cases h
     ·rename_i w;split at h
      ·rename_i v i;obtain⟨a,c⟩:=MQ h;have:=Tx w;subst this;exact UZ g s t (Ti rfl hd i a (Ny c k))
      ·cases h
     ·rename_i x y;obtain⟨a,c⟩:=MQ h;refine aK g s t (λz=>?_) hd a (Ny c k);generalize A:yb B=zz at*
      subst z;revert x y;intro x y;exact Bool.rec (motive:=λq=>(some q=some true→q=true→False)→(some q=some false→q=false→False)→False) (λ_ h=>h rfl rfl) (λh _=>h rfl rfl) _ x y
    ·cases h
   ·cases h
  ·rename_i d g hd;split at h
   ·rename_i v i;obtain⟨a,c⟩:=MQ h;exact Ti g hd i a (Ny c k)
   ·cases h
  ·cases h
def AQ {b:SM}(c:cL (b.map (·.1)) m=some b):QF P ops C (λa=>Fr n a b) [] n m:=XV (kp _ c)
def A6 {l:List Oper}{c b:SM}(h:Pv ops n.1 l m=some c) (d:cL (b.map (·.1)) c=some b):QF P ops C (λa=>Fr n a b) l n m:=Ny h (AQ d)
end
section
variable {P:Program}{ops:Array Oper}{Q:Act→Prop}{n:FN}{m:SM}{rest:List Oper}{d:Nat}{ty:TypeId}{pos:String}{af:Array Edge}{X:Operand}{v:Value}{Ψ:Prop}{f:Nat}{xs:Array Operand}{tys:Array TypeId}{args vs:List Value}{first cap:Array Value}{h:AT}{B:World}{Z:(Nat→Prop)→AT→Prop}
def Ht (i:BU m X=some (.func (.func f) first cap)) (a:xs.toList.mapM (BU m)=some args) (c:first.toList++args++cap.toList=vs) (g:BH P f=true) (hd:Nat.blt d n.1=true)
  (j:∀h',CF h h'→B0 P f vs.toArray (λb=>b<h'.size) h' (λq S' l=>q=v∧Z S' l))
  (k:QF P ops (Cl B h) Q rest n ((d,v)::m)):QF P ops (Cl B h) Q (⟨some d,.call ⟨.value X,xs,tys⟩,ty,pos,af,none⟩::rest) n m:=
 G5 (Ψ:=True) i a c g hd (λh' o=>(j h' o).mono λ_ _ _ _ p=>⟨p.1,trivial⟩) λ_=>k
def Kz (i:BU m X=some (.func (.func f) first cap)) (a:xs.toList.mapM (BU m)=some args) (c:first.toList++args++cap.toList=vs) (g:BH P f=true) (hd:Nat.blt d n.1=true)
  (j:∀h',CF h h'→B0 P f vs.toArray (λb=>b<h'.size) h' (λq S' l=>q=v∧Ψ∧Z S' l))
  (k:Ψ→QF P ops (Cl B h) Q rest n ((d,v)::m)):QF P ops (Cl B h) Q (⟨some d,.call ⟨.value X,xs,tys⟩,ty,pos,af,none⟩::rest) n m:=
 G5 i a c g hd (λh' o=>(j h' o).mono λ_ _ _ _ p=>⟨p.1,p.2.1⟩) k
end
def iq {n:Int}(h:(decide (-9223372036854775808≤n)&&decide (n≤9223372036854775807))=true):AA n:=by
 simp only[gG,hO] at h;exact h
def Jb {n:Nat}(h:n≤maxLen):AA (n:Int):=by unfold maxLen at h;unfold AA;omega
section
variable {P:Program}{fn:Func}{B:World}{S S':Nat→Prop}{h h':AT}{post:Value→(Nat→Prop)→AT→Prop}{a:Act}{m:SM}{w:World}
def Oo {k t:Nat}{v:Value}(b:Fr (k,[]) a m) (c:Wd B h' w) (d:fn.results= #[.tmp t]) (g:lk m t=some v) (e:B6 S h S' h') (kp:post v S' h'):Rt P fn B S h post a w:=rt1 b d g c e kp
end
end Go.Proofs.YtedgiljmffngoaaGreat
