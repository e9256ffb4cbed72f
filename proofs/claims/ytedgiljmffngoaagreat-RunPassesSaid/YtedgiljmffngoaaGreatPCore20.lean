import Derived.Test.YtedgiljmffngoaaGreatPCore18
import Derived.Maps.RangeRun
namespace Go.Proofs.YtedgiljmffngoaaGreat
set_option linter.all false
open Go.RowKit
def vG:List Nat→SM→Option SM
 |[],_=>some []
 |k::a,m=>match lk m k with
  |some v=>match vG a m with
   |some r=>some ((k,v)::r)
   |none=>none
  |none=>none
def kp:∀{m a:SM}(b:List Nat),vG b m=some a→Ty m a
 |m,a,[],g=>by cases g;trivial
 |m,a,k::b,g=>by
  simp only[vG] at g;split at g
  ·rename_i v c;split at g
   ·rename_i r d;cases g;exact⟨c,kp b d⟩
   ·cases g
  ·cases g
def Zj {c:Type}(S:Nat→Prop) (d:AS) (r:A6 c) (T:TypeId) (l:List c) (v:Value) (a:AS):Prop:=∃g cap,v= .slice (some ⟨g,0,none⟩) l.length cap∧d.size≤g∧g<a.size∧(OS r T v l).holds S (λb=>b=g) a
def Zj.mono {q:Type}{S:Nat→Prop}{s a c:AS}{r:A6 q}{T:TypeId}{l:List q}{v:Value}(k:Zj S s r T l v a) (i:∀b,S b→b<s.size) (o:DT a c):Zj S s r T l v c:=by
 obtain⟨g,cap,j,m,d,n⟩:=k;exact⟨g,cap,j,m,Aak d o.siz,HP.loc _ n (λ_ x=>x) λb p=>o.same b (p.elim (λx=>by have:=i b x;omega) λx=>by subst x;exact d)⟩
def kT {d:Type}{S:Nat→Prop}{i:AS}{r:A6 d}{T:TypeId}{l:List d}:Tz (Zj S i r T l):=λv c ⟨g,_,a,_,b,_⟩=>⟨g,by rw[a];rfl,b⟩
def PJ {b:Type}{R:AR}{S:Nat→Prop}{c:AS}{r:A6 b}{a T:Nat}{l:List b}{is:List Nat}(e:R a=Zj S c r T l) (t:∀i,i∈is→Tz (R i)):∀i,i∈a::is→Tz (R i):=We (by rw[e];exact kT) t
def Np {u:Type}{S:Nat→Prop}{L:List HP}{w d:AS}{i:List Nat}{r:A6 u}{g T:Nat}{v:Value}{l:List u}(k:Wi S w d i L) (j:w.size≤g) (m:g<d.size) (n:(OS r T v l).holds S (λb=>b=g) d) (o:g∉i):Wi S w d (g::i) (OS r T v l::L):=by
 obtain⟨p,q,s,t⟩:=k;refine⟨p,q,λc a=>?_,λc=>c=g,n,λc a=>by subst a;exact .inr (Aax ..),t.mono λc a=>⟨a.imp_right (Aa1 _),λe=>?_⟩⟩
 ·rcases Aae.1 a with rfl|a
  ·exact⟨j,m⟩
  ·exact s c a
 ·subst e;rcases a with a|a
  ·have:=a.1;omega
  ·exact o a
def Th {α:Type}{P:Program}{q:Array Oper}{Q:Exit→Act→World→Prop}{n:FN}{m:SM}{p:List Oper}{d:Nat}{ty:TypeId}{s:String}{Y:Array Edge}{B:World}{S:Nat→Prop}{h0 h:AS}{r:A6 α}{T e sz g:Nat}{z:List Value}{zx:α}{len cap:Int}{Z kc:IntKind}{U V:Operand}(he:OR P T=some (e,sz,g,z)) (t:r.sz=sz) (hz:r.rd S h z zx)
  (hx:BV m U=some (.int Z len)) (hy:BV m V=some (.int kc cap)) (u:KR len cap g=true) (y:Nat.blt 0 g=true) (hd:Nat.blt d n.1=true) (o:DT h0 h) (hS:∀b,S b→b<h0.size)
  (k:∀v h',DT h h'→Zj S h0 r e (List.replicate len.toNat zx) v h'→Wh h v→LF P q Q p B h' n ((d,v)::m)):LF P q Q (⟨some d,.makeSlice T U V,ty,s,Y,none⟩::p) B h n m:=by
 simp only[KR,Aaa,Aam] at u;obtain⟨⟨aa,ab⟩,I⟩:=u;obtain⟨a,rfl⟩:∃a:Nat,len=a:=⟨len.toNat,by omega⟩
 obtain⟨c,rfl⟩:∃c:Nat,cap=c:=⟨cap.toNat,by omega⟩
 have ad:((g*c:Nat):Int)≤140737488355328:=by rw[Int.natCast_mul];exact I
 have J:1≤g:=by simpa [Nat.blt] using y
 have ae:c≤g*c:=Nat.le_mul_of_pos_left _ J;have A:a≤c:=by omega
 have C:c≤maxLen:=by unfold maxLen;omega
 intro ac w M hw;refine wpList_plain rfl λK hK=>?_;unfold Oper.wp;obtain⟨i,zv,h1,h2,h3,h4,h5,h6,h7,h8⟩:=Kz he;have D:=run_make (P:=P) w T e i zv h1 h2 h3 Z kc (a:Int) (c:Int) (by omega) (by omega) (by rw[h5];omega) (by unfold maxLen at C;omega);simp only[Abh,h6,h4] at D;have F:(execOp ac.eval ⟨some d,.makeSlice T U V,ty,s,Y,none⟩).run P w= .ok (.value (.slice (some ⟨w.heap.size,0,none⟩) a c)) (w.alloc (.cells (madeCells z.toArray (c*sz)) e)):=by
  simp [execOp,M.eval hx,M.eval hy,D]
 rw[F];have W:∀b,S b→b<h.size:=λb G=>Aak (hS b G) o.siz;have l:(madeCells z.toArray (c*sz)).toList=(List.replicate c z).flatten:=by rw[←h7];exact Mb z c (by omega)
 have X:(OS r e (.slice (some ⟨h.size,0,none⟩) a c) (List.replicate a zx)).holds S (λb=>b=h.size) (h.push (.cells (madeCells z.toArray (c*sz)) e)):=by
  refine .inr ⟨h.size,c,madeCells z.toArray (c*sz),by simp,λ_=>Abx,Kn _ _,by simpa using A,C,by rw[size_madeCells,t],?_⟩;rw[l];have:((List.replicate c z).flatten).take ((List.replicate a zx).length*r.sz)=(List.replicate a z).flatten:=by
   obtain⟨j,rfl⟩:=Nat.exists_eq_add_of_le A;rw[←List.replicate_append_replicate,List.flatten_append,Adb,t,←h7];have:(List.replicate a z).flatten.length=a*z.length:=by simp
   rw[←this,Acu]
  rw[this];exact(R5 hz a).mono (λ_ x=>x) λb G=>Gp _ _ _ (W b G)
 have H:=hw.heap;have:=k (.slice (some ⟨w.heap.size,0,none⟩) a c) (h.push (.cells (madeCells z.toArray (c*sz)) e)) ⟨by simp,λb G=>Gp _ _ _ G⟩ (by rw[H];exact⟨h.size,c,by simp,o.siz,by simp,by simpa using X⟩) ⟨h.size,by rw[H];rfl,Aal _⟩;exact hK _ _ (this _ _ (M.put hd _) (hw.alloc _))
def wX:VW Int:=λ_ _ vs x=>vs=[.int .i64 x]∧AA x
def gG {a:Type}(r:A6 a):VW (Int×List a):=λS b vs x=>∃v,vs=[.int .i64 x.1,v]∧AA x.1∧Sl S b r v x.2
def wX.len {S:Nat→Prop}{a:AS}{vs:List Value}{x:Int}(k:wX S a vs x):vs.length=1:=by rw[k.1];rfl
def wX.mono {S S':Nat→Prop}{a h':AS}{vs:List Value}{x:Int}(k:wX S a vs x) (_:CG S a S' h'):wX S' h' vs x:=k
def gG.len {a:Type}{r:A6 a}{S:Nat→Prop}{b:AS}{vs:List Value}{x:Int×List a}(k:gG r S b vs x):vs.length=2:=by obtain⟨v,e,_⟩:=k;rw[e];rfl
def gG.mono {d:Type}{r:A6 d}{S S':Nat→Prop}{g h':AS}{vs:List Value}{x:Int×List d}(k:gG r S g vs x) (e:CG S g S' h'):gG r S' h' vs x:=by obtain⟨v,a,b,c⟩:=k;exact⟨v,a,b,c.mono' e⟩
open Go.ChangeMaps (setBlock)
def MI {κ β:Type}(kv:κ→Value) (vv:β→Value) (b r:Nat) (l rem:List (κ×β)):HP where
 holds:=λ_ F h=>(∀c,F c↔(c=b∨c=r))∧b≠r∧∃es a d seen,h[b]? =some (.map es a)∧es.toList.map (λe=>(e.key,e.val))=(l.map λe=>(kv e.1,vv e.2))∧OE es.toList a∧
  h[r]? =some (.mapIter (some b) d seen a)∧d=a∧(leftOf es seen).toList.map (λe=>(e.key,e.val))=rem.map λe=>(kv e.1,vv e.2)
 loc:=λ⟨g,i,es,c,d,seen,j,k,m,n,o⟩ _ e=>⟨g,i,es,c,d,seen,(e _ (.inr ((g _).2 (.inl rfl)))).trans j,k,m,(e _ (.inr ((g _).2 (.inr rfl)))).trans n,o⟩
section
variable {P:Program}{ops:Array Oper}{Q:Exit→Act→World→Prop}{n:FN}{m:SM}{rest:List Oper}
variable {d:Nat}{ty:TypeId}{pos:String}{af:Array Edge}{X:Operand}{B:World}{h:AS}{S:Nat→Prop}{L:List HP}{t kt et:TypeId}{b r:Nat}
variable {κ β:Type}{kv:κ→Value}{vv:β→Value}{l rem:List (κ×β)}
def Zl (q:St S (MP kv vv b l::L) h) (g:BV m X=some (.map (some b))) (y:P.underlying t=some (.map kt et)) (hd:Nat.blt d n.1=true)
  (k:∀r h',St S (MI kv vv b r l l::L) h'→CG S h S h'→LF P ops Q rest B h' n ((d,.pointer (some ⟨r,0,none⟩))::m)):LF P ops Q (⟨some d,.range t X,ty,pos,af,none⟩::rest) B h n m:=by
 intro a w s j;refine wpList_plain rfl λK o=>?_;unfold Oper.wp;obtain⟨F,⟨z,es,c,u,v,A⟩,C,_⟩:=q.2;have D:w.heap[b]? =some (.map es c):=by rw[j.heap];exact u
 have i:(execOp a.eval ⟨some d,.range t X,ty,pos,af,none⟩).run P w= .ok (.value (.pointer (some ⟨w.heap.size,0,none⟩))) (w.alloc (.mapIter (some b) c #[] c)):=by
  simp [execOp,s.eval g,Instr.range,run_underlying y,MapKept.run_getObj_map D,newObj,Sem.run]
 rw[i];have G:b<h.size:=(C b ((z b).2 rfl)).1;obtain⟨H,I⟩:=q.upd (H':=MI kv vv b h.size l l) (h':=h.push (.mapIter (some b) c #[] c)) .head (by simp) λF J M=>⟨λx=>x=b∨x=h.size,⟨λx=>Abx,by omega,es,c,c,#[],by rw[Gp _ _ _ G];exact u,v,A,Kn _ _,rfl,by rw[show leftOf es #[]=es from Array.filter_eq_self.2 λx _=>(by simp)];exact v⟩,λx g=>g.imp (λe=>(J.1 x).2 e) λe=>by subst e;simp,λx g _=>Gp _ _ _ g⟩
 have p:=j.heap;exact o _ _ (k w.heap.size _ (by rw[p];exact H) I _ _ (s.put hd _) (j.alloc _))
def kV {h:AS}{b r:Nat}{o:Obj}(a:r<h.size) (c:b≠r):(h.setIfInBounds r o)[b]? =h[b]? ∧(h.setIfInBounds r o)[r]? =some o∧(h.setIfInBounds r o).size=h.size:=
 ⟨by rw[Ad3 (Ne.symm c)],by rw[Array.getElem?_setIfInBounds_self];simp [a],by simp⟩
def fW (hs:St S (MI kv vv b r l rem::L) h) (p:BV m X=some (.pointer (some ⟨r,0,none⟩))) (hd:Nat.blt d n.1=true)
  (k0:rem=[]→LF P ops Q rest B h n ((d,.tuple #[.bool false])::m))
  (C:∀(x:κ×β) (l1 s:List (κ×β)) h',rem=l1++x::s→St S (MI kv vv b r l (l1++s)::L) h'→CG S h S h'→(∀w,Wd B h' w→(Instr.entry (.pointer (some ⟨r,0,none⟩))).run P w= .ok (.tuple #[kv x.1,vv x.2]) w)→LF P ops Q rest B h' n ((d,.tuple #[.bool true,kv x.1,vv x.2])::m)):LF P ops Q (⟨some d,.next X false,ty,pos,af,none⟩::rest) B h n m:=by
 intro a w D t;refine wpList_plain rfl λK u=>?_;unfold Oper.wp;obtain⟨F,⟨g1,gn,es,c,g,seen,J,g3,G,g5,g6,H⟩,hF,_⟩:=hs.2;have hr:w.heap[r]? =some (.mapIter (some b) g seen c):=by rw[t.heap];exact g5
 have hb:w.heap[b]? =some (.map es c):=by rw[t.heap];exact J
 have M:r<h.size:=(hF r ((g1 r).2 (.inr rfl))).1;subst g6;rcases run_next_at (P:=P) w ty r b g g seen es g hr hb (λx p=>G.2 x p) (Aal _) with ⟨h0,j⟩|⟨e,he,w1,hw1,j⟩
 ·have I:(execOp a.eval ⟨some d,.next X false,ty,pos,af,none⟩).run P w= .ok (.value (.tuple #[.bool false])) w:=by simp [execOp,D.eval p,j]
  rw[I];have v:rem=[]:=by
   have:(leftOf es seen).toList=[]:=by
    have:=Array.eq_empty_of_size_eq_zero h0;rw[this]
   rw[this] at H;cases rem with
   |nil=>rfl
   |cons _ _=>cases H
  exact u _ _ (k0 v _ _ (D.put hd _) t)
 ·have I:(execOp a.eval ⟨some d,.next X false,ty,pos,af,none⟩).run P w= .ok (.value (.tuple #[.bool true,e.key,e.val])) (setBlock w1 r (.mapIter (some b) g (seen.push e.born) g)):=by simp [execOp,D.eval p,j]
  rw[I];obtain⟨p1,p2,U⟩:=List.append_of_mem he;rw[U,Abt,Aaz] at H;obtain⟨l1,lx,hl,q1,q2⟩:=List.map_eq_append_iff.1 H.symm;obtain⟨x,s,V,q3,q4⟩:=List.map_eq_cons_iff.1 q2;subst V;have k:e.key=kv x.1∧e.val=vv x.2:=by
   have:=q3;simp only[Acs] at this;exact⟨this.1.symm,this.2.symm⟩
  have z:((leftOf es seen).toList.map (·.born)).Nodup:=by
   unfold leftOf;rw[Array.toList_filter];exact(List.Sublist.map _ List.filter_sublist).nodup G.1
  have q:(leftOf es (seen.push e.born)).toList=p1++p2:=by
   have e1:(leftOf es (seen.push e.born)).toList=(leftOf es seen).toList.filter λy=>y.born != e.born:=by
    unfold leftOf;rw[Array.toList_filter,Array.toList_filter,List.filter_filter];congr 1;funext y;cases I:seen.contains y.born<;>cases h2:(y.born==e.born)<;>simp_all
   rw[e1,U,Ac0,List.filter_cons];rw[U,Abt,Aaz,List.nodup_append] at z;obtain⟨_,n2,n3⟩:=z;obtain⟨n4,_⟩:=Ace.1 n2;simp only[bne_self_eq_false,Ab4,Ab5];rw[List.filter_eq_self.2,List.filter_eq_self.2]
   ·intro y W;simp only[bne_iff_ne,ne_eq];exact λY=>n4 (by rw[←Y];exact Abg.2 ⟨y,W,rfl⟩)
   ·intro y W;simp only[bne_iff_ne,ne_eq];exact λY=>n3 _ (Abg.2 ⟨y,W,rfl⟩) _ (Aax ..) Y
  obtain⟨s1,s2,s3⟩:=kV (o:= .mapIter (some b) g (seen.push e.born) g) M gn;have Z:Wd B (h.setIfInBounds r (.mapIter (some b) g (seen.push e.born) g)) (setBlock w1 r (.mapIter (some b) g (seen.push e.born) g)):=by
   have i:Wd B h w1:=by
    rcases hw1 with rfl|rfl
    ·exact t
    ·exact t.drew
   exact⟨by show w1.heap.setIfInBounds _ _=_;rw[i.heap],i.os,i.tape,i.out⟩
  obtain⟨u1,u2⟩:=hs.upd (H':=MI kv vv b r l (l1++s)) (h':=h.setIfInBounds r (.mapIter (some b) g (seen.push e.born) g)) .head (by omega) λF C k2=>⟨F,⟨C.1,gn,es,g,g,seen.push e.born,by rw[s1];exact J,g3,G,s2,rfl,by rw[q,Abt,Abt,q1,q4]⟩,λx p=> .inl p,λx p aa=>by
   have:x≠r:=λe=>aa ((C.1 x).2 (.inr e));rw[Ad3 (Ne.symm this)]⟩
  have:=C x l1 s _ hl u1 u2 (λw' A=>by
   have:=run_entry_at (P:=P) w' r b g seen es g e (by rw[A.heap];exact s2) (by rw[A.heap,s1];exact J) (by
    have:e∈(leftOf es seen).toList:=he;unfold leftOf at this;rw[Array.toList_filter] at this;exact(Abp.1 this).1) G.1
   rw[this,k.1,k.2])
  rw[k.1,k.2];exact u _ _ (this _ _ (D.put hd _) Z)
def Zh {C:World→Prop}{Q:Act→Prop}{v:Value}(c:BV m X=some (.pointer (some ⟨r,0,none⟩))) (g:∀w,C w→(Instr.entry (.pointer (some ⟨r,0,none⟩))).run P w= .ok v w) (hd:Nat.blt d n.1=true)
  (k:QF P ops C Q rest n ((d,v)::m)):QF P ops C Q (⟨some d,.entry X,ty,pos,af,none⟩::rest) n m:=λa b=>
 Dx b hd (λw i=>by simp [execOp,b.eval c,g w i]) k
def St.miMP (g:St S (MI kv vv b r l rem::L) h):St S (MP kv vv b l::L) h:=by
 obtain⟨F,⟨i,p,es,c,d,seen,j,k,m,_⟩,n,o⟩:=g.2;exact⟨g.1,λx=>x=b,⟨λ_=>Abx,es,c,j,k,m⟩,λx a=>n x ((i x).2 (.inl a)),o.mono λx a=>⟨a.1,λe=>a.2 ((i x).2 (.inl e))⟩⟩
end
def dY {b:Type}{c:Bool}{a y:b}(h:cond c (some a) none=some y):y=a:=by cases c<;>simp_all
def iK {d:Type}(c:Bool) (a b z:Option d):(cond c a b).or z=cond c (a.or z) (b.or z):=by cases c<;>rfl
def ZU {d g:Type}{f:d→Option g}{C:g}{x:d}{l1 b:List d}{K:Option g}{r:g}(c:∀e y,f e=some y→y=C) (E:cond ((l1++x::b).all λe=>(f e).isNone) K (some C)=some r):(f x).or (cond ((l1++b).all λe=>(f e).isNone) K (some C))=some r:=by
 cases a:f x with
 |none=>
  rw[Option.none_or];rw[List.all_append,List.all_cons,a] at E;rw[List.all_append];simpa using E
 |some y=>
  have:=c x y a;subst this;rw[List.all_append,List.all_cons,a] at E;simpa using E
end Go.Proofs.YtedgiljmffngoaaGreat
