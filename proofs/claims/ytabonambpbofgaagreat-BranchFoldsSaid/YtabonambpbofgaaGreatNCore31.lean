import Derived.Test.YtabonambpbofgaaGreatNCore27
import Derived.OrdersHeld
import Derived.Test.YtabonambpbofgaaGreatNCore6
import Derived.Test.YtabonambpbofgaaGreatNCore18
namespace Go.Proofs.YtabonambpbofgaaGreat
set_option linter.all false
open Go.RowKit
section
variable {α:Type}{r:A5 α}{e T:TypeId}{v u:Value}{l:List α}{vs:List Value}{ll:List (List α)}{S F:Nat→Prop}{h:AS}{L L2:List HP}
def St.one {H:HP}(a:St S L h) (b:H∈L):St S [H] h:=by
 obtain⟨F,k,c⟩:=a.get b;exact⟨a.1,F,k,c,trivial⟩
def St.oolen (a:St S L h) (b:OO r e T v ll∈L):∃c cap,v= .slice c ll.length cap∧ll.length≤maxLen:=by
 obtain⟨vs,d,k⟩:=(a.one b).ooOpen;have:=k.oslen (Ac4 ..);rwa [d] at this
def IN (h:AS) (q u:Value):Prop:=∃a:Addr,q= .pointer (some a)∧Jm h a=some u
def Ab8 (u:Value) (k:Nat) (q:Value):Prop:=∃a n c,u= .slice (some a) n c∧q= .pointer (some (a.add k))
def cW {S:Nat→Prop}{i:Nat}(k:OS I1 T v vs |>.holds S F h) (b:vs[i]? =some u) {q:Value}(l:EP v i q):IN h q u:=by
 obtain⟨g,n,c,m,rfl⟩:=l;rcases k with ⟨⟨s,d⟩,k2,_⟩|⟨g',cap,cur,d,k2,k3,k4,k5,k6,k7⟩
 ·subst k2;simp at b
 ·rw[m] at d;injection d with a _ _
  injection a with a
  injection a with a _ _
  subst a;have o:=U0 k7;have p:i<vs.length:=(Acq.1 b).1;refine⟨_,rfl,?_⟩;simp only[Jm,k3,Afi,Aeb,Aec];have j:(cur.toList.take (vs.length*I1.sz))[i]? =some u:=by rw[o];exact b
  rw[Ad3 (by show i<vs.length*1;omega)] at j;simpa using j
def St.ooAt (A:St S L h) (B:OO r e T v ll∈L) {i:Nat}(w:ll[i]? =some l) {q:Value}(x:EP v i q):
  ∃u,IN h q u∧Sl (λb=>b<h.size) h r u l∧N8 (λb=>b<h.size) h q [u]:=by
 obtain⟨vs,C,k⟩:=(A.one B).ooOpen;have d:i<vs.length:=by rw[C];exact(Acq.1 w).1
 have y:vs[i]? =some vs[i]:=by simp [d]
 obtain⟨F,z,s⟩:=k.get (Ac4 ..);have m:=cW z y x;obtain⟨M,D,_⟩:=Ru (r:=r) (e:=e) y w;have G:St S (P8 (Vt r e vs ll)::[OS I1 T v vs]) h:=k.sel [1,0] 0 rfl;have H:=D G;refine⟨vs[i],m,H.oslAll (Ac4 ..),?_⟩;obtain⟨g,n,c,I,rfl⟩:=x;obtain⟨a,o,J⟩:=m;injection o with o
 injection o with o
 subst o;rcases z with ⟨⟨Q,t⟩,q2,_⟩|⟨g',cap,cur,t,q2,_⟩
 ·rw[q2] at d;exact absurd d (Nat.not_lt_zero _)
 ·rw[I] at t;injection t with p _ _
  injection p with p
  injection p with p _ _
  subst p;refine⟨⟨g,i,none⟩,rfl,rfl,(s g ((q2 g).2 rfl)).1,λj K=>?_⟩;simp only[List.length_singleton] at K;have:j=0:=by omega
  subst this;exact J
def OW.oslen {S X F:Nat→Prop}{h0 h:AS}{M:List HP}(k:OW S h0 X F M h) (a:OS r T v l∈M):∃b cap,v= .slice b l.length cap∧l.length≤maxLen:=by
 obtain⟨F,k,_⟩:=Sp.get a k;exact OS.len k
def OW.oolen {S X F:Nat→Prop}{h0 h:AS}{M:List HP}(k:OW S h0 X F M h) (a:OO r e T v ll∈M):∃b cap,v= .slice b ll.length cap∧ll.length≤maxLen:=by
 obtain⟨F,⟨vs,c,d,k,_⟩,_⟩:=Sp.get a k;rw[←c];exact OS.len k
def Pc {a:Type}:∀{l:List a}{i:Nat}{x:a},l[i]? =some x→l.set i x=l
 |[],_,_,h=>by simp at h
 |y::l,0,x,h=>by simp at h;rw[h];rfl
 |y::l,i+1,x,h=>by
  simp only[Aej] at h;rw[List.set_cons_succ,Pc h]
end
section
variable {P:Program}{ops:Array Oper}{C:World→Prop}{Q:Act→Prop}{Q2:Exit→Act→World→Prop}{n:FN}{m m':SM}{rest:List Oper}
variable {d:Nat}{ty:TypeId}{pos:String}{af:Array Edge}{X Y:Operand}{t:TypeId}{v p:Value}{B:World}{h:AS}{S:Nat→Prop}{L L2:List HP}
def RP {α}{r:A5 α}{ll:List (List α)}{c T e:Nat}{i:Int}{x:List α}(g:St S L h) (j:OO r c T v ll∈L) (l:B4 m X=some v) (o:B4 m Y=some (.int .i64 i)) (p:O3 P t e 1=true) (s:Go.Proofs.YtabonambpbofgaaGreat.ix ll i=some x) (hd:Nat.blt d n.1=true)
  (k:∀q,EP v (i.toNat*(A5.sl r).sz+0) q→QF P ops C Q rest n ((d,q)::m)):QF P ops C Q (⟨some d,.indexAddr t X Y,ty,pos,af,none⟩::rest) n m:=by
 obtain⟨vs,u,ks⟩:=(g.one j).ooOpen;obtain⟨h0,w⟩:=FB s;have a:i.toNat<vs.length:=by rw[u];exact(Acq.1 w).1
 have b:Go.Proofs.YtabonambpbofgaaGreat.ix vs i=some vs[i.toNat]:=by unfold Go.Proofs.YtabonambpbofgaaGreat.ix;rw[Ace (by omega)];simp [a]
 exact BY (r:=I1) ks (Ac4 ..) l o p b hd k
def iC {α}{r:A5 α}{ll:List (List α)}{e0 T aty e sz}(b:St S L h) (c:OO r e0 T v ll∈L) (g:B4 m X=some v) (i:O3 P t e sz=true) (hd:Nat.blt d n.1=true)
  (k:ll.length≤maxLen→QF P ops C Q rest n ((d,.int .i64 ll.length)::m)):QF P ops C Q (⟨some d,.call ⟨.builtin .len,#[X],#[t]⟩,aty,pos,af,none⟩::rest) n m:=by
 obtain⟨j,cap,rfl,a⟩:=b.oolen c;exact Pw g i hd (k a)
def Vc {α}{r:A5 α}{ll:List (List α)}{s T:Nat}{i:Int}{l:List α}{q:Value}(w:CK C h) (x:St S L h) (y:OO r s T v ll∈L) (z:B4 m X=some q) (A:Go.Proofs.YtabonambpbofgaaGreat.ix ll i=some l) (B:EP v (i.toNat*(A5.sl r).sz+0) q) (D:Kh P t 1 false=true) (hd:Nat.blt d n.1=true)
  (k:∀u,IN h q u→Sl (λb=>b<h.size) h r u l→QF P ops C Q rest n ((d,u)::m)):QF P ops C Q (⟨some d,.load t X,ty,pos,af,none⟩::rest) n m:=by
 have g:EP v i.toNat q:=by have:=B;rwa [show i.toNat*(A5.sl r).sz+0=i.toNat from Ad5 _] at this
 obtain⟨u,F,o,G⟩:=x.ooAt y (FB A).2 g;obtain⟨p,cap,H⟩:∃p cap,u= .slice p l.length cap:=by
  rcases o with ⟨c,j⟩|⟨a,cap,c,_⟩
  ·exact⟨none,0,by rw[c,j];rfl⟩
  ·exact⟨_,cap,c⟩
 have I:NX (λb=>b<h.size) S h I1 q u:=⟨[u],G,rfl,by rw[H];rfl⟩
 refine Le (r:=I1) w (λb J=>J) z I D (λ_=>rfl) hd λK M=>?_;obtain⟨cs,c,j,U⟩:=M;subst j;have:K=u:=c;subst this;exact k _ F o
def ZA {α}{r:A5 α}{l:List α}{A:Nat→Prop}{u:Value}{e:Nat}{i:Int}{x:α}(y:B4 m X=some u) (z:B4 m Y=some (.int .i64 i)) (k0:Sl A h r u l) (B:O3 P t e r.sz=true) (D:Go.Proofs.YtabonambpbofgaaGreat.ix l i=some x) (hd:Nat.blt d n.1=true)
  (k:∀q,Pt A h r q x→Ab8 u (i.toNat*r.sz) q→QF P ops C Q rest n ((d,q)::m)):QF P ops C Q (⟨some d,.indexAddr t X Y,ty,pos,af,none⟩::rest) n m:=by
 obtain⟨h0,v⟩:=FB D;have c:i.toNat<l.length:=(Acq.1 v).1;rcases k0 with ⟨_,F⟩|⟨a,cap,e1,e3,e4,e5⟩
 ·subst F;simp at c
 ·subst e1;obtain⟨g,p⟩:=e5 _ _ v;have j:a.add (i.toNat*r.sz)=⟨a.block,a.off+i.toNat*r.sz,none⟩:=by
   obtain⟨b,o,G⟩:=a;simp only at g;subst g;unfold Addr.add;split<;>simp_all
  intro H s;refine GI s hd (λw _=>by simp [execOp,s.eval y,s.eval z,MM (P:=P) (w:=w) (cap:=cap) (a:=a) B h0 c]) (k _ (by rw[j];exact p) ⟨a,_,_,rfl,rfl⟩)
def ZJ {α}{r:A5 α}{ll:List (List α)}{a T:Nat}{i:Int}{l b:List α}{q u:Value}(I:B4 m X=some q) (J:B4 m Y=some u) (K:EP v (i.toNat*(A5.sl r).sz+0) q) (Q:ix ll i=some l) (U:Kh P t 1 false=true)
  (F:St S (OS r a u b::OO r a T v ll::L) h) (k:∀h',St S (OO r a T v (upd ll i b)::L) h'→CJ S h S h'→LF P ops Q2 rest B h' n m):LF P ops Q2 (⟨none,.store t X Y,ty,pos,af,none⟩::rest) B h n m:=by
 obtain⟨h0,G⟩:=FB Q;have j:St S (OO r a T v ll::OS r a u b::L) h:=F.pick (.tail .head);obtain⟨vs,H,ks⟩:=j.ooOpen;have c:i.toNat<vs.length:=by rw[H];exact(Acq.1 G).1
 have o:ix vs i=some vs[i.toNat]:=by unfold ix;rw[Ace (by omega)];simp [c]
 have V:vs[i.toNat]? =some vs[i.toNat]:=by simp [c]
 obtain⟨ad,cap,p,_⟩:=F.oslen (Ac4 ..);have d:u.oneCell'=true:=by rw[p];rfl
 obtain⟨M,W,t2⟩:=Ru (r:=r) (e:=a) V G;refine Ed (r:=I1) (r':=I1) (i:=i) (x:=vs[i.toNat]) (g:=λ_ y=>y) (off:=0) (y:=u) I J ⟨[u],rfl,rfl,d⟩ K o Mh.id U (λ_=>rfl) ks .head λh' s Z=>k h' ?_ Z;have w:St S (P8 (Vt r a vs ll)::OS I1 T v (upd vs i u)::OS r a u b::L) h':=s.pick (.tail .head);have z:=W w;have A:St S (OS r a u b::P8 M::OS I1 T v (upd vs i u)::L) h':=by
  have:=z.drop .head;exact(this.pick (.tail (.tail .head)))
 have C:=t2 u b A;have D:St S (OS I1 T v (upd vs i u)::P8 (Vt r a (vs.set i.toNat u) (ll.set i.toNat b))::L) h':=C.pick (.tail .head);exact Qg (by simp [upd,H]) D
def mL {α}{r:A5 α}{ll:List (List α)}{o T:Nat}{i j:Int}{l:List α}{x y:α}{q A u Z:Value}(hx:B4 m X=some A) (hy:B4 m Y=some Z) (C:Rd S h r Z y) (ep:EP v (i.toNat*(A5.sl r).sz+0) q) (D:IN h q u) (G:Ab8 u (j.toNat*r.sz) A)
  (hi:ix ll i=some l) (z:ix l j=some x) (ht:Kh P t r.sz r.ag=true) (h1:r.ag=false→r.sz=1)
  (hs:St S (OO r o T v ll::L) h) (k:∀h',St S (OO r o T v (upd ll i (upd l j y))::L) h'→CJ S h S h'→LF P ops Q2 rest B h' n m):LF P ops Q2 (⟨none,.store t X Y,ty,pos,af,none⟩::rest) B h n m:=by
 obtain⟨h0,p⟩:=FB hi;obtain⟨vs,hl,ks⟩:=hs.ooOpen;have H:i.toNat<vs.length:=by rw[hl];exact(Acq.1 p).1
 have I:vs[i.toNat]? =some vs[i.toNat]:=by simp [H]
 have J:EP v i.toNat q:=by have:=ep;rwa [show i.toNat*(A5.sl r).sz+0=i.toNat from Ad5 _] at this
 obtain⟨F,k1,aa⟩:=ks.get (Ac4 ..);have he:vs[i.toNat]=u:=by
  obtain⟨a,a1,a2⟩:=cW k1 I J;obtain⟨a',d,b2⟩:=D;rw[a1] at d;injection d with d
  injection d with d
  subst d;rw[a2] at b2;exact Acg b2
 obtain⟨M,t1,t2⟩:=Ru (r:=r) (e:=o) I p;have K:St S (P8 (Vt r o vs ll)::OS I1 T v vs::L) h:=ks.pick (.tail .head);have b:=t1 K;rw[he] at b;have Q:EP u (j.toNat*r.sz+0) A:=by
  obtain⟨F3,s,_⟩:=b.get (Ac4 ..);obtain⟨a,nn,c,e1,e2⟩:=G;rcases s with ⟨⟨ad,s⟩,z2,_⟩|⟨g,cap,cur,s,_⟩
  ·subst z2;unfold ix at z;split at z<;>simp at z
  ·rw[e1] at s;injection s with U _ _
   injection U with U
   subst U;refine⟨g,nn,c,e1,?_⟩;rw[e2,Th,Adj];rfl
 refine Ed (r:=r) (r':=r) (i:=j) (x:=x) (g:=λ_ y=>y) (off:=0) (y:=y) hx hy C Q z Mh.id ht h1 b .head λh' V e'=>k h' ?_ e';have W:=t2 u (upd l j y) V;have w:St S (OS I1 T v vs::P8 (Vt r o (vs.set i.toNat u) (ll.set i.toNat (upd l j y)))::L) h':=W.pick (.tail .head);rw[Pc (he▸I)] at w;exact Qg (by simp [upd,hl]) w
def mM {α}(r:A5 α) (i:Nat) {T e a:Nat}{len cap:Int}{j l:IntKind}{U V:Operand}(o:Nc P T=some (e,1,a,[.slice none 0 0]))
  (p:B4 m U=some (.int j len)) (q:B4 m V=some (.int l cap)) (c:LU len cap a=true) (b:Nat.blt 0 a=true) (hd:Nat.blt d n.1=true) (s:St S L h)
  (k:∀v h',St S (OO r i e v (List.replicate len.toNat ([]:List α))::L) h'→CJ S h S h'→LF P ops Q2 rest B h' n ((d,v)::m)):LF P ops Q2 (⟨some d,.makeSlice T U V,ty,pos,af,none⟩::rest) B h n m:=
 Lf (r:=I1) (zx:= .slice none 0 0) o rfl ⟨rfl,rfl⟩ p q c b hd s λv h' g t=>k v h' g.ooNil t
end
def St.zs {α}{S:Nat→Prop}{L:List HP}{h:AS}(b:St S L h) (r:A5 α) (T:TypeId) (a:Option Addr):St S (OS r T (.slice a 0 0) ([]:List α)::L) h:=
 (b.add (Acr _) (λ_ _=>rfl) ⟨λ_=>False,Or.inl ⟨⟨a,rfl⟩,rfl,λ_ x=>x⟩,λ_ x=>x.elim⟩).1
section
variable {P:Program}{ops:Array Oper}{C:World→Prop}{Q:Act→Prop}{Q2:Exit→Act→World→Prop}{n:FN}{m m':SM}{rest:List Oper}
variable {d:Nat}{ty:TypeId}{pos:String}{af:Array Edge}{X Y Z:Operand}{t:TypeId}{kd kd2:IntKind}{v p:Value}{S:Nat→Prop}{h:AS}{B:World}{L:List HP}
def lV {α}{r:A5 α}{e:TypeId}{l:List α}(j:B4 m X=some v) (o:B4 m Y=some (.int kd 0)) (p:B4 m Z=some (.int kd2 0)) (k0:Sl S h r v l) (q:O3 P t e r.sz=true) (hd:Nat.blt d n.1=true)
  (k:∀b,QF P ops C Q rest n ((d,.slice b 0 0)::m)):QF P ops C Q (⟨some d,.slice t X none (some Y) (some Z),ty,pos,af,none⟩::rest) n m:=λa c=>by
 obtain⟨i,s⟩:=Nv q;obtain⟨b,len,cap,rfl⟩:∃b len cap,v= .slice b len cap:=by
  rcases k0 with ⟨g,_⟩|⟨a,cap,g,_⟩
  ·exact⟨none,0,0,g⟩
  ·exact⟨_,_,_,g⟩
 refine GI c hd (λw _=>?_) (k b);simp [execOp,c.eval j,c.eval o,c.eval p,run_sliceAt_slice _ _ _ _ _ _ i,run_slice_hm w t b len cap i kd kd2 0 0 (by omega) (by omega) (by omega),s,sliced]
def uM {e sz:Nat}(g:B4 m X=some (.slice none 0 0)) (i:B4 m Y=some (.int kd 0)) (j:O3 P t e sz=true) (hd:Nat.blt d n.1=true)
  (k:QF P ops C Q rest n ((d,.slice none 0 0)::m)):QF P ops C Q (⟨some d,.slice t X none (some Y) none,ty,pos,af,none⟩::rest) n m:=λa b=>by
 obtain⟨c,l⟩:=Nv j;refine GI b hd (λw _=>?_) k;simp [execOp,b.eval g,b.eval i,run_sliceAt_slice _ _ _ _ _ _ c,run_slice_h w t none 0 0 c kd 0 (by omega) (by omega),l,sliced]
def lU {e sz:Nat}(g:B4 m X=some (.slice none 0 0)) (i:B4 m Y=some (.int kd 0)) (j:B4 m Z=some (.int kd2 0)) (l:O3 P t e sz=true) (hd:Nat.blt d n.1=true)
  (k:QF P ops C Q rest n ((d,.slice none 0 0)::m)):QF P ops C Q (⟨some d,.slice t X none (some Y) (some Z),ty,pos,af,none⟩::rest) n m:=λa b=>by
 obtain⟨c,o⟩:=Nv l;refine GI b hd (λw _=>?_) k;simp [execOp,b.eval g,b.eval i,b.eval j,run_sliceAt_slice _ _ _ _ _ _ c,run_slice_hm w t none 0 0 c kd kd2 0 0 (by omega) (by omega) (by omega),o,sliced]
def mN {t s e sz g:Nat}{z:List Value}{kq H:IntKind}{y:Int}(I:B4 m X=some (.slice none 0 0)) (J:B4 m Y=some (.int kq y)) (M:Nc P t=some (e,sz,g,z)) (Q:P.underlying s=some (.int H))
  (h0:0<y) (u:HQ y.toNat g=true) (v:Nat.blt 0 g=true) (hd:Nat.blt d n.1=true) (U:St S L h)
  (k:∀b c' cs' h',y.toNat≤c'→c'≤maxLen→cs'.length=c'*sz→St S (Bx b e cs'::L) h'→CJ S h S h'→LF P ops Q2 rest B h' n ((d,.slice (some ⟨b,0,none⟩) y.toNat c')::m)):
  LF P ops Q2 (⟨some d,.call ⟨.builtin .append,#[X,Y],#[t,s]⟩,ty,pos,af,none⟩::rest) B h n m:=by
 intro a w x o;obtain⟨j,rfl⟩:∃j:Nat,y=j:=⟨y.toNat,by omega⟩
 have u:=(Nx u).le;simp only[Adm] at u k;have p:0<g:=(by simpa [Nat.blt] using v:1≤g)
 obtain⟨i,l,V,W,Z,u4,u5,u6,u7,u8⟩:=Mc M;have aa:j≤j*g:=Nat.le_mul_of_pos_right _ p;have q:=Lib.run_append_nil_zeros (P:=P) w t s ty e i l kq H V Q W Z j (by omega) (by omega) (by omega) (by rw[u5];omega);refine wpList_plain rfl λK hK=>?_;unfold Oper.wp;have A:(execOp a.eval ⟨some d,.call ⟨.builtin .append,#[X,Y],#[t,s]⟩,ty,pos,af,none⟩).run P w= .ok (.value (.slice (some ⟨w.heap.size,0,none⟩) j (grownCap w j 0 e)))
   (w.drew.alloc (.cells (Builtin.zeroCells l.cells j++Builtin.zeroCells l.cells (grownCap w j 0 e-j)) e)):=by
  simp [execOp,resolve,invoke,builtin,x.eval I,x.eval J,q]
 rw[A];have C:=grownCap_ge w j 0 e;have D:=grownCap_le_maxLen w j 0 e (by unfold maxLen;omega);have F:l.cells.size=sz:=by rw[u6];simpa using u7
 have c:=U.push e (Builtin.zeroCells l.cells j++Builtin.zeroCells l.cells (grownCap w j 0 e-j)).toList;rw[Array.toArray_toList] at c;have G:=(show Wd B h w.drew from⟨o.heap,o.os,o.tape,o.out⟩).alloc (.cells (Builtin.zeroCells l.cells j++Builtin.zeroCells l.cells (grownCap w j 0 e-j)) e);have hz:w.heap.size=h.size:=by rw[o.heap]
 rw[hz];refine hK _ _ (k _ _ _ _ C D ?_ c.1 c.2 _ _ (x.put hd _) G);simp only[Array.length_toList,Array.size_append,size_zeroCells,F,←Adz];congr 1;omega
def Ms {o:Oper}{j e:Nat}{b:Bool}(g:o.guard=some (j,b)) (i:(ops[j]?).bind (·.dst)=some e) (l:lk m e=some (.bool b)) (k:LF P ops Q2 ({ o with guard:=none}::rest) B h n m):LF P ops Q2 (o::rest) B h n m:=by
 intro a w d p;have q:Region.wanted o (yielded ops a.tmps)=true:=by
  have:=d.at_ e _ l;simp [Region.wanted,g,yielded,i,this]
 have c:=k a w d p;unfold wpList at c ⊢;rw[Acf (by simp [Region.wanted])] at c;rw[Acf q];exact c
def Ab6 {l:List Oper}{b c:Bool}(a:b=c) (k:QF P ops C Q l n ((d,.bool c)::m)):QF P ops C Q l n ((d,.bool b)::m):=a▸k
def GJ {l:List Oper}{b c:Bool}(a:b=c) (k:LF P ops Q2 l B h n ((d,.bool c)::m)):LF P ops Q2 l B h n ((d,.bool b)::m):=a▸k
def uL {b len cap e sz:Nat}(a:B4 m X=some (.slice (some ⟨b,0,none⟩) len cap)) (c:B4 m Y=some (.int kd 0)) (g:O3 P t e sz=true) (hd:Nat.blt d n.1=true)
  (k:QF P ops C Q rest n ((d,.slice (some ⟨b,0,none⟩) 0 cap)::m)):QF P ops C Q (⟨some d,.slice t X none (some Y) none,ty,pos,af,none⟩::rest) n m:=
 Xl a c (j:=0) rfl g (Aci _) hd k
def Aa9 (P:Program) (t:TypeId):Bool:=match P.underlying t with|some (.slice _)=>true|_=>false
def lY (g:B4 m X=some v) (b:Aa9 P t=true) (hd:Nat.blt d n.1=true) (k:QF P ops C Q rest n ((d,.iface t v)::m)):QF P ops C Q (⟨some d,.makeInterface t X,ty,pos,af,none⟩::rest) n m:=λa c=>by
 unfold Aa9 at b;split at b
 ·rename_i e i;refine GI c hd (λw _=>?_) k;simp [execOp,c.eval g,Instr.makeInterface,run_underlying i]
 ·cases b
end
def cV {α}{S:Nat→Prop}{h:AS}{r:A5 α}{cs:List Value}:Me S h r (cs.take (([]:List α).length*r.sz)) ([]:List α):=by
 show cs.take (0*r.sz)=[]
 rw[Nat.zero_mul];rfl
section
variable {P:Program}{ex:List (Nat×AP)}{RR N:AP}{cs:List Code}{B:World}{h:AS}{n:FN}{m m':SM}{S:Nat→Prop}{L:List HP}{C:World→Prop}{l:List Oper}{fuel:Nat}{listed:Array Bool}
variable {d:Nat}{ty:TypeId}{pos:String}{af:Array Edge}{X Y:Operand}{t:TypeId}{v:Value}
def HF (P:Program) (l:List Oper) (Q:Exit→Act→World→Prop) (C:World→Prop) (fuel:Nat) (listed:Array Bool) (B:World) (h:AS) (n:FN) (m:SM):Prop:=
 ∀a w,Fr n a m→Wd B h w→wpAnyH P .any l.toArray Q C fuel listed a w
abbrev QW (P:Program) (ex:List (Nat×AP)) (RR:AP) (cs:List Code) (N:AP):Exit→Act→World→Prop:=Qx ex RR (W P ex RR cs N)
def Sf (l:List Oper) (listed:Array Bool) (i:Nat):Bool:=Region.noSelect l.toArray&&Region.free .any l.toArray listed i&&(Region.ready .any l.toArray listed).contains i
def Ti {id:Nat}(C:World→Prop) (c:P.follows .mixedOrders=true) (k:HF P l (QW P ex RR cs N) C l.toArray.size (Array.replicate l.toArray.size false) B h n m):WF P ex RR (.region id l.toArray true::cs) N B h n m:=
 λa w d g i b=>QR b Nk c (wpAny_of_held _ _ _ _ (k a _ d g.drew))
def Pe {o:Op}(i:Nat) (q:l[i]? =some ⟨some d,o,ty,pos,af,none⟩) (c:Sf l listed i=true) (s:∀w,Wd B h w→C w) (hd:Nat.blt d n.1=true)
  (b:∀a w,Fr n a m→C w→(execOp a.eval ⟨some d,o,ty,pos,af,none⟩).run P w= .ok (.value v) w) (k:HF P l (QW P ex RR cs N) C fuel (listed.setIfInBounds i true) B h n ((d,v)::m)):HF P l (QW P ex RR cs N) C (fuel+1) listed B h n m:=by
 intro a w j p;simp only[Sf,Acj] at c;exact wpAnyH_take (oi:=⟨some d,o,ty,pos,af,none⟩) (v:=v) (by simpa using q) c.1.1 c.1.2 c.2 (λ_ _ _ t=>t.elim) (.inl ⟨by simp [Region.wanted],λw' g=>b a w' j g⟩) (s w p) (k _ _ (j.put hd v) p)
def QE (i:Nat) (b:l[i]? =some ⟨some d,.move X,ty,pos,af,none⟩) (c:Sf l listed i=true) (g:∀w,Wd B h w→C w) (j:B4 m X=some v) (hd:Nat.blt d n.1=true) (k:HF P l (QW P ex RR cs N) C fuel (listed.setIfInBounds i true) B h n ((d,v)::m)):HF P l (QW P ex RR cs N) C (fuel+1) listed B h n m:=
 Pe i b c g hd (λa w o _=>by simp [execOp,o.eval j]) k
def iN (i:Nat) (b:l[i]? =some ⟨some d,.assign X,ty,pos,af,none⟩) (c:Sf l listed i=true) (g:∀w,Wd B h w→C w) (j:B4 m X=some v) (hd:Nat.blt d n.1=true) (k:HF P l (QW P ex RR cs N) C fuel (listed.setIfInBounds i true) B h n ((d,v)::m)):HF P l (QW P ex RR cs N) C (fuel+1) listed B h n m:=
 Pe i b c g hd (λa w o _=>by simp [execOp,o.eval j]) k
def Vm (i:Nat) {b o j off:Nat}(p:l[i]? =some ⟨some d,.fieldAddr t X j,ty,pos,af,none⟩) (c:Sf l listed i=true) (q:∀w,Wd B h w→C w) (s:B4 m X=some (.pointer (some ⟨b,o,none⟩))) (u:aA P t j off=true) (hd:Nat.blt d n.1=true) (k:HF P l (QW P ex RR cs N) C fuel (listed.setIfInBounds i true) B h n ((d,.pointer (some ⟨b,o+off,none⟩))::m)):HF P l (QW P ex RR cs N) C (fuel+1) listed B h n m:=
 have g:(⟨b,o,none⟩:Addr).add off=⟨b,o+off,none⟩:=by unfold Addr.add;split<;>simp_all
 Pe i p c q hd (λa w v _=>by simp [execOp,v.eval s,MN u,g]) k
def Pd (i:Nat) {b o sz T:Nat}{ag:Bool}{q vs:List Value}(s:l[i]? =some ⟨some d,.load t X,ty,pos,af,none⟩) (c:Sf l listed i=true) (u:∀w,Wd B h w→C w) (v:B4 m X=some (.pointer (some ⟨b,o,none⟩))) (y:∀w,C w→w.heap[b]? =some (.cells q.toArray T (0,0))) (z:(q.drop o).take sz=vs) (A:Nat.beq vs.length sz=true) (D:Kh P t sz ag=true) (F:(ag||Nat.beq sz 1)=true) (hd:Nat.blt d n.1=true)
  (k:HF P l (QW P ex RR cs N) C fuel (listed.setIfInBounds i true) B h n ((d,if ag then .agg vs.toArray else vs.headD undef)::m)):HF P l (QW P ex RR cs N) C (fuel+1) listed B h n m:=
 Pe i s c u hd (λa w G H=>by
  have I:(Bx b T q).holds (λ_=>True) (λx=>x=b) w.heap:=⟨λ_=>Iff.rfl,y w H⟩
  have g:=Aco A;have:=NC (P:=P) (w:=w) (S:=λ_=>True) (p:= .pointer (some ⟨b,o,none⟩)) (cs:=vs) (sz:=sz) (ag:=ag) (t:=t) ⟨⟨b,o,none⟩,rfl,rfl,trivial,λj J=>by
   rw[Bx.cell I,←z,Ad3 (by omega),Aes]⟩ g D (λe=>by subst e;simpa using F)
  simp [execOp,G.eval v,this]) k
def Vk (i:Nat) {α}{r:A5 α}{xs:List α}{T e:Nat}{j:Int}{x:α}(s:l[i]? =some ⟨some d,.indexAddr t X Y,ty,pos,af,none⟩) (c:Sf l listed i=true) (u:∀w,Wd B h w→C w) (y:St S L h) (z:OS r T v xs∈L) (A:B4 m X=some v) (D:B4 m Y=some (.int .i64 j)) (F:O3 P t e r.sz=true) (o:ix xs j=some x) (hd:Nat.blt d n.1=true)
  (k:∀q,EP v (j.toNat*r.sz+0) q→HF P l (QW P ex RR cs N) C fuel (listed.setIfInBounds i true) B h n ((d,q)::m)):HF P l (QW P ex RR cs N) C (fuel+1) listed B h n m:=by
 obtain⟨g,cap,rfl,H⟩:=y.osAt z (FB o).2;have G:j.toNat<xs.length:=(Acq.1 (FB o).2).1;have b:(⟨g,0,none⟩:Addr).add (j.toNat*r.sz)=⟨g,j.toNat*r.sz,none⟩:=by unfold Addr.add;split<;>simp_all
 exact Pe i s c u hd (λa w p I=>by simp [execOp,p.eval A,p.eval D,MM (P:=P) (w:=w) (cap:=cap) (a:=⟨g,0,none⟩) F (FB o).1 G,b]) (k _ ⟨g,_,_,rfl,rfl⟩)
def Z5 (i:Nat) {o:Oper}(p:l[i]? =some o) (d:o.guard=none) (c:Region.ready .any l.toArray listed=[i])
  (k:LF P l.toArray (Exit.then (λq w'=>C w'∧wpAnyH P .any l.toArray (QW P ex RR cs N) C fuel (listed.setIfInBounds i true) q w') (QW P ex RR cs N)) [o] B h n m):HF P l (QW P ex RR cs N) C (fuel+1) listed B h n m:=by
 intro a w s t;refine wpAnyH_all c (by simp) λj g=>?_;rw[Ac3] at g;subst g;unfold wpOp;have b:l.toArray[j]? =some o:=by simpa using p
 simp only[b];rw[Acf (by simp [Region.wanted,d])];exact Jz d (k a w s t)
def EJ {Q:Exit→Act→World→Prop}{b:Array Oper}(d:∀w,Wd B h w→C w) (k:HF P l (QW P ex RR cs N) C fuel listed B h n m):LF P b (Exit.then (λg w'=>C w'∧wpAnyH P .any l.toArray (QW P ex RR cs N) C fuel listed g w') Q) [] B h n m:=
 λa w i c=>⟨d w c,k a w i c⟩
def KJ (c:Region.ready .any l.toArray listed=[]) (b:Un m m') (k:WF P ex RR cs N B h n m'):HF P l (QW P ex RR cs N) C fuel listed B h n m:=
 λa w d g=>wpAnyH_done c (k a w (d.sub b) g) _
def St.bxW {b T:Nat}{vs:List Value}(a:St S L h) (c:Bx b T vs∈L) {w:World}(d:Wd B h w):w.heap[b]? =some (.cells vs.toArray T (0,0)):=by
 rw[d.heap];exact a.bxcell c
end
section
variable {P:Program}
end
section
variable {P:Program}{ops:Array Oper}{C:World→Prop}{Q:Act→Prop}{n:FN}{m:SM}{rest:List Oper}{d:Nat}{ty:TypeId}{pos:String}{af:Array Edge}{X Y:Operand}{t2:TypeId}
end
section
variable {P:Program}{ex:List (Nat×AP)}{RR N:AP}{cs:List Code}{B:World}{h:AS}{n:FN}{m m0:SM}
end
abbrev vI (n:Int):Value:= .int .i64 n
abbrev vP (b o:Nat):Value:= .pointer (some ⟨b,o,none⟩)
abbrev vN:Value:= .slice none 0 0
section
variable {P:Program}{ops:Array Oper}{C:World→Prop}{Q:Act→Prop}{n:FN}{m m':SM}{rest:List Oper}
variable {d:Nat}{ty:TypeId}{pos:String}{af:Array Edge}{X Y:Operand}{t t1 t2:TypeId}{x y:Int}{kd:IntKind}{v p:Value}
def AD (e:(B4 m X,Nat.blt d n.1)=(some v,true)) (k:QF P ops C Q rest n ((d,v)::m)):QF P ops C Q (⟨some d,.move X,ty,pos,af,none⟩::rest) n m:=
 oZ (Ach (λz=>z.1) e) (Ach (λz=>z.2) e) k
def DB (e:(B4 m X,Nat.blt d n.1)=(some v,true)) (k:QF P ops C Q rest n ((d,v)::m)):QF P ops C Q (⟨some d,.assign X,ty,pos,af,none⟩::rest) n m:=
 iH (Ach (λz=>z.1) e) (Ach (λz=>z.2) e) k
def Ld {b}(e:(B4 m X,Nat.blt d n.1)=(some (.bool b),true)) (k:QF P ops C Q rest n ((d,.bool (!b))::m)):QF P ops C Q (⟨some d,.unOp .not t1 X,ty,pos,af,none⟩::rest) n m:=
 hJ (Ach (λz=>z.1) e) (Ach (λz=>z.2) e) k
def AO {o:Oper}{j e:Nat}{b:Bool}(e:(o.guard,(ops[j]?).bind (·.dst),lk m e)=(some (j,b),some e,some (.bool b))) (k:QF P ops C Q ({ o with guard:=none}::rest) n m):QF P ops C Q (o::rest) n m:=
 ZC (Ach (λz=>z.1) e) (Ach (λz=>z.2.1) e) (Ach (λz=>z.2.2) e) k
def AW {c X Y:Operand}{b:Bool}(e:(B4 m c,B4 m (if b then X else Y),Nat.blt d n.1)=(some (.bool b),some v,true)) (k:QF P ops C Q rest n ((d,v)::m)):QF P ops C Q (⟨some d,.pick c X Y,ty,pos,af,none⟩::rest) n m:=
 RO (Ach (λz=>z.1) e) (Ach (λz=>z.2.1) e) (Ach (λz=>z.2.2) e) k
def JX (e:(B4 m X,B4 m Y,Nat.blt d n.1)=(some (.int kd x),some (.int kd y),true)) (k:QF P ops C Q rest n ((d,.bool (decide (x<y)))::m)):QF P ops C Q (⟨some d,.binOp .lss t1 X Y t2,ty,pos,af,none⟩::rest) n m:=
 iB (Ach (λz=>z.1) e) (Ach (λz=>z.2.1) e) (Ach (λz=>z.2.2) e) k
def KI (e:(B4 m X,B4 m Y,Nat.blt d n.1)=(some (.int kd x),some (.int kd y),true)) (k:QF P ops C Q rest n ((d,.bool (decide (y<x)))::m)):QF P ops C Q (⟨some d,.binOp .gtr t1 X Y t2,ty,pos,af,none⟩::rest) n m:=
 iD (Ach (λz=>z.1) e) (Ach (λz=>z.2.1) e) (Ach (λz=>z.2.2) e) k
def ZD (e:(B4 m X,B4 m Y,Nat.blt d n.1)=(some (.int kd x),some (.int kd y),true)) (k:QF P ops C Q rest n ((d,.bool (decide (y≤x)))::m)):QF P ops C Q (⟨some d,.binOp .geq t1 X Y t2,ty,pos,af,none⟩::rest) n m:=
 iE (Ach (λz=>z.1) e) (Ach (λz=>z.2.1) e) (Ach (λz=>z.2.2) e) k
def C6 (e:(B4 m X,B4 m Y,Nat.blt d n.1)=(some (.int kd x),some (.int kd y),true)) (k:QF P ops C Q rest n ((d,.bool (decide (x=y)))::m)):QF P ops C Q (⟨some d,.binOp .eql t1 X Y t2,ty,pos,af,none⟩::rest) n m:=
 iG (Ach (λz=>z.1) e) (Ach (λz=>z.2.1) e) (Ach (λz=>z.2.2) e) k
def K0 (e:(B4 m X,B4 m Y,Nat.blt d n.1)=(some (.int kd x),some (.int kd y),true)) (k:QF P ops C Q rest n ((d,.bool (decide (x≠y)))::m)):QF P ops C Q (⟨some d,.binOp .neq t1 X Y t2,ty,pos,af,none⟩::rest) n m:=
 iA (Ach (λz=>z.1) e) (Ach (λz=>z.2.1) e) (Ach (λz=>z.2.2) e) k
def Ja (e:(B4 m X,B4 m Y,Nat.blt d n.1)=(some (.int .i64 x),some (.int .i64 y),true)) (k:QF P ops C Q rest n ((d,.int .i64 (BT (x+y)))::m)):QF P ops C Q (⟨some d,.binOp .add t1 X Y t2,ty,pos,af,none⟩::rest) n m:=
 mG (Ach (λz=>z.1) e) (Ach (λz=>z.2.1) e) (Ach (λz=>z.2.2) e) k
def Tm (e:(B4 m X,B4 m Y,Nat.blt d n.1)=(some (.int .i64 x),some (.int .i64 y),true)) (k:QF P ops C Q rest n ((d,.int .i64 (BT (x-y)))::m)):QF P ops C Q (⟨some d,.binOp .sub t1 X Y t2,ty,pos,af,none⟩::rest) n m:=
 lR (Ach (λz=>z.1) e) (Ach (λz=>z.2.1) e) (Ach (λz=>z.2.2) e) k
def D4 {xs:Array Value}{i:Nat}{u:Value}(e:(B4 m X,xs[i]?,Nat.blt d n.1)=(some (.tuple xs),some u,true)) (k:QF P ops C Q rest n ((d,u)::m)):QF P ops C Q (⟨some d,.extract X i,ty,pos,af,none⟩::rest) n m:=
 iF (Ach (λz=>z.1) e) (Ach (λz=>z.2.1) e) (Ach (λz=>z.2.2) e) k
def BL {o:Oper}{j e:Nat}(e:(o.guard,(ops[j]?).bind (·.dst),lk m e,o.dst,Nat.blt d n.1)=(some (j,true),some e,some (.bool false),some d,true)) (k:QF P ops C Q rest n ((d,undef)::m)):QF P ops C Q (o::rest) n m:=
 vA (Ach (λz=>z.1) e) (Ach (λz=>z.2.1) e) (Ach (λz=>z.2.2.1) e) (Ach (λz=>z.2.2.2.1) e) (Ach (λz=>z.2.2.2.2) e) k
end
section
variable {P:Program}{ex:List (Nat×AP)}{R N:AP}{cs:List Code}{B:World}{h:AS}{n:FN}{m m':SM}
def Ct {l:List Oper}{id:Nat}{y:Code}(k:QF P l.toArray (Wd B h) (λa=>∀w,Wd B h w→W P ex R (y::cs) N a w) l n m):WF P ex R (.seq (.region id l.toArray false) y::cs) N B h n m:=CU (ID (.inl rfl) k)
def WF.sl {l:List Oper}{id:Nat}{y:Code}(k:LF P l.toArray (Qx ex R (W P ex R (y::cs) N)) l B h n m):WF P ex R (.seq (.region id l.toArray false) y::cs) N B h n m:=CU (DQ k)
def C3 {ops:Array Oper}{C:World→Prop}{d:Nat}{ty:TypeId}{pos:String}{af:Array Edge}{X:Operand}{v:Value}(e:(B4 m X,Nat.blt d n.1)=(some v,true)) (b:Un ((d,v)::m) m') (k:WF P ex R cs N B h n m'):QF P ops C (λa=>∀w,Wd B h w→W P ex R cs N a w) [⟨some d,.assign X,ty,pos,af,none⟩] n m:=DB e (Ea b k)
def AH {ex:List (Nat×AP)}{R N:AP}{m:SM}{b:Bool}{k:Type}{a d r:k}{X:Operand}{x y:Code}(g:B4 m X=some (.bool b)) (E:cond b a d=r) (i:b=true→a=r→WF P ex R (x::cs) N B h n m) (j:b=false→d=r→WF P ex R (y::cs) N B h n m):WF P ex R (.cond X x y::cs) N B h n m:=IW g (λc=>i c (HW c E)) (λc=>j c (HX c E))
def LG {P:Program}{ops:Array Oper}{C:World→Prop}{Q:Exit→Act→World→Prop}{B:World}{n:FN}{d:Nat}{R:Value→AS→Prop}{h:AS}{m:SM}{v:Value}(r:R v h):QF P ops C (λa=>∀w,Wd B h w→wpList P ops (Exit.then (KS B n d R h m) Q) [] a w) [] n ((d,v)::m):=AE (BB (EY.refl _) r)
end
end Go.Proofs.YtabonambpbofgaaGreat
