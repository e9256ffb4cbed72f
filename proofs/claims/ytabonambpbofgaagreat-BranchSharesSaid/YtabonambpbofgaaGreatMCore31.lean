import Derived.Test.YtabonambpbofgaaGreatMCore27
import Derived.OrdersHeld
import Derived.Test.YtabonambpbofgaaGreatMCore6
import Derived.Test.YtabonambpbofgaaGreatMCore18
namespace Go.Proofs.YtabonambpbofgaaGreat
set_option linter.all false
open Go.RowKit
section
variable {α:Type}{r:A5 α}{e T:TypeId}{v u:Value}{l:List α}{vs:List Value}{ll:List (List α)}{S F:Nat→Prop}{h:AO}{L L2:List HP}
def St.one {H:HP}(a:St S L h) (b:H∈L):St S [H] h:=by
 obtain⟨F,k,c⟩:=a.get b;exact⟨a.1,F,k,c,trivial⟩
def St.oolen (a:St S L h) (b:OO r e T v ll∈L):∃c cap,v= .slice c ll.length cap∧ll.length≤maxLen:=by
 obtain⟨vs,d,k⟩:=(a.one b).ooOpen;have:=k.oslen (Abf ..);rwa [d] at this
def IN (h:AO) (q u:Value):Prop:=∃a:Addr,q= .pointer (some a)∧JN h a=some u
def Aam (u:Value) (k:Nat) (q:Value):Prop:=∃a n c,u= .slice (some a) n c∧q= .pointer (some (a.add k))
def bO {S:Nat→Prop}{i:Nat}(k:OS Ij T v vs |>.holds S F h) (b:vs[i]? =some u) {q:Value}(l:EP v i q):IN h q u:=by
 obtain⟨g,n,c,m,rfl⟩:=l;rcases k with ⟨⟨s,d⟩,k2,_⟩|⟨g',cap,cur,d,k2,k3,k4,k5,k6,k7⟩
 ·subst k2;simp at b
 ·rw[m] at d;injection d with a _ _
  injection a with a
  injection a with a _ _
  subst a;have o:=UU k7;have p:i<vs.length:=(Aa4.1 b).1;refine⟨_,rfl,?_⟩;simp only[JN,k3,Adu,Aco,Acp];have j:(cur.toList.take (vs.length*Ij.sz))[i]? =some u:=by rw[o];exact b
  rw[Acg (by show i<vs.length*1;omega)] at j;simpa using j
def St.ooAt (A:St S L h) (B:OO r e T v ll∈L) {i:Nat}(w:ll[i]? =some l) {q:Value}(x:EP v i q):
  ∃u,IN h q u∧Sl (λb=>b<h.size) h r u l∧Nc (λb=>b<h.size) h q [u]:=by
 obtain⟨vs,C,k⟩:=(A.one B).ooOpen;have d:i<vs.length:=by rw[C];exact(Aa4.1 w).1
 have y:vs[i]? =some vs[i]:=by simp [d]
 obtain⟨F,z,s⟩:=k.get (Abf ..);have m:=bO z y x;obtain⟨M,D,_⟩:=RG (r:=r) (e:=e) y w;have G:St S (PZ (VL r e vs ll)::[OS Ij T v vs]) h:=k.sel [1,0] 0 rfl;have H:=D G;refine⟨vs[i],m,H.oslAll (Abf ..),?_⟩;obtain⟨g,n,c,I,rfl⟩:=x;obtain⟨a,o,J⟩:=m;injection o with o
 injection o with o
 subst o;rcases z with ⟨⟨Q,t⟩,q2,_⟩|⟨g',cap,cur,t,q2,_⟩
 ·rw[q2] at d;exact absurd d (Nat.not_lt_zero _)
 ·rw[I] at t;injection t with p _ _
  injection p with p
  injection p with p _ _
  subst p;refine⟨⟨g,i,none⟩,rfl,rfl,(s g ((q2 g).2 rfl)).1,λj K=>?_⟩;simp only[List.length_singleton] at K;have:j=0:=by omega
  subst this;exact J
def OW.oslen {S X F:Nat→Prop}{h0 h:AO}{M:List HP}(k:OW S h0 X F M h) (a:OS r T v l∈M):∃b cap,v= .slice b l.length cap∧l.length≤maxLen:=by
 obtain⟨F,k,_⟩:=Sp.get a k;exact OS.len k
def OW.oolen {S X F:Nat→Prop}{h0 h:AO}{M:List HP}(k:OW S h0 X F M h) (a:OO r e T v ll∈M):∃b cap,v= .slice b ll.length cap∧ll.length≤maxLen:=by
 obtain⟨F,⟨vs,c,d,k,_⟩,_⟩:=Sp.get a k;rw[←c];exact OS.len k
def O2 {a:Type}:∀{l:List a}{i:Nat}{x:a},l[i]? =some x→l.set i x=l
 |[],_,_,h=>by simp at h
 |y::l,0,x,h=>by simp at h;rw[h];rfl
 |y::l,i+1,x,h=>by
  simp only[Acs] at h;rw[List.set_cons_succ,O2 h]
end
section
variable {P:Program}{ops:Array Oper}{C:World→Prop}{Q:Act→Prop}{Q2:Exit→Act→World→Prop}{n:FN}{m m':SM}{rest:List Oper}
variable {d:Nat}{ty:TypeId}{pos:String}{af:Array Edge}{X Y:Operand}{t:TypeId}{v p:Value}{B:World}{h:AO}{S:Nat→Prop}{L L2:List HP}
def Qm {α}{r:A5 α}{ll:List (List α)}{c T e:Nat}{i:Int}{x:List α}(g:St S L h) (j:OO r c T v ll∈L) (l:Bz m X=some v) (o:Bz m Y=some (.int .i64 i)) (p:OT P t e 1=true) (s:Go.Proofs.YtabonambpbofgaaGreat.ix ll i=some x) (hd:Nat.blt d n.1=true)
  (k:∀q,EP v (i.toNat*(A5.sl r).sz+0) q→QF P ops C Q rest n ((d,q)::m)):QF P ops C Q (⟨some d,.indexAddr t X Y,ty,pos,af,none⟩::rest) n m:=by
 obtain⟨vs,u,ks⟩:=(g.one j).ooOpen;obtain⟨h0,w⟩:=Er s;have a:i.toNat<vs.length:=by rw[u];exact(Aa4.1 w).1
 have b:Go.Proofs.YtabonambpbofgaaGreat.ix vs i=some vs[i.toNat]:=by unfold Go.Proofs.YtabonambpbofgaaGreat.ix;rw[Aas (by omega)];simp [a]
 exact BS (r:=Ij) ks (Abf ..) l o p b hd k
def fH {α}{r:A5 α}{ll:List (List α)}{e0 T aty e sz}(b:St S L h) (c:OO r e0 T v ll∈L) (g:Bz m X=some v) (i:OT P t e sz=true) (hd:Nat.blt d n.1=true)
  (k:ll.length≤maxLen→QF P ops C Q rest n ((d,.int .i64 ll.length)::m)):QF P ops C Q (⟨some d,.call ⟨.builtin .len,#[X],#[t]⟩,aty,pos,af,none⟩::rest) n m:=by
 obtain⟨j,cap,rfl,a⟩:=b.oolen c;exact PL g i hd (k a)
def U6 {α}{r:A5 α}{ll:List (List α)}{s T:Nat}{i:Int}{l:List α}{q:Value}(w:CK C h) (x:St S L h) (y:OO r s T v ll∈L) (z:Bz m X=some q) (A:Go.Proofs.YtabonambpbofgaaGreat.ix ll i=some l) (B:EP v (i.toNat*(A5.sl r).sz+0) q) (D:KQ P t 1 false=true) (hd:Nat.blt d n.1=true)
  (k:∀u,IN h q u→Sl (λb=>b<h.size) h r u l→QF P ops C Q rest n ((d,u)::m)):QF P ops C Q (⟨some d,.load t X,ty,pos,af,none⟩::rest) n m:=by
 have g:EP v i.toNat q:=by have:=B;rwa [show i.toNat*(A5.sl r).sz+0=i.toNat from Aci _] at this
 obtain⟨u,F,o,G⟩:=x.ooAt y (Er A).2 g;obtain⟨p,cap,H⟩:∃p cap,u= .slice p l.length cap:=by
  rcases o with ⟨c,j⟩|⟨a,cap,c,_⟩
  ·exact⟨none,0,by rw[c,j];rfl⟩
  ·exact⟨_,cap,c⟩
 have I:Mv (λb=>b<h.size) S h Ij q u:=⟨[u],G,rfl,by rw[H];rfl⟩
 refine LD (r:=Ij) w (λb J=>J) z I D (λ_=>rfl) hd λK M=>?_;obtain⟨cs,c,j,U⟩:=M;subst j;have:K=u:=c;subst this;exact k _ F o
def Yc {α}{r:A5 α}{l:List α}{A:Nat→Prop}{u:Value}{e:Nat}{i:Int}{x:α}(y:Bz m X=some u) (z:Bz m Y=some (.int .i64 i)) (k0:Sl A h r u l) (B:OT P t e r.sz=true) (D:Go.Proofs.YtabonambpbofgaaGreat.ix l i=some x) (hd:Nat.blt d n.1=true)
  (k:∀q,Pt A h r q x→Aam u (i.toNat*r.sz) q→QF P ops C Q rest n ((d,q)::m)):QF P ops C Q (⟨some d,.indexAddr t X Y,ty,pos,af,none⟩::rest) n m:=by
 obtain⟨h0,v⟩:=Er D;have c:i.toNat<l.length:=(Aa4.1 v).1;rcases k0 with ⟨_,F⟩|⟨a,cap,e1,e3,e4,e5⟩
 ·subst F;simp at c
 ·subst e1;obtain⟨g,p⟩:=e5 _ _ v;have j:a.add (i.toNat*r.sz)=⟨a.block,a.off+i.toNat*r.sz,none⟩:=by
   obtain⟨b,o,G⟩:=a;simp only at g;subst g;unfold Addr.add;split<;>simp_all
  intro H s;refine Fu s hd (λw _=>by simp [execOp,s.eval y,s.eval z,Lq (P:=P) (w:=w) (cap:=cap) (a:=a) B h0 c]) (k _ (by rw[j];exact p) ⟨a,_,_,rfl,rfl⟩)
def Yj {α}{r:A5 α}{ll:List (List α)}{a T:Nat}{i:Int}{l b:List α}{q u:Value}(I:Bz m X=some q) (J:Bz m Y=some u) (K:EP v (i.toNat*(A5.sl r).sz+0) q) (Q:ix ll i=some l) (U:KQ P t 1 false=true)
  (F:St S (OS r a u b::OO r a T v ll::L) h) (k:∀h',St S (OO r a T v (upd ll i b)::L) h'→BF S h S h'→LF P ops Q2 rest B h' n m):LF P ops Q2 (⟨none,.store t X Y,ty,pos,af,none⟩::rest) B h n m:=by
 obtain⟨h0,G⟩:=Er Q;have j:St S (OO r a T v ll::OS r a u b::L) h:=F.pick (.tail .head);obtain⟨vs,H,ks⟩:=j.ooOpen;have c:i.toNat<vs.length:=by rw[H];exact(Aa4.1 G).1
 have o:ix vs i=some vs[i.toNat]:=by unfold ix;rw[Aas (by omega)];simp [c]
 have V:vs[i.toNat]? =some vs[i.toNat]:=by simp [c]
 obtain⟨ad,cap,p,_⟩:=F.oslen (Abf ..);have d:u.oneCell'=true:=by rw[p];rfl
 obtain⟨M,W,t2⟩:=RG (r:=r) (e:=a) V G;refine EM (r:=Ij) (r':=Ij) (i:=i) (x:=vs[i.toNat]) (g:=λ_ y=>y) (off:=0) (y:=u) I J ⟨[u],rfl,rfl,d⟩ K o L7.id U (λ_=>rfl) ks .head λh' s Z=>k h' ?_ Z;have w:St S (PZ (VL r a vs ll)::OS Ij T v (upd vs i u)::OS r a u b::L) h':=s.pick (.tail .head);have z:=W w;have A:St S (OS r a u b::PZ M::OS Ij T v (upd vs i u)::L) h':=by
  have:=z.drop .head;exact(this.pick (.tail (.tail .head)))
 have C:=t2 u b A;have D:St S (OS Ij T v (upd vs i u)::PZ (VL r a (vs.set i.toNat u) (ll.set i.toNat b))::L) h':=C.pick (.tail .head);exact P7 (by simp [upd,H]) D
def kQ {α}{r:A5 α}{ll:List (List α)}{o T:Nat}{i j:Int}{l:List α}{x y:α}{q A u Z:Value}(hx:Bz m X=some A) (hy:Bz m Y=some Z) (C:Rd S h r Z y) (ep:EP v (i.toNat*(A5.sl r).sz+0) q) (D:IN h q u) (G:Aam u (j.toNat*r.sz) A)
  (hi:ix ll i=some l) (z:ix l j=some x) (ht:KQ P t r.sz r.ag=true) (h1:r.ag=false→r.sz=1)
  (hs:St S (OO r o T v ll::L) h) (k:∀h',St S (OO r o T v (upd ll i (upd l j y))::L) h'→BF S h S h'→LF P ops Q2 rest B h' n m):LF P ops Q2 (⟨none,.store t X Y,ty,pos,af,none⟩::rest) B h n m:=by
 obtain⟨h0,p⟩:=Er hi;obtain⟨vs,hl,ks⟩:=hs.ooOpen;have H:i.toNat<vs.length:=by rw[hl];exact(Aa4.1 p).1
 have I:vs[i.toNat]? =some vs[i.toNat]:=by simp [H]
 have J:EP v i.toNat q:=by have:=ep;rwa [show i.toNat*(A5.sl r).sz+0=i.toNat from Aci _] at this
 obtain⟨F,k1,aa⟩:=ks.get (Abf ..);have he:vs[i.toNat]=u:=by
  obtain⟨a,a1,a2⟩:=bO k1 I J;obtain⟨a',d,b2⟩:=D;rw[a1] at d;injection d with d
  injection d with d
  subst d;rw[a2] at b2;exact Aat b2
 obtain⟨M,t1,t2⟩:=RG (r:=r) (e:=o) I p;have K:St S (PZ (VL r o vs ll)::OS Ij T v vs::L) h:=ks.pick (.tail .head);have b:=t1 K;rw[he] at b;have Q:EP u (j.toNat*r.sz+0) A:=by
  obtain⟨F3,s,_⟩:=b.get (Abf ..);obtain⟨a,nn,c,e1,e2⟩:=G;rcases s with ⟨⟨ad,s⟩,z2,_⟩|⟨g,cap,cur,s,_⟩
  ·subst z2;unfold ix at z;split at z<;>simp at z
  ·rw[e1] at s;injection s with U _ _
   injection U with U
   subst U;refine⟨g,nn,c,e1,?_⟩;rw[e2,TC,Abt];rfl
 refine EM (r:=r) (r':=r) (i:=j) (x:=x) (g:=λ_ y=>y) (off:=0) (y:=y) hx hy C Q z L7.id ht h1 b .head λh' V e'=>k h' ?_ e';have W:=t2 u (upd l j y) V;have w:St S (OS Ij T v vs::PZ (VL r o (vs.set i.toNat u) (ll.set i.toNat (upd l j y)))::L) h':=W.pick (.tail .head);rw[O2 (he▸I)] at w;exact P7 (by simp [upd,hl]) w
def kR {α}(r:A5 α) (i:Nat) {T e a:Nat}{len cap:Int}{j l:IntKind}{U V:Operand}(o:NH P T=some (e,1,a,[.slice none 0 0]))
  (p:Bz m U=some (.int j len)) (q:Bz m V=some (.int l cap)) (c:K3 len cap a=true) (b:Nat.blt 0 a=true) (hd:Nat.blt d n.1=true) (s:St S L h)
  (k:∀v h',St S (OO r i e v (List.replicate len.toNat ([]:List α))::L) h'→BF S h S h'→LF P ops Q2 rest B h' n ((d,v)::m)):LF P ops Q2 (⟨some d,.makeSlice T U V,ty,pos,af,none⟩::rest) B h n m:=
 LE (r:=Ij) (zx:= .slice none 0 0) o rfl ⟨rfl,rfl⟩ p q c b hd s λv h' g t=>k v h' g.ooNil t
end
def St.zs {α}{S:Nat→Prop}{L:List HP}{h:AO}(b:St S L h) (r:A5 α) (T:TypeId) (a:Option Addr):St S (OS r T (.slice a 0 0) ([]:List α)::L) h:=
 (b.add (Aa7 _) (λ_ _=>rfl) ⟨λ_=>False,Or.inl ⟨⟨a,rfl⟩,rfl,λ_ x=>x⟩,λ_ x=>x.elim⟩).1
section
variable {P:Program}{ops:Array Oper}{C:World→Prop}{Q:Act→Prop}{Q2:Exit→Act→World→Prop}{n:FN}{m m':SM}{rest:List Oper}
variable {d:Nat}{ty:TypeId}{pos:String}{af:Array Edge}{X Y Z:Operand}{t:TypeId}{kd kd2:IntKind}{v p:Value}{S:Nat→Prop}{h:AO}{B:World}{L:List HP}
def jW {α}{r:A5 α}{e:TypeId}{l:List α}(j:Bz m X=some v) (o:Bz m Y=some (.int kd 0)) (p:Bz m Z=some (.int kd2 0)) (k0:Sl S h r v l) (q:OT P t e r.sz=true) (hd:Nat.blt d n.1=true)
  (k:∀b,QF P ops C Q rest n ((d,.slice b 0 0)::m)):QF P ops C Q (⟨some d,.slice t X none (some Y) (some Z),ty,pos,af,none⟩::rest) n m:=λa c=>by
 obtain⟨i,s⟩:=NP q;obtain⟨b,len,cap,rfl⟩:∃b len cap,v= .slice b len cap:=by
  rcases k0 with ⟨g,_⟩|⟨a,cap,g,_⟩
  ·exact⟨none,0,0,g⟩
  ·exact⟨_,_,_,g⟩
 refine Fu c hd (λw _=>?_) (k b);simp [execOp,c.eval j,c.eval o,c.eval p,run_sliceAt_slice _ _ _ _ _ _ i,run_slice_hm w t b len cap i kd kd2 0 0 (by omega) (by omega) (by omega),s,sliced]
def sJ {e sz:Nat}(g:Bz m X=some (.slice none 0 0)) (i:Bz m Y=some (.int kd 0)) (j:OT P t e sz=true) (hd:Nat.blt d n.1=true)
  (k:QF P ops C Q rest n ((d,.slice none 0 0)::m)):QF P ops C Q (⟨some d,.slice t X none (some Y) none,ty,pos,af,none⟩::rest) n m:=λa b=>by
 obtain⟨c,l⟩:=NP j;refine Fu b hd (λw _=>?_) k;simp [execOp,b.eval g,b.eval i,run_sliceAt_slice _ _ _ _ _ _ c,run_slice_h w t none 0 0 c kd 0 (by omega) (by omega),l,sliced]
def jV {e sz:Nat}(g:Bz m X=some (.slice none 0 0)) (i:Bz m Y=some (.int kd 0)) (j:Bz m Z=some (.int kd2 0)) (l:OT P t e sz=true) (hd:Nat.blt d n.1=true)
  (k:QF P ops C Q rest n ((d,.slice none 0 0)::m)):QF P ops C Q (⟨some d,.slice t X none (some Y) (some Z),ty,pos,af,none⟩::rest) n m:=λa b=>by
 obtain⟨c,o⟩:=NP l;refine Fu b hd (λw _=>?_) k;simp [execOp,b.eval g,b.eval i,b.eval j,run_sliceAt_slice _ _ _ _ _ _ c,run_slice_hm w t none 0 0 c kd kd2 0 0 (by omega) (by omega) (by omega),o,sliced]
def kS {t s e sz g:Nat}{z:List Value}{kq H:IntKind}{y:Int}(I:Bz m X=some (.slice none 0 0)) (J:Bz m Y=some (.int kq y)) (M:NH P t=some (e,sz,g,z)) (Q:P.underlying s=some (.int H))
  (h0:0<y) (u:HJ y.toNat g=true) (v:Nat.blt 0 g=true) (hd:Nat.blt d n.1=true) (U:St S L h)
  (k:∀b c' cs' h',y.toNat≤c'→c'≤maxLen→cs'.length=c'*sz→St S (Bx b e cs'::L) h'→BF S h S h'→LF P ops Q2 rest B h' n ((d,.slice (some ⟨b,0,none⟩) y.toNat c')::m)):
  LF P ops Q2 (⟨some d,.call ⟨.builtin .append,#[X,Y],#[t,s]⟩,ty,pos,af,none⟩::rest) B h n m:=by
 intro a w x o;obtain⟨j,rfl⟩:∃j:Nat,y=j:=⟨y.toNat,by omega⟩
 have u:=(NR u).le;simp only[Abx] at u k;have p:0<g:=(by simpa [Nat.blt] using v:1≤g)
 obtain⟨i,l,V,W,Z,u4,u5,u6,u7,u8⟩:=L3 M;have aa:j≤j*g:=Nat.le_mul_of_pos_right _ p;have q:=Lib.run_append_nil_zeros (P:=P) w t s ty e i l kq H V Q W Z j (by omega) (by omega) (by omega) (by rw[u5];omega);refine wpList_plain rfl λK hK=>?_;unfold Oper.wp;have A:(execOp a.eval ⟨some d,.call ⟨.builtin .append,#[X,Y],#[t,s]⟩,ty,pos,af,none⟩).run P w= .ok (.value (.slice (some ⟨w.heap.size,0,none⟩) j (grownCap w j 0 e)))
   (w.drew.alloc (.cells (Builtin.zeroCells l.cells j++Builtin.zeroCells l.cells (grownCap w j 0 e-j)) e)):=by
  simp [execOp,resolve,invoke,builtin,x.eval I,x.eval J,q]
 rw[A];have C:=grownCap_ge w j 0 e;have D:=grownCap_le_maxLen w j 0 e (by unfold maxLen;omega);have F:l.cells.size=sz:=by rw[u6];simpa using u7
 have c:=U.push e (Builtin.zeroCells l.cells j++Builtin.zeroCells l.cells (grownCap w j 0 e-j)).toList;rw[Array.toArray_toList] at c;have G:=(show Wd B h w.drew from⟨o.heap,o.os,o.tape,o.out⟩).alloc (.cells (Builtin.zeroCells l.cells j++Builtin.zeroCells l.cells (grownCap w j 0 e-j)) e);have hz:w.heap.size=h.size:=by rw[o.heap]
 rw[hz];refine hK _ _ (k _ _ _ _ C D ?_ c.1 c.2 _ _ (x.put hd _) G);simp only[Array.length_toList,Array.size_append,size_zeroCells,F,←Acb];congr 1;omega
def MM {o:Oper}{j e:Nat}{b:Bool}(g:o.guard=some (j,b)) (i:(ops[j]?).bind (·.dst)=some e) (l:lk m e=some (.bool b)) (k:LF P ops Q2 ({ o with guard:=none}::rest) B h n m):LF P ops Q2 (o::rest) B h n m:=by
 intro a w d p;have q:Region.wanted o (yielded ops a.tmps)=true:=by
  have:=d.at_ e _ l;simp [Region.wanted,g,yielded,i,this]
 have c:=k a w d p;unfold wpList at c ⊢;rw[Aav (by simp [Region.wanted])] at c;rw[Aav q];exact c
def Aaj {l:List Oper}{b c:Bool}(a:b=c) (k:QF P ops C Q l n ((d,.bool c)::m)):QF P ops C Q l n ((d,.bool b)::m):=a▸k
def Fv {l:List Oper}{b c:Bool}(a:b=c) (k:LF P ops Q2 l B h n ((d,.bool c)::m)):LF P ops Q2 l B h n ((d,.bool b)::m):=a▸k
def sI {b len cap e sz:Nat}(a:Bz m X=some (.slice (some ⟨b,0,none⟩) len cap)) (c:Bz m Y=some (.int kd 0)) (g:OT P t e sz=true) (hd:Nat.blt d n.1=true)
  (k:QF P ops C Q rest n ((d,.slice (some ⟨b,0,none⟩) 0 cap)::m)):QF P ops C Q (⟨some d,.slice t X none (some Y) none,ty,pos,af,none⟩::rest) n m:=
 XA a c (j:=0) rfl g (Aaw _) hd k
def zA (P:Program) (t:TypeId):Bool:=match P.underlying t with|some (.slice _)=>true|_=>false
def jZ (g:Bz m X=some v) (b:zA P t=true) (hd:Nat.blt d n.1=true) (k:QF P ops C Q rest n ((d,.iface t v)::m)):QF P ops C Q (⟨some d,.makeInterface t X,ty,pos,af,none⟩::rest) n m:=λa c=>by
 unfold zA at b;split at b
 ·rename_i e i;refine Fu c hd (λw _=>?_) k;simp [execOp,c.eval g,Instr.makeInterface,run_underlying i]
 ·cases b
end
def bN {α}{S:Nat→Prop}{h:AO}{r:A5 α}{cs:List Value}:L5 S h r (cs.take (([]:List α).length*r.sz)) ([]:List α):=by
 show cs.take (0*r.sz)=[]
 rw[Nat.zero_mul];rfl
section
variable {P:Program}{ex:List (Nat×AP)}{RR N:AP}{cs:List Code}{B:World}{h:AO}{n:FN}{m m':SM}{S:Nat→Prop}{L:List HP}{C:World→Prop}{l:List Oper}{fuel:Nat}{listed:Array Bool}
variable {d:Nat}{ty:TypeId}{pos:String}{af:Array Edge}{X Y:Operand}{t:TypeId}{v:Value}
def HF (P:Program) (l:List Oper) (Q:Exit→Act→World→Prop) (C:World→Prop) (fuel:Nat) (listed:Array Bool) (B:World) (h:AO) (n:FN) (m:SM):Prop:=
 ∀a w,Fr n a m→Wd B h w→wpAnyH P .any l.toArray Q C fuel listed a w
abbrev QW (P:Program) (ex:List (Nat×AP)) (RR:AP) (cs:List Code) (N:AP):Exit→Act→World→Prop:=Qx ex RR (W P ex RR cs N)
def R5 (l:List Oper) (listed:Array Bool) (i:Nat):Bool:=Region.noSelect l.toArray&&Region.free .any l.toArray listed i&&(Region.ready .any l.toArray listed).contains i
def Oy {id:Nat}(C:World→Prop) (c:P.follows .mixedOrders=true) (k:HF P l (QW P ex RR cs N) C l.toArray.size (Array.replicate l.toArray.size false) B h n m):WF P ex RR (.region id l.toArray true::cs) N B h n m:=
 λa w d g i b=>Pr b M7 c (wpAny_of_held _ _ _ _ (k a _ d g.drew))
def O4 {o:Op}(i:Nat) (q:l[i]? =some ⟨some d,o,ty,pos,af,none⟩) (c:R5 l listed i=true) (s:∀w,Wd B h w→C w) (hd:Nat.blt d n.1=true)
  (b:∀a w,Fr n a m→C w→(execOp a.eval ⟨some d,o,ty,pos,af,none⟩).run P w= .ok (.value v) w) (k:HF P l (QW P ex RR cs N) C fuel (listed.setIfInBounds i true) B h n ((d,v)::m)):HF P l (QW P ex RR cs N) C (fuel+1) listed B h n m:=by
 intro a w j p;simp only[R5,Aax] at c;exact wpAnyH_take (oi:=⟨some d,o,ty,pos,af,none⟩) (v:=v) (by simpa using q) c.1.1 c.1.2 c.2 (λ_ _ _ t=>t.elim) (.inl ⟨by simp [Region.wanted],λw' g=>b a w' j g⟩) (s w p) (k _ _ (j.put hd v) p)
def Pf (i:Nat) (b:l[i]? =some ⟨some d,.move X,ty,pos,af,none⟩) (c:R5 l listed i=true) (g:∀w,Wd B h w→C w) (j:Bz m X=some v) (hd:Nat.blt d n.1=true) (k:HF P l (QW P ex RR cs N) C fuel (listed.setIfInBounds i true) B h n ((d,v)::m)):HF P l (QW P ex RR cs N) C (fuel+1) listed B h n m:=
 O4 i b c g hd (λa w o _=>by simp [execOp,o.eval j]) k
def fR (i:Nat) (b:l[i]? =some ⟨some d,.assign X,ty,pos,af,none⟩) (c:R5 l listed i=true) (g:∀w,Wd B h w→C w) (j:Bz m X=some v) (hd:Nat.blt d n.1=true) (k:HF P l (QW P ex RR cs N) C fuel (listed.setIfInBounds i true) B h n ((d,v)::m)):HF P l (QW P ex RR cs N) C (fuel+1) listed B h n m:=
 O4 i b c g hd (λa w o _=>by simp [execOp,o.eval j]) k
def VE (i:Nat) {b o j off:Nat}(p:l[i]? =some ⟨some d,.fieldAddr t X j,ty,pos,af,none⟩) (c:R5 l listed i=true) (q:∀w,Wd B h w→C w) (s:Bz m X=some (.pointer (some ⟨b,o,none⟩))) (u:Zc P t j off=true) (hd:Nat.blt d n.1=true) (k:HF P l (QW P ex RR cs N) C fuel (listed.setIfInBounds i true) B h n ((d,.pointer (some ⟨b,o+off,none⟩))::m)):HF P l (QW P ex RR cs N) C (fuel+1) listed B h n m:=
 have g:(⟨b,o,none⟩:Addr).add off=⟨b,o+off,none⟩:=by unfold Addr.add;split<;>simp_all
 O4 i p c q hd (λa w v _=>by simp [execOp,v.eval s,Lr u,g]) k
def O3 (i:Nat) {b o sz T:Nat}{ag:Bool}{q vs:List Value}(s:l[i]? =some ⟨some d,.load t X,ty,pos,af,none⟩) (c:R5 l listed i=true) (u:∀w,Wd B h w→C w) (v:Bz m X=some (.pointer (some ⟨b,o,none⟩))) (y:∀w,C w→w.heap[b]? =some (.cells q.toArray T (0,0))) (z:(q.drop o).take sz=vs) (A:Nat.beq vs.length sz=true) (D:KQ P t sz ag=true) (F:(ag||Nat.beq sz 1)=true) (hd:Nat.blt d n.1=true)
  (k:HF P l (QW P ex RR cs N) C fuel (listed.setIfInBounds i true) B h n ((d,if ag then .agg vs.toArray else vs.headD undef)::m)):HF P l (QW P ex RR cs N) C (fuel+1) listed B h n m:=
 O4 i s c u hd (λa w G H=>by
  have I:(Bx b T q).holds (λ_=>True) (λx=>x=b) w.heap:=⟨λ_=>Iff.rfl,y w H⟩
  have g:=Aa2 A;have:=Mf (P:=P) (w:=w) (S:=λ_=>True) (p:= .pointer (some ⟨b,o,none⟩)) (cs:=vs) (sz:=sz) (ag:=ag) (t:=t) ⟨⟨b,o,none⟩,rfl,rfl,trivial,λj J=>by
   rw[Bx.cell I,←z,Acg (by omega),Ac2]⟩ g D (λe=>by subst e;simpa using F)
  simp [execOp,G.eval v,this]) k
def XE (i:Nat) {α}{r:A5 α}{xs:List α}{T e:Nat}{j:Int}{x:α}(s:l[i]? =some ⟨some d,.indexAddr t X Y,ty,pos,af,none⟩) (c:R5 l listed i=true) (u:∀w,Wd B h w→C w) (y:St S L h) (z:OS r T v xs∈L) (A:Bz m X=some v) (D:Bz m Y=some (.int .i64 j)) (F:OT P t e r.sz=true) (o:ix xs j=some x) (hd:Nat.blt d n.1=true)
  (k:∀q,EP v (j.toNat*r.sz+0) q→HF P l (QW P ex RR cs N) C fuel (listed.setIfInBounds i true) B h n ((d,q)::m)):HF P l (QW P ex RR cs N) C (fuel+1) listed B h n m:=by
 obtain⟨g,cap,rfl,H⟩:=y.osAt z (Er o).2;have G:j.toNat<xs.length:=(Aa4.1 (Er o).2).1;have b:(⟨g,0,none⟩:Addr).add (j.toNat*r.sz)=⟨g,j.toNat*r.sz,none⟩:=by unfold Addr.add;split<;>simp_all
 exact O4 i s c u hd (λa w p I=>by simp [execOp,p.eval A,p.eval D,Lq (P:=P) (w:=w) (cap:=cap) (a:=⟨g,0,none⟩) F (Er o).1 G,b]) (k _ ⟨g,_,_,rfl,rfl⟩)
def ZV (i:Nat) {o:Oper}(p:l[i]? =some o) (d:o.guard=none) (c:Region.ready .any l.toArray listed=[i])
  (k:LF P l.toArray (Exit.then (λq w'=>C w'∧wpAnyH P .any l.toArray (QW P ex RR cs N) C fuel (listed.setIfInBounds i true) q w') (QW P ex RR cs N)) [o] B h n m):HF P l (QW P ex RR cs N) C (fuel+1) listed B h n m:=by
 intro a w s t;refine wpAnyH_all c (by simp) λj g=>?_;rw[Ab0] at g;subst g;unfold wpOp;have b:l.toArray[j]? =some o:=by simpa using p
 simp only[b];rw[Aav (by simp [Region.wanted,d])];exact Jz d (k a w s t)
def M1 {Q:Exit→Act→World→Prop}{b:Array Oper}(d:∀w,Wd B h w→C w) (k:HF P l (QW P ex RR cs N) C fuel listed B h n m):LF P b (Exit.then (λg w'=>C w'∧wpAnyH P .any l.toArray (QW P ex RR cs N) C fuel listed g w') Q) [] B h n m:=
 λa w i c=>⟨d w c,k a w i c⟩
def LG (c:Region.ready .any l.toArray listed=[]) (b:UH m m') (k:WF P ex RR cs N B h n m'):HF P l (QW P ex RR cs N) C fuel listed B h n m:=
 λa w d g=>wpAnyH_done c (k a w (d.sub b) g) _
def St.bxW {b T:Nat}{vs:List Value}(a:St S L h) (c:Bx b T vs∈L) {w:World}(d:Wd B h w):w.heap[b]? =some (.cells vs.toArray T (0,0)):=by
 rw[d.heap];exact a.bxcell c
end
section
variable {P:Program}
end
section
variable {P:Program}{ops:Array Oper}{C:World→Prop}{Q:Act→Prop}{n:FN}{m:SM}{rest:List Oper}{d:Nat}{ty:TypeId}{pos:String}{af:Array Edge}{X Y:Operand}{t2:TypeId}
end
section
variable {P:Program}{ex:List (Nat×AP)}{RR N:AP}{cs:List Code}{B:World}{h:AO}{n:FN}{m m0:SM}
end
abbrev vI (n:Int):Value:= .int .i64 n
abbrev vP (b o:Nat):Value:= .pointer (some ⟨b,o,none⟩)
abbrev vN:Value:= .slice none 0 0
section
variable {P:Program}{ops:Array Oper}{C:World→Prop}{Q:Act→Prop}{n:FN}{m m':SM}{rest:List Oper}
variable {d:Nat}{ty:TypeId}{pos:String}{af:Array Edge}{X Y:Operand}{t t1 t2:TypeId}{x y:Int}{kd:IntKind}{v p:Value}
def AD (e:(Bz m X,Nat.blt d n.1)=(some v,true)) (k:QF P ops C Q rest n ((d,v)::m)):QF P ops C Q (⟨some d,.move X,ty,pos,af,none⟩::rest) n m:=
 mT (Aau (λz=>z.1) e) (Aau (λz=>z.2) e) k
def C5 (e:(Bz m X,Nat.blt d n.1)=(some v,true)) (k:QF P ops C Q rest n ((d,v)::m)):QF P ops C Q (⟨some d,.assign X,ty,pos,af,none⟩::rest) n m:=
 fM (Aau (λz=>z.1) e) (Aau (λz=>z.2) e) k
def LC {b}(e:(Bz m X,Nat.blt d n.1)=(some (.bool b),true)) (k:QF P ops C Q rest n ((d,.bool (!b))::m)):QF P ops C Q (⟨some d,.unOp .not t1 X,ty,pos,af,none⟩::rest) n m:=
 fE (Aau (λz=>z.1) e) (Aau (λz=>z.2) e) k
def AM {o:Oper}{j e:Nat}{b:Bool}(e:(o.guard,(ops[j]?).bind (·.dst),lk m e)=(some (j,b),some e,some (.bool b))) (k:QF P ops C Q ({ o with guard:=none}::rest) n m):QF P ops C Q (o::rest) n m:=
 Yd (Aau (λz=>z.1) e) (Aau (λz=>z.2.1) e) (Aau (λz=>z.2.2) e) k
def AQ {c X Y:Operand}{b:Bool}(e:(Bz m c,Bz m (if b then X else Y),Nat.blt d n.1)=(some (.bool b),some v,true)) (k:QF P ops C Q rest n ((d,v)::m)):QF P ops C Q (⟨some d,.pick c X Y,ty,pos,af,none⟩::rest) n m:=
 Ql (Aau (λz=>z.1) e) (Aau (λz=>z.2.1) e) (Aau (λz=>z.2.2) e) k
def Jh (e:(Bz m X,Bz m Y,Nat.blt d n.1)=(some (.int kd x),some (.int kd y),true)) (k:QF P ops C Q rest n ((d,.bool (decide (x<y)))::m)):QF P ops C Q (⟨some d,.binOp .lss t1 X Y t2,ty,pos,af,none⟩::rest) n m:=
 fG (Aau (λz=>z.1) e) (Aau (λz=>z.2.1) e) (Aau (λz=>z.2.2) e) k
def KK (e:(Bz m X,Bz m Y,Nat.blt d n.1)=(some (.int kd x),some (.int kd y),true)) (k:QF P ops C Q rest n ((d,.bool (decide (y<x)))::m)):QF P ops C Q (⟨some d,.binOp .gtr t1 X Y t2,ty,pos,af,none⟩::rest) n m:=
 fI (Aau (λz=>z.1) e) (Aau (λz=>z.2.1) e) (Aau (λz=>z.2.2) e) k
def kD (e:(Bz m X,Bz m Y,Nat.blt d n.1)=(some (.int kd x),some (.int kd y),true)) (k:QF P ops C Q rest n ((d,.bool (decide (y≤x)))::m)):QF P ops C Q (⟨some d,.binOp .geq t1 X Y t2,ty,pos,af,none⟩::rest) n m:=
 fJ (Aau (λz=>z.1) e) (Aau (λz=>z.2.1) e) (Aau (λz=>z.2.2) e) k
def DB (e:(Bz m X,Bz m Y,Nat.blt d n.1)=(some (.int kd x),some (.int kd y),true)) (k:QF P ops C Q rest n ((d,.bool (decide (x=y)))::m)):QF P ops C Q (⟨some d,.binOp .eql t1 X Y t2,ty,pos,af,none⟩::rest) n m:=
 fL (Aau (λz=>z.1) e) (Aau (λz=>z.2.1) e) (Aau (λz=>z.2.2) e) k
def Ik (e:(Bz m X,Bz m Y,Nat.blt d n.1)=(some (.int kd x),some (.int kd y),true)) (k:QF P ops C Q rest n ((d,.bool (decide (x≠y)))::m)):QF P ops C Q (⟨some d,.binOp .neq t1 X Y t2,ty,pos,af,none⟩::rest) n m:=
 fF (Aau (λz=>z.1) e) (Aau (λz=>z.2.1) e) (Aau (λz=>z.2.2) e) k
def H8 (e:(Bz m X,Bz m Y,Nat.blt d n.1)=(some (.int .i64 x),some (.int .i64 y),true)) (k:QF P ops C Q rest n ((d,.int .i64 (BO (x+y)))::m)):QF P ops C Q (⟨some d,.binOp .add t1 X Y t2,ty,pos,af,none⟩::rest) n m:=
 kL (Aau (λz=>z.1) e) (Aau (λz=>z.2.1) e) (Aau (λz=>z.2.2) e) k
def TH (e:(Bz m X,Bz m Y,Nat.blt d n.1)=(some (.int .i64 x),some (.int .i64 y),true)) (k:QF P ops C Q rest n ((d,.int .i64 (BO (x-y)))::m)):QF P ops C Q (⟨some d,.binOp .sub t1 X Y t2,ty,pos,af,none⟩::rest) n m:=
 jS (Aau (λz=>z.1) e) (Aau (λz=>z.2.1) e) (Aau (λz=>z.2.2) e) k
def D8 {xs:Array Value}{i:Nat}{u:Value}(e:(Bz m X,xs[i]?,Nat.blt d n.1)=(some (.tuple xs),some u,true)) (k:QF P ops C Q rest n ((d,u)::m)):QF P ops C Q (⟨some d,.extract X i,ty,pos,af,none⟩::rest) n m:=
 fK (Aau (λz=>z.1) e) (Aau (λz=>z.2.1) e) (Aau (λz=>z.2.2) e) k
def BI {o:Oper}{j e:Nat}(e:(o.guard,(ops[j]?).bind (·.dst),lk m e,o.dst,Nat.blt d n.1)=(some (j,true),some e,some (.bool false),some d,true)) (k:QF P ops C Q rest n ((d,undef)::m)):QF P ops C Q (o::rest) n m:=
 sX (Aau (λz=>z.1) e) (Aau (λz=>z.2.1) e) (Aau (λz=>z.2.2.1) e) (Aau (λz=>z.2.2.2.1) e) (Aau (λz=>z.2.2.2.2) e) k
end
section
variable {P:Program}{ex:List (Nat×AP)}{R N:AP}{cs:List Code}{B:World}{h:AO}{n:FN}{m m':SM}
def Cx {l:List Oper}{id:Nat}{y:Code}(k:QF P l.toArray (Wd B h) (λa=>∀w,Wd B h w→W P ex R (y::cs) N a w) l n m):WF P ex R (.seq (.region id l.toArray false) y::cs) N B h n m:=CO (H7 (.inl rfl) k)
def WF.sl {l:List Oper}{id:Nat}{y:Code}(k:LF P l.toArray (Qx ex R (W P ex R (y::cs) N)) l B h n m):WF P ex R (.seq (.region id l.toArray false) y::cs) N B h n m:=CO (DK k)
def Cu {ops:Array Oper}{C:World→Prop}{d:Nat}{ty:TypeId}{pos:String}{af:Array Edge}{X:Operand}{v:Value}(e:(Bz m X,Nat.blt d n.1)=(some v,true)) (b:UH ((d,v)::m) m') (k:WF P ex R cs N B h n m'):QF P ops C (λa=>∀w,Wd B h w→W P ex R cs N a w) [⟨some d,.assign X,ty,pos,af,none⟩] n m:=C5 e (Ey b k)
def AH {ex:List (Nat×AP)}{R N:AP}{m:SM}{b:Bool}{k:Type}{a d r:k}{X:Operand}{x y:Code}(g:Bz m X=some (.bool b)) (E:cond b a d=r) (i:b=true→a=r→WF P ex R (x::cs) N B h n m) (j:b=false→d=r→WF P ex R (y::cs) N B h n m):WF P ex R (.cond X x y::cs) N B h n m:=Hz g (λc=>i c (HL c E)) (λc=>j c (HM c E))
def Kq {P:Program}{ops:Array Oper}{C:World→Prop}{Q:Exit→Act→World→Prop}{B:World}{n:FN}{d:Nat}{R:Value→AO→Prop}{h:AO}{m:SM}{v:Value}(r:R v h):QF P ops C (λa=>∀w,Wd B h w→wpList P ops (Exit.then (KS B n d R h m) Q) [] a w) [] n ((d,v)::m):=AE (A7 (EJ.refl _) r)
end
end Go.Proofs.YtabonambpbofgaaGreat
