import Derived.Test.YtibidnaedddfdaaGreatECore15
import Derived.Lib.Overlaps
import Derived.Lib.AppendZerosOnto
namespace Go.Proofs.YtibidnaedddfdaaGreat
set_option linter.all false
open Go.RowKit
def Nz (b o j:Nat):(⟨b,o,none⟩:Addr).add j=⟨b,o+j,none⟩:=by unfold Addr.add;split<;>simp_all
def Pj {h:AX}{b:Nat}{T:TypeId}{cs:List Value}(a:h[b]? =some (.cells cs.toArray T (0,0))) (j:Nat):JT h ⟨b,j,none⟩=cs[j]? :=by simp [JT,a]
section
variable {S:Nat→Prop}{L:List HP}{h:AX}
def St.osbx {α}{r:BU α}{T:Nat}{v:Value}{l:List α}(c:St S (OS r T v l::L) h):((∃d,v= .slice d 0 0)∧l=[])∨
  ∃m cap cs,v= .slice (some ⟨m,0,none⟩) l.length cap∧l.length≤cap∧cap≤maxLen∧cs.length=cap*r.sz∧MX S h r (cs.take (l.length*r.sz)) l∧St S (Bx m T cs::L) h:=by
 obtain⟨F,k,i,j⟩:=c.2;rcases k with ⟨a,b,_⟩|⟨m,cap,cur,a,b,k3,k4,k5,k6,k7⟩
 ·exact .inl ⟨a,b⟩
 ·exact .inr ⟨m,cap,cur.toList,a,k4,k5,by simpa using k6,k7,c.1,F,⟨b,by simpa using k3⟩,i,j⟩
def St.bxosc {α}{r:BU α}{b e cap:Nat}{cs:List Value}{l:List α}(c:St S (Bx b e cs::L) h) (d:l.length≤cap) (g:cap≤maxLen) (i:cs.length=cap*r.sz) (j:MX S h r (cs.take (l.length*r.sz)) l):
  St S (OS r e (.slice (some ⟨b,0,none⟩) l.length cap) l::L) h:=
 (c.upd (H':=OS r e (.slice (some ⟨b,0,none⟩) l.length cap) l) .head (uW _) λF a _=>⟨F,.inr ⟨b,cap,cs.toArray,rfl,a.1,a.2,d,g,by simpa using i,by simpa using j⟩,λ_ k=> .inl k,λ_ _ _=>rfl⟩).1
def Mu {b T:Nat}{cs:List Value}(a:St S L h) (c:Bx b T cs∈L):h[b]? =some (.cells cs.toArray T (0,0)):=by
 obtain⟨F,k,_⟩:=a.get c;exact k.2
end
section
variable {P:Program}{ops:Array Oper}{C:World→Prop}{Q:Act→Prop}{n:FN}{m m':SM}{rest:List Oper}
variable {d:Nat}{ty:TypeId}{pos:String}{af:Array Edge}{X Y Z:Operand}{t:TypeId}{kd:IntKind}{v p:Value}
def No {e sz:Nat}(b:RY P t e sz=true):P.underlying t=some (.slice (P.elem t))∧∀w,(sizeOf (P.elem t)).run P w= .ok sz w:=by
 obtain⟨i,a,c,d,j⟩:=Np b;have g:P.elem t=e:=by simp [Program.elem,a]
 rw[g];exact⟨a,λw=>by simp [sizeOf,typeInfo,c,d]⟩
def cC {c:Option Addr}{len cap e sz:Nat}{y:Int}(i:CL m X=some (.slice c len cap)) (j:CL m Y=some (.int kd y)) (l:RY P t e sz=true) (h0:0≤y) (o:y≤len) (hd:Nat.blt d n.1=true)
  (k:∀u,QF P ops C Q rest n ((d,u)::m)):QF P ops C Q (⟨some d,.slice t X (some Y) none none,ty,pos,af,none⟩::rest) n m:=λa b=>by
 obtain⟨g,p⟩:=No l;exact Hf b hd (λw _=>by simp [execOp,b.eval i,b.eval j,run_sliceAt_slice _ _ _ _ _ _ g,run_slice_l w t c len cap g kd y h0 o,p];rfl) (k _)
def Qf {b o len cap e sz j:Nat}{y:Int}(i:CL m X=some (.slice (some ⟨b,o,none⟩) len cap)) (l:CL m Y=some (.int kd y)) (p:y=(j:Int)) (q:RY P t e sz=true) (v:j≤len) (x:j<cap) (hd:Nat.blt d n.1=true)
  (k:QF P ops C Q rest n ((d,.slice (some ⟨b,o+j*sz,none⟩) (len-j) (cap-j))::m)):QF P ops C Q (⟨some d,.slice t X (some Y) none none,ty,pos,af,none⟩::rest) n m:=λa c=>by
 obtain⟨g,s⟩:=No q;subst p;refine Hf c hd (λw _=>?_) k;have u:¬cap=j:=by omega
 simp [execOp,c.eval i,c.eval l,run_sliceAt_slice _ _ _ _ _ _ g,run_slice_l w t _ len cap g kd (j:Int) (by omega) (by omega),s,sliced,u,Nz]
def Wt {b o len cap e sz j:Nat}{y:Int}(i:CL m X=some (.slice (some ⟨b,o,none⟩) len cap)) (l:CL m Y=some (.int kd y)) (p:y=(j:Int)) (q:RY P t e sz=true) (v:j≤cap) (hd:Nat.blt d n.1=true)
  (k:QF P ops C Q rest n ((d,.slice (some ⟨b,o,none⟩) j cap)::m)):QF P ops C Q (⟨some d,.slice t X none (some Y) none,ty,pos,af,none⟩::rest) n m:=λa c=>by
 obtain⟨g,s⟩:=No q;subst p;refine Hf c hd (λw _=>?_) k;have u:(⟨b,o,none⟩:Addr).add 0=⟨b,o,none⟩:=by rw[Nz];rfl
 simp [execOp,c.eval i,c.eval l,run_sliceAt_slice _ _ _ _ _ _ g,run_slice_h w t _ len cap g kd (j:Int) (by omega) (by omega),s,sliced,u]
def fA {c:Option Addr}{len cap e sz:Nat}{b:TypeId}(i:CL m X=some (.slice c len cap)) (j:RY P t e sz=true) (hd:Nat.blt d n.1=true) (k:QF P ops C Q rest n ((d,.int .i64 cap)::m)):
  QF P ops C Q (⟨some d,.call ⟨.builtin .cap,#[X],#[t]⟩,b,pos,af,none⟩::rest) n m:=λa g=>by
 obtain⟨l,o⟩:=No j;exact Hf g hd (λw _=>by simp [execOp,resolve,invoke,builtin,g.eval i,run_cap_slice w t _ c len cap l,goInt]) k
def eY {f:Nat}{X Y:Operand}{g i:Value}{b:Array TypeId}(j:CL m X=some g) (l:CL m Y=some i) (hd:Nat.blt d n.1=true) (o:∀w,C w→(callFunc f #[g,i]).run P w= .ok (.value v) w)
  (k:QF P ops C Q rest n ((d,v)::m)):QF P ops C Q (⟨some d,.call ⟨.value (.func f),#[X,Y],b⟩,ty,pos,af,none⟩::rest) n m:=λa c=>
 Hf c hd (λw p=>by
  have q:a.eval (.func f)= .func (.func f) #[] #[]:=rfl;have:=o w p;simp [execOp,resolve,Deferred.ofValue,invoke,q,c.eval j,c.eval l,this]) k
end
section
variable {P:Program}{ops:Array Oper}{Q:Exit→Act→World→Prop}{n:FN}{m:SM}{rest:List Oper}
variable {d:Nat}{ty:TypeId}{pos:String}{af:Array Edge}{X Y:Operand}{B w:World}{h:AX}{S:Nat→Prop}{L L2:List HP}{v:Value}
def XK {T k t2 e sz b o dl dc sl sc:Nat}{d:Addr}{cs news:List Value}(l:RY P k e sz=true) (m:news.length=Nat.min sl dl*sz) (n:w.heap[b]? =some (.cells cs.toArray T (0,0)))
  (p:∀j u,news[j]? =some u→w.cell? (d.add j)=some u) (a:o+news.length≤cs.length) (q:∀u∈news,u.oneCell'=true):
  (Builtin.copy_ #[k,t2] ty #[.slice (some ⟨b,o,none⟩) dl dc,.slice (some d) sl sc]).run P w= .ok (goInt (Nat.min sl dl)) (w.setRow b (IA cs o news).toArray):=by
 obtain⟨i,s,t,v,y⟩:=Np l;have x:=run_firstCells_some (P:=P) w sz (Nat.min sl dl) d sl sc news m p;have c:=run_storeCells_at P b o T news 0 cs.toArray w n (by simpa using a) q;have g:(List.take (o+0) cs.toArray.toList++news++List.drop (o+0+news.length) cs.toArray.toList)=IA cs o news:=by simp [IA]
 rw[g] at c;simp [Builtin.copy_,run_underlying s,Builtin.lenOf,sizeOf,typeInfo,t,v,x,c]
def VD {T t t2 e sz b o dl dc sl sc:Nat}{z:Addr}{cs news cs':List Value}(G:CL m X=some (.slice (some ⟨b,o,none⟩) dl dc)) (H:CL m Y=some (.slice (some z) sl sc)) (I:RY P t e sz=true) (J:news.length=Nat.min sl dl*sz)
  (U:∀j u,news[j]? =some u→JT h (z.add j)=some u) (l:o+news.length≤cs.length) (V:∀u∈news,u.oneCell'=true) (W:IA cs o news=cs') (hd:Nat.blt d n.1=true) (A:St S L h) (r:Mp L (Bx b T cs) (Bx b T cs') L2)
  (k:∀h',St S L2 h'→Cc S h S h'→(∀c,c≠b→h'[c]? =h[c]?)→LF P ops Q rest B h' n ((d,.int .i64 (Nat.min sl dl:Nat))::m)):LF P ops Q (⟨some d,.call ⟨.builtin .copy,#[X,Y],#[t,t2]⟩,ty,pos,af,none⟩::rest) B h n m:=by
 intro a w v i;refine wpList_plain rfl λK Z=>?_;unfold Oper.wp;obtain⟨M,p,_⟩:=r.pick;obtain⟨F,g1,g2,_⟩:=Sp.pick p A.2;have C:w.heap[b]? =some (.cells cs.toArray T (0,0)):=by rw[i.heap];exact g1.2
 have q:=XK (P:=P) (ty:=ty) (t2:=t2) (dc:=dc) (sc:=sc) I J C (λj u hj=>by rw[LX,i.heap];exact U j u hj) l V;have x:(execOp a.eval ⟨some d,.call ⟨.builtin .copy,#[X,Y],#[t,t2]⟩,ty,pos,af,none⟩).run P w= .ok (.value (goInt (Nat.min sl dl))) (w.setRow b cs'.toArray):=by
  simp [execOp,resolve,invoke,builtin,v.eval G,v.eval H,q,W]
 rw[x];obtain⟨h',e1,e2,e3,y⟩:=Qo w b cs.toArray cs'.toArray T C;rw[i.heap] at e2 y;have s:=A.upd r (h':=h') (by omega) λF D k2=>⟨F,⟨D.1,e3⟩,λ_ hb=> .inl hb,λc _ g=>y c λe=>g ((D.1 c).2 e)⟩
 exact Z _ _ (k h' s.1 s.2 (λc g=>y c g) _ _ (v.put hd _) ⟨e1,i.os,i.tape,i.out⟩)
def nG {t x e sz g b o len cap j:Nat}{z olds:List Value}{W Z:IntKind}{y:Int}(hx:CL m X=some (.slice (some ⟨b,o,none⟩) len cap)) (hy:CL m Y=some (.int W y)) (hj:y=(j:Int)) (he:QY P t=some (e,sz,g,z)) (hn:P.underlying x=some (.int Z))
  (C:olds.length=len*sz) (hc:∀j u,olds[j]? =some u→JT h ⟨b,o+j,none⟩=some u) (h0:0<j) (hg:cap<len+j) (D:L0 (len+j) g) (F:0<g) (hd:Nat.blt d n.1=true) (hs:St S L h)
  (k:∀c' cs' h',len+j≤c'→c'≤maxLen→cs'.length=c'*sz→cs'.take (len*sz)=olds→St S (Bx h.size e cs'::L) h'→Cc S h S h'→(∀A,A<h.size→h'[A]? =h[A]?)→LF P ops Q rest B h' n ((d,.slice (some ⟨h.size,0,none⟩) (len+j) c')::m)):
  LF P ops Q (⟨some d,.call ⟨.builtin .append,#[X,Y],#[t,x]⟩,ty,pos,af,none⟩::rest) B h n m:=by
 intro a w G p;subst hj;obtain⟨i,l,u1,u2,u3,u4,u5,u6,u7,u8⟩:=MK he;have ab:len+j≤(len+j)*g:=Nat.le_mul_of_pos_right _ F;have ac:j*g≤(len+j)*g:=wM _ (by omega);have aa:=D.le;have s:(Builtin.firstCells i.size len (.slice (some ⟨b,o,none⟩) len cap)).run P w.drew= .ok olds.toArray w.drew:=
  run_firstCells_some (P:=P) w.drew i.size len ⟨b,o,none⟩ len cap olds (by rw[u4];exact C) λq u hq=>by
   rw[Nz];have:=hc q u hq;rw[←p.heap,←LX] at this;exact this
 have v:=Lib.run_append_grow_zeros (P:=P) w t x ty e i l W Z u1 hn u2 u3 (some ⟨b,o,none⟩) len cap olds s j h0 (by omega) hg (by omega) (by rw[u5];have:=D.le;omega) (by rw[u5];exact D.fits hg);refine wpList_plain rfl λK hK=>?_;unfold Oper.wp;have H:(execOp a.eval ⟨some d,.call ⟨.builtin .append,#[X,Y],#[t,x]⟩,ty,pos,af,none⟩).run P w= .ok (.value (.slice (some ⟨w.heap.size,0,none⟩) (len+j) (grownCap w (len+j) cap e)))
   (w.drew.alloc (.cells (olds.toArray++Builtin.zeroCells l.cells j++Builtin.zeroCells l.cells (grownCap w (len+j) cap e-(len+j))) e)):=by
  simp [execOp,resolve,invoke,builtin,G.eval hx,G.eval hy,v]
 rw[H];have I:=grownCap_ge w (len+j) cap e;have J:=grownCap_le_maxLen w (len+j) cap e (by unfold maxLen;omega);have M:l.cells.size=sz:=by rw[u6];simpa using u7
 have c:=hs.push e (olds.toArray++Builtin.zeroCells l.cells j++Builtin.zeroCells l.cells (grownCap w (len+j) cap e-(len+j))).toList;rw[Array.toArray_toList] at c;have U:=(show Wd B h w.drew from⟨p.heap,p.os,p.tape,p.out⟩).alloc (.cells (olds.toArray++Builtin.zeroCells l.cells j++Builtin.zeroCells l.cells (grownCap w (len+j) cap e-(len+j))) e);have hz:w.heap.size=h.size:=by rw[p.heap]
 rw[hz];refine hK _ _ (k _ _ _ I J ?_ ?_ c.1 c.2 (λA V=>IE _ _ _ V) _ _ (G.put hd _) U)
 ·simp only[Array.length_toList,Array.size_append,zF,size_zeroCells,M,C,←wJ];congr 1;omega
 ·simp only[Array.toList_append,xE];rw[←C,yS]
end
def MX.take {α S h}{r:BU α}:∀{l:List α}{cs},MX S h r cs l→∀i,MX S h r (cs.take (i*r.sz)) (l.take i)
 |[],_,k,i=>by have k:_=[]:=k;subst k;simp [MX]
 |x::l,_,⟨b,c,e,a,d⟩,0=>by simp [MX]
 |x::l,_,⟨b,c,e,a,d⟩,i+1=>by
  subst e;have g:=r.len a;refine⟨b,c.take (i*r.sz),?_,a,d.take i⟩;rw[wY,Nat.add_comm (i*r.sz),←g,List.take_append];rw[yM (by omega),Nat.add_sub_cancel_left]
def MX.drop {α S h}{r:BU α}:∀{l:List α}{cs},MX S h r cs l→∀i,MX S h r (cs.drop (i*r.sz)) (l.drop i)
 |[],_,k,i=>by have k:_=[]:=k;subst k;simp [MX]
 |x::l,_,⟨b,a,e,c,d⟩,0=>by subst e;rw[Nat.zero_mul];exact⟨b,a,rfl,c,d⟩
 |x::l,_,⟨b,a,e,c,d⟩,i+1=>by
  subst e;have g:=r.len c;have:(b++a).drop ((i+1)*r.sz)=a.drop (i*r.sz):=by
   rw[wY,Nat.add_comm (i*r.sz),←g,List.drop_append];rw[List.drop_of_length_le (by omega),Nat.add_sub_cancel_left,wB]
  rw[this,List.drop_succ_cons];exact d.drop i
def V7 {cs M nv:List Value}{A B C:Nat}(d:M.length=C) (a:nv.length=B) (g:A+B+C≤cs.length):(IA (IA cs (A+B) M) A nv).take (A+B+C)=cs.take A++nv++M:=by
 unfold IA;have b:(cs.take (A+B)++M++cs.drop (A+B+M.length)).take A=cs.take A:=by
  rw[xE,zD (by simp;omega),yJ];congr 1;omega
 have c:(cs.take (A+B)++M++cs.drop (A+B+M.length)).drop (A+nv.length)=M++cs.drop (A+B+M.length):=by
  rw[a,xE,List.drop_append_of_le_length (by simp;omega),List.drop_of_length_le (by simp;omega),wB]
 rw[b,c,←xE,zD (by simp;omega),yM (by simp;omega)]
def Wl {cs M nv:List Value}{A B C:Nat}(b:M.length=C) (c:nv.length=B) (d:A+B+C≤cs.length):(IA (IA cs A nv) (A+B) M).take (A+B+C)=cs.take A++nv++M:=by
 unfold IA;have a:(cs.take A++nv++cs.drop (A+nv.length)).take (A+B)=cs.take A++nv:=by
  rw[zD (by simp;omega),yM (by simp;omega)]
 rw[a,zD (by simp;omega),yM (by simp;omega)]
def aC {α}(l xs:List α):List α:=xs.take l.length++l.drop xs.length
section
variable {P:Program}{ops:Array Oper}{Q:Exit→Act→World→Prop}{n:FN}{m:SM}{rest:List Oper}
variable {d:Nat}{ty:TypeId}{pos:String}{af:Array Edge}{X Y:Operand}{B w:World}{h:AX}{S:Nat→Prop}{L L2:List HP}{v:Value}
def dE {a t2 e sz dl dc sl sc:Nat}{db sb:Option Addr}(b:RY P a e sz=true) (h0:Nat.min sl dl=0) (w:World):
  (Builtin.copy_ #[a,t2] ty #[.slice db dl dc,.slice sb sl sc]).run P w= .ok (goInt 0) w:=by
 obtain⟨i,c,d,j,k⟩:=Np b;have g:∀(x:Addr),(loadCells x 0).run P w= .ok #[] w:=λx=>by simpa using run_loadCells_list (P:=P) w x [] (by simp)
 cases db<;>cases sb<;>simp [Builtin.copy_,run_underlying c,Builtin.lenOf,Builtin.firstCells,sizeOf,typeInfo,d,h0,storeCells,g]
def nF {α}{r:BU α}{T Z t2 e:Nat}{s:Value}{l xs:List α}(hx:CL m X=some v) (hy:CL m Y=some s) (ht:RY P Z e r.sz=true) (y:mJ S h r s xs) (hd:Nat.blt d n.1=true) (hs:St S L h) (rp:Mp L (OS r T v l) (OS r T v (aC l xs)) L2)
  (k:∀h',St S L2 h'→Cc S h S h'→LF P ops Q rest B h' n ((d,.int .i64 (Nat.min xs.length l.length:Nat))::m)):LF P ops Q (⟨some d,.call ⟨.builtin .copy,#[X,Y],#[Z,t2]⟩,ty,pos,af,none⟩::rest) B h n m:=by
 intro a w G A;refine wpList_plain rfl λK hK=>?_;unfold Oper.wp;obtain⟨M,p,_⟩:=rp.pick;obtain⟨F,g1,g2,_⟩:=Sp.pick p hs.2;obtain⟨ad,cap,hv,ae⟩:=OS.len g1;have aa:∃sb sc,s= .slice sb xs.length sc:=by
  rcases y with ⟨h1,I⟩|⟨sd,sc,_,h1,_⟩
  ·exact⟨none,0,by rw[h1,I];rfl⟩
  ·exact⟨_,sc,h1⟩
 by_cases h0:Nat.min xs.length l.length=0
 ·obtain⟨sb,sc,ab⟩:=aa;have c:=dE (P:=P) (ty:=ty) (t2:=t2) (dl:=l.length) (dc:=cap) (sl:=xs.length) (sc:=sc) (db:=ad) (sb:=sb) ht h0 w;have C:(execOp a.eval ⟨some d,.call ⟨.builtin .copy,#[X,Y],#[Z,t2]⟩,ty,pos,af,none⟩).run P w= .ok (.value (goInt 0)) w:=by
   simp [execOp,resolve,invoke,builtin,G.eval hx,G.eval hy,hv,ab,c]
  rw[C];have e:aC l xs=l:=by
   unfold aC;have:xs.length=0∨l.length=0:=by simp only[Nat.min_def] at h0;split at h0<;>omega
   rcases this with h|h
   ·rw[zX h];simp
   ·rw[zX h];simp
  rw[e] at rp;have i:=hs.upd rp (uW _) λF J _=>⟨F,J,λ_ D=> .inl D,λ_ _ _=>rfl⟩
  have:=k h i.1 i.2 _ _ (G.put hd _) A;rw[h0] at this;exact hK _ _ this
 ·rcases g1 with ⟨_,I,_⟩|⟨g,cap',cur,J,k2,k3,k4,k5,k6,k7⟩
  ·exact absurd (by rw[I];simp) h0
  ·rcases y with ⟨_,I⟩|⟨sd,sc,news,j1,_,j3,j4⟩
   ·exact absurd (by rw[I];simp) h0
   ·have hg:w.heap[g]? =some (.cells cur.toList.toArray T (0,0)):=by rw[A.heap];simpa using k3
    have ag:=j3.len;have z:(xs.take l.length).length=Nat.min xs.length l.length:=by rw[vV];exact Nat.min_comm _ _
    have hN:=j3.take l.length;have t:=hN.len;rw[z] at t;have ah:Nat.min xs.length l.length*r.sz≤l.length*r.sz:=wM _ (Nat.min_le_right _ _);have ai:l.length*r.sz≤cap'*r.sz:=wM _ k4;have c:=XK (P:=P) (ty:=ty) (t2:=t2) (b:=g) (o:=0) (dl:=l.length) (dc:=cap') (sl:=xs.length) (sc:=sc) (cs:=cur.toList) (T:=T) ht t hg (λj u hj=>by
     rw[LX,A.heap];exact j4 j u (by rw[xZ] at hj;split at hj;exact hj;cases hj)) (by simp;omega) (λu hu=>hN.one u hu)
    have C:(execOp a.eval ⟨some d,.call ⟨.builtin .copy,#[X,Y],#[Z,t2]⟩,ty,pos,af,none⟩).run P w= .ok (.value (goInt (Nat.min xs.length l.length))) (w.setRow g (IA cur.toList 0 (news.take (l.length*r.sz))).toArray):=by
     simp [execOp,resolve,invoke,builtin,G.eval hx,G.eval hy,J,j1,c]
    rw[C];obtain⟨h',e1,e2,e3,e4⟩:=Qo w g cur (IA cur.toList 0 (news.take (l.length*r.sz))).toArray T (by simpa using hg);rw[A.heap] at e2 e4;have U:(aC l xs).length=l.length:=by unfold aC;rw[wC,z,xC];simp only[Nat.min_def];split<;>omega
    have i:=hs.upd rp (h':=h') (by omega) λF1 H m2=>by
     rcases H with ⟨H,m3,m4⟩|⟨g',c',cur',H,q2,q3,_⟩
     ·refine⟨F1,.inl ⟨H,by rw[m3];simp [aC],m4⟩,λ_ D=> .inl D,λV _ W=>?_⟩;by_cases e:V=g
      ·subst e;rw[e3,k3,m3];simp [IA]
      ·exact e4 V e
     ·rw[J] at H;injection H with q _ _
      injection q with q
      injection q with q _ _
      subst q;refine⟨F1,.inr ⟨g,cap',_,by rw[U];exact J,q2,e3,by omega,k5,?_,?_⟩,λ_ D=> .inl D,λV _ W=>e4 V λe=>W ((q2 V).2 e)⟩
      ·simp only[IA,List.take_zero,wB,zF,wC,xC,Array.length_toList,t];omega
      ·rw[U];have ac:(IA cur.toList 0 (news.take (l.length*r.sz))).take (l.length*r.sz)=news.take (l.length*r.sz)++(cur.toList.take (l.length*r.sz)).drop (xs.length*r.sz):=by
        simp only[IA,List.take_zero,wB,vO];rw[List.take_append];rw[yM (by omega)];congr 1;rw[t];by_cases hc:xs.length≤l.length
        ·have:Nat.min xs.length l.length=xs.length:=Nat.min_eq_left hc;rw[this,List.drop_take]
        ·have:Nat.min xs.length l.length=l.length:=Nat.min_eq_right (by omega);have hm:l.length*r.sz≤xs.length*r.sz:=wM _ (by omega);rw[this,Nat.sub_self,List.take_zero,List.drop_of_length_le (by simp;omega)]
       show MX S h' r (List.take (l.length*r.sz) (IA cur.toList 0 (news.take (l.length*r.sz)))) (aC l xs)
       rw[ac];exact(hN.append (k7.drop xs.length)).mono (λ_ x=>x) λb D=>e4 b λe=>(m2 g ((q2 g).2 rfl)).2 (e▸D)
    exact hK _ _ (k h' i.1 i.2 _ _ (G.put hd _) ⟨e1,A.os,A.tape,A.out⟩)
end
def Yo {α}(a:Nat) (s:List α) (i:Int) (v:List α):Option (List α):=
 if 0≤i∧i≤s.length∧v.length=1∧room (s.length+1) a=true then some (s.take i.toNat++v++s.drop i.toNat) else none
def Yn {α}{a:Nat}{s:List α}{i:Int}{v r:List α}(h:Yo a s i v=some r):∃(j:Nat) (x:α),i=(j:Int)∧j≤s.length∧v=[x]∧room (s.length+1) a=true∧r=s.take j++[x]++s.drop j:=by
 unfold Yo at h;split at h
 ·rename_i b;obtain⟨g,k,c,d⟩:=b;cases h
  match v,c with
  |[x],_=>exact⟨i.toNat,x,by omega,by omega,rfl,d,rfl⟩
 ·cases h
def YN {a b:Nat}(h:a+b≤9223372036854775807):BR ((a:Int)+(b:Int))=((a+b:Nat):Int):=by rw[QM (by unfold AA;omega)];omega
def sQ {a b:Nat}(h:b≤a∧a≤9223372036854775807):BR ((a:Int)-(b:Int))=((a-b:Nat):Int):=by rw[QM (by unfold AA;omega)];omega
def St.bxne {S:Nat→Prop}{L:List HP}{h:AX}{a b T g:Nat}{cs cs':List Value}(i:St S (Bx a T cs::Bx b g cs'::L) h):a≠b∧a<h.size∧b<h.size:=by
 obtain⟨F,c,j,n,k,l,_⟩:=i.2;have m:=j a ((c.1 a).2 rfl);have d:=l b ((k.1 b).2 rfl);exact⟨λe=>d.2 (e▸(c.1 a).2 rfl),m.1,d.1.1⟩
def MG {cs vs:List Value}{o:Nat}(h:o+vs.length≤cs.length):(IA cs o vs).length=cs.length:=by unfold IA;simp;omega
def Ru.head {b:Array Oper}{d:Nat}{k:List Nat}{a:Array Bool}(c:Ru b (d::k) a) (v:d∈Region.ready .any b a) (l:d∉k):Ru b k (a.setIfInBounds d true):=by
 obtain⟨_,oi,m,g⟩:=mem_ready.1 v;refine⟨by simp [c.size],λj n o p e q s=>?_,λt u=>by rw[getD_set_ne true (λe:d=t=>l (by rw[e];exact u))];exact c.tail t (vX _ u)⟩;by_cases i:d=j
 ·subst i;have:n=oi:=uX (o.symm.trans m);subst this;exact getD_set_true (g e q s)
 ·rw[getD_set_ne false i] at p;exact getD_set_true (c.closed j n o p e q s)
def PB (n:Nat) (a G:List Nat):List Nat:=(List.range n).filter λi=> !a.contains i&& !G.contains i
def Xp (a:Array Oper) (c:Nat) (b F G:List Nat):Bool:=
 (c::b).all (λt=>Nat.blt t a.size)&&decide (c::b).Nodup&&Sq a (c::b) (F++G)&&OB a (c::b)&&Pn a (c::b)&&NX a&&Region.noSelect a&&(b.isEmpty||Sq a b (PB a.size b G))&&Pn a b&&(G.all λi=> !(c::b).contains i)&&
 F.all λf=> !G.contains f&&match a[f]? with|some o=>o.after.all λe=> !Region.binds .any e||(Nat.blt e.on a.size&& !(c::b).contains e.on&& !(F++G).contains e.on)|none=>false
def mZ (P:Program) (l:List Oper) (Q:Exit→Act→World→Prop) (B:World) (n:FN) (d:SM) (s c:AX) (R:AR) (a G:List Nat):Prop:=
 ∃(b:AR) (pss:List (List (Nat×Nat))) (j:List (Nat×Nat)) (k:List Oper) (m:List Nat),d.map (·.1)=m∧
  Vm l.toArray (a++PB l.length a G) n m=true∧SG l.toArray (a++PB l.length a G) l pss=true∧
  ((l.zip pss).zipIdx.all λp=>(a++PB l.length a G).contains p.2||p.1.2.all λq=> !(PB l.length a G).contains q.1)=true∧
  (j.all λp=>Nat.blt p.1 l.length&& !(a++PB l.length a G).contains p.1&&(E3 l.toArray p.1).any (Nat.beq p.2 ·))=true∧(a.filterMap λt=>l[t]?)=k∧
  (∀i,i∈G→∀v,R i v s→b i v c)∧(∀i v g o,Gf c g→Gf g o→b i v g→b i v o)∧
  BF P l.toArray Q B n d c b (a++PB l.length a G) [] ZB.none 0 l pss∧
  ∀h',Gf c h'→PA b h' (λfr=>LF P l.toArray Q k B h' n (fr++d)) j []
def mZ.run {P:Program}{l:List Oper}{Q:Exit→Act→World→Prop}{B:World}{n:FN}{m2:SM}{h1 s:AX}{R:AR}{g:Nat}{q F G:List Nat}(k:mZ P l Q B n m2 h1 s R q G) (hc:Xp l.toArray g q F G=true) (hQ:∀c a w,¬Q (.panic c) a w)
  {y:Nat} {b:Array Bool} {a a2:Act} {w2:World} (hu:RW b=y+1) (J:Ru l.toArray (g::q) b) (hr:g∈Region.ready .any l.toArray b) (hl:∀i,i<l.toArray.size→i∉g::q→i∉G→b.getD i false=true)
  (g4:∀i,i∉g::q→b.getD i false=true→∃d v,E3 l.toArray i=some d∧a.tmps[d]? =some v∧R i v h1) (hw:Wd B s w2) (K:Fr n a2 m2) (M:∀(i:Nat) (u:Value),a.tmps[i]? =some u→a2.tmps[i]? =some u):
  wpAny P .any l.toArray Q y (b.setIfInBounds g true) a2 w2:=by
 obtain⟨R2,pss,fs,ls,ms,rfl,q1,H,q3,q4,q5,q6,q7,q8,q9⟩:=k;simp only[Xp,uL,uY] at hc;obtain⟨⟨⟨⟨⟨⟨⟨⟨⟨⟨c1,c2⟩,c3⟩,c4⟩,c5⟩,c6⟩,c7⟩,c8⟩,c9⟩,aa⟩,af⟩:=hc;have C:=yO.1 c2;have U:l.length=pss.length:=by
  simp only[SG,uL] at H;exact uR H.1
 have ab:g<l.toArray.size:=by have:=uQ.1 c1 g (vW ..);simp [Nat.blt] at this ⊢;omega
 have ac:=J.size;have V:(b.setIfInBounds g true).getD g false=true:=by
  have:g<b.size:=by omega
  simp [this]
 have ad:∀i,i∈PB l.length q G→(b.setIfInBounds g true).getD i false=true:=λi j=>by
  unfold PB at j;obtain⟨h1,s⟩:=xW.1 j;simp only[uL,vE] at s;by_cases e:g=i
  ·subst e;exact V
  ·refine getD_set_true (hl i (by simpa using vF.1 h1) (λh=>?_) λh=>by rw[uT.2 h] at s;cases s.2);rcases uS.1 h with h|h
   ·exact e h.symm
   ·rw[uT.2 h] at s;cases s.1
 refine Q9 (R:=R2) (B:=B) (h0:=s) (n:=n) (m:=m2) q (PB l.length q G) [] ZB.none iH.none (λz I=>by cases I) (λi j=>by cases j) (λt ht=>?_) C.2 c6 [] [] (.inl rfl) ?_ ?_ c9 c7 hQ (λf K=>by cases K) (λf K=>by cases K) q1 q7 (λi j=>by cases j) (λi o d j ho hd=>?_) (λa w h' g1 g2 g3 g4 _ _=>?_) (.inl rfl) y _ _ _ ?_ (J.head hr C.1) ad ⟨⟨s,hw,Gf.refl s,K,λi j A=>?_⟩,λi j=>(by cases j),λz I=>(by cases I)⟩
 ·have:=uQ.1 c1 t (vX _ ht);simp [Nat.blt] at this ⊢;omega
 ·rw[uZ] at c8;refine c8.imp (λe=>by cases q with|nil=>rfl|cons _ _=>simp at e) λx=>?_;rw[wB,wB];simpa using x
 ·have:=LZ c4;cases q with
  |nil=>trivial
  |cons t r=>exact this.2
 ·have W:l[i]? =some o:=by simpa using ho
  obtain⟨ps,p1,p2⟩:=BF.at_ (k:=0) q8 U (by rw[vO];exact j) W hd;rw[vO] at p2;have I:((o,ps),i)∈(l.zip pss).zipIdx:=by
   rw[vY];exact⟨i,by rw[zQ,(zR (z:=(o,ps))).2 ⟨W,p1⟩];simp⟩
  refine⟨ps,?_,λp hp h=>?_,p2⟩
  ·simp only[SG,uL] at H;have:=uQ.1 H.2 _ I;rw[uZ] at this;exact this.resolve_left λh=>j (uT.1 h)
  ·have:=uQ.1 q3 _ I;rw[uZ] at this;have:=uQ.1 (this.resolve_left λh=>j (uT.1 h)) p hp;rw[uT.2 h] at this;cases this
 ·obtain⟨fr,g,k2⟩:=Kv (a:=a) (n:=n) _ _ (q9 h' g2) (λp hp=>by
   have e:=uQ.1 q4 p hp;simp only[uL,vE] at e;have e1:p.1<l.toArray.size:=by have:=e.1.1;simp [Nat.blt] at this ⊢;omega
   obtain⟨d,v,q1,H,q3⟩:=g4 p.1 e1 (λh=>by rw[uT.2 h] at e;cases e.1.2);have e2:=e.2;rw[q1] at e2;have:p.2=d:=uR (by simpa using e2);exact⟨v,by rw[this];exact H,q3⟩) ⟨g3.dfr,g3.siz,λi v j=>by simp [lk] at j⟩
  have X:(q.filterMap λt=>l.toArray[t]?)=ls:=by rw[←q5];congr 1;funext t;simp
  rw[X];exact g a w (k2.append g3) g1
 ·have:=Mm (mem_ready.1 hr).1;omega
 ·have Y:g≠i:=λe=>by
   subst e;refine j (zT _ (xW.2 ⟨vF.2 (by simpa using ab),?_⟩));simp only[uL,vE];refine⟨?_,?_⟩
   ·cases D:q.contains g with
    |true=>exact absurd (uT.1 D) C.1
    |false=>rfl
   ·cases D:G.contains g with
    |true=>
     have:=uQ.1 aa g (uT.1 D);simp at this
    |false=>rfl
  rw[getD_set_ne false Y] at A;have Z:i∉q:=λh=>j (xH _ h);have ae:i<l.length:=by
   rcases vG i b.size with h|h
   ·rw[ac] at h;simpa using h
   ·rw[wL,Array.getElem?_eq_none h] at A;cases A
  have hG:i∈G:=by
   apply xO;intro hG;refine j (zT _ (xW.2 ⟨vF.2 ae,?_⟩));simp only[uL,vE];exact⟨by cases D:q.contains i with|true=>exact absurd (uT.1 D) Z|false=>rfl,by cases D:G.contains i with|true=>exact absurd (uT.1 D) hG|false=>rfl⟩
  obtain⟨d,v,p1,p2,p3⟩:=g4 i (λh=>(uS.1 h).elim (λe=>Y e.symm) Z) A;exact⟨d,v,p1,M _ _ p2,q6 i hG v p3⟩
def mZ.fin {P:Program}{l:List Oper}{Q:Exit→Act→World→Prop}{B:World}{n:FN}{A:SM}{C m:AX}{R:AR}{q:Nat}{b G:List Nat}(k:mZ P l Q B n A C m R b G) (M:q<l.length) (s:q∉G)
  {a c:Act} {w:World} (U:∀i,i<l.length→i∉q::b→∃d v,E3 l.toArray i=some d∧a.tmps[d]? =some v∧R i v C) (V:Wd B m w) (x:Fr n c A) (g:∀(i:Nat) (u:Value),a.tmps[i]? =some u→c.tmps[i]? =some u):
  wpList P l.toArray Q (b.filterMap λt=>l[t]?) c w:=by
 obtain⟨R2,pss,fs,ls,ms,rfl,D,F,H,W,X,Y,q7,q8,Z⟩:=k;obtain⟨fr,y,k2⟩:=Kv (a:=c) (n:=n) _ _ (Z m (Gf.refl m)) (λp hp=>by
  have e:=uQ.1 W p hp;simp only[uL,vE] at e;have I:p.1<l.length:=by have:=e.1.1;simp [Nat.blt] at this ⊢;omega
  have J:p.1∉b++PB l.length b G:=λh=>by rw[uT.2 h] at e;cases e.1.2
  have j:p.1∉b:=λh=>J (xH _ h);have o:p.1∈G:=by
   apply xO;intro o;refine J (zT _ (xW.2 ⟨vF.2 I,?_⟩));simp only[uL,vE];exact⟨by cases z:b.contains p.1 with|true=>exact absurd (uT.1 z) j|false=>rfl,by cases z:G.contains p.1 with|true=>exact absurd (uT.1 z) o|false=>rfl⟩
  obtain⟨d,v,D,F,H⟩:=U p.1 I (λh=>(uS.1 h).elim (λe=>s (e▸o)) j);have K:=e.2;rw[D] at K;have:p.2=d:=uR (by simpa using K);exact⟨v,by rw[this];exact g _ _ F,Y _ o v H⟩) ⟨x.dfr,x.siz,λi v hi=>by simp [lk] at hi⟩
 rw[X];exact y c w (k2.append x) V
def K2 (P:Program) (l:List Oper) (Q:Exit→Act→World→Prop) (B:World) (n:FN) (b mt:SM) (d:AX) (R:AR) (g G:List Nat):Act→World→Prop:=λa w=>
 Fr n a (b++mt)∧∃c,Wd B c w∧mZ P l Q B n b d c R g G
def Wz {P:Program}{l:List Oper}{Q:Exit→Act→World→Prop}{b:Array Oper}{B:World}{n:FN}{c mt:SM}{g d:AX}{R:AR}{i G:List Nat}(k:mZ P l Q B n c g d R i G):LF P b (Exit.then (K2 P l Q B n c mt g R i G) Q) [] B d n (c++mt):=
 λa w j m=>⟨j,d,m,k⟩
section
variable {P:Program}{ex:List (Nat×AP)}{RR N:AP}{cs:List Code}{B:World}{h:AX}{n:FN}{m m0:SM}{S:Nat→Prop}{L:List HP}
def U1 {l:List Oper}{id:Nat}(q:Nat) (C F G As:List Nat) (R:AR) (pss:List (List (Nat×Nat))) (fs:List (Nat×Nat)) {o1:Oper}(hm:P.follows .mixedOrders=true) (hc:Xp l.toArray q C F G=true) (ms:List Nat) (aq:m.map (·.1)=ms) (aa:Vm l.toArray (q::C) n ms=true)
  (ab:SG l.toArray (q::C) l pss=true) (ar:(fs.all λp=>Nat.blt p.1 l.length&& !(q::C).contains p.1&& !G.contains p.1&&(E3 l.toArray p.1).any (Nat.beq p.2 ·))=true) (ah:l[q]? =some o1) (ac:o1.guard=none) (aj:Tk m0 m)
  (ad:∀i v J Q,Gf h J→Gf J Q→R i v J→R i v Q)
  (ak:(As.all λi=> !(q::C).contains i&& !G.contains i&& !F.contains i)=true) (au:∀i,i∈As→Rq (R i))
  (hF:NJ P l.toArray (q::C) n m h R F)
  (step:BF P l.toArray (Qx ex RR (W P ex RR cs N)) B n m h R (q::C) As ZB.none 0 l pss)
  (av:∀mt h',Gf h h'→PA R h' (λfr=>Y1 (SL l.toArray As) (lk fr)→LF P l.toArray (Exit.then (K2 P l (Qx ex RR (W P ex RR cs N)) B n (fr++m) mt h' R C G) (Qx ex RR (W P ex RR cs N))) [o1] B h' n (fr++m++mt)) fs []):WF P ex RR (.region id l.toArray true::cs) N B h n m0:=by
 intro a w hf hw;subst aq;have aw:=hc;simp only[Xp,uL,uY] at hc;obtain⟨⟨⟨⟨⟨⟨⟨⟨⟨⟨c1,c2⟩,c3⟩,c4⟩,c5⟩,c6⟩,c7⟩,c8⟩,c9⟩,ax⟩,ay⟩:=hc;simp only[SG,uL] at ab;have al:l.length=pss.length:=uR ab.1;have A:∀i,i∈As→i∉q::C∧i∉G:=λi y=>by
  have:=uQ.1 ak i y;simp only[uL,vE] at this;exact⟨λh=>(by rw[uT.2 h] at this;cases this.1.1),λh=>(by rw[uT.2 h] at this;cases this.1.2)⟩
 have az:∀f,f∈F→f∉As:=λf hf hA=>by
  have:=uQ.1 ak f hA;simp only[uL,vE] at this;rw[uT.2 hf] at this;cases this.2
 have hQ:∀c a w,¬(Qx ex RR (W P ex RR cs N)) (.panic c) a w:=λc a w hq=>hq;have a0:q<l.toArray.size:=by have:=uQ.1 c1 q (vW ..);simp [Nat.blt] at this ⊢;omega
 have a1:∀f,f∈F→∀o,l.toArray[f]? =some o→∀e,e∈o.after→Region.binds .any e=true→e.on<l.toArray.size∧e.on∉q::C∧e.on∉F++G:=λf hf o ho e he hb=>by
  have:=uQ.1 ay f hf;rw[uL,ho] at this;have:=this.2;simp only[xN] at this;have:=this e he;simp only[hb,vL,wH,uL,vE] at this;exact⟨(by simpa [Nat.blt] using this.1.1:e.on+1≤l.toArray.size),λh=>(by rw[uT.2 h] at this;cases this.1.2),λh=>(by rw[uT.2 h] at this;cases this.2)⟩
 have U:∀(a:Act) (w:World) (J:AX) (Kp:Act→World→Prop),Wd B J w→Gf h J→Fr n a m→(∀i,i<l.toArray.size→i∉q::C→i∉G→∃d v,E3 l.toArray i=some d∧a.tmps[d]? =some v∧R i v J)→(∀i,i∈As→∀j,j∈As→i≠j→∀(d d':Nat) (u K:Value),E3 l.toArray i=some d→E3 l.toArray j=some d'→a.tmps[d]? =some u→a.tmps[d']? =some K→∀b b',NO u=some b→NO K=some b'→b≠b')→
   (∀(m2:SM) (D:Act) (w2:World) (Q:AX),Wd B Q w2→mZ P l (Qx ex RR (W P ex RR cs N)) B n m2 J Q R C G→Fr n D m2→(∀(i:Nat) (u:Value),a.tmps[i]? =some u→D.tmps[i]? =some u)→Kp D w2)→
   o1.wp P a w Kp (Qx ex RR (W P ex RR cs N))∨(o1.asks P a w∧LetsOut (Qx ex RR (W P ex RR cs N))):=by
  intro a w J Kp g1 g2 g3 g4 gd hK;obtain⟨fr,q1,q2⟩:=Kv (a:=a) (n:=n) _ _ (av (IB a) J g2) (λp hp=>by
   have e:=uQ.1 ar p hp;simp only[uL,vE] at e;have e1:p.1<l.toArray.size:=by have:=e.1.1.1;simp [Nat.blt] at this ⊢;omega
   have e3:p.1∉q::C:=λh=>by rw[uT.2 h] at e;cases e.1.1.2
   have e4:p.1∉G:=λh=>by rw[uT.2 h] at e;cases e.1.2
   obtain⟨d,v,q1,q2,q3⟩:=g4 p.1 e1 e3 e4;have e2:=e.2;rw[q1] at e2;have:p.2=d:=uR (by simpa using e2);exact⟨v,by rw[this];exact q2,q3⟩) ⟨g3.dfr,g3.siz,λi v y=>by simp [lk] at y⟩
  have am:Y1 (SL l.toArray As) (lk fr):=by
   intro s hs s' a3 V u K e e';obtain⟨i,y,hd⟩:=xY.1 hs;obtain⟨j,hj,ae⟩:=xY.1 a3;exact gd i y j hj (λe=>V (by subst e;rw[hd] at ae;exact uX ae)) _ _ _ _ hd ae (q2.at_ _ _ e) (q2.at_ _ _ e')
  have X:Fr n a (fr++m++IB a):=(q2.append g3).append g3.full;have a4:∀(D:Act),Fr n D (fr++m++IB a)→∀(i:Nat) (u:Value),a.tmps[i]? =some u→D.tmps[i]? =some u:=by
   intro D Y i u hu;have H:lk (IB a) i=some u:=by
    have:i<a.tmps.size:=(vJ.1 hu).1;rw[Ph this];simp [wL,hu]
   have a5:∃K,lk (fr++m++IB a) i=some K:=by
    rw[Jf,H];cases lk (fr++m) i with
    |some x=>exact⟨x,by simp⟩
    |none=>exact⟨u,by simp⟩
   obtain⟨K,an⟩:=a5;have h5:=X.at_ i K an;rw[hu] at h5;have h6:=Y.at_ i K an;rw[h6,uX h5]
  have af:∀(D:Act),Fr n D (fr++m++IB a)→Fr n D (fr++m):=λD Y=>⟨Y.dfr,Y.siz,λi v y=>Y.at_ i v (by rw[Jf,y];rfl)⟩
  refine(Ju ac (q1 am a w X g1)).imp (Oper.wp_mono ?_) λx=>x;rintro D w2 ⟨p1,Q,M,p3⟩;exact hK _ D w2 Q M p3 (af D p1) (a4 D p1)
 have lt:∀i d,E3 l.toArray i=some d→i<l.toArray.size:=λi d q1=>by
  unfold E3 at q1;cases ao:l.toArray[i]? with
  |none=>rw[ao] at q1;cases q1
  |some oj=>exact(vJ.1 ao).1
 have a6:∀(I:Nat) (g:Array Bool) (a:Act) (w:World),RW g=I+1→Ru l.toArray (q::C) g→UR B h n m l.toArray (q::C++[]) As ZB.none R g a w→(∀i,i<l.toArray.size→i∉q::C→i∉G→g.getD i false=true)→q∈Region.ready .any l.toArray g→wpOp P l.toArray (Qx ex RR (W P ex RR cs N)) q (wpAny P .any l.toArray (Qx ex RR (W P ex RR cs N)) I (g.setIfInBounds q true)) a w:=by
  intro I g a w hu a7 ai H hr;obtain⟨J,g1,g2,g3,g4⟩:=ai.ex;have Z:∀i,i∉q::C→g.getD i false=true→∃d v,E3 l.toArray i=some d∧a.tmps[d]? =some v∧R i v J:=λi y H=>g4 i (by rw[vR];exact y) H;unfold wpOp;have ho:l.toArray[q]? =some o1:=by simpa using ah
  simp only[ho];rw[uJ (by simp [Region.wanted,ac])];exact U a w J _ g1 g2 g3 (λi p1 M p3=>Z i M (H i p1 M p3)) (λi y j hj V d d' u K e1 e2 e3 e4=>ai.dis i y j hj V (H i (lt _ _ e1) (A i y).1 (A i y).2) (H j (lt _ _ e2) (A j hj).1 (A j hj).2) d d' u K e1 e2 e3 e4)
   λm2 D w2 Q M p3 p4 p5=>p3.run aw hQ hu a7 hr H Z M p4 p5
 refine λrd a8=>O9 a8 Mx hm (Q9 (R:=R) (B:=B) (h0:=h) (n:=n) (m:=m) (q::C) [] As ZB.none iH.none (λz hz=>by cases hz) au (λt ht=>by have:=uQ.1 c1 t ht;simp [Nat.blt] at this ⊢;omega) c2 c6 F G (.inr rfl) (.inr (by rw[vR];exact c3)) (LZ c4) c5 c7 hQ (λf hf=>⟨az f hf,λsl h=>by cases h⟩) (λf hf=>hF.at_ f hf) (by rw[vR];exact aa) ad (λi y=>by rw[vR];exact(A i y).1) (λi o d y ho hd=>?_) (λa w h' g1 g2 g3 g4 g5 _=>?_) (.inr ⟨a1,λba bb e I g a w=>by cases e;exact a6 I g a w⟩) _ _ _ _ ?_ ⟨by simp,λj oj _ H=>(by rw[getD_replicate_false] at H;cases H),λt ht=>getD_in (by have:=uQ.1 c1 t ht;simp [Nat.blt] at this ⊢;omega) (getD_replicate_false _ _)⟩ (λi y=>by cases y) ⟨⟨h,hw.drew,Gf.refl h,hf.sub aj,λi _ H=>(by rw[getD_replicate_false] at H;cases H)⟩,λi _ j _ _ H=>(by rw[getD_replicate_false] at H;cases H),λz hz=>by cases hz⟩)
 ·rw[vR] at y;have ap:l[i]? =some o:=by simpa using ho
  obtain⟨ps,q1,q2⟩:=BF.at_ (k:=0) step al (by rw[vO];exact y) ap hd;rw[vO] at q2;refine⟨ps,?_,λ_ _=>vD,q2⟩;have hz:((o,ps),i)∈(l.zip pss).zipIdx:=by
   rw[vY];exact⟨i,by rw[zQ,(zR (z:=(o,ps))).2 ⟨ap,q1⟩];simp⟩
  have:=uQ.1 ab.2 _ hz;rw[uZ] at this;exact this.resolve_left λh=>y (uT.1 h)
 ·have a9:q∉G:=λh=>by
   have:=uQ.1 ax q h;simp at this
  have Z:∀i,i<l.toArray.size→i∉q::C→∃d v,E3 l.toArray i=some d∧a.tmps[d]? =some v∧R i v h':=λi J Q=>g4 i J (by rw[vR];exact Q);have ag:((q::C).filterMap λt=>l.toArray[t]?)=o1::(C.filterMap λt=>l[t]?):=by
   have ho:l.toArray[q]? =some o1:=by simpa using ah
   rw[List.filterMap_cons,ho];simp
  rw[ag];unfold wpList;rw[uJ (by simp [Region.wanted,ac])];exact U a w h' _ g1 g2 g3 (λi p1 M _=>Z i p1 M) (λi y j hj V d d' u K e1 e2 e3 e4=>g5 d (xY.2 ⟨i,y,e1⟩) d' (xY.2 ⟨j,hj,e2⟩) (λe=>by
    subst e;have:=uQ.1 aa i (vF.2 (lt _ _ e1));simp only[uZ,uT,(A i y).1,wK,e1,uL,uQ,vF] at this;have:=this.2 j (lt _ _ e2);rw[e2] at this;simp only[(A j hj).1,wK,Option.any_some,Nat.beq_refl,vL,wS,vK] at this;exact V (uR this)) u K e3 e4)
   λm2 D w2 Q M p3 p4 p5=>p3.fin (by simpa using a0) a9 (λi p1 M=>Z i (by simpa using p1) M) M p4 p5
 ·unfold RW;rw[zH];simp
end
end Go.Proofs.YtibidnaedddfdaaGreat
