import Derived.Test.YtibidnaedddfdaaGreatDCore15
import Derived.Lib.Overlaps
import Derived.Lib.AppendZerosOnto
namespace Go.Proofs.YtibidnaedddfdaaGreat
set_option linter.all false
open Go.RowKit
def Ks (b o j:Nat):(⟨b,o,none⟩:Addr).add j=⟨b,o+j,none⟩:=by unfold Addr.add;split<;>simp_all
def MQ {h:BB}{b:Nat}{T:TypeId}{cs:List Value}(a:h[b]? =some (.cells cs.toArray T (0,0))) (j:Nat):Gt h ⟨b,j,none⟩=cs[j]? :=by simp [Gt,a]
section
variable {S:Nat→Prop}{L:List HP}{h:BB}
def St.osbx {α}{r:B7 α}{T:Nat}{v:Value}{l:List α}(c:St S (OS r T v l::L) h):((∃d,v= .slice d 0 0)∧l=[])∨
  ∃m cap cs,v= .slice (some ⟨m,0,none⟩) l.length cap∧l.length≤cap∧cap≤maxLen∧cs.length=cap*r.sz∧Jd S h r (cs.take (l.length*r.sz)) l∧St S (Bx m T cs::L) h:=by
 obtain⟨F,k,i,j⟩:=c.2
 rcases k with ⟨a,b,_⟩|⟨m,cap,cur,a,b,k3,k4,k5,k6,k7⟩
 ·exact .inl ⟨a,b⟩
 ·exact .inr ⟨m,cap,cur.toList,a,k4,k5,by simpa using k6,k7,c.1,F,⟨b,by simpa using k3⟩,i,j⟩
def St.bxosc {α}{r:B7 α}{b e cap:Nat}{cs:List Value}{l:List α}(c:St S (Bx b e cs::L) h) (d:l.length≤cap) (g:cap≤maxLen) (i:cs.length=cap*r.sz) (j:Jd S h r (cs.take (l.length*r.sz)) l):
  St S (OS r e (.slice (some ⟨b,0,none⟩) l.length cap) l::L) h:=
 (c.upd (H':=OS r e (.slice (some ⟨b,0,none⟩) l.length cap) l) .head (jB _) λF a _=>⟨F,.inr ⟨b,cap,cs.toArray,rfl,a.1,a.2,d,g,by simpa using i,by simpa using j⟩,λ_ k=> .inl k,λ_ _ _=>rfl⟩).1
def Ju {b T:Nat}{cs:List Value}(a:St S L h) (c:Bx b T cs∈L):h[b]? =some (.cells cs.toArray T (0,0)):=by
 obtain⟨F,k,_⟩:=a.get c;exact k.2
end
section
variable {P:Program}{ops:Array Oper}{C:World→Prop}{Q:Act→Prop}{n:FN}{m m':SM}{rest:List Oper}
variable {d:Nat}{ty:TypeId}{pos:String}{af:Array Edge}{X Y Z:Operand}{t:TypeId}{kd:IntKind}{v p:Value}
def Kh {e sz:Nat}(b:JZ P t e sz=true):P.underlying t=some (.slice (P.elem t))∧∀w,(sizeOf (P.elem t)).run P w= .ok sz w:=by
 obtain⟨i,a,c,d,j⟩:=Ki b
 have g:P.elem t=e:=by simp [Program.elem,a]
 rw[g]
 exact⟨a,λw=>by simp [sizeOf,typeInfo,c,d]⟩
def XH {c:Option Addr}{len cap e sz:Nat}{y:Int}(i:CE m X=some (.slice c len cap)) (j:CE m Y=some (.int kd y)) (l:JZ P t e sz=true) (h0:0≤y) (o:y≤len) (hd:Nat.blt d n.1=true)
  (k:∀u,QF P ops C Q rest n ((d,u)::m)):QF P ops C Q (⟨some d,.slice t X (some Y) none none,ty,pos,af,none⟩::rest) n m:=λa b=>by
 obtain⟨g,p⟩:=Kh l
 exact Fo b hd (λw _=>by simp [execOp,b.eval i,b.eval j,run_sliceAt_slice _ _ _ _ _ _ g,run_slice_l w t c len cap g kd y h0 o,p];rfl) (k _)
def MF {b o len cap e sz j:Nat}{y:Int}(i:CE m X=some (.slice (some ⟨b,o,none⟩) len cap)) (l:CE m Y=some (.int kd y)) (p:y=(j:Int)) (q:JZ P t e sz=true) (v:j≤len) (x:j<cap) (hd:Nat.blt d n.1=true)
  (k:QF P ops C Q rest n ((d,.slice (some ⟨b,o+j*sz,none⟩) (len-j) (cap-j))::m)):QF P ops C Q (⟨some d,.slice t X (some Y) none none,ty,pos,af,none⟩::rest) n m:=λa c=>by
 obtain⟨g,s⟩:=Kh q
 subst p
 refine Fo c hd (λw _=>?_) k
 have u:¬cap=j:=by omega
 simp [execOp,c.eval i,c.eval l,run_sliceAt_slice _ _ _ _ _ _ g,run_slice_l w t _ len cap g kd (j:Int) (by omega) (by omega),s,sliced,u,Ks]
def Tc {b o len cap e sz j:Nat}{y:Int}(i:CE m X=some (.slice (some ⟨b,o,none⟩) len cap)) (l:CE m Y=some (.int kd y)) (p:y=(j:Int)) (q:JZ P t e sz=true) (v:j≤cap) (hd:Nat.blt d n.1=true)
  (k:QF P ops C Q rest n ((d,.slice (some ⟨b,o,none⟩) j cap)::m)):QF P ops C Q (⟨some d,.slice t X none (some Y) none,ty,pos,af,none⟩::rest) n m:=λa c=>by
 obtain⟨g,s⟩:=Kh q
 subst p
 refine Fo c hd (λw _=>?_) k
 have u:(⟨b,o,none⟩:Addr).add 0=⟨b,o,none⟩:=by rw[Ks];rfl
 simp [execOp,c.eval i,c.eval l,run_sliceAt_slice _ _ _ _ _ _ g,run_slice_h w t _ len cap g kd (j:Int) (by omega) (by omega),s,sliced,u]
def YZ {c:Option Addr}{len cap e sz:Nat}{b:TypeId}(i:CE m X=some (.slice c len cap)) (j:JZ P t e sz=true) (hd:Nat.blt d n.1=true) (k:QF P ops C Q rest n ((d,.int .i64 cap)::m)):
  QF P ops C Q (⟨some d,.call ⟨.builtin .cap,#[X],#[t]⟩,b,pos,af,none⟩::rest) n m:=λa g=>by
 obtain⟨l,o⟩:=Kh j
 exact Fo g hd (λw _=>by simp [execOp,resolve,invoke,builtin,g.eval i,run_cap_slice w t _ c len cap l,goInt]) k
def YX {f:Nat}{X Y:Operand}{g i:Value}{b:Array TypeId}(j:CE m X=some g) (l:CE m Y=some i) (hd:Nat.blt d n.1=true) (o:∀w,C w→(callFunc f #[g,i]).run P w= .ok (.value v) w)
  (k:QF P ops C Q rest n ((d,v)::m)):QF P ops C Q (⟨some d,.call ⟨.value (.func f),#[X,Y],b⟩,ty,pos,af,none⟩::rest) n m:=λa c=>
 Fo c hd (λw p=>by
  have q:a.eval (.func f)= .func (.func f) #[] #[]:=rfl
  have:=o w p
  simp [execOp,resolve,Deferred.ofValue,invoke,q,c.eval j,c.eval l,this]) k
end
section
variable {P:Program}{ops:Array Oper}{Q:Exit→Act→World→Prop}{n:FN}{m:SM}{rest:List Oper}
variable {d:Nat}{ty:TypeId}{pos:String}{af:Array Edge}{X Y:Operand}{B w:World}{h:BB}{S:Nat→Prop}{L L2:List HP}{v:Value}
def Ts {T k t2 e sz b o dl dc sl sc:Nat}{d:Addr}{cs news:List Value}(l:JZ P k e sz=true) (m:news.length=Nat.min sl dl*sz) (n:w.heap[b]? =some (.cells cs.toArray T (0,0)))
  (p:∀j u,news[j]? =some u→w.cell? (d.add j)=some u) (a:o+news.length≤cs.length) (q:∀u∈news,u.oneCell'=true):
  (Builtin.copy_ #[k,t2] ty #[.slice (some ⟨b,o,none⟩) dl dc,.slice (some d) sl sc]).run P w= .ok (goInt (Nat.min sl dl)) (w.setRow b (Fs cs o news).toArray):=by
 obtain⟨i,s,t,v,y⟩:=Ki l
 have x:=run_firstCells_some (P:=P) w sz (Nat.min sl dl) d sl sc news m p
 have c:=run_storeCells_at P b o T news 0 cs.toArray w n (by simpa using a) q
 have g:(List.take (o+0) cs.toArray.toList++news++List.drop (o+0+news.length) cs.toArray.toList)=Fs cs o news:=by simp [Fs]
 rw[g] at c
 simp [Builtin.copy_,run_underlying s,Builtin.lenOf,sizeOf,typeInfo,t,v,x,c]
def Re {T t t2 e sz b o dl dc sl sc:Nat}{z:Addr}{cs news cs':List Value}(G:CE m X=some (.slice (some ⟨b,o,none⟩) dl dc)) (H:CE m Y=some (.slice (some z) sl sc)) (I:JZ P t e sz=true) (J:news.length=Nat.min sl dl*sz)
  (U:∀j u,news[j]? =some u→Gt h (z.add j)=some u) (l:o+news.length≤cs.length) (V:∀u∈news,u.oneCell'=true) (W:Fs cs o news=cs') (hd:Nat.blt d n.1=true) (A:St S L h) (r:KA L (Bx b T cs) (Bx b T cs') L2)
  (k:∀h',St S L2 h'→Cm S h S h'→(∀c,c≠b→h'[c]? =h[c]?)→LF P ops Q rest B h' n ((d,.int .i64 (Nat.min sl dl:Nat))::m)):LF P ops Q (⟨some d,.call ⟨.builtin .copy,#[X,Y],#[t,t2]⟩,ty,pos,af,none⟩::rest) B h n m:=by
 intro a w v i
 refine wpList_plain rfl λK Z=>?_
 unfold Oper.wp
 obtain⟨M,p,_⟩:=r.pick
 obtain⟨F,g1,g2,_⟩:=Sp.pick p A.2
 have C:w.heap[b]? =some (.cells cs.toArray T (0,0)):=by rw[i.heap];exact g1.2
 have q:=Ts (P:=P) (ty:=ty) (t2:=t2) (dc:=dc) (sc:=sc) I J C (λj u hj=>by rw[Ik,i.heap];exact U j u hj) l V
 have x:(execOp a.eval ⟨some d,.call ⟨.builtin .copy,#[X,Y],#[t,t2]⟩,ty,pos,af,none⟩).run P w= .ok (.value (goInt (Nat.min sl dl))) (w.setRow b cs'.toArray):=by
  simp [execOp,resolve,invoke,builtin,v.eval G,v.eval H,q,W]
 rw[x]
 obtain⟨h',e1,e2,e3,y⟩:=NU w b cs.toArray cs'.toArray T C
 rw[i.heap] at e2 y
 have s:=A.upd r (h':=h') (by omega) λF D k2=>⟨F,⟨D.1,e3⟩,λ_ hb=> .inl hb,λc _ g=>y c λe=>g ((D.1 c).2 e)⟩
 exact Z _ _ (k h' s.1 s.2 (λc g=>y c g) _ _ (v.put hd _) ⟨e1,i.os,i.tape,i.out⟩)
def bP {t x e sz g b o len cap j:Nat}{z olds:List Value}{W Z:IntKind}{y:Int}(hx:CE m X=some (.slice (some ⟨b,o,none⟩) len cap)) (hy:CE m Y=some (.int W y)) (hj:y=(j:Int)) (he:NI P t=some (e,sz,g,z)) (hn:P.underlying x=some (.int Z))
  (C:olds.length=len*sz) (hc:∀j u,olds[j]? =some u→Gt h ⟨b,o+j,none⟩=some u) (h0:0<j) (hg:cap<len+j) (D:I4 (len+j) g) (F:0<g) (hd:Nat.blt d n.1=true) (hs:St S L h)
  (k:∀c' cs' h',len+j≤c'→c'≤maxLen→cs'.length=c'*sz→cs'.take (len*sz)=olds→St S (Bx h.size e cs'::L) h'→Cm S h S h'→(∀A,A<h.size→h'[A]? =h[A]?)→LF P ops Q rest B h' n ((d,.slice (some ⟨h.size,0,none⟩) (len+j) c')::m)):
  LF P ops Q (⟨some d,.call ⟨.builtin .append,#[X,Y],#[t,x]⟩,ty,pos,af,none⟩::rest) B h n m:=by
 intro a w G p
 subst hj
 obtain⟨i,l,u1,u2,u3,u4,u5,u6,u7,u8⟩:=JU he
 have ab:len+j≤(len+j)*g:=Nat.le_mul_of_pos_right _ F
 have ac:j*g≤(len+j)*g:=kE _ (by omega)
 have aa:=D.le
 have s:(Builtin.firstCells i.size len (.slice (some ⟨b,o,none⟩) len cap)).run P w.drew= .ok olds.toArray w.drew:=
  run_firstCells_some (P:=P) w.drew i.size len ⟨b,o,none⟩ len cap olds (by rw[u4];exact C) λq u hq=>by
   rw[Ks]
   have:=hc q u hq
   rw[←p.heap,←Ik] at this
   exact this
 have v:=Lib.run_append_grow_zeros (P:=P) w t x ty e i l W Z u1 hn u2 u3 (some ⟨b,o,none⟩) len cap olds s j h0 (by omega) hg (by omega) (by rw[u5];have:=D.le;omega) (by rw[u5];exact D.fits hg)
 refine wpList_plain rfl λK hK=>?_
 unfold Oper.wp
 have H:(execOp a.eval ⟨some d,.call ⟨.builtin .append,#[X,Y],#[t,x]⟩,ty,pos,af,none⟩).run P w= .ok (.value (.slice (some ⟨w.heap.size,0,none⟩) (len+j) (grownCap w (len+j) cap e)))
   (w.drew.alloc (.cells (olds.toArray++Builtin.zeroCells l.cells j++Builtin.zeroCells l.cells (grownCap w (len+j) cap e-(len+j))) e)):=by
  simp [execOp,resolve,invoke,builtin,G.eval hx,G.eval hy,v]
 rw[H]
 have I:=grownCap_ge w (len+j) cap e
 have J:=grownCap_le_maxLen w (len+j) cap e (by unfold maxLen;omega)
 have M:l.cells.size=sz:=by rw[u6];simpa using u7
 have c:=hs.push e (olds.toArray++Builtin.zeroCells l.cells j++Builtin.zeroCells l.cells (grownCap w (len+j) cap e-(len+j))).toList
 rw[Array.toArray_toList] at c
 have U:=(show Wd B h w.drew from⟨p.heap,p.os,p.tape,p.out⟩).alloc (.cells (olds.toArray++Builtin.zeroCells l.cells j++Builtin.zeroCells l.cells (grownCap w (len+j) cap e-(len+j))) e)
 have hz:w.heap.size=h.size:=by rw[p.heap]
 rw[hz]
 refine hK _ _ (k _ _ _ I J ?_ ?_ c.1 c.2 (λA V=>Ft _ _ _ V) _ _ (G.put hd _) U)
 ·simp only[Array.length_toList,Array.size_append,mF,size_zeroCells,M,C,←kA]
  congr 1
  omega
 ·simp only[Array.toList_append,mH]
  rw[←C,lV]
end
def Jd.take {α S h}{r:B7 α}:∀{l:List α}{cs},Jd S h r cs l→∀i,Jd S h r (cs.take (i*r.sz)) (l.take i)
 |[],_,k,i=>by have k:_=[]:=k;subst k;simp [Jd]
 |x::l,_,⟨b,c,e,a,d⟩,0=>by simp [Jd]
 |x::l,_,⟨b,c,e,a,d⟩,i+1=>by
  subst e
  have g:=r.len a
  refine⟨b,c.take (i*r.sz),?_,a,d.take i⟩
  rw[kQ,Nat.add_comm (i*r.sz),←g,List.take_append]
  rw[lY (by omega),Nat.add_sub_cancel_left]
def Jd.drop {α S h}{r:B7 α}:∀{l:List α}{cs},Jd S h r cs l→∀i,Jd S h r (cs.drop (i*r.sz)) (l.drop i)
 |[],_,k,i=>by have k:_=[]:=k;subst k;simp [Jd]
 |x::l,_,⟨b,a,e,c,d⟩,0=>by subst e;rw[Nat.zero_mul];exact⟨b,a,rfl,c,d⟩
 |x::l,_,⟨b,a,e,c,d⟩,i+1=>by
  subst e
  have g:=r.len c
  have:(b++a).drop ((i+1)*r.sz)=a.drop (i*r.sz):=by
   rw[kQ,Nat.add_comm (i*r.sz),←g,List.drop_append]
   rw[List.drop_of_length_le (by omega),Nat.add_sub_cancel_left,kF]
  rw[this,List.drop_succ_cons]
  exact d.drop i
def Sd {cs M nv:List Value}{A B C:Nat}(d:M.length=C) (a:nv.length=B) (g:A+B+C≤cs.length):(Fs (Fs cs (A+B) M) A nv).take (A+B+C)=cs.take A++nv++M:=by
 unfold Fs
 have b:(cs.take (A+B)++M++cs.drop (A+B+M.length)).take A=cs.take A:=by
  rw[mH,mE (by simp;omega),lP];congr 1;omega
 have c:(cs.take (A+B)++M++cs.drop (A+B+M.length)).drop (A+nv.length)=M++cs.drop (A+B+M.length):=by
  rw[a,mH,List.drop_append_of_le_length (by simp;omega),List.drop_of_length_le (by simp;omega),kF]
 rw[b,c,←mH,mE (by simp;omega),lY (by simp;omega)]
def TX {cs M nv:List Value}{A B C:Nat}(b:M.length=C) (c:nv.length=B) (d:A+B+C≤cs.length):(Fs (Fs cs A nv) (A+B) M).take (A+B+C)=cs.take A++nv++M:=by
 unfold Fs
 have a:(cs.take A++nv++cs.drop (A+nv.length)).take (A+B)=cs.take A++nv:=by
  rw[mE (by simp;omega),lY (by simp;omega)]
 rw[a,mE (by simp;omega),lY (by simp;omega)]
def XX {α}(l xs:List α):List α:=xs.take l.length++l.drop xs.length
section
variable {P:Program}{ops:Array Oper}{Q:Exit→Act→World→Prop}{n:FN}{m:SM}{rest:List Oper}
variable {d:Nat}{ty:TypeId}{pos:String}{af:Array Edge}{X Y:Operand}{B w:World}{h:BB}{S:Nat→Prop}{L L2:List HP}{v:Value}
def Xn {a t2 e sz dl dc sl sc:Nat}{db sb:Option Addr}(b:JZ P a e sz=true) (h0:Nat.min sl dl=0) (w:World):
  (Builtin.copy_ #[a,t2] ty #[.slice db dl dc,.slice sb sl sc]).run P w= .ok (goInt 0) w:=by
 obtain⟨i,c,d,j,k⟩:=Ki b
 have g:∀(x:Addr),(loadCells x 0).run P w= .ok #[] w:=λx=>by simpa using run_loadCells_list (P:=P) w x [] (by simp)
 cases db<;>cases sb<;>simp [Builtin.copy_,run_underlying c,Builtin.lenOf,Builtin.firstCells,sizeOf,typeInfo,d,h0,storeCells,g]
def bO {α}{r:B7 α}{T Z t2 e:Nat}{s:Value}{l xs:List α}(hx:CE m X=some v) (hy:CE m Y=some s) (ht:JZ P Z e r.sz=true) (y:aX S h r s xs) (hd:Nat.blt d n.1=true) (hs:St S L h) (rp:KA L (OS r T v l) (OS r T v (XX l xs)) L2)
  (k:∀h',St S L2 h'→Cm S h S h'→LF P ops Q rest B h' n ((d,.int .i64 (Nat.min xs.length l.length:Nat))::m)):LF P ops Q (⟨some d,.call ⟨.builtin .copy,#[X,Y],#[Z,t2]⟩,ty,pos,af,none⟩::rest) B h n m:=by
 intro a w G A
 refine wpList_plain rfl λK hK=>?_
 unfold Oper.wp
 obtain⟨M,p,_⟩:=rp.pick
 obtain⟨F,g1,g2,_⟩:=Sp.pick p hs.2
 obtain⟨ad,cap,hv,ae⟩:=OS.len g1
 have aa:∃sb sc,s= .slice sb xs.length sc:=by
  rcases y with ⟨h1,I⟩|⟨sd,sc,_,h1,_⟩
  ·exact⟨none,0,by rw[h1,I];rfl⟩
  ·exact⟨_,sc,h1⟩
 by_cases h0:Nat.min xs.length l.length=0
 ·obtain⟨sb,sc,ab⟩:=aa
  have c:=Xn (P:=P) (ty:=ty) (t2:=t2) (dl:=l.length) (dc:=cap) (sl:=xs.length) (sc:=sc) (db:=ad) (sb:=sb) ht h0 w
  have C:(execOp a.eval ⟨some d,.call ⟨.builtin .copy,#[X,Y],#[Z,t2]⟩,ty,pos,af,none⟩).run P w= .ok (.value (goInt 0)) w:=by
   simp [execOp,resolve,invoke,builtin,G.eval hx,G.eval hy,hv,ab,c]
  rw[C]
  have e:XX l xs=l:=by
   unfold XX
   have:xs.length=0∨l.length=0:=by simp only[Nat.min_def] at h0;split at h0<;>omega
   rcases this with h|h
   ·rw[mS h];simp
   ·rw[mS h];simp
  rw[e] at rp
  have i:=hs.upd rp (jB _) λF J _=>⟨F,J,λ_ D=> .inl D,λ_ _ _=>rfl⟩
  have:=k h i.1 i.2 _ _ (G.put hd _) A
  rw[h0] at this
  exact hK _ _ this
 ·rcases g1 with ⟨_,I,_⟩|⟨g,cap',cur,J,k2,k3,k4,k5,k6,k7⟩
  ·exact absurd (by rw[I];simp) h0
  ·rcases y with ⟨_,I⟩|⟨sd,sc,news,j1,_,j3,j4⟩
   ·exact absurd (by rw[I];simp) h0
   ·have hg:w.heap[g]? =some (.cells cur.toList.toArray T (0,0)):=by rw[A.heap];simpa using k3
    have ag:=j3.len
    have z:(xs.take l.length).length=Nat.min xs.length l.length:=by rw[kH];exact Nat.min_comm _ _
    have hN:=j3.take l.length
    have t:=hN.len
    rw[z] at t
    have ah:Nat.min xs.length l.length*r.sz≤l.length*r.sz:=kE _ (Nat.min_le_right _ _)
    have ai:l.length*r.sz≤cap'*r.sz:=kE _ k4
    have c:=Ts (P:=P) (ty:=ty) (t2:=t2) (b:=g) (o:=0) (dl:=l.length) (dc:=cap') (sl:=xs.length) (sc:=sc) (cs:=cur.toList) (T:=T) ht t hg (λj u hj=>by
     rw[Ik,A.heap]
     exact j4 j u (by rw[lZ] at hj;split at hj;exact hj;cases hj)) (by simp;omega) (λu hu=>hN.one u hu)
    have C:(execOp a.eval ⟨some d,.call ⟨.builtin .copy,#[X,Y],#[Z,t2]⟩,ty,pos,af,none⟩).run P w= .ok (.value (goInt (Nat.min xs.length l.length))) (w.setRow g (Fs cur.toList 0 (news.take (l.length*r.sz))).toArray):=by
     simp [execOp,resolve,invoke,builtin,G.eval hx,G.eval hy,J,j1,c]
    rw[C]
    obtain⟨h',e1,e2,e3,e4⟩:=NU w g cur (Fs cur.toList 0 (news.take (l.length*r.sz))).toArray T (by simpa using hg)
    rw[A.heap] at e2 e4
    have U:(XX l xs).length=l.length:=by unfold XX;rw[kD,z,kK];simp only[Nat.min_def];split<;>omega
    have i:=hs.upd rp (h':=h') (by omega) λF1 H m2=>by
     rcases H with ⟨H,m3,m4⟩|⟨g',c',cur',H,q2,q3,_⟩
     ·refine⟨F1,.inl ⟨H,by rw[m3];simp [XX],m4⟩,λ_ D=> .inl D,λV _ W=>?_⟩
      by_cases e:V=g
      ·subst e
       rw[e3,k3,m3]
       simp [Fs]
      ·exact e4 V e
     ·rw[J] at H
      injection H with q _ _
      injection q with q
      injection q with q _ _
      subst q
      refine⟨F1,.inr ⟨g,cap',_,by rw[U];exact J,q2,e3,by omega,k5,?_,?_⟩,λ_ D=> .inl D,λV _ W=>e4 V λe=>W ((q2 V).2 e)⟩
      ·simp only[Fs,List.take_zero,kF,mF,kD,kK,Array.length_toList,t]
       omega
      ·rw[U]
       have ac:(Fs cur.toList 0 (news.take (l.length*r.sz))).take (l.length*r.sz)=news.take (l.length*r.sz)++(cur.toList.take (l.length*r.sz)).drop (xs.length*r.sz):=by
        simp only[Fs,List.take_zero,kF,jR]
        rw[List.take_append]
        rw[lY (by omega)]
        congr 1
        rw[t]
        by_cases hc:xs.length≤l.length
        ·have:Nat.min xs.length l.length=xs.length:=Nat.min_eq_left hc
         rw[this,List.drop_take]
        ·have:Nat.min xs.length l.length=l.length:=Nat.min_eq_right (by omega)
         have hm:l.length*r.sz≤xs.length*r.sz:=kE _ (by omega)
         rw[this,Nat.sub_self,List.take_zero,List.drop_of_length_le (by simp;omega)]
       show Jd S h' r (List.take (l.length*r.sz) (Fs cur.toList 0 (news.take (l.length*r.sz)))) (XX l xs)
       rw[ac]
       exact(hN.append (k7.drop xs.length)).mono (λ_ x=>x) λb D=>e4 b λe=>(m2 g ((q2 g).2 rfl)).2 (e▸D)
    exact hK _ _ (k h' i.1 i.2 _ _ (G.put hd _) ⟨e1,A.os,A.tape,A.out⟩)
end
def X0 {α}(a:Nat) (s:List α) (i:Int) (v:List α):Option (List α):=
 if 0≤i∧i≤s.length∧v.length=1∧room (s.length+1) a=true then some (s.take i.toNat++v++s.drop i.toNat) else none
def Uu {α}{a:Nat}{s:List α}{i:Int}{v r:List α}(h:X0 a s i v=some r):∃(j:Nat) (x:α),i=(j:Int)∧j≤s.length∧v=[x]∧room (s.length+1) a=true∧r=s.take j++[x]++s.drop j:=by
 unfold X0 at h
 split at h
 ·rename_i b
  obtain⟨g,k,c,d⟩:=b
  cases h
  match v,c with
  |[x],_=>exact⟨i.toNat,x,by omega,by omega,rfl,d,rfl⟩
 ·cases h
def Ug {a b:Nat}(h:a+b≤9223372036854775807):B8 ((a:Int)+(b:Int))=((a+b:Nat):Int):=by rw[My (by unfold AD;omega)];omega
def gF {a b:Nat}(h:b≤a∧a≤9223372036854775807):B8 ((a:Int)-(b:Int))=((a-b:Nat):Int):=by rw[My (by unfold AD;omega)];omega
def St.bxne {S:Nat→Prop}{L:List HP}{h:BB}{a b T g:Nat}{cs cs':List Value}(i:St S (Bx a T cs::Bx b g cs'::L) h):a≠b∧a<h.size∧b<h.size:=by
 obtain⟨F,c,j,n,k,l,_⟩:=i.2
 have m:=j a ((c.1 a).2 rfl)
 have d:=l b ((k.1 b).2 rfl)
 exact⟨λe=>d.2 (e▸(c.1 a).2 rfl),m.1,d.1.1⟩
def JR {cs vs:List Value}{o:Nat}(h:o+vs.length≤cs.length):(Fs cs o vs).length=cs.length:=by unfold Fs;simp;omega
end Go.Proofs.YtibidnaedddfdaaGreat
