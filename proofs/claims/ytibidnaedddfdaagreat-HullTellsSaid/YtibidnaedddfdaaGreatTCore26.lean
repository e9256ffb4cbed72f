import Derived.Test.YtibidnaedddfdaaGreatTCore15
import Derived.Lib.Overlaps
import Derived.Lib.AppendZerosOnto
import Derived.Maps.RangeRun
namespace Go.Proofs.YtibidnaedddfdaaGreat
set_option linter.all false
open Go.RowKit
def Og (b o j:Nat):(⟨b,o,none⟩:Addr).add j=⟨b,o+j,none⟩:=by unfold Addr.add;split<;>simp_all
def Qi {h:A4}{b:Nat}{T:TypeId}{cs:List Value}(a:h[b]? =some (.cells cs.toArray T (0,0))) (j:Nat):Ji h ⟨b,j,none⟩=cs[j]? :=by simp [Ji,a]
section
variable {S:Nat→Prop}{L:List HP}{h:A4}
def St.osbx {α}{r:BX α}{T:Nat}{v:Value}{l:List α}(c:St S (OS r T v l::L) h):((∃d,v= .slice d 0 0)∧l=[])∨
  ∃m cap cs,v= .slice (some ⟨m,0,none⟩) l.length cap∧l.length≤cap∧cap≤maxLen∧cs.length=cap*r.sz∧NL S h r (cs.take (l.length*r.sz)) l∧St S (Bx m T cs::L) h:=by
 obtain⟨F,k,i,j⟩:=c.2;rcases k with ⟨a,b,_⟩|⟨m,cap,cur,a,b,k3,k4,k5,k6,k7⟩
 ·exact .inl ⟨a,b⟩
 ·exact .inr ⟨m,cap,cur.toList,a,k4,k5,by simpa using k6,k7,c.1,F,⟨b,by simpa using k3⟩,i,j⟩
def St.bxosc {α}{r:BX α}{b e cap:Nat}{cs:List Value}{l:List α}(c:St S (Bx b e cs::L) h) (d:l.length≤cap) (g:cap≤maxLen) (i:cs.length=cap*r.sz) (j:NL S h r (cs.take (l.length*r.sz)) l):
  St S (OS r e (.slice (some ⟨b,0,none⟩) l.length cap) l::L) h:=
 (c.upd (H':=OS r e (.slice (some ⟨b,0,none⟩) l.length cap) l) .head (wV _) λF a _=>⟨F,.inr ⟨b,cap,cs.toArray,rfl,a.1,a.2,d,g,by simpa using i,by simpa using j⟩,λ_ k=> .inl k,λ_ _ _=>rfl⟩).1
def NU {b T:Nat}{cs:List Value}(a:St S L h) (c:Bx b T cs∈L):h[b]? =some (.cells cs.toArray T (0,0)):=by
 obtain⟨F,k,_⟩:=a.get c;exact k.2
end
section
variable {P:Program}{ops:Array Oper}{C:World→Prop}{Q:Act→Prop}{n:FN}{m m':SM}{rest:List Oper}
variable {d:Nat}{ty:TypeId}{pos:String}{af:Array Edge}{X Y Z:Operand}{t:TypeId}{kd:IntKind}{v p:Value}
def OR {e sz:Nat}(b:TI P t e sz=true):P.underlying t=some (.slice (P.elem t))∧∀w,(sizeOf (P.elem t)).run P w= .ok sz w:=by
 obtain⟨i,a,c,d,j⟩:=P1 b;have g:P.elem t=e:=by simp [Program.elem,a]
 rw[g];exact⟨a,λw=>by simp [sizeOf,typeInfo,c,d]⟩
def dM {c:Option Addr}{len cap e sz:Nat}{y:Int}(i:CF m X=some (.slice c len cap)) (j:CF m Y=some (.int kd y)) (l:TI P t e sz=true) (h0:0≤y) (o:y≤len) (hd:Nat.blt d n.1=true)
  (k:∀u,QF P ops C Q rest n ((d,u)::m)):QF P ops C Q (⟨some d,.slice t X (some Y) none none,ty,pos,af,none⟩::rest) n m:=λa b=>by
 obtain⟨g,p⟩:=OR l;exact HT b hd (λw _=>by simp [execOp,b.eval i,b.eval j,run_sliceAt_slice _ _ _ _ _ _ g,run_slice_l w t c len cap g kd y h0 o,p];rfl) (k _)
def Ri {b o len cap e sz j:Nat}{y:Int}(i:CF m X=some (.slice (some ⟨b,o,none⟩) len cap)) (l:CF m Y=some (.int kd y)) (p:y=(j:Int)) (q:TI P t e sz=true) (v:j≤len) (x:j<cap) (hd:Nat.blt d n.1=true)
  (k:QF P ops C Q rest n ((d,.slice (some ⟨b,o+j*sz,none⟩) (len-j) (cap-j))::m)):QF P ops C Q (⟨some d,.slice t X (some Y) none none,ty,pos,af,none⟩::rest) n m:=λa c=>by
 obtain⟨g,s⟩:=OR q;subst p;refine HT c hd (λw _=>?_) k;have u:¬cap=j:=by omega
 simp [execOp,c.eval i,c.eval l,run_sliceAt_slice _ _ _ _ _ _ g,run_slice_l w t _ len cap g kd (j:Int) (by omega) (by omega),s,sliced,u,Og]
def XP {b o len cap e sz j:Nat}{y:Int}(i:CF m X=some (.slice (some ⟨b,o,none⟩) len cap)) (l:CF m Y=some (.int kd y)) (p:y=(j:Int)) (q:TI P t e sz=true) (v:j≤cap) (hd:Nat.blt d n.1=true)
  (k:QF P ops C Q rest n ((d,.slice (some ⟨b,o,none⟩) j cap)::m)):QF P ops C Q (⟨some d,.slice t X none (some Y) none,ty,pos,af,none⟩::rest) n m:=λa c=>by
 obtain⟨g,s⟩:=OR q;subst p;refine HT c hd (λw _=>?_) k;have u:(⟨b,o,none⟩:Addr).add 0=⟨b,o,none⟩:=by rw[Og];rfl
 simp [execOp,c.eval i,c.eval l,run_sliceAt_slice _ _ _ _ _ _ g,run_slice_h w t _ len cap g kd (j:Int) (by omega) (by omega),s,sliced,u]
def gH {c:Option Addr}{len cap e sz:Nat}{b:TypeId}(i:CF m X=some (.slice c len cap)) (j:TI P t e sz=true) (hd:Nat.blt d n.1=true) (k:QF P ops C Q rest n ((d,.int .i64 cap)::m)):
  QF P ops C Q (⟨some d,.call ⟨.builtin .cap,#[X],#[t]⟩,b,pos,af,none⟩::rest) n m:=λa g=>by
 obtain⟨l,o⟩:=OR j;exact HT g hd (λw _=>by simp [execOp,resolve,invoke,builtin,g.eval i,run_cap_slice w t _ c len cap l,goInt]) k
def gF {f:Nat}{X Y:Operand}{g i:Value}{b:Array TypeId}(j:CF m X=some g) (l:CF m Y=some i) (hd:Nat.blt d n.1=true) (o:∀w,C w→(callFunc f #[g,i]).run P w= .ok (.value v) w)
  (k:QF P ops C Q rest n ((d,v)::m)):QF P ops C Q (⟨some d,.call ⟨.value (.func f),#[X,Y],b⟩,ty,pos,af,none⟩::rest) n m:=λa c=>
 HT c hd (λw p=>by
  have q:a.eval (.func f)= .func (.func f) #[] #[]:=rfl;have:=o w p;simp [execOp,resolve,Deferred.ofValue,invoke,q,c.eval j,c.eval l,this]) k
end
section
variable {P:Program}{ops:Array Oper}{Q:Exit→Act→World→Prop}{n:FN}{m:SM}{rest:List Oper}
variable {d:Nat}{ty:TypeId}{pos:String}{af:Array Edge}{X Y:Operand}{B w:World}{h:A4}{S:Nat→Prop}{L L2:List HP}{v:Value}
def eW {T l t2 e sz b o d dc sl sc:Nat}{g:Addr}{cs news:List Value}(m:TI P l e sz=true) (n:news.length=Nat.min sl d*sz) (p:w.heap[b]? =some (.cells cs.toArray T (0,0)))
  (q:∀j u,news[j]? =some u→w.cell? (g.add j)=some u) (a:o+news.length≤cs.length) (s:∀u∈news,u.oneCell'=true):
  (Builtin.copy_ #[l,t2] ty #[.slice (some ⟨b,o,none⟩) d dc,.slice (some g) sl sc]).run P w= .ok (goInt (Nat.min sl d)) (w.setRow b (JN cs o news).toArray):=by
 obtain⟨i,t,v,x,z⟩:=P1 m;have y:=run_firstCells_some (P:=P) w sz (Nat.min sl d) g sl sc news n q;have c:=run_storeCells_at P b o T news 0 cs.toArray w p (by simpa using a) s;have k:(List.take (o+0) cs.toArray.toList++news++List.drop (o+0+news.length) cs.toArray.toList)=JN cs o news:=by simp [JN]
 rw[k] at c;simp [Builtin.copy_,run_underlying t,Builtin.lenOf,sizeOf,typeInfo,v,x,y,c]
def Vx {T v t2 e sz b o t dc sl sc:Nat}{A:Addr}{cs news cs':List Value}(H:CF m X=some (.slice (some ⟨b,o,none⟩) t dc)) (I:CF m Y=some (.slice (some A) sl sc)) (J:TI P v e sz=true) (U:news.length=Nat.min sl t*sz)
  (V:∀j u,news[j]? =some u→Ji h (A.add j)=some u) (l:o+news.length≤cs.length) (W:∀u∈news,u.oneCell'=true) (Z:JN cs o news=cs') (hd:Nat.blt d n.1=true) (C:St S L h) (r:Np L (Bx b T cs) (Bx b T cs') L2)
  (k:∀h',St S L2 h'→CX S h S h'→(∀c,c≠b→h'[c]? =h[c]?)→LF P ops Q rest B h' n ((d,.int .i64 (Nat.min sl t:Nat))::m)):LF P ops Q (⟨some d,.call ⟨.builtin .copy,#[X,Y],#[v,t2]⟩,ty,pos,af,none⟩::rest) B h n m:=by
 intro a w x i;refine wpList_plain rfl λK hK=>?_;unfold Oper.wp;obtain⟨M,p,_⟩:=r.pick;obtain⟨F,g1,g2,_⟩:=Sp.pick p C.2;have D:w.heap[b]? =some (.cells cs.toArray T (0,0)):=by rw[i.heap];exact g1.2
 have q:=eW (P:=P) (ty:=ty) (t2:=t2) (dc:=dc) (sc:=sc) J U D (λj u hj=>by rw[Mu,i.heap];exact V j u hj) l W;have y:(execOp a.eval ⟨some d,.call ⟨.builtin .copy,#[X,Y],#[v,t2]⟩,ty,pos,af,none⟩).run P w= .ok (.value (goInt (Nat.min sl t))) (w.setRow b cs'.toArray):=by
  simp [execOp,resolve,invoke,builtin,x.eval H,x.eval I,q,Z]
 rw[y];obtain⟨h',e1,e2,e3,z⟩:=TW w b cs.toArray cs'.toArray T D;rw[i.heap] at e2 z;have s:=C.upd r (h':=h') (by omega) λF G k2=>⟨F,⟨G.1,e3⟩,λ_ hb=> .inl hb,λc _ g=>z c λe=>g ((G.1 c).2 e)⟩
 exact hK _ _ (k h' s.1 s.2 (λc g=>z c g) _ _ (x.put hd _) ⟨e1,i.os,i.tape,i.out⟩)
def oE {t x e sz g b o len cap j:Nat}{z olds:List Value}{W Z:IntKind}{y:Int}(hx:CF m X=some (.slice (some ⟨b,o,none⟩) len cap)) (hy:CF m Y=some (.int W y)) (hj:y=(j:Int)) (he:RE P t=some (e,sz,g,z)) (hn:P.underlying x=some (.int Z))
  (C:olds.length=len*sz) (hc:∀j u,olds[j]? =some u→Ji h ⟨b,o+j,none⟩=some u) (h0:0<j) (hg:cap<len+j) (D:Mb (len+j) g) (F:0<g) (hd:Nat.blt d n.1=true) (hs:St S L h)
  (k:∀c' cs' h',len+j≤c'→c'≤maxLen→cs'.length=c'*sz→cs'.take (len*sz)=olds→St S (Bx h.size e cs'::L) h'→CX S h S h'→(∀A,A<h.size→h'[A]? =h[A]?)→LF P ops Q rest B h' n ((d,.slice (some ⟨h.size,0,none⟩) (len+j) c')::m)):
  LF P ops Q (⟨some d,.call ⟨.builtin .append,#[X,Y],#[t,x]⟩,ty,pos,af,none⟩::rest) B h n m:=by
 intro a w G p;subst hj;obtain⟨i,l,u1,u2,u3,u4,u5,u6,u7,u8⟩:=Mx he;have ab:len+j≤(len+j)*g:=Nat.le_mul_of_pos_right _ F;have ac:j*g≤(len+j)*g:=yO _ (by omega);have aa:=D.le;have s:(Builtin.firstCells i.size len (.slice (some ⟨b,o,none⟩) len cap)).run P w.drew= .ok olds.toArray w.drew:=
  run_firstCells_some (P:=P) w.drew i.size len ⟨b,o,none⟩ len cap olds (by rw[u4];exact C) λq u hq=>by
   rw[Og];have:=hc q u hq;rw[←p.heap,←Mu] at this;exact this
 have v:=Lib.run_append_grow_zeros (P:=P) w t x ty e i l W Z u1 hn u2 u3 (some ⟨b,o,none⟩) len cap olds s j h0 (by omega) hg (by omega) (by rw[u5];have:=D.le;omega) (by rw[u5];exact D.fits hg);refine wpList_plain rfl λK hK=>?_;unfold Oper.wp;have H:(execOp a.eval ⟨some d,.call ⟨.builtin .append,#[X,Y],#[t,x]⟩,ty,pos,af,none⟩).run P w= .ok (.value (.slice (some ⟨w.heap.size,0,none⟩) (len+j) (grownCap w (len+j) cap e)))
   (w.drew.alloc (.cells (olds.toArray++Builtin.zeroCells l.cells j++Builtin.zeroCells l.cells (grownCap w (len+j) cap e-(len+j))) e)):=by
  simp [execOp,resolve,invoke,builtin,G.eval hx,G.eval hy,v]
 rw[H];have I:=grownCap_ge w (len+j) cap e;have J:=grownCap_le_maxLen w (len+j) cap e (by unfold maxLen;omega);have M:l.cells.size=sz:=by rw[u6];simpa using u7
 have c:=hs.push e (olds.toArray++Builtin.zeroCells l.cells j++Builtin.zeroCells l.cells (grownCap w (len+j) cap e-(len+j))).toList;rw[Array.toArray_toList] at c;have U:=(show Wd B h w.drew from⟨p.heap,p.os,p.tape,p.out⟩).alloc (.cells (olds.toArray++Builtin.zeroCells l.cells j++Builtin.zeroCells l.cells (grownCap w (len+j) cap e-(len+j))) e);have hz:w.heap.size=h.size:=by rw[p.heap]
 rw[hz];refine hK _ _ (k _ _ _ I J ?_ ?_ c.1 c.2 (λA V=>HZ _ _ _ V) _ _ (G.put hd _) U)
 ·simp only[Array.length_toList,Array.size_append,List.size_toArray,size_zeroCells,M,C,←yB];congr 1;omega
 ·simp only[Array.toList_append,yX];rw[←C,Aam]
end
def NL.take {α S h}{r:BX α}:∀{l:List α}{cs},NL S h r cs l→∀i,NL S h r (cs.take (i*r.sz)) (l.take i)
 |[],_,k,i=>by have k:_=[]:=k;subst k;simp [NL]
 |x::l,_,⟨b,c,e,a,d⟩,0=>by simp [NL]
 |x::l,_,⟨b,c,e,a,d⟩,i+1=>by
  subst e;have g:=r.len a;refine⟨b,c.take (i*r.sz),?_,a,d.take i⟩;rw[yT,Nat.add_comm (i*r.sz),←g,List.take_append];rw[Aap (by omega),Nat.add_sub_cancel_left]
def NL.drop {α S h}{r:BX α}:∀{l:List α}{cs},NL S h r cs l→∀i,NL S h r (cs.drop (i*r.sz)) (l.drop i)
 |[],_,k,i=>by have k:_=[]:=k;subst k;simp [NL]
 |x::l,_,⟨b,a,e,c,d⟩,0=>by subst e;rw[Nat.zero_mul];exact⟨b,a,rfl,c,d⟩
 |x::l,_,⟨b,a,e,c,d⟩,i+1=>by
  subst e;have g:=r.len c;have:(b++a).drop ((i+1)*r.sz)=a.drop (i*r.sz):=by
   rw[yT,Nat.add_comm (i*r.sz),←g,List.drop_append];rw[List.drop_of_length_le (by omega),Nat.add_sub_cancel_left,yD]
  rw[this,List.drop_succ_cons];exact d.drop i
def Wi {cs M nv:List Value}{A B C:Nat}(d:M.length=C) (a:nv.length=B) (g:A+B+C≤cs.length):(JN (JN cs (A+B) M) A nv).take (A+B+C)=cs.take A++nv++M:=by
 unfold JN;have b:(cs.take (A+B)++M++cs.drop (A+B+M.length)).take A=cs.take A:=by
  rw[yX,Aa1 (by simp;omega),Aad];congr 1;omega
 have c:(cs.take (A+B)++M++cs.drop (A+B+M.length)).drop (A+nv.length)=M++cs.drop (A+B+M.length):=by
  rw[a,yX,List.drop_append_of_le_length (by simp;omega),List.drop_of_length_le (by simp;omega),yD]
 rw[b,c,←yX,Aa1 (by simp;omega),Aap (by simp;omega)]
def XG {cs M nv:List Value}{A B C:Nat}(b:M.length=C) (c:nv.length=B) (d:A+B+C≤cs.length):(JN (JN cs A nv) (A+B) M).take (A+B+C)=cs.take A++nv++M:=by
 unfold JN;have a:(cs.take A++nv++cs.drop (A+nv.length)).take (A+B)=cs.take A++nv:=by
  rw[Aa1 (by simp;omega),Aap (by simp;omega)]
 rw[a,Aa1 (by simp;omega),Aap (by simp;omega)]
section
variable {P:Program}{ops:Array Oper}{Q:Exit→Act→World→Prop}{n:FN}{m:SM}{rest:List Oper}
variable {d:Nat}{ty:TypeId}{pos:String}{af:Array Edge}{X Y:Operand}{B w:World}{h:A4}{S:Nat→Prop}{L L2:List HP}{v:Value}
end
def ZQ {α}(a:Nat) (s:List α) (i:Int) (v:List α):Option (List α):=
 if 0≤i∧i≤s.length∧v.length=1∧room (s.length+1) a=true then some (s.take i.toNat++v++s.drop i.toNat) else none
def ZP {α}{a:Nat}{s:List α}{i:Int}{v r:List α}(h:ZQ a s i v=some r):∃(j:Nat) (x:α),i=(j:Int)∧j≤s.length∧v=[x]∧room (s.length+1) a=true∧r=s.take j++[x]++s.drop j:=by
 unfold ZQ at h;split at h
 ·rename_i b;obtain⟨g,k,c,d⟩:=b;cases h
  match v,c with
  |[x],_=>exact⟨i.toNat,x,by omega,by omega,rfl,d,rfl⟩
 ·cases h
def Yz {a b:Nat}(h:a+b≤9223372036854775807):BV ((a:Int)+(b:Int))=((a+b:Nat):Int):=by rw[Pv (by unfold AA;omega)];omega
def uI {a b:Nat}(h:b≤a∧a≤9223372036854775807):BV ((a:Int)-(b:Int))=((a-b:Nat):Int):=by rw[Pv (by unfold AA;omega)];omega
def St.bxne {S:Nat→Prop}{L:List HP}{h:A4}{a b T g:Nat}{cs cs':List Value}(i:St S (Bx a T cs::Bx b g cs'::L) h):a≠b∧a<h.size∧b<h.size:=by
 obtain⟨F,c,j,n,k,l,_⟩:=i.2;have m:=j a ((c.1 a).2 rfl);have d:=l b ((k.1 b).2 rfl);exact⟨λe=>d.2 (e▸(c.1 a).2 rfl),m.1,d.1.1⟩
def Ms {cs vs:List Value}{o:Nat}(h:o+vs.length≤cs.length):(JN cs o vs).length=cs.length:=by unfold JN;simp;omega
def TQ.head {b:Array Oper}{d:Nat}{k:List Nat}{a:Array Bool}(c:TQ b (d::k) a) (v:d∈Region.ready .any b a) (l:d∉k):TQ b k (a.setIfInBounds d true):=by
 obtain⟨_,oi,m,g⟩:=mem_ready.1 v;refine⟨by simp [c.size],λj n o p e q s=>?_,λt u=>by rw[getD_set_ne true (λe:d=t=>l (by rw[e];exact u))];exact c.tail t (xP _ u)⟩;by_cases i:d=j
 ·subst i;have:n=oi:=wP (o.symm.trans m);subst this;exact getD_set_true (g e q s)
 ·rw[getD_set_ne false i] at p;exact getD_set_true (c.closed j n o p e q s)
def P4 (n:Nat) (a G:List Nat):List Nat:=(List.range n).filter λi=> !a.contains i&& !G.contains i
def YP (a:Array Oper) (c:Nat) (b F G:List Nat):Bool:=
 (c::b).all (λt=>Nat.blt t a.size)&&decide (c::b).Nodup&&Uh a (c::b) (F++G)&&O3 a (c::b)&&SB a (c::b)&&Oe a&&Region.noSelect a&&(b.isEmpty||Uh a b (P4 a.size b G))&&SB a b&&(G.all λi=> !(c::b).contains i)&&
 F.all λf=> !G.contains f&&match a[f]? with|some o=>o.after.all λe=> !Region.binds .any e||(Nat.blt e.on a.size&& !(c::b).contains e.on&& !(F++G).contains e.on)|none=>false
def oB (P:Program) (l:List Oper) (Q:Exit→Act→World→Prop) (B:World) (n:FN) (d:SM) (s c:A4) (R:AR) (a G:List Nat):Prop:=
 ∃(b:AR) (pss:List (List (Nat×Nat))) (j:List (Nat×Nat)) (k:List Oper) (m:List Nat),d.map (·.1)=m∧
  ZC l.toArray (a++P4 l.length a G) n m=true∧UW l.toArray (a++P4 l.length a G) l pss=true∧
  ((l.zip pss).zipIdx.all λp=>(a++P4 l.length a G).contains p.2||p.1.2.all λq=> !(P4 l.length a G).contains q.1)=true∧
  (j.all λp=>Nat.blt p.1 l.length&& !(a++P4 l.length a G).contains p.1&&(HW l.toArray p.1).any (Nat.beq p.2 ·))=true∧(a.filterMap λt=>l[t]?)=k∧
  (∀i,i∈G→∀v,R i v s→b i v c)∧(∀i v g o,HS c g→HS g o→b i v g→b i v o)∧
  BD P l.toArray Q B n d c b (a++P4 l.length a G) [] ZB.none 0 l pss∧
  ∀h',HS c h'→PA b h' (λfr=>LF P l.toArray Q k B h' n (fr++d)) j []
def oB.run {P:Program}{l:List Oper}{Q:Exit→Act→World→Prop}{B:World}{n:FN}{m2:SM}{h1 s:A4}{R:AR}{g:Nat}{q F G:List Nat}(k:oB P l Q B n m2 h1 s R q G) (hc:YP l.toArray g q F G=true) (hQ:∀c a w,¬Q (.panic c) a w)
  {y:Nat} {b:Array Bool} {a a2:Act} {w2:World} (hu:TF b=y+1) (J:TQ l.toArray (g::q) b) (hr:g∈Region.ready .any l.toArray b) (hl:∀i,i<l.toArray.size→i∉g::q→i∉G→b.getD i false=true)
  (g4:∀i,i∉g::q→b.getD i false=true→∃d v,HW l.toArray i=some d∧a.tmps[d]? =some v∧R i v h1) (hw:Wd B s w2) (K:Fr n a2 m2) (M:∀(i:Nat) (u:Value),a.tmps[i]? =some u→a2.tmps[i]? =some u):
  wpAny P .any l.toArray Q y (b.setIfInBounds g true) a2 w2:=by
 obtain⟨R2,pss,fs,ls,ms,rfl,q1,H,q3,q4,q5,q6,q7,q8,q9⟩:=k;simp only[YP,wI,wW] at hc;obtain⟨⟨⟨⟨⟨⟨⟨⟨⟨⟨c1,c2⟩,c3⟩,c4⟩,c5⟩,c6⟩,c7⟩,c8⟩,c9⟩,aa⟩,af⟩:=hc;have C:=zH.1 c2;have U:l.length=pss.length:=by
  simp only[UW,wI] at H;exact wQ H.1
 have ab:g<l.toArray.size:=by have:=wO.1 c1 g (xL ..);simp [Nat.blt] at this ⊢;omega
 have ac:=J.size;have V:(b.setIfInBounds g true).getD g false=true:=by
  have:g<b.size:=by omega
  simp [this]
 have ad:∀i,i∈P4 l.length q G→(b.setIfInBounds g true).getD i false=true:=λi j=>by
  unfold P4 at j;obtain⟨h1,s⟩:=zP.1 j;simp only[wI,xC] at s;by_cases e:g=i
  ·subst e;exact V
  ·refine getD_set_true (hl i (by simpa using xG.1 h1) (λh=>?_) λh=>by rw[wS.2 h] at s;cases s.2);rcases wN.1 h with h|h
   ·exact e h.symm
   ·rw[wS.2 h] at s;cases s.1
 refine SE (R:=R2) (B:=B) (h0:=s) (n:=n) (m:=m2) q (P4 l.length q G) [] ZB.none jK.none (λz I=>by cases I) (λi j=>by cases j) (λt ht=>?_) C.2 c6 [] [] (.inl rfl) ?_ ?_ c9 c7 hQ (λf K=>by cases K) (λf K=>by cases K) q1 q7 (λi j=>by cases j) (λi o d j ho hd=>?_) (λa w h' g1 g2 g3 g4 _ _=>?_) (.inl rfl) y _ _ _ ?_ (J.head hr C.1) ad ⟨⟨s,hw,HS.refl s,K,λi j A=>?_⟩,λi j=>(by cases j),λz I=>(by cases I)⟩
 ·have:=wO.1 c1 t (xP _ ht);simp [Nat.blt] at this ⊢;omega
 ·rw[wZ] at c8;refine c8.imp (λe=>by cases q with|nil=>rfl|cons _ _=>simp at e) λx=>?_;rw[yD,yD];simpa using x
 ·have:=Mi c4;cases q with
  |nil=>trivial
  |cons t r=>exact this.2
 ·have W:l[i]? =some o:=by simpa using ho
  obtain⟨ps,p1,p2⟩:=BD.at_ (k:=0) q8 U (by rw[xM];exact j) W hd;rw[xM] at p2;have I:((o,ps),i)∈(l.zip pss).zipIdx:=by
   rw[xY];exact⟨i,by rw[List.getElem?_zipIdx,(Abi (z:=(o,ps))).2 ⟨W,p1⟩];simp⟩
  refine⟨ps,?_,λp hp h=>?_,p2⟩
  ·simp only[UW,wI] at H;have:=wO.1 H.2 _ I;rw[wZ] at this;exact this.resolve_left λh=>j (wS.1 h)
  ·have:=wO.1 q3 _ I;rw[wZ] at this;have:=wO.1 (this.resolve_left λh=>j (wS.1 h)) p hp;rw[wS.2 h] at this;cases this
 ·obtain⟨fr,g,k2⟩:=MN (a:=a) (n:=n) _ _ (q9 h' g2) (λp hp=>by
   have e:=wO.1 q4 p hp;simp only[wI,xC] at e;have e1:p.1<l.toArray.size:=by have:=e.1.1;simp [Nat.blt] at this ⊢;omega
   obtain⟨d,v,q1,H,q3⟩:=g4 p.1 e1 (λh=>by rw[wS.2 h] at e;cases e.1.2);have e2:=e.2;rw[q1] at e2;have:p.2=d:=wQ (by simpa using e2);exact⟨v,by rw[this];exact H,q3⟩) ⟨g3.dfr,g3.siz,λi v j=>by simp [lk] at j⟩
  have X:(q.filterMap λt=>l.toArray[t]?)=ls:=by rw[←q5];congr 1;funext t;simp
  rw[X];exact g a w (k2.append g3) g1
 ·have:=Nz (mem_ready.1 hr).1;omega
 ·have Y:g≠i:=λe=>by
   subst e;refine j (Aa3 _ (zP.2 ⟨xG.2 (by simpa using ab),?_⟩));simp only[wI,xC];refine⟨?_,?_⟩
   ·cases D:q.contains g with
    |true=>exact absurd (wS.1 D) C.1
    |false=>rfl
   ·cases D:G.contains g with
    |true=>
     have:=wO.1 aa g (wS.1 D);simp at this
    |false=>rfl
  rw[getD_set_ne false Y] at A;have Z:i∉q:=λh=>j (yV _ h);have ae:i<l.length:=by
   rcases xB i b.size with h|h
   ·rw[ac] at h;simpa using h
   ·rw[yG,Array.getElem?_eq_none h] at A;cases A
  have hG:i∈G:=by
   apply Abd;intro hG;refine j (Aa3 _ (zP.2 ⟨xG.2 ae,?_⟩));simp only[wI,xC];exact⟨by cases D:q.contains i with|true=>exact absurd (wS.1 D) Z|false=>rfl,by cases D:G.contains i with|true=>exact absurd (wS.1 D) hG|false=>rfl⟩
  obtain⟨d,v,p1,p2,p3⟩:=g4 i (λh=>(wN.1 h).elim (λe=>Y e.symm) Z) A;exact⟨d,v,p1,M _ _ p2,q6 i hG v p3⟩
def oB.fin {P:Program}{l:List Oper}{Q:Exit→Act→World→Prop}{B:World}{n:FN}{A:SM}{C m:A4}{R:AR}{q:Nat}{b G:List Nat}(k:oB P l Q B n A C m R b G) (M:q<l.length) (s:q∉G)
  {a c:Act} {w:World} (U:∀i,i<l.length→i∉q::b→∃d v,HW l.toArray i=some d∧a.tmps[d]? =some v∧R i v C) (V:Wd B m w) (x:Fr n c A) (g:∀(i:Nat) (u:Value),a.tmps[i]? =some u→c.tmps[i]? =some u):
  wpList P l.toArray Q (b.filterMap λt=>l[t]?) c w:=by
 obtain⟨R2,pss,fs,ls,ms,rfl,D,F,H,W,X,Y,q7,q8,Z⟩:=k;obtain⟨fr,y,k2⟩:=MN (a:=c) (n:=n) _ _ (Z m (HS.refl m)) (λp hp=>by
  have e:=wO.1 W p hp;simp only[wI,xC] at e;have I:p.1<l.length:=by have:=e.1.1;simp [Nat.blt] at this ⊢;omega
  have J:p.1∉b++P4 l.length b G:=λh=>by rw[wS.2 h] at e;cases e.1.2
  have j:p.1∉b:=λh=>J (yV _ h);have o:p.1∈G:=by
   apply Abd;intro o;refine J (Aa3 _ (zP.2 ⟨xG.2 I,?_⟩));simp only[wI,xC];exact⟨by cases z:b.contains p.1 with|true=>exact absurd (wS.1 z) j|false=>rfl,by cases z:G.contains p.1 with|true=>exact absurd (wS.1 z) o|false=>rfl⟩
  obtain⟨d,v,D,F,H⟩:=U p.1 I (λh=>(wN.1 h).elim (λe=>s (e▸o)) j);have K:=e.2;rw[D] at K;have:p.2=d:=wQ (by simpa using K);exact⟨v,by rw[this];exact g _ _ F,Y _ o v H⟩) ⟨x.dfr,x.siz,λi v hi=>by simp [lk] at hi⟩
 rw[X];exact y c w (k2.append x) V
def K2 (P:Program) (l:List Oper) (Q:Exit→Act→World→Prop) (B:World) (n:FN) (b mt:SM) (d:A4) (R:AR) (g G:List Nat):Act→World→Prop:=λa w=>
 Fr n a (b++mt)∧∃c,Wd B c w∧oB P l Q B n b d c R g G
def XY {P:Program}{l:List Oper}{Q:Exit→Act→World→Prop}{b:Array Oper}{B:World}{n:FN}{c mt:SM}{g d:A4}{R:AR}{i G:List Nat}(k:oB P l Q B n c g d R i G):LF P b (Exit.then (K2 P l Q B n c mt g R i G) Q) [] B d n (c++mt):=
 λa w j m=>⟨j,d,m,k⟩
section
variable {P:Program}{ex:List (Nat×AP)}{RR N:AP}{cs:List Code}{B:World}{h:A4}{n:FN}{m m0:SM}{S:Nat→Prop}{L:List HP}
def Vj {l:List Oper}{id:Nat}(q:Nat) (C F G As:List Nat) (R:AR) (pss:List (List (Nat×Nat))) (fs:List (Nat×Nat)) {o1:Oper}(hm:P.follows .mixedOrders=true) (hc:YP l.toArray q C F G=true) (ms:List Nat) (aq:m.map (·.1)=ms) (aa:ZC l.toArray (q::C) n ms=true)
  (ab:UW l.toArray (q::C) l pss=true) (ar:(fs.all λp=>Nat.blt p.1 l.length&& !(q::C).contains p.1&& !G.contains p.1&&(HW l.toArray p.1).any (Nat.beq p.2 ·))=true) (ah:l[q]? =some o1) (ac:o1.guard=none) (aj:Ud m0 m)
  (ad:∀i v J Q,HS h J→HS J Q→R i v J→R i v Q)
  (ak:(As.all λi=> !(q::C).contains i&& !G.contains i&& !F.contains i)=true) (au:∀i,i∈As→Sm (R i))
  (hF:Nt P l.toArray (q::C) n m h R F)
  (step:BD P l.toArray (Qx ex RR (W P ex RR cs N)) B n m h R (q::C) As ZB.none 0 l pss)
  (av:∀mt h',HS h h'→PA R h' (λfr=>eK (ZW l.toArray As) (lk fr)→LF P l.toArray (Exit.then (K2 P l (Qx ex RR (W P ex RR cs N)) B n (fr++m) mt h' R C G) (Qx ex RR (W P ex RR cs N))) [o1] B h' n (fr++m++mt)) fs []):WF P ex RR (.region id l.toArray true::cs) N B h n m0:=by
 intro a w hf hw;subst aq;have aw:=hc;simp only[YP,wI,wW] at hc;obtain⟨⟨⟨⟨⟨⟨⟨⟨⟨⟨c1,c2⟩,c3⟩,c4⟩,c5⟩,c6⟩,c7⟩,c8⟩,c9⟩,ax⟩,ay⟩:=hc;simp only[UW,wI] at ab;have al:l.length=pss.length:=wQ ab.1;have A:∀i,i∈As→i∉q::C∧i∉G:=λi y=>by
  have:=wO.1 ak i y;simp only[wI,xC] at this;exact⟨λh=>(by rw[wS.2 h] at this;cases this.1.1),λh=>(by rw[wS.2 h] at this;cases this.1.2)⟩
 have az:∀f,f∈F→f∉As:=λf hf hA=>by
  have:=wO.1 ak f hA;simp only[wI,xC] at this;rw[wS.2 hf] at this;cases this.2
 have hQ:∀c a w,¬(Qx ex RR (W P ex RR cs N)) (.panic c) a w:=λc a w hq=>hq;have a0:q<l.toArray.size:=by have:=wO.1 c1 q (xL ..);simp [Nat.blt] at this ⊢;omega
 have a1:∀f,f∈F→∀o,l.toArray[f]? =some o→∀e,e∈o.after→Region.binds .any e=true→e.on<l.toArray.size∧e.on∉q::C∧e.on∉F++G:=λf hf o ho e he hb=>by
  have:=wO.1 ay f hf;rw[wI,ho] at this;have:=this.2;simp only[Aab] at this;have:=this e he;simp only[hb,xE,yU,wI,xC] at this;exact⟨(by simpa [Nat.blt] using this.1.1:e.on+1≤l.toArray.size),λh=>(by rw[wS.2 h] at this;cases this.1.2),λh=>(by rw[wS.2 h] at this;cases this.2)⟩
 have U:∀(a:Act) (w:World) (J:A4) (Kp:Act→World→Prop),Wd B J w→HS h J→Fr n a m→(∀i,i<l.toArray.size→i∉q::C→i∉G→∃d v,HW l.toArray i=some d∧a.tmps[d]? =some v∧R i v J)→(∀i,i∈As→∀j,j∈As→i≠j→∀(d d':Nat) (u K:Value),HW l.toArray i=some d→HW l.toArray j=some d'→a.tmps[d]? =some u→a.tmps[d']? =some K→∀b b',Rb u=some b→Rb K=some b'→b≠b')→
   (∀(m2:SM) (D:Act) (w2:World) (Q:A4),Wd B Q w2→oB P l (Qx ex RR (W P ex RR cs N)) B n m2 J Q R C G→Fr n D m2→(∀(i:Nat) (u:Value),a.tmps[i]? =some u→D.tmps[i]? =some u)→Kp D w2)→
   o1.wp P a w Kp (Qx ex RR (W P ex RR cs N))∨(o1.asks P a w∧LetsOut (Qx ex RR (W P ex RR cs N))):=by
  intro a w J Kp g1 g2 g3 g4 gd hK;obtain⟨fr,q1,q2⟩:=MN (a:=a) (n:=n) _ _ (av (Jx a) J g2) (λp hp=>by
   have e:=wO.1 ar p hp;simp only[wI,xC] at e;have e1:p.1<l.toArray.size:=by have:=e.1.1.1;simp [Nat.blt] at this ⊢;omega
   have e3:p.1∉q::C:=λh=>by rw[wS.2 h] at e;cases e.1.1.2
   have e4:p.1∉G:=λh=>by rw[wS.2 h] at e;cases e.1.2
   obtain⟨d,v,q1,q2,q3⟩:=g4 p.1 e1 e3 e4;have e2:=e.2;rw[q1] at e2;have:p.2=d:=wQ (by simpa using e2);exact⟨v,by rw[this];exact q2,q3⟩) ⟨g3.dfr,g3.siz,λi v y=>by simp [lk] at y⟩
  have am:eK (ZW l.toArray As) (lk fr):=by
   intro s hs s' a3 V u K e e';obtain⟨i,y,hd⟩:=Aa2.1 hs;obtain⟨j,hj,ae⟩:=Aa2.1 a3;exact gd i y j hj (λe=>V (by subst e;rw[hd] at ae;exact wP ae)) _ _ _ _ hd ae (q2.at_ _ _ e) (q2.at_ _ _ e')
  have X:Fr n a (fr++m++Jx a):=(q2.append g3).append g3.full;have a4:∀(D:Act),Fr n D (fr++m++Jx a)→∀(i:Nat) (u:Value),a.tmps[i]? =some u→D.tmps[i]? =some u:=by
   intro D Y i u hu;have H:lk (Jx a) i=some u:=by
    have:i<a.tmps.size:=(xN.1 hu).1;rw[Rx this];simp [yG,hu]
   have a5:∃K,lk (fr++m++Jx a) i=some K:=by
    rw[K0,H];cases lk (fr++m) i with
    |some x=>exact⟨x,by simp⟩
    |none=>exact⟨u,by simp⟩
   obtain⟨K,an⟩:=a5;have h5:=X.at_ i K an;rw[hu] at h5;have h6:=Y.at_ i K an;rw[h6,wP h5]
  have af:∀(D:Act),Fr n D (fr++m++Jx a)→Fr n D (fr++m):=λD Y=>⟨Y.dfr,Y.siz,λi v y=>Y.at_ i v (by rw[K0,y];rfl)⟩
  refine(LC ac (q1 am a w X g1)).imp (Oper.wp_mono ?_) λx=>x;rintro D w2 ⟨p1,Q,M,p3⟩;exact hK _ D w2 Q M p3 (af D p1) (a4 D p1)
 have lt:∀i d,HW l.toArray i=some d→i<l.toArray.size:=λi d q1=>by
  unfold HW at q1;cases ao:l.toArray[i]? with
  |none=>rw[ao] at q1;cases q1
  |some oj=>exact(xN.1 ao).1
 have a6:∀(I:Nat) (g:Array Bool) (a:Act) (w:World),TF g=I+1→TQ l.toArray (q::C) g→U8 B h n m l.toArray (q::C++[]) As ZB.none R g a w→(∀i,i<l.toArray.size→i∉q::C→i∉G→g.getD i false=true)→q∈Region.ready .any l.toArray g→wpOp P l.toArray (Qx ex RR (W P ex RR cs N)) q (wpAny P .any l.toArray (Qx ex RR (W P ex RR cs N)) I (g.setIfInBounds q true)) a w:=by
  intro I g a w hu a7 ai H hr;obtain⟨J,g1,g2,g3,g4⟩:=ai.ex;have Z:∀i,i∉q::C→g.getD i false=true→∃d v,HW l.toArray i=some d∧a.tmps[d]? =some v∧R i v J:=λi y H=>g4 i (by rw[xK];exact y) H;unfold wpOp;have ho:l.toArray[q]? =some o1:=by simpa using ah
  simp only[ho];rw[wG (by simp [Region.wanted,ac])];exact U a w J _ g1 g2 g3 (λi p1 M p3=>Z i M (H i p1 M p3)) (λi y j hj V d d' u K e1 e2 e3 e4=>ai.dis i y j hj V (H i (lt _ _ e1) (A i y).1 (A i y).2) (H j (lt _ _ e2) (A j hj).1 (A j hj).2) d d' u K e1 e2 e3 e4)
   λm2 D w2 Q M p3 p4 p5=>p3.run aw hQ hu a7 hr H Z M p4 p5
 refine λrd a8=>RU a8 OD hm (SE (R:=R) (B:=B) (h0:=h) (n:=n) (m:=m) (q::C) [] As ZB.none jK.none (λz hz=>by cases hz) au (λt ht=>by have:=wO.1 c1 t ht;simp [Nat.blt] at this ⊢;omega) c2 c6 F G (.inr rfl) (.inr (by rw[xK];exact c3)) (Mi c4) c5 c7 hQ (λf hf=>⟨az f hf,λsl h=>by cases h⟩) (λf hf=>hF.at_ f hf) (by rw[xK];exact aa) ad (λi y=>by rw[xK];exact(A i y).1) (λi o d y ho hd=>?_) (λa w h' g1 g2 g3 g4 g5 _=>?_) (.inr ⟨a1,λba bb e I g a w=>by cases e;exact a6 I g a w⟩) _ _ _ _ ?_ ⟨by simp,λj oj _ H=>(by rw[getD_replicate_false] at H;cases H),λt ht=>getD_in (by have:=wO.1 c1 t ht;simp [Nat.blt] at this ⊢;omega) (getD_replicate_false _ _)⟩ (λi y=>by cases y) ⟨⟨h,hw.drew,HS.refl h,hf.sub aj,λi _ H=>(by rw[getD_replicate_false] at H;cases H)⟩,λi _ j _ _ H=>(by rw[getD_replicate_false] at H;cases H),λz hz=>by cases hz⟩)
 ·rw[xK] at y;have ap:l[i]? =some o:=by simpa using ho
  obtain⟨ps,q1,q2⟩:=BD.at_ (k:=0) step al (by rw[xM];exact y) ap hd;rw[xM] at q2;refine⟨ps,?_,λ_ _=>wY,q2⟩;have hz:((o,ps),i)∈(l.zip pss).zipIdx:=by
   rw[xY];exact⟨i,by rw[List.getElem?_zipIdx,(Abi (z:=(o,ps))).2 ⟨ap,q1⟩];simp⟩
  have:=wO.1 ab.2 _ hz;rw[wZ] at this;exact this.resolve_left λh=>y (wS.1 h)
 ·have a9:q∉G:=λh=>by
   have:=wO.1 ax q h;simp at this
  have Z:∀i,i<l.toArray.size→i∉q::C→∃d v,HW l.toArray i=some d∧a.tmps[d]? =some v∧R i v h':=λi J Q=>g4 i J (by rw[xK];exact Q);have ag:((q::C).filterMap λt=>l.toArray[t]?)=o1::(C.filterMap λt=>l[t]?):=by
   have ho:l.toArray[q]? =some o1:=by simpa using ah
   rw[List.filterMap_cons,ho];simp
  rw[ag];unfold wpList;rw[wG (by simp [Region.wanted,ac])];exact U a w h' _ g1 g2 g3 (λi p1 M _=>Z i p1 M) (λi y j hj V d d' u K e1 e2 e3 e4=>g5 d (Aa2.2 ⟨i,y,e1⟩) d' (Aa2.2 ⟨j,hj,e2⟩) (λe=>by
    subst e;have:=wO.1 aa i (xG.2 (lt _ _ e1));simp only[wZ,wS,(A i y).1,false_or,e1,wI,wO,xG] at this;have:=this.2 j (lt _ _ e2);rw[e2] at this;simp only[(A j hj).1,false_or,Option.any_some,Nat.beq_refl,xE,yL,xF] at this;exact V (wQ this)) u K e3 e4)
   λm2 D w2 Q M p3 p4 p5=>p3.fin (by simpa using a0) a9 (λi p1 M=>Z i (by simpa using p1) M) M p4 p5
 ·unfold TF;rw[Abe];simp
end
def oC (L:List HP):HP where
 holds:=λS F h=>Sp S L h F
 loc:=λk s e=>Sp.ext k s e λ_ x=>x
def Vw (l:Nat) (r:Loop):HP where
 holds:=λ_ F h=>(∀b,F b↔b=l)∧h[l]? =some (.loop r)
 loc:=λ⟨a,c⟩ _ e=>⟨a,(e l (.inr ((a l).2 rfl))).trans c⟩
def dK {S:Nat→Prop}{h:A4}:∀{L1 L:List HP}{A:Nat→Prop},Sp S (L1++L) h A→∃F,Sp S L1 h F∧(∀b,F b→A b)∧Sp S L h (λb=>A b∧¬F b)
 |[],L,A,k=>⟨λ_=>False,trivial,λ_ x=>x.elim,k.mono λb a=>⟨a,λx=>x⟩⟩
 |H::L1,L,A,⟨F,d,g,i⟩=>by
  obtain⟨G,j,c,l⟩:=dK i;refine⟨λb=>F b∨G b,⟨F,d,λb a=> .inl a,j.mono λb a=>⟨.inr a,(c b a).2⟩⟩,λb a=>a.elim (g b) λx=>(c b x).1,l.mono λb a=>⟨a.1.1,λx=>x.elim a.1.2 a.2⟩⟩
def Sp.app2 {S:Nat→Prop}{h:A4}:∀{L1 L:List HP}{A F:Nat→Prop},Sp S L1 h F→(∀b,F b→A b)→Sp S L h (λb=>A b∧¬F b)→Sp S (L1++L) h A
 |[],L,A,F,_,_,k=>k.mono λb a=>a.1
 |H::L1,L,A,F,⟨G,d,c,g⟩,i,k=>⟨G,d,λb a=>i b (c b a),Sp.app2 g (λb a=>⟨i b a.1,a.2⟩) (k.mono λb a=>⟨⟨a.1,λx=>a.2 (c b x)⟩,λx=>a.2 x.1⟩)⟩
section
variable {S:Nat→Prop}{L L1 M:List HP}{h:A4}{H:HP}
def Yd (a:St S (L1++L) h):St S (oC L1::L) h:=by
 obtain⟨F,b,c,d⟩:=dK a.2;exact⟨a.1,F,b,c,d⟩
def U4 (a:St S (oC L1::L) h):St S (L1++L) h:=by
 obtain⟨F,b,c,d⟩:=a.2;exact⟨a.1,Sp.app2 b c d⟩
def Tw:∀{M:List HP},Q4 (M++H::L) H (M++L)
 |[]=> .head
 |K::M=> .tail Tw
def WG {H':HP}:∀{M:List HP},Np (M++H::L) H H' (M++H'::L)
 |[]=> .head
 |K::M=> .tail WG
def St.mid (a:St S (H::(M++L)) h):St S (M++H::L) h:=⟨a.1,Qm Tw a.2⟩
def dJ (a:St S (M++H::L) h):St S (H::(M++L)) h:=⟨a.1,Sp.pick Tw a.2⟩
def St.rec {l:Nat}{r r':Loop}(d:St S (Vw l r::L) h):h[l]? =some (.loop r)∧St S (Vw l r'::L) (h.setIfInBounds l (.loop r'))∧CX S h S (h.setIfInBounds l (.loop r')):=by
 obtain⟨F,k,_⟩:=d.get (xL ..);have a:l<h.size:=(xN.1 k.2).1;refine⟨k.2,d.upd (H':=Vw l r') .head (by simp) λF g _=>⟨F,⟨g.1,by simp [a]⟩,λ_ c=> .inl c,λb _ c=>?_⟩⟩;have:b≠l:=λe=>c ((g.1 b).2 e);simp [Abh (Ne.symm this)]
end
def Wd.putObj {B w:World}{h:A4}(k:Wd B h w) (l:Nat) (o:Obj):Wd B (h.setIfInBounds l o) (w.putObj l o):=⟨by show w.heap.setIfInBounds l o=_;rw[k.heap],k.os,k.tape,k.out⟩
abbrev Vz (α:Type):=(Nat→Prop)→A4→List Value→α→Prop
def YC {α σ:Type}(P:Program) (i:Value) (Y:Bool→σ→HP) (AR:Vz α) (g:α→σ→Option (Bool×σ)) (j:Nat→Prop) (h0:A4):Prop:=
 ∃l,i= .func (.yield l) #[] #[]∧∀(x:α) (s:σ) (b:Bool×σ),g x s=some b→∀(S:Nat→Prop) (L:List HP) (h:A4) (vs:List Value) (B w:World),CX j h0 S h→St S (Y true s::L) h→AR S h vs x→Wd B h w→
  ∃fn c a d,(Instr.yield l vs.toArray).run P w= .ok (.round l fn c a d) w∧
   RoundIn Fence.wide 0 P l fn c a d w (λe k=>∃S' h',e= .returned (.bool b.1)∧Wd B h' k∧CX S h S' h'∧St S' (Y b.1 b.2::L) h')
def YC.mono {α σ:Type}{P:Program}{c:Value}{Y:Bool→σ→HP}{AR:Vz α}{a:α→σ→Option (Bool×σ)}{d g:Nat→Prop}{h0 i:A4}(k:YC P c Y AR a d h0) (e:CX d h0 g i):YC P c Y AR a g i:=by
 obtain⟨l,j,k⟩:=k;exact⟨l,j,λx s b m S L h vs B w n=>k x s b m S L h vs B w (e.trans n)⟩
def YL (P:Program) (ops:Array Oper) (Q:Exit→Act→World→Prop) (l:List Oper) (B:World) (h:A4) (n:FN) (m:SM):Prop:=∀a w,Fr n a m→Wd B h w→wpListIn (FF none) 0 P ops Q l a w
def Xu {P:Program}{l:Nat}{f:FuncId}{b:Array Value}{a d:Code}{w:World}{R:Ending→World→Prop}{g:Option Nat}{n i:Nat}(h:RoundIn Fence.wide n P l f b a d w R):RoundIn (FF g) i P l f b a d w R:=
 ⟨PV g f,λc cs _=>by rw[Qp];exact h.2 c cs (room_wide _)⟩
def QA {P:Program}{ops:Array Oper}{Q:Exit→Act→World→Prop}{g:Option Nat}:∀(l:List Oper) (a:Act) (w:World),(g=none∨l.all Zg=true)→wpListIn (FF none) 0 P ops Q l a w→wpListIn (FF g) 0 P ops Q l a w
 |[],_,_,_,h=>h
 |o::rest,a,w,i,h=>by
  have q:g=none∨Zg o=true:=i.imp (λx=>x) λh=>by simp only[zW,wI] at h;exact h.1
  have j:g=none∨rest.all Zg=true:=i.imp (λx=>x) λh=>by simp only[zW,wI] at h;exact h.2
  unfold wpListIn at h ⊢;split
  ·rename_i n;rw[wG n] at h;refine⟨λf _=>PV g f,?_⟩;have b:=h.2;have s:o.semAt (FF g).round a.eval=o.semAt (FF none).round a.eval:=by
    rw[UR,UR];cases g with
    |none=>rfl
    |some l=>exact Oper.semAt_some l _ _ λc t=>q.elim (λi=>by cases i) λi=>by unfold Zg at i;rw[t] at i;cases i
   rw[s];generalize (o.semAt (FF none).round a.eval).run P w=r at b
   cases r with
   |ok u y=>
    cases u<;>simp only[Oper.uponIn] at b ⊢
    case value v=>exact QA rest _ _ j b
    case skip=>exact QA rest _ _ j b
    case defer d=>exact QA rest _ _ j b
    case enter f args=>exact⟨λhd=>(by rw[M3] at hd;cases hd),VZ ((callsIn_wide.1 b.2).mono λe k m=>by cases e<;>first|exact QA rest _ _ j m|exact m)⟩
    case row r args=>exact⟨λhd=>(by rw[M3] at hd;cases hd),λc cs _=>by
     obtain⟨v,k,z,p⟩:=b.2 c cs (gS none _);exact⟨v,k,QA rest _ _ j z,by rw[Qp] at p ⊢;exact p⟩⟩
    case round l f tmps assign body=>exact⟨λhd=>(by rw[M3] at hd;cases hd),Xu (RoundIn.mono b.2 λe k m=>by cases e<;>first|exact QA rest _ _ j m|exact m)⟩
   |halt x y=>cases x<;>simp only[Oper.uponIn] at b ⊢;exact b
  ·rename_i n;rw[wF n] at h;exact⟨λf _=>PV g f,QA rest _ w j h.2⟩
section
variable {P:Program}{ex:List (Nat×AP)}{R N:AP}{cs:List Code}{B:World}{h:A4}{n:FN}{m m':SM}{S:Nat→Prop}{L:List HP}
def iX {l:List Oper}{id:Nat}(k:YL P l.toArray (Qx ex R (W P ex R cs N)) l B h n m):WF P ex R (.region id l.toArray false::cs) N B h n m:=λa w b c d hd=>
 wpIn_region_lit (QA l a w (hd.imp (λx=>x) λh=>by simpa [Wt] using h) (k a w b c))
end
section
variable {P:Program}{ops:Array Oper}{Q:Exit→Act→World→Prop}{n:FN}{m m':SM}{rest l:List Oper}{B:World}{h:A4}{S:Nat→Prop}{L:List HP}
def O7 (g:∀a w,¬Q .outgrown a w):∀(k:Nat) (l:List Oper) (a:Act) (w:World),wpList P ops (Exit.then (wpListIn (FF none) 0 P ops Q (l.drop k)) Q) (l.take k) a w→wpListIn (FF none) 0 P ops Q l a w
 |0,l,a,w,h=>by simpa [wpList,Exit.then] using h
 |k+1,[],a,w,h=>by simpa [wpList,Exit.then] using h
 |k+1,o::l,a,w,h=>by
  simp only[List.take_succ_cons,List.drop_succ_cons] at h;unfold wpList at h;unfold wpListIn;split
  ·rename_i i;rw[wG i] at h;have b:=h.imp (Oper.wp_mono λa w p=>O7 g k l a w p) id;refine kU (.inl rfl) g ?_;rcases b with b|⟨_,j,m,h2⟩
   ·refine .inl ?_;unfold Oper.wp at b ⊢;generalize (execOp a.eval o).run P w=r at b
    cases r with
    |ok q s=>
     cases q<;>simp only[Oper.upon] at b ⊢
     case value v=>exact b
     case skip=>exact b
     case defer d=>exact b
     case enter f args=>
      refine b.mono λe t n=>?_;cases e with
      |returned v=>exact n
      |panicked c=>exact n
      |outgrown=>obtain⟨j,m,h0⟩:=n;exact⟨j,m,h0⟩
     case row r args=>exact b
    |halt x s=>cases x<;>simp only[Oper.upon] at b ⊢;exact b
   ·exact absurd h2 (g j m)
  ·rename_i i;rw[wF i] at h;exact⟨λf _=>PV none f,O7 g k l _ w h⟩
def PO (j:Nat) (c:∀a w,¬Q .outgrown a w) (k:QF P ops (Wd B h) (λa=>∀w,Wd B h w→wpListIn (FF none) 0 P ops Q (l.drop j) a w) (l.take j) n m):YL P ops Q l B h n m:=λa w d b=>
 O7 c j l a w (Md (Q:=Exit.then (wpListIn (FF none) 0 P ops Q (l.drop j)) Q) (λ_ w b g=>g w b) (l.take j) a w b (k a d))
def PR {C:World→Prop}(k:YL P ops Q l B h n m):QF P ops C (λa=>∀w,Wd B h w→wpListIn (FF none) 0 P ops Q l a w) [] n m:=λa b w c=>k a w b c
def tJ (j:Nat) (b:∀a w,¬Q .outgrown a w) (k:LF P ops (Exit.then (wpListIn (FF none) 0 P ops Q (l.drop j)) Q) (l.take j) B h n m):YL P ops Q l B h n m:=λa w c d=>O7 b j l a w (k a w c d)
def tQ (k:YL P ops Q l B h n m):LF P ops (Exit.then (wpListIn (FF none) 0 P ops Q l) Q) [] B h n m:=λa w b c=>k a w b c
def YL.nil {ex:List (Nat×AP)}{R N:AP}{cs:List Code}(b:Ud m m') (k:WF P ex R cs N B h n m'):YL P ops (Qx ex R (W P ex R cs N)) [] B h n m:=λa w c d=>k a w (c.sub b) d
def YL.gy {o:Oper}{j e:Nat}{b:Bool}(g:o.guard=some (j,b)) (i:(ops[j]?).bind (·.dst)=some e) (l:lk m e=some (.bool b)) (k:YL P ops Q ({ o with guard:=none}::rest) B h n m):YL P ops Q (o::rest) B h n m:=by
 intro a w d p;have q:Region.wanted o (yielded ops a.tmps)=true:=by
  have:=d.at_ e _ l;simp [Region.wanted,g,yielded,i,this]
 have c:=k a w d p;unfold wpListIn at c ⊢;rw[wG (by simp [Region.wanted])] at c;rw[wG q];exact c
def YL.gn {o:Oper}{j e d:Nat}{b:Bool}(g:o.guard=some (j,!b)) (i:(ops[j]?).bind (·.dst)=some e) (l:lk m e=some (.bool b)) (p:o.dst=some d) (hd:Nat.blt d n.1=true) (k:YL P ops Q rest B h n ((d,undef)::m)):YL P ops Q (o::rest) B h n m:=by
 intro a w c q;have s:Region.wanted o (yielded ops a.tmps)=false:=by
  have:=c.at_ e _ l;cases b<;>simp [Region.wanted,g,yielded,i,this]
 unfold wpListIn;rw[wF (by rw[s];exact Bool.false_ne_true),p];exact⟨λf _=>PV none f,k _ w (c.put hd _) q⟩
def vJ {α σ:Type}{C:Value}{Y:Bool→σ→HP}{AR:Vz α}{j:α→σ→Option (Bool×σ)}{D:Nat→Prop}{h0:A4}{X:Operand}{xs:Array Operand}{c:Array TypeId}{vs:List Value}{d:Nat}{ty:TypeId}{g:String}{t:Array Edge}{x:α}{s:σ}{b:Bool×σ}
  (u:YC P C Y AR j D h0) (F:CF m X=some C) (v:xs.toList.mapM (CF m)=some vs) (G:j x s=some b) (H:CX D h0 S h) (I:St S (Y true s::L) h) (J:AR S h vs x) (hd:Nat.blt d n.1=true)
  (k:∀S' h',CX S h S' h'→St S' (Y b.1 b.2::L) h'→YL P ops Q rest B h' n ((d,.bool b.1)::m)):YL P ops Q (⟨some d,.call ⟨.value X,xs,c⟩,ty,g,t,none⟩::rest) B h n m:=by
 intro a w z K;obtain⟨l,rfl,u⟩:=u;obtain⟨fn,o,i,p,M,U⟩:=u x s b G S L h vs B w H I J K;unfold wpListIn;rw[wG (by simp [Region.wanted])];refine⟨λf _=>PV none f,?_⟩;have q:(execOp a.eval ⟨some d,.call ⟨.value X,xs,c⟩,ty,g,t,none⟩).run P w= .ok (.round l fn o i p) w:=by
  have V:=z.eval F;have W:=YK z v;simp [execOp,resolve,Deferred.ofValue,invoke,V,W,M]
 have A:(⟨some d,.call ⟨.value X,xs,c⟩,ty,g,t,none⟩:Oper).semAt (FF none).round a.eval=execOp a.eval ⟨some d,.call ⟨.value X,xs,c⟩,ty,g,t,none⟩:=rfl;rw[A,q];refine⟨λhd=>(by rw[M3] at hd;cases hd),Xu (RoundIn.mono U λe Z he=>?_)⟩;obtain⟨S',h',rfl,r1,r2,r3⟩:=he;exact k S' h' r2 r3 _ Z (z.put hd _) r1
end
def Y6 {P:Program}{f:Nat}(a:BK P f=true) (args:Array Value) (w:World):(callFunc f args).run P w= .ok (.enter f args) w:=by
 unfold BK at a;split at a
 ·rename_i fn b;simp only[wI,xC] at a;have c:¬fn.name= "runtime.NumGoroutine" :=by simpa using a.1
  have d:¬fn.body=none:=by intro h0;rw[h0] at a;simp at a
  simp [callFunc,b,c,d]
 ·cases a
def parm (m:SM):List (Nat×Value)→SM
 |[]=>m
 |p::r=>parm (p::m) r
def Fr.parm {n:FN}:∀(l:List (Nat×Value)) {t:Array Value}{m:SM},(∀p,p∈l→Nat.blt p.1 n.1=true)→Fr (n.1,[]) { tmps:=t,defers:=[]} m→Fr (n.1,[]) { tmps:=l.foldl (λt p=>t.setIfInBounds p.1 p.2) t,defers:=[]} (parm m l)
 |[],t,m,_,k=>k
 |p::l,t,m,a,k=>Fr.parm l (λq b=>a q (xP _ b)) (k.put (a p (xL ..)) p.2)
def SZ (r:Loop) (a:Code) (b:Bool):Loop:={ r with state:=if b then .ready else .done,pending:=if b then none else some a}
def YR {σ:Type}(l:Nat) (r:Loop) (a:Code) (J:σ→List HP):Bool→σ→HP:=λb s=>oC (Vw l (SZ r a b)::J s)
section
variable {P:Program}{ex:List (Nat×AP)}{R N:AP}{cs:List Code}{B:World}{h:A4}{k:Nat}{Ds:List Nat}{m:SM}{S:Nat→Prop}{L:List HP}
def RN {σ:Type}(B:World) (i:Nat→Prop) (j:A4) (J:σ→List HP) (L1:List HP) (c:Bool×σ) (b:Bool):AP:=λa w=>c.1=b∧∃g d,Wd B d w∧CX i j g d∧St g (J c.2++L1) d
set_option maxHeartbeats 1000000 in
def nJ {α σ:Type}{g:Operand}{M:Array Tmp}{C G:Code}(j:Nat) {f:Nat}{y:Array Value}(J:σ→List HP) (s0:σ) (AR:Vz α) (V:α→σ→Option (Bool×σ)) (r:Bool×σ) (m2:List Value→SM)
  (hg:CF m g=some (.func (.func f) #[] y)) (av:BK P f=true) (aa:(Wt C&&Wt G&&M.toList.all λp=>Nat.blt p k)=true) (hs:St S (J s0++eC Ds::L) h)
  (aw:∀{S h vs x},AR S h vs x→vs.length=M.size) (ax:∀{S h S' h' vs x},AR S h vs x→CX S h S' h'→AR S' h' vs x)
  (W:∀yv (Y:Bool→σ→HP) K z L1,CX S h K z→YC P yv Y AR V K z→St K (Y true s0::L1) z→CA P f (#[yv]++y) K z (λv S' h'=>St S' (Y r.1 r.2::L1) h'))
  (ab:∀vs B z,vs.length=M.size→WF P [] (λ_ _=>False) [C] (λa w=>Fr (k,[]) a (m2 vs)∧Wd B z w) B z (k,[]) (parm m (M.toList.zip vs)))
  (X:∀x s l vs K z L1 B,V x s=some l→CX S h K z→AR K z vs x→St K (J s++L1) z→WF P [(j,RN B K z J L1 l false)] (λ_ _=>False) [G] (RN B K z J L1 l true) B z (k,[]) (m2 vs))
  (ay:r.1=true→∀S' h' D,CX S h S' h'→St S' (J r.2++eC (D::Ds)::L) h'→WF P ex R cs N B h' (k,Su (D::Ds)) m)
  (ac:r.1=false→∀S' h' D,CX S h S' h'→St S' (J r.2++eC (D::Ds)::L) h'→WF P ex R (.exit j::cs) N B h' (k,Su (D::Ds)) m):
  WF P ex R (.rangeFunc g M C G::cs) N B h (k,Su Ds) m:=by
 intro a w Z hw rd hd;simp only[wI] at aa;obtain⟨⟨ad,ae⟩,af⟩:=aa;have az:rd=none:=hd.elim (λx=>x) λh=>by cases h
 subst az;clear hd;refine wpIn_rangeFunc λfn bg=>?_;obtain⟨d,o⟩:∃d:Loop,d={ state:= .ready,pending:=none,fn,tmps:=a.tmps,params:=M,assign:=C,body:=G,defers:=w.heap.size}:=⟨_,rfl⟩
 have hz:w.heap.size=h.size:=by rw[hw.heap]
 have ag:SZ d (.exit j) true=d:=by rw[o];rfl
 have s1:=hs.upd (H':=eC (h.size::Ds)) (h':=h.push (.deferred (some []))) WG (by simp) λF q1 q2=>⟨λb=>F b∨b=h.size,⟨zH.2 ⟨λhm=>by have:=(q2 _ ((q1.2.1 _).2 hm)).1;omega,q1.1⟩,λb=>by rw[wN,←q1.2.1 b];exact Or.comm,λD hD=>by
   rcases wN.1 hD with rfl|hD
   ·exact Lf _ _
   ·rw[HZ _ _ _ (q2 D ((q1.2.1 D).2 hD)).1];exact q1.2.2 D hD⟩,λb A=>A.imp (λx=>x) λe=>by subst e;simp,λb A _=>HZ _ _ _ A⟩
 have s2:=s1.1.add (H':=Vw (h.size+1) d) (h':=(h.push (.deferred (some []))).push (.loop d)) (by simp) (λb A=>HZ _ _ _ A) ⟨λb=>b=h.size+1,⟨λ_=>yC,by have:=Lf (h.push (.deferred (some []))) (.loop d);simpa using this⟩,λb A=>by subst A;simp⟩;have a0:Wd B ((h.push (.deferred (some []))).push (.loop d)) ((w.alloc (.deferred (some []))).alloc (.loop d)):=(hw.alloc _).alloc _;have e1:CX S h S ((h.push (.deferred (some []))).push (.loop d)):=s1.2.trans s2.2;have sY:St S (YR (h.size+1) d (.exit j) J true s0::eC (h.size::Ds)::L) ((h.push (.deferred (some []))).push (.loop d)):=by
  refine Yd (L1:=Vw (h.size+1) (SZ d (.exit j) true)::J s0) ?_;rw[ag];exact s2.1
 have yc:YC P (.func (.yield (h.size+1)) #[] #[]) (YR (h.size+1) d (.exit j) J) AR V S ((h.push (.deferred (some []))).push (.loop d)):=by
  refine⟨h.size+1,rfl,λx s l hy S2 L2 h2 vs B2 w2 e2 a2 ar ah=>?_⟩;have u:=U4 a2;rw[ag] at u;obtain⟨g1,g2,g3⟩:=St.rec (r':={ d with state:= .busy}) u;have a3:w2.heap[h.size+1]? =some (.loop d):=by rw[ah.heap];exact g1
  have ai:=aw ar;have a4:=run_yield (P:=P) (args:=vs.toArray) a3 (by rw[o];simpa using ai);refine⟨_,_,_,_,a4,?_⟩;have hF:(FF none).inRound (h.size+1)=FF (some (h.size+1)):=rfl;refine roundIn_of_wpIn (F:=FF none) (n:=0) (PV none _) ?_;rw[hF];have a6:Fr (k,[]) { tmps:=(d.params.zip vs.toArray).foldl (λtm (t,a)=>tm.setIfInBounds t a) d.tmps,defers:=[]} (parm m (M.toList.zip vs)):=by
   have:=Fr.parm (n:=(k,[])) (M.toList.zip vs) (t:=a.tmps) (m:=m) (λp hp=>wO.1 af _ (List.of_mem_zip hp).1) ⟨rfl,Z.siz,Z.at_⟩;have e:(d.params.zip vs.toArray).foldl (λtm (t,a)=>tm.setIfInBounds t a) d.tmps=(M.toList.zip vs).foldl (λt p=>t.setIfInBounds p.1 p.2) a.tmps:=by
    rw[o,←Array.foldl_toList];simp
   rw[e];exact this
  have ea:d.assign=C:=by rw[o]
  have eb:d.body=G:=by rw[o]
  rw[ea,eb];refine wpIn_mono (ab vs B2 h2 ai _ w2 a6 ah (some (h.size+1)) (.inr ad)) λe a1 w3 q=>?_;cases e with
  |normal=>
   obtain⟨a7,aj⟩:=q;have a8:w3.heap[h.size+1]? =some (.loop d):=by rw[aj.heap];exact g1
   refine⟨_,run_beginRound a8 (by rw[o]),?_⟩;have a9:=aj.putObj (h.size+1) (.loop { d with state:= .busy});have ba:=St.mid g2;refine wpIn_mono (X x s l vs S2 _ (Vw (h.size+1) { d with state:= .busy}::L2) B2 hy (e1.trans (e2.trans g3)) (ax ar g3) ba a1 _ a7 a9 (some (h.size+1)) (.inr ae)) λe a5 w5 q=>?_;have ak:∀(b:Bool) (i:Option Code),(i=if b then none else some (.exit j))→RN B2 S2 (h2.setIfInBounds (h.size+1) (.loop { d with state:= .busy})) J (Vw (h.size+1) { d with state:= .busy}::L2) l b a5 w5→
     ∃v w',(Instr.endRound (h.size+1) i).run P w5= .ok v w'∧∃S' h',Ending.returned v= .returned (.bool l.1)∧Wd B2 h' w'∧CX S2 h2 S' h'∧St S' (YR (h.size+1) d (.exit j) J l.1 l.2::L2) h':=by
    rintro b i hj ⟨A,S6,h6,H,e6,Q⟩;have u6:=dJ Q;obtain⟨p1,p2,p3⟩:=St.rec (r':=SZ d (.exit j) b) u6;have bb:w5.heap[h.size+1]? =some (.loop { d with state:= .busy}):=by rw[H.heap];exact p1
    have I:=run_endRound (P:=P) i bb;have bc:({ d with state:=if i.isNone then .ready else .done,pending:=i}:Loop)=SZ d (.exit j) b:=by
     subst hj;cases b<;>rfl
    have al:i.isNone=b:=by subst hj;cases b<;>rfl
    rw[al] at I;have am:({ { d with state:=LoopState.busy} with state:=if b then .ready else .done,pending:=i}:Loop)=SZ d (.exit j) b:=by rw[←bc,al]
    rw[am] at I;refine⟨_,_,I,S6,_,by rw[A],H.putObj _ _,g3.trans (e6.trans p3),?_⟩;rw[A];exact Yd (L1:=Vw (h.size+1) (SZ d (.exit j) b)::J l.2) p2
   cases e with
   |normal=>exact ak true none rfl q
   |exit id=>
    simp only[Qx,fJ] at q;cases A:Nat.beq j id with
    |true=>
     rw[A] at q;have be:j=id:=wQ A;subst be;exact ak false (some (.exit j)) rfl q
    |false=>rw[A] at q;exact q.elim
   |ret=>exact q.elim
   |goto t=>exact q.elim
   |panic c=>exact q.elim
   |outgrown=>exact q.elim
  |exit id=>simp only[Qx,fJ] at q
  |ret=>exact q.elim
  |goto t=>exact q.elim
  |panic c=>exact q.elim
  |outgrown=>exact q.elim
 have U:=W (.func (.yield (h.size+1)) #[] #[]) (YR (h.size+1) d (.exit j) J) S _ (eC (h.size::Ds)::L) e1 yc sY;have bf:=Z.eval hg;refine⟨w.heap.size+1,[{ target:= .collected w.heap.size,args:= #[]}],(w.alloc (.deferred (some []))).alloc (.loop d),{ target:= .fn (.func f) y,args:= #[.func (.yield (w.heap.size+1)) #[] #[]]},(w.alloc (.deferred (some []))).alloc (.loop d),f,#[.func (.yield (w.heap.size+1)) #[] #[]]++y,(w.alloc (.deferred (some []))).alloc (.loop d),?_,?_,λ_ _=>PV none _,?_,λhd=>(by rw[M3] at hd;cases hd),?_⟩
 ·rw[o];exact run_enterLoop_outer _ _ _ _ _
 ·simp only[resolve,bf,rangeCall];simp [go_sem,Deferred.ofValue]
 ·simp [invoke,Y6 av]
 ·rw[hz];refine VZ ((U B _ a0).mono λe w5 q=>?_);obtain⟨v,S5,h5,rfl,an,e5,ao⟩:=q;have u:=U4 ao;obtain⟨p1,p2,p3⟩:=St.rec (r':={ SZ d (.exit j) r.1 with state:= .exhausted}) u;have ap:w5.heap[h.size+1]? =some (.loop (SZ d (.exit j) r.1)):=by rw[an.heap];exact p1
  refine⟨_,_,run_endLoop ap (by unfold SZ;cases r.1<;>simp),?_⟩;have H:=an.putObj (h.size+1) (.loop { SZ d (.exit j) r.1 with state:= .exhausted});have Q:=p2.drop .head;have aq:(SZ d (.exit j) r.1).pending=if r.1 then none else some (.exit j):=rfl
  generalize ({ SZ d (.exit j) r.1 with state:= .exhausted}:Loop)=rx at*
  rw[aq];clear aq ap p1 u ao U;have au:Fr (k,Su (h.size::Ds)) { a with defers:=[{ target:= .collected h.size,args:= #[]}]++a.defers} m:=⟨by show _::a.defers=_;rw[Z.dfr];rfl,Z.siz,Z.at_⟩
  cases hr:r.1 with
  |true=>
   exact ay hr S5 _ h.size (e1.trans (e5.trans p3)) Q _ _ au H
  |false=>
   exact ac hr S5 _ h.size (e1.trans (e5.trans p3)) Q _ _ au H none (.inl rfl)
end
def Pu (p:Prop):HP where
 holds:=λ_ F _=>p∧∀b,¬F b
 loc:=λk _ _=>k
section
variable {S:Nat→Prop}{L:List HP}{h:A4}
def iY {p:Prop}(a:St S (Pu p::L) h):p∧St S L h:=by
 obtain⟨F,k,_⟩:=a.get (xL ..);exact⟨k.1,a.drop .head⟩
def Ye {p:Prop}(a:St S L h) (k:p):St S (Pu p::L) h:=(a.add (H':=Pu p) (wV _) (λ_ _=>rfl) ⟨λ_=>False,⟨k,λ_ x=>x⟩,λ_ x=>x.elim⟩).1
def nL (a:St S L h):St S (eC []::L) h:=(a.add (H':=eC []) (wV _) (λ_ _=>rfl) ⟨λ_=>False,⟨List.nodup_nil,λb=>⟨λx=>x.elim,λx=>by cases x⟩,λD c=>by cases c⟩,λ_ x=>x.elim⟩).1
end
section
variable {P:Program}{ops:Array Oper}{Q:Exit→Act→World→Prop}{n:FN}{m m':SM}{rest l:List Oper}{B:World}{h:A4}{S:Nat→Prop}{L:List HP}
def dI {α σ:Type}{l:Value}{Y:Bool→σ→HP}{AR:Vz α}{c:α→σ→Option (Bool×σ)}{o:Nat→Prop}{h0:A4}{X:Operand}{xs:Array Operand}{i:Array TypeId}{vs:List Value}{d:Nat}{ty:TypeId}{j:String}{p:Array Edge}{x:α}{s:σ}{a:Bool×σ}
  (q:YC P l Y AR c o h0) (t:CF m X=some l) (k:xs.toList.mapM (CF m)=some vs) (u:c x s=some a) (v:CX o h0 S h) (b:St S (Y true s::L) h) (w:AR S h vs x) (hd:Nat.blt d n.1=true)
  (z:a.1=true→∀S' h',CX S h S' h'→St S' (Y true a.2::L) h'→YL P ops Q rest B h' n ((d,.bool true)::m))
  (A:a.1=false→∀S' h',CX S h S' h'→St S' (Y false a.2::L) h'→YL P ops Q rest B h' n ((d,.bool false)::m)):YL P ops Q (⟨some d,.call ⟨.value X,xs,i⟩,ty,j,p,none⟩::rest) B h n m:=
 vJ q t k u v b w hd λS' h' e b=>by
  cases g:a.1 with
  |true=>rw[g] at b;exact z g S' h' e b
  |false=>rw[g] at b;exact A g S' h' e b
end
section
variable {P:Program}{fn:Func}{B:World}{S S':Nat→Prop}{h h':A4}{post:Value→(Nat→Prop)→A4→Prop}{a:Act}{m:SM}{w:World}{L:List HP}
def pO {k:Nat}{Ds:List Nat}{t:List ResultVar}{vs:List Value}{v:Value}(A:Fr (k,Su Ds) a m) (C:fn.results.toList=t) (i:Wd B h' w) (u:St S' (eC Ds::L) h') (G:jO vs=v) (e:CX S h S' h')
  (o:∀d j,Wd B j d→St S' L j→CX S' h' S' j→Zc P d a t vs∧post v S' j):Rt P fn B S h post a w:=by
 obtain⟨F,n,H,I⟩:=u.2;refine⟨Ds,A.dfr,n.1,λD J=>by rw[i.heap];exact n.2.2 D J,λd K j M Q y=>?_⟩;have c:∀b,S' b→d.heap[b]? =h'[b]? :=λb g=>by rw[y b λp=>(H b ((n.2.1 b).2 p)).2 g,i.heap]
 have q:h'.size≤d.heap.size:=by rw[Q,i.heap];exact wV _
 have z:CX S' h' S' d.heap:=⟨λ_ x=>x,c,q⟩
 have s:St S' L d.heap:=⟨λb g=>wX (u.1 b g) q,Sp.ext I (λ_ x=>x) (λb g=>g.elim (c b) λx=>by rw[y b λp=>x.2 ((n.2.1 b).2 p),i.heap]) λb g=>⟨wX g.1.1 q,g.1.2⟩⟩
 have l:Wd B d.heap d:=⟨rfl,K.trans i.os,j.trans i.tape,M.trans i.out⟩
 obtain⟨U,V⟩:=o d _ l s z;exact⟨v,by rw[←G];exact Sr C U,S',_,l,e.trans z,V⟩
end
def rF:List Nat→SM→Option SM
 |[],_=>some []
 |k::a,m=>match lk m k with
  |some v=>match rF a m with
   |some r=>some ((k,v)::r)
   |none=>none
  |none=>none
def kp:∀{m a:SM}(b:List Nat),rF b m=some a→Ud m a
 |m,a,[],h=>by cases h;trivial
 |m,a,k::b,h=>by
  simp only[rF] at h;split at h
  ·rename_i v c;split at h
   ·rename_i r d;cases h;exact⟨c,kp b d⟩
   ·cases h
  ·cases h
def Yx {α:Type}(S:Nat→Prop) (h:A4) (r:BX α) (T:TypeId) (l:List α) (v:Value) (a:A4):Prop:=∃c cap,v= .slice (some ⟨c,0,none⟩) l.length cap∧h.size≤c∧c<a.size∧(OS r T v l).holds S (λb=>b=c) a
def Yx.mono {α:Type}{S:Nat→Prop}{h a c:A4}{r:BX α}{T:TypeId}{l:List α}{v:Value}(k:Yx S h r T l v a) (i:∀b,S b→b<h.size) (o:HS a c):Yx S h r T l v c:=by
 obtain⟨q,cap,j,m,d,n⟩:=k;exact⟨q,cap,j,m,wX d o.siz,HP.loc _ n (λ_ x=>x) λb p=>o.same b (p.elim (λx=>by have:=i b x;omega) λx=>by subst x;exact d)⟩
def gN {α:Type}{S:Nat→Prop}{h:A4}{r:BX α}{T:TypeId}{l:List α}:Sm (Yx S h r T l):=λv c ⟨d,_,a,_,b,_⟩=>⟨d,by rw[a];rfl,b⟩
def Of {α:Type}{R:AR}{S:Nat→Prop}{h:A4}{r:BX α}{a T:Nat}{l:List α}{is:List Nat}(e:R a=Yx S h r T l) (t:∀i,i∈is→Sm (R i)):∀i,i∈a::is→Sm (R i):=Wm (by rw[e];exact gN) t
def NV {α:Type}{S:Nat→Prop}{L:List HP}{h d:A4}{i:List Nat}{r:BX α}{u T:Nat}{v:Value}{l:List α}(k:Q5 S h d i L) (j:h.size≤u) (m:u<d.size) (n:(OS r T v l).holds S (λb=>b=u) d) (o:u∉i):Q5 S h d (u::i) (OS r T v l::L):=by
 obtain⟨p,q,s,t⟩:=k;refine⟨p,q,λc a=>?_,λc=>c=u,n,λc a=>by subst a;exact .inr (xL ..),t.mono λc a=>⟨a.imp_right (xP _),λe=>?_⟩⟩
 ·rcases wN.1 a with rfl|a
  ·exact⟨j,m⟩
  ·exact s c a
 ·subst e;rcases a with a|a
  ·have:=a.1;omega
  ·exact o a
def Sn {α:Type}{P:Program}{q:Array Oper}{Q:Exit→Act→World→Prop}{n:FN}{m:SM}{p:List Oper}{d:Nat}{ty:TypeId}{s:String}{Y:Array Edge}{B:World}{S:Nat→Prop}{h0 h:A4}{r:BX α}{T e sz g:Nat}{z:List Value}{zx:α}{len cap:Int}{Z kc:IntKind}{U V:Operand}(he:RE P T=some (e,sz,g,z)) (t:r.sz=sz) (hz:r.rd S h z zx)
  (hx:CF m U=some (.int Z len)) (hy:CF m V=some (.int kc cap)) (u:OX len cap g=true) (y:Nat.blt 0 g=true) (hd:Nat.blt d n.1=true) (o:HS h0 h) (hS:∀b,S b→b<h0.size)
  (k:∀v h',HS h h'→Yx S h0 r e (List.replicate len.toNat zx) v h'→Ws h v→LF P q Q p B h' n ((d,v)::m)):LF P q Q (⟨some d,.makeSlice T U V,ty,s,Y,none⟩::p) B h n m:=by
 simp only[OX,wI,wW] at u;obtain⟨⟨aa,ab⟩,I⟩:=u;obtain⟨a,rfl⟩:∃a:Nat,len=a:=⟨len.toNat,by omega⟩
 obtain⟨c,rfl⟩:∃c:Nat,cap=c:=⟨cap.toNat,by omega⟩
 have ad:((g*c:Nat):Int)≤140737488355328:=by rw[zO];exact I
 have J:1≤g:=by simpa [Nat.blt] using y
 have ae:c≤g*c:=Nat.le_mul_of_pos_left _ J;have A:a≤c:=by omega
 have C:c≤maxLen:=by unfold maxLen;omega
 intro ac w M hw;refine wpList_plain rfl λK hK=>?_;unfold Oper.wp;obtain⟨i,zv,h1,h2,h3,h4,h5,h6,h7,h8⟩:=Mx he;have D:=run_make (P:=P) w T e i zv h1 h2 h3 Z kc (a:Int) (c:Int) (by omega) (by omega) (by rw[h5];omega) (by unfold maxLen at C;omega);simp only[Aan,h6,h4] at D;have F:(execOp ac.eval ⟨some d,.makeSlice T U V,ty,s,Y,none⟩).run P w= .ok (.value (.slice (some ⟨w.heap.size,0,none⟩) a c)) (w.alloc (.cells (madeCells z.toArray (c*sz)) e)):=by
  simp [execOp,M.eval hx,M.eval hy,D]
 rw[F];have W:∀b,S b→b<h.size:=λb G=>wX (hS b G) o.siz;have l:(madeCells z.toArray (c*sz)).toList=(List.replicate c z).flatten:=by rw[←h7];exact NZ z c (by omega)
 have X:(OS r e (.slice (some ⟨h.size,0,none⟩) a c) (List.replicate a zx)).holds S (λb=>b=h.size) (h.push (.cells (madeCells z.toArray (c*sz)) e)):=by
  refine .inr ⟨h.size,c,madeCells z.toArray (c*sz),by simp,λ_=>yC,Lf _ _,by simpa using A,C,by rw[size_madeCells,t],?_⟩;rw[l];have:((List.replicate c z).flatten).take ((List.replicate a zx).length*r.sz)=(List.replicate a z).flatten:=by
   obtain⟨j,rfl⟩:=Nat.exists_eq_add_of_le A;rw[←List.replicate_append_replicate,List.flatten_append,List.length_replicate,t,←h7];have:(List.replicate a z).flatten.length=a*z.length:=by simp
   rw[←this,Aam]
  rw[this];exact(Sy hz a).mono (λ_ x=>x) λb G=>HZ _ _ _ (W b G)
 have H:=hw.heap;have:=k (.slice (some ⟨w.heap.size,0,none⟩) a c) (h.push (.cells (madeCells z.toArray (c*sz)) e)) ⟨by simp,λb G=>HZ _ _ _ G⟩ (by rw[H];exact⟨h.size,c,by simp,o.siz,by simp,by simpa using X⟩) ⟨h.size,by rw[H];rfl,wV _⟩;exact hK _ _ (this _ _ (M.put hd _) (hw.alloc _))
def gU:Vz Int:=λ_ _ vs x=>vs=[.int .i64 x]∧AA x
def eG {α:Type}(r:BX α):Vz (Int×List α):=λS h vs x=>∃v,vs=[.int .i64 x.1,v]∧AA x.1∧Sl S h r v x.2
def gU.len {S:Nat→Prop}{h:A4}{vs:List Value}{x:Int}(k:gU S h vs x):vs.length=1:=by rw[k.1];rfl
def gU.mono {S a:Nat→Prop}{h h':A4}{vs:List Value}{x:Int}(k:gU S h vs x) (_:CX S h a h'):gU a h' vs x:=k
def eG.len {α:Type}{r:BX α}{S:Nat→Prop}{h:A4}{vs:List Value}{x:Int×List α}(k:eG r S h vs x):vs.length=2:=by obtain⟨v,e,_⟩:=k;rw[e];rfl
def eG.mono {α:Type}{r:BX α}{S a:Nat→Prop}{h h':A4}{vs:List Value}{x:Int×List α}(k:eG r S h vs x) (e:CX S h a h'):eG r a h' vs x:=by obtain⟨v,b,c,d⟩:=k;exact⟨v,b,c,d.mono' e⟩
def Sa {P:Program}{b:List (Nat×AP)}{R N:AP}{cs:List Code}:∀a w,¬Qx b R (W P b R cs N) .outgrown a w:=λ_ _ x=>x
def vF (a:Value) (l:List Value):(#[a]++l.toArray:Array Value)=(a::l).toArray:=by simp
open Go.ChangeMaps (setBlock)
def MI {κ β:Type}(kv:κ→Value) (vv:β→Value) (b r:Nat) (l rem:List (κ×β)):HP where
 holds:=λ_ F h=>(∀c,F c↔(c=b∨c=r))∧b≠r∧∃g a d seen,h[b]? =some (.map g a)∧g.toList.map (λe=>(e.key,e.val))=(l.map λe=>(kv e.1,vv e.2))∧PG g.toList a∧
  h[r]? =some (.mapIter (some b) d seen a)∧d=a∧(leftOf g seen).toList.map (λe=>(e.key,e.val))=rem.map λe=>(kv e.1,vv e.2)
 loc:=λ⟨i,j,g,c,d,seen,k,m,n,o,p⟩ _ e=>⟨i,j,g,c,d,seen,(e _ (.inr ((i _).2 (.inl rfl)))).trans k,m,n,(e _ (.inr ((i _).2 (.inr rfl)))).trans o,p⟩
section
variable {P:Program}{ops:Array Oper}{Q:Exit→Act→World→Prop}{n:FN}{m:SM}{rest:List Oper}
variable {d:Nat}{ty:TypeId}{pos:String}{af:Array Edge}{X:Operand}{B:World}{h:A4}{S:Nat→Prop}{L:List HP}{t kt et:TypeId}{b r:Nat}
variable {κ β:Type}{kv:κ→Value}{vv:β→Value}{l rem:List (κ×β)}
def Ze (s:St S (MP kv vv b l::L) h) (g:CF m X=some (.map (some b))) (z:P.underlying t=some (.map kt et)) (hd:Nat.blt d n.1=true)
  (k:∀r h',St S (MI kv vv b r l l::L) h'→CX S h S h'→LF P ops Q rest B h' n ((d,.pointer (some ⟨r,0,none⟩))::m)):LF P ops Q (⟨some d,.range t X,ty,pos,af,none⟩::rest) B h n m:=by
 intro a w u o;refine wpList_plain rfl λK p=>?_;unfold Oper.wp;obtain⟨F,⟨A,j,c,v,y,C⟩,D,_⟩:=s.2;have G:w.heap[b]? =some (.map j c):=by rw[o.heap];exact v
 have i:(execOp a.eval ⟨some d,.range t X,ty,pos,af,none⟩).run P w= .ok (.value (.pointer (some ⟨w.heap.size,0,none⟩))) (w.alloc (.mapIter (some b) c #[] c)):=by
  simp [execOp,u.eval g,Instr.range,run_underlying z,MapKept.run_getObj_map G,newObj,Sem.run]
 rw[i];have H:b<h.size:=(D b ((A b).2 rfl)).1;obtain⟨I,J⟩:=s.upd (H':=MI kv vv b h.size l l) (h':=h.push (.mapIter (some b) c #[] c)) .head (by simp) λF M U=>⟨λx=>x=b∨x=h.size,⟨λx=>yC,by omega,j,c,c,#[],by rw[HZ _ _ _ H];exact v,y,C,Lf _ _,rfl,by rw[show leftOf j #[]=j from Array.filter_eq_self.2 λx _=>(by simp)];exact y⟩,λx g=>g.imp (λe=>(M.1 x).2 e) λe=>by subst e;simp,λx g _=>HZ _ _ _ g⟩
 have q:=o.heap;exact p _ _ (k w.heap.size _ (by rw[q];exact I) J _ _ (u.put hd _) (o.alloc _))
def gP {h:A4}{b r:Nat}{o:Obj}(a:r<h.size) (c:b≠r):(h.setIfInBounds r o)[b]? =h[b]? ∧(h.setIfInBounds r o)[r]? =some o∧(h.setIfInBounds r o).size=h.size:=
 ⟨by rw[Abh (Ne.symm c)],by rw[Array.getElem?_setIfInBounds_self];simp [a],by simp⟩
def dY (hs:St S (MI kv vv b r l rem::L) h) (q:CF m X=some (.pointer (some ⟨r,0,none⟩))) (hd:Nat.blt d n.1=true)
  (k0:rem=[]→LF P ops Q rest B h n ((d,.tuple #[.bool false])::m))
  (G:∀(x:κ×β) (t u:List (κ×β)) h',rem=t++x::u→St S (MI kv vv b r l (t++u)::L) h'→CX S h S h'→(∀w,Wd B h' w→(Instr.entry (.pointer (some ⟨r,0,none⟩))).run P w= .ok (.tuple #[kv x.1,vv x.2]) w)→LF P ops Q rest B h' n ((d,.tuple #[.bool true,kv x.1,vv x.2])::m)):LF P ops Q (⟨some d,.next X false,ty,pos,af,none⟩::rest) B h n m:=by
 intro a w H v;refine wpList_plain rfl λK z=>?_;unfold Oper.wp;obtain⟨F,⟨g1,gn,k,c,g,seen,U,g3,I,g5,g6,J⟩,hF,_⟩:=hs.2;have hr:w.heap[r]? =some (.mapIter (some b) g seen c):=by rw[v.heap];exact g5
 have hb:w.heap[b]? =some (.map k c):=by rw[v.heap];exact U
 have V:r<h.size:=(hF r ((g1 r).2 (.inr rfl))).1;subst g6;rcases run_next_at (P:=P) w ty r b g g seen k g hr hb (λx q=>I.2 x q) (wV _) with ⟨h0,j⟩|⟨e,he,w1,hw1,j⟩
 ·have M:(execOp a.eval ⟨some d,.next X false,ty,pos,af,none⟩).run P w= .ok (.value (.tuple #[.bool false])) w:=by simp [execOp,H.eval q,j]
  rw[M];have A:rem=[]:=by
   have:(leftOf k seen).toList=[]:=by
    have:=Array.eq_empty_of_size_eq_zero h0;rw[this]
   rw[this] at J;cases rem with
   |nil=>rfl
   |cons _ _=>cases J
  exact z _ _ (k0 A _ _ (H.put hd _) v)
 ·have M:(execOp a.eval ⟨some d,.next X false,ty,pos,af,none⟩).run P w= .ok (.value (.tuple #[.bool true,e.key,e.val])) (setBlock w1 r (.mapIter (some b) g (seen.push e.born) g)):=by simp [execOp,H.eval q,j]
  rw[M];obtain⟨p1,p2,W⟩:=List.append_of_mem he;rw[W,yP,xQ] at J;obtain⟨t,lx,hl,q1,q2⟩:=List.map_eq_append_iff.1 J.symm;obtain⟨x,u,Y,q3,q4⟩:=List.map_eq_cons_iff.1 q2;subst Y;have p:e.key=kv x.1∧e.val=vv x.2:=by
   have:=q3;simp only[zY] at this;exact⟨this.1.symm,this.2.symm⟩
  have C:((leftOf k seen).toList.map (·.born)).Nodup:=by
   unfold leftOf;rw[Array.toList_filter];exact(List.Sublist.map _ List.filter_sublist).nodup I.1
  have s:(leftOf k (seen.push e.born)).toList=p1++p2:=by
   have e1:(leftOf k (seen.push e.born)).toList=(leftOf k seen).toList.filter λy=>y.born != e.born:=by
    unfold leftOf;rw[Array.toList_filter,Array.toList_filter,List.filter_filter];congr 1;funext y;cases M:seen.contains y.born<;>cases h2:(y.born==e.born)<;>simp_all
   rw[e1,W,List.filter_append,List.filter_cons];rw[W,yP,xQ,List.nodup_append] at C;obtain⟨_,n2,n3⟩:=C;obtain⟨n4,_⟩:=zH.1 n2;simp only[bne_self_eq_false,yL,if_false];rw[List.filter_eq_self.2,List.filter_eq_self.2]
   ·intro y Z;simp only[bne_iff_ne,ne_eq];exact λe0=>n4 (by rw[←e0];exact xR.2 ⟨y,Z,rfl⟩)
   ·intro y Z;simp only[bne_iff_ne,ne_eq];exact λe0=>n3 _ (xR.2 ⟨y,Z,rfl⟩) _ (xL ..) e0
  obtain⟨s1,s2,s3⟩:=gP (o:= .mapIter (some b) g (seen.push e.born) g) V gn;have aa:Wd B (h.setIfInBounds r (.mapIter (some b) g (seen.push e.born) g)) (setBlock w1 r (.mapIter (some b) g (seen.push e.born) g)):=by
   have i:Wd B h w1:=by
    rcases hw1 with rfl|rfl
    ·exact v
    ·exact v.drew
   exact⟨by show w1.heap.setIfInBounds _ _=_;rw[i.heap],i.os,i.tape,i.out⟩
  obtain⟨u1,u2⟩:=hs.upd (H':=MI kv vv b r l (t++u)) (h':=h.setIfInBounds r (.mapIter (some b) g (seen.push e.born) g)) .head (by omega) λF G k2=>⟨F,⟨G.1,gn,k,g,g,seen.push e.born,by rw[s1];exact U,g3,I,s2,rfl,by rw[s,yP,yP,q1,q4]⟩,λx q=> .inl q,λx q ab=>by
   have:x≠r:=λe=>ab ((G.1 x).2 (.inr e));rw[Abh (Ne.symm this)]⟩
  have:=G x t u _ hl u1 u2 (λw' D=>by
   have:=run_entry_at (P:=P) w' r b g seen k g e (by rw[D.heap];exact s2) (by rw[D.heap,s1];exact U) (by
    have:e∈(leftOf k seen).toList:=he;unfold leftOf at this;rw[Array.toList_filter] at this;exact(zP.1 this).1) I.1
   rw[this,p.1,p.2])
  rw[p.1,p.2];exact z _ _ (this _ _ (H.put hd _) aa)
def Zd {C:World→Prop}{Q:Act→Prop}{v:Value}(c:CF m X=some (.pointer (some ⟨r,0,none⟩))) (g:∀w,C w→(Instr.entry (.pointer (some ⟨r,0,none⟩))).run P w= .ok v w) (hd:Nat.blt d n.1=true)
  (k:QF P ops C Q rest n ((d,v)::m)):QF P ops C Q (⟨some d,.entry X,ty,pos,af,none⟩::rest) n m:=λa b=>
 HT b hd (λw i=>by simp [execOp,b.eval c,g w i]) k
def St.miMP (g:St S (MI kv vv b r l rem::L) h):St S (MP kv vv b l::L) h:=by
 obtain⟨F,⟨i,q,j,c,d,seen,k,m,n,_⟩,o,p⟩:=g.2;exact⟨g.1,λx=>x=b,⟨λ_=>yC,j,c,k,m,n⟩,λx a=>o x ((i x).2 (.inl a)),p.mono λx a=>⟨a.1,λe=>a.2 ((i x).2 (.inl e))⟩⟩
end
def VB (x:Int):Value:= .int .i64 (BV x)
def Xf {x:Int}(h:AA x):VB x= .int .i64 x:=by unfold VB;rw[Pv h]
def Zp:VB 0= .int .i64 0:=Xf (by unfold AA;omega)
def bU {α:Type}{c:Bool}{a y:α}(h:cond c (some a) none=some y):y=a:=by cases c<;>simp_all
def fF {α:Type}(c:Bool) (a b z:Option α):(cond c a b).or z=cond c (a.or z) (b.or z):=by cases c<;>rfl
def ZG {α g:Type}{f:α→Option g}{C:g}{x:α}{b c:List α}{K:Option g}{r:g}(d:∀e y,f e=some y→y=C) (E:cond ((b++x::c).all λe=>(f e).isNone) K (some C)=some r):(f x).or (cond ((b++c).all λe=>(f e).isNone) K (some C))=some r:=by
 cases a:f x with
 |none=>
  rw[Option.none_or];rw[List.all_append,zW,a] at E;rw[List.all_append];simpa using E
 |some y=>
  have:=d x y a;subst this;rw[List.all_append,zW,a] at E;simpa using E
def eV:List Nat→Nat→List HP→Option (List HP)
 |[],m,L=>some (L.drop m)
 |i::is,m,L=>match L[i]? with
  |some H=>match eV is m (L.eraseIdx i) with
   |some r=>some (H::r)
   |none=>none
  |none=>none
def X4:∀{L:List HP}{i:Nat}{H:HP},L[i]? =some H→Q4 L H (L.eraseIdx i)
 |[],i,H,h=>by simp at h
 |K::L,0,H,h=>by
  simp only[zI,xO] at h;subst h;exact .head
 |K::L,i+1,H,h=>by
  simp only[zJ] at h;exact .tail (X4 h)
def Sp.dropn {S:Nat→Prop}{h:A4}:∀(m:Nat) {L:List HP}{A:Nat→Prop},Sp S L h A→Sp S (L.drop m) h A
 |0,L,A,k=>k
 |m+1,[],A,k=>k
 |m+1,H::L,A,⟨F,_,_,k⟩=>Sp.dropn m (k.mono λb a=>a.1)
def Sp.sel {S:Nat→Prop}{h:A4}:∀(is:List Nat) {m:Nat}{L a:List HP}{A:Nat→Prop},eV is m L=some a→Sp S L h A→Sp S a h A
 |[],m,L,a,A,e,k=>by cases e;exact k.dropn m
 |i::is,m,L,a,A,e,k=>by
  simp only[eV] at e;split at e
  ·rename_i H b;split at e
   ·rename_i r c;cases e;obtain⟨F,d,g,j⟩:=Sp.pick (X4 b) k;exact⟨F,d,g,Sp.sel is c j⟩
   ·cases e
  ·cases e
def St.sel {S:Nat→Prop}{h:A4}{L a:List HP}(b:St S L h) (is:List Nat) (m:Nat) (e:eV is m L=some a):St S a h:=⟨b.1,Sp.sel is e b.2⟩
abbrev IV (B:World) (S:Nat→Prop) (h:A4) (n:FN) (a:Act) (w:World) (m:SM) (L:List HP) (F:(Nat→Prop)→A4→Prop):Prop:=∃(S':Nat→Prop) (h':A4),Fr n a m∧Wd B h' w∧St S' L h'∧CX S h S' h'∧F S' h'
def X5 {vs:List Value}(h:vs.all (·.oneCell')=true):∀u∈vs,u.oneCell'=true:=λu a=>wO.1 h u a
section
variable {P:Program}{ops:Array Oper}{Q:Exit→Act→World→Prop}{n:FN}{m:SM}{rest:List Oper}
variable {d:Nat}{ty:TypeId}{pos:String}{af:Array Edge}{X Y:Operand}{B:World}{h:A4}{S:Nat→Prop}{L L2:List HP}{v:Value}
def HH {T d:TypeId}{b o:Nat}{cs vs cs':List Value}{sz:Nat}{ag:Bool}(g:CF m X=some (.pointer (some ⟨b,o,none⟩))) (i:CF m Y=some v) (j:v.cells=vs.toArray) (l:vs.all (·.oneCell')=true)
  (p:L5 P T sz ag=true) (c:vs.length=sz) (q:St S L h) (r:Np L (Bx b d cs) (Bx b d cs') L2) (a:Nat.ble (o+sz) cs.length=true) (s:JN cs o vs=cs')
  (k:∀h',St S L2 h'→CX S h S h'→LF P ops Q rest B h' n m):LF P ops Q (⟨none,.store T X Y,ty,pos,af,none⟩::rest) B h n m:=dX g i j (X5 l) p c q r a s k
def BI {T c:TypeId}{b:Nat}{cs vs:List Value}{sz:Nat}{ag:Bool}(d:CF m X=some (.pointer (some ⟨b,0,none⟩))) (g:CF m Y=some v) (i:v.cells=vs.toArray) (j:vs.all (·.oneCell')=true)
  (l:L5 P T sz ag=true) (a:Nat.beq vs.length sz=true) (o:St S L h) (r:Np L (Bx b c cs) (Bx b c vs) L2) (p:Nat.beq cs.length sz=true)
  (k:∀h',St S L2 h'→CX S h S h'→LF P ops Q rest B h' n m):LF P ops Q (⟨none,.store T X Y,ty,pos,af,none⟩::rest) B h n m:=by
 have q:=wQ a;have s:=wQ p;refine dX d g i (X5 j) l q o r (by simp [s]) ?_ k;unfold JN;rw[zN (by omega)];simp
end
section
variable {P:Program}{ops:Array Oper}{C:World→Prop}{Q:Act→Prop}{n:FN}{m:SM}{rest:List Oper}{v:Value}
variable {d:Nat}{ty:TypeId}{pos:String}{af:Array Edge}{X Y:Operand}{h:A4}{S:Nat→Prop}{L:List HP}{t:TypeId}
def Jz {T b o:Nat}{cs:List Value}(g:CK C h) (i:St S L h) (j:CF m X=some (.pointer (some ⟨b,o,none⟩))) (l:Bx b T cs∈L) (c:cs[o]? =some v) (p:L5 P t 1 false=true) (hd:Nat.blt d n.1=true)
  (k:QF P ops C Q rest n ((d,v)::m)):QF P ops C Q (⟨some d,.load t X,ty,pos,af,none⟩::rest) n m:=by
 have e:(cs.drop o).take 1=[v]:=by
  have a:=(wU.1 c).1;have q:=(wU.1 c).2;rw[Aac a,q];simp
 exact L0 (vs:=[v]) g i j l e rfl p rfl hd k
def nY {o:Oper}{j e:Nat}{b:Bool}{u:Value}(p:o.guard=some (j,b)) (q:(ops[j]?).bind (·.dst)=some e) (g:lk m e=some u) (s:yb u≠some b) (i:o.dst=some d) (hd:Nat.blt d n.1=true) (k:QF P ops C Q rest n ((d,undef)::m)):QF P ops C Q (o::rest) n m:=by
 intro a c;have l:Region.wanted o (yielded ops a.tmps)=false:=by
  have:=c.at_ e _ g;cases u<;>simp_all [Region.wanted,yielded,yb]
 unfold wpQuiet;rw[wF (by rw[l];exact Bool.false_ne_true),i];exact k _ (c.put hd _)
def rA (a:Op) (m:SM):Option Value:=
 match a with
 | .pick c x y=>match CF m c with
  |some (.bool true)=>CF m x
  |some (.bool false)=>CF m y
  |_=>none
 |_=>none
def TJ (ops:Array Oper) (k:Nat):List Oper→SM→Option SM
 |[],m=>some m
 |o::r,m=>match o.guard,o.dst with
  |some (j,b),some d=>match (ops[j]?).bind (·.dst) with
   |some e=>match lk m e with
    |some u=>match yb u,b with
     |some true,true=>match rA o.op m with
      |some v=>cond (Nat.blt d k) (TJ ops k r ((d,v)::m)) none
      |none=>none
     |some false,false=>match rA o.op m with
      |some v=>cond (Nat.blt d k) (TJ ops k r ((d,v)::m)) none
      |none=>none
     |_,_=>cond (Nat.blt d k) (TJ ops k r ((d,undef)::m)) none
    |none=>none
   |none=>none
  |none,some d=>match rA o.op m with
   |some v=>cond (Nat.blt d k) (TJ ops k r ((d,v)::m)) none
   |none=>none
  |_,none=>none
def Oc {α:Type}{c:Bool}{x:Option α}{y:α}(h:cond c x none=some y):c=true∧x=some y:=by cases c<;>simp_all
def Xe {u:Value}{b:Bool}(h:yb u=some b):u= .bool b:=by
 cases u<;>simp_all [yb]
def XQ {o:Oper}{d:Nat}{v:Value}(c:o.guard=none) (hd:o.dst=some d) (a:rA o.op m=some v) (g:Nat.blt d n.1=true) (k:QF P ops C Q rest n ((d,v)::m)):QF P ops C Q (o::rest) n m:=by
 obtain⟨j,l,p,i,q,s⟩:=o;simp only at c hd a;subst c hd;unfold rA at a;split at a
 ·split at a
  ·rename_i b;exact SH b a g k
  ·rename_i b;exact SH b a g k
  ·cases a
 ·cases a
def Qn:∀{l:List Oper}{m p:SM},TJ ops n.1 l m=some p→QF P ops C Q [] n p→QF P ops C Q l n m
 |[],m,p,h,k=>by cases h;exact k
 |o::r,m,p,h,k=>by
  simp only[TJ] at h;split at h
  ·rename_i j b d g hd;split at h
   ·rename_i e s;split at h
    ·rename_i u t;split at h
     ·rename_i w;split at h
      ·rename_i v i;obtain⟨a,c⟩:=Oc h;have:=Xe w;subst this;exact Ys g s t (XQ rfl hd i a (Qn c k))
      ·cases h
     ·rename_i w;split at h
      ·rename_i v i;obtain⟨a,c⟩:=Oc h;have:=Xe w;subst this;exact Ys g s t (XQ rfl hd i a (Qn c k))
      ·cases h
     ·rename_i x y;obtain⟨a,c⟩:=Oc h;refine nY g s t (λz=>?_) hd a (Qn c k);generalize A:yb u=zz at*
      subst z;revert x y;intro x y;exact Bool.rec (motive:=λq=>(some q=some true→q=true→False)→(some q=some false→q=false→False)→False) (λ_ h=>h rfl rfl) (λh _=>h rfl rfl) _ x y
    ·cases h
   ·cases h
  ·rename_i d g hd;split at h
   ·rename_i v i;obtain⟨a,c⟩:=Oc h;exact XQ g hd i a (Qn c k)
   ·cases h
  ·cases h
def AZ {b:SM}(c:rF (b.map (·.1)) m=some b):QF P ops C (λa=>Fr n a b) [] n m:=gG (kp _ c)
def BM {l:List Oper}{c b:SM}(h:TJ ops n.1 l m=some c) (d:rF (b.map (·.1)) c=some b):QF P ops C (λa=>Fr n a b) l n m:=Qn h (AZ d)
end
section
variable {P:Program}{ops:Array Oper}{Q:Act→Prop}{n:FN}{m:SM}{rest:List Oper}{d:Nat}{ty:TypeId}{pos:String}{af:Array Edge}{X:Operand}{v:Value}{Ψ:Prop}{f:Nat}{xs:Array Operand}{tys:Array TypeId}{args vs:List Value}{first cap:Array Value}{h:A4}{B:World}{Z:(Nat→Prop)→A4→Prop}
def KN (i:CF m X=some (.func (.func f) first cap)) (a:xs.toList.mapM (CF m)=some args) (c:first.toList++args++cap.toList=vs) (g:BK P f=true) (hd:Nat.blt d n.1=true)
  (j:∀h',HS h h'→CA P f vs.toArray (λb=>b<h'.size) h' (λu S' l=>u=v∧Z S' l))
  (k:QF P ops (Cl B h) Q rest n ((d,v)::m)):QF P ops (Cl B h) Q (⟨some d,.call ⟨.value X,xs,tys⟩,ty,pos,af,none⟩::rest) n m:=
 IQ (Ψ:=True) i a c g hd (λh' o=>(j h' o).mono λ_ _ _ _ p=>⟨p.1,trivial⟩) λ_=>k
def IZ (i:CF m X=some (.func (.func f) first cap)) (a:xs.toList.mapM (CF m)=some args) (c:first.toList++args++cap.toList=vs) (g:BK P f=true) (hd:Nat.blt d n.1=true)
  (j:∀h',HS h h'→CA P f vs.toArray (λb=>b<h'.size) h' (λu S' l=>u=v∧Ψ∧Z S' l))
  (k:Ψ→QF P ops (Cl B h) Q rest n ((d,v)::m)):QF P ops (Cl B h) Q (⟨some d,.call ⟨.value X,xs,tys⟩,ty,pos,af,none⟩::rest) n m:=
 IQ i a c g hd (λh' o=>(j h' o).mono λ_ _ _ _ p=>⟨p.1,p.2.1⟩) k
end
def iq {n:Int}(h:(decide (-9223372036854775808≤n)&&decide (n≤9223372036854775807))=true):AA n:=by
 simp only[wI,wW] at h;exact h
def MB {n:Nat}(h:n≤maxLen):AA (n:Int):=by unfold maxLen at h;unfold AA;omega
section
variable {P:Program}{fn:Func}{B:World}{S S':Nat→Prop}{h h':A4}{post:Value→(Nat→Prop)→A4→Prop}{a:Act}{m:SM}{w:World}
def rtT {k t:Nat}{v:Value}(b:Fr (k,[]) a m) (c:Wd B h' w) (d:fn.results= #[.tmp t]) (g:lk m t=some v) (e:CX S h S' h') (kp:post v S' h'):Rt P fn B S h post a w:=rt1 b d g c e kp
end
abbrev XR:=(Nat→Prop)→AR
def wA (a:List Nat) (f:Nat→Option Value) (X:Nat→Prop):Prop:=∀s,s∈a→∀u,f s=some u→∀b,Rb u=some b→X b
def vL (R:AR) (As:List Nat) (i:Nat) (h:A4) (v:Value) (h':A4):Prop:=R i v h'∧(As.contains i=true→Ws h v)
def eE (P:Program) (ops:Array Oper) (Q:Exit→Act→World→Prop) (B:World) (n:FN) (m:SM) (h0:A4) (R:XR) (As:List Nat) (i:Nat) (o:Oper) (d:Nat) (c:List (Nat×Nat)):Prop:=
 ∀X mt h,HS h0 h→(∀b,X b→h0.size≤b∧b<h.size)→PA (R X) h (λfr=>match o.guard with
  |none=>LF P ops (Exit.then (KS B n d (vL (R X) As i h) h (fr++(m++mt))) Q) [o] B h n (fr++(m++mt))
  |some (j,b)=>∃a,HW ops j=some a∧((lk fr a=some (.bool b)∧LF P ops (Exit.then (KS B n d (vL (R X) As i h) h (fr++(m++mt))) Q) [{ o with guard:=none}] B h n (fr++(m++mt)))∨∃v,lk fr a=some v∧yb v≠some b∧R X i undef h)) c []
section
variable {P:Program}{ops:Array Oper}{Q:Exit→Act→World→Prop}
end
def UT (P:Program) (ops:Array Oper) (ks:List Nat) (n:FN) (m:SM) (h0:A4) (R:XR):List Nat→Prop
 |[]=>True
 |f::F=>((f<ops.size∧f∉ks)∧N2 ops f=true∧∃o d a,ops[f]? =some o∧o.dst=some d∧UU ops o a=true∧∀X,Qa P ops n m h0 (R X) f o a)∧UT P ops ks n m h0 R F
def UT.at_ {P:Program}{ops:Array Oper}{ks:List Nat}{n:FN}{m:SM}{h0:A4}{R:XR}:∀{F:List Nat},UT P ops ks n m h0 R F→∀f,f∈F→(f<ops.size∧f∉ks)∧N2 ops f=true∧∃o d b,ops[f]? =some o∧o.dst=some d∧UU ops o b=true∧∀X,Qa P ops n m h0 (R X) f o b
 |[],_,f,a=>by cases a
 |j::F,⟨c,i⟩,f,a=>by
  rcases wN.1 a with rfl|a
  ·exact c
  ·exact UT.at_ i f a
def UT.cons {P:Program}{ops:Array Oper}{ks:List Nat}{n:FN}{m:SM}{h0:A4}{R:XR}{f d:Nat}{o:Oper}{F:List Nat}(b:List (Nat×Nat)) (a:(Nat.blt f ops.size&& !ks.contains f&&N2 ops f)=true) (g:ops[f]? =some o) (hd:o.dst=some d) (c:UU ops o b=true) (i:∀X,Qa P ops n m h0 (R X) f o b) (t:UT P ops ks n m h0 R F):UT P ops ks n m h0 R (f::F):=by
 simp only[wI,xC] at a;exact⟨⟨⟨(by simpa [Nat.blt] using a.1.1:f+1≤ops.size),λh=>by rw[wS.2 h] at a;cases a.1.2⟩,a.2,o,d,b,g,hd,c,i⟩,t⟩
def No (P:Program) (ops:Array Oper) (Q:Exit→Act→World→Prop) (B:World) (n:FN) (m:SM) (h0:A4) (R:XR) (ks As:List Nat):Nat→List Oper→List (List (Nat×Nat))→Prop
 |i,o::l,a::pss=>(i∈ks∨match o.dst with|some d=>eE P ops Q B n m h0 R As i o d a|none=>False)∧No P ops Q B n m h0 R ks As (i+1) l pss
 |_,_,_=>True
section
variable {P:Program}{ops:Array Oper}{Q:Exit→Act→World→Prop}{B:World}{n:FN}{m:SM}{h0:A4}{R:XR}{ks As:List Nat}
def No.at_:∀{l:List Oper}{pss:List (List (Nat×Nat))}{k i:Nat}{o:Oper}{d:Nat},No P ops Q B n m h0 R ks As k l pss→l.length=pss.length→k+i∉ks→l[i]? =some o→o.dst=some d→∃a,pss[i]? =some a∧eE P ops Q B n m h0 R As (k+i) o d a
 |[],_,_,_,_,_,_,_,_,h,_=>by simp at h
 |_::_,[],_,_,_,_,_,c,_,_,_=>by simp at c
 |p::l,a::pss,k,0,o,d,g,c,j,b,hd=>by
  simp only[zI,xO] at b;subst b;simp only[No,hd] at g;exact⟨a,rfl,g.1.resolve_left j⟩
 |p::l,a::pss,k,i+1,o,d,g,c,j,b,hd=>by
  simp only[zJ] at b;obtain⟨q,s,t⟩:=No.at_ (l:=l) (pss:=pss) (k:=k+1) (i:=i) g.2 (by simpa using c) (by rw[show k+1+i=k+(i+1) by omega];exact j) b hd;rw[show k+(i+1)=k+1+i by omega];exact⟨q,by simpa using s,t⟩
def No.cons {i:Nat}{o:Oper}{l:List Oper}{c:List (Nat×Nat)}{pss:List (List (Nat×Nat))}{d:Nat}(hd:o.dst=some d) (g:As.contains i=false) (j:o.guard=none)
  (h:∀X mt h,HS h0 h→(∀b,X b→h0.size≤b∧b<h.size)→PA (R X) h (λfr=>LF P ops (Exit.then (KS B n d (R X i) h (fr++(m++mt))) Q) [o] B h n (fr++(m++mt))) c []) (t:No P ops Q B n m h0 R ks As (i+1) l pss):No P ops Q B n m h0 R ks As i (o::l) (c::pss):=by
 simp only[No,hd];refine⟨.inr λX mt p s u=>PA.imp (λfr k=>?_) _ _ (h X mt p s u),t⟩;rw[j];refine λa w x y=>Ig (λe a w q=>?_) _ a w (k a w x y);cases e<;>first|exact q|skip
 obtain⟨v,z,A,C,D,F⟩:=q;exact⟨v,z,A,C,D,F,λh=>by rw[g] at h;cases h⟩
def No.al {i:Nat}{l:List Oper}{pss:List (List (Nat×Nat))}{d T:Nat}{cs:List Value}{ty:TypeId}{a:String}{g:Array Edge}(j:∀X,R X i=TS h0 T cs) (k:FV P T=some cs) (hd:Nat.blt d n.1=true) (t:No P ops Q B n m h0 R ks As (i+1) l pss):No P ops Q B n m h0 R ks As i (⟨some d,.alloc T,ty,a,g,none⟩::l) ([]::pss):=by
 refine⟨.inr ?_,t⟩;intro X mt h o _;show LF P ops (Exit.then (KS B n d (vL (R X) As i h) h _) Q) _ B h n _
 refine PC (HS.refl h) k hd λv h' p r'=>B7 p ?_;obtain⟨b,e,c,q,s⟩:=r';have u:R X i v h':=by rw[j];exact⟨b,e,yI o.siz c,q,s⟩
 exact⟨u,λ_=>⟨b,by rw[e];rfl,c⟩⟩
def No.skip {i:Nat}{o:Oper}{l:List Oper}{a:List (Nat×Nat)}{pss:List (List (Nat×Nat))}(h:ks.contains i=true) (t:No P ops Q B n m h0 R ks As (i+1) l pss):No P ops Q B n m h0 R ks As i (o::l) (a::pss):=
 ⟨.inl (wS.1 h),t⟩
end
section
variable {P:Program}{ex:List (Nat×AP)}{RR N:AP}{cs:List Code}{B:World}{h:A4}{n:FN}{m m0:SM}{S:Nat→Prop}{L:List HP}
end
def SX (S:Nat→Prop) (h0 h:A4) (X:Nat→Prop):Nat→Prop:=λb=>SN S h0 h b∧¬X b
def SX.mono {S:Nat→Prop}{h0 h h':A4}{X c:Nat→Prop}(d:∀b,S b→b<h0.size) (g:HS h0 h) (j:HS h h') (u:∀b,X b→c b) (k:∀b,c b→X b∨h.size≤b):CX (SX S h0 h X) h (SX S h0 h' c) h':=by
 have e:=SN.mono d g j;refine⟨λb a=>⟨e.sub b a.1,λl=>?_⟩,λb a=>e.same b a.1,e.siz⟩;rcases k b l with i|i
 ·exact a.2 i
 ·have:b<h.size:=a.1.elim (λx=>wX (d b x) g.siz) (·.2);omega
def SX.lt {S:Nat→Prop}{h0 h:A4}{X:Nat→Prop}(a:∀b,S b→b<h0.size) (o:HS h0 h):∀b,SX S h0 h X b→b<h.size:=λb c=>c.1.elim (λx=>wX (a b x) o.siz) (·.2)
def nM {S:Nat→Prop}{L:List HP}{h0 h:A4}{X:Nat→Prop}(a:St S L h0) (o:HS h0 h):St (SX S h0 h X) [] h:=⟨SX.lt a.1 o,trivial⟩
def SX.ext {S:Nat→Prop}{h0 h:A4}{X:Nat→Prop}(a:∀b,S b→b<h0.size) (o:HS h0 h) (c:∀b,X b→h0.size≤b∧b<h.size):CX S h0 (SX S h0 h X) h:=
 ⟨λb x=>⟨.inl x,λd=>by have:=a b x;have:=(c b d).1;omega⟩,λb g=>o.same b (a b g),o.siz⟩
def SX.done {S i:Nat→Prop}{h0 h a:A4}{X:Nat→Prop}(o:HS h0 h) (k:∀b,X b→h0.size≤b∧b<h.size) (e:CX (SX S h0 h X) h i a) (j:St i [tU (SX S h0 h X) h] a):HS h a∧CX i a (SX S h0 a X) a:=by
 obtain⟨F,⟨l,m⟩,n,_⟩:=j.2;refine⟨⟨e.siz,λb c=>?_⟩,λb c=>?_,λ_ _=>rfl,wV _⟩
 ·rcases Classical.em (SX S h0 h X b) with q|q
  ·exact e.same b q
  ·exact m b ⟨c,q⟩
 ·rcases xB b h.size with q|q
  ·rcases Classical.em (SX S h0 h X b) with d|d
   ·exact⟨d.1.imp_right λx=>⟨x.1,j.1 b c⟩,d.2⟩
   ·exact absurd c (n b ((l b).2 ⟨q,d⟩)).2
  ·exact⟨.inr ⟨yI o.siz q,j.1 b c⟩,λp=>by have:=(k b p).2;omega⟩
def oI (S X:Nat→Prop) (h a:A4) (c:List Nat) (L:List HP):Prop:=(∀b,S b→b<h.size)∧HS h a∧(∀b,b∈c→(h.size≤b∧b<a.size)∧X b)∧Sp (SX S h a X) L a (λb=>(b<h.size∧¬S b)∨b∈c)
def oI.nil {S X:Nat→Prop}{L:List HP}{h d:A4}(a:St S L h) (o:HS h d) (i:∀b,X b→h.size≤b∧b<d.size):oI S X h d [] L:=
 ⟨a.1,o,λb j=>(by cases j),Sp.ext a.2 (λb x=>(SX.ext a.1 o i).sub b x) (λc g=>o.same c (g.elim (a.1 c) (·.1))) λc g=> .inl g⟩
def oI.cons {S X:Nat→Prop}{L:List HP}{h d:A4}{g:List Nat}{b T:Nat}{cs:List Value}(k:oI S X h d g L) (i:h.size≤b) (j:b<d.size) (l:d[b]? =some (.cells cs.toArray T (0,0))) (m:b∉g) (n:X b):oI S X h d (b::g) (Bx b T cs::L):=by
 obtain⟨o,p,q,s⟩:=k;refine⟨o,p,λc a=>?_,λc=>c=b,⟨λ_=>yC,l⟩,λc a=>by subst a;exact .inr (xL ..),s.mono λc a=>⟨a.imp_right (xP _),λe=>?_⟩⟩
 ·rcases wN.1 a with rfl|a
  ·exact⟨⟨i,j⟩,n⟩
  ·exact q c a
 ·subst e;rcases a with a|a
  ·have:=a.1;omega
  ·exact m a
def oI.st {S X:Nat→Prop}{L:List HP}{h b:A4}{j:List Nat}(k:oI S X h b j L):St (SX S h b X) L b:=by
 obtain⟨l,g,i,m⟩:=k;refine⟨SX.lt l g,m.mono λc a=>?_⟩;rcases a with a|a
 ·exact⟨wX a.1 g.siz,λd=>d.1.elim a.2 λx=>by omega⟩
 ·exact⟨(i c a).1.2,λd=>d.2 (i c a).2⟩
def wA.at_ {a:List Nat}{f:Nat→Option Value}{X:Nat→Prop}(k:wA a f X) {s b:Nat}{u:Value}(h:a.contains s=true) (e:f s=some u) (z:Rb u=some b):X b:=k s (wS.1 h) u e b z
def pL {α}(l:List α) (i:Int):Option (List α):=if 0≤i∧i≤l.length∧0<l.length then some (l.take i.toNat) else none
section
variable {P:Program}{ops:Array Oper}{C:World→Prop}{Q:Act→Prop}{n:FN}{m m':SM}{rest:List Oper}
variable {d:Nat}{ty:TypeId}{pos:String}{af:Array Edge}{X Y Z:Operand}{t:TypeId}{kd:IntKind}{v p:Value}{S:Nat→Prop}{h:A4}
def Sl.ne {α}{r:BX α}{l:List α}(k:Sl S h r v l) (h0:0<l.length):∃(b o cap:Nat),v= .slice (some ⟨b,o,none⟩) l.length cap∧l.length≤cap∧cap≤maxLen∧∀i x,l[i]? =some x→Pt S h r (.pointer (some ⟨b,o+i*r.sz,none⟩)) x:=by
 rcases k with ⟨_,rfl⟩|⟨a,cap,h1,h4,h5,h6⟩
 ·cases h0
 ·have c:=(h6 0 l[0] (by simp [h0])).1;obtain⟨b,o,g⟩:=a;simp only at c;subst c;exact⟨b,o,cap,h1,h4,h5,λi x d=>(h6 i x d).2⟩
def gA {α}{r:BX α}{e:TypeId}{l g:List α}{y:Int}(p:CF m X=some v) (q:CF m Y=some (.int kd y)) (k0:Sl S h r v l) (s:TI P t e r.sz=true) (a:pL l y=some g) (hd:Nat.blt d n.1=true)
  (k:∀u,Sl S h r u g→QF P ops C Q rest n ((d,u)::m)):QF P ops C Q (⟨some d,.slice t X none (some Y) none,ty,pos,af,none⟩::rest) n m:=by
 unfold pL at a;split at a
 ·rename_i w;obtain⟨D,F,z⟩:=w;cases a;obtain⟨b,o,cap,rfl,G,A,B⟩:=k0.ne z;refine XP p q (j:=y.toNat) (by omega) s (by omega) hd (k _ (.inr ⟨⟨b,o,none⟩,cap,?_,?_,A,λi x c=>⟨rfl,?_⟩⟩))
  ·rw[xT,Nat.min_eq_left (by omega)]
  ·rw[xT];omega
  ·rw[zR] at c;split at c
   ·exact B i x c
   ·cases c
 ·cases a
end
def tT {α}(r:BX α) (e:TypeId):List Value→List (List α)→List HP
 |u::a,l::b=>OS r e u l::tT r e a b
 |_,_=>[]
section
variable {α:Type}{r:BX α}{e T:TypeId}{v u:Value}{l:List α}{vs:List Value}{ll:List (List α)}{S F:Nat→Prop}{h:A4}{L L2:List HP}
def tT.pick:∀{vs:List Value}{ll:List (List α)}{i:Nat}{u:Value}{l:List α},vs[i]? =some u→ll[i]? =some l→
  ∃M,Q4 (tT r e vs ll) (OS r e u l) M∧∀c d,Q4 (tT r e (vs.set i c) (ll.set i d)) (OS r e c d) M
 |[],_,_,_,_,a,_=>by simp at a
 |_::_,[],_,_,_,_,b=>by simp at b
 |g::j,k::m,0,u,l,a,b=>by
  simp only[zI,xO] at a b;subst a;subst b;exact⟨_,.head,λ_ _=> .head⟩
 |g::j,k::m,i+1,u,l,a,b=>by
  simp only[zJ] at a b;obtain⟨M,p,q⟩:=tT.pick a b;exact⟨_,.tail p,λc d=> .tail (q c d)⟩
end
abbrev tL (a:Type):=(Nat→Prop)→A4→Value→a→Prop
def BX.fnr {α p:Type}(P:Program) (AR:Vz α) (k:tL p):BX (α→Option p) where
 sz:=1
 ag:=false
 rd:=λS h cs q=>∃(f:FuncId) (a:Array Value),cs=[.func (.func f) #[] a]∧BK P f=true∧∀(c:Nat→Prop) (h':A4),(∀b,S b→c b)→(∀b,S b→h'[b]? =h[b]?)→∀L,St c L h'→∀x y vs,AR c h' vs x→q x=some y→
  CA P f (vs++a.toList).toArray c h' (λv d g=>k d g v y∧St d L g)
 len:=λ⟨_,_,h,_⟩=>by rw[h];rfl
 one:=λ⟨_,_,h,_⟩ v j=>by rw[h] at j;simp at j;rw[j];rfl
 mono:=λ⟨f,a,l,m,n⟩ s e=>⟨f,a,l,m,λc h' s' o=>n c h' (λb i=>s' b (s b i)) λb i=>(o b (s b i)).trans (e b i)⟩
def Rd.fnr {α j:Type}{P:Program}{AR:Vz α}{i:tL j}{S h v}{l:α→Option j}(k:Rd S h (BX.fnr P AR i) v l):
  ∃(f:FuncId) (a:Array Value),v= .func (.func f) #[] a∧BK P f=true∧∀(g:Nat→Prop) (h':A4),(∀b,S b→g b)→(∀b,S b→h'[b]? =h[b]?)→∀L,St g L h'→∀x y vs,AR g h' vs x→l x=some y→
  CA P f (vs++a.toList).toArray g h' (λv c d=>i c d v y∧St c L d):=by
 obtain⟨_,rfl,f,a,rfl,h⟩:=k;exact⟨f,a,rfl,h⟩
end Go.Proofs.YtibidnaedddfdaaGreat
