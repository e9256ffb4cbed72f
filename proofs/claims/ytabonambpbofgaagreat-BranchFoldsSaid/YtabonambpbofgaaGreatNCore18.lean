import Derived.Test.YtabonambpbofgaaGreatNCore15
import Derived.Lib.Overlaps
import Derived.Lib.AppendZerosOnto
namespace Go.Proofs.YtabonambpbofgaaGreat
set_option linter.all false
open Go.RowKit
def Th (b o j:Nat):(⟨b,o,none⟩:Addr).add j=⟨b,o+j,none⟩:=by unfold Addr.add;split<;>simp_all
section
variable {S:Nat→Prop}{L:List HP}{h:AS}
def lN {α}{r:A5 α}{T:Nat}{v:Value}{l:List α}(c:St S (OS r T v l::L) h):((∃d,v= .slice d 0 0)∧l=[])∨
  ∃g cap cs,v= .slice (some ⟨g,0,none⟩) l.length cap∧l.length≤cap∧cap≤maxLen∧cs.length=cap*r.sz∧Me S h r (cs.take (l.length*r.sz)) l∧St S (Bx g T cs::L) h:=by
 obtain⟨F,k,i,j⟩:=c.2;rcases k with ⟨a,b,_⟩|⟨g,cap,cur,a,b,k3,k4,k5,k6,k7⟩
 ·exact .inl ⟨a,b⟩
 ·exact .inr ⟨g,cap,cur.toList,a,k4,k5,by simpa using k6,k7,c.1,F,⟨b,by simpa using k3⟩,i,j⟩
def St.bxosc {α}{r:A5 α}{b e cap:Nat}{cs:List Value}{l:List α}(c:St S (Bx b e cs::L) h) (d:l.length≤cap) (g:cap≤maxLen) (i:cs.length=cap*r.sz) (j:Me S h r (cs.take (l.length*r.sz)) l):
  St S (OS r e (.slice (some ⟨b,0,none⟩) l.length cap) l::L) h:=
 (c.upd (H':=OS r e (.slice (some ⟨b,0,none⟩) l.length cap) l) .head (Acr _) λF a _=>⟨F,.inr ⟨b,cap,cs.toArray,rfl,a.1,a.2,d,g,by simpa using i,by simpa using j⟩,λ_ k=> .inl k,λ_ _ _=>rfl⟩).1
def St.bxcell {b T:Nat}{cs:List Value}(a:St S L h) (c:Bx b T cs∈L):h[b]? =some (.cells cs.toArray T (0,0)):=by
 obtain⟨F,k,_⟩:=a.get c;exact k.2
end
section
variable {P:Program}{ops:Array Oper}{C:World→Prop}{Q:Act→Prop}{n:FN}{m m':SM}{rest:List Oper}
variable {d:Nat}{ty:TypeId}{pos:String}{af:Array Edge}{X Y Z:Operand}{t:TypeId}{kd:IntKind}{v p:Value}
def Nv {e sz:Nat}(b:O3 P t e sz=true):P.underlying t=some (.slice (P.elem t))∧∀w,(sizeOf (P.elem t)).run P w= .ok sz w:=by
 obtain⟨i,a,c,d,j⟩:=ML b;have g:P.elem t=e:=by simp [Program.elem,a]
 rw[g];exact⟨a,λw=>by simp [sizeOf,typeInfo,c,d]⟩
def uN {b o len cap e sz j:Nat}{y:Int}(i:B4 m X=some (.slice (some ⟨b,o,none⟩) len cap)) (l:B4 m Y=some (.int kd y)) (p:y=(j:Int)) (q:O3 P t e sz=true) (v:j≤len) (x:j<cap) (hd:Nat.blt d n.1=true)
  (k:QF P ops C Q rest n ((d,.slice (some ⟨b,o+j*sz,none⟩) (len-j) (cap-j))::m)):QF P ops C Q (⟨some d,.slice t X (some Y) none none,ty,pos,af,none⟩::rest) n m:=λa c=>by
 obtain⟨g,s⟩:=Nv q;subst p;refine GI c hd (λw _=>?_) k;have u:¬cap=j:=by omega
 simp [execOp,c.eval i,c.eval l,run_sliceAt_slice _ _ _ _ _ _ g,run_slice_l w t _ len cap g kd (j:Int) (by omega) (by omega),s,sliced,u,Th]
def Xl {b o len cap e sz j:Nat}{y:Int}(i:B4 m X=some (.slice (some ⟨b,o,none⟩) len cap)) (l:B4 m Y=some (.int kd y)) (p:y=(j:Int)) (q:O3 P t e sz=true) (v:j≤cap) (hd:Nat.blt d n.1=true)
  (k:QF P ops C Q rest n ((d,.slice (some ⟨b,o,none⟩) j cap)::m)):QF P ops C Q (⟨some d,.slice t X none (some Y) none,ty,pos,af,none⟩::rest) n m:=λa c=>by
 obtain⟨g,s⟩:=Nv q;subst p;refine GI c hd (λw _=>?_) k;have u:(⟨b,o,none⟩:Addr).add 0=⟨b,o,none⟩:=by rw[Th];rfl
 simp [execOp,c.eval i,c.eval l,run_sliceAt_slice _ _ _ _ _ _ g,run_slice_h w t _ len cap g kd (j:Int) (by omega) (by omega),s,sliced,u]
def ZG {c:Option Addr}{len cap e sz:Nat}{b:TypeId}(i:B4 m X=some (.slice c len cap)) (j:O3 P t e sz=true) (hd:Nat.blt d n.1=true) (k:QF P ops C Q rest n ((d,.int .i64 cap)::m)):
  QF P ops C Q (⟨some d,.call ⟨.builtin .cap,#[X],#[t]⟩,b,pos,af,none⟩::rest) n m:=λa g=>by
 obtain⟨l,o⟩:=Nv j;exact GI g hd (λw _=>by simp [execOp,resolve,invoke,builtin,g.eval i,run_cap_slice w t _ c len cap l,goInt]) k
end
section
variable {P:Program}{ops:Array Oper}{Q:Exit→Act→World→Prop}{n:FN}{m:SM}{rest:List Oper}
variable {d:Nat}{ty:TypeId}{pos:String}{af:Array Edge}{X Y:Operand}{B w:World}{h:AS}{S:Nat→Prop}{L L2:List HP}{v:Value}
def jJ {T l t2 e sz b o dl dc sl sc:Nat}{g:Addr}{cs a:List Value}(m:O3 P l e sz=true) (n:a.length=Nat.min sl dl*sz) (p:w.heap[b]? =some (.cells cs.toArray T (0,0)))
  (q:∀j u,a[j]? =some u→w.cell? (g.add j)=some u) (c:o+a.length≤cs.length) (s:∀u∈a,u.oneCell'=true):
  (Builtin.copy_ #[l,t2] ty #[.slice (some ⟨b,o,none⟩) dl dc,.slice (some g) sl sc]).run P w= .ok (goInt (Nat.min sl dl)) (w.setRow b (H7 cs o a).toArray):=by
 obtain⟨i,t,v,x,z⟩:=ML m;have y:=run_firstCells_some (P:=P) w sz (Nat.min sl dl) g sl sc a n q;have d:=run_storeCells_at P b o T a 0 cs.toArray w p (by simpa using c) s;have k:(List.take (o+0) cs.toArray.toList++a++List.drop (o+0+a.length) cs.toArray.toList)=H7 cs o a:=by simp [H7]
 rw[k] at d;simp [Builtin.copy_,run_underlying t,Builtin.lenOf,sizeOf,typeInfo,v,x,y,d]
end
def Me.take {α S h}{r:A5 α}:∀{l:List α}{cs},Me S h r cs l→∀i,Me S h r (cs.take (i*r.sz)) (l.take i)
 |[],_,k,i=>by have k:_=[]:=k;subst k;simp [Me]
 |x::l,_,⟨b,c,e,a,d⟩,0=>by simp [Me]
 |x::l,_,⟨b,c,e,a,d⟩,i+1=>by
  subst e;have g:=r.len a;refine⟨b,c.take (i*r.sz),?_,a,d.take i⟩;rw[Ad7,Nat.add_comm (i*r.sz),←g,List.take_append];rw[List.take_of_length_le (by omega),Nat.add_sub_cancel_left]
def Me.drop {α S h}{r:A5 α}:∀{l:List α}{cs},Me S h r cs l→∀i,Me S h r (cs.drop (i*r.sz)) (l.drop i)
 |[],_,k,i=>by have k:_=[]:=k;subst k;simp [Me]
 |x::l,_,⟨b,a,e,c,d⟩,0=>by subst e;rw[Nat.zero_mul];exact⟨b,a,rfl,c,d⟩
 |x::l,_,⟨b,a,e,c,d⟩,i+1=>by
  subst e;have g:=r.len c;have:(b++a).drop ((i+1)*r.sz)=a.drop (i*r.sz):=by
   rw[Ad7,Nat.add_comm (i*r.sz),←g,List.drop_append];rw[List.drop_of_length_le (by omega),Nat.add_sub_cancel_left,Acs]
  rw[this,List.drop_succ_cons];exact d.drop i
def Pr {α}(l xs:List α):List α:=xs.take l.length++l.drop xs.length
section
variable {P:Program}{ops:Array Oper}{Q:Exit→Act→World→Prop}{n:FN}{m:SM}{rest:List Oper}
variable {d:Nat}{ty:TypeId}{pos:String}{af:Array Edge}{X Y:Operand}{B w:World}{h:AS}{S:Nat→Prop}{L L2:List HP}{v:Value}
def jK {a t2 e sz dl dc sl sc:Nat}{db sb:Option Addr}(b:O3 P a e sz=true) (h0:Nat.min sl dl=0) (w:World):
  (Builtin.copy_ #[a,t2] ty #[.slice db dl dc,.slice sb sl sc]).run P w= .ok (goInt 0) w:=by
 obtain⟨i,c,d,j,k⟩:=ML b;have g:∀(x:Addr),(loadCells x 0).run P w= .ok #[] w:=λx=>by simpa using run_loadCells_list (P:=P) w x [] (by simp)
 cases db<;>cases sb<;>simp [Builtin.copy_,run_underlying c,Builtin.lenOf,Builtin.firstCells,sizeOf,typeInfo,d,h0,storeCells,g]
def Vi {α}{r:A5 α}{T Z t2 e:Nat}{s:Value}{l xs:List α}(hx:B4 m X=some v) (hy:B4 m Y=some s) (ht:O3 P Z e r.sz=true) (y:vQ S h r s xs) (hd:Nat.blt d n.1=true) (hs:St S L h) (rp:Mx L (OS r T v l) (OS r T v (Pr l xs)) L2)
  (k:∀h',St S L2 h'→CJ S h S h'→LF P ops Q rest B h' n ((d,.int .i64 (Nat.min xs.length l.length:Nat))::m)):LF P ops Q (⟨some d,.call ⟨.builtin .copy,#[X,Y],#[Z,t2]⟩,ty,pos,af,none⟩::rest) B h n m:=by
 intro a w G A;refine wpList_plain rfl λK hK=>?_;unfold Oper.wp;obtain⟨M,p,_⟩:=rp.pick;obtain⟨F,g1,g2,_⟩:=Sp.pick p hs.2;obtain⟨ad,cap,hv,ae⟩:=OS.len g1;have aa:∃sb sc,s= .slice sb xs.length sc:=by
  rcases y with ⟨h1,I⟩|⟨sd,sc,_,h1,_⟩
  ·exact⟨none,0,by rw[h1,I];rfl⟩
  ·exact⟨_,sc,h1⟩
 by_cases h0:Nat.min xs.length l.length=0
 ·obtain⟨sb,sc,ab⟩:=aa;have c:=jK (P:=P) (ty:=ty) (t2:=t2) (dl:=l.length) (dc:=cap) (sl:=xs.length) (sc:=sc) (db:=ad) (sb:=sb) ht h0 w;have C:(execOp a.eval ⟨some d,.call ⟨.builtin .copy,#[X,Y],#[Z,t2]⟩,ty,pos,af,none⟩).run P w= .ok (.value (goInt 0)) w:=by
   simp [execOp,resolve,invoke,builtin,G.eval hx,G.eval hy,hv,ab,c]
  rw[C];have e:Pr l xs=l:=by
   unfold Pr;have:xs.length=0∨l.length=0:=by simp only[Nat.min_def] at h0;split at h0<;>omega
   rcases this with h|h
   ·rw[Af7 h];simp
   ·rw[Af7 h];simp
  rw[e] at rp;have i:=hs.upd rp (Acr _) λF J _=>⟨F,J,λ_ D=> .inl D,λ_ _ _=>rfl⟩
  have:=k h i.1 i.2 _ _ (G.put hd _) A;rw[h0] at this;exact hK _ _ this
 ·rcases g1 with ⟨_,I,_⟩|⟨g,cap',cur,J,k2,k3,k4,k5,k6,k7⟩
  ·exact absurd (by rw[I];simp) h0
  ·rcases y with ⟨_,I⟩|⟨sd,sc,news,j1,_,j3,j4⟩
   ·exact absurd (by rw[I];simp) h0
   ·have hg:w.heap[g]? =some (.cells cur.toList.toArray T (0,0)):=by rw[A.heap];simpa using k3
    have ag:=j3.len;have z:(xs.take l.length).length=Nat.min xs.length l.length:=by rw[Adv];exact Nat.min_comm _ _
    have hN:=j3.take l.length;have t:=hN.len;rw[z] at t;have ah:Nat.min xs.length l.length*r.sz≤l.length*r.sz:=Ady _ (Nat.min_le_right _ _);have ai:l.length*r.sz≤cap'*r.sz:=Ady _ k4;have c:=jJ (P:=P) (ty:=ty) (t2:=t2) (b:=g) (o:=0) (dl:=l.length) (dc:=cap') (sl:=xs.length) (sc:=sc) (cs:=cur.toList) (T:=T) ht t hg (λj u hj=>by
     rw[MS,A.heap];exact j4 j u (by rw[Afy] at hj;split at hj;exact hj;cases hj)) (by simp;omega) (λu hu=>hN.one u hu)
    have C:(execOp a.eval ⟨some d,.call ⟨.builtin .copy,#[X,Y],#[Z,t2]⟩,ty,pos,af,none⟩).run P w= .ok (.value (goInt (Nat.min xs.length l.length))) (w.setRow g (H7 cur.toList 0 (news.take (l.length*r.sz))).toArray):=by
     simp [execOp,resolve,invoke,builtin,G.eval hx,G.eval hy,J,j1,c]
    rw[C];obtain⟨h',e1,e2,e3,e4⟩:=Qs w g cur (H7 cur.toList 0 (news.take (l.length*r.sz))).toArray T (by simpa using hg);rw[A.heap] at e2 e4;have U:(Pr l xs).length=l.length:=by unfold Pr;rw[Ac6,z,Aex];simp only[Nat.min_def];split<;>omega
    have i:=hs.upd rp (h':=h') (by omega) λF1 H m2=>by
     rcases H with ⟨H,m3,m4⟩|⟨g',c',cur',H,q2,q3,_⟩
     ·refine⟨F1,.inl ⟨H,by rw[m3];simp [Pr],m4⟩,λ_ D=> .inl D,λV _ W=>?_⟩;by_cases e:V=g
      ·subst e;rw[e3,k3,m3];simp [H7]
      ·exact e4 V e
     ·rw[J] at H;injection H with q _ _
      injection q with q
      injection q with q _ _
      subst q;refine⟨F1,.inr ⟨g,cap',_,by rw[U];exact J,q2,e3,by omega,k5,?_,?_⟩,λ_ D=> .inl D,λV _ W=>e4 V λe=>W ((q2 V).2 e)⟩
      ·simp only[H7,Ad8,Acs,Afj,Ac6,Aex,Array.length_toList,t];omega
      ·rw[U];have ac:(H7 cur.toList 0 (news.take (l.length*r.sz))).take (l.length*r.sz)=news.take (l.length*r.sz)++(cur.toList.take (l.length*r.sz)).drop (xs.length*r.sz):=by
        simp only[H7,Ad8,Acs,Adj];rw[List.take_append];rw[List.take_of_length_le (by omega)];congr 1;rw[t];by_cases hc:xs.length≤l.length
        ·have:Nat.min xs.length l.length=xs.length:=Ae3 hc;rw[this,List.drop_take]
        ·have:Nat.min xs.length l.length=l.length:=Nat.min_eq_right (by omega);have hm:l.length*r.sz≤xs.length*r.sz:=Ady _ (by omega);rw[this,Nat.sub_self,Ad8,List.drop_of_length_le (by simp;omega)]
       show Me S h' r (List.take (l.length*r.sz) (H7 cur.toList 0 (news.take (l.length*r.sz)))) (Pr l xs)
       rw[ac];exact(hN.append (k7.drop xs.length)).mono (λ_ x=>x) λb D=>e4 b λe=>(m2 g ((q2 g).2 rfl)).2 (e▸D)
    exact hK _ _ (k h' i.1 i.2 _ _ (G.put hd _) ⟨e1,A.os,A.tape,A.out⟩)
end
def SZ.head {b:Array Oper}{d:Nat}{ks:List Nat}{a:Array Bool}(c:SZ b (d::ks) a) (u:d∈Region.ready .any b a) (k:d∉ks):SZ b ks (a.setIfInBounds d true):=by
 obtain⟨_,oi,l,g⟩:=mem_ready.1 u;refine⟨by simp [c.size],λj m n o e p q=>?_,λt s=>by rw[getD_set_ne true (λe:d=t=>k (by rw[e];exact s))];exact c.tail t (Adi _ s)⟩;by_cases i:d=j
 ·subst i;have:m=oi:=Acg (n.symm.trans l);subst this;exact getD_set_true (g e p q)
 ·rw[getD_set_ne false i] at o;exact getD_set_true (c.closed j m n o e p q)
def O6 (n:Nat) (ks G:List Nat):List Nat:=(List.range n).filter λi=> !ks.contains i&& !G.contains i
def oJ (a:Array Oper) (b:Nat) (ks F G:List Nat):Bool:=
 (b::ks).all (λt=>Nat.blt t a.size)&&decide (b::ks).Nodup&&TC a (b::ks) (F++G)&&RJ a (b::ks)&&Ps a (b::ks)&&RM a&&Region.noSelect a&&(ks.isEmpty||TC a ks (O6 a.size ks G))&&Ps a ks&&(G.all λi=> !(b::ks).contains i)&&
 F.all λf=> !G.contains f&&match a[f]? with|some o=>o.after.all λe=> !Region.binds .any e||(Nat.blt e.on a.size&& !(b::ks).contains e.on&& !(F++G).contains e.on)|none=>false
def Aai (P:Program) (l:List Oper) (Q:Exit→Act→World→Prop) (B:World) (n:FN) (c:SM) (o b:AS) (R:AR) (ks G:List Nat):Prop:=
 ∃(a:AR) (pss:List (List (Nat×Nat))) (g:List (Nat×Nat)) (j:List Oper) (k:List Nat),c.map (·.1)=k∧
  U5 l.toArray (ks++O6 l.length ks G) n k=true∧U3 l.toArray (ks++O6 l.length ks G) l pss=true∧
  ((l.zip pss).zipIdx.all λp=>(ks++O6 l.length ks G).contains p.2||p.1.2.all λq=> !(O6 l.length ks G).contains q.1)=true∧
  (g.all λp=>Nat.blt p.1 l.length&& !(ks++O6 l.length ks G).contains p.1&&(IQ l.toArray p.1).any (Nat.beq p.2 ·))=true∧(ks.filterMap λt=>l[t]?)=j∧
  (∀i,i∈G→∀v,R i v o→a i v b)∧(∀i v d m,EY b d→EY d m→a i v d→a i v m)∧
  FX P l.toArray Q B n c b a (ks++O6 l.length ks G) [] ZB.none 0 l pss∧
  ∀h',EY b h'→PA a h' (λfr=>LF P l.toArray Q j B h' n (fr++c)) g []
def Aai.run {P:Program}{l:List Oper}{Q:Exit→Act→World→Prop}{B:World}{n:FN}{m2:SM}{Z q:AS}{R:AR}{g:Nat}{ks F G:List Nat}(k:Aai P l Q B n m2 Z q R ks G) (hc:oJ l.toArray g ks F G=true) (hQ:∀c a w,¬Q (.panic c) a w)
  {s:Nat} {b:Array Bool} {a a2:Act} {w2:World} (hu:XB b=s+1) (I:SZ l.toArray (g::ks) b) (hr:g∈Region.ready .any l.toArray b) (hl:∀i,i<l.toArray.size→i∉g::ks→i∉G→b.getD i false=true)
  (g4:∀i,i∉g::ks→b.getD i false=true→∃d v,IQ l.toArray i=some d∧a.tmps[d]? =some v∧R i v Z) (hw:Wd B q w2) (J:Fr n a2 m2) (K:∀(i:Nat) (u:Value),a.tmps[i]? =some u→a2.tmps[i]? =some u):
  wpAny P .any l.toArray Q s (b.setIfInBounds g true) a2 w2:=by
 obtain⟨R2,pss,fs,ls,ms,rfl,q1,D,q3,q4,q5,q6,q7,q8,q9⟩:=k;simp only[oJ,Acj,Ac1] at hc;obtain⟨⟨⟨⟨⟨⟨⟨⟨⟨⟨c1,c2⟩,c3⟩,c4⟩,c5⟩,c6⟩,c7⟩,c8⟩,c9⟩,aa⟩,af⟩:=hc;have A:=Aet.1 c2;have M:l.length=pss.length:=by
  simp only[U3,Acj] at D;exact Aco D.1
 have ab:g<l.toArray.size:=by have:=Acm.1 c1 g (Ac4 ..);simp [Nat.blt] at this ⊢;omega
 have ac:=I.size;have U:(b.setIfInBounds g true).getD g false=true:=by
  have:g<b.size:=by omega
  simp [this]
 have ad:∀i,i∈O6 l.length ks G→(b.setIfInBounds g true).getD i false=true:=λi j=>by
  unfold O6 at j;obtain⟨Z,q⟩:=Ads.1 j;simp only[Acj,Ada] at q;by_cases e:g=i
  ·subst e;exact U
  ·refine getD_set_true (hl i (by simpa using Adf.1 Z) (λh=>?_) λh=>by rw[Acp.2 h] at q;cases q.2);rcases Acl.1 h with h|h
   ·exact e h.symm
   ·rw[Acp.2 h] at q;cases q.1
 refine Ww (R:=R2) (B:=B) (h0:=q) (n:=n) (m:=m2) ks (O6 l.length ks G) [] ZB.none vX.none (λz H=>by cases H) (λi j=>by cases j) (λt ht=>?_) A.2 c6 [] [] (.inl rfl) ?_ ?_ c9 c7 hQ (λf J=>by cases J) (λf J=>by cases J) q1 q7 (λi j=>by cases j) (λi o d j ho hd=>?_) (λa w h' g1 g2 g3 g4 _ _=>?_) (.inl rfl) s _ _ _ ?_ (I.head hr A.1) ad ⟨⟨q,hw,EY.refl q,J,λi j y=>?_⟩,λi j=>(by cases j),λz H=>(by cases H)⟩
 ·have:=Acm.1 c1 t (Adi _ ht);simp [Nat.blt] at this ⊢;omega
 ·rw[Ac5] at c8;refine c8.imp (λe=>by cases ks with|nil=>rfl|cons _ _=>simp at e) λx=>?_;rw[Acs,Acs];simpa using x
 ·have:=M6 c4;cases ks with
  |nil=>trivial
  |cons t r=>exact this.2
 ·have V:l[i]? =some o:=by simpa using ho
  obtain⟨ps,p1,p2⟩:=FX.at_ (k:=0) q8 M (by rw[Adj];exact j) V hd;rw[Adj] at p2;have H:((o,ps),i)∈(l.zip pss).zipIdx:=by
   rw[Aek];exact⟨i,by rw[List.getElem?_zipIdx,(Af8 (z:=(o,ps))).2 ⟨V,p1⟩];simp⟩
  refine⟨ps,?_,λp hp h=>?_,p2⟩
  ·simp only[U3,Acj] at D;have:=Acm.1 D.2 _ H;rw[Ac5] at this;exact this.resolve_left λh=>j (Acp.1 h)
  ·have:=Acm.1 q3 _ H;rw[Ac5] at this;have:=Acm.1 (this.resolve_left λh=>j (Acp.1 h)) p hp;rw[Acp.2 h] at this;cases this
 ·obtain⟨fr,g,k2⟩:=NP (a:=a) (n:=n) _ _ (q9 h' g2) (λp hp=>by
   have e:=Acm.1 q4 p hp;simp only[Acj,Ada] at e;have e1:p.1<l.toArray.size:=by have:=e.1.1;simp [Nat.blt] at this ⊢;omega
   obtain⟨d,v,q1,D,q3⟩:=g4 p.1 e1 (λh=>by rw[Acp.2 h] at e;cases e.1.2);have e2:=e.2;rw[q1] at e2;have:p.2=d:=Aco (by simpa using e2);exact⟨v,by rw[this];exact D,q3⟩) ⟨g3.dfr,g3.siz,λi v j=>by simp [lk] at j⟩
  have W:(ks.filterMap λt=>l.toArray[t]?)=ls:=by rw[←q5];congr 1;funext t;simp
  rw[W];exact g a w (k2.append g3) g1
 ·have:=Pj (mem_ready.1 hr).1;omega
 ·have X:g≠i:=λe=>by
   subst e;refine j (Afm _ (Ads.2 ⟨Adf.2 (by simpa using ab),?_⟩));simp only[Acj,Ada];refine⟨?_,?_⟩
   ·cases C:ks.contains g with
    |true=>exact absurd (Acp.1 C) A.1
    |false=>rfl
   ·cases C:G.contains g with
    |true=>
     have:=Acm.1 aa g (Acp.1 C);simp at this
    |false=>rfl
  rw[getD_set_ne false X] at y;have Y:i∉ks:=λh=>j (Aef _ h);have ae:i<l.length:=by
   rcases Acy i b.size with h|h
   ·rw[ac] at h;simpa using h
   ·rw[Aea,Afu h] at y;cases y
  have hG:i∈G:=by
   apply Afc;intro hG;refine j (Afm _ (Ads.2 ⟨Adf.2 ae,?_⟩));simp only[Acj,Ada];exact⟨by cases C:ks.contains i with|true=>exact absurd (Acp.1 C) Y|false=>rfl,by cases C:G.contains i with|true=>exact absurd (Acp.1 C) hG|false=>rfl⟩
  obtain⟨d,v,p1,p2,p3⟩:=g4 i (λh=>(Acl.1 h).elim (λe=>X e.symm) Y) y;exact⟨d,v,p1,K _ _ p2,q6 i hG v p3⟩
def Aah {P:Program}{l:List Oper}{Q:Exit→Act→World→Prop}{B:World}{n:FN}{z:SM}{A j:AS}{R:AR}{o:Nat}{ks G:List Nat}(k:Aai P l Q B n z A j R ks G) (K:o<l.length) (q:o∉G)
  {a b:Act} {s:World} (M:∀i,i<l.length→i∉o::ks→∃d v,IQ l.toArray i=some d∧a.tmps[d]? =some v∧R i v A) (U:Wd B j s) (w:Fr n b z) (c:∀(i:Nat) (u:Value),a.tmps[i]? =some u→b.tmps[i]? =some u):
  wpList P l.toArray Q (ks.filterMap λt=>l[t]?) b s:=by
 obtain⟨R2,pss,fs,ls,ms,rfl,C,D,F,V,W,X,q7,q8,Y⟩:=k;obtain⟨fr,x,Z⟩:=NP (a:=b) (n:=n) _ _ (Y j (EY.refl j)) (λp hp=>by
  have e:=Acm.1 V p hp;simp only[Acj,Ada] at e;have H:p.1<l.length:=by have:=e.1.1;simp [Nat.blt] at this ⊢;omega
  have I:p.1∉ks++O6 l.length ks G:=λh=>by rw[Acp.2 h] at e;cases e.1.2
  have g:p.1∉ks:=λh=>I (Aef _ h);have m:p.1∈G:=by
   apply Afc;intro m;refine I (Afm _ (Ads.2 ⟨Adf.2 H,?_⟩));simp only[Acj,Ada];exact⟨by cases y:ks.contains p.1 with|true=>exact absurd (Acp.1 y) g|false=>rfl,by cases y:G.contains p.1 with|true=>exact absurd (Acp.1 y) m|false=>rfl⟩
  obtain⟨d,v,C,D,F⟩:=M p.1 H (λh=>(Acl.1 h).elim (λe=>q (e▸m)) g);have J:=e.2;rw[C] at J;have:p.2=d:=Aco (by simpa using J);exact⟨v,by rw[this];exact c _ _ D,X _ m v F⟩) ⟨w.dfr,w.siz,λi v hi=>by simp [lk] at hi⟩
 rw[W];exact x b s (Z.append w) U
section
variable {P:Program}{ex:List (Nat×AP)}{RR N:AP}{cs:List Code}{B:World}{h:AS}{n:FN}{m m0:SM}{S:Nat→Prop}{L:List HP}
end
def P8 (L:List HP):HP where
 holds:=λS F h=>Sp S L h F
 loc:=λk s e=>Sp.ext k s e λ_ x=>x
def vD (l:Nat) (r:Loop):HP where
 holds:=λ_ F h=>(∀b,F b↔b=l)∧h[l]? =some (.loop r)
 loc:=λ⟨a,c⟩ _ e=>⟨a,(e l (.inr ((a l).2 rfl))).trans c⟩
def Sp.app {S:Nat→Prop}{h:AS}:∀{L1 L:List HP}{A:Nat→Prop},Sp S (L1++L) h A→∃F,Sp S L1 h F∧(∀b,F b→A b)∧Sp S L h (λb=>A b∧¬F b)
 |[],L,A,k=>⟨λ_=>False,trivial,λ_ x=>x.elim,k.mono λb a=>⟨a,λx=>x⟩⟩
 |H::L1,L,A,⟨F,d,g,i⟩=>by
  obtain⟨G,j,c,l⟩:=Sp.app i;refine⟨λb=>F b∨G b,⟨F,d,λb a=> .inl a,j.mono λb a=>⟨.inr a,(c b a).2⟩⟩,λb a=>a.elim (g b) λx=>(c b x).1,l.mono λb a=>⟨a.1.1,λx=>x.elim a.1.2 a.2⟩⟩
def Sp.app2 {S:Nat→Prop}{h:AS}:∀{L1 L:List HP}{A F:Nat→Prop},Sp S L1 h F→(∀b,F b→A b)→Sp S L h (λb=>A b∧¬F b)→Sp S (L1++L) h A
 |[],L,A,F,_,_,k=>k.mono λb a=>a.1
 |H::L1,L,A,F,⟨G,d,c,g⟩,i,k=>⟨G,d,λb a=>i b (c b a),Sp.app2 g (λb a=>⟨i b a.1,a.2⟩) (k.mono λb a=>⟨⟨a.1,λx=>a.2 (c b x)⟩,λx=>a.2 x.1⟩)⟩
section
variable {S:Nat→Prop}{L L1 M:List HP}{h:AS}{H:HP}
def Yz (a:St S (L1++L) h):St S (P8 L1::L) h:=by
 obtain⟨F,b,c,d⟩:=Sp.app a.2;exact⟨a.1,F,b,c,d⟩
def St.unpack (a:St S (P8 L1::L) h):St S (L1++L) h:=by
 obtain⟨F,b,c,d⟩:=a.2;exact⟨a.1,Sp.app2 b c d⟩
def TO:∀{M:List HP},P7 (M++H::L) H (M++L)
 |[]=> .head
 |K::M=> .tail TO
def St.mid (a:St S (H::(M++L)) h):St S (M++H::L) h:=⟨a.1,N5 TO a.2⟩
def St.unmid (a:St S (M++H::L) h):St S (H::(M++L)) h:=⟨a.1,Sp.pick TO a.2⟩
def St.rec {l:Nat}{r r':Loop}(d:St S (vD l r::L) h):h[l]? =some (.loop r)∧St S (vD l r'::L) (h.setIfInBounds l (.loop r'))∧CJ S h S (h.setIfInBounds l (.loop r')):=by
 obtain⟨F,k,_⟩:=d.get (Ac4 ..);have a:l<h.size:=(Ade.1 k.2).1;refine⟨k.2,d.upd (H':=vD l r') .head (by simp) λF g _=>⟨F,⟨g.1,by simp [a]⟩,λ_ c=> .inl c,λb _ c=>?_⟩⟩;have:b≠l:=λe=>c ((g.1 b).2 e);simp [Afx (Ne.symm this)]
end
def Wd.putObj {B w:World}{h:AS}(k:Wd B h w) (l:Nat) (o:Obj):Wd B (h.setIfInBounds l o) (w.putObj l o):=⟨by show w.heap.setIfInBounds l o=_;rw[k.heap],k.os,k.tape,k.out⟩
abbrev Vr (a:Type):=(Nat→Prop)→AS→List Value→a→Prop
def YC {j σ:Type}(P:Program) (g:Value) (Y:Bool→σ→HP) (AR:Vr j) (d:j→σ→Option (Bool×σ)) (i:Nat→Prop) (h0:AS):Prop:=
 ∃l,g= .func (.yield l) #[] #[]∧∀(x:j) (s:σ) (out:Bool×σ),d x s=some out→∀(S:Nat→Prop) (L:List HP) (h:AS) (vs:List Value) (B w:World),CJ i h0 S h→St S (Y true s::L) h→AR S h vs x→Wd B h w→
  ∃fn b a c,(Instr.yield l vs.toArray).run P w= .ok (.round l fn b a c) w∧
   RoundIn Fence.wide 0 P l fn b a c w (λe w'=>∃S' h',e= .returned (.bool out.1)∧Wd B h' w'∧CJ S h S' h'∧St S' (Y out.1 out.2::L) h')
def YC.mono {n σ:Type}{P:Program}{b:Value}{Y:Bool→σ→HP}{AR:Vr n}{a:n→σ→Option (Bool×σ)}{c d:Nat→Prop}{h0 g:AS}(k:YC P b Y AR a c h0) (e:CJ c h0 d g):YC P b Y AR a d g:=by
 obtain⟨l,i,k⟩:=k;exact⟨l,i,λx s out j S L h vs B w m=>k x s out j S L h vs B w (e.trans m)⟩
def YL (P:Program) (ops:Array Oper) (Q:Exit→Act→World→Prop) (l:List Oper) (B:World) (h:AS) (n:FN) (m:SM):Prop:=∀a w,Fr n a m→Wd B h w→wpListIn (FF none) 0 P ops Q l a w
def jM {P:Program}{l:Nat}{f:FuncId}{b:Array Value}{a d:Code}{w:World}{R:Ending→World→Prop}{g:Option Nat}{n i:Nat}(h:RoundIn Fence.wide n P l f b a d w R):RoundIn (FF g) i P l f b a d w R:=
 ⟨SG g f,λc cs _=>by rw[Rx];exact h.2 c cs (room_wide _)⟩
section
variable {P:Program}{ex:List (Nat×AP)}{R N:AP}{cs:List Code}{B:World}{h:AS}{n:FN}{m m':SM}{S:Nat→Prop}{L:List HP}
end
section
variable {P:Program}{ops:Array Oper}{Q:Exit→Act→World→Prop}{n:FN}{m m':SM}{rest l:List Oper}{B:World}{h:AS}{S:Nat→Prop}{L:List HP}
def Qf (g:∀a w,¬Q .outgrown a w):∀(k:Nat) (l:List Oper) (a:Act) (w:World),wpList P ops (Exit.then (wpListIn (FF none) 0 P ops Q (l.drop k)) Q) (l.take k) a w→wpListIn (FF none) 0 P ops Q l a w
 |0,l,a,w,h=>by simpa [wpList,Exit.then] using h
 |k+1,[],a,w,h=>by simpa [wpList,Exit.then] using h
 |k+1,o::l,a,w,h=>by
  simp only[List.take_succ_cons,List.drop_succ_cons] at h;unfold wpList at h;unfold wpListIn;split
  ·rename_i i;rw[Acf i] at h;have b:=h.imp (Oper.wp_mono λa w p=>Qf g k l a w p) id;refine rE (.inl rfl) g ?_;rcases b with b|⟨_,j,m,h2⟩
   ·refine .inl ?_;unfold Oper.wp at b ⊢;generalize (execOp a.eval o).run P w=r at b
    cases r with
    |ok q w'=>
     cases q<;>simp only[Oper.upon] at b ⊢
     case value v=>exact b
     case skip=>exact b
     case defer d=>exact b
     case enter f args=>
      refine b.mono λe s n=>?_;cases e with
      |returned v=>exact n
      |panicked c=>exact n
      |outgrown=>obtain⟨j,m,h0⟩:=n;exact⟨j,m,h0⟩
     case row r args=>exact b
    |halt x w'=>cases x<;>simp only[Oper.upon] at b ⊢;exact b
   ·exact absurd h2 (g j m)
  ·rename_i i;rw[Ace i] at h;exact⟨λf _=>SG none f,Qf g k l _ w h⟩
def Ab5 {C:World→Prop}(k:YL P ops Q l B h n m):QF P ops C (λa=>∀w,Wd B h w→wpListIn (FF none) 0 P ops Q l a w) [] n m:=λa b w c=>k a w b c
def Ab3 (j:Nat) (b:∀a w,¬Q .outgrown a w) (k:LF P ops (Exit.then (wpListIn (FF none) 0 P ops Q (l.drop j)) Q) (l.take j) B h n m):YL P ops Q l B h n m:=λa w c d=>Qf b j l a w (k a w c d)
def Ab7 (k:YL P ops Q l B h n m):LF P ops (Exit.then (wpListIn (FF none) 0 P ops Q l) Q) [] B h n m:=λa w b c=>k a w b c
def YL.nil {ex:List (Nat×AP)}{R N:AP}{cs:List Code}(b:Un m m') (k:WF P ex R cs N B h n m'):YL P ops (Qx ex R (W P ex R cs N)) [] B h n m:=λa w c d=>k a w (c.sub b) d
def YL.gy {o:Oper}{j e:Nat}{b:Bool}(g:o.guard=some (j,b)) (i:(ops[j]?).bind (·.dst)=some e) (l:lk m e=some (.bool b)) (k:YL P ops Q ({ o with guard:=none}::rest) B h n m):YL P ops Q (o::rest) B h n m:=by
 intro a w d p;have q:Region.wanted o (yielded ops a.tmps)=true:=by
  have:=d.at_ e _ l;simp [Region.wanted,g,yielded,i,this]
 have c:=k a w d p;unfold wpListIn at c ⊢;rw[Acf (by simp [Region.wanted])] at c;rw[Acf q];exact c
def YL.gn {o:Oper}{j e d:Nat}{b:Bool}(g:o.guard=some (j,!b)) (i:(ops[j]?).bind (·.dst)=some e) (l:lk m e=some (.bool b)) (p:o.dst=some d) (hd:Nat.blt d n.1=true) (k:YL P ops Q rest B h n ((d,undef)::m)):YL P ops Q (o::rest) B h n m:=by
 intro a w c q;have s:Region.wanted o (yielded ops a.tmps)=false:=by
  have:=c.at_ e _ l;cases b<;>simp [Region.wanted,g,yielded,i,this]
 unfold wpListIn;rw[Ace (by rw[s];exact Bool.false_ne_true),p];exact⟨λf _=>SG none f,k _ w (c.put hd _) q⟩
def Abf {α σ:Type}{A:Value}{Y:Bool→σ→HP}{AR:Vr α}{i:α→σ→Option (Bool×σ)}{C:Nat→Prop}{h0:AS}{X:Operand}{xs:Array Operand}{b:Array TypeId}{vs:List Value}{d:Nat}{ty:TypeId}{c:String}{q:Array Edge}{x:α}{s:σ}{out:Bool×σ}
  (t:YC P A Y AR i C h0) (D:B4 m X=some A) (u:xs.toList.mapM (B4 m)=some vs) (F:i x s=some out) (G:CJ C h0 S h) (H:St S (Y true s::L) h) (I:AR S h vs x) (hd:Nat.blt d n.1=true)
  (k:∀S' h',CJ S h S' h'→St S' (Y out.1 out.2::L) h'→YL P ops Q rest B h' n ((d,.bool out.1)::m)):YL P ops Q (⟨some d,.call ⟨.value X,xs,b⟩,ty,c,q,none⟩::rest) B h n m:=by
 intro a w v J;obtain⟨l,rfl,t⟩:=t;obtain⟨fn,j,g,o,K,M⟩:=t x s out F S L h vs B w G H I J;unfold wpListIn;rw[Acf (by simp [Region.wanted])];refine⟨λf _=>SG none f,?_⟩;have p:(execOp a.eval ⟨some d,.call ⟨.value X,xs,b⟩,ty,c,q,none⟩).run P w= .ok (.round l fn j g o) w:=by
  have U:=v.eval D;have V:=Yl v u;simp [execOp,resolve,Deferred.ofValue,invoke,U,V,K]
 have z:(⟨some d,.call ⟨.value X,xs,b⟩,ty,c,q,none⟩:Oper).semAt (FF none).round a.eval=execOp a.eval ⟨some d,.call ⟨.value X,xs,b⟩,ty,c,q,none⟩:=rfl;rw[z,p];refine⟨λhd=>(by rw[Tt] at hd;cases hd),jM (RoundIn.mono M λe w' W=>?_)⟩;obtain⟨S',h',rfl,Z,r2,r3⟩:=W;exact k S' h' r2 r3 _ w' (v.put hd _) Z
end
section
variable {P:Program}{ex:List (Nat×AP)}{R N:AP}{cs:List Code}{B:World}{h:AS}{k:Nat}{Ds:List Nat}{m:SM}{S:Nat→Prop}{L:List HP}
end
def Pu (p:Prop):HP where
 holds:=λ_ F _=>p∧∀b,¬F b
 loc:=λk _ _=>k
section
variable {S:Nat→Prop}{L:List HP}{h:AS}
def oW {p:Prop}(a:St S (Pu p::L) h):p∧St S L h:=by
 obtain⟨F,k,_⟩:=a.get (Ac4 ..);exact⟨k.1,a.drop .head⟩
def VW {p:Prop}(a:St S L h) (k:p):St S (Pu p::L) h:=(a.add (H':=Pu p) (Acr _) (λ_ _=>rfl) ⟨λ_=>False,⟨k,λ_ x=>x⟩,λ_ x=>x.elim⟩).1
end
section
variable {P:Program}{ops:Array Oper}{Q:Exit→Act→World→Prop}{n:FN}{m m':SM}{rest l:List Oper}{B:World}{h:AS}{S:Nat→Prop}{L:List HP}
def Ab2 {A σ:Type}{k:Value}{Y:Bool→σ→HP}{AR:Vr A}{b:A→σ→Option (Bool×σ)}{l:Nat→Prop}{h0:AS}{X:Operand}{xs:Array Operand}{g:Array TypeId}{vs:List Value}{d:Nat}{ty:TypeId}{i:String}{o:Array Edge}{x:A}{s:σ}{out:Bool×σ}
  (p:YC P k Y AR b l h0) (q:B4 m X=some k) (j:xs.toList.mapM (B4 m)=some vs) (t:b x s=some out) (u:CJ l h0 S h) (a:St S (Y true s::L) h) (v:AR S h vs x) (hd:Nat.blt d n.1=true)
  (w:out.1=true→∀S' h',CJ S h S' h'→St S' (Y true out.2::L) h'→YL P ops Q rest B h' n ((d,.bool true)::m))
  (z:out.1=false→∀S' h',CJ S h S' h'→St S' (Y false out.2::L) h'→YL P ops Q rest B h' n ((d,.bool false)::m)):YL P ops Q (⟨some d,.call ⟨.value X,xs,g⟩,ty,i,o,none⟩::rest) B h n m:=
 Abf p q j t u a v hd λS' h' e a=>by
  cases c:out.1 with
  |true=>rw[c] at a;exact w c S' h' e a
  |false=>rw[c] at a;exact z c S' h' e a
end
section
variable {P:Program}{fn:Func}{B:World}{S S':Nat→Prop}{h h':AS}{post:Value→(Nat→Prop)→AS→Prop}{a:Act}{m:SM}{w:World}{L:List HP}
end
end Go.Proofs.YtabonambpbofgaaGreat
