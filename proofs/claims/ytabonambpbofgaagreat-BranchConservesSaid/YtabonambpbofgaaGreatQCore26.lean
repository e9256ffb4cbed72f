import Derived.Test.YtabonambpbofgaaGreatQCore15
import Derived.Lib.Overlaps
import Derived.Lib.AppendZerosOnto
import Derived.Maps.RangeRun
namespace Go.Proofs.YtabonambpbofgaaGreat
set_option linter.all false
open Go.RowKit
variable {b d dc g j k o sc t2:Nat}{y:Int}{db:Option Addr}{G is ks:List Nat}{m m2:SM}{n:FN}{B w:World}{P:Program}{r':Loop}{h h' h0:AV}{S S' S2 c:Nat->Prop}{C:World->Prop}{cs:List Code}{N:AP}{cs' vs:List Value}{xs:Array Operand}{U V X:Operand}{A u:Value}{L:List HP}{kc:IntKind}{s:String}{ag:Bool}{pss:List (List (Nat×Nat))}
def U4(b o j:Nat):(⟨b,o,none⟩:Addr).add j=⟨b,o+j,none⟩:=by unfold Addr.add;split<;>simp_all
section
variable{S:Nat->Prop}{L:List HP}{h:AV}
def qY{α}{r:A9 α}{T:Nat}{v:Value}{l:List α}(c:St S (OS r T v l::L) h):((∃d,v= .slice d 0 0)/\l=[])\/
  ∃g cap cs,v= .slice (some ⟨g,0,none⟩) l.length cap/\l.length<=cap/\cap<=maxLen/\cs.length=cap*r.sz/\M6 S h r (cs.take (l.length*r.sz)) l/\St S (Bx g T cs::L) h:=by
 obtain⟨F,k,i,j⟩:=c.2;rcases k with⟨a,b,_⟩|⟨g,cap,cur,a,b,k3,k4,k5,k6,k7⟩
 ·exact .inl ⟨a,b⟩
 ·exact .inr ⟨g,cap,cur.toList,a,k4,k5,by simpa using k6,k7,c.1,F,⟨b,by simpa using k3⟩,i,j⟩
def St.bxosc{α}{r:A9 α}{e cap:Nat}{cs:List Value}{l:List α}(c:St S (Bx b e cs::L) h)(d:l.length<=cap)(g:cap<=maxLen)(i:cs.length=cap*r.sz)(j:M6 S h r (cs.take (l.length*r.sz)) l):
  St S (OS r e (.slice (some ⟨b,0,none⟩) l.length cap) l::L) h:=
 (c.upd (H':=OS r e (.slice (some ⟨b,0,none⟩) l.length cap) l) .head (Ag5 _) λF a _=>⟨F,.inr ⟨b,cap,cs.toArray,rfl,a.1,a.2,d,g,by simpa using i,by simpa using j⟩,λ_ k=> .inl k,λ_ _ _=>rfl⟩).1
def St.bxcell{T:Nat}{cs:List Value}(a:St S L h)(c:Bx b T cs∈L):h[b]? =some (.cells cs.toArray T (0,0)):=by
 obtain⟨F,k,_⟩:=a.get c;exact k.2
end
section
variable{P:Program}{ops:Array Oper}{C:World->Prop}{Q:Act->Prop}{n:FN}{m m':SM}{rest:List Oper}
variable{d:Nat}{ty:TypeId}{pos:String}{af:Array Edge}{X Y Z:Operand}{t:TypeId}{kd:IntKind}{v p:Value}
def Om{e sz:Nat}(b:Q4 P t e sz=true):P.underlying t=some (.slice (P.elem t))/\∀w,(sizeOf (P.elem t)).run P w= .ok sz w:=by
 obtain⟨i,a,c,d,j⟩:=Nw b;have g:P.elem t=e:=by simp[Program.elem,a]
 rw[g];exact⟨a,λw=>by simp[sizeOf,typeInfo,c,d]⟩
def Aak{len cap e sz:Nat}(i:B5 m X=some (.slice (some ⟨b,o,none⟩) len cap))(l:B5 m Y=some (.int kd y))(p:y=(j:Int))(q:Q4 P t e sz=true)(v:j<=len)(x:j<cap)(hd:Nat.blt d n.1=true)
  (k:QF P ops C Q rest n ((d,.slice (some ⟨b,o+j*sz,none⟩) (len-j) (cap-j))::m)):QF P ops C Q (⟨some d,.slice t X (some Y) none none,ty,pos,af,none⟩::rest) n m:=λa c=>by
 obtain⟨g,s⟩:=Om q;subst p;refine GH c hd (λw _=>?_) k;have u:¬cap=j:=Ω
 simp[execOp,c.eval i,c.eval l,run_sliceAt_slice _ _ _ _ _ _ g,run_slice_l w t _ len cap g kd (j:Int) Ω Ω,s,sliced,u,U4]
def ZZ{len cap e sz:Nat}(i:B5 m X=some (.slice (some ⟨b,o,none⟩) len cap))(l:B5 m Y=some (.int kd y))(p:y=(j:Int))(q:Q4 P t e sz=true)(v:j<=cap)(hd:Nat.blt d n.1=true)
  (k:QF P ops C Q rest n ((d,.slice (some ⟨b,o,none⟩) j cap)::m)):QF P ops C Q (⟨some d,.slice t X none (some Y) none,ty,pos,af,none⟩::rest) n m:=λa c=>by
 obtain⟨g,s⟩:=Om q;subst p;refine GH c hd (λw _=>?_) k;have u:(⟨b,o,none⟩:Addr).add 0=⟨b,o,none⟩:=by rw[U4];rfl
 simp[execOp,c.eval i,c.eval l,run_sliceAt_slice _ _ _ _ _ _ g,run_slice_h w t _ len cap g kd (j:Int) Ω Ω,s,sliced,u]
def cC{c:Option Addr}{len cap e sz:Nat}{b:TypeId}(i:B5 m X=some (.slice c len cap))(j:Q4 P t e sz=true)(hd:Nat.blt d n.1=true)(k:QF P ops C Q rest n ((d,.int .i64 cap)::m)):
  QF P ops C Q (⟨some d,.call ⟨.builtin .cap,#[X],#[t]⟩,b,pos,af,none⟩::rest) n m:=λa g=>by
 obtain⟨l,o⟩:=Om j;exact GH g hd (λw _=>by simp[execOp,resolve,invoke,builtin,g.eval i,run_cap_slice w t _ c len cap l,goInt]) k
end
section
variable{P:Program}{ops:Array Oper}{Q:Exit->Act->World->Prop}{n:FN}{m:SM}{rest:List Oper}
variable{d:Nat}{ty:TypeId}{pos:String}{af:Array Edge}{X Y:Operand}{B w:World}{h:AV}{S:Nat->Prop}{L L2:List HP}{v:Value}
def oN{T l e sz dl sl:Nat}{g:Addr}{cs a:List Value}(m:Q4 P l e sz=true)(n:a.length=Nat.min sl dl*sz)(p:w.heap[b]? =some (.cells cs.toArray T (0,0)))
  (q:∀j u,a[j]? =some u->w.cell? (g.add j)=some u) (c:o+a.length<=cs.length) (s:∀u∈a,u.oneCell'=true):
  (Builtin.copy_ #[l,t2] ty #[.slice (some ⟨b,o,none⟩) dl dc,.slice (some g) sl sc]).run P w= .ok (goInt (Nat.min sl dl)) (w.setRow b (IY cs o a).toArray):=by
 obtain⟨i,t,v,x,z⟩:=Nw m;have y:=run_firstCells_some (P:=P) w sz (Nat.min sl dl) g sl sc a n q;have d:=run_storeCells_at P b o T a 0 cs.toArray w p (by simpa using c) s;have k:(List.take (o+0) cs.toArray.toList++a++List.drop (o+0+a.length) cs.toArray.toList)=IY cs o a:=by simp[IY]
 rw[k]at d;simp[Builtin.copy_,run_underlying t,Builtin.lenOf,sizeOf,typeInfo,v,x,y,d]
end
def M6.take{α S h}{r:A9 α}:∀{l:List α}{cs},M6 S h r cs l->∀i,M6 S h r (cs.take (i*r.sz)) (l.take i)
 |[],_,k,i=>by have k:_=[]:=k;subst k;simp[M6]
 |x::l,_,⟨b,c,e,a,d⟩,0=>by simp[M6]
 |x::l,_,⟨b,c,e,a,d⟩,i+1=>by
  subst e;have g:=r.len a;refine⟨b,c.take (i*r.sz),?_,a,d.take i⟩;rw[Aij,Nat.add_comm (i*r.sz),<-g,List.take_append];rw[List.take_of_length_le Ω,Nat.add_sub_cancel_left]
def M6.drop{α S h}{r:A9 α}:∀{l:List α}{cs},M6 S h r cs l->∀i,M6 S h r (cs.drop (i*r.sz)) (l.drop i)
 |[],_,k,i=>by have k:_=[]:=k;subst k;simp[M6]
 |x::l,_,⟨b,a,e,c,d⟩,0=>by subst e;rw[Nat.zero_mul];exact⟨b,a,rfl,c,d⟩
 |x::l,_,⟨b,a,e,c,d⟩,i+1=>by
  subst e;have g:=r.len c;have:(b++a).drop ((i+1)*r.sz)=a.drop (i*r.sz):=by
   rw[Aij,Nat.add_comm (i*r.sz),<-g,List.drop_append];rw[List.drop_of_length_le Ω,Nat.add_sub_cancel_left,Ag3]
  rw[this,List.drop_succ_cons];exact d.drop i
def Qp{α}(l xs:List α):List α:=xs.take l.length++l.drop xs.length
section
variable{P:Program}{ops:Array Oper}{Q:Exit->Act->World->Prop}{n:FN}{m:SM}{rest:List Oper}
variable{d:Nat}{ty:TypeId}{pos:String}{af:Array Edge}{X Y:Operand}{B w:World}{h:AV}{S:Nat->Prop}{L L2:List HP}{v:Value}
def oO{a e sz dl sl:Nat}{sb:Option Addr}(b:Q4 P a e sz=true)(h0:Nat.min sl dl=0)(w:World):
  (Builtin.copy_ #[a,t2] ty #[.slice db dl dc,.slice sb sl sc]).run P w= .ok (goInt 0) w:=by
 obtain⟨i,c,d,j,k⟩:=Nw b;have g:∀(x:Addr),(loadCells x 0).run P w= .ok #[] w:=λx=>by simpa using run_loadCells_list (P:=P) w x [] (by simp)
 cases db<;>cases sb<;>simp[Builtin.copy_,run_underlying c,Builtin.lenOf,Builtin.firstCells,sizeOf,typeInfo,d,h0,storeCells,g]
def XM{α}{r:A9 α}{T Z e:Nat}{s:Value}{l xs:List α}(hx:B5 m X=some v)(hy:B5 m Y=some s)(ht:Q4 P Z e r.sz=true)(y:Abb S h r s xs)(hd:Nat.blt d n.1=true)(hs:St S L h)(rp:Nm L (OS r T v l) (OS r T v (Qp l xs)) L2)
  (k:∀h',St S L2 h'->CO S h S h'->LF P ops Q rest B h' n ((d,.int .i64 (Nat.min xs.length l.length:Nat))::m)):LF P ops Q (⟨some d,.call ⟨.builtin .copy,#[X,Y],#[Z,t2]⟩,ty,pos,af,none⟩::rest) B h n m:=by
 intro a w G A;refine wpList_plain rfl λK hK=>?_;unfold Oper.wp;obtain⟨M,p,_⟩:=rp.pick;obtain⟨F,g1,g2,_⟩:=Sp.pick p hs.2;obtain⟨ad,cap,hv,ae⟩:=OS.len g1;have aa:∃sb sc,s= .slice sb xs.length sc:=by
  rcases y with⟨h1,I⟩|⟨sd,sc,_,h1,_⟩
  ·exact⟨none,0,by rw[h1,I];rfl⟩
  ·exact⟨_,sc,h1⟩
 by_cases h0:Nat.min xs.length l.length=0
 ·obtain⟨sb,sc,ab⟩:=aa;have c:=oO (P:=P) (ty:=ty) (t2:=t2) (dl:=l.length) (dc:=cap) (sl:=xs.length) (sc:=sc) (db:=ad) (sb:=sb) ht h0 w;have C:(execOp a.eval ⟨some d,.call ⟨.builtin .copy,#[X,Y],#[Z,t2]⟩,ty,pos,af,none⟩).run P w= .ok (.value (goInt 0)) w:=by
   simp[execOp,resolve,invoke,builtin,G.eval hx,G.eval hy,hv,ab,c]
  rw[C];have e:Qp l xs=l:=by
   unfold Qp;have:xs.length=0\/l.length=0:=by simp only[Nat.min_def]at h0;split at h0<;>omega
   rcases this with h|h
   ·rw[Akh h];simp
   ·rw[Akh h];simp
  rw[e]at rp;have i:=hs.upd rp (Ag5 _) λF J _=>⟨F,J,λ_ D=> .inl D,λ_ _ _=>rfl⟩
  have:=k h i.1 i.2 _ _ (G.put hd _) A;rw[h0]at this;exact hK _ _ this
 ·rcases g1 with⟨_,I,_⟩|⟨g,cap',cur,J,k2,k3,k4,k5,k6,k7⟩
  ·exact absurd (by rw[I];simp) h0
  ·rcases y with⟨_,I⟩|⟨sd,sc,news,j1,_,j3,j4⟩
   ·exact absurd (by rw[I];simp) h0
   ·have hg:w.heap[g]? =some (.cells cur.toList.toArray T (0,0)):=by rw[A.heap];simpa using k3
    have ag:=j3.len;have z:(xs.take l.length).length=Nat.min xs.length l.length:=by rw[Ah3];exact Nat.min_comm _ _
    have hN:=j3.take l.length;have t:=hN.len;rw[z]at t;have ah:Nat.min xs.length l.length*r.sz<=l.length*r.sz:=Aia _ (Nat.min_le_right _ _);have ai:l.length*r.sz<=cap'*r.sz:=Aia _ k4;have c:=oN (P:=P) (ty:=ty) (t2:=t2) (b:=g) (o:=0) (dl:=l.length) (dc:=cap') (sl:=xs.length) (sc:=sc) (cs:=cur.toList) (T:=T) ht t hg (λj u hj=>by
     rw[NI,A.heap];exact j4 j u (by rw[Ai4]at hj;split at hj;exact hj;cases hj)) (by simp;omega) (λu hu=>hN.one u hu)
    have C:(execOp a.eval ⟨some d,.call ⟨.builtin .copy,#[X,Y],#[Z,t2]⟩,ty,pos,af,none⟩).run P w= .ok (.value (goInt (Nat.min xs.length l.length))) (w.setRow g (IY cur.toList 0 (news.take (l.length*r.sz))).toArray):=by
     simp[execOp,resolve,invoke,builtin,G.eval hx,G.eval hy,J,j1,c]
    rw[C];obtain⟨h',e1,e2,e3,e4⟩:=R7 w g cur (IY cur.toList 0 (news.take (l.length*r.sz))).toArray T (by simpa using hg);rw[A.heap]at e2 e4;have U:(Qp l xs).length=l.length:=by unfold Qp;rw[Ahh,z,Ai7];simp only[Nat.min_def];split<;>omega
    have i:=hs.upd rp (h':=h') Ω λF1 H m2=>by
     rcases H with⟨H,m3,m4⟩|⟨g',c',cur',H,q2,q3,_⟩
     ·refine⟨F1,.inl ⟨H,by rw[m3];simp[Qp],m4⟩,λ_ D=> .inl D,λV _ W=>?_⟩;by_cases e:V=g
      ·subst e;rw[e3,k3,m3];simp[IY]
      ·exact e4 V e
     ·rw[J]at H;injection H with q _ _
      injection q with q
      injection q with q _ _
      subst q;refine⟨F1,.inr ⟨g,cap',_,by rw[U];exact J,q2,e3,Ω,k5,?_,?_⟩,λ_ D=> .inl D,λV _ W=>e4 V λe=>W ((q2 V).2 e)⟩
      ·simp only[IY,Ah4,Ag3,Ajv,Ahh,Ai7,Array.length_toList,t];omega
      ·rw[U];have ac:(IY cur.toList 0 (news.take (l.length*r.sz))).take (l.length*r.sz)=news.take (l.length*r.sz)++(cur.toList.take (l.length*r.sz)).drop (xs.length*r.sz):=by
        simp only[IY,Ah4,Ag3,Ahw];rw[List.take_append];rw[List.take_of_length_le Ω];congr 1;rw[t];by_cases hc:xs.length<=l.length
        ·have:Nat.min xs.length l.length=xs.length:=Ajd hc;rw[this,List.drop_take]
        ·have:Nat.min xs.length l.length=l.length:=Nat.min_eq_right Ω;have hm:l.length*r.sz<=xs.length*r.sz:=Aia _ Ω;rw[this,Nat.sub_self,Ah4,List.drop_of_length_le (by simp;omega)]
       show M6 S h' r (List.take (l.length*r.sz) (IY cur.toList 0 (news.take (l.length*r.sz)))) (Qp l xs)
       rw[ac];exact(hN.append (k7.drop xs.length)).mono (λ_ x=>x) λb D=>e4 b λe=>(m2 g ((q2 g).2 rfl)).2 (e▸D)
    exact hK _ _ (k h' i.1 i.2 _ _ (G.put hd _) ⟨e1,A.os,A.tape,A.out⟩)
end
def Ty.head{b:Array Oper}{a:Array Bool}(c:Ty b (d::ks) a)(u:d∈Region.ready .any b a)(k:d∉ks):Ty b ks (a.setIfInBounds d true):=by
 obtain⟨_,oi,l,g⟩:=mem_ready.1 u;refine⟨by simp[c.size],λj m n o e p q=>?_,λt s=>by rw[getD_set_ne true (λe:d=t=>k (by rw[e];exact s))];exact c.tail t (Aht _ s)⟩;by_cases i:d=j
 ·subst i;have:m=oi:=Ags (n.symm.trans l);subst this;exact getD_set_true (g e p q)
 ·rw[getD_set_ne false i]at o;exact getD_set_true (c.closed j m n o e p q)
def P2(n:Nat)(ks G:List Nat):List Nat:=(List.range n).filter λi=> !ks.contains i&& !G.contains i
def tQ(a:Array Oper)(b:Nat)(ks F G:List Nat):Bool:=
 (b::ks).all (λt=>Nat.blt t a.size)&&decide (b::ks).Nodup&&UT a (b::ks) (F++G)&&SV a (b::ks)&&Qq a (b::ks)&&SY a&&Region.noSelect a&&(ks.isEmpty||UT a ks (P2 a.size ks G))&&Qq a ks&&(G.all λi=> !(b::ks).contains i)&&
 F.all λf=> !G.contains f&&match a[f]? with|some o=>o.after.all λe=> !Region.binds .any e||(Nat.blt e.on a.size&& !(b::ks).contains e.on&& !(F++G).contains e.on)|none=>false
def Aes(P:Program)(l:List Oper)(Q:Exit->Act->World->Prop)(B:World)(n:FN)(c:SM)(m b:AV)(R:AR)(ks G:List Nat):Prop:=
 ∃(a:AR)(pss:List (List (Nat×Nat)))(g:List (Nat×Nat))(j:List Oper)(ms:List Nat),c.map (·.1)=ms/\
  Wj l.toArray (ks++P2 l.length ks G) n ms=true/\Wg l.toArray (ks++P2 l.length ks G) l pss=true/\
  ((l.zip pss).zipIdx.all λp=>(ks++P2 l.length ks G).contains p.2||p.1.2.all λq=> !(P2 l.length ks G).contains q.1)=true/\
  (g.all λp=>Nat.blt p.1 l.length&& !(ks++P2 l.length ks G).contains p.1&&(Io l.toArray p.1).any (Nat.beq p.2 ·))=true/\(ks.filterMap λt=>l[t]?)=j/\
  (∀i,i∈G->∀v,R i v m->a i v b)/\(∀i v d k,Ef b d->Ef d k->a i v d->a i v k)/\
  Fi P l.toArray Q B n c b a (ks++P2 l.length ks G) [] ZB.none 0 l pss/\
  ∀h',Ef b h'->PA a h' (λfr=>LF P l.toArray Q j B h' n (fr++c)) g []
def Aes.run{l:List Oper}{Q:Exit->Act->World->Prop}{Z q:AV}{R:AR}(k:Aes P l Q B n m2 Z q R ks G)(hc:tQ l.toArray g ks is G=true)(hQ:∀c a w,¬Q (.panic c) a w)
  {s:Nat} {b:Array Bool} {a a2:Act} {w2:World} (hu:Yu b=s+1) (I:Ty l.toArray (g::ks) b) (hr:g∈Region.ready .any l.toArray b) (hl:∀i,i<l.toArray.size->i∉g::ks->i∉G->b.getD i false=true)
  (g4:∀i,i∉g::ks->b.getD i false=true->∃d v,Io l.toArray i=some d/\a.tmps[d]? =some v/\R i v Z) (hw:Wd B q w2) (J:Fr n a2 m2) (K:∀(i:Nat)(u:Value),a.tmps[i]? =some u->a2.tmps[i]? =some u):
  wpAny P .any l.toArray Q s (b.setIfInBounds g true) a2 w2:=by
 obtain⟨R2,pss,fs,ls,ms,rfl,q1,D,q3,q4,q5,q6,q7,q8,q9⟩:=k;simp only[tQ,Agu,Ahb]at hc;obtain⟨⟨⟨⟨⟨⟨⟨⟨⟨⟨c1,c2⟩,c3⟩,c4⟩,c5⟩,c6⟩,c7⟩,c8⟩,c9⟩,aa⟩,af⟩:=hc;have A:=Ajh.1 c2;have M:l.length=pss.length:=by
  simp only[Wg,Agu]at D;exact Ag1 D.1
 have ab:g<l.toArray.size:=by have:=Agz.1 c1 g (Ahf ..);simp[Nat.blt]at this ⊢;omega
 have ac:=I.size;have U:(b.setIfInBounds g true).getD g false=true:=by
  have:g<b.size:=Ω
  simp[this]
 have ad:∀i,i∈P2 l.length ks G->(b.setIfInBounds g true).getD i false=true:=λi j=>by
  unfold P2 at j;obtain⟨Z,q⟩:=Ah7.1 j;simp only[Agu,Ahn]at q;by_cases e:g=i
  ·subst e;exact U
  ·refine getD_set_true (hl i (by simpa using Ahy.1 Z) (λh=>?_) λh=>by rw[Ag2.2 h]at q;cases q.2);rcases Agv.1 h with h|h
   ·exact e h.symm
   ·rw[Ag2.2 h]at q;cases q.1
 refine Ye (R:=R2) (B:=B) (h0:=q) (n:=n) (m:=m2) ks (P2 l.length ks G) [] ZB.none Abh.none (λz H=>by cases H) (λi j=>by cases j) (λt ht=>?_) A.2 c6 [] [] (.inl rfl) ?_ ?_ c9 c7 hQ (λf J=>by cases J) (λf J=>by cases J) q1 q7 (λi j=>by cases j) (λi o d j ho hd=>?_) (λa w h' g1 g2 g3 g4 _ _=>?_) (.inl rfl) s _ _ _ ?_ (I.head hr A.1) ad ⟨⟨q,hw,Ef.refl q,J,λi j y=>?_⟩,λi j=>(by cases j),λz H=>(by cases H)⟩
 ·have:=Agz.1 c1 t (Aht _ ht);simp[Nat.blt]at this ⊢;omega
 ·rw[Ahg]at c8;refine c8.imp (λe=>by cases ks with|nil=>rfl|cons _ _=>simp at e) λx=>?_;rw[Ag3,Ag3];simpa using x
 ·have:=Nr c4;cases ks with
  |nil=>trivial
  |cons t r=>exact this.2
 ·have V:l[i]? =some o:=by simpa using ho
  obtain⟨ps,p1,p2⟩:=Fi.at_ (k:=0) q8 M (by rw[Ahw];exact j) V hd;rw[Ahw]at p2;have H:((o,ps),i)∈(l.zip pss).zipIdx:=by
   rw[Aio];exact⟨i,by rw[List.getElem?_zipIdx,(Aki (z:=(o,ps))).2 ⟨V,p1⟩];simp⟩
  refine⟨ps,?_,λp hp h=>?_,p2⟩
  ·simp only[Wg,Agu]at D;have:=Agz.1 D.2 _ H;rw[Ahg]at this;exact this.resolve_left λh=>j (Ag2.1 h)
  ·have:=Agz.1 q3 _ H;rw[Ahg]at this;have:=Agz.1 (this.resolve_left λh=>j (Ag2.1 h)) p hp;rw[Ag2.2 h]at this;cases this
 ·obtain⟨fr,g,k2⟩:=OB (a:=a) (n:=n) _ _ (q9 h' g2) (λp hp=>by
   have e:=Agz.1 q4 p hp;simp only[Agu,Ahn]at e;have e1:p.1<l.toArray.size:=by have:=e.1.1;simp[Nat.blt]at this ⊢;omega
   obtain⟨d,v,q1,D,q3⟩:=g4 p.1 e1 (λh=>by rw[Ag2.2 h]at e;cases e.1.2);have e2:=e.2;rw[q1]at e2;have:p.2=d:=Ag1 (by simpa using e2);exact⟨v,by rw[this];exact D,q3⟩) ⟨g3.dfr,g3.siz,λi v j=>by simp[lk]at j⟩
  have W:(ks.filterMap λt=>l.toArray[t]?)=ls:=by rw[<-q5];congr 1;funext t;simp
  rw[W];exact g a w (k2.append g3) g1
 ·have:=Qi (mem_ready.1 hr).1;omega
 ·have X:g≠i:=λe=>by
   subst e;refine j (Ajy _ (Ah7.2 ⟨Ahy.2 (by simpa using ab),?_⟩));simp only[Agu,Ahn];refine⟨?_,?_⟩
   ·cases C:ks.contains g with
    |true=>exact absurd (Ag2.1 C) A.1
    |false=>rfl
   ·cases C:G.contains g with
    |true=>
     have:=Agz.1 aa g (Ag2.1 C);simp at this
    |false=>rfl
  rw[getD_set_ne false X]at y;have Y:i∉ks:=λh=>j (Ait _ h);have ae:i<l.length:=by
   rcases Ag7 i b.size with h|h
   ·rw[ac]at h;simpa using h
   ·rw[Aik,Aj5 h]at y;cases y
  have hG:i∈G:=by
   apply Ajl;intro hG;refine j (Ajy _ (Ah7.2 ⟨Ahy.2 ae,?_⟩));simp only[Agu,Ahn];exact⟨by cases C:ks.contains i with|true=>exact absurd (Ag2.1 C) Y|false=>rfl,by cases C:G.contains i with|true=>exact absurd (Ag2.1 C) hG|false=>rfl⟩
  obtain⟨d,v,p1,p2,p3⟩:=g4 i (λh=>(Agv.1 h).elim (λe=>X e.symm) Y) y;exact⟨d,v,p1,K _ _ p2,q6 i hG v p3⟩
def Aer{l:List Oper}{Q:Exit->Act->World->Prop}{z:SM}{A j:AV}{R:AR}(k:Aes P l Q B n z A j R ks G)(K:o<l.length)(q:o∉G)
  {a b:Act} {s:World} (M:∀i,i<l.length->i∉o::ks->∃d v,Io l.toArray i=some d/\a.tmps[d]? =some v/\R i v A) (U:Wd B j s) (w:Fr n b z) (c:∀(i:Nat)(u:Value),a.tmps[i]? =some u->b.tmps[i]? =some u):
  wpList P l.toArray Q (ks.filterMap λt=>l[t]?) b s:=by
 obtain⟨R2,pss,fs,ls,ms,rfl,C,D,F,V,W,X,q7,q8,Y⟩:=k;obtain⟨fr,x,Z⟩:=OB (a:=b) (n:=n) _ _ (Y j (Ef.refl j)) (λp hp=>by
  have e:=Agz.1 V p hp;simp only[Agu,Ahn]at e;have H:p.1<l.length:=by have:=e.1.1;simp[Nat.blt]at this ⊢;omega
  have I:p.1∉ks++P2 l.length ks G:=λh=>by rw[Ag2.2 h]at e;cases e.1.2
  have g:p.1∉ks:=λh=>I (Ait _ h);have m:p.1∈G:=by
   apply Ajl;intro m;refine I (Ajy _ (Ah7.2 ⟨Ahy.2 H,?_⟩));simp only[Agu,Ahn];exact⟨by cases y:ks.contains p.1 with|true=>exact absurd (Ag2.1 y) g|false=>rfl,by cases y:G.contains p.1 with|true=>exact absurd (Ag2.1 y) m|false=>rfl⟩
  obtain⟨d,v,C,D,F⟩:=M p.1 H (λh=>(Agv.1 h).elim (λe=>q (e▸m)) g);have J:=e.2;rw[C]at J;have:p.2=d:=Ag1 (by simpa using J);exact⟨v,by rw[this];exact c _ _ D,X _ m v F⟩) ⟨w.dfr,w.siz,λi v hi=>by simp[lk]at hi⟩
 rw[W];exact x b s (Z.append w) U
section
variable{P:Program}{ex:List (Nat×AP)}{RR N:AP}{cs:List Code}{B:World}{h:AV}{n:FN}{m m0:SM}{S:Nat->Prop}{L:List HP}
end
def RC(L:List HP):HP where
 holds:=λS F h=>Sp S L h F
 loc:=λk s e=>Sp.ext k s e λ_ x=>x
def Aa1(l:Nat)(r:Loop):HP where
 holds:=λ_ F h=>(∀b,F b↔b=l)/\h[l]? =some (.loop r)
 loc:=λ⟨a,c⟩ _ e=>⟨a,(e l (.inr ((a l).2 rfl))).trans c⟩
def Sp.app{S:Nat->Prop}{h:AV}:∀{L1 L:List HP}{A:Nat->Prop},Sp S (L1++L) h A->∃F,Sp S L1 h F/\(∀b,F b->A b)/\Sp S L h (λb=>A b/\¬F b)
 |[],L,A,k=>⟨λ_=>False,trivial,λ_ x=>x.elim,k.mono λb a=>⟨a,λx=>x⟩⟩
 |H::L1,L,A,⟨F,d,g,i⟩=>by
  obtain⟨G,j,c,l⟩:=Sp.app i;refine⟨λb=>F b\/G b,⟨F,d,λb a=> .inl a,j.mono λb a=>⟨.inr a,(c b a).2⟩⟩,λb a=>a.elim (g b) λx=>(c b x).1,l.mono λb a=>⟨a.1.1,λx=>x.elim a.1.2 a.2⟩⟩
def Sp.app2{S:Nat->Prop}{h:AV}:∀{L1 L:List HP}{A F:Nat->Prop},Sp S L1 h F->(∀b,F b->A b)->Sp S L h (λb=>A b/\¬F b)->Sp S (L1++L) h A
 |[],L,A,F,_,_,k=>k.mono λb a=>a.1
 |H::L1,L,A,F,⟨G,d,c,g⟩,i,k=>⟨G,d,λb a=>i b (c b a),Sp.app2 g (λb a=>⟨i b a.1,a.2⟩) (k.mono λb a=>⟨⟨a.1,λx=>a.2 (c b x)⟩,λx=>a.2 x.1⟩)⟩
section
variable{S:Nat->Prop}{L L1 M:List HP}{h:AV}{H:HP}
def bK(a:St S (L1++L) h):St S (RC L1::L) h:=by
 obtain⟨F,b,c,d⟩:=Sp.app a.2;exact⟨a.1,F,b,c,d⟩
def St.unpack(a:St S (RC L1::L) h):St S (L1++L) h:=by
 obtain⟨F,b,c,d⟩:=a.2;exact⟨a.1,Sp.app2 b c d⟩
def Ug:∀{M:List HP},RA (M++H::L) H (M++L)
 |[]=> .head
 |K::M=> .tail Ug
def St.mid(a:St S (H::(M++L)) h):St S (M++H::L) h:=⟨a.1,O1 Ug a.2⟩
def St.unmid(a:St S (M++H::L) h):St S (H::(M++L)) h:=⟨a.1,Sp.pick Ug a.2⟩
def St.rec{l:Nat}{r:Loop}(d:St S (Aa1 l r::L) h):h[l]? =some (.loop r)/\St S (Aa1 l r'::L) (h.setIfInBounds l (.loop r'))/\CO S h S (h.setIfInBounds l (.loop r')):=by
 obtain⟨F,k,_⟩:=d.get (Ahf ..);have a:l<h.size:=(Ahu.1 k.2).1;refine⟨k.2,d.upd (H':=Aa1 l r') .head (by simp) λF g _=>⟨F,⟨g.1,by simp[a]⟩,λ_ c=> .inl c,λb _ c=>?_⟩⟩;have:b≠l:=λe=>c ((g.1 b).2 e);simp[Aj8 (Ne.symm this)]
end
def Wd.putObj(k:Wd B h w)(l:Nat)(o:Obj):Wd B (h.setIfInBounds l o) (w.putObj l o):=⟨by show w.heap.setIfInBounds l o=_;rw[k.heap],k.os,k.tape,k.out⟩
abbrev XW(a:Type):=(Nat->Prop)->AV->List Value->a->Prop
def YC{j σ:Type}(P:Program)(g:Value)(Y:Bool->σ->HP)(AR:XW j)(d:j->σ->Option (Bool×σ))(i:Nat->Prop)(h0:AV):Prop:=
 ∃l,g= .func (.yield l) #[] #[]/\∀(x:j)(s:σ)(out:Bool×σ),d x s=some out->∀(S:Nat->Prop)(L:List HP)(h:AV)(vs:List Value)(B w:World),CO i h0 S h->St S (Y true s::L) h->AR S h vs x->Wd B h w->
  ∃fn b a c,(Instr.yield l vs.toArray).run P w= .ok (.round l fn b a c) w/\
   RoundIn Fence.wide 0 P l fn b a c w (λe w'=>∃S' h',e= .returned (.bool out.1)/\Wd B h' w'/\CO S h S' h'/\St S' (Y out.1 out.2::L) h')
def YC.mono{n σ:Type}{b:Value}{Y:Bool->σ->HP}{AR:XW n}{a:n->σ->Option (Bool×σ)}{d:Nat->Prop}{g:AV}(k:YC P b Y AR a c h0)(e:CO c h0 d g):YC P b Y AR a d g:=by
 obtain⟨l,i,k⟩:=k;exact⟨l,i,λx s out j S L h vs B w m=>k x s out j S L h vs B w (e.trans m)⟩
def YL(P:Program)(ops:Array Oper)(Q:Exit->Act->World->Prop)(l:List Oper)(B:World)(h:AV)(n:FN)(m:SM):Prop:=∀a w,Fr n a m->Wd B h w->wpListIn (FF none) 0 P ops Q l a w
def oQ{l:Nat}{f:FuncId}{b:Array Value}{a d:Code}{R:Ending->World->Prop}{g:Option Nat}{n i:Nat}(h:RoundIn Fence.wide n P l f b a d w R):RoundIn (FF g) i P l f b a d w R:=
 ⟨Ti g f,λc cs _=>by rw[TP];exact h.2 c cs (room_wide _)⟩
section
variable{P:Program}{ex:List (Nat×AP)}{R N:AP}{cs:List Code}{B:World}{h:AV}{n:FN}{m m':SM}{S:Nat->Prop}{L:List HP}
end
section
variable{P:Program}{ops:Array Oper}{Q:Exit->Act->World->Prop}{n:FN}{m m':SM}{rest l:List Oper}{B:World}{h:AV}{S:Nat->Prop}{L:List HP}
def Rp(g:∀a w,¬Q .outgrown a w):∀(k:Nat)(l:List Oper)(a:Act)(w:World),wpList P ops (Exit.then (wpListIn (FF none) 0 P ops Q (l.drop k)) Q) (l.take k) a w->wpListIn (FF none) 0 P ops Q l a w
 |0,l,a,w,h=>by simpa[wpList,Exit.then]using h
 |k+1,[],a,w,h=>by simpa[wpList,Exit.then]using h
 |k+1,o::l,a,w,h=>by
  simp only[List.take_succ_cons,List.drop_succ_cons]at h;unfold wpList at h;unfold wpListIn;split
  ·rename_i i;rw[Agp i]at h;have b:=h.imp (Oper.wp_mono λa w p=>Rp g k l a w p) id;refine wU (.inl rfl) g ?_;rcases b with b|⟨_,j,m,h2⟩
   ·refine .inl ?_;unfold Oper.wp at b ⊢;generalize (execOp a.eval o).run P w=r at b
    cases r with
    |ok q w'=>
     cases q<;>simp only[Oper.upon]at b ⊢
     case value v=>exact b
     case skip=>exact b
     case defer d=>exact b
     case enter f args=>
      refine b.mono λe s n=>?_;cases e with
      |returned v=>exact n
      |panicked c=>exact n
      |outgrown=>obtain⟨j,m,h0⟩:=n;exact⟨j,m,h0⟩
     case row r args=>exact b
    |halt x w'=>cases x<;>simp only[Oper.upon]at b ⊢;exact b
   ·exact absurd h2 (g j m)
  ·rename_i i;rw[Agn i]at h;exact⟨λf _=>Ti none f,Rp g k l _ w h⟩
def Agg(k:YL P ops Q l B h n m):QF P ops C (λa=>∀w,Wd B h w->wpListIn (FF none) 0 P ops Q l a w) [] n m:=λa b w c=>k a w b c
def Age(j:Nat)(b:∀a w,¬Q .outgrown a w)(k:LF P ops (Exit.then (wpListIn (FF none) 0 P ops Q (l.drop j)) Q) (l.take j) B h n m):YL P ops Q l B h n m:=λa w c d=>Rp b j l a w (k a w c d)
def Agi(k:YL P ops Q l B h n m):LF P ops (Exit.then (wpListIn (FF none) 0 P ops Q l) Q) [] B h n m:=λa w b c=>k a w b c
def YL.nil{ex:List (Nat×AP)}{R:AP}(b:VZ m m')(k:WF P ex R cs N B h n m'):YL P ops (Qx ex R (W P ex R cs N)) [] B h n m:=λa w c d=>k a w (c.sub b) d
def YL.gy{o:Oper}{e:Nat}{b:Bool}(g:o.guard=some (j,b))(i:(ops[j]?).bind (·.dst)=some e)(l:lk m e=some (.bool b))(k:YL P ops Q ({ o with guard:=none}::rest) B h n m):YL P ops Q (o::rest) B h n m:=by
 intro a w d p;have q:Region.wanted o (yielded ops a.tmps)=true:=by
  have:=d.at_ e _ l;simp[Region.wanted,g,yielded,i,this]
 have c:=k a w d p;unfold wpListIn at c ⊢;rw[Agp (by simp[Region.wanted])]at c;rw[Agp q];exact c
def YL.gn{o:Oper}{e:Nat}{b:Bool}(g:o.guard=some (j,!b))(i:(ops[j]?).bind (·.dst)=some e)(l:lk m e=some (.bool b))(p:o.dst=some d)(hd:Nat.blt d n.1=true)(k:YL P ops Q rest B h n ((d,undef)::m)):YL P ops Q (o::rest) B h n m:=by
 intro a w c q;have s:Region.wanted o (yielded ops a.tmps)=false:=by
  have:=c.at_ e _ l;cases b<;>simp[Region.wanted,g,yielded,i,this]
 unfold wpListIn;rw[Agn (by rw[s];exact Bool.false_ne_true),p];exact⟨λf _=>Ti none f,k _ w (c.put hd _) q⟩
def Afp{α σ:Type}{Y:Bool->σ->HP}{AR:XW α}{i:α->σ->Option (Bool×σ)}{C:Nat->Prop}{b:Array TypeId}{ty:TypeId}{c:String}{q:Array Edge}{x:α}{s:σ}{out:Bool×σ}
  (t:YC P A Y AR i C h0) (D:B5 m X=some A) (u:xs.toList.mapM (B5 m)=some vs) (F:i x s=some out) (G:CO C h0 S h) (H:St S (Y true s::L) h) (I:AR S h vs x) (hd:Nat.blt d n.1=true)
  (k:∀S' h',CO S h S' h'->St S' (Y out.1 out.2::L) h'->YL P ops Q rest B h' n ((d,.bool out.1)::m)):YL P ops Q (⟨some d,.call ⟨.value X,xs,b⟩,ty,c,q,none⟩::rest) B h n m:=by
 intro a w v J;obtain⟨l,rfl,t⟩:=t;obtain⟨fn,j,g,o,K,M⟩:=t x s out F S L h vs B w G H I J;unfold wpListIn;rw[Agp (by simp[Region.wanted])];refine⟨λf _=>Ti none f,?_⟩;have p:(execOp a.eval ⟨some d,.call ⟨.value X,xs,b⟩,ty,c,q,none⟩).run P w= .ok (.round l fn j g o) w:=by
  have U:=v.eval D;have V:=YR v u;simp[execOp,resolve,Deferred.ofValue,invoke,U,V,K]
 have z:(⟨some d,.call ⟨.value X,xs,b⟩,ty,c,q,none⟩:Oper).semAt (FF none).round a.eval=execOp a.eval ⟨some d,.call ⟨.value X,xs,b⟩,ty,c,q,none⟩:=rfl;rw[z,p];refine⟨λhd=>(by rw[VJ]at hd;cases hd),oQ (RoundIn.mono M λe w' W=>?_)⟩;obtain⟨S',h',rfl,Z,r2,r3⟩:=W;exact k S' h' r2 r3 _ w' (v.put hd _) Z
end
section
variable{P:Program}{ex:List (Nat×AP)}{R N:AP}{cs:List Code}{B:World}{h:AV}{k:Nat}{Ds:List Nat}{m:SM}{S:Nat->Prop}{L:List HP}
end
def Pu(p:Prop):HP where
 holds:=λ_ F _=>p/\∀b,¬F b
 loc:=λk _ _=>k
section
variable{S:Nat->Prop}{L:List HP}{h:AV}
def uD{p:Prop}(a:St S (Pu p::L) h):p/\St S L h:=by
 obtain⟨F,k,_⟩:=a.get (Ahf ..);exact⟨k.1,a.drop .head⟩
def W9{p:Prop}(a:St S L h)(k:p):St S (Pu p::L) h:=(a.add (H':=Pu p) (Ag5 _) (λ_ _=>rfl) ⟨λ_=>False,⟨k,λ_ x=>x⟩,λ_ x=>x.elim⟩).1
end
section
variable{P:Program}{ops:Array Oper}{Q:Exit->Act->World->Prop}{n:FN}{m m':SM}{rest l:List Oper}{B:World}{h:AV}{S:Nat->Prop}{L:List HP}
def Agd{A σ:Type}{k:Value}{Y:Bool->σ->HP}{AR:XW A}{b:A->σ->Option (Bool×σ)}{l:Nat->Prop}{g:Array TypeId}{ty:TypeId}{i:String}{o:Array Edge}{x:A}{s:σ}{out:Bool×σ}
  (p:YC P k Y AR b l h0) (q:B5 m X=some k) (j:xs.toList.mapM (B5 m)=some vs) (t:b x s=some out) (u:CO l h0 S h) (a:St S (Y true s::L) h) (v:AR S h vs x) (hd:Nat.blt d n.1=true)
  (w:out.1=true->∀S' h',CO S h S' h'->St S' (Y true out.2::L) h'->YL P ops Q rest B h' n ((d,.bool true)::m))
  (z:out.1=false->∀S' h',CO S h S' h'->St S' (Y false out.2::L) h'->YL P ops Q rest B h' n ((d,.bool false)::m)):YL P ops Q (⟨some d,.call ⟨.value X,xs,g⟩,ty,i,o,none⟩::rest) B h n m:=
 Afp p q j t u a v hd λS' h' e a=>by
  cases c:out.1 with
  |true=>rw[c]at a;exact w c S' h' e a
  |false=>rw[c]at a;exact z c S' h' e a
end
section
variable{P:Program}{fn:Func}{B:World}{S S':Nat->Prop}{h h':AV}{post:Value->(Nat->Prop)->AV->Prop}{a:Act}{m:SM}{w:World}{L:List HP}
end
def Ack:List Nat->SM->Option SM
 |[],_=>some []
 |k::ks,m=>match lk m k with
  |some v=>match Ack ks m with
   |some r=>some ((k,v)::r)
   |none=>none
  |none=>none
def kp:∀{m a:SM}(ks:List Nat),Ack ks m=some a->VZ m a
 |m,a,[],d=>by cases d;trivial
 |m,a,k::ks,d=>by
  simp only[Ack]at d;split at d
  ·rename_i v b;split at d
   ·rename_i r c;cases d;exact⟨b,kp ks c⟩
   ·cases d
  ·cases d
def dX{c:Type}(S:Nat->Prop)(d:AV)(r:A9 c)(T:TypeId)(l:List c)(v:Value)(a:AV):Prop:=∃g cap,v= .slice (some ⟨g,0,none⟩) l.length cap/\d.size<=g/\g<a.size/\(OS r T v l).holds S (λb=>b=g) a
def dX.mono{q:Type}{s a c:AV}{r:A9 q}{T:TypeId}{l:List q}{v:Value}(k:dX S s r T l v a)(i:∀b,S b->b<s.size)(o:Ef a c):dX S s r T l v c:=by
 obtain⟨g,cap,j,m,d,n⟩:=k;exact⟨g,cap,j,m,Ag6 d o.siz,HP.loc _ n (λ_ x=>x) λb p=>o.same b (p.elim (λx=>by have:=i b x;omega) λx=>by subst x;exact d)⟩
def rV{d:Type}{i:AV}{r:A9 d}{T:TypeId}{l:List d}:Va (dX S i r T l):=λv c ⟨g,_,a,_,b,_⟩=>⟨g,by rw[a];rfl,b⟩
def QS{b:Type}{R:AR}{c:AV}{r:A9 b}{a T:Nat}{l:List b}(e:R a=dX S c r T l)(t:∀i,i∈is->Va (R i)):∀i,i∈a::is->Va (R i):=Yf (by rw[e];exact rV) t
def O5{u:Type}{w d:AV}{i:List Nat}{r:A9 u}{T:Nat}{v:Value}{l:List u}(k:Yo S w d i L)(j:w.size<=g)(m:g<d.size)(n:(OS r T v l).holds S (λb=>b=g) d)(o:g∉i):Yo S w d (g::i) (OS r T v l::L):=by
 obtain⟨p,q,s,t⟩:=k;refine⟨p,q,λc a=>?_,λc=>c=g,n,λc a=>by subst a;exact .inr (Ahf ..),t.mono λc a=>⟨a.imp_right (Aht _),λe=>?_⟩⟩
 ·rcases Agv.1 a with rfl|a
  ·exact⟨j,m⟩
  ·exact s c a
 ·subst e;rcases a with a|a
  ·have:=a.1;omega
  ·exact o a
def VC{α:Type}{q:Array Oper}{Q:Exit->Act->World->Prop}{p:List Oper}{ty:TypeId}{Y:Array Edge}{r:A9 α}{T e sz:Nat}{z:List Value}{zx:α}{len cap:Int}{Z:IntKind}(he:OI P T=some (e,sz,g,z))(t:r.sz=sz)(hz:r.rd S h z zx)
  (hx:B5 m U=some (.int Z len)) (hy:B5 m V=some (.int kc cap)) (u:ME len cap g=true) (y:Nat.blt 0 g=true) (hd:Nat.blt d n.1=true) (o:Ef h0 h) (hS:∀b,S b->b<h0.size)
  (k:∀v h',Ef h h'->dX S h0 r e (List.replicate len.toNat zx) v h'->Yn h v->LF P q Q p B h' n ((d,v)::m)):LF P q Q (⟨some d,.makeSlice T U V,ty,s,Y,none⟩::p) B h n m:=by
 simp only[ME,Agu,Ahb]at u;obtain⟨⟨aa,ab⟩,I⟩:=u;obtain⟨a,rfl⟩:∃a:Nat,len=a:=⟨len.toNat,Ω⟩
 obtain⟨c,rfl⟩:∃c:Nat,cap=c:=⟨cap.toNat,Ω⟩
 have ad:((g*c:Nat):Int)<=140737488355328:=by rw[Int.natCast_mul];exact I
 have J:1<=g:=by simpa[Nat.blt]using y
 have ae:c<=g*c:=Nat.le_mul_of_pos_left _ J;have A:a<=c:=Ω
 have C:c<=maxLen:=by unfold maxLen;omega
 intro ac w M hw;refine wpList_plain rfl λK hK=>?_;unfold Oper.wp;obtain⟨i,zv,h1,h2,h3,h4,h5,h6,h7,h8⟩:=NP he;have D:=run_make (P:=P) w T e i zv h1 h2 h3 Z kc (a:Int) (c:Int) Ω Ω (by rw[h5];omega) (by unfold maxLen at C;omega);simp only[Ahl,h6,h4]at D;have F:(execOp ac.eval ⟨some d,.makeSlice T U V,ty,s,Y,none⟩).run P w= .ok (.value (.slice (some ⟨w.heap.size,0,none⟩) a c)) (w.alloc (.cells (madeCells z.toArray (c*sz)) e)):=by
  simp[execOp,M.eval hx,M.eval hy,D]
 rw[F];have W:∀b,S b->b<h.size:=λb G=>Ag6 (hS b G) o.siz;have l:(madeCells z.toArray (c*sz)).toList=(List.replicate c z).flatten:=by rw[<-h7];exact N2 z c Ω
 have X:(OS r e (.slice (some ⟨h.size,0,none⟩) a c) (List.replicate a zx)).holds S (λb=>b=h.size) (h.push (.cells (madeCells z.toArray (c*sz)) e)):=by
  refine .inr ⟨h.size,c,madeCells z.toArray (c*sz),by simp,λ_=>Iff.rfl,NH _ _,by simpa using A,C,by rw[size_madeCells,t],?_⟩;rw[l];have:((List.replicate c z).flatten).take ((List.replicate a zx).length*r.sz)=(List.replicate a z).flatten:=by
   obtain⟨j,rfl⟩:=Nat.exists_eq_add_of_le A;rw[<-List.replicate_append_replicate,List.flatten_append,Aju,t,<-h7];have:(List.replicate a z).flatten.length=a*z.length:=by simp
   rw[<-this,List.take_left]
  rw[this];exact(Td hz a).mono (λ_ x=>x) λb G=>I5 _ _ _ (W b G)
 have H:=hw.heap;have:=k (.slice (some ⟨w.heap.size,0,none⟩) a c) (h.push (.cells (madeCells z.toArray (c*sz)) e)) ⟨by simp,λb G=>I5 _ _ _ G⟩ (by rw[H];exact⟨h.size,c,by simp,o.siz,by simp,by simpa using X⟩) ⟨h.size,by rw[H];rfl,Ag5 _⟩;exact hK _ _ (this _ _ (M.put hd _) (hw.alloc _))
def Aei:XW Int:=λ_ _ vs x=>vs=[.int .i64 x]/\AB x
def nQ{a:Type}(r:A9 a):XW (Int×List a):=λS b vs x=>∃v,vs=[.int .i64 x.1,v]/\AB x.1/\Sl S b r v x.2
def Aei.len{a:AV}{x:Int}(k:Aei S a vs x):vs.length=1:=by rw[k.1];rfl
def Aei.mono{a:AV}{x:Int}(k:Aei S a vs x)(_:CO S a S' h'):Aei S' h' vs x:=k
def nQ.len{a:Type}{r:A9 a}{b:AV}{x:Int×List a}(k:nQ r S b vs x):vs.length=2:=by obtain⟨v,e,_⟩:=k;rw[e];rfl
def nQ.mono{d:Type}{r:A9 d}{g:AV}{x:Int×List d}(k:nQ r S g vs x)(e:CO S g S' h'):nQ r S' h' vs x:=by obtain⟨v,a,b,c⟩:=k;exact⟨v,a,b,c.mono' e⟩
open Go.ChangeMaps (setBlock)
def MI{κ β:Type}(kv:κ->Value)(vv:β->Value)(b r:Nat)(l rem:List (κ×β)):HP where
 holds:=λ_ F h=>(∀c,F c↔(c=b\/c=r))/\b≠r/\∃es a d seen,h[b]? =some (.map es a)/\es.toList.map (λe=>(e.key,e.val))=(l.map λe=>(kv e.1,vv e.2))/\Og es.toList a/\
  h[r]? =some (.mapIter (some b) d seen a)/\d=a/\(leftOf es seen).toList.map (λe=>(e.key,e.val))=rem.map λe=>(kv e.1,vv e.2)
 loc:=λ⟨g,i,es,c,d,seen,j,k,m,n,o⟩ _ e=>⟨g,i,es,c,d,seen,(e _ (.inr ((g _).2 (.inl rfl)))).trans j,k,m,(e _ (.inr ((g _).2 (.inr rfl)))).trans n,o⟩
section
variable{P:Program}{ops:Array Oper}{Q:Exit->Act->World->Prop}{n:FN}{m:SM}{rest:List Oper}
variable{d:Nat}{ty:TypeId}{pos:String}{af:Array Edge}{X:Operand}{B:World}{h:AV}{S:Nat->Prop}{L:List HP}{t kt et:TypeId}{b r:Nat}
variable{κ β:Type}{kv:κ->Value}{vv:β->Value}{l rem:List (κ×β)}
def WM(q:St S (MP kv vv b l::L) h)(g:B5 m X=some (.map (some b)))(y:P.underlying t=some (.map kt et))(hd:Nat.blt d n.1=true)
  (k:∀r h',St S (MI kv vv b r l l::L) h'->CO S h S h'->LF P ops Q rest B h' n ((d,.pointer (some ⟨r,0,none⟩))::m)):LF P ops Q (⟨some d,.range t X,ty,pos,af,none⟩::rest) B h n m:=by
 intro a w s j;refine wpList_plain rfl λK o=>?_;unfold Oper.wp;obtain⟨F,⟨z,es,c,u,v,A⟩,C,_⟩:=q.2;have D:w.heap[b]? =some (.map es c):=by rw[j.heap];exact u
 have i:(execOp a.eval ⟨some d,.range t X,ty,pos,af,none⟩).run P w= .ok (.value (.pointer (some ⟨w.heap.size,0,none⟩))) (w.alloc (.mapIter (some b) c #[] c)):=by
  simp[execOp,s.eval g,Instr.range,run_underlying y,MapKept.run_getObj_map D,newObj,Sem.run]
 rw[i];have G:b<h.size:=(C b ((z b).2 rfl)).1;obtain⟨H,I⟩:=q.upd (H':=MI kv vv b h.size l l) (h':=h.push (.mapIter (some b) c #[] c)) .head (by simp) λF J M=>⟨λx=>x=b\/x=h.size,⟨λx=>Iff.rfl,Ω,es,c,c,#[],by rw[I5 _ _ _ G];exact u,v,A,NH _ _,rfl,by rw[show leftOf es #[]=es from Array.filter_eq_self.2 λx _=>(by simp)];exact v⟩,λx g=>g.imp (λe=>(J.1 x).2 e) λe=>by subst e;simp,λx g _=>I5 _ _ _ g⟩
 have p:=j.heap;exact o _ _ (k w.heap.size _ (by rw[p];exact H) I _ _ (s.put hd _) (j.alloc _))
def rX{r:Nat}{o:Obj}(a:r<h.size)(c:b≠r):(h.setIfInBounds r o)[b]? =h[b]? /\(h.setIfInBounds r o)[r]? =some o/\(h.setIfInBounds r o).size=h.size:=
 ⟨by rw[Aj8 (Ne.symm c)],by rw[Array.getElem?_setIfInBounds_self];simp[a],by simp⟩
def Yl(hs:St S (MI kv vv b r l rem::L) h)(p:B5 m X=some (.pointer (some ⟨r,0,none⟩)))(hd:Nat.blt d n.1=true)
  (k0:rem=[]->LF P ops Q rest B h n ((d,.tuple #[.bool false])::m))
  (C:∀(x:κ×β)(l1 s:List (κ×β)) h',rem=l1++x::s->St S (MI kv vv b r l (l1++s)::L) h'->CO S h S h'->(∀w,Wd B h' w->(Instr.entry (.pointer (some ⟨r,0,none⟩))).run P w= .ok (.tuple #[kv x.1,vv x.2]) w)->LF P ops Q rest B h' n ((d,.tuple #[.bool true,kv x.1,vv x.2])::m)):LF P ops Q (⟨some d,.next X false,ty,pos,af,none⟩::rest) B h n m:=by
 intro a w D t;refine wpList_plain rfl λK u=>?_;unfold Oper.wp;obtain⟨F,⟨g1,gn,es,c,g,seen,J,g3,G,g5,g6,H⟩,hF,_⟩:=hs.2;have hr:w.heap[r]? =some (.mapIter (some b) g seen c):=by rw[t.heap];exact g5
 have hb:w.heap[b]? =some (.map es c):=by rw[t.heap];exact J
 have M:r<h.size:=(hF r ((g1 r).2 (.inr rfl))).1;subst g6;rcases run_next_at (P:=P) w ty r b g g seen es g hr hb (λx p=>G.2 x p) (Ag5 _)with⟨h0,j⟩|⟨e,he,w1,hw1,j⟩
 ·have I:(execOp a.eval ⟨some d,.next X false,ty,pos,af,none⟩).run P w= .ok (.value (.tuple #[.bool false])) w:=by simp[execOp,D.eval p,j]
  rw[I];have v:rem=[]:=by
   have:(leftOf es seen).toList=[]:=by
    have:=Array.eq_empty_of_size_eq_zero h0;rw[this]
   rw[this]at H;cases rem with
   |nil=>rfl
   |cons _ _=>cases H
  exact u _ _ (k0 v _ _ (D.put hd _) t)
 ·have I:(execOp a.eval ⟨some d,.next X false,ty,pos,af,none⟩).run P w= .ok (.value (.tuple #[.bool true,e.key,e.val])) (setBlock w1 r (.mapIter (some b) g (seen.push e.born) g)):=by simp[execOp,D.eval p,j]
  rw[I];obtain⟨p1,p2,U⟩:=List.append_of_mem he;rw[U,Ah5,Ag9]at H;obtain⟨l1,lx,hl,q1,q2⟩:=List.map_eq_append_iff.1 H.symm;obtain⟨x,s,V,q3,q4⟩:=List.map_eq_cons_iff.1 q2;subst V;have k:e.key=kv x.1/\e.val=vv x.2:=by
   have:=q3;simp only[Aja]at this;exact⟨this.1.symm,this.2.symm⟩
  have z:((leftOf es seen).toList.map (·.born)).Nodup:=by
   unfold leftOf;rw[Array.toList_filter];exact(List.Sublist.map _ List.filter_sublist).nodup G.1
  have q:(leftOf es (seen.push e.born)).toList=p1++p2:=by
   have e1:(leftOf es (seen.push e.born)).toList=(leftOf es seen).toList.filter λy=>y.born != e.born:=by
    unfold leftOf;rw[Array.toList_filter,Array.toList_filter,List.filter_filter];congr 1;funext y;cases I:seen.contains y.born<;>cases h2:(y.born==e.born)<;>simp_all
   rw[e1,U,Ai5,List.filter_cons];rw[U,Ah5,Ag9,Ajw]at z;obtain⟨_,n2,n3⟩:=z;obtain⟨n4,_⟩:=Ajh.1 n2;simp only[bne_self_eq_false,Ail,Aim];rw[Aj9.2,Aj9.2]
   ·intro y W;simp only[bne_iff_ne,ne_eq];exact λY=>n4 (by rw[<-Y];exact Ahr.2 ⟨y,W,rfl⟩)
   ·intro y W;simp only[bne_iff_ne,ne_eq];exact λY=>n3 _ (Ahr.2 ⟨y,W,rfl⟩) _ (Ahf ..) Y
  obtain⟨s1,s2,s3⟩:=rX (o:= .mapIter (some b) g (seen.push e.born) g) M gn;have Z:Wd B (h.setIfInBounds r (.mapIter (some b) g (seen.push e.born) g)) (setBlock w1 r (.mapIter (some b) g (seen.push e.born) g)):=by
   have i:Wd B h w1:=by
    rcases hw1 with rfl|rfl
    ·exact t
    ·exact t.drew
   exact⟨by show w1.heap.setIfInBounds _ _=_;rw[i.heap],i.os,i.tape,i.out⟩
  obtain⟨u1,u2⟩:=hs.upd (H':=MI kv vv b r l (l1++s)) (h':=h.setIfInBounds r (.mapIter (some b) g (seen.push e.born) g)) .head Ω λF C k2=>⟨F,⟨C.1,gn,es,g,g,seen.push e.born,by rw[s1];exact J,g3,G,s2,rfl,by rw[q,Ah5,Ah5,q1,q4]⟩,λx p=> .inl p,λx p aa=>by
   have:x≠r:=λe=>aa ((C.1 x).2 (.inr e));rw[Aj8 (Ne.symm this)]⟩
  have:=C x l1 s _ hl u1 u2 (λw' A=>by
   have:=run_entry_at (P:=P) w' r b g seen es g e (by rw[A.heap];exact s2) (by rw[A.heap,s1];exact J) (by
    have:e∈(leftOf es seen).toList:=he;unfold leftOf at this;rw[Array.toList_filter]at this;exact(Ah7.1 this).1) G.1
   rw[this,k.1,k.2])
  rw[k.1,k.2];exact u _ _ (this _ _ (D.put hd _) Z)
def WL{Q:Act->Prop}{v:Value}(c:B5 m X=some (.pointer (some ⟨r,0,none⟩)))(g:∀w,C w->(Instr.entry (.pointer (some ⟨r,0,none⟩))).run P w= .ok v w)(hd:Nat.blt d n.1=true)
  (k:QF P ops C Q rest n ((d,v)::m)):QF P ops C Q (⟨some d,.entry X,ty,pos,af,none⟩::rest) n m:=λa b=>
 GH b hd (λw i=>by simp[execOp,b.eval c,g w i]) k
def St.miMP(g:St S (MI kv vv b r l rem::L) h):St S (MP kv vv b l::L) h:=by
 obtain⟨F,⟨i,p,es,c,d,seen,j,k,m,_⟩,n,o⟩:=g.2;exact⟨g.1,λx=>x=b,⟨λ_=>Iff.rfl,es,c,j,k,m⟩,λx a=>n x ((i x).2 (.inl a)),o.mono λx a=>⟨a.1,λe=>a.2 ((i x).2 (.inl e))⟩⟩
end
def lU{b:Type}{c:Bool}{a y:b}(h:cond c (some a) none=some y):y=a:=by cases c<;>simp_all
def oW{d:Type}(c:Bool)(a b z:Option d):(cond c a b).or z=cond c (a.or z) (b.or z):=by cases c<;>rfl
def dG{d g:Type}{f:d->Option g}{C:g}{x:d}{l1 b:List d}{K:Option g}{r:g}(c:∀e y,f e=some y->y=C)(E:cond ((l1++x::b).all λe=>(f e).isNone) K (some C)=some r):(f x).or (cond ((l1++b).all λe=>(f e).isNone) K (some C))=some r:=by
 cases a:f x with
 |none=>
  rw[Option.none_or];rw[List.all_append,List.all_cons,a]at E;rw[List.all_append];simpa using E
 |some y=>
  have:=c x y a;subst this;rw[List.all_append,List.all_cons,a]at E;simpa using E
def oM:List Nat->Nat->List HP->Option (List HP)
 |[],m,L=>some (L.drop m)
 |i::is,m,L=>match L[i]? with
  |some H=>match oM is m (L.eraseIdx i)with
   |some r=>some (H::r)
   |none=>none
  |none=>none
def aF:∀{L:List HP}{i:Nat}{H:HP},L[i]? =some H->RA L H (L.eraseIdx i)
 |[],i,H,h=>by simp at h
 |K::L,0,H,h=>by
  simp only[Aiw,Ahv]at h;subst h;exact .head
 |K::L,i+1,H,h=>by
  simp only[Air]at h;exact .tail (aF h)
def Sp.dropn{S:Nat->Prop}{h:AV}:∀(m:Nat){L:List HP}{A:Nat->Prop},Sp S L h A->Sp S (L.drop m) h A
 |0,L,A,k=>k
 |m+1,[],A,k=>k
 |m+1,H::L,A,⟨F,_,_,k⟩=>Sp.dropn m (k.mono λb a=>a.1)
def Sp.sel{S:Nat->Prop}{h:AV}:∀(is:List Nat){m:Nat}{L a:List HP}{A:Nat->Prop},oM is m L=some a->Sp S L h A->Sp S a h A
 |[],m,L,a,A,e,k=>by cases e;exact k.dropn m
 |i::is,m,L,a,A,e,k=>by
  simp only[oM]at e;split at e
  ·rename_i H b;split at e
   ·rename_i r c;cases e;obtain⟨F,d,g,j⟩:=Sp.pick (aF b) k;exact⟨F,d,g,Sp.sel is c j⟩
   ·cases e
  ·cases e
def St.sel{a:List HP}(b:St S L h)(is:List Nat)(m:Nat)(e:oM is m L=some a):St S a h:=⟨b.1,Sp.sel is e b.2⟩
abbrev IV(B:World)(S:Nat->Prop)(h:AV)(n:FN)(a:Act)(w:World)(m:SM)(L:List HP)(F:(Nat->Prop)->AV->Prop):Prop:=∃(S':Nat->Prop)(h':AV),Fr n a m/\Wd B h' w/\St S' L h'/\CO S h S' h'/\F S' h'
def aG(h:vs.all (·.oneCell')=true):∀u∈vs,u.oneCell'=true:=λu a=>Agz.1 h u a
section
variable{P:Program}{ops:Array Oper}{Q:Exit->Act->World->Prop}{n:FN}{m:SM}{rest:List Oper}
variable{d:Nat}{ty:TypeId}{pos:String}{af:Array Edge}{X Y:Operand}{B:World}{h:AV}{S:Nat->Prop}{L L2:List HP}{v:Value}
def Gq{T d:TypeId}{cs:List Value}{sz:Nat}(g:B5 m X=some (.pointer (some ⟨b,o,none⟩)))(i:B5 m Y=some v)(j:v.cells=vs.toArray)(l:vs.all (·.oneCell')=true)
  (p:LD P T sz ag=true) (c:vs.length=sz) (q:St S L h) (r:Nm L (Bx b d cs) (Bx b d cs') L2) (a:Nat.ble (o+sz) cs.length=true) (s:IY cs o vs=cs')
  (k:∀h',St S L2 h'->CO S h S h'->LF P ops Q rest B h' n m):LF P ops Q (⟨none,.store T X Y,ty,pos,af,none⟩::rest) B h n m:=NT g i j (aG l) p c q r a s k
def EM{T c:TypeId}{cs:List Value}{sz:Nat}(d:B5 m X=some (.pointer (some ⟨b,0,none⟩)))(g:B5 m Y=some v)(i:v.cells=vs.toArray)(j:vs.all (·.oneCell')=true)
  (l:LD P T sz ag=true) (a:Nat.beq vs.length sz=true) (o:St S L h) (r:Nm L (Bx b c cs) (Bx b c vs) L2) (p:Nat.beq cs.length sz=true)
  (k:∀h',St S L2 h'->CO S h S h'->LF P ops Q rest B h' n m):LF P ops Q (⟨none,.store T X Y,ty,pos,af,none⟩::rest) B h n m:=by
 have q:=Ag1 a;have s:=Ag1 p;refine NT d g i (aG j) l q o r (by simp[s]) ?_ k;unfold IY;rw[Ais Ω];simp
end
section
variable{P:Program}{ops:Array Oper}{C:World->Prop}{Q:Act->Prop}{n:FN}{m:SM}{rest:List Oper}{v:Value}
variable{d:Nat}{ty:TypeId}{pos:String}{af:Array Edge}{X Y:Operand}{h:AV}{S:Nat->Prop}{L:List HP}{t:TypeId}
def TL{T:Nat}{cs:List Value}(g:CK C h)(i:St S L h)(j:B5 m X=some (.pointer (some ⟨b,o,none⟩)))(l:Bx b T cs∈L)(c:cs[o]? =some v)(p:LD P t 1 false=true)(hd:Nat.blt d n.1=true)
  (k:QF P ops C Q rest n ((d,v)::m)):QF P ops C Q (⟨some d,.load t X,ty,pos,af,none⟩::rest) n m:=by
 have e:(cs.drop o).take 1=[v]:=by
  have a:=(Ag0.1 c).1;have q:=(Ag0.1 c).2;rw[Ai2 a,q];simp
 exact Fk (vs:=[v]) g i j l e rfl p rfl hd k
def Aaw{o:Oper}{e:Nat}{b:Bool}(p:o.guard=some (j,b))(q:(ops[j]?).bind (·.dst)=some e)(g:lk m e=some u)(s:yb u≠some b)(i:o.dst=some d)(hd:Nat.blt d n.1=true)(k:QF P ops C Q rest n ((d,undef)::m)):QF P ops C Q (o::rest) n m:=by
 intro a c;have l:Region.wanted o (yielded ops a.tmps)=false:=by
  have:=c.at_ e _ g;cases u<;>simp_all [Region.wanted,yielded,yb]
 unfold wpQuiet;rw[Agn (by rw[l];exact Bool.false_ne_true),i];exact k _ (c.put hd _)
def Ach(a:Op)(m:SM):Option Value:=
 match a with
 | .pick c x y=>match B5 m c with
  |some (.bool true)=>B5 m x
  |some (.bool false)=>B5 m y
  |_=>none
 |_=>none
def So(ops:Array Oper)(k:Nat):List Oper->SM->Option SM
 |[],m=>some m
 |o::r,m=>match o.guard,o.dst with
  |some (j,b),some d=>match (ops[j]?).bind (·.dst)with
   |some e=>match lk m e with
    |some u=>match yb u,b with
     |some true,true=>match Ach o.op m with
      |some v=>cond (Nat.blt d k) (So ops k r ((d,v)::m)) none
      |none=>none
     |some false,false=>match Ach o.op m with
      |some v=>cond (Nat.blt d k) (So ops k r ((d,v)::m)) none
      |none=>none
     |_,_=>cond (Nat.blt d k) (So ops k r ((d,undef)::m)) none
    |none=>none
   |none=>none
  |none,some d=>match Ach o.op m with
   |some v=>cond (Nat.blt d k) (So ops k r ((d,v)::m)) none
   |none=>none
  |_,none=>none
def Oz{a:Type}{c:Bool}{x:Option a}{y:a}(h:cond c x none=some y):c=true/\x=some y:=by cases c<;>simp_all
def Zj{b:Bool}(h:yb u=some b):u= .bool b:=by
 cases u<;>simp_all [yb]
def Za{o:Oper}{v:Value}(c:o.guard=none)(hd:o.dst=some d)(a:Ach o.op m=some v)(g:Nat.blt d n.1=true)(k:QF P ops C Q rest n ((d,v)::m)):QF P ops C Q (o::rest) n m:=by
 obtain⟨j,l,p,i,q,s⟩:=o;simp only at c hd a;subst c hd;unfold Ach at a;split at a
 ·split at a
  ·rename_i b;exact Sd b a g k
  ·rename_i b;exact Sd b a g k
  ·cases a
 ·cases a
def PL:∀{l:List Oper}{m p:SM},So ops n.1 l m=some p->QF P ops C Q [] n p->QF P ops C Q l n m
 |[],m,p,h,k=>by cases h;exact k
 |o::r,m,p,h,k=>by
  simp only[So]at h;split at h
  ·rename_i j b d g hd;split at h
   ·rename_i e s;split at h
    ·rename_i u t;split at h
     ·rename_i w;split at h
      ·rename_i v i;obtain⟨a,c⟩:=Oz h;have:=Zj w;subst this;exact bY g s t (Za rfl hd i a (PL c k))
      ·cases h
     ·rename_i w;split at h
      ·rename_i v i;obtain⟨a,c⟩:=Oz h;have:=Zj w;subst this;exact bY g s t (Za rfl hd i a (PL c k))
      ·cases h
     ·rename_i x y;obtain⟨a,c⟩:=Oz h;refine Aaw g s t (λz=>?_) hd a (PL c k);generalize A:yb u=zz at*
      subst z;revert x y;intro x y;exact Bool.rec (motive:=λq=>(some q=some true->q=true->False)->(some q=some false->q=false->False)->False) (λ_ h=>h rfl rfl) (λh _=>h rfl rfl) _ x y
    ·cases h
   ·cases h
  ·rename_i d g hd;split at h
   ·rename_i v i;obtain⟨a,c⟩:=Oz h;exact Za g hd i a (PL c k)
   ·cases h
  ·cases h
def A4{b:SM}(c:Ack (b.map (·.1)) m=some b):QF P ops C (λa=>Fr n a b) [] n m:=rN (kp _ c)
def BK{l:List Oper}{c b:SM}(h:So ops n.1 l m=some c)(d:Ack (b.map (·.1)) c=some b):QF P ops C (λa=>Fr n a b) l n m:=PL h (A4 d)
end
section
variable{P:Program}{ops:Array Oper}{Q:Act->Prop}{n:FN}{m:SM}{rest:List Oper}{d:Nat}{ty:TypeId}{pos:String}{af:Array Edge}{X:Operand}{v:Value}{Ψ:Prop}{f:Nat}{xs:Array Operand}{tys:Array TypeId}{args vs:List Value}{first cap:Array Value}{h:AV}{B:World}{Z:(Nat->Prop)->AV->Prop}
def Jk(i:B5 m X=some (.func (.func f) first cap))(a:xs.toList.mapM (B5 m)=some args)(c:first.toList++args++cap.toList=vs)(g:BI P f=true)(hd:Nat.blt d n.1=true)
  (j:∀h',Ef h h'->CG P f vs.toArray (λb=>b<h'.size) h' (λu S' l=>u=v/\Z S' l))
  (k:QF P ops (Cl B h) Q rest n ((d,v)::m)):QF P ops (Cl B h) Q (⟨some d,.call ⟨.value X,xs,tys⟩,ty,pos,af,none⟩::rest) n m:=
 Kj (Ψ:=True) i a c g hd (λh' o=>(j h' o).mono λ_ _ _ _ p=>⟨p.1,trivial⟩) λ_=>k
def Od(i:B5 m X=some (.func (.func f) first cap))(a:xs.toList.mapM (B5 m)=some args)(c:first.toList++args++cap.toList=vs)(g:BI P f=true)(hd:Nat.blt d n.1=true)
  (j:∀h',Ef h h'->CG P f vs.toArray (λb=>b<h'.size) h' (λu S' l=>u=v/\Ψ/\Z S' l))
  (k:Ψ->QF P ops (Cl B h) Q rest n ((d,v)::m)):QF P ops (Cl B h) Q (⟨some d,.call ⟨.value X,xs,tys⟩,ty,pos,af,none⟩::rest) n m:=
 Kj i a c g hd (λh' o=>(j h' o).mono λ_ _ _ _ p=>⟨p.1,p.2.1⟩) k
end
def iq{n:Int}(h:(decide (-9223372036854775808<=n)&&decide (n<=9223372036854775807))=true):AB n:=by
 simp only[Agu,Ahb]at h;exact h
def Mk{n:Nat}(h:n<=maxLen):AB (n:Int):=by unfold maxLen at h;unfold AB;omega
section
variable{P:Program}{fn:Func}{B:World}{S S':Nat->Prop}{h h':AV}{post:Value->(Nat->Prop)->AV->Prop}{a:Act}{m:SM}{w:World}
def T0{t:Nat}{v:Value}(b:Fr (k,[]) a m)(c:Wd B h' w)(d:fn.results= #[.tmp t])(g:lk m t=some v)(e:CO S h S' h')(kp:post v S' h'):Rt P fn B S h post a w:=rt1 b d g c e kp
end
abbrev XR:=(Nat->Prop)->AR
def Aet(a:List Nat)(f:Nat->Option Value)(X:Nat->Prop):Prop:=∀s,s∈a->∀u,f s=some u->∀b,Pf u=some b->X b
def Abd(R:AR)(As:List Nat)(i:Nat)(h:AV)(v:Value)(h':AV):Prop:=R i v h'/\(As.contains i=true->Yn h v)
def VL(P:Program)(ops:Array Oper)(Q:Exit->Act->World->Prop)(B:World)(n:FN)(m:SM)(h0:AV)(R:XR)(As:List Nat)(i:Nat)(o:Oper)(d:Nat)(c:List (Nat×Nat)):Prop:=
 ∀X mt h,Ef h0 h->(∀b,X b->h0.size<=b/\b<h.size)->PA (R X) h (λfr=>match o.guard with
  |none=>LF P ops (Exit.then (KS B n d (Abd (R X) As i h) h (fr++(m++mt))) Q) [o] B h n (fr++(m++mt))
  |some (g,b)=>∃a,Io ops g=some a/\((lk fr a=some (.bool b)/\LF P ops (Exit.then (KS B n d (Abd (R X) As i h) h (fr++(m++mt))) Q) [{ o with guard:=none}] B h n (fr++(m++mt)))\/∃v,lk fr a=some v/\yb v≠some b/\R X i undef h)) c []
section
variable{P:Program}{ops:Array Oper}{Q:Exit->Act->World->Prop}
end
def RN(P:Program)(ops:Array Oper)(ks:List Nat)(n:FN)(m:SM)(h0:AV)(R:XR):List Nat->Prop
 |[]=>True
 |f::F=>((f<ops.size/\f∉ks)/\N5 ops f=true/\∃o d a,ops[f]? =some o/\o.dst=some d/\Uf ops o a=true/\∀X,Qe P ops n m h0 (R X) f o a)/\RN P ops ks n m h0 R F
def RN.at_{P:Program}{ops:Array Oper}{ks:List Nat}{n:FN}{m:SM}{h0:AV}{R:XR}:∀{F:List Nat},RN P ops ks n m h0 R F->∀f,f∈F->(f<ops.size/\f∉ks)/\N5 ops f=true/\∃o d b,ops[f]? =some o/\o.dst=some d/\Uf ops o b=true/\∀X,Qe P ops n m h0 (R X) f o b
 |[],_,f,a=>by cases a
 |g::F,⟨c,i⟩,f,a=>by
  rcases Agv.1 a with rfl|a
  ·exact c
  ·exact RN.at_ i f a
def RN.cons{P:Program}{ops:Array Oper}{ks:List Nat}{n:FN}{m:SM}{h0:AV}{R:XR}{f d:Nat}{o:Oper}{F:List Nat}(b:List (Nat×Nat))(a:(Nat.blt f ops.size&& !ks.contains f&&N5 ops f)=true)(g:ops[f]? =some o)(hd:o.dst=some d)(c:Uf ops o b=true)(i:∀X,Qe P ops n m h0 (R X) f o b)(t:RN P ops ks n m h0 R F):RN P ops ks n m h0 R (f::F):=by
 simp only[Agu,Ahn]at a;exact⟨⟨⟨(by simpa[Nat.blt]using a.1.1:f+1<=ops.size),λh=>by rw[Ag2.2 h]at a;cases a.1.2⟩,a.2,o,d,b,g,hd,c,i⟩,t⟩
def Fh(P:Program)(ops:Array Oper)(Q:Exit->Act->World->Prop)(B:World)(n:FN)(m:SM)(h0:AV)(R:XR)(ks As:List Nat):Nat->List Oper->List (List (Nat×Nat))->Prop
 |i,o::l,a::pss=>(i∈ks\/match o.dst with|some d=>VL P ops Q B n m h0 R As i o d a|none=>False)/\Fh P ops Q B n m h0 R ks As (i+1) l pss
 |_,_,_=>True
section
variable{P:Program}{ops:Array Oper}{Q:Exit->Act->World->Prop}{B:World}{n:FN}{m:SM}{h0:AV}{R:XR}{ks As:List Nat}
def Fh.at_:∀{l:List Oper}{pss:List (List (Nat×Nat))}{k i:Nat}{o:Oper}{d:Nat},Fh P ops Q B n m h0 R ks As k l pss->l.length=pss.length->k+i∉ks->l[i]? =some o->o.dst=some d->∃a,pss[i]? =some a/\VL P ops Q B n m h0 R As (k+i) o d a
 |[],_,_,_,_,_,_,_,_,h,_=>by simp at h
 |_::_,[],_,_,_,_,_,c,_,_,_=>by simp at c
 |p::l,a::pss,k,0,o,d,g,c,j,b,hd=>by
  simp only[Aiw,Ahv]at b;subst b;simp only[Fh,hd]at g;exact⟨a,rfl,g.1.resolve_left j⟩
 |p::l,a::pss,k,i+1,o,d,g,c,j,b,hd=>by
  simp only[Air]at b;obtain⟨q,s,t⟩:=Fh.at_ (l:=l) (pss:=pss) (k:=k+1) (i:=i) g.2 (by simpa using c) (by rw[show k+1+i=k+(i+1)from Ω];exact j) b hd;rw[show k+(i+1)=k+1+i from Ω];exact⟨q,by simpa using s,t⟩
def Fh.cons{i:Nat}{o:Oper}{l:List Oper}{c:List (Nat×Nat)}{pss:List (List (Nat×Nat))}{d:Nat}(hd:o.dst=some d)(g:As.contains i=false)(j:o.guard=none)
  (h:∀X mt h,Ef h0 h->(∀b,X b->h0.size<=b/\b<h.size)->PA (R X) h (λfr=>LF P ops (Exit.then (KS B n d (R X i) h (fr++(m++mt))) Q) [o] B h n (fr++(m++mt))) c []) (t:Fh P ops Q B n m h0 R ks As (i+1) l pss):Fh P ops Q B n m h0 R ks As i (o::l) (c::pss):=by
 simp only[Fh,hd];refine⟨.inr λX mt p s u=>PA.imp (λfr k=>?_) _ _ (h X mt p s u),t⟩;rw[j];refine λa w x y=>IM (λe a w q=>?_) _ a w (k a w x y);cases e<;>first|exact q|skip
 obtain⟨v,z,A,C,D,F⟩:=q;exact⟨v,z,A,C,D,F,λh=>by rw[g]at h;cases h⟩
def Fh.al{i:Nat}{l:List Oper}{T:Nat}{cs:List Value}{ty:TypeId}{a:String}{g:Array Edge}(j:∀X,R X i=eQ h0 T cs)(k:E8 P T=some cs)(hd:Nat.blt d n.1=true)(t:Fh P ops Q B n m h0 R ks As (i+1) l pss):Fh P ops Q B n m h0 R ks As i (⟨some d,.alloc T,ty,a,g,none⟩::l) ([]::pss):=by
 refine⟨.inr ?_,t⟩;intro X mt h o _;show LF P ops (Exit.then (KS B n d (Abd (R X) As i h) h _) Q) _ B h n _
 refine nN (Ef.refl h) k hd λv h' p r'=>BB p ?_;obtain⟨b,e,c,q,s⟩:=r';have u:R X i v h':=by rw[j];exact⟨b,e,Ah2 o.siz c,q,s⟩
 exact⟨u,λ_=>⟨b,by rw[e];rfl,c⟩⟩
def Fh.skip{i:Nat}{o:Oper}{l:List Oper}{a:List (Nat×Nat)}(h:ks.contains i=true)(t:Fh P ops Q B n m h0 R ks As (i+1) l pss):Fh P ops Q B n m h0 R ks As i (o::l) (a::pss):=
 ⟨.inl (Ag2.1 h),t⟩
end
def rW(h0:AV)(R:XR)(i:Nat):Prop:=∃r,(∀X,R X i=r)/\∀v h,r v h->∃b,Pf v=some b/\h0.size<=b/\b<h.size
def bI{R:XR}:∀i,i∈([]:List Nat)->rW h0 R i:=λi a=>by cases a
def mS{R:XR}{a T:Nat}{cs:List Value}{l:List Nat}(e:∀X,R X a=eQ h T cs)(t:∀i,i∈l->rW h R i):∀i,i∈a::l->rW h R i:=λi c=>by
 rcases Agv.1 c with rfl|c
 ·exact⟨_,e,λv h' ⟨b,d,g,j,_⟩=>⟨b,by rw[d];rfl,g,j⟩⟩
 ·exact t i c
section
variable{P:Program}{ex:List (Nat×AP)}{RR N:AP}{cs:List Code}{B:World}{h:AV}{n:FN}{m m0:SM}{S:Nat->Prop}{L:List HP}
end
def SX(S:Nat->Prop)(h0 h:AV)(X:Nat->Prop):Nat->Prop:=λb=>SN S h0 h b/\¬X b
def SX.mono{X:Nat->Prop}(d:∀b,S b->b<h0.size)(g:Ef h0 h)(j:Ef h h')(u:∀b,X b->c b)(k:∀b,c b->X b\/h.size<=b):CO (SX S h0 h X) h (SX S h0 h' c) h':=by
 have e:=SN.mono d g j;refine⟨λb a=>⟨e.sub b a.1,λl=>?_⟩,λb a=>e.same b a.1,e.siz⟩;rcases k b l with i|i
 ·exact a.2 i
 ·have:b<h.size:=a.1.elim (λx=>Ag6 (d b x) g.siz) (·.2);omega
def SX.lt{X:Nat->Prop}(a:∀b,S b->b<h0.size)(o:Ef h0 h):∀b,SX S h0 h X b->b<h.size:=λb c=>c.1.elim (λx=>Ag6 (a b x) o.siz) (·.2)
def Nb{X:Nat->Prop}(a:St S L h0)(o:Ef h0 h):St (SX S h0 h X) [] h:=⟨SX.lt a.1 o,trivial⟩
def SX.ext{X:Nat->Prop}(a:∀b,S b->b<h0.size)(o:Ef h0 h)(c:∀b,X b->h0.size<=b/\b<h.size):CO S h0 (SX S h0 h X) h:=
 ⟨λb x=>⟨.inl x,λd=>by have:=a b x;have:=(c b d).1;omega⟩,λb g=>o.same b (a b g),o.siz⟩
def SX.done{a:AV}{X:Nat->Prop}(o:Ef h0 h)(j:∀b,X b->h0.size<=b/\b<h.size)(e:CO (SX S h0 h X) h S2 a)(i:St S2 [Aeg (SX S h0 h X) h] a):Ef h a/\CO S2 a (SX S h0 a X) a:=by
 obtain⟨F,⟨k,l⟩,m,_⟩:=i.2;refine⟨⟨e.siz,λb c=>?_⟩,λb c=>?_,λ_ _=>rfl,Ag5 _⟩
 ·rcases Classical.em (SX S h0 h X b)with g|g
  ·exact e.same b g
  ·exact l b ⟨c,g⟩
 ·rcases Ag7 b h.size with g|g
  ·rcases Classical.em (SX S h0 h X b)with d|d
   ·exact⟨d.1.imp_right λx=>⟨x.1,i.1 b c⟩,d.2⟩
   ·exact absurd c (m b ((k b).2 ⟨g,d⟩)).2
  ·exact⟨.inr ⟨Ah2 o.siz g,i.1 b c⟩,λn=>by have:=(j b n).2;omega⟩
def nU(S X:Nat->Prop)(h a:AV)(c:List Nat)(L:List HP):Prop:=(∀b,S b->b<h.size)/\Ef h a/\(∀b,b∈c->(h.size<=b/\b<a.size)/\X b)/\Sp (SX S h a X) L a (λb=>(b<h.size/\¬S b)\/b∈c)
def nU.nil{X:Nat->Prop}{d:AV}(a:St S L h)(o:Ef h d)(i:∀b,X b->h.size<=b/\b<d.size):nU S X h d [] L:=
 ⟨a.1,o,λb j=>(by cases j),Sp.ext a.2 (λb x=>(SX.ext a.1 o i).sub b x) (λc g=>o.same c (g.elim (a.1 c) (·.1))) λc g=> .inl g⟩
def nU.cons{S X:Nat->Prop}{L:List HP}{h d:AV}{g:List Nat}{b T:Nat}{cs:List Value}(k:nU S X h d g L)(i:h.size<=b)(j:b<d.size)(l:d[b]? =some (.cells cs.toArray T (0,0)))(m:b∉g)(n:X b):nU S X h d (b::g) (Bx b T cs::L):=by
 obtain⟨o,p,q,s⟩:=k;refine⟨o,p,λc a=>?_,λc=>c=b,⟨λ_=>Iff.rfl,l⟩,λc a=>by subst a;exact .inr (Ahf ..),s.mono λc a=>⟨a.imp_right (Aht _),λe=>?_⟩⟩
 ·rcases Agv.1 a with rfl|a
  ·exact⟨⟨i,j⟩,n⟩
  ·exact q c a
 ·subst e;rcases a with a|a
  ·have:=a.1;omega
  ·exact m a
def nU.st{X:Nat->Prop}{b:AV}{j:List Nat}(k:nU S X h b j L):St (SX S h b X) L b:=by
 obtain⟨l,g,i,m⟩:=k;refine⟨SX.lt l g,m.mono λc a=>?_⟩;rcases a with a|a
 ·exact⟨Ag6 a.1 g.siz,λd=>d.1.elim a.2 λx=>Ω⟩
 ·exact⟨(i c a).1.2,λd=>d.2 (i c a).2⟩
def Aet.at_{a:List Nat}{f:Nat->Option Value}{X:Nat->Prop}(k:Aet a f X){s:Nat}(h:a.contains s=true)(e:f s=some u)(z:Pf u=some b):X b:=k s (Ag2.1 h) u e b z
def Ael{α}(l:List α)(i:Int):Option (List α):=if 0<=i/\i<=l.length/\0<l.length then some (l.take i.toNat) else none
section
variable{P:Program}{ops:Array Oper}{C:World->Prop}{Q:Act->Prop}{n:FN}{m m':SM}{rest:List Oper}
variable{d:Nat}{ty:TypeId}{pos:String}{af:Array Edge}{X Y Z:Operand}{t:TypeId}{kd:IntKind}{v p:Value}{S:Nat->Prop}{h:AV}
def Sl.ne{α}{r:A9 α}{l:List α}(k:Sl S h r v l)(h0:0<l.length):∃(b o cap:Nat),v= .slice (some ⟨b,o,none⟩) l.length cap/\l.length<=cap/\cap<=maxLen/\∀i x,l[i]? =some x->Pt S h r (.pointer (some ⟨b,o+i*r.sz,none⟩)) x:=by
 rcases k with⟨_,rfl⟩|⟨a,cap,h1,h4,h5,h6⟩
 ·cases h0
 ·have c:=(h6 0 l[0] (by simp[h0])).1;obtain⟨b,o,g⟩:=a;simp only at c;subst c;exact⟨b,o,cap,h1,h4,h5,λi x d=>(h6 i x d).2⟩
def rE{α}{r:A9 α}{e:TypeId}{l g:List α}(p:B5 m X=some v)(q:B5 m Y=some (.int kd y))(k0:Sl S h r v l)(s:Q4 P t e r.sz=true)(a:Ael l y=some g)(hd:Nat.blt d n.1=true)
  (k:∀u,Sl S h r u g->QF P ops C Q rest n ((d,u)::m)):QF P ops C Q (⟨some d,.slice t X none (some Y) none,ty,pos,af,none⟩::rest) n m:=by
 unfold Ael at a;split at a
 ·rename_i w;obtain⟨D,F,z⟩:=w;cases a;obtain⟨b,o,cap,rfl,G,A,B⟩:=k0.ne z;refine ZZ p q (j:=y.toNat) Ω s Ω hd (k _ (.inr ⟨⟨b,o,none⟩,cap,?_,?_,A,λi x c=>⟨rfl,?_⟩⟩))
  ·rw[Ah3,Ajd Ω]
  ·rw[Ah3];omega
  ·rw[Ai4]at c;split at c
   ·exact B i x c
   ·cases c
 ·cases a
end
def JU:A9 Value where
 sz:=1
 ag:=false
 rd:=λ_ _ cs x=>cs=[x]/\x.oneCell'=true
 len:=λ⟨h,_⟩=>by rw[h];rfl
 one:=λ⟨h,k⟩ v a=>by rw[h]at a;simp at a;rw[a];exact k
 mono:=λk _ _=>k
def XX{α}(r:A9 α)(e:TypeId):List Value->List (List α)->List HP
 |u::us,l::a=>OS r e u l::XX r e us a
 |_,_=>[]
def OO{α}(r:A9 α)(e T:TypeId)(v:Value)(ll:List (List α)):HP where
 holds:=λS F h=>∃vs:List Value,vs.length=ll.length/\Sp S (OS JU T v vs::XX r e vs ll) h F
 loc:=λ⟨vs,a,k⟩ s e=>⟨vs,a,Sp.ext k s e λ_ x=>x⟩
section
variable{α:Type}{r:A9 α}{e T:TypeId}{v u:Value}{l:List α}{vs:List Value}{ll:List (List α)}{S F:Nat->Prop}{h:AV}{L L2:List HP}
def St.ooOpen(c:St S (OO r e T v ll::L) h):∃vs:List Value,vs.length=ll.length/\St S (OS JU T v vs::RC (XX r e vs ll)::L) h:=by
 obtain⟨F,⟨vs,i,G,j,d,k⟩,g,l⟩:=c.2;exact⟨vs,i,c.1,G,j,λb a=>g b (d b a),λb=>F b/\¬G b,k,λb a=>⟨g b a.1,a.2⟩,l.mono λb a=>⟨⟨a.1,λx=>a.2 (d b x)⟩,λx=>a.2 x.1⟩⟩
def Rr(g:vs.length=ll.length)(c:St S (OS JU T v vs::RC (XX r e vs ll)::L) h):St S (OO r e T v ll::L) h:=by
 obtain⟨G,i,j,k,l,d,m⟩:=c.2;exact⟨c.1,λb=>G b\/k b,⟨vs,g,G,i,λ_ x=> .inl x,Sp.mono l λb a=>⟨.inr a,(d b a).2⟩⟩,λb a=>a.elim (j b) λx=>(d b x).1,m.mono λb a=>⟨a.1.1,λx=>x.elim a.1.2 a.2⟩⟩
def XX.pick:∀{vs:List Value}{ll:List (List α)}{i:Nat}{u:Value}{l:List α},vs[i]? =some u->ll[i]? =some l->
  ∃M,RA (XX r e vs ll) (OS r e u l) M/\∀c d,RA (XX r e (vs.set i c) (ll.set i d)) (OS r e c d) M
 |[],_,_,_,_,a,_=>by simp at a
 |_::_,[],_,_,_,_,b=>by simp at b
 |g::us,j::k,0,u,l,a,b=>by
  simp only[Aiw,Ahv]at a b;subst a;subst b;exact⟨_,.head,λ_ _=> .head⟩
 |g::us,j::k,i+1,u,l,a,b=>by
  simp only[Air]at a b;obtain⟨M,p,q⟩:=XX.pick a b;exact⟨_,.tail p,λc d=> .tail (q c d)⟩
def TJ{i:Nat}(s:vs[i]? =some u)(t:ll[i]? =some l):∃M,(∀{S:Nat->Prop}{h:AV}{L:List HP},St S (RC (XX r e vs ll)::L) h->St S (OS r e u l::RC M::L) h)/\
  ∀d g {S:Nat->Prop} {h:AV} {L:List HP},St S (OS r e d g::RC M::L) h->St S (RC (XX r e (vs.set i d) (ll.set i g))::L) h:=by
 obtain⟨M,p,q⟩:=XX.pick (r:=r) (e:=e) s t;refine⟨M,λ{S h L} c=>?_,λd g {S h L} c=>?_⟩
 ·obtain⟨F,v,n,w⟩:=c.2;obtain⟨G,k,j,m⟩:=Sp.pick p v;exact⟨c.1,G,k,λb a=>n b (j b a),λb=>F b/\¬G b,m,λb a=>⟨n b a.1,a.2⟩,w.mono λb a=>⟨⟨a.1,λx=>a.2 (j b x)⟩,λx=>a.2 x.1⟩⟩
 ·obtain⟨G,k,j,y,m,o,z⟩:=c.2;exact⟨c.1,λb=>G b\/y b,O1 (q d g) ⟨G,k,λ_ x=> .inl x,Sp.mono m λb a=>⟨.inr a,(o b a).2⟩⟩,λb a=>a.elim (j b) λx=>(o b x).1,z.mono λb a=>⟨a.1.1,λx=>x.elim a.1.2 a.2⟩⟩
def Wc:∀{vs:List Value}{cs:List Value},M6 S h JU cs vs->cs=vs
 |[],_,k=>k
 |x::vs,cs,⟨c,i,e,d,g⟩=>by
  have a:c=[x]:=d.1;have b:=Wc g;subst e;subst a;subst b;rfl
def Z9{S2:Nat->Prop}:∀{vs:List Value}{ll:List (List α)},vs.length=ll.length->(∀(i:Nat)(u:Value)(l:List α),vs[i]? =some u->ll[i]? =some l->Sl S2 h r u l)->M6 S2 h (A9.sl r) vs ll
 |[],[],_,_=>rfl
 |u::vs,l::ll,c,k=>⟨[u],vs,rfl,⟨u,rfl,k 0 u l rfl rfl⟩,Z9 (Nat.succ.inj c) λi d g a b=>k (i+1) d g a b⟩
def kK{S2:Nat->Prop}:∀{vs:List Value}{ll:List (List α)}{A:Nat->Prop},Sp S (XX r e vs ll) h A->(∀b,S b->S2 b)->(∀b,A b->S2 b)->∀(i:Nat)(u:Value)(l:List α),vs[i]? =some u->ll[i]? =some l->Sl S2 h r u l
 |[],_,_,_,_,_,_,_,_,c,_=>by simp at c
 |_::_,[],_,_,_,_,_,_,_,_,d=>by simp at d
 |n::us,o::p,A,⟨F,j,k,m⟩,s,a,0,u,l,c,d=>by
  simp only[Aiw,Ahv]at c d;subst c;subst d;exact OS.sl (HP.loc _ j s λ_ _=>rfl) λb g=>a b (k b g)
 |n::us,o::p,A,⟨F,j,k,m⟩,s,a,i+1,u,l,c,d=>by
  simp only[Air]at c d;exact kK m s (λb g=>a b g.1) i u l c d
def St.ooPub(a:St S (OO r e T v ll::L) h):∃S',St S' (OS (A9.sl r) T v ll::L) h/\CO S h S' h:=by
 obtain⟨vs,c,a⟩:=a.ooOpen;obtain⟨F,i,s,d,j⟩:=a.pub (.tail .head);have ks:=kK (S2:=λb=>S b\/F b) i (λ_ x=> .inl x) λ_ x=> .inr x;refine⟨_,?_,j⟩;obtain⟨G,k,l,m⟩:=d.2;refine⟨d.1,G,?_,l,m⟩;rcases k with⟨n,o,p⟩|⟨g,cap,cur,k1,k2,k3,k4,k5,k6,k7⟩
 ·subst o;have:ll=[]:=List.length_eq_zero_iff.1 c.symm;exact .inl ⟨n,this,p⟩
 ·rw[c]at k1 k4 k7;refine .inr ⟨g,cap,cur,k1,k2,k3,k4,k5,k6,?_⟩;have q:=Wc k7;have:=Z9 c ks;rw[<-q]at this;exact this
def aQ:∀{n:Nat}{A:Nat->Prop},Sp S (XX r e (List.replicate n (.slice none 0 0)) (List.replicate n ([]:List α))) h A
 |0,_=>trivial
 |n+1,A=>⟨λ_=>False,.inl ⟨⟨none,rfl⟩,rfl,λ_ x=>x⟩,λ_ x=>x.elim,aQ⟩
def St.ooNil{n:Nat}(a:St S (OS JU T v (List.replicate n (.slice none 0 0))::L) h):St S (OO r e T v (List.replicate n ([]:List α))::L) h:=by
 refine Rr (vs:=List.replicate n (.slice none 0 0)) (by simp) ?_;obtain⟨G,c,d,g⟩:=a.2;exact⟨a.1,G,c,d,λ_=>False,aQ,λ_ x=>x.elim,g.mono λb i=>⟨i,λx=>x⟩⟩
end
abbrev rB(a:Type):=(Nat->Prop)->AV->Value->a->Prop
def A9.fnr{o p:Type}(P:Program)(AR:XW o)(j:rB p):A9 (o->Option p) where
 sz:=1
 ag:=false
 rd:=λS q cs t=>∃(f:FuncId)(a:Array Value),cs=[.func (.func f) #[] a]/\BI P f=true/\∀(S':Nat->Prop)(h':AV),(∀b,S b->S' b)->(∀b,S b->h'[b]? =q[b]?)->∀L,St S' L h'->∀x y vs,AR S' h' vs x->t x=some y->
  CG P f (vs++a.toList).toArray S' h' (λv c d=>j c d v y/\St c L d)
 len:=λ⟨_,_,q,_⟩=>by rw[q];rfl
 one:=λ⟨_,_,q,_⟩ v i=>by rw[q]at i;simp at i;rw[i];rfl
 mono:=λ⟨f,a,k,l,m⟩ s e=>⟨f,a,k,l,λS' h' s' n=>m S' h' (λb g=>s' b (s b g)) λb g=>(n b (s b g)).trans (e b g)⟩
def Rd.fnr{i j:Type}{AR:XW i}{g:rB j}{S l v}{m:i->Option j}(k:Rd S l (A9.fnr P AR g) v m):
  ∃(f:FuncId)(a:Array Value),v= .func (.func f) #[] a/\BI P f=true/\∀(S':Nat->Prop)(h':AV),(∀b,S b->S' b)->(∀b,S b->h'[b]? =l[b]?)->∀L,St S' L h'->∀x y vs,AR S' h' vs x->m x=some y->
  CG P f (vs++a.toList).toArray S' h' (λv c d=>g c d v y/\St c L d):=by
 obtain⟨_,rfl,f,a,rfl,l⟩:=k;exact⟨f,a,rfl,l⟩
def O2{k l:Type}{AR:XW k}{g:rB l}{S h}{m:k->Option l}(f:FuncId)(a:Array Value)(i:BI P f=true)
  (j:∀(S':Nat->Prop)(h':AV),(∀b,S b->S' b)->(∀b,S b->h'[b]? =h[b]?)->∀L,St S' L h'->∀x y vs,AR S' h' vs x->m x=some y->CG P f (vs++a.toList).toArray S' h' (λv c d=>g c d v y/\St c L d)):
  Rd S h (A9.fnr P AR g) (.func (.func f) #[] a) m:=⟨_,rfl,f,a,rfl,i,j⟩
def Aft{b c:Type}(r:A9 b)(r':A9 c):rB (List b×List c):=λS d v y=>∃v1 a,v= .tuple #[v1,a]/\Sl S d r v1 y.1/\Sl S d r' a y.2
def CG.grow{P f args S h}{b a:Value->(Nat->Prop)->AV->Prop}(k:CG P f args S h b)(c:∀v S' h',b v S' h'->∃S2,CO S' h' S2 h'/\a v S2 h'):CG P f args S h a:=
 λB w d=>(k B w d).mono λ_ _ ⟨v,S',h',g,i,j,l⟩=>let ⟨S2,e,m⟩:=c v S' h' l;⟨v,S2,h',g,i,j.trans e,m⟩
def Qj{q s:Type}{r:A9 q}{r':A9 s}{e i:TypeId}{f:FuncId}{a:Array Value}{t:AV}{y:List q×List s}
  (k:CG P f a S t (λv S' h'=>∃v1 b,v= .tuple #[v1,b]/\St S' (OS r e v1 y.1::OS r' i b y.2::L) h')):
  CG P f a S t (λv S' h'=>Aft r r' S' h' v y/\St S' L h'):=by
 refine k.grow λv S' h' ⟨v1,b,j,l⟩=>?_;obtain⟨p,c,m,n⟩:=l.pubs .head;obtain⟨S2,d,g,o⟩:=c.pubs .head;exact⟨S2,m.trans g,⟨v1,b,j,n.mono g.sub g.same,o⟩,d⟩
end Go.Proofs.YtabonambpbofgaaGreat
