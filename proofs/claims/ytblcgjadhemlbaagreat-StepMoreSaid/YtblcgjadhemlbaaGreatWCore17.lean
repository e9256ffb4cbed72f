import Derived.Test.YtblcgjadhemlbaaGreatWCore15
import Derived.Lib.Overlaps
import Derived.Lib.AppendZerosOnto
namespace Go.Proofs.YtblcgjadhemlbaaGreat
set_option linter.all false
open Go.RowKit
def Uq (b o j:Nat):(⟨b,o,none⟩:Addr).add j=⟨b,o+j,none⟩:=by unfold Addr.add;split<;>simp_all
section
variable {S:Nat→Prop}{L:List HP}{h:BM}
def Zl {α}{r:BZ α}{b e cap:Nat}{cs:List Value}{l:List α}(c:St S (Bx b e cs::L) h) (d:l.length≤cap) (g:cap≤maxLen) (i:cs.length=cap*r.sz) (j:LG S h r (cs.take (l.length*r.sz)) l):
  St S (OS r e (.slice (some ⟨b,0,none⟩) l.length cap) l::L) h:=
 (c.upd (H':=OS r e (.slice (some ⟨b,0,none⟩) l.length cap) l) .head (qX _) λF a _=>⟨F,.inr ⟨b,cap,cs.toArray,rfl,a.1,a.2,d,g,by simpa using i,by simpa using j⟩,λ_ k=> .inl k,λ_ _ _=>rfl⟩).1
def St.bxcell {b T:Nat}{cs:List Value}(a:St S L h) (c:Bx b T cs∈L):h[b]? =some (.cells cs.toArray T (0,0)):=by
 obtain⟨F,k,_⟩:=a.get c;exact k.2
end
section
variable {P:Program}{ops:Array Oper}{C:World→Prop}{Q:Act→Prop}{n:FN}{m m':SM}{rest:List Oper}
variable {d:Nat}{ty:TypeId}{pos:String}{af:Array Edge}{X Y Z:Operand}{t:TypeId}{kd:IntKind}{v p:Value}
def M6 {e sz:Nat}(b:LJ P t e sz=true):P.underlying t=some (.slice (P.elem t))∧∀w,(sizeOf (P.elem t)).run P w= .ok sz w:=by
 obtain⟨i,a,c,d,j⟩:=MH b
 have g:P.elem t=e:=by simp [Program.elem,a]
 rw[g]
 exact⟨a,λw=>by simp [sizeOf,typeInfo,c,d]⟩
def Zn {b o len cap e sz j:Nat}{y:Int}(i:Ca m X=some (.slice (some ⟨b,o,none⟩) len cap)) (l:Ca m Y=some (.int kd y)) (p:y=(j:Int)) (q:LJ P t e sz=true) (v:j≤cap) (hd:Nat.blt d n.1=true)
  (k:QF P ops C Q rest n ((d,.slice (some ⟨b,o,none⟩) j cap)::m)):QF P ops C Q (⟨some d,.slice t X none (some Y) none,ty,pos,af,none⟩::rest) n m:=λa c=>by
 obtain⟨g,s⟩:=M6 q
 subst p
 refine Ge c hd (λw _=>?_) k
 have u:(⟨b,o,none⟩:Addr).add 0=⟨b,o,none⟩:=by rw[Uq];rfl
 simp [execOp,c.eval i,c.eval l,run_sliceAt_slice _ _ _ _ _ _ g,run_slice_h w t _ len cap g kd (j:Int) (by omega) (by omega),s,sliced,u]
def Wu {c:Option Addr}{len cap e sz:Nat}{b:TypeId}(i:Ca m X=some (.slice c len cap)) (j:LJ P t e sz=true) (hd:Nat.blt d n.1=true) (k:QF P ops C Q rest n ((d,.int .i64 cap)::m)):
  QF P ops C Q (⟨some d,.call ⟨.builtin .cap,#[X],#[t]⟩,b,pos,af,none⟩::rest) n m:=λa g=>by
 obtain⟨l,o⟩:=M6 j
 exact Ge g hd (λw _=>by simp [execOp,resolve,invoke,builtin,g.eval i,run_cap_slice w t _ c len cap l,goInt]) k
end
section
variable {P:Program}{ops:Array Oper}{Q:Exit→Act→World→Prop}{n:FN}{m:SM}{rest:List Oper}
variable {d:Nat}{ty:TypeId}{pos:String}{af:Array Edge}{X Y:Operand}{B w:World}{h:BM}{S:Nat→Prop}{L L2:List HP}{v:Value}
def aE {T l t2 e sz b o dl dc sl sc:Nat}{g:Addr}{cs a:List Value}(m:LJ P l e sz=true) (n:a.length=Nat.min sl dl*sz) (p:w.heap[b]? =some (.cells cs.toArray T (0,0)))
  (q:∀j u,a[j]? =some u→w.cell? (g.add j)=some u) (c:o+a.length≤cs.length) (s:∀u∈a,u.oneCell'=true):
  (Builtin.copy_ #[l,t2] ty #[.slice (some ⟨b,o,none⟩) dl dc,.slice (some g) sl sc]).run P w= .ok (goInt (Nat.min sl dl)) (w.setRow b (IY cs o a).toArray):=by
 obtain⟨i,t,v,x,z⟩:=MH m
 have y:=run_firstCells_some (P:=P) w sz (Nat.min sl dl) g sl sc a n q
 have d:=run_storeCells_at P b o T a 0 cs.toArray w p (by simpa using c) s
 have k:(List.take (o+0) cs.toArray.toList++a++List.drop (o+0+a.length) cs.toArray.toList)=IY cs o a:=by simp [IY]
 rw[k] at d
 simp [Builtin.copy_,run_underlying t,Builtin.lenOf,sizeOf,typeInfo,v,x,y,d]
end
def LG.take {α S h}{r:BZ α}:∀{l:List α}{cs},LG S h r cs l→∀i,LG S h r (cs.take (i*r.sz)) (l.take i)
 |[],_,k,i=>by have k:_=[]:=k;subst k;simp [LG]
 |x::l,_,⟨b,c,e,a,d⟩,0=>by simp [LG]
 |x::l,_,⟨b,c,e,a,d⟩,i+1=>by
  subst e
  have g:=r.len a
  refine⟨b,c.take (i*r.sz),?_,a,d.take i⟩
  rw[sX,Nat.add_comm (i*r.sz),←g,List.take_append]
  rw[List.take_of_length_le (by omega),Nat.add_sub_cancel_left]
def LG.drop {α S h}{r:BZ α}:∀{l:List α}{cs},LG S h r cs l→∀i,LG S h r (cs.drop (i*r.sz)) (l.drop i)
 |[],_,k,i=>by have k:_=[]:=k;subst k;simp [LG]
 |x::l,_,⟨b,a,e,c,d⟩,0=>by subst e;rw[Nat.zero_mul];exact⟨b,a,rfl,c,d⟩
 |x::l,_,⟨b,a,e,c,d⟩,i+1=>by
  subst e
  have g:=r.len c
  have:(b++a).drop ((i+1)*r.sz)=a.drop (i*r.sz):=by
   rw[sX,Nat.add_comm (i*r.sz),←g,List.drop_append]
   rw[List.drop_of_length_le (by omega),Nat.add_sub_cancel_left,rQ]
  rw[this,List.drop_succ_cons]
  exact d.drop i
def Ns {α}(l xs:List α):List α:=xs.take l.length++l.drop xs.length
section
variable {P:Program}{ops:Array Oper}{Q:Exit→Act→World→Prop}{n:FN}{m:SM}{rest:List Oper}
variable {d:Nat}{ty:TypeId}{pos:String}{af:Array Edge}{X Y:Operand}{B w:World}{h:BM}{S:Nat→Prop}{L L2:List HP}{v:Value}
def aF {a t2 e sz dl dc sl sc:Nat}{db sb:Option Addr}(b:LJ P a e sz=true) (h0:Nat.min sl dl=0) (w:World):
  (Builtin.copy_ #[a,t2] ty #[.slice db dl dc,.slice sb sl sc]).run P w= .ok (goInt 0) w:=by
 obtain⟨i,c,d,j,k⟩:=MH b
 have g:∀(x:Addr),(loadCells x 0).run P w= .ok #[] w:=λx=>by simpa using run_loadCells_list (P:=P) w x [] (by simp)
 cases db<;>cases sb<;>simp [Builtin.copy_,run_underlying c,Builtin.lenOf,Builtin.firstCells,sizeOf,typeInfo,d,h0,storeCells,g]
def Td {α}{r:BZ α}{T Z t2 e:Nat}{s:Value}{l xs:List α}(hx:Ca m X=some v) (hy:Ca m Y=some s) (ht:LJ P Z e r.sz=true) (y:jA S h r s xs) (hd:Nat.blt d n.1=true) (hs:St S L h) (rp:MA L (OS r T v l) (OS r T v (Ns l xs)) L2)
  (k:∀h',St S L2 h'→C9 S h S h'→LF P ops Q rest B h' n ((d,.int .i64 (Nat.min xs.length l.length:Nat))::m)):LF P ops Q (⟨some d,.call ⟨.builtin .copy,#[X,Y],#[Z,t2]⟩,ty,pos,af,none⟩::rest) B h n m:=by
 intro a w G A
 refine wpList_plain rfl λK hK=>?_
 unfold Oper.wp
 obtain⟨M,p,_⟩:=rp.pick
 obtain⟨F,g1,g2,_⟩:=Sp.pick p hs.2
 obtain⟨ad,cap,hv,ae⟩:=OS.len g1
 have aa:∃sb sc,s= .slice sb xs.length sc:=by
  rcases y with ⟨h1,I⟩|⟨sd,sc,_,h1,_⟩
  ·exact⟨none,0,by rw[h1,I];rfl⟩
  ·exact⟨_,sc,h1⟩
 by_cases h0:Nat.min xs.length l.length=0
 ·obtain⟨sb,sc,ab⟩:=aa
  have c:=aF (P:=P) (ty:=ty) (t2:=t2) (dl:=l.length) (dc:=cap) (sl:=xs.length) (sc:=sc) (db:=ad) (sb:=sb) ht h0 w
  have C:(execOp a.eval ⟨some d,.call ⟨.builtin .copy,#[X,Y],#[Z,t2]⟩,ty,pos,af,none⟩).run P w= .ok (.value (goInt 0)) w:=by
   simp [execOp,resolve,invoke,builtin,G.eval hx,G.eval hy,hv,ab,c]
  rw[C]
  have e:Ns l xs=l:=by
   unfold Ns
   have:xs.length=0∨l.length=0:=by simp only[Nat.min_def] at h0;split at h0<;>omega
   rcases this with h|h
   ·rw[vJ h];simp
   ·rw[vJ h];simp
  rw[e] at rp
  have i:=hs.upd rp (qX _) λF J _=>⟨F,J,λ_ D=> .inl D,λ_ _ _=>rfl⟩
  have:=k h i.1 i.2 _ _ (G.put hd _) A
  rw[h0] at this
  exact hK _ _ this
 ·rcases g1 with ⟨_,I,_⟩|⟨g,cap',cur,J,k2,k3,k4,k5,k6,k7⟩
  ·exact absurd (by rw[I];simp) h0
  ·rcases y with ⟨_,I⟩|⟨sd,sc,news,j1,_,j3,j4⟩
   ·exact absurd (by rw[I];simp) h0
   ·have hg:w.heap[g]? =some (.cells cur.toList.toArray T (0,0)):=by rw[A.heap];simpa using k3
    have ag:=j3.len
    have z:(xs.take l.length).length=Nat.min xs.length l.length:=by rw[sV];exact Nat.min_comm _ _
    have hN:=j3.take l.length
    have t:=hN.len
    rw[z] at t
    have ah:Nat.min xs.length l.length*r.sz≤l.length*r.sz:=sY _ (Nat.min_le_right _ _)
    have ai:l.length*r.sz≤cap'*r.sz:=sY _ k4
    have c:=aE (P:=P) (ty:=ty) (t2:=t2) (b:=g) (o:=0) (dl:=l.length) (dc:=cap') (sl:=xs.length) (sc:=sc) (cs:=cur.toList) (T:=T) ht t hg (λj u hj=>by
     rw[Kv,A.heap]
     exact j4 j u (by rw[vB] at hj;split at hj;exact hj;cases hj)) (by simp;omega) (λu hu=>hN.one u hu)
    have C:(execOp a.eval ⟨some d,.call ⟨.builtin .copy,#[X,Y],#[Z,t2]⟩,ty,pos,af,none⟩).run P w= .ok (.value (goInt (Nat.min xs.length l.length))) (w.setRow g (IY cur.toList 0 (news.take (l.length*r.sz))).toArray):=by
     simp [execOp,resolve,invoke,builtin,G.eval hx,G.eval hy,J,j1,c]
    rw[C]
    obtain⟨h',e1,e2,e3,e4⟩:=QB w g cur (IY cur.toList 0 (news.take (l.length*r.sz))).toArray T (by simpa using hg)
    rw[A.heap] at e2 e4
    have U:(Ns l xs).length=l.length:=by unfold Ns;rw[sA,z,uA];simp only[Nat.min_def];split<;>omega
    have i:=hs.upd rp (h':=h') (by omega) λF1 H m2=>by
     rcases H with ⟨H,m3,m4⟩|⟨g',c',cur',H,q2,q3,_⟩
     ·refine⟨F1,.inl ⟨H,by rw[m3];simp [Ns],m4⟩,λ_ D=> .inl D,λV _ W=>?_⟩
      by_cases e:V=g
      ·subst e
       rw[e3,k3,m3]
       simp [IY]
      ·exact e4 V e
     ·rw[J] at H
      injection H with q _ _
      injection q with q
      injection q with q _ _
      subst q
      refine⟨F1,.inr ⟨g,cap',_,by rw[U];exact J,q2,e3,by omega,k5,?_,?_⟩,λ_ D=> .inl D,λV _ W=>e4 V λe=>W ((q2 V).2 e)⟩
      ·simp only[IY,tE,rQ,List.size_toArray,sA,uA,Array.length_toList,t]
       omega
      ·rw[U]
       have ac:(IY cur.toList 0 (news.take (l.length*r.sz))).take (l.length*r.sz)=news.take (l.length*r.sz)++(cur.toList.take (l.length*r.sz)).drop (xs.length*r.sz):=by
        simp only[IY,tE,rQ,sB]
        rw[List.take_append]
        rw[List.take_of_length_le (by omega)]
        congr 1
        rw[t]
        by_cases hc:xs.length≤l.length
        ·have:Nat.min xs.length l.length=xs.length:=uQ hc
         rw[this,List.drop_take]
        ·have:Nat.min xs.length l.length=l.length:=Nat.min_eq_right (by omega)
         have hm:l.length*r.sz≤xs.length*r.sz:=sY _ (by omega)
         rw[this,Nat.sub_self,tE,List.drop_of_length_le (by simp;omega)]
       show LG S h' r (List.take (l.length*r.sz) (IY cur.toList 0 (news.take (l.length*r.sz)))) (Ns l xs)
       rw[ac]
       exact(hN.append (k7.drop xs.length)).mono (λ_ x=>x) λb D=>e4 b λe=>(m2 g ((q2 g).2 rfl)).2 (e▸D)
    exact hK _ _ (k h' i.1 i.2 _ _ (G.put hd _) ⟨e1,A.os,A.tape,A.out⟩)
end
end Go.Proofs.YtblcgjadhemlbaaGreat
namespace Go.Proofs.YtblcgjadhemlbaaGreat
set_option linter.all false
open Go.RowKit
def P7.head {b:Array Oper}{d:Nat}{k:List Nat}{a:Array Bool}(c:P7 b (d::k) a) (v:d∈Region.ready .any b a) (l:d∉k):P7 b k (a.setIfInBounds d true):=by
 obtain⟨_,oi,m,g⟩:=mem_ready.1 v
 refine⟨by simp [c.size],λj n o p e q s=>?_,λt u=>by rw[getD_set_ne true (λe:d=t=>l (by rw[e];exact u))];exact c.tail t (sE _ u)⟩
 by_cases i:d=j
 ·subst i
  have:n=oi:=qS (o.symm.trans m)
  subst this
  exact getD_set_true (g e q s)
 ·rw[getD_set_ne false i] at p
  exact getD_set_true (c.closed j n o p e q s)
def ND (n:Nat) (a G:List Nat):List Nat:=(List.range n).filter λi=> !a.contains i&& !G.contains i
def dJ (a:Array Oper) (c:Nat) (b F G:List Nat):Bool:=
 (c::b).all (λt=>Nat.blt t a.size)&&decide (c::b).Nodup&&Qi a (c::b) (F++G)&&O4 a (c::b)&&Nu a (c::b)&&Lz a&&Region.noSelect a&&(b.isEmpty||Qi a b (ND a.size b G))&&Nu a b&&(G.all λi=> !(c::b).contains i)&&
 F.all λf=> !G.contains f&&match a[f]? with|some o=>o.after.all λe=> !Region.binds .any e||(Nat.blt e.on a.size&& !(c::b).contains e.on&& !(F++G).contains e.on)|none=>false
def oN (P:Program) (l:List Oper) (Q:Exit→Act→World→Prop) (B:World) (n:FN) (d:SM) (s c:BM) (R:AR) (a G:List Nat):Prop:=
 ∃(b:AR) (pss:List (List (Nat×Nat))) (j:List (Nat×Nat)) (k:List Oper) (m:List Nat),d.map (·.1)=m∧
  VH l.toArray (a++ND l.length a G) n m=true∧Sk l.toArray (a++ND l.length a G) l pss=true∧
  ((l.zip pss).zipIdx.all λp=>(a++ND l.length a G).contains p.2||p.1.2.all λq=> !(ND l.length a G).contains q.1)=true∧
  (j.all λp=>Nat.blt p.1 l.length&& !(a++ND l.length a G).contains p.1&&(El l.toArray p.1).any (Nat.beq p.2 ·))=true∧(a.filterMap λt=>l[t]?)=k∧
  (∀i,i∈G→∀v,R i v s→b i v c)∧(∀i v g o,GD c g→GD g o→b i v g→b i v o)∧
  Ep P l.toArray Q B n d c b (a++ND l.length a G) [] ZB.none 0 l pss∧
  ∀h',GD c h'→PA b h' (λfr=>LF P l.toArray Q k B h' n (fr++d)) j []
def oN.run {P:Program}{l:List Oper}{Q:Exit→Act→World→Prop}{B:World}{n:FN}{m2:SM}{h1 s:BM}{R:AR}{g:Nat}{q F G:List Nat}(k:oN P l Q B n m2 h1 s R q G) (hc:dJ l.toArray g q F G=true) (hQ:∀c a w,¬Q (.panic c) a w)
  {y:Nat} {b:Array Bool} {a a2:Act} {w2:World} (hu:QA b=y+1) (J:P7 l.toArray (g::q) b) (hr:g∈Region.ready .any l.toArray b) (hl:∀i,i<l.toArray.size→i∉g::q→i∉G→b.getD i false=true)
  (g4:∀i,i∉g::q→b.getD i false=true→∃d v,El l.toArray i=some d∧a.tmps[d]? =some v∧R i v h1) (hw:Wd B s w2) (K:Fr n a2 m2) (M:∀(i:Nat) (u:Value),a.tmps[i]? =some u→a2.tmps[i]? =some u):
  wpAny P .any l.toArray Q y (b.setIfInBounds g true) a2 w2:=by
 obtain⟨R2,pss,fs,ls,ms,rfl,q1,H,q3,q4,q5,q6,q7,q8,q9⟩:=k
 simp only[dJ,qT,rJ] at hc
 obtain⟨⟨⟨⟨⟨⟨⟨⟨⟨⟨c1,c2⟩,c3⟩,c4⟩,c5⟩,c6⟩,c7⟩,c8⟩,c9⟩,aa⟩,af⟩:=hc
 have C:=List.nodup_cons.1 c2
 have U:l.length=pss.length:=by
  simp only[Sk,qT] at H
  exact rA H.1
 have ab:g<l.toArray.size:=by have:=qV.1 c1 g (rV ..);simp [Nat.blt] at this ⊢;omega
 have ac:=J.size
 have V:(b.setIfInBounds g true).getD g false=true:=by
  have:g<b.size:=by omega
  simp [this]
 have ad:∀i,i∈ND l.length q G→(b.setIfInBounds g true).getD i false=true:=λi j=>by
  unfold ND at j
  obtain⟨h1,s⟩:=sS.1 j
  simp only[qT,rP] at s
  by_cases e:g=i
  ·subst e;exact V
  ·refine getD_set_true (hl i (by simpa using rK.1 h1) (λh=>?_) λh=>by rw[qY.2 h] at s;cases s.2)
   rcases rG.1 h with h|h
   ·exact e h.symm
   ·rw[qY.2 h] at s;cases s.1
 refine Uo (R:=R2) (B:=B) (h0:=s) (n:=n) (m:=m2) q (ND l.length q G) [] ZB.none jI.none (λz I=>by cases I) (λi j=>by cases j) (λt ht=>?_) C.2 c6 [] [] (.inl rfl) ?_ ?_ c9 c7 hQ (λf K=>by cases K) (λf K=>by cases K) q1 q7 (λi j=>by cases j) (λi o d j ho hd=>?_) (λa w h' g1 g2 g3 g4 _ _=>?_) (.inl rfl) y _ _ _ ?_ (J.head hr C.1) ad ⟨⟨s,hw,GD.refl s,K,λi j A=>?_⟩,λi j=>(by cases j),λz I=>(by cases I)⟩
 ·have:=qV.1 c1 t (sE _ ht);simp [Nat.blt] at this ⊢;omega
 ·rw[rI] at c8
  refine c8.imp (λe=>by cases q with|nil=>rfl|cons _ _=>simp at e) λx=>?_
  rw[rQ,rQ];simpa using x
 ·have:=MO c4
  cases q with
  |nil=>trivial
  |cons t r=>exact this.2
 ·have W:l[i]? =some o:=by simpa using ho
  obtain⟨ps,p1,p2⟩:=Ep.at_ (k:=0) q8 U (by rw[sB];exact j) W hd
  rw[sB] at p2
  have I:((o,ps),i)∈(l.zip pss).zipIdx:=by
   rw[tL]
   exact⟨i,by rw[List.getElem?_zipIdx,(vM (z:=(o,ps))).2 ⟨W,p1⟩];simp⟩
  refine⟨ps,?_,λp hp h=>?_,p2⟩
  ·simp only[Sk,qT] at H
   have:=qV.1 H.2 _ I
   rw[rI] at this
   exact this.resolve_left λh=>j (qY.1 h)
  ·have:=qV.1 q3 _ I
   rw[rI] at this
   have:=qV.1 (this.resolve_left λh=>j (qY.1 h)) p hp
   rw[qY.2 h] at this
   cases this
 ·obtain⟨fr,g,k2⟩:=JY (a:=a) (n:=n) _ _ (q9 h' g2) (λp hp=>by
   have e:=qV.1 q4 p hp
   simp only[qT,rP] at e
   have e1:p.1<l.toArray.size:=by have:=e.1.1;simp [Nat.blt] at this ⊢;omega
   obtain⟨d,v,q1,H,q3⟩:=g4 p.1 e1 (λh=>by rw[qY.2 h] at e;cases e.1.2)
   have e2:=e.2
   rw[q1] at e2
   have:p.2=d:=rA (by simpa using e2)
   exact⟨v,by rw[this];exact H,q3⟩) ⟨g3.dfr,g3.siz,λi v j=>by simp [lk] at j⟩
  have X:(q.filterMap λt=>l.toArray[t]?)=ls:=by rw[←q5];congr 1;funext t;simp
  rw[X]
  exact g a w (k2.append g3) g1
 ·have:=LI (mem_ready.1 hr).1;omega
 ·have Y:g≠i:=λe=>by
   subst e
   refine j (List.mem_append_right _ (sS.2 ⟨rK.2 (by simpa using ab),?_⟩))
   simp only[qT,rP]
   refine⟨?_,?_⟩
   ·cases D:q.contains g with
    |true=>exact absurd (qY.1 D) C.1
    |false=>rfl
   ·cases D:G.contains g with
    |true=>
     have:=qV.1 aa g (qY.1 D)
     simp at this
    |false=>rfl
  rw[getD_set_ne false Y] at A
  have Z:i∉q:=λh=>j (uL _ h)
  have ae:i<l.length:=by
   rcases rL i b.size with h|h
   ·rw[ac] at h;simpa using h
   ·rw[sO,Array.getElem?_eq_none h] at A;cases A
  have hG:i∈G:=by
   apply tR
   intro hG
   refine j (List.mem_append_right _ (sS.2 ⟨rK.2 ae,?_⟩))
   simp only[qT,rP]
   exact⟨by cases D:q.contains i with|true=>exact absurd (qY.1 D) Z|false=>rfl,by cases D:G.contains i with|true=>exact absurd (qY.1 D) hG|false=>rfl⟩
  obtain⟨d,v,p1,p2,p3⟩:=g4 i (λh=>(rG.1 h).elim (λe=>Y e.symm) Z) A
  exact⟨d,v,p1,M _ _ p2,q6 i hG v p3⟩
def oN.fin {P:Program}{l:List Oper}{Q:Exit→Act→World→Prop}{B:World}{n:FN}{A:SM}{C m:BM}{R:AR}{q:Nat}{b G:List Nat}(k:oN P l Q B n A C m R b G) (M:q<l.length) (s:q∉G)
  {a c:Act} {w:World} (U:∀i,i<l.length→i∉q::b→∃d v,El l.toArray i=some d∧a.tmps[d]? =some v∧R i v C) (V:Wd B m w) (x:Fr n c A) (g:∀(i:Nat) (u:Value),a.tmps[i]? =some u→c.tmps[i]? =some u):
  wpList P l.toArray Q (b.filterMap λt=>l[t]?) c w:=by
 obtain⟨R2,pss,fs,ls,ms,rfl,D,F,H,W,X,Y,q7,q8,Z⟩:=k
 obtain⟨fr,y,k2⟩:=JY (a:=c) (n:=n) _ _ (Z m (GD.refl m)) (λp hp=>by
  have e:=qV.1 W p hp
  simp only[qT,rP] at e
  have I:p.1<l.length:=by have:=e.1.1;simp [Nat.blt] at this ⊢;omega
  have J:p.1∉b++ND l.length b G:=λh=>by rw[qY.2 h] at e;cases e.1.2
  have j:p.1∉b:=λh=>J (uL _ h)
  have o:p.1∈G:=by
   apply tR
   intro o
   refine J (List.mem_append_right _ (sS.2 ⟨rK.2 I,?_⟩))
   simp only[qT,rP]
   exact⟨by cases z:b.contains p.1 with|true=>exact absurd (qY.1 z) j|false=>rfl,by cases z:G.contains p.1 with|true=>exact absurd (qY.1 z) o|false=>rfl⟩
  obtain⟨d,v,D,F,H⟩:=U p.1 I (λh=>(rG.1 h).elim (λe=>s (e▸o)) j)
  have K:=e.2
  rw[D] at K
  have:p.2=d:=rA (by simpa using K)
  exact⟨v,by rw[this];exact g _ _ F,Y _ o v H⟩) ⟨x.dfr,x.siz,λi v hi=>by simp [lk] at hi⟩
 rw[X]
 exact y c w (k2.append x) V
section
variable {P:Program}{ex:List (Nat×AP)}{RR N:AP}{cs:List Code}{B:World}{h:BM}{n:FN}{m m0:SM}{S:Nat→Prop}{L:List HP}
end
end Go.Proofs.YtblcgjadhemlbaaGreat
