import Derived.Test.YtblcgjadhemlbaaGreatQCore15
import Derived.Lib.Overlaps
import Derived.Lib.AppendZerosOnto
namespace Go.Proofs.YtblcgjadhemlbaaGreat
open Go.RowKit
set_option linter.unusedVariables false
set_option linter.unusedSimpArgs false
theorem Rv (b o j:Nat):(⟨b,o,none⟩:Addr).add j=⟨b,o+j,none⟩:=by unfold Addr.add;split<;>simp_all
section
variable {S:Nat→Prop}{L:List HP}{h:Aq}
theorem Vv {α}{r:AN α}{b e cap:Nat}{cs:List Value}{l:List α}(hs:St S (Bx b e cs::L) h) (h1:l.length≤cap) (h2:cap≤maxLen) (h3:cs.length=cap*r.sz) (hr:Jw S h r (cs.take (l.length*r.sz)) l):
  St S (OS r e (.slice (some ⟨b,0,none⟩) l.length cap) l::L) h:=
 (hs.upd (H':=OS r e (.slice (some ⟨b,0,none⟩) l.length cap) l) .head (Nat.le_refl _) λF k1 _=>⟨F,.inr ⟨b,cap,cs.toArray,rfl,k1.1,k1.2,h1,h2,by simpa using h3,by simpa using hr⟩,λ_ hb=> .inl hb,λ_ _ _=>rfl⟩).1
theorem St.bxcell {b T:Nat}{cs:List Value}(hs:St S L h) (hm:Bx b T cs∈L):h[b]? =some (.cells cs.toArray T (0,0)):=by
 obtain⟨F,k,_⟩:=hs.get hm;exact k.2
end
section
variable {P:Program}{ops:Array Oper}{C:World→Prop}{Q:Act→Prop}{n:FN}{m m':SM}{rest:List Oper}
variable {d:Nat}{ty:TypeId}{pos:String}{af:Array Edge}{X Y Z:Operand}{t:TypeId}{kd:IntKind}{v p:Value}
theorem Li {e sz:Nat}(ht:Jy P t e sz=true):P.underlying t=some (.slice (P.elem t))∧∀w,(sizeOf (P.elem t)).run P w= .ok sz w:=by
 obtain⟨i,h1,h2,h3,h4⟩:=Ko ht
 have he:P.elem t=e:=by simp [Program.elem,h1]
 rw[he]
 exact⟨h1,λw=>by simp [sizeOf,typeInfo,h2,h3]⟩
theorem Vx {b o len cap e sz j:Nat}{y:Int}(hx:Bq m X=some (.slice (some ⟨b,o,none⟩) len cap)) (hy:Bq m Y=some (.int kd y)) (hj:y=(j:Int)) (ht:Jy P t e sz=true) (h2:j≤cap) (hd:Nat.blt d n.1=true)
  (k:QF P ops C Q rest n ((d,.slice (some ⟨b,o,none⟩) j cap)::m)):QF P ops C Q (⟨some d,.slice t X none (some Y) none,ty,pos,af,none⟩::rest) n m:=λa hf=>by
 obtain⟨u1,u2⟩:=Li ht
 subst hj
 refine E9 hf hd (λw _=>?_) k
 have e0:(⟨b,o,none⟩:Addr).add 0=⟨b,o,none⟩:=by rw[Rv];rfl
 simp [execOp,hf.eval hx,hf.eval hy,run_sliceAt_slice _ _ _ _ _ _ u1,run_slice_h w t _ len cap u1 kd (j:Int) (by omega) (by omega),u2,sliced,e0]
theorem TW {ad:Option Addr}{len cap e sz:Nat}{aty:TypeId}(hx:Bq m X=some (.slice ad len cap)) (ht:Jy P t e sz=true) (hd:Nat.blt d n.1=true) (k:QF P ops C Q rest n ((d,.int .i64 cap)::m)):
  QF P ops C Q (⟨some d,.call ⟨.builtin .cap,#[X],#[t]⟩,aty,pos,af,none⟩::rest) n m:=λa hf=>by
 obtain⟨u1,u2⟩:=Li ht
 exact E9 hf hd (λw _=>by simp [execOp,resolve,invoke,builtin,hf.eval hx,run_cap_slice w t _ ad len cap u1,goInt]) k
end
section
variable {P:Program}{ops:Array Oper}{Q:Exit→Act→World→Prop}{n:FN}{m:SM}{rest:List Oper}
variable {d:Nat}{ty:TypeId}{pos:String}{af:Array Edge}{X Y:Operand}{B w:World}{h:Aq}{S:Nat→Prop}{L L2:List HP}{v:Value}
theorem WM {T t1 t2 e sz b o dl dc sl sc:Nat}{sd:Addr}{cs news:List Value}(ht:Jy P t1 e sz=true) (hl:news.length=Nat.min sl dl*sz) (hg:w.heap[b]? =some (.cells cs.toArray T (0,0)))
  (hc:∀j u,news[j]? =some u→w.cell? (sd.add j)=some u) (hfit:o+news.length≤cs.length) (h1:∀u∈news,u.oneCell'=true):
  (Builtin.copy_ #[t1,t2] ty #[.slice (some ⟨b,o,none⟩) dl dc,.slice (some sd) sl sc]).run P w= .ok (goInt (Nat.min sl dl)) (w.setRow b (G5 cs o news).toArray):=by
 obtain⟨i,u1,u2,u3,u4⟩:=Ko ht
 have hf:=run_firstCells_some (P:=P) w sz (Nat.min sl dl) sd sl sc news hl hc
 have hst:=run_storeCells_at P b o T news 0 cs.toArray w hg (by simpa using hfit) h1
 have hcs:(List.take (o+0) cs.toArray.toList++news++List.drop (o+0+news.length) cs.toArray.toList)=G5 cs o news:=by simp [G5]
 rw[hcs] at hst
 simp [Builtin.copy_,run_underlying u1,Builtin.lenOf,sizeOf,typeInfo,u2,u3,hf,hst]
end
theorem Jw.take {α S h}{r:AN α}:∀{l:List α}{cs},Jw S h r cs l→∀i,Jw S h r (cs.take (i*r.sz)) (l.take i)
 |[],_,k,i=>by have k:_=[]:=k;subst k;simp [Jw]
 |x::l,_,⟨c1,c2,e,k1,k2⟩,0=>by simp [Jw]
 |x::l,_,⟨c1,c2,e,k1,k2⟩,i+1=>by
  subst e
  have hl:=r.len k1
  refine⟨c1,c2.take (i*r.sz),?_,k1,k2.take i⟩
  rw[Nat.succ_mul,Nat.add_comm (i*r.sz),←hl,List.take_append]
  rw[List.take_of_length_le (by omega),Nat.add_sub_cancel_left]
theorem Jw.drop {α S h}{r:AN α}:∀{l:List α}{cs},Jw S h r cs l→∀i,Jw S h r (cs.drop (i*r.sz)) (l.drop i)
 |[],_,k,i=>by have k:_=[]:=k;subst k;simp [Jw]
 |x::l,_,⟨c1,c2,e,k1,k2⟩,0=>by subst e;rw[Nat.zero_mul];exact⟨c1,c2,rfl,k1,k2⟩
 |x::l,_,⟨c1,c2,e,k1,k2⟩,i+1=>by
  subst e
  have hl:=r.len k1
  have:(c1++c2).drop ((i+1)*r.sz)=c2.drop (i*r.sz):=by
   rw[Nat.succ_mul,Nat.add_comm (i*r.sz),←hl,List.drop_append]
   rw[List.drop_of_length_le (by omega),Nat.add_sub_cancel_left,List.nil_append]
  rw[this,List.drop_succ_cons]
  exact k2.drop i
def Lw {α}(l xs:List α):List α:=xs.take l.length++l.drop xs.length
section
variable {P:Program}{ops:Array Oper}{Q:Exit→Act→World→Prop}{n:FN}{m:SM}{rest:List Oper}
variable {d:Nat}{ty:TypeId}{pos:String}{af:Array Edge}{X Y:Operand}{B w:World}{h:Aq}{S:Nat→Prop}{L L2:List HP}{v:Value}
theorem WN {t1 t2 e sz dl dc sl sc:Nat}{db sb:Option Addr}(ht:Jy P t1 e sz=true) (h0:Nat.min sl dl=0) (w:World):
  (Builtin.copy_ #[t1,t2] ty #[.slice db dl dc,.slice sb sl sc]).run P w= .ok (goInt 0) w:=by
 obtain⟨i,u1,u2,u3,u4⟩:=Ko ht
 have hl:∀(x:Addr),(loadCells x 0).run P w= .ok #[] w:=λx=>by simpa using run_loadCells_list (P:=P) w x [] (by simp)
 cases db<;>cases sb<;>simp [Builtin.copy_,run_underlying u1,Builtin.lenOf,Builtin.firstCells,sizeOf,typeInfo,u2,h0,storeCells,hl]
theorem Qv {α}{r:AN α}{T t1 t2 e:Nat}{s:Value}{l xs:List α}(hx:Bq m X=some v) (hy:Bq m Y=some s) (ht:Jy P t1 e r.sz=true) (hsrc:ZA S h r s xs) (hd:Nat.blt d n.1=true) (hs:St S L h) (rp:Kh L (OS r T v l) (OS r T v (Lw l xs)) L2)
  (k:∀h',St S L2 h'→B8 S h S h'→LF P ops Q rest B h' n ((d,.int .i64 (Nat.min xs.length l.length:Nat))::m)):LF P ops Q (⟨some d,.call ⟨.builtin .copy,#[X,Y],#[t1,t2]⟩,ty,pos,af,none⟩::rest) B h n m:=by
 intro a w hf hw
 refine wpList_plain rfl λK hK=>?_
 unfold Oper.wp
 obtain⟨M,p,_⟩:=rp.pick
 obtain⟨F,g1,g2,_⟩:=Sp.pick p hs.2
 obtain⟨ad,cap,hv,hmx⟩:=OS.len g1
 have hse:∃sb sc,s= .slice sb xs.length sc:=by
  rcases hsrc with ⟨h1,h2⟩|⟨sd,sc,_,h1,_⟩
  ·exact⟨none,0,by rw[h1,h2];rfl⟩
  ·exact⟨_,sc,h1⟩
 by_cases h0:Nat.min xs.length l.length=0
 ·obtain⟨sb,sc,hs1⟩:=hse
  have hrun:=WN (P:=P) (ty:=ty) (t2:=t2) (dl:=l.length) (dc:=cap) (sl:=xs.length) (sc:=sc) (db:=ad) (sb:=sb) ht h0 w
  have hr2:(execOp a.eval ⟨some d,.call ⟨.builtin .copy,#[X,Y],#[t1,t2]⟩,ty,pos,af,none⟩).run P w= .ok (.value (goInt 0)) w:=by
   simp [execOp,resolve,invoke,builtin,hf.eval hx,hf.eval hy,hv,hs1,hrun]
  rw[hr2]
  have e:Lw l xs=l:=by
   unfold Lw
   have:xs.length=0∨l.length=0:=by simp only[Nat.min_def] at h0;split at h0<;>omega
   rcases this with h|h
   ·rw[List.eq_nil_of_length_eq_zero h];simp
   ·rw[List.eq_nil_of_length_eq_zero h];simp
  rw[e] at rp
  have hup:=hs.upd rp (Nat.le_refl _) λF k1 _=>⟨F,k1,λ_ hb=> .inl hb,λ_ _ _=>rfl⟩
  have:=k h hup.1 hup.2 _ _ (hf.put hd _) hw
  rw[h0] at this
  exact hK _ _ this
 ·rcases g1 with ⟨_,h2,_⟩|⟨g,cap',cur,k1,k2,k3,k4,k5,k6,k7⟩
  ·exact absurd (by rw[h2];simp) h0
  ·rcases hsrc with ⟨_,h2⟩|⟨sd,sc,news,j1,_,j3,j4⟩
   ·exact absurd (by rw[h2];simp) h0
   ·have hg:w.heap[g]? =some (.cells cur.toList.toArray T (0,0)):=by rw[hw.heap];simpa using k3
    have hnl:=j3.len
    have hmin:(xs.take l.length).length=Nat.min xs.length l.length:=by rw[List.length_take];exact Nat.min_comm _ _
    have hN:=j3.take l.length
    have hNl:=hN.len
    rw[hmin] at hNl
    have hle:Nat.min xs.length l.length*r.sz≤l.length*r.sz:=Nat.mul_le_mul_right _ (Nat.min_le_right _ _)
    have hlc:l.length*r.sz≤cap'*r.sz:=Nat.mul_le_mul_right _ k4
    have hrun:=WM (P:=P) (ty:=ty) (t2:=t2) (b:=g) (o:=0) (dl:=l.length) (dc:=cap') (sl:=xs.length) (sc:=sc) (cs:=cur.toList) (T:=T) ht hNl hg (λj u hj=>by
     rw[Ja,hw.heap]
     exact j4 j u (by rw[List.getElem?_take] at hj;split at hj;exact hj;cases hj)) (by simp;omega) (λu hu=>hN.one u hu)
    have hr2:(execOp a.eval ⟨some d,.call ⟨.builtin .copy,#[X,Y],#[t1,t2]⟩,ty,pos,af,none⟩).run P w= .ok (.value (goInt (Nat.min xs.length l.length))) (w.setRow g (G5 cur.toList 0 (news.take (l.length*r.sz))).toArray):=by
     simp [execOp,resolve,invoke,builtin,hf.eval hx,hf.eval hy,k1,j1,hrun]
    rw[hr2]
    obtain⟨h',e1,e2,e3,e4⟩:=OQ w g cur (G5 cur.toList 0 (news.take (l.length*r.sz))).toArray T (by simpa using hg)
    rw[hw.heap] at e2 e4
    have hcl:(Lw l xs).length=l.length:=by unfold Lw;rw[List.length_append,hmin,List.length_drop];simp only[Nat.min_def];split<;>omega
    have hup:=hs.upd rp (h':=h') (by omega) λF1 m1 m2=>by
     rcases m1 with ⟨m1,m3,m4⟩|⟨g',c',cur',m1,q2,q3,_⟩
     ·refine⟨F1,.inl ⟨m1,by rw[m3];simp [Lw],m4⟩,λ_ hb=> .inl hb,λb' _ hb'=>?_⟩
      by_cases e:b'=g
      ·subst e
       rw[e3,k3,m3]
       simp [G5]
      ·exact e4 b' e
     ·rw[k1] at m1
      injection m1 with q _ _
      injection q with q
      injection q with q _ _
      subst q
      refine⟨F1,.inr ⟨g,cap',_,by rw[hcl];exact k1,q2,e3,by omega,k5,?_,?_⟩,λ_ hb=> .inl hb,λb' _ hb'=>e4 b' λe=>hb' ((q2 b').2 e)⟩
      ·simp only[G5,List.take_zero,List.nil_append,List.size_toArray,List.length_append,List.length_drop,Array.length_toList,hNl]
       omega
      ·rw[hcl]
       have eq1:(G5 cur.toList 0 (news.take (l.length*r.sz))).take (l.length*r.sz)=news.take (l.length*r.sz)++(cur.toList.take (l.length*r.sz)).drop (xs.length*r.sz):=by
        simp only[G5,List.take_zero,List.nil_append,Nat.zero_add]
        rw[List.take_append]
        rw[List.take_of_length_le (by omega)]
        congr 1
        rw[hNl]
        by_cases hc:xs.length≤l.length
        ·have:Nat.min xs.length l.length=xs.length:=Nat.min_eq_left hc
         rw[this,List.drop_take]
        ·have:Nat.min xs.length l.length=l.length:=Nat.min_eq_right (by omega)
         have hm:l.length*r.sz≤xs.length*r.sz:=Nat.mul_le_mul_right _ (by omega)
         rw[this,Nat.sub_self,List.take_zero,List.drop_of_length_le (by simp;omega)]
       show Jw S h' r (List.take (l.length*r.sz) (G5 cur.toList 0 (news.take (l.length*r.sz)))) (Lw l xs)
       rw[eq1]
       exact(hN.append (k7.drop xs.length)).mono (λ_ x=>x) λb hb=>e4 b λe=>(m2 g ((q2 g).2 rfl)).2 (e▸hb)
    exact hK _ _ (k h' hup.1 hup.2 _ _ (hf.put hd _) ⟨e1,hw.os,hw.tape,hw.out⟩)
end
end Go.Proofs.YtblcgjadhemlbaaGreat
