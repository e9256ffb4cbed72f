import Derived.Test.YtblcgjadhemlbaaGreatUCore15
import Derived.Lib.Overlaps
import Derived.Lib.AppendZerosOnto
namespace Go.Proofs.YtblcgjadhemlbaaGreat
open Go.RowKit
set_option linter.unusedVariables false
set_option linter.unusedSimpArgs false
theorem TJ (b o j:Nat):(⟨b,o,none⟩:Addr).add j=⟨b,o+j,none⟩:=by unfold Addr.add;split<;>simp_all
section
variable {S:Nat→Prop}{L:List HP}{h:Av}
theorem Xg {α}{r:AM α}{b e cap:Nat}{cs:List Value}{l:List α}(hs:St S (Bx b e cs::L) h) (h1:l.length≤cap) (h2:cap≤maxLen) (h3:cs.length=cap*r.sz) (hr:KK S h r (cs.take (l.length*r.sz)) l):
  St S (OS r e (.slice (some ⟨b,0,none⟩) l.length cap) l::L) h:=
 (hs.upd (H':=OS r e (.slice (some ⟨b,0,none⟩) l.length cap) l) .head (Nat.le_refl _) λF k1 _=>⟨F,.inr ⟨b,cap,cs.toArray,rfl,k1.1,k1.2,h1,h2,by simpa using h3,by simpa using hr⟩,λ_ hb=> .inl hb,λ_ _ _=>rfl⟩).1
theorem St.bxcell {b T:Nat}{cs:List Value}(hs:St S L h) (hm:Bx b T cs∈L):h[b]? =some (.cells cs.toArray T (0,0)):=by
 obtain⟨F,k,_⟩:=hs.get hm;exact k.2
end
section
variable {P:Program}{ops:Array Oper}{C:World→Prop}{Q:Act→Prop}{n:FN}{m m':SM}{rest:List Oper}
variable {d:Nat}{ty:TypeId}{pos:String}{af:Array Edge}{X Y Z:Operand}{t:TypeId}{kd:IntKind}{v p:Value}
theorem MF {e sz:Nat}(ht:KM P t e sz=true):P.underlying t=some (.slice (P.elem t))∧∀w,(sizeOf (P.elem t)).run P w= .ok sz w:=by
 obtain⟨i,h1,h2,h3,h4⟩:=LK ht
 have he:P.elem t=e:=by simp [Program.elem,h1]
 rw[he]
 exact⟨h1,λw=>by simp [sizeOf,typeInfo,h2,h3]⟩
theorem Xj {b o len cap e sz j:Nat}{y:Int}(hx:Bf m X=some (.slice (some ⟨b,o,none⟩) len cap)) (hy:Bf m Y=some (.int kd y)) (hj:y=(j:Int)) (ht:KM P t e sz=true) (h2:j≤cap) (hd:Nat.blt d n.1=true)
  (k:QF P ops C Q rest n ((d,.slice (some ⟨b,o,none⟩) j cap)::m)):QF P ops C Q (⟨some d,.slice t X none (some Y) none,ty,pos,af,none⟩::rest) n m:=λa hf=>by
 obtain⟨u1,u2⟩:=MF ht
 subst hj
 refine FT hf hd (λw _=>?_) k
 have e0:(⟨b,o,none⟩:Addr).add 0=⟨b,o,none⟩:=by rw[TJ];rfl
 simp [execOp,hf.eval hx,hf.eval hy,run_sliceAt_slice _ _ _ _ _ _ u1,run_slice_h w t _ len cap u1 kd (j:Int) (by omega) (by omega),u2,sliced,e0]
theorem Ux {ad:Option Addr}{len cap e sz:Nat}{aty:TypeId}(hx:Bf m X=some (.slice ad len cap)) (ht:KM P t e sz=true) (hd:Nat.blt d n.1=true) (k:QF P ops C Q rest n ((d,.int .i64 cap)::m)):
  QF P ops C Q (⟨some d,.call ⟨.builtin .cap,#[X],#[t]⟩,aty,pos,af,none⟩::rest) n m:=λa hf=>by
 obtain⟨u1,u2⟩:=MF ht
 exact FT hf hd (λw _=>by simp [execOp,resolve,invoke,builtin,hf.eval hx,run_cap_slice w t _ ad len cap u1,goInt]) k
end
section
variable {P:Program}{ops:Array Oper}{Q:Exit→Act→World→Prop}{n:FN}{m:SM}{rest:List Oper}
variable {d:Nat}{ty:TypeId}{pos:String}{af:Array Edge}{X Y:Operand}{B w:World}{h:Av}{S:Nat→Prop}{L L2:List HP}{v:Value}
theorem X9 {T t1 t2 e sz b o dl dc sl sc:Nat}{sd:Addr}{cs news:List Value}(ht:KM P t1 e sz=true) (hl:news.length=Nat.min sl dl*sz) (hg:w.heap[b]? =some (.cells cs.toArray T (0,0)))
  (hc:∀j u,news[j]? =some u→w.cell? (sd.add j)=some u) (hfit:o+news.length≤cs.length) (h1:∀u∈news,u.oneCell'=true):
  (Builtin.copy_ #[t1,t2] ty #[.slice (some ⟨b,o,none⟩) dl dc,.slice (some sd) sl sc]).run P w= .ok (goInt (Nat.min sl dl)) (w.setRow b (HQ cs o news).toArray):=by
 obtain⟨i,u1,u2,u3,u4⟩:=LK ht
 have hf:=run_firstCells_some (P:=P) w sz (Nat.min sl dl) sd sl sc news hl hc
 have hst:=run_storeCells_at P b o T news 0 cs.toArray w hg (by simpa using hfit) h1
 have hcs:(List.take (o+0) cs.toArray.toList++news++List.drop (o+0+news.length) cs.toArray.toList)=HQ cs o news:=by simp [HQ]
 rw[hcs] at hst
 simp [Builtin.copy_,run_underlying u1,Builtin.lenOf,sizeOf,typeInfo,u2,u3,hf,hst]
end
theorem KK.take {α S h}{r:AM α}:∀{l:List α}{cs},KK S h r cs l→∀i,KK S h r (cs.take (i*r.sz)) (l.take i)
 |[],_,k,i=>by have k:_=[]:=k;subst k;simp [KK]
 |x::l,_,⟨c1,c2,e,k1,k2⟩,0=>by simp [KK]
 |x::l,_,⟨c1,c2,e,k1,k2⟩,i+1=>by
  subst e
  have hl:=r.len k1
  refine⟨c1,c2.take (i*r.sz),?_,k1,k2.take i⟩
  rw[Nat.succ_mul,Nat.add_comm (i*r.sz),←hl,List.take_append]
  rw[List.take_of_length_le (by omega),Nat.add_sub_cancel_left]
theorem KK.drop {α S h}{r:AM α}:∀{l:List α}{cs},KK S h r cs l→∀i,KK S h r (cs.drop (i*r.sz)) (l.drop i)
 |[],_,k,i=>by have k:_=[]:=k;subst k;simp [KK]
 |x::l,_,⟨c1,c2,e,k1,k2⟩,0=>by subst e;rw[Nat.zero_mul];exact⟨c1,c2,rfl,k1,k2⟩
 |x::l,_,⟨c1,c2,e,k1,k2⟩,i+1=>by
  subst e
  have hl:=r.len k1
  have:(c1++c2).drop ((i+1)*r.sz)=c2.drop (i*r.sz):=by
   rw[Nat.succ_mul,Nat.add_comm (i*r.sz),←hl,List.drop_append]
   rw[List.drop_of_length_le (by omega),Nat.add_sub_cancel_left,List.nil_append]
  rw[this,List.drop_succ_cons]
  exact k2.drop i
def Ms {α}(l xs:List α):List α:=xs.take l.length++l.drop xs.length
section
variable {P:Program}{ops:Array Oper}{Q:Exit→Act→World→Prop}{n:FN}{m:SM}{rest:List Oper}
variable {d:Nat}{ty:TypeId}{pos:String}{af:Array Edge}{X Y:Operand}{B w:World}{h:Av}{S:Nat→Prop}{L L2:List HP}{v:Value}
theorem YA {t1 t2 e sz dl dc sl sc:Nat}{db sb:Option Addr}(ht:KM P t1 e sz=true) (h0:Nat.min sl dl=0) (w:World):
  (Builtin.copy_ #[t1,t2] ty #[.slice db dl dc,.slice sb sl sc]).run P w= .ok (goInt 0) w:=by
 obtain⟨i,u1,u2,u3,u4⟩:=LK ht
 have hl:∀(x:Addr),(loadCells x 0).run P w= .ok #[] w:=λx=>by simpa using run_loadCells_list (P:=P) w x [] (by simp)
 cases db<;>cases sb<;>simp [Builtin.copy_,run_underlying u1,Builtin.lenOf,Builtin.firstCells,sizeOf,typeInfo,u2,h0,storeCells,hl]
theorem R6 {α}{r:AM α}{T t1 t2 e:Nat}{s:Value}{l xs:List α}(hx:Bf m X=some v) (hy:Bf m Y=some s) (ht:KM P t1 e r.sz=true) (hsrc:cK S h r s xs) (hd:Nat.blt d n.1=true) (hs:St S L h) (rp:LC L (OS r T v l) (OS r T v (Ms l xs)) L2)
  (k:∀h',St S L2 h'→B9 S h S h'→LF P ops Q rest B h' n ((d,.int .i64 (Nat.min xs.length l.length:Nat))::m)):LF P ops Q (⟨some d,.call ⟨.builtin .copy,#[X,Y],#[t1,t2]⟩,ty,pos,af,none⟩::rest) B h n m:=by
 intro a w hf hw
 refine wpList_plain rfl λK hK=>?_
 unfold Oper.wp
 obtain⟨M,p,_⟩:=rp.pick
 obtain⟨F,g1,g2,_⟩:=Sp.pick p hs.2
 obtain⟨ad,cap,hv,hmx⟩:=OS.len g1
 have hse:∃sb sc,s= .slice sb xs.length sc:=by
  rcases hsrc with ⟨h1,h2⟩|⟨sd,sc,_,h1,_⟩
  ·exact⟨none,0,by rw[h1,h2];rfl⟩
  ·exact⟨_,sc,h1⟩
 by_cases h0:Nat.min xs.length l.length=0
 ·obtain⟨sb,sc,hs1⟩:=hse
  have hrun:=YA (P:=P) (ty:=ty) (t2:=t2) (dl:=l.length) (dc:=cap) (sl:=xs.length) (sc:=sc) (db:=ad) (sb:=sb) ht h0 w
  have hr2:(execOp a.eval ⟨some d,.call ⟨.builtin .copy,#[X,Y],#[t1,t2]⟩,ty,pos,af,none⟩).run P w= .ok (.value (goInt 0)) w:=by
   simp [execOp,resolve,invoke,builtin,hf.eval hx,hf.eval hy,hv,hs1,hrun]
  rw[hr2]
  have e:Ms l xs=l:=by
   unfold Ms
   have:xs.length=0∨l.length=0:=by simp only[Nat.min_def] at h0;split at h0<;>omega
   rcases this with h|h
   ·rw[List.eq_nil_of_length_eq_zero h];simp
   ·rw[List.eq_nil_of_length_eq_zero h];simp
  rw[e] at rp
  have hup:=hs.upd rp (Nat.le_refl _) λF k1 _=>⟨F,k1,λ_ hb=> .inl hb,λ_ _ _=>rfl⟩
  have:=k h hup.1 hup.2 _ _ (hf.put hd _) hw
  rw[h0] at this
  exact hK _ _ this
 ·rcases g1 with ⟨_,h2,_⟩|⟨g,cap',cur,k1,k2,k3,k4,k5,k6,k7⟩
  ·exact absurd (by rw[h2];simp) h0
  ·rcases hsrc with ⟨_,h2⟩|⟨sd,sc,news,j1,_,j3,j4⟩
   ·exact absurd (by rw[h2];simp) h0
   ·have hg:w.heap[g]? =some (.cells cur.toList.toArray T (0,0)):=by rw[hw.heap];simpa using k3
    have hnl:=j3.len
    have hmin:(xs.take l.length).length=Nat.min xs.length l.length:=by rw[List.length_take];exact Nat.min_comm _ _
    have hN:=j3.take l.length
    have hNl:=hN.len
    rw[hmin] at hNl
    have hle:Nat.min xs.length l.length*r.sz≤l.length*r.sz:=Nat.mul_le_mul_right _ (Nat.min_le_right _ _)
    have hlc:l.length*r.sz≤cap'*r.sz:=Nat.mul_le_mul_right _ k4
    have hrun:=X9 (P:=P) (ty:=ty) (t2:=t2) (b:=g) (o:=0) (dl:=l.length) (dc:=cap') (sl:=xs.length) (sc:=sc) (cs:=cur.toList) (T:=T) ht hNl hg (λj u hj=>by
     rw[Jw,hw.heap]
     exact j4 j u (by rw[List.getElem?_take] at hj;split at hj;exact hj;cases hj)) (by simp;omega) (λu hu=>hN.one u hu)
    have hr2:(execOp a.eval ⟨some d,.call ⟨.builtin .copy,#[X,Y],#[t1,t2]⟩,ty,pos,af,none⟩).run P w= .ok (.value (goInt (Nat.min xs.length l.length))) (w.setRow g (HQ cur.toList 0 (news.take (l.length*r.sz))).toArray):=by
     simp [execOp,resolve,invoke,builtin,hf.eval hx,hf.eval hy,k1,j1,hrun]
    rw[hr2]
    obtain⟨h',e1,e2,e3,e4⟩:=O6 w g cur (HQ cur.toList 0 (news.take (l.length*r.sz))).toArray T (by simpa using hg)
    rw[hw.heap] at e2 e4
    have hcl:(Ms l xs).length=l.length:=by unfold Ms;rw[List.length_append,hmin,List.length_drop];simp only[Nat.min_def];split<;>omega
    have hup:=hs.upd rp (h':=h') (by omega) λF1 m1 m2=>by
     rcases m1 with ⟨m1,m3,m4⟩|⟨g',c',cur',m1,q2,q3,_⟩
     ·refine⟨F1,.inl ⟨m1,by rw[m3];simp [Ms],m4⟩,λ_ hb=> .inl hb,λb' _ hb'=>?_⟩
      by_cases e:b'=g
      ·subst e
       rw[e3,k3,m3]
       simp [HQ]
      ·exact e4 b' e
     ·rw[k1] at m1
      injection m1 with q _ _
      injection q with q
      injection q with q _ _
      subst q
      refine⟨F1,.inr ⟨g,cap',_,by rw[hcl];exact k1,q2,e3,by omega,k5,?_,?_⟩,λ_ hb=> .inl hb,λb' _ hb'=>e4 b' λe=>hb' ((q2 b').2 e)⟩
      ·simp only[HQ,List.take_zero,List.nil_append,List.size_toArray,List.length_append,List.length_drop,Array.length_toList,hNl]
       omega
      ·rw[hcl]
       have eq1:(HQ cur.toList 0 (news.take (l.length*r.sz))).take (l.length*r.sz)=news.take (l.length*r.sz)++(cur.toList.take (l.length*r.sz)).drop (xs.length*r.sz):=by
        simp only[HQ,List.take_zero,List.nil_append,Nat.zero_add]
        rw[List.take_append]
        rw[List.take_of_length_le (by omega)]
        congr 1
        rw[hNl]
        by_cases hc:xs.length≤l.length
        ·have:Nat.min xs.length l.length=xs.length:=Nat.min_eq_left hc
         rw[this,List.drop_take]
        ·have:Nat.min xs.length l.length=l.length:=Nat.min_eq_right (by omega)
         have hm:l.length*r.sz≤xs.length*r.sz:=Nat.mul_le_mul_right _ (by omega)
         rw[this,Nat.sub_self,List.take_zero,List.drop_of_length_le (by simp;omega)]
       show KK S h' r (List.take (l.length*r.sz) (HQ cur.toList 0 (news.take (l.length*r.sz)))) (Ms l xs)
       rw[eq1]
       exact(hN.append (k7.drop xs.length)).mono (λ_ x=>x) λb hb=>e4 b λe=>(m2 g ((q2 g).2 rfl)).2 (e▸hb)
    exact hK _ _ (k h' hup.1 hup.2 _ _ (hf.put hd _) ⟨e1,hw.os,hw.tape,hw.out⟩)
end
end Go.Proofs.YtblcgjadhemlbaaGreat
namespace Go.Proofs.YtblcgjadhemlbaaGreat
open Go.RowKit
set_option linter.unusedVariables false
set_option linter.unusedSimpArgs false
theorem O2.head {ops:Array Oper}{k1:Nat}{ks:List Nat}{listed:Array Bool}(inv:O2 ops (k1::ks) listed) (hi:k1∈Region.ready .any ops listed) (hin:k1∉ks):O2 ops ks (listed.setIfInBounds k1 true):=by
 obtain⟨_,oi,hoi,hall⟩:=mem_ready.1 hi
 refine⟨by simp [inv.size],λj oj hj hl e he hb=>?_,λt ht=>by rw[getD_set_ne true (λe:k1=t=>hin (by rw[e];exact ht))];exact inv.tail t (List.mem_cons_of_mem _ ht)⟩
 by_cases hij:k1=j
 ·subst hij
  have:oj=oi:=Option.some.inj (hj.symm.trans hoi)
  subst this
  exact getD_set_true (hall e he hb)
 ·rw[getD_set_ne false hij] at hl
  exact getD_set_true (inv.closed j oj hj hl e he hb)
def MJ (n:Nat) (ks G:List Nat):List Nat:=(List.range n).filter λi=> !ks.contains i&& !G.contains i
def ZT (ops:Array Oper) (k1:Nat) (ks F G:List Nat):Bool:=
 (k1::ks).all (λt=>Nat.blt t ops.size)&&decide (k1::ks).Nodup&&PY ops (k1::ks) (F++G)&&Ny ops (k1::ks)&&Mu ops (k1::ks)&&K3 ops&&Region.noSelect ops&&(ks.isEmpty||PY ops ks (MJ ops.size ks G))&&Mu ops ks&&(G.all λi=> !(k1::ks).contains i)&&
 F.all λf=> !G.contains f&&match ops[f]? with|some o=>o.after.all λe=> !Region.binds .any e||(Nat.blt e.on ops.size&& !(k1::ks).contains e.on&& !(F++G).contains e.on)|none=>false
def jA (P:Program) (l:List Oper) (Q:Exit→Act→World→Prop) (B:World) (n:FN) (m2:SM) (h1 h2:Av) (R:AR) (ks G:List Nat):Prop:=
 ∃(R2:AR) (pss:List (List (Nat×Nat))) (fs:List (Nat×Nat)) (ls:List Oper) (ms:List Nat),m2.map (·.1)=ms∧
  Tf l.toArray (ks++MJ l.length ks G) n ms=true∧RM l.toArray (ks++MJ l.length ks G) l pss=true∧
  ((l.zip pss).zipIdx.all λp=>(ks++MJ l.length ks G).contains p.2||p.1.2.all λq=> !(MJ l.length ks G).contains q.1)=true∧
  (fs.all λp=>Nat.blt p.1 l.length&& !(ks++MJ l.length ks G).contains p.1&&(Di l.toArray p.1).any (Nat.beq p.2 ·))=true∧(ks.filterMap λt=>l[t]?)=ls∧
  (∀i,i∈G→∀v,R i v h1→R2 i v h2)∧(∀i v h3 h4,Ep h2 h3→Ep h3 h4→R2 i v h3→R2 i v h4)∧
  Dk P l.toArray Q B n m2 h2 R2 (ks++MJ l.length ks G) [] ZB.none 0 l pss∧
  ∀h',Ep h2 h'→PA R2 h' (λfr=>LF P l.toArray Q ls B h' n (fr++m2)) fs []
theorem jA.run {P:Program}{l:List Oper}{Q:Exit→Act→World→Prop}{B:World}{n:FN}{m2:SM}{h1 h2:Av}{R:AR}{k1:Nat}{ks F G:List Nat}(k:jA P l Q B n m2 h1 h2 R ks G) (hc:ZT l.toArray k1 ks F G=true) (hQ:∀c a w,¬Q (.panic c) a w)
  {fuel:Nat} {listed:Array Bool} {a a2:Act} {w2:World} (hu:O5 listed=fuel+1) (inv:O2 l.toArray (k1::ks) listed) (hr:k1∈Region.ready .any l.toArray listed) (hl:∀i,i<l.toArray.size→i∉k1::ks→i∉G→listed.getD i false=true)
  (g4:∀i,i∉k1::ks→listed.getD i false=true→∃d v,Di l.toArray i=some d∧a.tmps[d]? =some v∧R i v h1) (hw:Wd B h2 w2) (hf:Fr n a2 m2) (same:∀(i:Nat) (u:Value),a.tmps[i]? =some u→a2.tmps[i]? =some u):
  wpAny P .any l.toArray Q fuel (listed.setIfInBounds k1 true) a2 w2:=by
 obtain⟨R2,pss,fs,ls,ms,rfl,q1,q2,q3,q4,q5,q6,q7,q8,q9⟩:=k
 simp only[ZT,Bool.and_eq_true,decide_eq_true_eq] at hc
 obtain⟨⟨⟨⟨⟨⟨⟨⟨⟨⟨c1,c2⟩,c3⟩,c4⟩,c5⟩,c6⟩,c7⟩,c8⟩,c9⟩,c10⟩,c11⟩:=hc
 have hnd:=List.nodup_cons.1 c2
 have hlen:l.length=pss.length:=by
  simp only[RM,Bool.and_eq_true] at q2
  exact Nat.eq_of_beq_eq_true q2.1
 have hk1:k1<l.toArray.size:=by have:=List.all_eq_true.1 c1 k1 (List.mem_cons_self ..);simp [Nat.blt] at this ⊢;omega
 have hsz:=inv.size
 have hset:(listed.setIfInBounds k1 true).getD k1 false=true:=by
  have:k1<listed.size:=by omega
  simp [this]
 have hDl:∀i,i∈MJ l.length ks G→(listed.setIfInBounds k1 true).getD i false=true:=λi hi=>by
  unfold MJ at hi
  obtain⟨h1,h2⟩:=List.mem_filter.1 hi
  simp only[Bool.and_eq_true,Bool.not_eq_true'] at h2
  by_cases e:k1=i
  ·subst e;exact hset
  ·refine getD_set_true (hl i (by simpa using List.mem_range.1 h1) (λh=>?_) λh=>by rw[List.contains_iff_mem.2 h] at h2;cases h2.2)
   rcases List.mem_cons.1 h with h|h
   ·exact e h.symm
   ·rw[List.contains_iff_mem.2 h] at h2;cases h2.1
 refine TH (R:=R2) (B:=B) (h0:=h2) (n:=n) (m:=m2) ks (MJ l.length ks G) [] ZB.none cR.none (λz hz=>by cases hz) (λi hi=>by cases hi) (λt ht=>?_) hnd.2 c6 [] [] (.inl rfl) ?_ ?_ c9 c7 hQ (λf hf=>by cases hf) (λf hf=>by cases hf) q1 q7 (λi hi=>by cases hi) (λi o d hi ho hd=>?_) (λa w h' g1 g2 g3 g4 _ _=>?_) (.inl rfl) fuel _ _ _ ?_ (inv.head hr hnd.1) hDl ⟨⟨h2,hw,Ep.refl h2,hf,λi hi hil=>?_⟩,λi hi=>(by cases hi),λz hz=>(by cases hz)⟩
 ·have:=List.all_eq_true.1 c1 t (List.mem_cons_of_mem _ ht);simp [Nat.blt] at this ⊢;omega
 ·rw[Bool.or_eq_true] at c8
  refine c8.imp (λe=>by cases ks with|nil=>rfl|cons _ _=>simp at e) λx=>?_
  rw[List.nil_append,List.nil_append];simpa using x
 ·have:=LS c4
  cases ks with
  |nil=>trivial
  |cons t r=>exact this.2
 ·have ho':l[i]? =some o:=by simpa using ho
  obtain⟨ps,p1,p2⟩:=Dk.at_ (k:=0) q8 hlen (by rw[Nat.zero_add];exact hi) ho' hd
  rw[Nat.zero_add] at p2
  have hz:((o,ps),i)∈(l.zip pss).zipIdx:=by
   rw[List.mem_iff_getElem?]
   exact⟨i,by rw[List.getElem?_zipIdx,(List.getElem?_zip_eq_some (z:=(o,ps))).2 ⟨ho',p1⟩];simp⟩
  refine⟨ps,?_,λp hp h=>?_,p2⟩
  ·simp only[RM,Bool.and_eq_true] at q2
   have:=List.all_eq_true.1 q2.2 _ hz
   rw[Bool.or_eq_true] at this
   exact this.resolve_left λh=>hi (List.contains_iff_mem.1 h)
  ·have:=List.all_eq_true.1 q3 _ hz
   rw[Bool.or_eq_true] at this
   have:=List.all_eq_true.1 (this.resolve_left λh=>hi (List.contains_iff_mem.1 h)) p hp
   rw[List.contains_iff_mem.2 h] at this
   cases this
 ·obtain⟨fr,k1,k2⟩:=IY (a:=a) (n:=n) _ _ (q9 h' g2) (λp hp=>by
   have e:=List.all_eq_true.1 q4 p hp
   simp only[Bool.and_eq_true,Bool.not_eq_true'] at e
   have e1:p.1<l.toArray.size:=by have:=e.1.1;simp [Nat.blt] at this ⊢;omega
   obtain⟨d,v,q1,q2,q3⟩:=g4 p.1 e1 (λh=>by rw[List.contains_iff_mem.2 h] at e;cases e.1.2)
   have e2:=e.2
   rw[q1] at e2
   have:p.2=d:=Nat.eq_of_beq_eq_true (by simpa using e2)
   exact⟨v,by rw[this];exact q2,q3⟩) ⟨g3.dfr,g3.siz,λi v hi=>by simp [lk] at hi⟩
  have hls':(ks.filterMap λt=>l.toArray[t]?)=ls:=by rw[←q5];congr 1;funext t;simp
  rw[hls']
  exact k1 a w (k2.append g3) g1
 ·have:=KL (mem_ready.1 hr).1;omega
 ·have hne:k1≠i:=λe=>by
   subst e
   refine hi (List.mem_append_right _ (List.mem_filter.2 ⟨List.mem_range.2 (by simpa using hk1),?_⟩))
   simp only[Bool.and_eq_true,Bool.not_eq_true']
   refine⟨?_,?_⟩
   ·cases hx:ks.contains k1 with
    |true=>exact absurd (List.contains_iff_mem.1 hx) hnd.1
    |false=>rfl
   ·cases hx:G.contains k1 with
    |true=>
     have:=List.all_eq_true.1 c10 k1 (List.contains_iff_mem.1 hx)
     simp at this
    |false=>rfl
  rw[getD_set_ne false hne] at hil
  have hks:i∉ks:=λh=>hi (List.mem_append_left _ h)
  have hlt:i<l.length:=by
   rcases Nat.lt_or_ge i listed.size with h|h
   ·rw[hsz] at h;simpa using h
   ·rw[Array.getD_eq_getD_getElem?,Array.getElem?_eq_none h] at hil;cases hil
  have hG:i∈G:=by
   apply Classical.byContradiction
   intro hG
   refine hi (List.mem_append_right _ (List.mem_filter.2 ⟨List.mem_range.2 hlt,?_⟩))
   simp only[Bool.and_eq_true,Bool.not_eq_true']
   exact⟨by cases hx:ks.contains i with|true=>exact absurd (List.contains_iff_mem.1 hx) hks|false=>rfl,by cases hx:G.contains i with|true=>exact absurd (List.contains_iff_mem.1 hx) hG|false=>rfl⟩
  obtain⟨d,v,p1,p2,p3⟩:=g4 i (λh=>(List.mem_cons.1 h).elim (λe=>hne e.symm) hks) hil
  exact⟨d,v,p1,same _ _ p2,q6 i hG v p3⟩
theorem iZ {P:Program}{l:List Oper}{Q:Exit→Act→World→Prop}{B:World}{n:FN}{m2:SM}{h1 h2:Av}{R:AR}{k1:Nat}{ks G:List Nat}(k:jA P l Q B n m2 h1 h2 R ks G) (hk1:k1<l.length) (hkG:k1∉G)
  {a a2:Act} {w2:World} (g4:∀i,i<l.length→i∉k1::ks→∃d v,Di l.toArray i=some d∧a.tmps[d]? =some v∧R i v h1) (hw:Wd B h2 w2) (hf:Fr n a2 m2) (same:∀(i:Nat) (u:Value),a.tmps[i]? =some u→a2.tmps[i]? =some u):
  wpList P l.toArray Q (ks.filterMap λt=>l[t]?) a2 w2:=by
 obtain⟨R2,pss,fs,ls,ms,rfl,q1,q2,q3,q4,q5,q6,q7,q8,q9⟩:=k
 obtain⟨fr,k1',k2⟩:=IY (a:=a2) (n:=n) _ _ (q9 h2 (Ep.refl h2)) (λp hp=>by
  have e:=List.all_eq_true.1 q4 p hp
  simp only[Bool.and_eq_true,Bool.not_eq_true'] at e
  have e1:p.1<l.length:=by have:=e.1.1;simp [Nat.blt] at this ⊢;omega
  have e0:p.1∉ks++MJ l.length ks G:=λh=>by rw[List.contains_iff_mem.2 h] at e;cases e.1.2
  have hks:p.1∉ks:=λh=>e0 (List.mem_append_left _ h)
  have hG:p.1∈G:=by
   apply Classical.byContradiction
   intro hG
   refine e0 (List.mem_append_right _ (List.mem_filter.2 ⟨List.mem_range.2 e1,?_⟩))
   simp only[Bool.and_eq_true,Bool.not_eq_true']
   exact⟨by cases hx:ks.contains p.1 with|true=>exact absurd (List.contains_iff_mem.1 hx) hks|false=>rfl,by cases hx:G.contains p.1 with|true=>exact absurd (List.contains_iff_mem.1 hx) hG|false=>rfl⟩
  obtain⟨d,v,q1,q2,q3⟩:=g4 p.1 e1 (λh=>(List.mem_cons.1 h).elim (λe=>hkG (e▸hG)) hks)
  have e2:=e.2
  rw[q1] at e2
  have:p.2=d:=Nat.eq_of_beq_eq_true (by simpa using e2)
  exact⟨v,by rw[this];exact same _ _ q2,q6 _ hG v q3⟩) ⟨hf.dfr,hf.siz,λi v hi=>by simp [lk] at hi⟩
 rw[q5]
 exact k1' a2 w2 (k2.append hf) hw
section
variable {P:Program}{ex:List (Nat×AP)}{RR N:AP}{cs:List Code}{B:World}{h:Av}{n:FN}{m m0:SM}{S:Nat→Prop}{L:List HP}
end
end Go.Proofs.YtblcgjadhemlbaaGreat
namespace Go.Proofs.YtblcgjadhemlbaaGreat
open Go.RowKit
set_option linter.unusedVariables false
set_option linter.unusedSimpArgs false
def O1 (L:List HP):HP where
 holds:=λS F h=>Sp S L h F
 loc:=λk s e=>Sp.ext k s e λ_ x=>x
def cG (l:Nat) (r:Loop):HP where
 holds:=λ_ F h=>(∀b,F b↔b=l)∧h[l]? =some (.loop r)
 loc:=λ⟨k1,k2⟩ _ e=>⟨k1,(e l (.inr ((k1 l).2 rfl))).trans k2⟩
theorem Sp.app {S:Nat→Prop}{h:Av}:∀{L1 L:List HP}{A:Nat→Prop},Sp S (L1++L) h A→∃F,Sp S L1 h F∧(∀b,F b→A b)∧Sp S L h (λb=>A b∧¬F b)
 |[],L,A,k=>⟨λ_=>False,trivial,λ_ x=>x.elim,k.mono λb hb=>⟨hb,λx=>x⟩⟩
 |H::L1,L,A,⟨F,k1,k2,k3⟩=>by
  obtain⟨G,g1,g2,g3⟩:=Sp.app k3
  refine⟨λb=>F b∨G b,⟨F,k1,λb hb=> .inl hb,g1.mono λb hb=>⟨.inr hb,(g2 b hb).2⟩⟩,λb hb=>hb.elim (k2 b) λx=>(g2 b x).1,g3.mono λb hb=>⟨hb.1.1,λx=>x.elim hb.1.2 hb.2⟩⟩
theorem Sp.app2 {S:Nat→Prop}{h:Av}:∀{L1 L:List HP}{A F:Nat→Prop},Sp S L1 h F→(∀b,F b→A b)→Sp S L h (λb=>A b∧¬F b)→Sp S (L1++L) h A
 |[],L,A,F,_,_,k=>k.mono λb hb=>hb.1
 |H::L1,L,A,F,⟨G,k1,k2,k3⟩,i,k=>⟨G,k1,λb hb=>i b (k2 b hb),Sp.app2 k3 (λb hb=>⟨i b hb.1,hb.2⟩) (k.mono λb hb=>⟨⟨hb.1,λx=>hb.2 (k2 b x)⟩,λx=>hb.2 x.1⟩)⟩
section
variable {S:Nat→Prop}{L L1 M:List HP}{h:Av}{H:HP}
theorem Sg:∀{M:List HP},M7 (M++H::L) H (M++L)
 |[]=> .head
 |K::M=> .tail Sg
theorem St.mid (hs:St S (H::(M++L)) h):St S (M++H::L) h:=⟨hs.1,LW Sg hs.2⟩
theorem St.rec {l:Nat}{r r':Loop}(hs:St S (cG l r::L) h):h[l]? =some (.loop r)∧St S (cG l r'::L) (h.setIfInBounds l (.loop r'))∧B9 S h S (h.setIfInBounds l (.loop r')):=by
 obtain⟨F,k,_⟩:=hs.get (List.mem_cons_self ..)
 have hlt:l<h.size:=(Array.getElem?_eq_some_iff.1 k.2).1
 refine⟨k.2,hs.upd (H':=cG l r') .head (by simp) λF k1 _=>⟨F,⟨k1.1,by simp [hlt]⟩,λ_ hb=> .inl hb,λb _ hb=>?_⟩⟩
 have:b≠l:=λe=>hb ((k1.1 b).2 e)
 simp [Array.getElem?_setIfInBounds_ne (Ne.symm this)]
end
theorem Wd.putObj {B w:World}{h:Av}(k:Wd B h w) (l:Nat) (o:Obj):Wd B (h.setIfInBounds l o) (w.putObj l o):=⟨by show w.heap.setIfInBounds l o=_;rw[k.heap],k.os,k.tape,k.out⟩
abbrev R9 (α:Type):=(Nat→Prop)→Av→List Value→α→Prop
def YC {α σ:Type}(P:Program) (yv:Value) (Y:Bool→σ→HP) (AR:R9 α) (yld:α→σ→Option (Bool×σ)) (S0:Nat→Prop) (h0:Av):Prop:=
 ∃l,yv= .func (.yield l) #[] #[]∧∀(x:α) (s:σ) (out:Bool×σ),yld x s=some out→∀(S:Nat→Prop) (L:List HP) (h:Av) (vs:List Value) (B w:World),B9 S0 h0 S h→St S (Y true s::L) h→AR S h vs x→Wd B h w→
  ∃fn tmps assign body,(Instr.yield l vs.toArray).run P w= .ok (.round l fn tmps assign body) w∧
   RoundIn Fence.wide 0 P l fn tmps assign body w (λe w'=>∃S' h',e= .returned (.bool out.1)∧Wd B h' w'∧B9 S h S' h'∧St S' (Y out.1 out.2::L) h')
theorem YC.mono {α σ:Type}{P:Program}{yv:Value}{Y:Bool→σ→HP}{AR:R9 α}{yld:α→σ→Option (Bool×σ)}{S0 S1:Nat→Prop}{h0 h1:Av}(k:YC P yv Y AR yld S0 h0) (e:B9 S0 h0 S1 h1):YC P yv Y AR yld S1 h1:=by
 obtain⟨l,e1,k⟩:=k
 exact⟨l,e1,λx s out ho S L h vs B w e2=>k x s out ho S L h vs B w (e.trans e2)⟩
def YL (P:Program) (ops:Array Oper) (Q:Exit→Act→World→Prop) (l:List Oper) (B:World) (h:Av) (n:FN) (m:SM):Prop:=∀a w,Fr n a m→Wd B h w→wpListIn (FF none) 0 P ops Q l a w
theorem YB {P:Program}{l:Nat}{f:FuncId}{tmps:Array Value}{assign body:Code}{w:World}{R:Ending→World→Prop}{rd:Option Nat}{n n':Nat}(h:RoundIn Fence.wide n P l f tmps assign body w R):RoundIn (FF rd) n' P l f tmps assign body w R:=
 ⟨Og rd f,λc cs _=>by rw[OP];exact h.2 c cs (room_wide _)⟩
section
variable {P:Program}{ex:List (Nat×AP)}{R N:AP}{cs:List Code}{B:World}{h:Av}{n:FN}{m m':SM}{S:Nat→Prop}{L:List HP}
end
section
variable {P:Program}{ops:Array Oper}{Q:Exit→Act→World→Prop}{n:FN}{m m':SM}{rest l:List Oper}{B:World}{h:Av}{S:Nat→Prop}{L:List HP}
theorem NN (hQ:∀a w,¬Q .outgrown a w):∀(k:Nat) (l:List Oper) (a:Act) (w:World),wpList P ops (Exit.then (wpListIn (FF none) 0 P ops Q (l.drop k)) Q) (l.take k) a w→wpListIn (FF none) 0 P ops Q l a w
 |0,l,a,w,h=>by simpa [wpList,Exit.then] using h
 |k+1,[],a,w,h=>by simpa [wpList,Exit.then] using h
 |k+1,o::l,a,w,h=>by
  simp only[List.take_succ_cons,List.drop_succ_cons] at h
  unfold wpList at h
  unfold wpListIn
  split
  ·rename_i hw
   rw[if_pos hw] at h
   have h1:=h.imp (Oper.wp_mono λa w k'=>NN hQ k l a w k') id
   refine aD (.inl rfl) hQ ?_
   rcases h1 with h1|⟨_,a0,w0,h2⟩
   ·refine .inl ?_
    unfold Oper.wp at h1 ⊢
    generalize (execOp a.eval o).run P w=r at h1
    cases r with
    |ok nx w'=>
     cases nx<;>simp only[Oper.upon] at h1 ⊢
     case value v=>exact h1
     case skip=>exact h1
     case defer d=>exact h1
     case enter f args=>
      refine h1.mono λe w'' he=>?_
      cases e with
      |returned v=>exact he
      |panicked c=>exact he
      |outgrown=>obtain⟨a0,w0,h0⟩:=he;exact⟨a0,w0,h0⟩
     case row r args=>exact h1
    |halt x w'=>cases x<;>simp only[Oper.upon] at h1 ⊢;exact h1
   ·exact absurd h2 (hQ a0 w0)
  ·rename_i hw
   rw[if_neg hw] at h
   exact⟨λf _=>Og none f,NN hQ k l _ w h⟩
theorem kV {C:World→Prop}(k:YL P ops Q l B h n m):QF P ops C (λa=>∀w,Wd B h w→wpListIn (FF none) 0 P ops Q l a w) [] n m:=λa hf w hw=>k a w hf hw
theorem kU (j:Nat) (hQ:∀a w,¬Q .outgrown a w) (k:LF P ops (Exit.then (wpListIn (FF none) 0 P ops Q (l.drop j)) Q) (l.take j) B h n m):YL P ops Q l B h n m:=λa w hf hw=>NN hQ j l a w (k a w hf hw)
theorem kY (k:YL P ops Q l B h n m):LF P ops (Exit.then (wpListIn (FF none) 0 P ops Q l) Q) [] B h n m:=λa w hf hw=>k a w hf hw
theorem YL.nil {ex:List (Nat×AP)}{R N:AP}{cs:List Code}(hs:Qv m m') (k:WF P ex R cs N B h n m'):YL P ops (Qx ex R (W P ex R cs N)) [] B h n m:=λa w hf hw=>k a w (hf.sub hs) hw
theorem YL.gy {o:Oper}{j e:Nat}{b:Bool}(hg:o.guard=some (j,b)) (hj:(ops[j]?).bind (·.dst)=some e) (hb:lk m e=some (.bool b)) (k:YL P ops Q ({ o with guard:=none}::rest) B h n m):YL P ops Q (o::rest) B h n m:=by
 intro a w hf hw
 have h1:Region.wanted o (yielded ops a.tmps)=true:=by
  have:=hf.at_ e _ hb
  simp [Region.wanted,hg,yielded,hj,this]
 have h2:=k a w hf hw
 unfold wpListIn at h2 ⊢
 rw[if_pos (by simp [Region.wanted])] at h2
 rw[if_pos h1]
 exact h2
theorem YL.gn {o:Oper}{j e d:Nat}{b:Bool}(hg:o.guard=some (j,!b)) (hj:(ops[j]?).bind (·.dst)=some e) (hb:lk m e=some (.bool b)) (ho:o.dst=some d) (hd:Nat.blt d n.1=true) (k:YL P ops Q rest B h n ((d,undef)::m)):YL P ops Q (o::rest) B h n m:=by
 intro a w hf hw
 have h1:Region.wanted o (yielded ops a.tmps)=false:=by
  have:=hf.at_ e _ hb
  cases b<;>simp [Region.wanted,hg,yielded,hj,this]
 unfold wpListIn
 rw[if_neg (by rw[h1];exact Bool.false_ne_true),ho]
 exact⟨λf _=>Og none f,k _ w (hf.put hd _) hw⟩
theorem kA {α σ:Type}{yv:Value}{Y:Bool→σ→HP}{AR:R9 α}{yld:α→σ→Option (Bool×σ)}{S0:Nat→Prop}{h0:Av}{X:Operand}{xs:Array Operand}{tys:Array TypeId}{vs:List Value}{d:Nat}{ty:TypeId}{pos:String}{af:Array Edge}{x:α}{s:σ}{out:Bool×σ}
  (yc:YC P yv Y AR yld S0 h0) (hX:Bf m X=some yv) (hxs:xs.toList.mapM (Bf m)=some vs) (hy:yld x s=some out) (e0:B9 S0 h0 S h) (hs:St S (Y true s::L) h) (ha:AR S h vs x) (hd:Nat.blt d n.1=true)
  (k:∀S' h',B9 S h S' h'→St S' (Y out.1 out.2::L) h'→YL P ops Q rest B h' n ((d,.bool out.1)::m)):YL P ops Q (⟨some d,.call ⟨.value X,xs,tys⟩,ty,pos,af,none⟩::rest) B h n m:=by
 intro a w hf hw
 obtain⟨l,rfl,yc⟩:=yc
 obtain⟨fn,tmps,assign,body,q1,q2⟩:=yc x s out hy S L h vs B w e0 hs ha hw
 unfold wpListIn
 rw[if_pos (by simp [Region.wanted])]
 refine⟨λf _=>Og none f,?_⟩
 have hrun:(execOp a.eval ⟨some d,.call ⟨.value X,xs,tys⟩,ty,pos,af,none⟩).run P w= .ok (.round l fn tmps assign body) w:=by
  have e1:=hf.eval hX
  have e2:=Um hf hxs
  simp [execOp,resolve,Deferred.ofValue,invoke,e1,e2,q1]
 have hs':(⟨some d,.call ⟨.value X,xs,tys⟩,ty,pos,af,none⟩:Oper).semAt (FF none).round a.eval=execOp a.eval ⟨some d,.call ⟨.value X,xs,tys⟩,ty,pos,af,none⟩:=rfl
 rw[hs',hrun]
 refine⟨λhd=>(by rw[QA] at hd;cases hd),YB (RoundIn.mono q2 λe w' he=>?_)⟩
 obtain⟨S',h',rfl,r1,r2,r3⟩:=he
 exact k S' h' r2 r3 _ w' (hf.put hd _) r1
end
section
variable {P:Program}{ex:List (Nat×AP)}{R N:AP}{cs:List Code}{B:World}{h:Av}{k:Nat}{Ds:List Nat}{m:SM}{S:Nat→Prop}{L:List HP}
end
section
variable {S:Nat→Prop}{L:List HP}{h:Av}
end
section
variable {P:Program}{ops:Array Oper}{Q:Exit→Act→World→Prop}{n:FN}{m m':SM}{rest l:List Oper}{B:World}{h:Av}{S:Nat→Prop}{L:List HP}
theorem kT {α σ:Type}{yv:Value}{Y:Bool→σ→HP}{AR:R9 α}{yld:α→σ→Option (Bool×σ)}{S0:Nat→Prop}{h0:Av}{X:Operand}{xs:Array Operand}{tys:Array TypeId}{vs:List Value}{d:Nat}{ty:TypeId}{pos:String}{af:Array Edge}{x:α}{s:σ}{out:Bool×σ}
  (yc:YC P yv Y AR yld S0 h0) (hX:Bf m X=some yv) (hxs:xs.toList.mapM (Bf m)=some vs) (hy:yld x s=some out) (e0:B9 S0 h0 S h) (hs:St S (Y true s::L) h) (ha:AR S h vs x) (hd:Nat.blt d n.1=true)
  (k1:out.1=true→∀S' h',B9 S h S' h'→St S' (Y true out.2::L) h'→YL P ops Q rest B h' n ((d,.bool true)::m))
  (k2:out.1=false→∀S' h',B9 S h S' h'→St S' (Y false out.2::L) h'→YL P ops Q rest B h' n ((d,.bool false)::m)):YL P ops Q (⟨some d,.call ⟨.value X,xs,tys⟩,ty,pos,af,none⟩::rest) B h n m:=
 kA yc hX hxs hy e0 hs ha hd λS' h' e hs=>by
  cases hb:out.1 with
  |true=>rw[hb] at hs;exact k1 hb S' h' e hs
  |false=>rw[hb] at hs;exact k2 hb S' h' e hs
end
section
variable {P:Program}{fn:Func}{B:World}{S S':Nat→Prop}{h h':Av}{post:Value→(Nat→Prop)→Av→Prop}{a:Act}{m:SM}{w:World}{L:List HP}
end
end Go.Proofs.YtblcgjadhemlbaaGreat
