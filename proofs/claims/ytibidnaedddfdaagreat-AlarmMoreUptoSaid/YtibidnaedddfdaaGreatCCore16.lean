import Derived.Test.YtibidnaedddfdaaGreatCCore15
import Derived.Lib.Overlaps
import Derived.Lib.AppendZerosOnto
namespace Go.Proofs.YtibidnaedddfdaaGreat
open Go.RowKit
set_option linter.unusedVariables false
set_option linter.unusedSimpArgs false
theorem JE (b o j:Nat):(⟨b,o,none⟩:Addr).add j=⟨b,o+j,none⟩:=by unfold Addr.add;split<;>simp_all
theorem Ka {h:AX}{g:Nat}{T:TypeId}{cs:List Value}(hg:h[g]? =some (.cells cs.toArray T (0,0))) (j:Nat):FO h ⟨g,j,none⟩=cs[j]? :=by simp [FO,hg]
section
variable {S:Nat→Prop}{L:List HP}{h:AX}
theorem St.osbx {α}{r:AV α}{T:Nat}{v:Value}{l:List α}(hs:St S (OS r T v l::L) h):(v= .slice none 0 0∧l=[])∨
  ∃g cap cs,v= .slice (some ⟨g,0,none⟩) l.length cap∧l.length≤cap∧cap≤maxLen∧cs.length=cap*r.sz∧H1 S h r (cs.take (l.length*r.sz)) l∧St S (Bx g T cs::L) h:=by
 obtain⟨F,k,h2⟩:=hs.get (List.mem_cons_self ..)
 rcases k with ⟨k1,k2,_⟩|⟨g,cap,cur,k1,k2,k3,k4,k5,k6,k7⟩
 ·exact .inl ⟨k1,k2⟩
 ·refine .inr ⟨g,cap,cur.toList,k1,k4,k5,by simpa using k6,k7,(hs.upd (H':=Bx g T cur.toList) (.head) (Nat.le_refl _) λF' j1 _=>?_).1⟩
  rcases j1 with ⟨j1,_⟩|⟨g',cap',cur',j1,j2,j3,_⟩
  ·rw[k1] at j1;cases j1
  ·rw[k1] at j1
   injection j1 with e1 _ _
   injection e1 with e1
   injection e1 with e1 _ _
   subst e1
   have:cur'=cur:=by rw[k3] at j3;injection j3 with e;injection e with e _ _;exact e.symm
   subst this
   exact⟨F',⟨j2,by simpa using k3⟩,λ_ hb=> .inl hb,λ_ _ _=>rfl⟩
theorem St.bxosc {α}{r:AV α}{b e cap:Nat}{cs:List Value}{l:List α}(hs:St S (Bx b e cs::L) h) (h1:l.length≤cap) (h2:cap≤maxLen) (h3:cs.length=cap*r.sz) (hr:H1 S h r (cs.take (l.length*r.sz)) l):
  St S (OS r e (.slice (some ⟨b,0,none⟩) l.length cap) l::L) h:=
 (hs.upd (H':=OS r e (.slice (some ⟨b,0,none⟩) l.length cap) l) .head (Nat.le_refl _) λF k1 _=>⟨F,.inr ⟨b,cap,cs.toArray,rfl,k1.1,k1.2,h1,h2,by simpa using h3,by simpa using hr⟩,λ_ hb=> .inl hb,λ_ _ _=>rfl⟩).1
theorem IJ {b T:Nat}{cs:List Value}(hs:St S L h) (hm:Bx b T cs∈L):h[b]? =some (.cells cs.toArray T (0,0)):=by
 obtain⟨F,k,_⟩:=hs.get hm;exact k.2
end
section
variable {P:Program}{ops:Array Oper}{C:World→Prop}{Q:Act→Prop}{n:FN}{m m':SM}{rest:List Oper}
variable {d:Nat}{ty:TypeId}{pos:String}{af:Array Edge}{X Y Z:Operand}{t:TypeId}{kd:IntKind}{v p:Value}
theorem J1 {e sz:Nat}(ht:IC P t e sz=true):P.underlying t=some (.slice (P.elem t))∧∀w,(sizeOf (P.elem t)).run P w= .ok sz w:=by
 obtain⟨i,h1,h2,h3,h4⟩:=I5 ht
 have he:P.elem t=e:=by simp [Program.elem,h1]
 rw[he]
 exact⟨h1,λw=>by simp [sizeOf,typeInfo,h2,h3]⟩
theorem U8 {ad:Option Addr}{len cap e sz:Nat}{y:Int}(hx:BP m X=some (.slice ad len cap)) (hy:BP m Y=some (.int kd y)) (ht:IC P t e sz=true) (h0:0≤y) (h1:y≤len) (hd:Nat.blt d n.1=true)
  (k:∀u,QF P ops C Q rest n ((d,u)::m)):QF P ops C Q (⟨some d,.slice t X (some Y) none none,ty,pos,af,none⟩::rest) n m:=λa hf=>by
 obtain⟨u1,u2⟩:=J1 ht
 exact EW hf hd (λw _=>by simp [execOp,hf.eval hx,hf.eval hy,run_sliceAt_slice _ _ _ _ _ _ u1,run_slice_l w t ad len cap u1 kd y h0 h1,u2];rfl) (k _)
theorem KP {b o len cap e sz j:Nat}{y:Int}(hx:BP m X=some (.slice (some ⟨b,o,none⟩) len cap)) (hy:BP m Y=some (.int kd y)) (hj:y=(j:Int)) (ht:IC P t e sz=true) (h1:j≤len) (h2:j<cap) (hd:Nat.blt d n.1=true)
  (k:QF P ops C Q rest n ((d,.slice (some ⟨b,o+j*sz,none⟩) (len-j) (cap-j))::m)):QF P ops C Q (⟨some d,.slice t X (some Y) none none,ty,pos,af,none⟩::rest) n m:=λa hf=>by
 obtain⟨u1,u2⟩:=J1 ht
 subst hj
 refine EW hf hd (λw _=>?_) k
 have e1:¬cap=j:=by omega
 simp [execOp,hf.eval hx,hf.eval hy,run_sliceAt_slice _ _ _ _ _ _ u1,run_slice_l w t _ len cap u1 kd (j:Int) (by omega) (by omega),u2,sliced,e1,JE]
theorem Q8 {b o len cap e sz j:Nat}{y:Int}(hx:BP m X=some (.slice (some ⟨b,o,none⟩) len cap)) (hy:BP m Y=some (.int kd y)) (hj:y=(j:Int)) (ht:IC P t e sz=true) (h2:j≤cap) (hd:Nat.blt d n.1=true)
  (k:QF P ops C Q rest n ((d,.slice (some ⟨b,o,none⟩) j cap)::m)):QF P ops C Q (⟨some d,.slice t X none (some Y) none,ty,pos,af,none⟩::rest) n m:=λa hf=>by
 obtain⟨u1,u2⟩:=J1 ht
 subst hj
 refine EW hf hd (λw _=>?_) k
 have e0:(⟨b,o,none⟩:Addr).add 0=⟨b,o,none⟩:=by rw[JE];rfl
 simp [execOp,hf.eval hx,hf.eval hy,run_sliceAt_slice _ _ _ _ _ _ u1,run_slice_h w t _ len cap u1 kd (j:Int) (by omega) (by omega),u2,sliced,e0]
theorem WC {ad:Option Addr}{len cap e sz:Nat}{aty:TypeId}(hx:BP m X=some (.slice ad len cap)) (ht:IC P t e sz=true) (hd:Nat.blt d n.1=true) (k:QF P ops C Q rest n ((d,.int .i64 cap)::m)):
  QF P ops C Q (⟨some d,.call ⟨.builtin .cap,#[X],#[t]⟩,aty,pos,af,none⟩::rest) n m:=λa hf=>by
 obtain⟨u1,u2⟩:=J1 ht
 exact EW hf hd (λw _=>by simp [execOp,resolve,invoke,builtin,hf.eval hx,run_cap_slice w t _ ad len cap u1,goInt]) k
theorem WB {f:Nat}{X Y:Operand}{u1 u2:Value}{tys:Array TypeId}(hX:BP m X=some u1) (hY:BP m Y=some u2) (hd:Nat.blt d n.1=true) (hr:∀w,C w→(callFunc f #[u1,u2]).run P w= .ok (.value v) w)
  (k:QF P ops C Q rest n ((d,v)::m)):QF P ops C Q (⟨some d,.call ⟨.value (.func f),#[X,Y],tys⟩,ty,pos,af,none⟩::rest) n m:=λa hf=>
 EW hf hd (λw hc=>by
  have e0:a.eval (.func f)= .func (.func f) #[] #[]:=rfl
  have:=hr w hc
  simp [execOp,resolve,Deferred.ofValue,invoke,e0,hf.eval hX,hf.eval hY,this]) k
end
section
variable {P:Program}{ops:Array Oper}{Q:Exit→Act→World→Prop}{n:FN}{m:SM}{rest:List Oper}
variable {d:Nat}{ty:TypeId}{pos:String}{af:Array Edge}{X Y:Operand}{B w:World}{h:AX}{S:Nat→Prop}{L L2:List HP}{v:Value}
theorem RS {T t1 t2 e sz b o dl dc sl sc:Nat}{sd:Addr}{cs news:List Value}(ht:IC P t1 e sz=true) (hl:news.length=Nat.min sl dl*sz) (hg:w.heap[b]? =some (.cells cs.toArray T (0,0)))
  (hc:∀j u,news[j]? =some u→w.cell? (sd.add j)=some u) (hfit:o+news.length≤cs.length) (h1:∀u∈news,u.oneCell'=true):
  (Builtin.copy_ #[t1,t2] ty #[.slice (some ⟨b,o,none⟩) dl dc,.slice (some sd) sl sc]).run P w= .ok (goInt (Nat.min sl dl)) (w.setRow b (EX cs o news).toArray):=by
 obtain⟨i,u1,u2,u3,u4⟩:=I5 ht
 have hf:=run_firstCells_some (P:=P) w sz (Nat.min sl dl) sd sl sc news hl hc
 have hst:=run_storeCells_at P b o T news 0 cs.toArray w hg (by simpa using hfit) h1
 have hcs:(List.take (o+0) cs.toArray.toList++news++List.drop (o+0+news.length) cs.toArray.toList)=EX cs o news:=by simp [EX]
 rw[hcs] at hst
 simp [Builtin.copy_,run_underlying u1,Builtin.lenOf,sizeOf,typeInfo,u2,u3,hf,hst]
theorem PM {T t1 t2 e sz b o dl dc sl sc:Nat}{sd:Addr}{cs news cs':List Value}(hx:BP m X=some (.slice (some ⟨b,o,none⟩) dl dc)) (hy:BP m Y=some (.slice (some sd) sl sc)) (ht:IC P t1 e sz=true) (hl:news.length=Nat.min sl dl*sz)
  (hc:∀j u,news[j]? =some u→FO h (sd.add j)=some u) (hfit:o+news.length≤cs.length) (h1:∀u∈news,u.oneCell'=true) (hp:EX cs o news=cs') (hd:Nat.blt d n.1=true) (hs:St S L h) (r:IZ L (Bx b T cs) (Bx b T cs') L2)
  (k:∀h',St S L2 h'→Bc S h S h'→(∀b',b'≠b→h'[b']? =h[b']?)→LF P ops Q rest B h' n ((d,.int .i64 (Nat.min sl dl:Nat))::m)):LF P ops Q (⟨some d,.call ⟨.builtin .copy,#[X,Y],#[t1,t2]⟩,ty,pos,af,none⟩::rest) B h n m:=by
 intro a w hf hw
 refine wpList_plain rfl λK hK=>?_
 unfold Oper.wp
 obtain⟨M,p,_⟩:=r.pick
 obtain⟨F,g1,g2,_⟩:=Sp.pick p hs.2
 have hg:w.heap[b]? =some (.cells cs.toArray T (0,0)):=by rw[hw.heap];exact g1.2
 have hrun:=RS (P:=P) (ty:=ty) (t2:=t2) (dc:=dc) (sc:=sc) ht hl hg (λj u hj=>by rw[G8,hw.heap];exact hc j u hj) hfit h1
 have hr2:(execOp a.eval ⟨some d,.call ⟨.builtin .copy,#[X,Y],#[t1,t2]⟩,ty,pos,af,none⟩).run P w= .ok (.value (goInt (Nat.min sl dl))) (w.setRow b cs'.toArray):=by
  simp [execOp,resolve,invoke,builtin,hf.eval hx,hf.eval hy,hrun,hp]
 rw[hr2]
 obtain⟨h',e1,e2,e3,e4⟩:=Lc w b cs.toArray cs'.toArray T hg
 rw[hw.heap] at e2 e4
 have hup:=hs.upd r (h':=h') (by omega) λF k1 k2=>⟨F,⟨k1.1,e3⟩,λ_ hb=> .inl hb,λb' _ hb'=>e4 b' λe=>hb' ((k1.1 b').2 e)⟩
 exact hK _ _ (k h' hup.1 hup.2 (λb' hb'=>e4 b' hb') _ _ (hf.put hd _) ⟨e1,hw.os,hw.tape,hw.out⟩)
theorem YI {t tn e sz by_ b o len cap j:Nat}{z olds:List Value}{kq kn:IntKind}{y:Int}(hx:BP m X=some (.slice (some ⟨b,o,none⟩) len cap)) (hy:BP m Y=some (.int kq y)) (hj:y=(j:Int)) (he:LR P t=some (e,sz,by_,z)) (hn:P.underlying tn=some (.int kn))
  (hl:olds.length=len*sz) (hc:∀j u,olds[j]? =some u→FO h ⟨b,o+j,none⟩=some u) (h0:0<j) (hg:cap<len+j) (hb:(len+j)*by_≤140737488355328) (hb0:0<by_) (hd:Nat.blt d n.1=true) (hs:St S L h)
  (k:∀c' cs' h',len+j≤c'→c'≤maxLen→cs'.length=c'*sz→cs'.take (len*sz)=olds→St S (Bx h.size e cs'::L) h'→Bc S h S h'→(∀b',b'<h.size→h'[b']? =h[b']?)→LF P ops Q rest B h' n ((d,.slice (some ⟨h.size,0,none⟩) (len+j) c')::m)):
  LF P ops Q (⟨some d,.call ⟨.builtin .append,#[X,Y],#[t,tn]⟩,ty,pos,af,none⟩::rest) B h n m:=by
 intro a w hf hw
 subst hj
 obtain⟨i,zv,u1,u2,u3,u4,u5,u6,u7,u8⟩:=Ht he
 have hle:len+j≤(len+j)*by_:=Nat.le_mul_of_pos_right _ hb0
 have hjb:j*by_≤(len+j)*by_:=Nat.mul_le_mul_right _ (by omega)
 have hold:(Builtin.firstCells i.size len (.slice (some ⟨b,o,none⟩) len cap)).run P w.drew= .ok olds.toArray w.drew:=
  run_firstCells_some (P:=P) w.drew i.size len ⟨b,o,none⟩ len cap olds (by rw[u4];exact hl) λq u hq=>by
   rw[JE]
   have:=hc q u hq
   rw[←hw.heap,←G8] at this
   exact this
 have hrun:=Lib.run_append_grow_zeros (P:=P) w t tn ty e i zv kq kn u1 hn u2 u3 (some ⟨b,o,none⟩) len cap olds hold j h0 (by omega) hg (by omega) (by rw[u5];omega) (by rw[u5];exact growslice_fits hg hb)
 refine wpList_plain rfl λK hK=>?_
 unfold Oper.wp
 have hr2:(execOp a.eval ⟨some d,.call ⟨.builtin .append,#[X,Y],#[t,tn]⟩,ty,pos,af,none⟩).run P w= .ok (.value (.slice (some ⟨w.heap.size,0,none⟩) (len+j) (grownCap w (len+j) cap e)))
   (w.drew.alloc (.cells (olds.toArray++Builtin.zeroCells zv.cells j++Builtin.zeroCells zv.cells (grownCap w (len+j) cap e-(len+j))) e)):=by
  simp [execOp,resolve,invoke,builtin,hf.eval hx,hf.eval hy,hrun]
 rw[hr2]
 have hge:=grownCap_ge w (len+j) cap e
 have hmx:=grownCap_le_maxLen w (len+j) cap e (by unfold maxLen;omega)
 have hzs:zv.cells.size=sz:=by rw[u6];simpa using u7
 have hpush:=hs.push e (olds.toArray++Builtin.zeroCells zv.cells j++Builtin.zeroCells zv.cells (grownCap w (len+j) cap e-(len+j))).toList
 rw[Array.toArray_toList] at hpush
 have hwd:=(show Wd B h w.drew from⟨hw.heap,hw.os,hw.tape,hw.out⟩).alloc (.cells (olds.toArray++Builtin.zeroCells zv.cells j++Builtin.zeroCells zv.cells (grownCap w (len+j) cap e-(len+j))) e)
 have hz:w.heap.size=h.size:=by rw[hw.heap]
 rw[hz]
 refine hK _ _ (k _ _ _ hge hmx ?_ ?_ hpush.1 hpush.2 (λb' hb'=>ES _ _ _ hb') _ _ (hf.put hd _) hwd)
 ·simp only[Array.length_toList,Array.size_append,List.size_toArray,size_zeroCells,hzs,hl,←Nat.add_mul]
  congr 1
  omega
 ·simp only[Array.toList_append,List.append_assoc]
  rw[←hl,List.take_left]
end
theorem H1.take {α S h}{r:AV α}:∀{l:List α}{cs},H1 S h r cs l→∀i,H1 S h r (cs.take (i*r.sz)) (l.take i)
 |[],_,k,i=>by have k:_=[]:=k;subst k;simp [H1]
 |x::l,_,⟨c1,c2,e,k1,k2⟩,0=>by simp [H1]
 |x::l,_,⟨c1,c2,e,k1,k2⟩,i+1=>by
  subst e
  have hl:=r.len k1
  refine⟨c1,c2.take (i*r.sz),?_,k1,k2.take i⟩
  rw[Nat.succ_mul,Nat.add_comm (i*r.sz),←hl,List.take_append]
  rw[List.take_of_length_le (by omega),Nat.add_sub_cancel_left]
theorem H1.drop {α S h}{r:AV α}:∀{l:List α}{cs},H1 S h r cs l→∀i,H1 S h r (cs.drop (i*r.sz)) (l.drop i)
 |[],_,k,i=>by have k:_=[]:=k;subst k;simp [H1]
 |x::l,_,⟨c1,c2,e,k1,k2⟩,0=>by subst e;rw[Nat.zero_mul];exact⟨c1,c2,rfl,k1,k2⟩
 |x::l,_,⟨c1,c2,e,k1,k2⟩,i+1=>by
  subst e
  have hl:=r.len k1
  have:(c1++c2).drop ((i+1)*r.sz)=c2.drop (i*r.sz):=by
   rw[Nat.succ_mul,Nat.add_comm (i*r.sz),←hl,List.drop_append]
   rw[List.drop_of_length_le (by omega),Nat.add_sub_cancel_left,List.nil_append]
  rw[this,List.drop_succ_cons]
  exact k2.drop i
theorem QJ {cs M nv:List Value}{A B C:Nat}(hM:M.length=C) (hv:nv.length=B) (hl:A+B+C≤cs.length):(EX (EX cs (A+B) M) A nv).take (A+B+C)=cs.take A++nv++M:=by
 unfold EX
 have e1:(cs.take (A+B)++M++cs.drop (A+B+M.length)).take A=cs.take A:=by
  rw[List.append_assoc,List.take_append_of_le_length (by simp;omega),List.take_take];congr 1;omega
 have e2:(cs.take (A+B)++M++cs.drop (A+B+M.length)).drop (A+nv.length)=M++cs.drop (A+B+M.length):=by
  rw[hv,List.append_assoc,List.drop_append_of_le_length (by simp;omega),List.drop_of_length_le (by simp;omega),List.nil_append]
 rw[e1,e2,←List.append_assoc,List.take_append_of_le_length (by simp;omega),List.take_of_length_le (by simp;omega)]
theorem Q2 {cs M nv:List Value}{A B C:Nat}(hM:M.length=C) (hv:nv.length=B) (hl:A+B+C≤cs.length):(EX (EX cs A nv) (A+B) M).take (A+B+C)=cs.take A++nv++M:=by
 unfold EX
 have e1:(cs.take A++nv++cs.drop (A+nv.length)).take (A+B)=cs.take A++nv:=by
  rw[List.take_append_of_le_length (by simp;omega),List.take_of_length_le (by simp;omega)]
 rw[e1,List.take_append_of_le_length (by simp;omega),List.take_of_length_le (by simp;omega)]
def Vz {α}(l xs:List α):List α:=xs.take l.length++l.drop xs.length
section
variable {P:Program}{ops:Array Oper}{Q:Exit→Act→World→Prop}{n:FN}{m:SM}{rest:List Oper}
variable {d:Nat}{ty:TypeId}{pos:String}{af:Array Edge}{X Y:Operand}{B w:World}{h:AX}{S:Nat→Prop}{L L2:List HP}{v:Value}
theorem VU {t1 t2 e sz dl dc sl sc:Nat}{db sb:Option Addr}(ht:IC P t1 e sz=true) (h0:Nat.min sl dl=0) (w:World):
  (Builtin.copy_ #[t1,t2] ty #[.slice db dl dc,.slice sb sl sc]).run P w= .ok (goInt 0) w:=by
 obtain⟨i,u1,u2,u3,u4⟩:=I5 ht
 have hl:∀(x:Addr),(loadCells x 0).run P w= .ok #[] w:=λx=>by simpa using run_loadCells_list (P:=P) w x [] (by simp)
 cases db<;>cases sb<;>simp [Builtin.copy_,run_underlying u1,Builtin.lenOf,Builtin.firstCells,sizeOf,typeInfo,u2,h0,storeCells,hl]
theorem YH {α}{r:AV α}{T t1 t2 e:Nat}{s:Value}{l xs:List α}(hx:BP m X=some v) (hy:BP m Y=some s) (ht:IC P t1 e r.sz=true) (hsrc:X7 S h r s xs) (hd:Nat.blt d n.1=true) (hs:St S L h) (rp:IZ L (OS r T v l) (OS r T v (Vz l xs)) L2)
  (k:∀h',St S L2 h'→Bc S h S h'→LF P ops Q rest B h' n ((d,.int .i64 (Nat.min xs.length l.length:Nat))::m)):LF P ops Q (⟨some d,.call ⟨.builtin .copy,#[X,Y],#[t1,t2]⟩,ty,pos,af,none⟩::rest) B h n m:=by
 intro a w hf hw
 refine wpList_plain rfl λK hK=>?_
 unfold Oper.wp
 obtain⟨M,p,_⟩:=rp.pick
 obtain⟨F,g1,g2,_⟩:=Sp.pick p hs.2
 obtain⟨ad,cap,hv,hmx⟩:=OS.len g1
 have hse:∃sb sc,s= .slice sb xs.length sc:=by
  rcases hsrc with ⟨h1,h2⟩|⟨sd,sc,_,h1,_⟩
  ·exact⟨none,0,by rw[h1,h2];rfl⟩
  ·exact⟨_,sc,h1⟩
 by_cases h0:Nat.min xs.length l.length=0
 ·obtain⟨sb,sc,hs1⟩:=hse
  have hrun:=VU (P:=P) (ty:=ty) (t2:=t2) (dl:=l.length) (dc:=cap) (sl:=xs.length) (sc:=sc) (db:=ad) (sb:=sb) ht h0 w
  have hr2:(execOp a.eval ⟨some d,.call ⟨.builtin .copy,#[X,Y],#[t1,t2]⟩,ty,pos,af,none⟩).run P w= .ok (.value (goInt 0)) w:=by
   simp [execOp,resolve,invoke,builtin,hf.eval hx,hf.eval hy,hv,hs1,hrun]
  rw[hr2]
  have e:Vz l xs=l:=by
   unfold Vz
   have:xs.length=0∨l.length=0:=by simp only[Nat.min_def] at h0;split at h0<;>omega
   rcases this with h|h
   ·rw[List.eq_nil_of_length_eq_zero h];simp
   ·rw[List.eq_nil_of_length_eq_zero h];simp
  rw[e] at rp
  have hup:=hs.upd rp (Nat.le_refl _) λF k1 _=>⟨F,k1,λ_ hb=> .inl hb,λ_ _ _=>rfl⟩
  have:=k h hup.1 hup.2 _ _ (hf.put hd _) hw
  rw[h0] at this
  exact hK _ _ this
 ·rcases g1 with ⟨_,h2,_⟩|⟨g,cap',cur,k1,k2,k3,k4,k5,k6,k7⟩
  ·exact absurd (by rw[h2];simp) h0
  ·rcases hsrc with ⟨_,h2⟩|⟨sd,sc,news,j1,_,j3,j4⟩
   ·exact absurd (by rw[h2];simp) h0
   ·have hg:w.heap[g]? =some (.cells cur.toList.toArray T (0,0)):=by rw[hw.heap];simpa using k3
    have hnl:=j3.len
    have hmin:(xs.take l.length).length=Nat.min xs.length l.length:=by rw[List.length_take];exact Nat.min_comm _ _
    have hN:=j3.take l.length
    have hNl:=hN.len
    rw[hmin] at hNl
    have hle:Nat.min xs.length l.length*r.sz≤l.length*r.sz:=Nat.mul_le_mul_right _ (Nat.min_le_right _ _)
    have hlc:l.length*r.sz≤cap'*r.sz:=Nat.mul_le_mul_right _ k4
    have hrun:=RS (P:=P) (ty:=ty) (t2:=t2) (b:=g) (o:=0) (dl:=l.length) (dc:=cap') (sl:=xs.length) (sc:=sc) (cs:=cur.toList) (T:=T) ht hNl hg (λj u hj=>by
     rw[G8,hw.heap]
     exact j4 j u (by rw[List.getElem?_take] at hj;split at hj;exact hj;cases hj)) (by simp;omega) (λu hu=>hN.one u hu)
    have hr2:(execOp a.eval ⟨some d,.call ⟨.builtin .copy,#[X,Y],#[t1,t2]⟩,ty,pos,af,none⟩).run P w= .ok (.value (goInt (Nat.min xs.length l.length))) (w.setRow g (EX cur.toList 0 (news.take (l.length*r.sz))).toArray):=by
     simp [execOp,resolve,invoke,builtin,hf.eval hx,hf.eval hy,k1,j1,hrun]
    rw[hr2]
    obtain⟨h',e1,e2,e3,e4⟩:=Lc w g cur (EX cur.toList 0 (news.take (l.length*r.sz))).toArray T (by simpa using hg)
    rw[hw.heap] at e2 e4
    have hcl:(Vz l xs).length=l.length:=by unfold Vz;rw[List.length_append,hmin,List.length_drop];simp only[Nat.min_def];split<;>omega
    have hup:=hs.upd rp (h':=h') (by omega) λF1 m1 m2=>by
     rcases m1 with ⟨m1,_⟩|⟨g',c',cur',m1,q2,q3,_⟩
     ·rw[k1] at m1;cases m1
     ·rw[k1] at m1
      injection m1 with q _ _
      injection q with q
      injection q with q _ _
      subst q
      refine⟨F1,.inr ⟨g,cap',_,by rw[hcl];exact k1,q2,e3,by omega,k5,?_,?_⟩,λ_ hb=> .inl hb,λb' _ hb'=>e4 b' λe=>hb' ((q2 b').2 e)⟩
      ·simp only[EX,List.take_zero,List.nil_append,List.size_toArray,List.length_append,List.length_drop,Array.length_toList,hNl]
       omega
      ·rw[hcl]
       have eq1:(EX cur.toList 0 (news.take (l.length*r.sz))).take (l.length*r.sz)=news.take (l.length*r.sz)++(cur.toList.take (l.length*r.sz)).drop (xs.length*r.sz):=by
        simp only[EX,List.take_zero,List.nil_append,Nat.zero_add]
        rw[List.take_append]
        rw[List.take_of_length_le (by omega)]
        congr 1
        rw[hNl]
        by_cases hc:xs.length≤l.length
        ·have:Nat.min xs.length l.length=xs.length:=Nat.min_eq_left hc
         rw[this,List.drop_take]
        ·have:Nat.min xs.length l.length=l.length:=Nat.min_eq_right (by omega)
         have hm:l.length*r.sz≤xs.length*r.sz:=Nat.mul_le_mul_right _ (by omega)
         rw[this,Nat.sub_self,List.take_zero,List.drop_of_length_le (by simp;omega)]
       show H1 S h' r (List.take (l.length*r.sz) (EX cur.toList 0 (news.take (l.length*r.sz)))) (Vz l xs)
       rw[eq1]
       exact(hN.append (k7.drop xs.length)).mono (λ_ x=>x) λb hb=>e4 b λe=>(m2 g ((q2 g).2 rfl)).2 (e▸hb)
    exact hK _ _ (k h' hup.1 hup.2 _ _ (hf.put hd _) ⟨e1,hw.os,hw.tape,hw.out⟩)
end
def Vh {α}(by_:Nat) (s:List α) (i:Int) (v:List α):Option (List α):=
 if 0≤i∧i≤s.length∧v.length=1∧room (s.length+1) by_=true then some (s.take i.toNat++v++s.drop i.toNat) else none
theorem SY {α}{by_:Nat}{s:List α}{i:Int}{v r:List α}(h:Vh by_ s i v=some r):∃(j:Nat) (x:α),i=(j:Int)∧j≤s.length∧v=[x]∧room (s.length+1) by_=true∧r=s.take j++[x]++s.drop j:=by
 unfold Vh at h
 split at h
 ·rename_i hc
  obtain⟨h1,h2,h3,h4⟩:=hc
  cases h
  match v,h3 with
  |[x],_=>exact⟨i.toNat,x,by omega,by omega,rfl,h4,rfl⟩
 ·cases h
theorem SH {a b:Nat}(h:a+b≤9223372036854775807):Aw ((a:Int)+(b:Int))=((a+b:Nat):Int):=by rw[K9 (by unfold AB;omega)];omega
theorem Z3 {a b:Nat}(h:b≤a∧a≤9223372036854775807):Aw ((a:Int)-(b:Int))=((a-b:Nat):Int):=by rw[K9 (by unfold AB;omega)];omega
theorem St.bxne {S:Nat→Prop}{L:List HP}{h:AX}{a b T T':Nat}{cs cs':List Value}(hs:St S (Bx a T cs::Bx b T' cs'::L) h):a≠b∧a<h.size∧b<h.size:=by
 obtain⟨F,k1,k2,F',k3,k4,_⟩:=hs.2
 have q1:=k2 a ((k1.1 a).2 rfl)
 have q2:=k4 b ((k3.1 b).2 rfl)
 exact⟨λe=>q2.2 (e▸(k1.1 a).2 rfl),q1.1,q2.1.1⟩
theorem Hq {cs vs:List Value}{o:Nat}(h:o+vs.length≤cs.length):(EX cs o vs).length=cs.length:=by unfold EX;simp;omega
end Go.Proofs.YtibidnaedddfdaaGreat
