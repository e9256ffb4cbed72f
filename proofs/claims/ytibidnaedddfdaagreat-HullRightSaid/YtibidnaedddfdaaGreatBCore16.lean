import Derived.Test.YtibidnaedddfdaaGreatBCore15
import Derived.Lib.Overlaps
import Derived.Lib.AppendZerosOnto
namespace Go.Proofs.YtibidnaedddfdaaGreat
open Go.RowKit
set_option linter.unusedVariables false
set_option linter.unusedSimpArgs false
theorem JD (b o j:Nat):(⟨b,o,none⟩:Addr).add j=⟨b,o+j,none⟩:=by unfold Addr.add;split<;>simp_all
theorem Kl {h:Ac}{g:Nat}{T:TypeId}{cs:List Value}(hg:h[g]? =some (.cells cs.toArray T (0,0))) (j:Nat):FI h ⟨g,j,none⟩=cs[j]? :=by simp [FI,hg]
section
variable {S:Nat→Prop}{L:List HP}{h:Ac}
theorem St.osbx {α}{r:AW α}{T:Nat}{v:Value}{l:List α}(hs:St S (OS r T v l::L) h):(v= .slice none 0 0∧l=[])∨
  ∃g cap cs,v= .slice (some ⟨g,0,none⟩) l.length cap∧l.length≤cap∧cap≤maxLen∧cs.length=cap*r.sz∧H9 S h r (cs.take (l.length*r.sz)) l∧St S (Bx g T cs::L) h:=by
 obtain⟨F,k,h2⟩:=hs.get (List.mem_cons_self ..)
 rcases k with ⟨k1,k2,_⟩|⟨g,cap,cur,k1,k2,k3,k4,k5,k6,k7⟩
 ·exact .inl ⟨k1,k2⟩
 ·refine .inr ⟨g,cap,cur.toList,k1,k4,k5,by simpa using k6,k7,(hs.upd (H':=Bx g T cur.toList) (.head) (Nat.le_refl _) λF' j1 _=>?_).1⟩
  rcases j1 with ⟨j1,_⟩|⟨g',cap',cur',j1,j2,j3,_⟩
  ·rw[k1] at j1;cases j1
  ·rw[k1] at j1
   injection j1 with e1 _ _
   injection e1 with e1
   injection e1 with e1 _ _
   subst e1
   have:cur'=cur:=by rw[k3] at j3;injection j3 with e;injection e with e _ _;exact e.symm
   subst this
   exact⟨F',⟨j2,by simpa using k3⟩,λ_ hb=> .inl hb,λ_ _ _=>rfl⟩
theorem St.bxosc {α}{r:AW α}{b e cap:Nat}{cs:List Value}{l:List α}(hs:St S (Bx b e cs::L) h) (h1:l.length≤cap) (h2:cap≤maxLen) (h3:cs.length=cap*r.sz) (hr:H9 S h r (cs.take (l.length*r.sz)) l):
  St S (OS r e (.slice (some ⟨b,0,none⟩) l.length cap) l::L) h:=
 (hs.upd (H':=OS r e (.slice (some ⟨b,0,none⟩) l.length cap) l) .head (Nat.le_refl _) λF k1 _=>⟨F,.inr ⟨b,cap,cs.toArray,rfl,k1.1,k1.2,h1,h2,by simpa using h3,by simpa using hr⟩,λ_ hb=> .inl hb,λ_ _ _=>rfl⟩).1
theorem IJ {b T:Nat}{cs:List Value}(hs:St S L h) (hm:Bx b T cs∈L):h[b]? =some (.cells cs.toArray T (0,0)):=by
 obtain⟨F,k,_⟩:=hs.get hm;exact k.2
end
section
variable {P:Program}{ops:Array Oper}{C:World→Prop}{Q:Act→Prop}{n:FN}{m m':SM}{rest:List Oper}
variable {d:Nat}{ty:TypeId}{pos:String}{af:Array Edge}{X Y Z:Operand}{t:TypeId}{kd:IntKind}{v p:Value}
theorem KG {e sz:Nat}(ht:I0 P t e sz=true):P.underlying t=some (.slice (P.elem t))∧∀w,(sizeOf (P.elem t)).run P w= .ok sz w:=by
 obtain⟨i,h1,h2,h3,h4⟩:=KH ht
 have he:P.elem t=e:=by simp [Program.elem,h1]
 rw[he]
 exact⟨h1,λw=>by simp [sizeOf,typeInfo,h2,h3]⟩
theorem Uv {ad:Option Addr}{len cap e sz:Nat}{y:Int}(hx:BW m X=some (.slice ad len cap)) (hy:BW m Y=some (.int kd y)) (ht:I0 P t e sz=true) (h0:0≤y) (h1:y≤len) (hd:Nat.blt d n.1=true)
  (k:∀u,QF P ops C Q rest n ((d,u)::m)):QF P ops C Q (⟨some d,.slice t X (some Y) none none,ty,pos,af,none⟩::rest) n m:=λa hf=>by
 obtain⟨u1,u2⟩:=KG ht
 exact EA hf hd (λw _=>by simp [execOp,hf.eval hx,hf.eval hy,run_sliceAt_slice _ _ _ _ _ _ u1,run_slice_l w t ad len cap u1 kd y h0 h1,u2];rfl) (k _)
theorem LS {b o len cap e sz j:Nat}{y:Int}(hx:BW m X=some (.slice (some ⟨b,o,none⟩) len cap)) (hy:BW m Y=some (.int kd y)) (hj:y=(j:Int)) (ht:I0 P t e sz=true) (h1:j≤len) (h2:j<cap) (hd:Nat.blt d n.1=true)
  (k:QF P ops C Q rest n ((d,.slice (some ⟨b,o+j*sz,none⟩) (len-j) (cap-j))::m)):QF P ops C Q (⟨some d,.slice t X (some Y) none none,ty,pos,af,none⟩::rest) n m:=λa hf=>by
 obtain⟨u1,u2⟩:=KG ht
 subst hj
 refine EA hf hd (λw _=>?_) k
 have e1:¬cap=j:=by omega
 simp [execOp,hf.eval hx,hf.eval hy,run_sliceAt_slice _ _ _ _ _ _ u1,run_slice_l w t _ len cap u1 kd (j:Int) (by omega) (by omega),u2,sliced,e1,JD]
theorem Uu {b o len cap e sz j:Nat}{y:Int}(hx:BW m X=some (.slice (some ⟨b,o,none⟩) len cap)) (hy:BW m Y=some (.int kd y)) (hj:y=(j:Int)) (ht:I0 P t e sz=true) (h2:j≤cap) (hd:Nat.blt d n.1=true)
  (k:QF P ops C Q rest n ((d,.slice (some ⟨b,o,none⟩) j cap)::m)):QF P ops C Q (⟨some d,.slice t X none (some Y) none,ty,pos,af,none⟩::rest) n m:=λa hf=>by
 obtain⟨u1,u2⟩:=KG ht
 subst hj
 refine EA hf hd (λw _=>?_) k
 have e0:(⟨b,o,none⟩:Addr).add 0=⟨b,o,none⟩:=by rw[JD];rfl
 simp [execOp,hf.eval hx,hf.eval hy,run_sliceAt_slice _ _ _ _ _ _ u1,run_slice_h w t _ len cap u1 kd (j:Int) (by omega) (by omega),u2,sliced,e0]
theorem Vn {ad:Option Addr}{len cap e sz:Nat}{aty:TypeId}(hx:BW m X=some (.slice ad len cap)) (ht:I0 P t e sz=true) (hd:Nat.blt d n.1=true) (k:QF P ops C Q rest n ((d,.int .i64 cap)::m)):
  QF P ops C Q (⟨some d,.call ⟨.builtin .cap,#[X],#[t]⟩,aty,pos,af,none⟩::rest) n m:=λa hf=>by
 obtain⟨u1,u2⟩:=KG ht
 exact EA hf hd (λw _=>by simp [execOp,resolve,invoke,builtin,hf.eval hx,run_cap_slice w t _ ad len cap u1,goInt]) k
theorem Vm {f:Nat}{X Y:Operand}{u1 u2:Value}{tys:Array TypeId}(hX:BW m X=some u1) (hY:BW m Y=some u2) (hd:Nat.blt d n.1=true) (hr:∀w,C w→(callFunc f #[u1,u2]).run P w= .ok (.value v) w)
  (k:QF P ops C Q rest n ((d,v)::m)):QF P ops C Q (⟨some d,.call ⟨.value (.func f),#[X,Y],tys⟩,ty,pos,af,none⟩::rest) n m:=λa hf=>
 EA hf hd (λw hc=>by
  have e0:a.eval (.func f)= .func (.func f) #[] #[]:=rfl
  have:=hr w hc
  simp [execOp,resolve,Deferred.ofValue,invoke,e0,hf.eval hX,hf.eval hY,this]) k
end
section
variable {P:Program}{ops:Array Oper}{Q:Exit→Act→World→Prop}{n:FN}{m:SM}{rest:List Oper}
variable {d:Nat}{ty:TypeId}{pos:String}{af:Array Edge}{X Y:Operand}{B w:World}{h:Ac}{S:Nat→Prop}{L L2:List HP}{v:Value}
theorem VH {T t1 t2 e sz b o dl dc sl sc:Nat}{sd:Addr}{cs news:List Value}(ht:I0 P t1 e sz=true) (hl:news.length=Nat.min sl dl*sz) (hg:w.heap[b]? =some (.cells cs.toArray T (0,0)))
  (hc:∀j u,news[j]? =some u→w.cell? (sd.add j)=some u) (hfit:o+news.length≤cs.length) (h1:∀u∈news,u.oneCell'=true):
  (Builtin.copy_ #[t1,t2] ty #[.slice (some ⟨b,o,none⟩) dl dc,.slice (some sd) sl sc]).run P w= .ok (goInt (Nat.min sl dl)) (w.setRow b (Ei cs o news).toArray):=by
 obtain⟨i,u1,u2,u3,u4⟩:=KH ht
 have hf:=run_firstCells_some (P:=P) w sz (Nat.min sl dl) sd sl sc news hl hc
 have hst:=run_storeCells_at P b o T news 0 cs.toArray w hg (by simpa using hfit) h1
 have hcs:(List.take (o+0) cs.toArray.toList++news++List.drop (o+0+news.length) cs.toArray.toList)=Ei cs o news:=by simp [Ei]
 rw[hcs] at hst
 simp [Builtin.copy_,run_underlying u1,Builtin.lenOf,sizeOf,typeInfo,u2,u3,hf,hst]
theorem PC {T t1 t2 e sz b o dl dc sl sc:Nat}{sd:Addr}{cs news cs':List Value}(hx:BW m X=some (.slice (some ⟨b,o,none⟩) dl dc)) (hy:BW m Y=some (.slice (some sd) sl sc)) (ht:I0 P t1 e sz=true) (hl:news.length=Nat.min sl dl*sz)
  (hc:∀j u,news[j]? =some u→FI h (sd.add j)=some u) (hfit:o+news.length≤cs.length) (h1:∀u∈news,u.oneCell'=true) (hp:Ei cs o news=cs') (hd:Nat.blt d n.1=true) (hs:St S L h) (r:Ik L (Bx b T cs) (Bx b T cs') L2)
  (k:∀h',St S L2 h'→Bg S h S h'→(∀b',b'≠b→h'[b']? =h[b']?)→LF P ops Q rest B h' n ((d,.int .i64 (Nat.min sl dl:Nat))::m)):LF P ops Q (⟨some d,.call ⟨.builtin .copy,#[X,Y],#[t1,t2]⟩,ty,pos,af,none⟩::rest) B h n m:=by
 intro a w hf hw
 refine wpList_plain rfl λK hK=>?_
 unfold Oper.wp
 obtain⟨M,p,_⟩:=r.pick
 obtain⟨F,g1,g2,_⟩:=Sp.pick p hs.2
 have hg:w.heap[b]? =some (.cells cs.toArray T (0,0)):=by rw[hw.heap];exact g1.2
 have hrun:=VH (P:=P) (ty:=ty) (t2:=t2) (dc:=dc) (sc:=sc) ht hl hg (λj u hj=>by rw[Ht,hw.heap];exact hc j u hj) hfit h1
 have hr2:(execOp a.eval ⟨some d,.call ⟨.builtin .copy,#[X,Y],#[t1,t2]⟩,ty,pos,af,none⟩).run P w= .ok (.value (goInt (Nat.min sl dl))) (w.setRow b cs'.toArray):=by
  simp [execOp,resolve,invoke,builtin,hf.eval hx,hf.eval hy,hrun,hp]
 rw[hr2]
 obtain⟨h',e1,e2,e3,e4⟩:=Mx w b cs.toArray cs'.toArray T hg
 rw[hw.heap] at e2 e4
 have hup:=hs.upd r (h':=h') (by omega) λF k1 k2=>⟨F,⟨k1.1,e3⟩,λ_ hb=> .inl hb,λb' _ hb'=>e4 b' λe=>hb' ((k1.1 b').2 e)⟩
 exact hK _ _ (k h' hup.1 hup.2 (λb' hb'=>e4 b' hb') _ _ (hf.put hd _) ⟨e1,hw.os,hw.tape,hw.out⟩)
theorem Xg {t tn e sz by_ b o len cap j:Nat}{z olds:List Value}{kq kn:IntKind}{y:Int}(hx:BW m X=some (.slice (some ⟨b,o,none⟩) len cap)) (hy:BW m Y=some (.int kq y)) (hj:y=(j:Int)) (he:LO P t=some (e,sz,by_,z)) (hn:P.underlying tn=some (.int kn))
  (hl:olds.length=len*sz) (hc:∀j u,olds[j]? =some u→FI h ⟨b,o+j,none⟩=some u) (h0:0<j) (hg:cap<len+j) (hb:(len+j)*by_≤140737488355328) (hb0:0<by_) (hd:Nat.blt d n.1=true) (hs:St S L h)
  (k:∀c' cs' h',len+j≤c'→c'≤maxLen→cs'.length=c'*sz→cs'.take (len*sz)=olds→St S (Bx h.size e cs'::L) h'→Bg S h S h'→(∀b',b'<h.size→h'[b']? =h[b']?)→LF P ops Q rest B h' n ((d,.slice (some ⟨h.size,0,none⟩) (len+j) c')::m)):
  LF P ops Q (⟨some d,.call ⟨.builtin .append,#[X,Y],#[t,tn]⟩,ty,pos,af,none⟩::rest) B h n m:=by
 intro a w hf hw
 subst hj
 obtain⟨i,zv,u1,u2,u3,u4,u5,u6,u7,u8⟩:=Hv he
 have hle:len+j≤(len+j)*by_:=Nat.le_mul_of_pos_right _ hb0
 have hjb:j*by_≤(len+j)*by_:=Nat.mul_le_mul_right _ (by omega)
 have hold:(Builtin.firstCells i.size len (.slice (some ⟨b,o,none⟩) len cap)).run P w.drew= .ok olds.toArray w.drew:=
  run_firstCells_some (P:=P) w.drew i.size len ⟨b,o,none⟩ len cap olds (by rw[u4];exact hl) λq u hq=>by
   rw[JD]
   have:=hc q u hq
   rw[←hw.heap,←Ht] at this
   exact this
 have hrun:=Lib.run_append_grow_zeros (P:=P) w t tn ty e i zv kq kn u1 hn u2 u3 (some ⟨b,o,none⟩) len cap olds hold j h0 (by omega) hg (by omega) (by rw[u5];omega) (by rw[u5];exact growslice_fits hg hb)
 refine wpList_plain rfl λK hK=>?_
 unfold Oper.wp
 have hr2:(execOp a.eval ⟨some d,.call ⟨.builtin .append,#[X,Y],#[t,tn]⟩,ty,pos,af,none⟩).run P w= .ok (.value (.slice (some ⟨w.heap.size,0,none⟩) (len+j) (grownCap w (len+j) cap e)))
   (w.drew.alloc (.cells (olds.toArray++Builtin.zeroCells zv.cells j++Builtin.zeroCells zv.cells (grownCap w (len+j) cap e-(len+j))) e)):=by
  simp [execOp,resolve,invoke,builtin,hf.eval hx,hf.eval hy,hrun]
 rw[hr2]
 have hge:=grownCap_ge w (len+j) cap e
 have hmx:=grownCap_le_maxLen w (len+j) cap e (by unfold maxLen;omega)
 have hzs:zv.cells.size=sz:=by rw[u6];simpa using u7
 have hpush:=hs.push e (olds.toArray++Builtin.zeroCells zv.cells j++Builtin.zeroCells zv.cells (grownCap w (len+j) cap e-(len+j))).toList
 rw[Array.toArray_toList] at hpush
 have hwd:=(show Wd B h w.drew from⟨hw.heap,hw.os,hw.tape,hw.out⟩).alloc (.cells (olds.toArray++Builtin.zeroCells zv.cells j++Builtin.zeroCells zv.cells (grownCap w (len+j) cap e-(len+j))) e)
 have hz:w.heap.size=h.size:=by rw[hw.heap]
 rw[hz]
 refine hK _ _ (k _ _ _ hge hmx ?_ ?_ hpush.1 hpush.2 (λb' hb'=>Dl _ _ _ hb') _ _ (hf.put hd _) hwd)
 ·simp only[Array.length_toList,Array.size_append,List.size_toArray,size_zeroCells,hzs,hl,←Nat.add_mul]
  congr 1
  omega
 ·simp only[Array.toList_append,List.append_assoc]
  rw[←hl,List.take_left]
end
theorem H9.take {α S h}{r:AW α}:∀{l:List α}{cs},H9 S h r cs l→∀i,H9 S h r (cs.take (i*r.sz)) (l.take i)
 |[],_,k,i=>by have k:_=[]:=k;subst k;simp [H9]
 |x::l,_,⟨c1,c2,e,k1,k2⟩,0=>by simp [H9]
 |x::l,_,⟨c1,c2,e,k1,k2⟩,i+1=>by
  subst e
  have hl:=r.len k1
  refine⟨c1,c2.take (i*r.sz),?_,k1,k2.take i⟩
  rw[Nat.succ_mul,Nat.add_comm (i*r.sz),←hl,List.take_append]
  rw[List.take_of_length_le (by omega),Nat.add_sub_cancel_left]
theorem H9.drop {α S h}{r:AW α}:∀{l:List α}{cs},H9 S h r cs l→∀i,H9 S h r (cs.drop (i*r.sz)) (l.drop i)
 |[],_,k,i=>by have k:_=[]:=k;subst k;simp [H9]
 |x::l,_,⟨c1,c2,e,k1,k2⟩,0=>by subst e;rw[Nat.zero_mul];exact⟨c1,c2,rfl,k1,k2⟩
 |x::l,_,⟨c1,c2,e,k1,k2⟩,i+1=>by
  subst e
  have hl:=r.len k1
  have:(c1++c2).drop ((i+1)*r.sz)=c2.drop (i*r.sz):=by
   rw[Nat.succ_mul,Nat.add_comm (i*r.sz),←hl,List.drop_append]
   rw[List.drop_of_length_le (by omega),Nat.add_sub_cancel_left,List.nil_append]
  rw[this,List.drop_succ_cons]
  exact k2.drop i
theorem QA {cs M nv:List Value}{A B C:Nat}(hM:M.length=C) (hv:nv.length=B) (hl:A+B+C≤cs.length):(Ei (Ei cs (A+B) M) A nv).take (A+B+C)=cs.take A++nv++M:=by
 unfold Ei
 have e1:(cs.take (A+B)++M++cs.drop (A+B+M.length)).take A=cs.take A:=by
  rw[List.append_assoc,List.take_append_of_le_length (by simp;omega),List.take_take];congr 1;omega
 have e2:(cs.take (A+B)++M++cs.drop (A+B+M.length)).drop (A+nv.length)=M++cs.drop (A+B+M.length):=by
  rw[hv,List.append_assoc,List.drop_append_of_le_length (by simp;omega),List.drop_of_length_le (by simp;omega),List.nil_append]
 rw[e1,e2,←List.append_assoc,List.take_append_of_le_length (by simp;omega),List.take_of_length_le (by simp;omega)]
theorem Qj {cs M nv:List Value}{A B C:Nat}(hM:M.length=C) (hv:nv.length=B) (hl:A+B+C≤cs.length):(Ei (Ei cs A nv) (A+B) M).take (A+B+C)=cs.take A++nv++M:=by
 unfold Ei
 have e1:(cs.take A++nv++cs.drop (A+nv.length)).take (A+B)=cs.take A++nv:=by
  rw[List.take_append_of_le_length (by simp;omega),List.take_of_length_le (by simp;omega)]
 rw[e1,List.take_append_of_le_length (by simp;omega),List.take_of_length_le (by simp;omega)]
section
variable {P:Program}{ops:Array Oper}{Q:Exit→Act→World→Prop}{n:FN}{m:SM}{rest:List Oper}
variable {d:Nat}{ty:TypeId}{pos:String}{af:Array Edge}{X Y:Operand}{B w:World}{h:Ac}{S:Nat→Prop}{L L2:List HP}{v:Value}
end
def VT {α}(by_:Nat) (s:List α) (i:Int) (v:List α):Option (List α):=
 if 0≤i∧i≤s.length∧v.length=1∧room (s.length+1) by_=true then some (s.take i.toNat++v++s.drop i.toNat) else none
theorem SK {α}{by_:Nat}{s:List α}{i:Int}{v r:List α}(h:VT by_ s i v=some r):∃(j:Nat) (x:α),i=(j:Int)∧j≤s.length∧v=[x]∧room (s.length+1) by_=true∧r=s.take j++[x]++s.drop j:=by
 unfold VT at h
 split at h
 ·rename_i hc
  obtain⟨h1,h2,h3,h4⟩:=hc
  cases h
  match v,h3 with
  |[x],_=>exact⟨i.toNat,x,by omega,by omega,rfl,h4,rfl⟩
 ·cases h
theorem R6 {a b:Nat}(h:a+b≤9223372036854775807):A3 ((a:Int)+(b:Int))=((a+b:Nat):Int):=by rw[KA (by unfold AB;omega)];omega
theorem ZO {a b:Nat}(h:b≤a∧a≤9223372036854775807):A3 ((a:Int)-(b:Int))=((a-b:Nat):Int):=by rw[KA (by unfold AB;omega)];omega
theorem St.bxne {S:Nat→Prop}{L:List HP}{h:Ac}{a b T T':Nat}{cs cs':List Value}(hs:St S (Bx a T cs::Bx b T' cs'::L) h):a≠b∧a<h.size∧b<h.size:=by
 obtain⟨F,k1,k2,F',k3,k4,_⟩:=hs.2
 have q1:=k2 a ((k1.1 a).2 rfl)
 have q2:=k4 b ((k3.1 b).2 rfl)
 exact⟨λe=>q2.2 (e▸(k1.1 a).2 rfl),q1.1,q2.1.1⟩
theorem Hr {cs vs:List Value}{o:Nat}(h:o+vs.length≤cs.length):(Ei cs o vs).length=cs.length:=by unfold Ei;simp;omega
end Go.Proofs.YtibidnaedddfdaaGreat
