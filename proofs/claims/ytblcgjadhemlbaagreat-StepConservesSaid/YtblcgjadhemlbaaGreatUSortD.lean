import Derived.Test.YtblcgjadhemlbaaGreatUCore28
import Derived.OrdersHeld
namespace Go.Proofs.YtblcgjadhemlbaaGreat
open Go.RowKit
set_option linter.unusedVariables false
set_option linter.unusedSimpArgs false
theorem St.zs {α}{S:Nat→Prop}{L:List HP}{h:Av}(hs:St S L h) (r:AM α) (T:TypeId) (ad:Option Addr):St S (OS r T (.slice ad 0 0) ([]:List α)::L) h:=
 (hs.add (Nat.le_refl _) (λ_ _=>rfl) ⟨λ_=>False,Or.inl ⟨⟨ad,rfl⟩,rfl,λ_ x=>x⟩,λ_ x=>x.elim⟩).1
section
variable {P:Program}{ops:Array Oper}{C:World→Prop}{Q:Act→Prop}{Q2:Exit→Act→World→Prop}{n:FN}{m m':SM}{rest:List Oper}
variable {d:Nat}{ty:TypeId}{pos:String}{af:Array Edge}{X Y Z:Operand}{t:TypeId}{kd kd2:IntKind}{v p:Value}{S:Nat→Prop}{h:Av}{B:World}{L:List HP}
theorem Yq {α}{r:AM α}{e:TypeId}{l:List α}(hx:Bf m X=some v) (hy:Bf m Y=some (.int kd 0)) (hz:Bf m Z=some (.int kd2 0)) (k0:Sl S h r v l) (ht:KM P t e r.sz=true) (hd:Nat.blt d n.1=true)
  (k:∀ad,QF P ops C Q rest n ((d,.slice ad 0 0)::m)):QF P ops C Q (⟨some d,.slice t X none (some Y) (some Z),ty,pos,af,none⟩::rest) n m:=λa hf=>by
 obtain⟨u1,u2⟩:=MF ht
 obtain⟨ad,len,cap,rfl⟩:∃ad len cap,v= .slice ad len cap:=by
  rcases k0 with ⟨e1,_⟩|⟨a,cap,e1,_⟩
  ·exact⟨none,0,0,e1⟩
  ·exact⟨_,_,_,e1⟩
 refine FT hf hd (λw _=>?_) (k ad)
 simp [execOp,hf.eval hx,hf.eval hy,hf.eval hz,run_sliceAt_slice _ _ _ _ _ _ u1,run_slice_hm w t ad len cap u1 kd kd2 0 0 (by omega) (by omega) (by omega),u2,sliced]
theorem bN {e sz:Nat}(hx:Bf m X=some (.slice none 0 0)) (hy:Bf m Y=some (.int kd 0)) (ht:KM P t e sz=true) (hd:Nat.blt d n.1=true)
  (k:QF P ops C Q rest n ((d,.slice none 0 0)::m)):QF P ops C Q (⟨some d,.slice t X none (some Y) none,ty,pos,af,none⟩::rest) n m:=λa hf=>by
 obtain⟨u1,u2⟩:=MF ht
 refine FT hf hd (λw _=>?_) k
 simp [execOp,hf.eval hx,hf.eval hy,run_sliceAt_slice _ _ _ _ _ _ u1,run_slice_h w t none 0 0 u1 kd 0 (by omega) (by omega),u2,sliced]
theorem Yp {e sz:Nat}(hx:Bf m X=some (.slice none 0 0)) (hy:Bf m Y=some (.int kd 0)) (hz:Bf m Z=some (.int kd2 0)) (ht:KM P t e sz=true) (hd:Nat.blt d n.1=true)
  (k:QF P ops C Q rest n ((d,.slice none 0 0)::m)):QF P ops C Q (⟨some d,.slice t X none (some Y) (some Z),ty,pos,af,none⟩::rest) n m:=λa hf=>by
 obtain⟨u1,u2⟩:=MF ht
 refine FT hf hd (λw _=>?_) k
 simp [execOp,hf.eval hx,hf.eval hy,hf.eval hz,run_sliceAt_slice _ _ _ _ _ _ u1,run_slice_hm w t none 0 0 u1 kd kd2 0 0 (by omega) (by omega) (by omega),u2,sliced]
theorem Y2 {t tn e sz by_:Nat}{z:List Value}{kq kn:IntKind}{y:Int}(hx:Bf m X=some (.slice none 0 0)) (hy:Bf m Y=some (.int kq y)) (he:M4 P t=some (e,sz,by_,z)) (hn:P.underlying tn=some (.int kn))
  (h0:0<y) (hb:KN y.toNat by_=true) (hb0:Nat.blt 0 by_=true) (hd:Nat.blt d n.1=true) (hs:St S L h)
  (k:∀b c' cs' h',y.toNat≤c'→c'≤maxLen→cs'.length=c'*sz→St S (Bx b e cs'::L) h'→B9 S h S h'→LF P ops Q2 rest B h' n ((d,.slice (some ⟨b,0,none⟩) y.toNat c')::m)):
  LF P ops Q2 (⟨some d,.call ⟨.builtin .append,#[X,Y],#[t,tn]⟩,ty,pos,af,none⟩::rest) B h n m:=by
 intro a w hf hw
 obtain⟨j,rfl⟩:∃j:Nat,y=j:=⟨y.toNat,by omega⟩
 have hb:=OF hb
 simp only[Int.toNat_natCast] at hb k
 have hb0':0<by_:=(by simpa [Nat.blt] using hb0:1≤by_)
 obtain⟨i,zv,u1,u2,u3,u4,u5,u6,u7,u8⟩:=J4 he
 have hjb:j≤j*by_:=Nat.le_mul_of_pos_right _ hb0'
 have hrun:=Lib.run_append_nil_zeros (P:=P) w t tn ty e i zv kq kn u1 hn u2 u3 j (by omega) (by omega) (by omega) (by rw[u5];omega)
 refine wpList_plain rfl λK hK=>?_
 unfold Oper.wp
 have hr2:(execOp a.eval ⟨some d,.call ⟨.builtin .append,#[X,Y],#[t,tn]⟩,ty,pos,af,none⟩).run P w= .ok (.value (.slice (some ⟨w.heap.size,0,none⟩) j (grownCap w j 0 e)))
   (w.drew.alloc (.cells (Builtin.zeroCells zv.cells j++Builtin.zeroCells zv.cells (grownCap w j 0 e-j)) e)):=by
  simp [execOp,resolve,invoke,builtin,hf.eval hx,hf.eval hy,hrun]
 rw[hr2]
 have hge:=grownCap_ge w j 0 e
 have hmx:=grownCap_le_maxLen w j 0 e (by unfold maxLen;omega)
 have hzs:zv.cells.size=sz:=by rw[u6];simpa using u7
 have hpush:=hs.push e (Builtin.zeroCells zv.cells j++Builtin.zeroCells zv.cells (grownCap w j 0 e-j)).toList
 rw[Array.toArray_toList] at hpush
 have hwd:=(show Wd B h w.drew from⟨hw.heap,hw.os,hw.tape,hw.out⟩).alloc (.cells (Builtin.zeroCells zv.cells j++Builtin.zeroCells zv.cells (grownCap w j 0 e-j)) e)
 have hz:w.heap.size=h.size:=by rw[hw.heap]
 rw[hz]
 refine hK _ _ (k _ _ _ _ hge hmx ?_ hpush.1 hpush.2 _ _ (hf.put hd _) hwd)
 simp only[Array.length_toList,Array.size_append,size_zeroCells,hzs,←Nat.add_mul]
 congr 1
 omega
theorem F9 {o:Oper}{j e:Nat}{b:Bool}(hg:o.guard=some (j,b)) (hj:(ops[j]?).bind (·.dst)=some e) (hb:lk m e=some (.bool b)) (k:LF P ops Q2 ({ o with guard:=none}::rest) B h n m):LF P ops Q2 (o::rest) B h n m:=by
 intro a w hf hw
 have h1:Region.wanted o (yielded ops a.tmps)=true:=by
  have:=hf.at_ e _ hb
  simp [Region.wanted,hg,yielded,hj,this]
 have h2:=k a w hf hw
 unfold wpList at h2 ⊢
 rw[if_pos (by simp [Region.wanted])] at h2
 rw[if_pos h1]
 exact h2
theorem kW {l:List Oper}{b c:Bool}(hbc:b=c) (k:QF P ops C Q l n ((d,.bool c)::m)):QF P ops C Q l n ((d,.bool b)::m):=hbc▸k
theorem Gc {l:List Oper}{b c:Bool}(hbc:b=c) (k:LF P ops Q2 l B h n ((d,.bool c)::m)):LF P ops Q2 l B h n ((d,.bool b)::m):=hbc▸k
theorem bM {b len cap e sz:Nat}(hx:Bf m X=some (.slice (some ⟨b,0,none⟩) len cap)) (hy:Bf m Y=some (.int kd 0)) (ht:KM P t e sz=true) (hd:Nat.blt d n.1=true)
  (k:QF P ops C Q rest n ((d,.slice (some ⟨b,0,none⟩) 0 cap)::m)):QF P ops C Q (⟨some d,.slice t X none (some Y) none,ty,pos,af,none⟩::rest) n m:=
 Xj hx hy (j:=0) rfl ht (Nat.zero_le _) hd k
def jW (P:Program) (t:TypeId):Bool:=match P.underlying t with|some (.slice _)=>true|_=>false
theorem Ys (hx:Bf m X=some v) (ht:jW P t=true) (hd:Nat.blt d n.1=true) (k:QF P ops C Q rest n ((d,.iface t v)::m)):QF P ops C Q (⟨some d,.makeInterface t X,ty,pos,af,none⟩::rest) n m:=λa hf=>by
 unfold jW at ht
 split at ht
 ·rename_i e h1
  refine FT hf hd (λw _=>?_) k
  simp [execOp,hf.eval hx,Instr.makeInterface,run_underlying h1]
 ·cases ht
end
end Go.Proofs.YtblcgjadhemlbaaGreat
namespace Go.Proofs.YtblcgjadhemlbaaGreat
open Go.RowKit
set_option linter.unusedVariables false
set_option linter.unusedSimpArgs false
theorem WR {α}{S:Nat→Prop}{h:Av}{r:AM α}{cs:List Value}:KK S h r (cs.take (([]:List α).length*r.sz)) ([]:List α):=by
 show cs.take (0*r.sz)=[]
 rw[Nat.zero_mul];rfl
section
variable {P:Program}{ex:List (Nat×AP)}{RR N:AP}{cs:List Code}{B:World}{h:Av}{n:FN}{m m':SM}{S:Nat→Prop}{L:List HP}{C:World→Prop}{l:List Oper}{fuel:Nat}{listed:Array Bool}
variable {d:Nat}{ty:TypeId}{pos:String}{af:Array Edge}{X Y:Operand}{t:TypeId}{v:Value}
def HF (P:Program) (l:List Oper) (Q:Exit→Act→World→Prop) (C:World→Prop) (fuel:Nat) (listed:Array Bool) (B:World) (h:Av) (n:FN) (m:SM):Prop:=
 ∀a w,Fr n a m→Wd B h w→wpAnyH P .any l.toArray Q C fuel listed a w
abbrev QW (P:Program) (ex:List (Nat×AP)) (RR:AP) (cs:List Code) (N:AP):Exit→Act→World→Prop:=Qx ex RR (W P ex RR cs N)
def aL (l:List Oper) (listed:Array Bool) (i:Nat):Bool:=Region.noSelect l.toArray&&Region.free .any l.toArray listed i&&(Region.ready .any l.toArray listed).contains i
theorem Zj {id:Nat}(C:World→Prop) (hm:P.follows .mixedOrders=true) (k:HF P l (QW P ex RR cs N) C l.toArray.size (Array.replicate l.toArray.size false) B h n m):WF P ex RR (.region id l.toArray true::cs) N B h n m:=
 λa w hf hw rd hrd=>MI hrd K8 hm (wpAny_of_held _ _ _ _ (k a _ hf hw.drew))
theorem P7 {o:Op}(i:Nat) (ho:l[i]? =some ⟨some d,o,ty,pos,af,none⟩) (c:aL l listed i=true) (hC:∀w,Wd B h w→C w) (hd:Nat.blt d n.1=true)
  (hrun:∀a w,Fr n a m→C w→(execOp a.eval ⟨some d,o,ty,pos,af,none⟩).run P w= .ok (.value v) w) (k:HF P l (QW P ex RR cs N) C fuel (listed.setIfInBounds i true) B h n ((d,v)::m)):HF P l (QW P ex RR cs N) C (fuel+1) listed B h n m:=by
 intro a w hf hw
 simp only[aL,Bool.and_eq_true] at c
 exact wpAnyH_take (oi:=⟨some d,o,ty,pos,af,none⟩) (v:=v) (by simpa using ho) c.1.1 c.1.2 c.2 (λ_ _ _ hq=>hq.elim) (.inl ⟨by simp [Region.wanted],λw' hw'=>hrun a w' hf hw'⟩) (hC w hw) (k _ _ (hf.put hd v) hw)
theorem P5 (i:Nat) (ho:l[i]? =some ⟨some d,.move X,ty,pos,af,none⟩) (c:aL l listed i=true) (hC:∀w,Wd B h w→C w) (hx:Bf m X=some v) (hd:Nat.blt d n.1=true) (k:HF P l (QW P ex RR cs N) C fuel (listed.setIfInBounds i true) B h n ((d,v)::m)):HF P l (QW P ex RR cs N) C (fuel+1) listed B h n m:=
 P7 i ho c hC hd (λa w hf _=>by simp [execOp,hf.eval hx]) k
theorem Xq (i:Nat) (ho:l[i]? =some ⟨some d,.assign X,ty,pos,af,none⟩) (c:aL l listed i=true) (hC:∀w,Wd B h w→C w) (hx:Bf m X=some v) (hd:Nat.blt d n.1=true) (k:HF P l (QW P ex RR cs N) C fuel (listed.setIfInBounds i true) B h n ((d,v)::m)):HF P l (QW P ex RR cs N) C (fuel+1) listed B h n m:=
 P7 i ho c hC hd (λa w hf _=>by simp [execOp,hf.eval hx]) k
theorem Tw (i:Nat) {b o j off:Nat}(ho:l[i]? =some ⟨some d,.fieldAddr t X j,ty,pos,af,none⟩) (c:aL l listed i=true) (hC:∀w,Wd B h w→C w) (hx:Bf m X=some (.pointer (some ⟨b,o,none⟩))) (ht:FP P t j off=true) (hd:Nat.blt d n.1=true) (k:HF P l (QW P ex RR cs N) C fuel (listed.setIfInBounds i true) B h n ((d,.pointer (some ⟨b,o+off,none⟩))::m)):HF P l (QW P ex RR cs N) C (fuel+1) listed B h n m:=
 have hadd:(⟨b,o,none⟩:Addr).add off=⟨b,o+off,none⟩:=by unfold Addr.add;split<;>simp_all
 P7 i ho c hC hd (λa w hf _=>by simp [execOp,hf.eval hx,MH ht,hadd]) k
theorem P6 (i:Nat) {b o sz T:Nat}{ag:Bool}{bs vs:List Value}(ho:l[i]? =some ⟨some d,.load t X,ty,pos,af,none⟩) (c:aL l listed i=true) (hC:∀w,Wd B h w→C w) (hx:Bf m X=some (.pointer (some ⟨b,o,none⟩))) (hc:∀w,C w→w.heap[b]? =some (.cells bs.toArray T (0,0))) (hv:(bs.drop o).take sz=vs) (hl:Nat.beq vs.length sz=true) (ht:IF P t sz ag=true) (h1:(ag||Nat.beq sz 1)=true) (hd:Nat.blt d n.1=true)
  (k:HF P l (QW P ex RR cs N) C fuel (listed.setIfInBounds i true) B h n ((d,if ag then .agg vs.toArray else vs.headD undef)::m)):HF P l (QW P ex RR cs N) C (fuel+1) listed B h n m:=
 P7 i ho c hC hd (λa w hf hw=>by
  have hF:(Bx b T bs).holds (λ_=>True) (λx=>x=b) w.heap:=⟨λ_=>Iff.rfl,hc w hw⟩
  have hlen:=Nat.eq_of_beq_eq_true hl
  have:=Le (P:=P) (w:=w) (S:=λ_=>True) (p:= .pointer (some ⟨b,o,none⟩)) (cs:=vs) (sz:=sz) (ag:=ag) (t:=t) ⟨⟨b,o,none⟩,rfl,rfl,trivial,λj hj=>by
   rw[Bx.cell hF,←hv,List.getElem?_take_of_lt (by omega),List.getElem?_drop]⟩ hlen ht (λe=>by subst e;simpa using h1)
  simp [execOp,hf.eval hx,this]) k
theorem Tv (i:Nat) {α}{r:AM α}{xs:List α}{T e:Nat}{j:Int}{x:α}(ho:l[i]? =some ⟨some d,.indexAddr t X Y,ty,pos,af,none⟩) (c:aL l listed i=true) (hC:∀w,Wd B h w→C w) (hs:St S L h) (hm:OS r T v xs∈L) (hx:Bf m X=some v) (hy:Bf m Y=some (.int .i64 j)) (ht:KM P t e r.sz=true) (hi:ix xs j=some x) (hd:Nat.blt d n.1=true)
  (k:∀q,EP v (j.toNat*r.sz+0) q→HF P l (QW P ex RR cs N) C fuel (listed.setIfInBounds i true) B h n ((d,q)::m)):HF P l (QW P ex RR cs N) C (fuel+1) listed B h n m:=by
 obtain⟨g,cap,rfl,k1⟩:=hs.osAt hm (Fq hi).2
 have hl:j.toNat<xs.length:=(List.getElem?_eq_some_iff.1 (Fq hi).2).1
 have hadd:(⟨g,0,none⟩:Addr).add (j.toNat*r.sz)=⟨g,j.toNat*r.sz,none⟩:=by unfold Addr.add;split<;>simp_all
 exact P7 i ho c hC hd (λa w hf hw=>by simp [execOp,hf.eval hx,hf.eval hy,Kw (P:=P) (w:=w) (cap:=cap) (a:=⟨g,0,none⟩) ht (Fq hi).1 hl,hadd]) (k _ ⟨g,_,_,rfl,rfl⟩)
theorem Y5 (i:Nat) {o:Oper}(ho:l[i]? =some o) (hg:o.guard=none) (c:Region.ready .any l.toArray listed=[i])
  (k:LF P l.toArray (Exit.then (λa' w'=>C w'∧wpAnyH P .any l.toArray (QW P ex RR cs N) C fuel (listed.setIfInBounds i true) a' w') (QW P ex RR cs N)) [o] B h n m):HF P l (QW P ex RR cs N) C (fuel+1) listed B h n m:=by
 intro a w hf hw
 refine wpAnyH_all c (by simp) λj hj=>?_
 rw[List.mem_singleton] at hj
 subst hj
 unfold wpOp
 have ho':l.toArray[j]? =some o:=by simpa using ho
 simp only[ho']
 rw[if_pos (by simp [Region.wanted,hg])]
 exact Gh hg (k a w hf hw)
theorem U2 {Q:Exit→Act→World→Prop}{ops:Array Oper}(hC:∀w,Wd B h w→C w) (k:HF P l (QW P ex RR cs N) C fuel listed B h n m):LF P ops (Exit.then (λa' w'=>C w'∧wpAnyH P .any l.toArray (QW P ex RR cs N) C fuel listed a' w') Q) [] B h n m:=
 λa w hf hw=>⟨hC w hw,k a w hf hw⟩
theorem U3 (c:Region.ready .any l.toArray listed=[]) (hs:Qv m m') (k:WF P ex RR cs N B h n m'):HF P l (QW P ex RR cs N) C fuel listed B h n m:=
 λa w hf hw=>wpAnyH_done c (k a w (hf.sub hs) hw) _
theorem St.bxW {b T:Nat}{vs:List Value}(hs:St S L h) (hm:Bx b T vs∈L) {w:World}(hw:Wd B h w):w.heap[b]? =some (.cells vs.toArray T (0,0)):=by
 rw[hw.heap];exact hs.bxcell hm
end
end Go.Proofs.YtblcgjadhemlbaaGreat
namespace Go.Proofs.YtblcgjadhemlbaaGreat
open Go.RowKit
abbrev vI (n:Int):Value:= .int .i64 n
abbrev vP (b o:Nat):Value:= .pointer (some ⟨b,o,none⟩)
abbrev vN:Value:= .slice none 0 0
section
variable {P:Program}{ops:Array Oper}{C:World→Prop}{Q:Act→Prop}{n:FN}{m m':SM}{rest:List Oper}
variable {d:Nat}{ty:TypeId}{pos:String}{af:Array Edge}{X Y:Operand}{t t1 t2:TypeId}{x y:Int}{kd:IntKind}{v p:Value}
theorem AA (e:(Bf m X,Nat.blt d n.1)=(some v,true)) (k:QF P ops C Q rest n ((d,v)::m)):QF P ops C Q (⟨some d,.move X,ty,pos,af,none⟩::rest) n m:=
 iF (congrArg (λz=>z.1) e) (congrArg (λz=>z.2) e) k
theorem AY (e:(Bf m X,Nat.blt d n.1)=(some v,true)) (k:QF P ops C Q rest n ((d,v)::m)):QF P ops C Q (⟨some d,.assign X,ty,pos,af,none⟩::rest) n m:=
 cF (congrArg (λz=>z.1) e) (congrArg (λz=>z.2) e) k
theorem BV {b}(e:(Bf m X,Nat.blt d n.1)=(some (.bool b),true)) (k:QF P ops C Q rest n ((d,.bool (!b))::m)):QF P ops C Q (⟨some d,.unOp .not t1 X,ty,pos,af,none⟩::rest) n m:=
 bP (congrArg (λz=>z.1) e) (congrArg (λz=>z.2) e) k
theorem AB {o:Oper}{j e:Nat}{b:Bool}(e:(o.guard,(ops[j]?).bind (·.dst),lk m e)=(some (j,b),some e,some (.bool b))) (k:QF P ops C Q ({ o with guard:=none}::rest) n m):QF P ops C Q (o::rest) n m:=
 Xl (congrArg (λz=>z.1) e) (congrArg (λz=>z.2.1) e) (congrArg (λz=>z.2.2) e) k
theorem AJ {c X Y:Operand}{b:Bool}(e:(Bf m c,Bf m (if b then X else Y),Nat.blt d n.1)=(some (.bool b),some v,true)) (k:QF P ops C Q rest n ((d,v)::m)):QF P ops C Q (⟨some d,.pick c X Y,ty,pos,af,none⟩::rest) n m:=
 R0 (congrArg (λz=>z.1) e) (congrArg (λz=>z.2.1) e) (congrArg (λz=>z.2.2) e) k
theorem Aq (e:(Bf m X,Bf m Y,Nat.blt d n.1)=(some (.int kd x),some (.int kd y),true)) (k:QF P ops C Q rest n ((d,.bool (decide (x<y)))::m)):QF P ops C Q (⟨some d,.binOp .lss t1 X Y t2,ty,pos,af,none⟩::rest) n m:=
 bS (congrArg (λz=>z.1) e) (congrArg (λz=>z.2.1) e) (congrArg (λz=>z.2.2) e) k
theorem Ft (e:(Bf m X,Bf m Y,Nat.blt d n.1)=(some (.int kd x),some (.int kd y),true)) (k:QF P ops C Q rest n ((d,.bool (decide (x≤y)))::m)):QF P ops C Q (⟨some d,.binOp .leq t1 X Y t2,ty,pos,af,none⟩::rest) n m:=
 bU (congrArg (λz=>z.1) e) (congrArg (λz=>z.2.1) e) (congrArg (λz=>z.2.2) e) k
theorem Bh (e:(Bf m X,Bf m Y,Nat.blt d n.1)=(some (.int kd x),some (.int kd y),true)) (k:QF P ops C Q rest n ((d,.bool (decide (y<x)))::m)):QF P ops C Q (⟨some d,.binOp .gtr t1 X Y t2,ty,pos,af,none⟩::rest) n m:=
 bY (congrArg (λz=>z.1) e) (congrArg (λz=>z.2.1) e) (congrArg (λz=>z.2.2) e) k
theorem Gv (e:(Bf m X,Bf m Y,Nat.blt d n.1)=(some (.int kd x),some (.int kd y),true)) (k:QF P ops C Q rest n ((d,.bool (decide (y≤x)))::m)):QF P ops C Q (⟨some d,.binOp .geq t1 X Y t2,ty,pos,af,none⟩::rest) n m:=
 cB (congrArg (λz=>z.1) e) (congrArg (λz=>z.2.1) e) (congrArg (λz=>z.2.2) e) k
theorem BH (e:(Bf m X,Bf m Y,Nat.blt d n.1)=(some (.int kd x),some (.int kd y),true)) (k:QF P ops C Q rest n ((d,.bool (decide (x=y)))::m)):QF P ops C Q (⟨some d,.binOp .eql t1 X Y t2,ty,pos,af,none⟩::rest) n m:=
 cD (congrArg (λz=>z.1) e) (congrArg (λz=>z.2.1) e) (congrArg (λz=>z.2.2) e) k
theorem Bc (e:(Bf m X,Bf m Y,Nat.blt d n.1)=(some (.int kd x),some (.int kd y),true)) (k:QF P ops C Q rest n ((d,.bool (decide (x≠y)))::m)):QF P ops C Q (⟨some d,.binOp .neq t1 X Y t2,ty,pos,af,none⟩::rest) n m:=
 bR (congrArg (λz=>z.1) e) (congrArg (λz=>z.2.1) e) (congrArg (λz=>z.2.2) e) k
theorem Af (e:(Bf m X,Bf m Y,Nat.blt d n.1)=(some (.int .i64 x),some (.int .i64 y),true)) (k:QF P ops C Q rest n ((d,.int .i64 (BC (x+y)))::m)):QF P ops C Q (⟨some d,.binOp .add t1 X Y t2,ty,pos,af,none⟩::rest) n m:=
 Yy (congrArg (λz=>z.1) e) (congrArg (λz=>z.2.1) e) (congrArg (λz=>z.2.2) e) k
theorem Cg (e:(Bf m X,Bf m Y,Nat.blt d n.1)=(some (.int .i64 x),some (.int .i64 y),true)) (k:QF P ops C Q rest n ((d,.int .i64 (BC (x-y)))::m)):QF P ops C Q (⟨some d,.binOp .sub t1 X Y t2,ty,pos,af,none⟩::rest) n m:=
 Yn (congrArg (λz=>z.1) e) (congrArg (λz=>z.2.1) e) (congrArg (λz=>z.2.2) e) k
theorem Bi {xs:Array Value}{i:Nat}{u:Value}(e:(Bf m X,xs[i]?,Nat.blt d n.1)=(some (.tuple xs),some u,true)) (k:QF P ops C Q rest n ((d,u)::m)):QF P ops C Q (⟨some d,.extract X i,ty,pos,af,none⟩::rest) n m:=
 cC (congrArg (λz=>z.1) e) (congrArg (λz=>z.2.1) e) (congrArg (λz=>z.2.2) e) k
theorem Aw {o:Oper}{j e:Nat}(e:(o.guard,(ops[j]?).bind (·.dst),lk m e,o.dst,Nat.blt d n.1)=(some (j,true),some e,some (.bool false),some d,true)) (k:QF P ops C Q rest n ((d,undef)::m)):QF P ops C Q (o::rest) n m:=
 cA (congrArg (λz=>z.1) e) (congrArg (λz=>z.2.1) e) (congrArg (λz=>z.2.2.1) e) (congrArg (λz=>z.2.2.2.1) e) (congrArg (λz=>z.2.2.2.2) e) k
theorem AC {b o j off}(ht:FP P t j off=true) (e:(Bf m X,Nat.blt d n.1)=(some (.pointer (some ⟨b,o,none⟩)),true)) (k:QF P ops C Q rest n ((d,.pointer (some ⟨b,o+off,none⟩))::m)):QF P ops C Q (⟨some d,.fieldAddr t X j,ty,pos,af,none⟩::rest) n m:=
 Xm (congrArg (λz=>z.1) e) ht (congrArg (λz=>z.2) e) k
end
section
variable {P:Program}{ex:List (Nat×AP)}{R N:AP}{cs:List Code}{B:World}{h:Av}{n:FN}{m m':SM}
theorem AI {l:List Oper}{id:Nat}{y:Code}(k:QF P l.toArray (Wd B h) (λa=>∀w,Wd B h w→W P ex R (y::cs) N a w) l n m):WF P ex R (.seq (.region id l.toArray false) y::cs) N B h n m:=AD (BY (.inl rfl) k)
theorem WF.sl {l:List Oper}{id:Nat}{y:Code}(k:LF P l.toArray (Qx ex R (W P ex R (y::cs) N)) l B h n m):WF P ex R (.seq (.region id l.toArray false) y::cs) N B h n m:=AD (EQ k)
theorem AL {ops:Array Oper}{C:World→Prop}{d:Nat}{ty:TypeId}{pos:String}{af:Array Edge}{X:Operand}{v:Value}(e:(Bf m X,Nat.blt d n.1)=(some v,true)) (hs:Qv ((d,v)::m) m') (k:WF P ex R cs N B h n m'):QF P ops C (λa=>∀w,Wd B h w→W P ex R cs N a w) [⟨some d,.assign X,ty,pos,af,none⟩] n m:=AY e (AN hs k)
theorem AX {ex:List (Nat×AP)}{R N:AP}{m:SM}{b:Bool}{α:Type}{A1 A2 r:α}{X:Operand}{x y:Code}(hx:Bf m X=some (.bool b)) (E:cond b A1 A2=r) (h1:b=true→A1=r→WF P ex R (x::cs) N B h n m) (h2:b=false→A2=r→WF P ex R (y::cs) N B h n m):WF P ex R (.cond X x y::cs) N B h n m:=bL hx (λc=>h1 c (GA c E)) (λc=>h2 c (GB c E))
theorem AO {P:Program}{ops:Array Oper}{C:World→Prop}{Q:Exit→Act→World→Prop}{B:World}{n:FN}{d:Nat}{R:Value→Av→Prop}{h:Av}{m:SM}{v:Value}(r:R v h):QF P ops C (λa=>∀w,Wd B h w→wpList P ops (Exit.then (KS B n d R h m) Q) [] a w) [] n ((d,v)::m):=AF (Cv (Ep.refl _) r)
end
end Go.Proofs.YtblcgjadhemlbaaGreat
namespace Go.Proofs.YtblcgjadhemlbaaGreat
def Oq (R:Nat→Int) (a b:Nat):Bool:=cond (!decide (R a=R b)) (decide (R b<R a)) (decide (a<b))
def QL (lt:Int→Int→Bool) (x:Int):List Int→List Int
 |[]=>[x]
 |y::l=>cond (lt y x) (y::QL lt x l) (x::y::l)
def LP (lt:Int→Int→Bool):List Int→List Int
 |[]=>[]
 |x::l=>QL lt x (LP lt l)
def OV (lr:List Int) (a b:Int):Bool:=Oq (λt=>lr.getD t 0) a.toNat b.toNat
def PZ (lo lr:List Int):Option (List Int):=
 if lo.length=lr.length∧1≤lo.length∧lo.length≤64∧(lo.all λx=>decide (0≤x)&&decide (x<lo.length))=true then some (LP (OV lr) lo) else none
theorem Mn (lt:Int→Int→Bool) (x:Int):∀l,(QL lt x l).Perm (x::l)
 |[]=> .refl _
 |y::l=>by
  unfold QL
  cases lt y x with
  |true=>exact((Mn lt x l).cons y).trans (.swap x y l)
  |false=>exact .refl _
theorem Ki (lt:Int→Int→Bool):∀l,(LP lt l).Perm l
 |[]=> .refl _
 |x::l=>(Mn lt x _).trans ((Ki lt l).cons x)
end Go.Proofs.YtblcgjadhemlbaaGreat
