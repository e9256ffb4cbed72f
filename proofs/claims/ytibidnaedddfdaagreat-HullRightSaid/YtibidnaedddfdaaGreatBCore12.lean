import Derived.Test.YtibidnaedddfdaaGreatBCore11
namespace Go.Proofs.YtibidnaedddfdaaGreat
open Go.RowKit
set_option linter.unusedVariables false
set_option linter.unusedSimpArgs false
def Xj {α}(S:Nat→Prop) (h:Ac) (r:AW α) (s:Value) (xs:List α):Prop:=
 (s= .slice none 0 0∧xs=[])∨∃(sd:Addr) (sc:Nat) (news:List Value),s= .slice (some sd) xs.length sc∧xs.length≤maxLen∧H9 S h r news xs∧∀j u,news[j]? =some u→FI h (sd.add j)=some u
theorem N6 {α}{S:Nat→Prop}{h:Ac}{r:AW α}(b:Nat):∀(l:List α) (o:Nat),(∀i x,l[i]? =some x→Pt S h r (.pointer (some ⟨b,o+i*r.sz,none⟩)) x)→∃news,H9 S h r news l∧∀j u,news[j]? =some u→FI h ⟨b,o+j,none⟩=some u
 |[],_,_=>⟨[],rfl,λj u hj=>by simp at hj⟩
 |x::l,o,k=>by
  obtain⟨cs,⟨a,ha,_,hS,hc⟩,hr⟩:=k 0 x rfl
  obtain⟨news,n1,n2⟩:=N6 b l (o+r.sz) λi y hi=>by
   have:=k (i+1) y (by simpa using hi)
   rwa [Nat.succ_mul,Nat.add_comm (i*r.sz),←Nat.add_assoc] at this
  have hl:=r.len hr
  refine⟨cs++news,⟨cs,news,rfl,hr,n1⟩,λj u hj=>?_⟩
  have ha':a=⟨b,o,none⟩:=by simpa using ha.symm
  subst ha'
  by_cases hlt:j<cs.length
  ·rw[List.getElem?_append_left hlt] at hj
   rw[←hj];exact hc j hlt
  ·rw[List.getElem?_append_right (by omega)] at hj
   have:=n2 _ u hj
   rw[show o+r.sz+(j-cs.length)=o+j by omega] at this
   exact this
theorem Sl.src {α}{S:Nat→Prop}{h:Ac}{r:AW α}{s:Value}{xs:List α}(k:Sl S h r s xs):Xj S h r s xs:=by
 rcases k with k|⟨a,cap,h1,h4,h5,h6⟩
 ·exact .inl k
 ·cases xs with
  |nil=>exact .inr ⟨a,cap,[],h1,Nat.zero_le _,rfl,λj u hj=>by simp at hj⟩
  |cons x xs=>
   have hsp:=(h6 0 x rfl).1
   obtain⟨b,o,s⟩:=a
   simp only at hsp;subst hsp
   obtain⟨news,n1,n2⟩:=N6 b (x::xs) o λi y hi=>(h6 i y hi).2
   refine .inr ⟨_,cap,news,h1,Nat.le_trans h4 h5,n1,λj u hj=>?_⟩
   have hadd:(⟨b,o,none⟩:Addr).add j=⟨b,o+j,none⟩:=by unfold Addr.add;split<;>simp_all
   rw[hadd];exact n2 j u hj
theorem St.src {α}{S:Nat→Prop}{h:Ac}{r:AW α}{T:Nat}{s:Value}{xs:List α}{L:List HP}(hs:St S L h) (hm:OS r T s xs∈L):Xj S h r s xs:=by
 obtain⟨F,k,h2⟩:=hs.get hm
 rcases k with ⟨k1,k2,_⟩|⟨g,cap,cur,k1,k2,k3,k4,k5,k6,k7⟩
 ·exact .inl ⟨k1,k2⟩
 ·refine .inr ⟨_,cap,_,k1,Nat.le_trans k4 k5,k7,λj u hj=>?_⟩
  have hadd:(⟨g,0,none⟩:Addr).add j=⟨g,j,none⟩:=by unfold Addr.add;split<;>simp_all
  have hj':=(List.getElem?_eq_some_iff.1 hj).1
  simp only[List.length_take] at hj'
  rw[List.getElem?_take_of_lt (by omega)] at hj
  rw[hadd]
  simp only[FI,k3,Option.isSome_none,Bool.false_eq_true,if_false]
  simpa using hj
section
variable {P:Program}{ops:Array Oper}{Q:Exit→Act→World→Prop}{n:FN}{m:SM}{rest:List Oper}
variable {d:Nat}{ty:TypeId}{pos:String}{af:Array Edge}{X Y:Operand}{B w:World}{h:Ac}{S:Nat→Prop}{L L2:List HP}{v:Value}
theorem Pe {α}{r:AW α}{T ty e sz by_:Nat}{z:List Value}{v s:Value}{l xs:List α}{F:Nat→Prop}(he:LO P T=some (e,sz,by_,z)) (hrs:r.sz=sz)
  (hsrc:Xj S h r s xs) (hmx:l.length+xs.length≤maxLen) (hby:(l.length+xs.length)*by_≤140737488355328) (hw:Wd B h w) (k:(OS r e v l).holds S F h) (hS:∀b,S b→b<h.size∧¬F b):
  ∃v' w' h' F',(Builtin.append_ #[T,T] ty #[v,s]).run P w= .ok v' w'∧Wd B h' w'∧h.size≤h'.size∧(OS r e v' (l++xs)).holds S F' h'∧(∀b,F' b→F b∨(h.size≤b∧b<h'.size))∧∀b,b<h.size→¬F b→h'[b]? =h[b]? :=by
 rcases hsrc with ⟨rfl,rfl⟩|⟨sd,sc,news,h1,_,hn,hc⟩
 ·obtain⟨i,zv,h1,h2,h3,h4,h5,h6,h7,h8⟩:=Hv he
  rw[List.append_nil]
  refine⟨v,w,h,F,?_,hw,Nat.le_refl _,k,λb hb=> .inl hb,λ_ _ _=>rfl⟩
  rcases k with ⟨rfl,rfl,hF⟩|⟨g,cap,cur,rfl,hF,hg,hlc,hcm,hcs,hrd⟩
  ·simp [Builtin.append_,run_underlying h1,sizeOf,typeInfo,h2,Builtin.lenOf,Builtin.firstCells,loadCells,loadCellsFrom]
  ·have hle:l.length≤cap:=hlc
   simp [Builtin.append_,run_underlying h1,sizeOf,typeInfo,h2,Builtin.lenOf,Builtin.firstCells,loadCells,loadCellsFrom,storeCells,hle]
 ·exact Oc he hrs h1 hn hc hmx hby hw k hS
theorem Ww {α}{r:AW α}{T e sz by_:Nat}{z:List Value}{v s:Value}{l xs:List α}{LL:Value→List HP}{a:Act}(hf:Fr n a m) (hx:BW m X=some v) (hy:BW m Y=some s) (he:LO P T=some (e,sz,by_,z)) (hrs:r.sz=sz)
  (hsrc:Xj S h r s xs) (hmx:l.length+xs.length≤maxLen) (hby:(l.length+xs.length)*by_≤140737488355328) (hd:Nat.blt d n.1=true) (hw:Wd B h w) (hs:St S L h) (rp:∀v',Ik L (OS r e v l) (OS r e v' (l++xs)) (LL v'))
  (k:∀v' a w h',Fr n a ((d,v')::m)→Wd B h' w→St S (LL v') h'→Bg S h S h'→wpList P ops Q rest a w):
  wpList P ops Q (⟨some d,.call ⟨.builtin .append,#[X,Y],#[T,T]⟩,ty,pos,af,none⟩::rest) a w:=by
 refine wpList_plain rfl λK hK=>?_
 unfold Oper.wp
 obtain⟨M,p,_⟩:=(rp v).pick
 obtain⟨F,g1,g2,_⟩:=Sp.pick p hs.2
 obtain⟨v',w',h',F',e1,e2,e3,e4,e5,e6⟩:=Pe (ty:=ty) he hrs hsrc hmx hby hw g1 λb hb=>⟨hs.1 b hb,λhf=>(g2 b hf).2 hb⟩
 have hrun:(execOp a.eval ⟨some d,.call ⟨.builtin .append,#[X,Y],#[T,T]⟩,ty,pos,af,none⟩).run P w= .ok (.value v') w':=by
  simp [execOp,resolve,invoke,builtin,hf.eval hx,hf.eval hy,e1]
 rw[hrun]
 obtain⟨M,p,q⟩:=(rp v').pick
 have hst:St S (LL v') h'∧Bg S h S h':=by
  obtain⟨G,g1',g2',g3'⟩:=Sp.pick p hs.2
  obtain⟨v'',w'',h'',F'',e1',e2',e3',e4',e5',e6'⟩:=Pe (ty:=ty) he hrs hsrc hmx hby hw g1' λb hb=>⟨hs.1 b hb,λhf=>(g2' b hf).2 hb⟩
  rw[e1] at e1'
  injection e1' with ev ew
  subst ev;subst ew
  have hh:h''=h':=by rw[←e2'.heap,e2.heap]
  subst hh
  have hSS:∀b,S b→h''[b]? =h[b]? :=λb hb=>e6' b (hs.1 b hb) λhf=>(g2' b hf).2 hb
  refine⟨⟨λb hb=>Nat.lt_of_lt_of_le (hs.1 b hb) e3',Kw q ⟨F'',e4',λb hb=>?_,?_⟩⟩,λ_ x=>x,hSS,e3'⟩
  ·rcases e5' b hb with hf|⟨hl,hu⟩
   ·exact⟨Nat.lt_of_lt_of_le (g2' b hf).1 e3',(g2' b hf).2⟩
   ·exact⟨hu,λhb'=>absurd (hs.1 b hb') (by omega)⟩
  ·refine Sp.ext g3' (λ_ x=>x) (λb hb=>?_) λb hb=>⟨⟨Nat.lt_of_lt_of_le hb.1.1 e3',hb.1.2⟩,λhf'=>?_⟩
   ·rcases hb with hb|hb
    ·exact hSS b hb
    ·exact e6' b hb.1.1 hb.2
   ·rcases e5' b hf' with hf|⟨hl,_⟩
    ·exact hb.2 hf
    ·exact absurd hb.1.1 (by omega)
 exact hK _ _ (k v' _ w' h' (hf.put hd _) e2 hst.1 hst.2)
theorem Kx {α}{r:AW α}{T e sz by_:Nat}{z:List Value}{v s:Value}{l xs:List α}{LL:Value→List HP}(hx:BW m X=some v) (hy:BW m Y=some s) (he:LO P T=some (e,sz,by_,z)) (hrs:r.sz=sz)
  (hsrc:Xj S h r s xs) (hpos:Nat.blt 0 by_=true) (hby:room (l.length+xs.length) by_=true) (hd:Nat.blt d n.1=true) (hs:St S L h) (rp:∀v',Ik L (OS r e v l) (OS r e v' (l++xs)) (LL v'))
  (k:∀v' h',St S (LL v') h'→Bg S h S h'→LF P ops Q rest B h' n ((d,v')::m)):LF P ops Q (⟨some d,.call ⟨.builtin .append,#[X,Y],#[T,T]⟩,ty,pos,af,none⟩::rest) B h n m:=λa w hf hw=>
 have h1:1≤by_:=by simpa [Nat.blt] using hpos
 have h2:l.length+xs.length≤(l.length+xs.length)*by_:=Nat.le_mul_of_pos_right _ h1
 have h3:=MD hby
 Ww hf hx hy he hrs hsrc (by unfold maxLen;omega) h3 hd hw hs rp λv' a w h' hf hw hs e=>k v' h' hs e a w hf hw
end
theorem C8 (k:IntKind) (n:Int):k.has (k.wrap n):=by
 cases k<;>simp only[IntKind.has,IntKind.wrap,IntKind.min,IntKind.max,IntKind.bits,IntKind.signed]<;>simp<;>(try split)<;>omega
theorem M1 (k:IntKind) {n:Int}(h:k.has n) (j:Nat):k.has (n.fdiv (2^j)):=by
 have hp:(0:Int)<2^j:=Int.pow_pos (by decide)
 have h1:k.min≤0∧0≤k.max:=by cases k<;>decide
 have e:n.fdiv (2^j)=n/2^j:=Int.fdiv_eq_ediv_of_nonneg _ (Int.le_of_lt hp)
 rw[e]
 obtain⟨a,b⟩:=h
 by_cases h0:0≤n
 ·have u1:=Int.ediv_nonneg h0 (Int.le_of_lt hp)
  have u2:=Int.ediv_le_self (2^j) h0
  exact⟨by omega,by omega⟩
 ·have u1:n/2^j≤0:=by
   have:=Int.ediv_le_ediv hp (show n≤0 by omega)
   simpa using this
  have u2:n≤n/2^j:=by
   have hq:(1:Int)≤2^j:=hp
   rw[Int.le_ediv_iff_mul_le hp]
   have:=Int.mul_le_mul_of_nonpos_left (a:=n) (by omega) hq
   simpa using this
  exact⟨by omega,by omega⟩
theorem VW (k:IntKind) {n m:Int}(h:k.has n):k.has (n.tmod m):=by
 have h1:k.min≤0∧0≤k.max:=by cases k<;>decide
 obtain⟨a,b⟩:=h
 by_cases h0:0≤n
 ·have u1:0≤n.tmod m:=Int.tmod_nonneg m h0
  have u2:n.tmod m≤n:=by
   have e:=Int.natAbs_tmod n m
   have u3:n.natAbs%m.natAbs≤n.natAbs:=Nat.mod_le _ _
   omega
  exact⟨by omega,by omega⟩
 ·have u1:(-n).tmod m= -(n.tmod m):=Int.neg_tmod n m
  have u2:0≤(-n).tmod m:=Int.tmod_nonneg m (by omega)
  have u3:(-n).tmod m≤ -n:=by
   have e:=Int.natAbs_tmod (-n) m
   have u3:(-n).natAbs%m.natAbs≤(-n).natAbs:=Nat.mod_le _ _
   omega
  exact⟨by omega,by omega⟩
def E4 (o:BinOp) (k:IntKind) (x y:Int):Int:=
 let a:=BitVec.ofInt k.bits x
 let b:=BitVec.ofInt k.bits y
 k.wrap ((match o with| .and=>a&&&b| .or=>a|||b| .xor=>a ^^^ b|_=>a&&& ~~~b).toNat)
def Mq (k:IntKind) (x y:Int):Option Int:=if y=0 then none else some (k.wrap (x.tdiv y))
def Od (x y:Int):Option Int:=if y=0 then none else some (x.tmod y)
def CF (k:IntKind) (x:Int) (j:Nat):Int:=k.wrap (x*2^(min j k.bits))
def Cg (k:IntKind) (x:Int) (j:Nat):Int:=x.fdiv (2^(min j k.bits))
def LP (y:Int):Option Nat:=if y<0 then none else some y.toNat
theorem KK {k x y z}(h:Mq k x y=some z):k.has z:=by
 unfold Mq at h;split at h
 ·cases h
 ·cases h;exact C8 _ _
theorem TY {k:IntKind}{x y z}(hx:k.has x) (h:Od x y=some z):k.has z:=by
 unfold Od at h;split at h
 ·cases h
 ·cases h;exact VW k hx
def Rq (s:ByteArray) (i:Int):Option Int:=if i<0 then none else (s[i.toNat]?).map λb=>(b.toNat:Int)
theorem Lz {s i x}(h:Rq s i=some x):IntKind.u8.has x:=by
 unfold Rq at h;split at h
 ·cases h
 ·obtain⟨b,_,rfl⟩:=Option.map_eq_some_iff.1 h
  have:=b.toNat_lt
  simp [IntKind.has,IntKind.min,IntKind.max,IntKind.bits,IntKind.signed];omega
section
variable {P:Program}{ops:Array Oper}{C:World→Prop}{Q:Act→Prop}{n:FN}{m m':SM}{rest:List Oper}
variable {d:Nat}{ty:TypeId}{pos:String}{af:Array Edge}{X Y Z:Operand}{t t1 t2:TypeId}{x y z:Int}{kd kd2:IntKind}{v p:Value}{S:Nat→Prop}{L:List HP}{h:Ac}
namespace QF
theorem bin {op:BinOp}{u:Value}(hx:BW m X=some (.int kd x)) (hy:BW m Y=some (.int kd y)) (hd:Nat.blt d n.1=true) (hr:∀w,(binOp op t1 (.int kd x) (.int kd y)).run P w= .ok u w)
  (k:QF P ops C Q rest n ((d,u)::m)):QF P ops C Q (⟨some d,.binOp op t1 X Y t2,ty,pos,af,none⟩::rest) n m:=λ_ hf=>Ji hf hx hy hd hr k
theorem addk (hx:BW m X=some (.int kd x)) (hy:BW m Y=some (.int kd y)) (hd:Nat.blt d n.1=true) (k:QF P ops C Q rest n ((d,.int kd (kd.wrap (x+y)))::m)):QF P ops C Q (⟨some d,.binOp .add t1 X Y t2,ty,pos,af,none⟩::rest) n m:=bin hx hy hd (λw=>by simp [binOp,Op.intArith]) k
theorem subk (hx:BW m X=some (.int kd x)) (hy:BW m Y=some (.int kd y)) (hd:Nat.blt d n.1=true) (k:QF P ops C Q rest n ((d,.int kd (kd.wrap (x-y)))::m)):QF P ops C Q (⟨some d,.binOp .sub t1 X Y t2,ty,pos,af,none⟩::rest) n m:=bin hx hy hd (λw=>by simp [binOp,Op.intArith]) k
theorem mulk (hx:BW m X=some (.int kd x)) (hy:BW m Y=some (.int kd y)) (hd:Nat.blt d n.1=true) (k:QF P ops C Q rest n ((d,.int kd (kd.wrap (x*y)))::m)):QF P ops C Q (⟨some d,.binOp .mul t1 X Y t2,ty,pos,af,none⟩::rest) n m:=bin hx hy hd (λw=>by simp [binOp,Op.intArith]) k
theorem andk (hx:BW m X=some (.int kd x)) (hy:BW m Y=some (.int kd y)) (hd:Nat.blt d n.1=true) (k:QF P ops C Q rest n ((d,.int kd (E4 .and kd x y))::m)):QF P ops C Q (⟨some d,.binOp .and t1 X Y t2,ty,pos,af,none⟩::rest) n m:=bin hx hy hd (λw=>by simp [binOp,Op.intBits,E4]) k
theorem ork (hx:BW m X=some (.int kd x)) (hy:BW m Y=some (.int kd y)) (hd:Nat.blt d n.1=true) (k:QF P ops C Q rest n ((d,.int kd (E4 .or kd x y))::m)):QF P ops C Q (⟨some d,.binOp .or t1 X Y t2,ty,pos,af,none⟩::rest) n m:=bin hx hy hd (λw=>by simp [binOp,Op.intBits,E4]) k
theorem quok (hx:BW m X=some (.int kd x)) (hy:BW m Y=some (.int kd y)) (hd:Nat.blt d n.1=true) (hz:Mq kd x y=some z) (k:QF P ops C Q rest n ((d,.int kd z)::m)):QF P ops C Q (⟨some d,.binOp .quo t1 X Y t2,ty,pos,af,none⟩::rest) n m:=by
 unfold Mq at hz
 split at hz
 ·cases hz
 ·rename_i h0;cases hz;exact bin hx hy hd (λw=>by simp [binOp,Op.intDiv,h0]) k
theorem remk (hx:BW m X=some (.int kd x)) (hy:BW m Y=some (.int kd y)) (hd:Nat.blt d n.1=true) (hz:Od x y=some z) (k:QF P ops C Q rest n ((d,.int kd z)::m)):QF P ops C Q (⟨some d,.binOp .rem t1 X Y t2,ty,pos,af,none⟩::rest) n m:=by
 unfold Od at hz
 split at hz
 ·cases hz
 ·rename_i h0;cases hz;exact bin hx hy hd (λw=>by simp [binOp,Op.intDiv,h0]) k
theorem binS {op:BinOp}{u:Value}(hx:BW m X=some (.int kd x)) (hy:BW m Y=some (.int kd2 y)) (hd:Nat.blt d n.1=true) (hr:∀w,(binOp op t1 (.int kd x) (.int kd2 y)).run P w= .ok u w)
  (k:QF P ops C Q rest n ((d,u)::m)):QF P ops C Q (⟨some d,.binOp op t1 X Y t2,ty,pos,af,none⟩::rest) n m:=λa hf=>by
 refine EA hf hd (λw _=>?_) k
 have hg:(eqGuard op t1 X Y (.int kd x) (.int kd2 y)).run P w= .ok () w:=by
  unfold eqGuard;cases op<;>simp
 simp [execOp,hf.eval hx,hf.eval hy,hg,hr]
theorem shlk {j:Nat}(hx:BW m X=some (.int kd x)) (hy:BW m Y=some (.int kd2 y)) (hd:Nat.blt d n.1=true) (hz:LP y=some j) (k:QF P ops C Q rest n ((d,.int kd (CF kd x j))::m)):QF P ops C Q (⟨some d,.binOp .shl t1 X Y t2,ty,pos,af,none⟩::rest) n m:=by
 unfold LP at hz
 split at hz
 ·cases hz
 ·rename_i h0;cases hz;exact binS hx hy hd (λw=>by simp [binOp,Op.shift,h0,CF]) k
theorem shrk {j:Nat}(hx:BW m X=some (.int kd x)) (hy:BW m Y=some (.int kd2 y)) (hd:Nat.blt d n.1=true) (hz:LP y=some j) (k:QF P ops C Q rest n ((d,.int kd (Cg kd x j))::m)):QF P ops C Q (⟨some d,.binOp .shr t1 X Y t2,ty,pos,af,none⟩::rest) n m:=by
 unfold LP at hz
 split at hz
 ·cases hz
 ·rename_i h0;cases hz;exact binS hx hy hd (λw=>by simp [binOp,Op.shift,h0,Cg]) k
theorem convk {src dst:TypeId}{ds:TypeDesc}(hx:BW m X=some (.int kd x)) (h1:P.underlying src=some ds) (h2:P.underlying dst=some (.int kd2)) (hd:Nat.blt d n.1=true) (k:QF P ops C Q rest n ((d,.int kd2 (kd2.wrap x))::m)):QF P ops C Q (⟨some d,.convert src dst X,ty,pos,af,none⟩::rest) n m:=λa hf=>
 EA hf hd (λw _=>by simp [execOp,hf.eval hx,convert,run_underlying h1,run_underlying h2,Conv.intToInt]) k
theorem bixk {s:ByteArray}(hx:BW m X=some (.string s)) (hy:BW m Y=some (.int kd y)) (hu:P.underlying t=some .string) (hz:Rq s y=some z) (hd:Nat.blt d n.1=true) (k:QF P ops C Q rest n ((d,.int .u8 z)::m)):QF P ops C Q (⟨some d,.index t X Y,ty,pos,af,none⟩::rest) n m:=λa hf=>by
 unfold Rq at hz
 split at hz
 ·cases hz
 ·rename_i h0
  obtain⟨b,h1,rfl⟩:=Option.map_eq_some_iff.1 hz
  exact EA hf hd (λw _=>by simp [execOp,hf.eval hx,hf.eval hy,Instr.index,asIntOf,run_underlying hu,show 0≤y by omega,h1]) k
end QF
end
end Go.Proofs.YtibidnaedddfdaaGreat
