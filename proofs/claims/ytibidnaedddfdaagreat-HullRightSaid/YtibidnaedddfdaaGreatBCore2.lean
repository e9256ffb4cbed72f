import Derived.Test.YtibidnaedddfdaaGreatBCore1
namespace Go.Proofs.YtibidnaedddfdaaGreat
set_option linter.unusedSimpArgs false
set_option linter.unusedVariables false
open Go.RowKit
abbrev A3 (n:Int):Int:=IntKind.i64.wrap n
theorem KA {n:Int}(h:AB n):A3 n=n:=IntWalk.i64_in n h
theorem BA (n:Int):AB (A3 n):=by
 unfold A3 AB;rw[IntKind.wrap_i64];omega
theorem M0 (x y:Int):(x==y)=decide (x=y):=by rw[Bool.eq_iff_iff];simp
def Vj:TypeDesc→Bool
 | .struct _| .array _ _=>true
 |_=>false
def GA (P:Program) (t:TypeId) (sz:Nat) (ag:Bool):Bool:=
 match P.info? t,P.underlying t with
 |some i,some d=>Nat.beq i.size sz&&(match d with| .struct _| .array _ _=>ag|_=> !ag)
 |_,_=>false
def I0 (P:Program) (t e sz:Nat):Bool:=
 match P.underlying t,P.info? e with
 |some (.slice e'),some i=>Nat.beq e' e&&Nat.beq i.size sz&& !Nat.beq sz 0
 |_,_=>false
def D6 (P:Program) (t j off:Nat):Bool:=
 match P.underlying t with
 |some (.struct fs)=>match fs[j]? with
  |some f=>Nat.beq f.offset off&&(match P.info? f.type with|some i=> !Nat.beq i.size 0|none=>false)
  |none=>false
 |_=>false
theorem LW {P t sz ag}(h:GA P t sz ag=true):∃i d,P.info? t=some i∧P.underlying t=some d∧i.size=sz∧Vj d=ag:=by
 unfold GA at h
 split at h
 ·rename_i i d hi hd
  simp only[Bool.and_eq_true] at h
  refine⟨i,d,hi,hd,Nat.eq_of_beq_eq_true h.1,?_⟩
  have h2:=h.2
  cases d<;>cases ag<;>simp_all [Vj]
 ·cases h
theorem KH {P t e sz}(h:I0 P t e sz=true):∃i,P.underlying t=some (.slice e)∧P.info? e=some i∧i.size=sz∧0<sz:=by
 unfold I0 at h
 split at h
 ·rename_i e' i h1 h2
  simp only[Bool.and_eq_true,Bool.not_eq_true'] at h
  obtain⟨⟨a,b⟩,c⟩:=h
  have ha:=Nat.eq_of_beq_eq_true a
  subst ha
  refine⟨i,h1,h2,Nat.eq_of_beq_eq_true b,?_⟩
  cases sz with
  |zero=>simp at c
  |succ n=>exact Nat.succ_pos _
 ·cases h
theorem UM {P t j off}(h:D6 P t j off=true):∃fs f i,P.underlying t=some (.struct fs)∧fs[j]? =some f∧f.offset=off∧P.info? f.type=some i∧i.size≠0:=by
 unfold D6 at h
 split at h
 ·rename_i fs h1
  split at h
  ·rename_i f h2
   simp only[Bool.and_eq_true] at h
   have h3:=h.2
   split at h3
   ·rename_i i h4
    refine⟨fs,f,i,h1,h2,Nat.eq_of_beq_eq_true h.1,h4,λh0=>?_⟩
    rw[h0] at h3;simp at h3
   ·cases h3
  ·cases h
 ·cases h
section
variable {P:Program}{w:World}
theorem MB {t:TypeId}{i:TypeInfo}(h:P.info? t=some i):(sizeOf t).run P w= .ok i.size w:=by simp [sizeOf,typeInfo,h]
theorem N5 {t d}(h:P.underlying t=some d):(isAgg t).run P w= .ok (Vj d) w:=by
 simp only[isAgg,Sem.run_bind,run_underlying h,Result.andThen_ok]
 cases d<;>rfl
theorem LK {S:Nat→Prop}{p:Value}{cs:List Value}{t sz:Nat}{ag:Bool}(k:Cells S w.heap p cs) (hl:cs.length=sz) (ht:GA P t sz ag=true) (h1:ag=false→sz=1):
  (Instr.loadAt t p).run P w= .ok (if ag then .agg cs.toArray else cs.headD undef) w:=by
 obtain⟨a,rfl,h2,h3,h4⟩:=k
 obtain⟨i,d,hi,hd,hs,hag⟩:=LW ht
 have FI:∀j,j<cs.length→w.cell? (a.add j)=cs[j]? :=λj hj=>by
  have:=h4 j hj
  obtain⟨b,o,s⟩:=a
  simp only at h2
  subst h2
  have hadd:(⟨b,o,none⟩:Addr).add j=⟨b,o+j,none⟩:=by unfold Addr.add;split<;>simp_all
  rw[hadd,Ht];exact this
 simp only[Instr.loadAt,Instr.sureAddr,loadVar,Sem.run_bind,Sem.run_pure,Result.andThen_ok,N5 hd,hag]
 cases ag with
 |true=>
  simp only[if_true,Sem.run_bind,MB hi,Result.andThen_ok,hs,←hl]
  rw[run_loadCells_list (P:=P) w a cs (λj v hj=>by
   have hlt:j<cs.length:=(List.getElem?_eq_some_iff.1 hj).1
   rw[FI j hlt,hj])]
  rfl
 |false=>
  have:=h1 rfl
  have hc:=FI 0 (by omega)
  match cs,hl with
  |[c],_=>
   have h0:a.add 0=a:=by unfold Addr.add;simp
   rw[h0] at hc
   simp only[Bool.false_eq_true,if_false,load,Sem.run,hc]
   rfl
  |[],hl=>simp at hl;omega
  |_::_::_,hl=>simp at hl;omega
theorem Mc {a:Addr}{t j off}(h:D6 P t j off=true):(Instr.fieldAt t (.pointer (some a)) j).run P w= .ok (.pointer (some (a.add off))) w:=by
 obtain⟨fs,f,i,h1,h2,h3,h4,h5⟩:=UM h
 simp [Instr.fieldAt,run_underlying h1,h2,Instr.sureAddr,fieldPlace,MB h4,h5,h3]
theorem Mb {a:Addr}{t e sz len cap:Nat}{i:Int}(h:I0 P t e sz=true) (h0:0≤i) (h1:i.toNat<len):
  (Instr.indexAt t (.slice (some a) len cap) (.int .i64 i)).run P w= .ok (.pointer (some (a.add (i.toNat*sz)))) w:=by
 obtain⟨inf,h2,h3,h4,h5⟩:=KH h
 have hlt:i<(len:Int):=by omega
 simp [Instr.indexAt,asIntOf,run_underlying h2,MB h3,h0,hlt,h4]
end
def CK (C:World→Prop) (h:Ac):Prop:=∀w,C w→∀b,b<h.size→w.heap[b]? =h[b]?
theorem Af {B:World}{h}:CK (Wd B h) h:=λw hw _ _=>by rw[hw.heap]
structure An (h h':Ac):Prop where
 siz:h.size≤h'.size
 same:∀b,b<h.size→h'[b]? =h[b]?
theorem An.refl (h:Ac):An h h:=⟨Nat.le_refl _,λ_ _=>rfl⟩
theorem An.trans {h h' h''}(x:An h h') (y:An h' h''):An h h'':=⟨Nat.le_trans x.siz y.siz,λb hb=>(y.same b (Nat.lt_of_lt_of_le hb x.siz)).trans (x.same b hb)⟩
theorem An.ext {S h h'}(o:An h h') (hS:∀b,S b→b<h.size):Bg S h S h':=⟨λ_ x=>x,λb hb=>o.same b (hS b hb),o.siz⟩
theorem An.all {S h h'}(o:An h h') (hS:∀b,S b→b<h.size):Bg S h (λb=>b<h'.size) h':=⟨λb x=>Nat.lt_of_lt_of_le (hS b x) o.siz,λb hb=>o.same b (hS b hb),o.siz⟩
theorem An.st {S L h h'}(o:An h h') (hs:St S L h):St S L h':=
 ⟨λb hb=>Nat.lt_of_lt_of_le (hs.1 b hb) o.siz,Sp.ext hs.2 (λ_ x=>x) (λb hb=>o.same b (hb.elim (hs.1 b) (·.1))) λ_ hb=>⟨Nat.lt_of_lt_of_le hb.1 o.siz,hb.2⟩⟩
def Cl (B:World) (h:Ac) (w:World):Prop:=∃h',Wd B h' w∧An h h'
theorem Ak {B:World}{h}:CK (Cl B h) h:=λ_ ⟨_,hw,o⟩ b hb=>by rw[hw.heap];exact o.same b hb
section
variable {P:Program}{ops:Array Oper}{C:World→Prop}{Q:Act→Prop}{n:FN}{a:Act}{m:List (Nat×Value)}{rest:List Oper}
variable {d:Nat}{ty:TypeId}{pos:String}{af:Array Edge}
theorem EA {op:Op}{v:Value}(hf:Fr n a m) (hd:Nat.blt d n.1=true)
  (hrun:∀w,C w→(execOp a.eval ⟨some d,op,ty,pos,af,none⟩).run P w= .ok (.value v) w)
  (k:∀a,Fr n a ((d,v)::m)→wpQuiet P ops C Q rest a):wpQuiet P ops C Q (⟨some d,op,ty,pos,af,none⟩::rest) a:=by
 unfold wpQuiet
 rw[if_pos (by simp [Region.wanted])]
 exact⟨v,λw hw=>by unfold Oper.quietAt;rw[hrun w hw];exact⟨rfl,rfl⟩,k _ (hf.put hd v)⟩
theorem ZV {o:Oper}{j e:Nat}{b:Bool}(hf:Fr n a m) (hg:o.guard=some (j,b)) (hj:(ops[j]?).bind (·.dst)=some e) (hb:lk m e=some (.bool b))
  (k:wpQuiet P ops C Q ({ o with guard:=none}::rest) a):wpQuiet P ops C Q (o::rest) a:=by
 have hw:Region.wanted o (yielded ops a.tmps)=true:=by
  have:=hf.at_ e _ hb
  simp [Region.wanted,hg,yielded,hj,this]
 unfold wpQuiet at k ⊢
 rw[if_pos hw]
 rw[if_pos (by simp [Region.wanted])] at k
 exact k
theorem ZW {o:Oper}{j e:Nat}{b:Bool}(hf:Fr n a m) (hg:o.guard=some (j,!b)) (hj:(ops[j]?).bind (·.dst)=some e) (hb:lk m e=some (.bool b)) (ho:o.dst=some d) (hd:Nat.blt d n.1=true)
  (k:∀a,Fr n a ((d,undef)::m)→wpQuiet P ops C Q rest a):wpQuiet P ops C Q (o::rest) a:=by
 have hw:Region.wanted o (yielded ops a.tmps)=false:=by
  have:=hf.at_ e _ hb
  cases b<;>simp [Region.wanted,hg,yielded,hj,this]
 unfold wpQuiet
 rw[if_neg (by rw[hw];exact Bool.false_ne_true),ho]
 exact k _ (hf.put hd _)
theorem RI (k:Nat) (I:Act→Prop) {l:List Oper}(h1:wpQuiet P ops C I (l.take k) a) (h2:∀a',I a'→wpQuiet P ops C Q (l.drop k) a'):wpQuiet P ops C Q l a:=by
 induction k generalizing l a with
 |zero=>exact h2 a (by simpa [wpQuiet] using h1)
 |succ k ih=>
  cases l with
  |nil=>exact h2 a (by simpa [wpQuiet] using h1)
  |cons o l=>
   simp only[List.take_succ_cons,List.drop_succ_cons] at h1 h2
   unfold wpQuiet at h1 ⊢
   split
   ·rename_i hw
    rw[if_pos hw] at h1
    obtain⟨v,hv,hn⟩:=h1
    exact⟨v,hv,ih hn h2⟩
   ·rename_i hw
    rw[if_neg hw] at h1
    exact ih h1 h2
theorem ZT {X v}(hf:Fr n a m) (hx:BW m X=some v) (hd:Nat.blt d n.1=true)
  (k:∀a,Fr n a ((d,v)::m)→wpQuiet P ops C Q rest a):wpQuiet P ops C Q (⟨some d,.move X,ty,pos,af,none⟩::rest) a:=
 EA hf hd (λw _=>by simp [execOp,hf.eval hx]) k
theorem ZY {X v}(hf:Fr n a m) (hx:BW m X=some v) (hd:Nat.blt d n.1=true)
  (k:∀a,Fr n a ((d,v)::m)→wpQuiet P ops C Q rest a):wpQuiet P ops C Q (⟨some d,.assign X,ty,pos,af,none⟩::rest) a:=
 EA hf hd (λw _=>by simp [execOp,hf.eval hx]) k
theorem Wn {c x y:Operand}{b:Bool}{v}(hf:Fr n a m) (hc:BW m c=some (.bool b)) (hx:BW m (if b then x else y)=some v) (hd:Nat.blt d n.1=true)
  (k:∀a,Fr n a ((d,v)::m)→wpQuiet P ops C Q rest a):wpQuiet P ops C Q (⟨some d,.pick c x y,ty,pos,af,none⟩::rest) a:=
 EA hf hd (λw _=>by cases b<;>simp [execOp,hf.eval hc,asBool]<;>exact hf.eval (by simpa using hx)) k
section ints
variable {X Y:Operand}{t1 t2:TypeId}{x y:Int}{kd:IntKind}
theorem Ji {op:BinOp}{v:Value}(hf:Fr n a m) (hx:BW m X=some (.int kd x)) (hy:BW m Y=some (.int kd y)) (hd:Nat.blt d n.1=true)
  (hr:∀w,(binOp op t1 (.int kd x) (.int kd y)).run P w= .ok v w)
  (k:∀a,Fr n a ((d,v)::m)→wpQuiet P ops C Q rest a):wpQuiet P ops C Q (⟨some d,.binOp op t1 X Y t2,ty,pos,af,none⟩::rest) a:=by
 refine EA hf hd (λw _=>?_) k
 have hg:(eqGuard op t1 X Y (.int kd x) (.int kd y)).run P w= .ok () w:=by
  unfold eqGuard;cases op<;>simp
 simp [execOp,hf.eval hx,hf.eval hy,hg,hr]
theorem YX (hf:Fr n a m) (hx:BW m X=some (.int .i64 x)) (hy:BW m Y=some (.int .i64 y)) (hd:Nat.blt d n.1=true) (hi:AB (x+y))
  (k:∀a,Fr n a ((d,.int .i64 (x+y))::m)→wpQuiet P ops C Q rest a):wpQuiet P ops C Q (⟨some d,.binOp .add t1 X Y t2,ty,pos,af,none⟩::rest) a:=
 Ji hf hx hy hd (λw=>by have:=KA hi;simp only[A3] at this;simp [binOp,Op.intArith,this]) k
theorem YD (hf:Fr n a m) (hx:BW m X=some (.int .i64 x)) (hy:BW m Y=some (.int .i64 y)) (hd:Nat.blt d n.1=true) (hi:AB (x*y))
  (k:∀a,Fr n a ((d,.int .i64 (x*y))::m)→wpQuiet P ops C Q rest a):wpQuiet P ops C Q (⟨some d,.binOp .mul t1 X Y t2,ty,pos,af,none⟩::rest) a:=
 Ji hf hx hy hd (λw=>by have:=KA hi;simp only[A3] at this;simp [binOp,Op.intArith,this]) k
theorem Wr (hf:Fr n a m) (hx:BW m X=some (.int .i64 x)) (hy:BW m Y=some (.int .i64 y)) (hd:Nat.blt d n.1=true)
  (k:∀a,Fr n a ((d,.int .i64 (A3 (x+y)))::m)→wpQuiet P ops C Q rest a):wpQuiet P ops C Q (⟨some d,.binOp .add t1 X Y t2,ty,pos,af,none⟩::rest) a:=
 Ji hf hx hy hd (λw=>by simp [binOp,Op.intArith]) k
theorem Wm (hf:Fr n a m) (hx:BW m X=some (.int .i64 x)) (hy:BW m Y=some (.int .i64 y)) (hd:Nat.blt d n.1=true)
  (k:∀a,Fr n a ((d,.int .i64 (A3 (x-y)))::m)→wpQuiet P ops C Q rest a):wpQuiet P ops C Q (⟨some d,.binOp .sub t1 X Y t2,ty,pos,af,none⟩::rest) a:=
 Ji hf hx hy hd (λw=>by simp [binOp,Op.intArith]) k
theorem Wo (hf:Fr n a m) (hx:BW m X=some (.int .i64 x)) (hy:BW m Y=some (.int .i64 y)) (hd:Nat.blt d n.1=true)
  (k:∀a,Fr n a ((d,.int .i64 (A3 (x*y)))::m)→wpQuiet P ops C Q rest a):wpQuiet P ops C Q (⟨some d,.binOp .mul t1 X Y t2,ty,pos,af,none⟩::rest) a:=
 Ji hf hx hy hd (λw=>by simp [binOp,Op.intArith]) k
theorem YG (hf:Fr n a m) (hx:BW m X=some (.int kd x)) (hy:BW m Y=some (.int kd y)) (hd:Nat.blt d n.1=true)
  (k:∀a,Fr n a ((d,.bool (decide (x<y)))::m)→wpQuiet P ops C Q rest a):wpQuiet P ops C Q (⟨some d,.binOp .lss t1 X Y t2,ty,pos,af,none⟩::rest) a:=
 Ji hf hx hy hd (λw=>by simp [binOp,Op.intCmp]) k
theorem YH (hf:Fr n a m) (hx:BW m X=some (.int kd x)) (hy:BW m Y=some (.int kd y)) (hd:Nat.blt d n.1=true)
  (k:∀a,Fr n a ((d,.bool (decide (x≤y)))::m)→wpQuiet P ops C Q rest a):wpQuiet P ops C Q (⟨some d,.binOp .leq t1 X Y t2,ty,pos,af,none⟩::rest) a:=
 Ji hf hx hy hd (λw=>by simp [binOp,Op.intCmp]) k
theorem YQ (hf:Fr n a m) (hx:BW m X=some (.int kd x)) (hy:BW m Y=some (.int kd y)) (hd:Nat.blt d n.1=true)
  (k:∀a,Fr n a ((d,.bool (decide (y<x)))::m)→wpQuiet P ops C Q rest a):wpQuiet P ops C Q (⟨some d,.binOp .gtr t1 X Y t2,ty,pos,af,none⟩::rest) a:=
 Ji hf hx hy hd (λw=>by simp [binOp,Op.intCmp]) k
theorem YS (hf:Fr n a m) (hx:BW m X=some (.int kd x)) (hy:BW m Y=some (.int kd y)) (hd:Nat.blt d n.1=true)
  (k:∀a,Fr n a ((d,.bool (decide (y≤x)))::m)→wpQuiet P ops C Q rest a):wpQuiet P ops C Q (⟨some d,.binOp .geq t1 X Y t2,ty,pos,af,none⟩::rest) a:=
 Ji hf hx hy hd (λw=>by simp [binOp,Op.intCmp]) k
theorem YV (hf:Fr n a m) (hx:BW m X=some (.int kd x)) (hy:BW m Y=some (.int kd y)) (hd:Nat.blt d n.1=true)
  (k:∀a,Fr n a ((d,.bool (decide (x=y)))::m)→wpQuiet P ops C Q rest a):wpQuiet P ops C Q (⟨some d,.binOp .eql t1 X Y t2,ty,pos,af,none⟩::rest) a:=
 Ji hf hx hy hd (λw=>by simp [binOp,Op.intCmp,M0]) k
theorem YB (hf:Fr n a m) (hx:BW m X=some (.int kd x)) (hy:BW m Y=some (.int kd y)) (hd:Nat.blt d n.1=true)
  (k:∀a,Fr n a ((d,.bool (decide (x≠y)))::m)→wpQuiet P ops C Q rest a):wpQuiet P ops C Q (⟨some d,.binOp .neq t1 X Y t2,ty,pos,af,none⟩::rest) a:=
 Ji hf hx hy hd (λw=>by simp [binOp,Op.intCmp,bne,M0]) k
end ints
theorem YA {X t1 b}(hf:Fr n a m) (hx:BW m X=some (.bool b)) (hd:Nat.blt d n.1=true)
  (k:∀a,Fr n a ((d,.bool (!b))::m)→wpQuiet P ops C Q rest a):wpQuiet P ops C Q (⟨some d,.unOp .not t1 X,ty,pos,af,none⟩::rest) a:=
 EA hf hd (λw _=>by simp [execOp,hf.eval hx,Op.unary]) k
section loads
variable {A S:Nat→Prop}{L:List HP}{h:Ac}{X:Operand}{p:Value}{t:TypeId}
theorem YO {cs:List Value}{sz:Nat}{ag:Bool}(ck:CK C h) (hA:∀b,A b→b<h.size) (hf:Fr n a m) (hx:BW m X=some p) (k0:Cells A h p cs) (hl:cs.length=sz) (ht:GA P t sz ag=true) (h1:ag=false→sz=1) (hd:Nat.blt d n.1=true)
  (k:∀a,Fr n a ((d,if ag then .agg cs.toArray else cs.headD undef)::m)→wpQuiet P ops C Q rest a):wpQuiet P ops C Q (⟨some d,.load t X,ty,pos,af,none⟩::rest) a:=by
 refine EA hf hd (λw hw=>?_) k
 have:=LK (P:=P) (w:=w) (k0.mono (λ_ x=>x) λb hb=>ck w hw b (hA b hb)) hl ht h1
 simp [execOp,hf.eval hx,this]
theorem TZ {α}{r:AW α}{x}(ck:CK C h) (hA:∀b,A b→b<h.size) (hf:Fr n a m) (hx:BW m X=some p) (k0:J7 A S h r p x) (ht:GA P t r.sz r.ag=true) (h1:r.ag=false→r.sz=1) (hd:Nat.blt d n.1=true)
  (k:∀v a,Fr n a ((d,v)::m)→Rd S h r v x→wpQuiet P ops C Q rest a):wpQuiet P ops C Q (⟨some d,.load t X,ty,pos,af,none⟩::rest) a:=by
 obtain⟨cs,k1,k2⟩:=k0
 exact YO ck hA hf hx k1 (r.len k2) ht h1 hd λa' hf'=>k _ a' hf' ⟨cs,rfl,k2⟩
theorem YN {x}(ck:CK C h) (hA:∀b,A b→b<h.size) (hf:Fr n a m) (hx:BW m X=some p) (k0:J7 A S h AW.int p x) (ht:GA P t 1 false=true) (hd:Nat.blt d n.1=true)
  (k:∀a,Fr n a ((d,.int .i64 x)::m)→AB x→wpQuiet P ops C Q rest a):wpQuiet P ops C Q (⟨some d,.load t X,ty,pos,af,none⟩::rest) a:=
 TZ ck hA hf hx k0 ht (λ_=>rfl) hd λv a' hf' hr=>by obtain⟨rfl,hi⟩:=hr.int;exact k a' hf' hi
theorem YP {x}(ck:CK C h) (hA:∀b,A b→b<h.size) (hf:Fr n a m) (hx:BW m X=some p) (k0:J7 A S h AW.bool p x) (ht:GA P t 1 false=true) (hd:Nat.blt d n.1=true)
  (k:∀a,Fr n a ((d,.bool x)::m)→wpQuiet P ops C Q rest a):wpQuiet P ops C Q (⟨some d,.load t X,ty,pos,af,none⟩::rest) a:=
 TZ ck hA hf hx k0 ht (λ_=>rfl) hd λv a' hf' hr=>by obtain rfl:=hr.bool;exact k a' hf'
theorem YJ {x}(ck:CK C h) (hA:∀b,A b→b<h.size) (hf:Fr n a m) (hx:BW m X=some p) (k0:J7 A S h AW.str p x) (ht:GA P t 1 false=true) (hd:Nat.blt d n.1=true)
  (k:∀a,Fr n a ((d,.string x)::m)→x.size≤maxLen→wpQuiet P ops C Q rest a):wpQuiet P ops C Q (⟨some d,.load t X,ty,pos,af,none⟩::rest) a:=
 TZ ck hA hf hx k0 ht (λ_=>rfl) hd λv a' hf' hr=>by obtain⟨rfl,hi⟩:=hr.str;exact k a' hf' hi
theorem YM {α}{r:AW α}{x}(ck:CK C h) (hA:∀b,A b→b<h.size) (hf:Fr n a m) (hx:BW m X=some p) (k0:J7 A S h r.sl p x) (ht:GA P t 1 false=true) (hd:Nat.blt d n.1=true)
  (k:∀v a,Fr n a ((d,v)::m)→Sl S h r v x→wpQuiet P ops C Q rest a):wpQuiet P ops C Q (⟨some d,.load t X,ty,pos,af,none⟩::rest) a:=
 TZ ck hA hf hx k0 ht (λ_=>rfl) hd λv a' hf' hr=>k v a' hf' hr.sl
theorem ZX {α β}{r:AW α}{r':AW β}{f:α→β}{j off x}(hf:Fr n a m) (hx:BW m X=some p) (k0:J7 A S h r p x) (fl:ED r off r' f) (ht:D6 P t j off=true) (hd:Nat.blt d n.1=true)
  (k:∀q a,Fr n a ((d,q)::m)→J7 A S h r' q (f x)→wpQuiet P ops C Q rest a):wpQuiet P ops C Q (⟨some d,.fieldAddr t X j,ty,pos,af,none⟩::rest) a:=by
 obtain⟨ad,rfl,k1⟩:=k0.fld fl
 exact EA hf hd (λw _=>by simp [execOp,hf.eval hx,Mc ht]) λa' hf'=>k _ a' hf' k1
theorem YT {b o j off}(hf:Fr n a m) (hx:BW m X=some (.pointer (some ⟨b,o,none⟩))) (ht:D6 P t j off=true) (hd:Nat.blt d n.1=true)
  (k:∀a,Fr n a ((d,.pointer (some ⟨b,o+off,none⟩))::m)→wpQuiet P ops C Q rest a):wpQuiet P ops C Q (⟨some d,.fieldAddr t X j,ty,pos,af,none⟩::rest) a:=by
 have hadd:(⟨b,o,none⟩:Addr).add off=⟨b,o+off,none⟩:=by unfold Addr.add;split<;>simp_all
 exact EA hf hd (λw _=>by simp [execOp,hf.eval hx,Mc ht,hadd]) k
theorem Sl.at_ {α}{r:AW α}{v:Value}{l:List α}(k0:Sl S h r v l) {i:Nat}{x:α}(hi:l[i]? =some x):
  ∃(ad:Addr) (cap:Nat),v= .slice (some ad) l.length cap∧Pt S h r (.pointer (some (ad.add (i*r.sz)))) x:=by
 rcases k0 with ⟨rfl,rfl⟩|⟨ad,cap,h1,h4,h5,h6⟩
 ·simp at hi
 ·refine⟨ad,cap,h1,?_⟩
  obtain⟨h2,this⟩:=h6 i x hi
  obtain⟨b,o,s⟩:=ad
  simp only at h2;subst h2
  have hadd:(⟨b,o,none⟩:Addr).add (i*r.sz)=⟨b,o+i*r.sz,none⟩:=by unfold Addr.add;split<;>simp_all
  rw[hadd];exact this
theorem ZU {α}{r:AW α}{l:List α}{e i x Y v}(hf:Fr n a m) (hx:BW m X=some v) (hy:BW m Y=some (.int .i64 i)) (k0:Sl S h r v l) (ht:I0 P t e r.sz=true) (h0:0≤i) (hi:l[i.toNat]? =some x) (hd:Nat.blt d n.1=true)
  (k:∀q a,Fr n a ((d,q)::m)→Pt S h r q x→wpQuiet P ops C Q rest a):wpQuiet P ops C Q (⟨some d,.indexAddr t X Y,ty,pos,af,none⟩::rest) a:=by
 obtain⟨ad,cap,rfl,k1⟩:=k0.at_ hi
 have hl:i.toNat<l.length:=(List.getElem?_eq_some_iff.1 hi).1
 exact EA hf hd (λw _=>by simp [execOp,hf.eval hx,hf.eval hy,Mb (P:=P) (w:=w) (cap:=cap) (a:=ad) ht h0 hl]) λa' hf'=>k _ a' hf' k1
theorem YI {α}{r:AW α}{l:List α}{v aty e}(hf:Fr n a m) (hx:BW m X=some v) (k0:Sl S h r v l) (ht:I0 P t e r.sz=true) (hd:Nat.blt d n.1=true)
  (k:∀a,Fr n a ((d,.int .i64 l.length)::m)→l.length≤maxLen→wpQuiet P ops C Q rest a):wpQuiet P ops C Q (⟨some d,.call ⟨.builtin .len,#[X],#[t]⟩,aty,pos,af,none⟩::rest) a:=by
 obtain⟨ad,cap,rfl,hm⟩:=k0.len
 obtain⟨i,h1,_⟩:=KH ht
 exact EA hf hd (λw _=>by simp [execOp,resolve,invoke,builtin,Builtin.len_,hf.eval hx,run_underlying h1,goInt]) λa' hf'=>k a' hf' hm
theorem Wp {ad len cap aty e sz}(hf:Fr n a m) (hx:BW m X=some (.slice ad len cap)) (ht:I0 P t e sz=true) (hd:Nat.blt d n.1=true)
  (k:∀a,Fr n a ((d,.int .i64 len)::m)→wpQuiet P ops C Q rest a):wpQuiet P ops C Q (⟨some d,.call ⟨.builtin .len,#[X],#[t]⟩,aty,pos,af,none⟩::rest) a:=by
 obtain⟨i,h1,_⟩:=KH ht
 exact EA hf hd (λw _=>by simp [execOp,resolve,invoke,builtin,Builtin.len_,hf.eval hx,run_underlying h1,goInt]) k
end loads
theorem YF {X Y t1 t2 x y aty kd}(hf:Fr n a m) (hx:BW m X=some (.int kd x)) (hy:BW m Y=some (.int kd y)) (hd:Nat.blt d n.1=true)
  (k:∀a,Fr n a ((d,.int kd (max x y))::m)→wpQuiet P ops C Q rest a):wpQuiet P ops C Q (⟨some d,.call ⟨.builtin .max,#[X,Y],#[t1,t2]⟩,aty,pos,af,none⟩::rest) a:=
 EA hf hd (λw _=>by
  have:(if y>x then y else x)=max x y:=by rw[Int.max_def];split<;>split<;>omega
  simp [execOp,resolve,invoke,builtin,Builtin.max_,Builtin.max2,hf.eval hx,hf.eval hy,this]) k
theorem YE {X Y t1 t2 x y aty kd}(hf:Fr n a m) (hx:BW m X=some (.int kd x)) (hy:BW m Y=some (.int kd y)) (hd:Nat.blt d n.1=true)
  (k:∀a,Fr n a ((d,.int kd (min x y))::m)→wpQuiet P ops C Q rest a):wpQuiet P ops C Q (⟨some d,.call ⟨.builtin .min,#[X,Y],#[t1,t2]⟩,aty,pos,af,none⟩::rest) a:=
 EA hf hd (λw _=>by
  have:(if y<x then y else x)=min x y:=by rw[Int.min_def];split<;>split<;>omega
  simp [execOp,resolve,invoke,builtin,Builtin.min_,Builtin.min2,hf.eval hx,hf.eval hy,this]) k
end
end Go.Proofs.YtibidnaedddfdaaGreat
