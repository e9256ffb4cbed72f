import Derived.Test.YtedgiljmffngoaaGreatFCore1
namespace Go.Proofs.YtedgiljmffngoaaGreat
set_option linter.all false
open Go.RowKit
abbrev BG (n:Int):Int:=IntKind.i64.wrap n
def JZ {n:Int}(h:AA n):BG n=n:=IntWalk.i64_in n h
def BF (n:Int):AA (BG n):=by
 unfold BG AA;rw[IntKind.wrap_i64];omega
def P5 (x y:Int):(x==y)=decide (x=y):=by rw[Bool.eq_iff_iff];simp
def XD:TypeDesc→Bool
 | .struct _| .array _ _=>true
 |_=>false
def Ie (P:Program) (t:TypeId) (sz:Nat) (ag:Bool):Bool:=
 match P.info? t,P.underlying t with
 |some i,some d=>Nat.beq i.size sz&&(match d with| .struct _| .array _ _=>ag|_=> !ag)
 |_,_=>false
def N5 (P:Program) (t e sz:Nat):Bool:=
 match P.underlying t,P.info? e with
 |some (.slice a),some i=>Nat.beq a e&&Nat.beq i.size sz&& !Nat.beq sz 0
 |_,_=>false
def U6 (P:Program) (t j off:Nat):Bool:=
 match P.underlying t with
 |some (.struct a)=>match a[j]? with
  |some f=>Nat.beq f.offset off&&(match P.info? f.type with|some i=> !Nat.beq i.size 0|none=>false)
  |none=>false
 |_=>false
def Ot {P t sz ag}(h:Ie P t sz ag=true):∃i d,P.info? t=some i∧P.underlying t=some d∧i.size=sz∧XD d=ag:=by
 unfold Ie at h;split at h
 ·rename_i i d a hd;simp only[gG] at h;refine⟨i,d,a,hd,gH h.1,?_⟩;have b:=h.2;cases d<;>cases ag<;>simp_all [XD]
 ·cases h
def LH {P t e sz}(h:N5 P t e sz=true):∃i,P.underlying t=some (.slice e)∧P.info? e=some i∧i.size=sz∧0<sz:=by
 unfold N5 at h;split at h
 ·rename_i k i d g;simp only[gG,gS] at h;obtain⟨⟨a,b⟩,c⟩:=h;have j:=gH a;subst j;refine⟨i,d,g,gH b,?_⟩;cases sz with
  |zero=>simp at c
  |succ n=>exact Nat.succ_pos _
 ·cases h
def Vo {P t j off}(h:U6 P t j off=true):∃a f i,P.underlying t=some (.struct a)∧a[j]? =some f∧f.offset=off∧P.info? f.type=some i∧i.size≠0:=by
 unfold U6 at h;split at h
 ·rename_i a c;split at h
  ·rename_i f d;simp only[gG] at h;have b:=h.2;split at b
   ·rename_i i g;refine⟨a,f,i,c,d,gH h.1,g,λh0=>?_⟩;rw[h0] at b;simp at b
   ·cases b
  ·cases h
 ·cases h
section
variable {P:Program}{w:World}
def PJ {t:TypeId}{i:TypeInfo}(h:P.info? t=some i):(sizeOf t).run P w= .ok i.size w:=by simp [sizeOf,typeInfo,h]
def RS {t d}(h:P.underlying t=some d):(isAgg t).run P w= .ok (XD d) w:=by
 simp only[isAgg,Sem.run_bind,run_underlying h,Result.andThen_ok];cases d<;>rfl
def Ma {S:Nat→Prop}{p:Value}{cs:List Value}{t sz:Nat}{ag:Bool}(k:M1 S w.heap p cs) (g:cs.length=sz) (y:Ie P t sz ag=true) (z:ag=false→sz=1):
  (Instr.loadAt t p).run P w= .ok (if ag then .agg cs.toArray else cs.headD undef) w:=by
 obtain⟨a,rfl,u,D,A⟩:=k;obtain⟨i,d,B,hd,C,n⟩:=Ot y;have Gk:∀j,j<cs.length→w.cell? (a.add j)=cs[j]? :=λj m=>by
  have:=A j m;obtain⟨b,o,s⟩:=a;simp only at u;subst u;have l:(⟨b,o,none⟩:Addr).add j=⟨b,o+j,none⟩:=by unfold Addr.add;split<;>simp_all
  rw[l,Hl];exact this
 simp only[Instr.loadAt,Instr.sureAddr,loadVar,Sem.run_bind,Sem.run_pure,Result.andThen_ok,RS hd,n];cases ag with
 |true=>
  simp only[if_true,Sem.run_bind,PJ B,Result.andThen_ok,C,←g];rw[run_loadCells_list (P:=P) w a cs (λj v m=>by
   have q:j<cs.length:=(hJ.1 m).1;rw[Gk j q,m])]
  rfl
 |false=>
  have:=z rfl;have x:=Gk 0 (by omega)
  match cs,g with
  |[c],_=>
   have h0:a.add 0=a:=by unfold Addr.add;simp
   rw[h0] at x;simp only[iR,iS,load,Sem.run,x];rfl
  |[],g=>simp at g;omega
  |_::_::_,g=>simp at g;omega
def Km {a:Addr}{t j off}(h:U6 P t j off=true):(Instr.fieldAt t (.pointer (some a)) j).run P w= .ok (.pointer (some (a.add off))) w:=by
 obtain⟨l,f,i,b,c,d,g,k⟩:=Vo h;simp [Instr.fieldAt,run_underlying b,c,Instr.sureAddr,fieldPlace,PJ g,k,d]
def Lm {a:Addr}{t e sz len cap:Nat}{i:Int}(h:N5 P t e sz=true) (h0:0≤i) (k:i.toNat<len):
  (Instr.indexAt t (.slice (some a) len cap) (.int .i64 i)).run P w= .ok (.pointer (some (a.add (i.toNat*sz)))) w:=by
 obtain⟨c,d,g,j,l⟩:=LH h;have b:i<(len:Int):=by omega
 simp [Instr.indexAt,asIntOf,run_underlying d,PJ g,h0,b,j]
end
def CK (C:World→Prop) (h:AT):Prop:=∀w,C w→∀b,b<h.size→w.heap[b]? =h[b]?
def FC {B:World}{h}:CK (Wd B h) h:=λw a _ _=>by rw[a.heap]
structure CF (h h':AT):Prop where
 siz:h.size≤h'.size
 same:∀b,b<h.size→h'[b]? =h[b]?
def CF.refl (h:AT):CF h h:=⟨gN _,λ_ _=>rfl⟩
def CF.trans {h h' h''}(x:CF h h') (y:CF h' h''):CF h h'':=⟨iK x.siz y.siz,λb a=>(y.same b (gJ a x.siz)).trans (x.same b a)⟩
def CF.ext {S h h'}(o:CF h h') (a:∀b,S b→b<h.size):B6 S h S h':=⟨λ_ x=>x,λb c=>o.same b (a b c),o.siz⟩
def CF.all {S h h'}(o:CF h h') (a:∀b,S b→b<h.size):B6 S h (λb=>b<h'.size) h':=⟨λb x=>gJ (a b x) o.siz,λb c=>o.same b (a b c),o.siz⟩
def CF.st {S L h h'}(o:CF h h') (c:St S L h):St S L h':=
 ⟨λb a=>gJ (c.1 b a) o.siz,Sp.ext c.2 (λ_ x=>x) (λb a=>o.same b (a.elim (c.1 b) (·.1))) λ_ a=>⟨gJ a.1 o.siz,a.2⟩⟩
def Cl (B:World) (h:AT) (w:World):Prop:=∃h',Wd B h' w∧CF h h'
def Lr {B:World}{h}:CK (Cl B h) h:=λ_ ⟨_,a,o⟩ b c=>by rw[a.heap];exact o.same b c
section
variable {P:Program}{ops:Array Oper}{C:World→Prop}{Q:Act→Prop}{n:FN}{a:Act}{m:List (Nat×Value)}{rest:List Oper}
variable {d:Nat}{ty:TypeId}{pos:String}{af:Array Edge}
def Cu {c:Op}{v:Value}(g:Fr n a m) (hd:Nat.blt d n.1=true)
  (b:∀w,C w→(execOp a.eval ⟨some d,c,ty,pos,af,none⟩).run P w= .ok (.value v) w)
  (k:∀a,Fr n a ((d,v)::m)→wpQuiet P ops C Q rest a):wpQuiet P ops C Q (⟨some d,c,ty,pos,af,none⟩::rest) a:=by
 unfold wpQuiet;rw[gO (by simp [Region.wanted])];exact⟨v,λw i=>by unfold Oper.quietAt;rw[b w i];exact⟨rfl,rfl⟩,k _ (g.put hd v)⟩
def eV {o:Oper}{j e:Nat}{b:Bool}(c:Fr n a m) (d:o.guard=some (j,b)) (g:(ops[j]?).bind (·.dst)=some e) (i:lk m e=some (.bool b))
  (k:wpQuiet P ops C Q ({ o with guard:=none}::rest) a):wpQuiet P ops C Q (o::rest) a:=by
 have l:Region.wanted o (yielded ops a.tmps)=true:=by
  have:=c.at_ e _ i;simp [Region.wanted,d,yielded,g,this]
 unfold wpQuiet at k ⊢;rw[gO l];rw[gO (by simp [Region.wanted])] at k;exact k
def eW {o:Oper}{j e:Nat}{b:Bool}(c:Fr n a m) (g:o.guard=some (j,!b)) (i:(ops[j]?).bind (·.dst)=some e) (l:lk m e=some (.bool b)) (p:o.dst=some d) (hd:Nat.blt d n.1=true)
  (k:∀a,Fr n a ((d,undef)::m)→wpQuiet P ops C Q rest a):wpQuiet P ops C Q (o::rest) a:=by
 have q:Region.wanted o (yielded ops a.tmps)=false:=by
  have:=c.at_ e _ l;cases b<;>simp [Region.wanted,g,yielded,i,this]
 unfold wpQuiet;rw[gL (by rw[q];exact Bool.false_ne_true),p];exact k _ (c.put hd _)
def RW (k:Nat) (I:Act→Prop) {l:List Oper}(b:wpQuiet P ops C I (l.take k) a) (c:∀g,I g→wpQuiet P ops C Q (l.drop k) g):wpQuiet P ops C Q l a:=by
 induction k generalizing l a with
 |zero=>exact c a (by simpa [wpQuiet] using b)
 |succ k i=>
  cases l with
  |nil=>exact c a (by simpa [wpQuiet] using b)
  |cons o l=>
   simp only[List.take_succ_cons,List.drop_succ_cons] at b c;unfold wpQuiet at b ⊢;split
   ·rename_i d;rw[gO d] at b;obtain⟨v,j,m⟩:=b;exact⟨v,j,i m c⟩
   ·rename_i d;rw[gL d] at b;exact i b c
def eT {X v}(b:Fr n a m) (c:BU m X=some v) (hd:Nat.blt d n.1=true)
  (k:∀a,Fr n a ((d,v)::m)→wpQuiet P ops C Q rest a):wpQuiet P ops C Q (⟨some d,.move X,ty,pos,af,none⟩::rest) a:=
 Cu b hd (λw _=>by simp [execOp,b.eval c]) k
def eY {X v}(b:Fr n a m) (c:BU m X=some v) (hd:Nat.blt d n.1=true)
  (k:∀a,Fr n a ((d,v)::m)→wpQuiet P ops C Q rest a):wpQuiet P ops C Q (⟨some d,.assign X,ty,pos,af,none⟩::rest) a:=
 Cu b hd (λw _=>by simp [execOp,b.eval c]) k
def Yi {c x y:Operand}{b:Bool}{v}(g:Fr n a m) (i:BU m c=some (.bool b)) (j:BU m (if b then x else y)=some v) (hd:Nat.blt d n.1=true)
  (k:∀a,Fr n a ((d,v)::m)→wpQuiet P ops C Q rest a):wpQuiet P ops C Q (⟨some d,.pick c x y,ty,pos,af,none⟩::rest) a:=
 Cu g hd (λw _=>by cases b<;>simp [execOp,g.eval i,asBool]<;>exact g.eval (by simpa using j)) k
section ints
variable {X Y:Operand}{t1 t2:TypeId}{x y:Int}{kd:IntKind}
def NK {b:BinOp}{v:Value}(c:Fr n a m) (g:BU m X=some (.int kd x)) (i:BU m Y=some (.int kd y)) (hd:Nat.blt d n.1=true)
  (j:∀w,(binOp b t1 (.int kd x) (.int kd y)).run P w= .ok v w)
  (k:∀a,Fr n a ((d,v)::m)→wpQuiet P ops C Q rest a):wpQuiet P ops C Q (⟨some d,.binOp b t1 X Y t2,ty,pos,af,none⟩::rest) a:=by
 refine Cu c hd (λw _=>?_) k;have l:(eqGuard b t1 X Y (.int kd x) (.int kd y)).run P w= .ok () w:=by
  unfold eqGuard;cases b<;>simp
 simp [execOp,c.eval g,c.eval i,l,j]
def cF (b:Fr n a m) (c:BU m X=some (.int .i64 x)) (g:BU m Y=some (.int .i64 y)) (hd:Nat.blt d n.1=true) (i:AA (x+y))
  (k:∀a,Fr n a ((d,.int .i64 (x+y))::m)→wpQuiet P ops C Q rest a):wpQuiet P ops C Q (⟨some d,.binOp .add t1 X Y t2,ty,pos,af,none⟩::rest) a:=
 NK b c g hd (λw=>by have:=JZ i;simp only[BG] at this;simp [binOp,Op.intArith,this]) k
def bP (b:Fr n a m) (c:BU m X=some (.int .i64 x)) (g:BU m Y=some (.int .i64 y)) (hd:Nat.blt d n.1=true) (i:AA (x*y))
  (k:∀a,Fr n a ((d,.int .i64 (x*y))::m)→wpQuiet P ops C Q rest a):wpQuiet P ops C Q (⟨some d,.binOp .mul t1 X Y t2,ty,pos,af,none⟩::rest) a:=
 NK b c g hd (λw=>by have:=JZ i;simp only[BG] at this;simp [binOp,Op.intArith,this]) k
def Ym (b:Fr n a m) (c:BU m X=some (.int .i64 x)) (g:BU m Y=some (.int .i64 y)) (hd:Nat.blt d n.1=true)
  (k:∀a,Fr n a ((d,.int .i64 (BG (x+y)))::m)→wpQuiet P ops C Q rest a):wpQuiet P ops C Q (⟨some d,.binOp .add t1 X Y t2,ty,pos,af,none⟩::rest) a:=
 NK b c g hd (λw=>by simp [binOp,Op.intArith]) k
def Yh (b:Fr n a m) (c:BU m X=some (.int .i64 x)) (g:BU m Y=some (.int .i64 y)) (hd:Nat.blt d n.1=true)
  (k:∀a,Fr n a ((d,.int .i64 (BG (x-y)))::m)→wpQuiet P ops C Q rest a):wpQuiet P ops C Q (⟨some d,.binOp .sub t1 X Y t2,ty,pos,af,none⟩::rest) a:=
 NK b c g hd (λw=>by simp [binOp,Op.intArith]) k
def bS (b:Fr n a m) (c:BU m X=some (.int kd x)) (g:BU m Y=some (.int kd y)) (hd:Nat.blt d n.1=true)
  (k:∀a,Fr n a ((d,.bool (decide (x<y)))::m)→wpQuiet P ops C Q rest a):wpQuiet P ops C Q (⟨some d,.binOp .lss t1 X Y t2,ty,pos,af,none⟩::rest) a:=
 NK b c g hd (λw=>by simp [binOp,Op.intCmp]) k
def bT (b:Fr n a m) (c:BU m X=some (.int kd x)) (g:BU m Y=some (.int kd y)) (hd:Nat.blt d n.1=true)
  (k:∀a,Fr n a ((d,.bool (decide (x≤y)))::m)→wpQuiet P ops C Q rest a):wpQuiet P ops C Q (⟨some d,.binOp .leq t1 X Y t2,ty,pos,af,none⟩::rest) a:=
 NK b c g hd (λw=>by simp [binOp,Op.intCmp]) k
def cA (b:Fr n a m) (c:BU m X=some (.int kd x)) (g:BU m Y=some (.int kd y)) (hd:Nat.blt d n.1=true)
  (k:∀a,Fr n a ((d,.bool (decide (y<x)))::m)→wpQuiet P ops C Q rest a):wpQuiet P ops C Q (⟨some d,.binOp .gtr t1 X Y t2,ty,pos,af,none⟩::rest) a:=
 NK b c g hd (λw=>by simp [binOp,Op.intCmp]) k
def cB (b:Fr n a m) (c:BU m X=some (.int kd x)) (g:BU m Y=some (.int kd y)) (hd:Nat.blt d n.1=true)
  (k:∀a,Fr n a ((d,.bool (decide (y≤x)))::m)→wpQuiet P ops C Q rest a):wpQuiet P ops C Q (⟨some d,.binOp .geq t1 X Y t2,ty,pos,af,none⟩::rest) a:=
 NK b c g hd (λw=>by simp [binOp,Op.intCmp]) k
def cD (b:Fr n a m) (c:BU m X=some (.int kd x)) (g:BU m Y=some (.int kd y)) (hd:Nat.blt d n.1=true)
  (k:∀a,Fr n a ((d,.bool (decide (x=y)))::m)→wpQuiet P ops C Q rest a):wpQuiet P ops C Q (⟨some d,.binOp .eql t1 X Y t2,ty,pos,af,none⟩::rest) a:=
 NK b c g hd (λw=>by simp [binOp,Op.intCmp,P5]) k
def bO (b:Fr n a m) (c:BU m X=some (.int kd x)) (g:BU m Y=some (.int kd y)) (hd:Nat.blt d n.1=true)
  (k:∀a,Fr n a ((d,.bool (decide (x≠y)))::m)→wpQuiet P ops C Q rest a):wpQuiet P ops C Q (⟨some d,.binOp .neq t1 X Y t2,ty,pos,af,none⟩::rest) a:=
 NK b c g hd (λw=>by simp [binOp,Op.intCmp,bne,P5]) k
end ints
def bM {X t1 b}(c:Fr n a m) (g:BU m X=some (.bool b)) (hd:Nat.blt d n.1=true)
  (k:∀a,Fr n a ((d,.bool (!b))::m)→wpQuiet P ops C Q rest a):wpQuiet P ops C Q (⟨some d,.unOp .not t1 X,ty,pos,af,none⟩::rest) a:=
 Cu c hd (λw _=>by simp [execOp,c.eval g,Op.unary]) k
def Yj {X t1 x}(b:Fr n a m) (c:BU m X=some (.int .i64 x)) (hd:Nat.blt d n.1=true)
  (k:∀a,Fr n a ((d,.int .i64 (BG (0-x)))::m)→wpQuiet P ops C Q rest a):wpQuiet P ops C Q (⟨some d,.unOp .neg t1 X,ty,pos,af,none⟩::rest) a:=
 Cu b hd (λw _=>by simp [execOp,b.eval c,Op.unary,Op.intArith]) k
section loads
variable {A S:Nat→Prop}{L:List HP}{h:AT}{X:Operand}{p:Value}{t:TypeId}
def Xx {cs:List Value}{sz:Nat}{ag:Bool}(g:CK C h) (i:∀b,A b→b<h.size) (c:Fr n a m) (j:BU m X=some p) (k0:M1 A h p cs) (l:cs.length=sz) (o:Ie P t sz ag=true) (q:ag=false→sz=1) (hd:Nat.blt d n.1=true)
  (k:∀a,Fr n a ((d,if ag then .agg cs.toArray else cs.headD undef)::m)→wpQuiet P ops C Q rest a):wpQuiet P ops C Q (⟨some d,.load t X,ty,pos,af,none⟩::rest) a:=by
 refine Cu c hd (λw s=>?_) k;have:=Ma (P:=P) (w:=w) (k0.mono (λ_ x=>x) λb u=>g w s b (i b u)) l o q;simp [execOp,c.eval j,this]
def Ur {α}{r:BB α}{x}(i:CK C h) (j:∀b,A b→b<h.size) (l:Fr n a m) (o:BU m X=some p) (k0:K4 A S h r p x) (q:Ie P t r.sz r.ag=true) (s:r.ag=false→r.sz=1) (hd:Nat.blt d n.1=true)
  (k:∀v a,Fr n a ((d,v)::m)→Rd S h r v x→wpQuiet P ops C Q rest a):wpQuiet P ops C Q (⟨some d,.load t X,ty,pos,af,none⟩::rest) a:=by
 obtain⟨cs,u,g⟩:=k0;exact Xx i j l o u (r.len g) q s hd λw c=>k _ w c ⟨cs,rfl,g⟩
def bY {x}(g:CK C h) (i:∀b,A b→b<h.size) (j:Fr n a m) (l:BU m X=some p) (k0:K4 A S h AB p x) (o:Ie P t 1 false=true) (hd:Nat.blt d n.1=true)
  (k:∀a,Fr n a ((d,.int .i64 x)::m)→AA x→wpQuiet P ops C Q rest a):wpQuiet P ops C Q (⟨some d,.load t X,ty,pos,af,none⟩::rest) a:=
 Ur g i j l k0 o (λ_=>rfl) hd λv q c s=>by obtain⟨rfl,u⟩:=s.int;exact k q c u
def bZ {x}(g:CK C h) (i:∀b,A b→b<h.size) (j:Fr n a m) (l:BU m X=some p) (k0:K4 A S h BB.bool p x) (o:Ie P t 1 false=true) (hd:Nat.blt d n.1=true)
  (k:∀a,Fr n a ((d,.bool x)::m)→wpQuiet P ops C Q rest a):wpQuiet P ops C Q (⟨some d,.load t X,ty,pos,af,none⟩::rest) a:=
 Ur g i j l k0 o (λ_=>rfl) hd λv q c s=>by obtain rfl:=s.bool;exact k q c
def bV {x}(g:CK C h) (i:∀b,A b→b<h.size) (j:Fr n a m) (l:BU m X=some p) (k0:K4 A S h BB.str p x) (o:Ie P t 1 false=true) (hd:Nat.blt d n.1=true)
  (k:∀a,Fr n a ((d,.string x)::m)→x.size≤maxLen→wpQuiet P ops C Q rest a):wpQuiet P ops C Q (⟨some d,.load t X,ty,pos,af,none⟩::rest) a:=
 Ur g i j l k0 o (λ_=>rfl) hd λv q c s=>by obtain⟨rfl,u⟩:=s.str;exact k q c u
def bX {α}{r:BB α}{x}(g:CK C h) (i:∀b,A b→b<h.size) (j:Fr n a m) (l:BU m X=some p) (k0:K4 A S h r.sl p x) (o:Ie P t 1 false=true) (hd:Nat.blt d n.1=true)
  (k:∀v a,Fr n a ((d,v)::m)→Sl S h r v x→wpQuiet P ops C Q rest a):wpQuiet P ops C Q (⟨some d,.load t X,ty,pos,af,none⟩::rest) a:=
 Ur g i j l k0 o (λ_=>rfl) hd λv q c s=>k v q c s.sl
def eX {α β}{r:BB α}{r':BB β}{f:α→β}{j off x}(c:Fr n a m) (g:BU m X=some p) (k0:K4 A S h r p x) (fl:Co r off r' f) (i:U6 P t j off=true) (hd:Nat.blt d n.1=true)
  (k:∀q a,Fr n a ((d,q)::m)→K4 A S h r' q (f x)→wpQuiet P ops C Q rest a):wpQuiet P ops C Q (⟨some d,.fieldAddr t X j,ty,pos,af,none⟩::rest) a:=by
 obtain⟨s,rfl,l⟩:=k0.fld fl;exact Cu c hd (λw _=>by simp [execOp,c.eval g,Km i]) λo b=>k _ o b l
def cC {b o j off}(g:Fr n a m) (i:BU m X=some (.pointer (some ⟨b,o,none⟩))) (l:U6 P t j off=true) (hd:Nat.blt d n.1=true)
  (k:∀a,Fr n a ((d,.pointer (some ⟨b,o+off,none⟩))::m)→wpQuiet P ops C Q rest a):wpQuiet P ops C Q (⟨some d,.fieldAddr t X j,ty,pos,af,none⟩::rest) a:=by
 have c:(⟨b,o,none⟩:Addr).add off=⟨b,o+off,none⟩:=by unfold Addr.add;split<;>simp_all
 exact Cu g hd (λw _=>by simp [execOp,g.eval i,Km l,c]) k
def Sl.at_ {α}{r:BB α}{v:Value}{l:List α}(k0:Sl S h r v l) {i:Nat}{x:α}(d:l[i]? =some x):
  ∃(a:Addr) (cap:Nat),v= .slice (some a) l.length cap∧Pt S h r (.pointer (some (a.add (i*r.sz)))) x:=by
 rcases k0 with ⟨rfl,rfl⟩|⟨a,cap,h1,h4,h5,h6⟩
 ·simp at d
 ·refine⟨a,cap,h1,?_⟩;obtain⟨g,this⟩:=h6 i x d;obtain⟨b,o,s⟩:=a;simp only at g;subst g;have c:(⟨b,o,none⟩:Addr).add (i*r.sz)=⟨b,o+i*r.sz,none⟩:=by unfold Addr.add;split<;>simp_all
  rw[c];exact this
def eU {α}{r:BB α}{l:List α}{e i x Y v}(b:Fr n a m) (j:BU m X=some v) (o:BU m Y=some (.int .i64 i)) (k0:Sl S h r v l) (p:N5 P t e r.sz=true) (h0:0≤i) (g:l[i.toNat]? =some x) (hd:Nat.blt d n.1=true)
  (k:∀q a,Fr n a ((d,q)::m)→Pt S h r q x→wpQuiet P ops C Q rest a):wpQuiet P ops C Q (⟨some d,.indexAddr t X Y,ty,pos,af,none⟩::rest) a:=by
 obtain⟨s,cap,rfl,u⟩:=k0.at_ g;have y:i.toNat<l.length:=(hJ.1 g).1;exact Cu b hd (λw _=>by simp [execOp,b.eval j,b.eval o,Lm (P:=P) (w:=w) (cap:=cap) (a:=s) p h0 y]) λz c=>k _ z c u
def bU {α}{r:BB α}{l:List α}{v aty e}(c:Fr n a m) (g:BU m X=some v) (k0:Sl S h r v l) (j:N5 P t e r.sz=true) (hd:Nat.blt d n.1=true)
  (k:∀a,Fr n a ((d,.int .i64 l.length)::m)→l.length≤maxLen→wpQuiet P ops C Q rest a):wpQuiet P ops C Q (⟨some d,.call ⟨.builtin .len,#[X],#[t]⟩,aty,pos,af,none⟩::rest) a:=by
 obtain⟨s,cap,rfl,o⟩:=k0.len;obtain⟨i,p,_⟩:=LH j;exact Cu c hd (λw _=>by simp [execOp,resolve,invoke,builtin,Builtin.len_,c.eval g,run_underlying p,goInt]) λq b=>k q b o
def Yk {ad len cap aty e sz}(b:Fr n a m) (c:BU m X=some (.slice ad len cap)) (g:N5 P t e sz=true) (hd:Nat.blt d n.1=true)
  (k:∀a,Fr n a ((d,.int .i64 len)::m)→wpQuiet P ops C Q rest a):wpQuiet P ops C Q (⟨some d,.call ⟨.builtin .len,#[X],#[t]⟩,aty,pos,af,none⟩::rest) a:=by
 obtain⟨i,j,_⟩:=LH g;exact Cu b hd (λw _=>by simp [execOp,resolve,invoke,builtin,Builtin.len_,b.eval c,run_underlying j,goInt]) k
end loads
def bR {X Y t1 t2 x y aty kd}(b:Fr n a m) (c:BU m X=some (.int kd x)) (g:BU m Y=some (.int kd y)) (hd:Nat.blt d n.1=true)
  (k:∀a,Fr n a ((d,.int kd (max x y))::m)→wpQuiet P ops C Q rest a):wpQuiet P ops C Q (⟨some d,.call ⟨.builtin .max,#[X,Y],#[t1,t2]⟩,aty,pos,af,none⟩::rest) a:=
 Cu b hd (λw _=>by
  have:(if y>x then y else x)=max x y:=by rw[Int.max_def];split<;>split<;>omega
  simp [execOp,resolve,invoke,builtin,Builtin.max_,Builtin.max2,b.eval c,b.eval g,this]) k
def bQ {X Y t1 t2 x y aty kd}(b:Fr n a m) (c:BU m X=some (.int kd x)) (g:BU m Y=some (.int kd y)) (hd:Nat.blt d n.1=true)
  (k:∀a,Fr n a ((d,.int kd (min x y))::m)→wpQuiet P ops C Q rest a):wpQuiet P ops C Q (⟨some d,.call ⟨.builtin .min,#[X,Y],#[t1,t2]⟩,aty,pos,af,none⟩::rest) a:=
 Cu b hd (λw _=>by
  have:(if y<x then y else x)=min x y:=by rw[Int.min_def];split<;>split<;>omega
  simp [execOp,resolve,invoke,builtin,Builtin.min_,Builtin.min2,b.eval c,b.eval g,this]) k
end
end Go.Proofs.YtedgiljmffngoaaGreat
