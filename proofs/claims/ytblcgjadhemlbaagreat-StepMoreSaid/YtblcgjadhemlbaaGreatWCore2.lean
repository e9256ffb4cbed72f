import Derived.Test.YtblcgjadhemlbaaGreatWCore1
namespace Go.Proofs.YtblcgjadhemlbaaGreat
set_option linter.all false
open Go.RowKit
abbrev Bw (n:Int):Int:=IntKind.i64.wrap n
def QV {n:Int}(h:AH n):Bw n=n:=IntWalk.i64_in n h
def B5 (n:Int):AH (Bw n):=by
 unfold Bw AH;rw[IntKind.wrap_i64];omega
def QH (x y:Int):(x==y)=decide (x=y):=by rw[Bool.eq_iff_iff];simp
def bK:TypeDesc→Bool
 | .struct _| .array _ _=>true
 |_=>false
def JF (P:Program) (t:TypeId) (sz:Nat) (ag:Bool):Bool:=
 match P.info? t,P.underlying t with
 |some i,some d=>Nat.beq i.size sz&&(match d with| .struct _| .array _ _=>ag|_=> !ag)
 |_,_=>false
def LJ (P:Program) (t e sz:Nat):Bool:=
 match P.underlying t,P.info? e with
 |some (.slice a),some i=>Nat.beq a e&&Nat.beq i.size sz&& !Nat.beq sz 0
 |_,_=>false
def Gf (P:Program) (t j off:Nat):Bool:=
 match P.underlying t with
 |some (.struct a)=>match a[j]? with
  |some f=>Nat.beq f.offset off&&(match P.info? f.type with|some i=> !Nat.beq i.size 0|none=>false)
  |none=>false
 |_=>false
def Oa {P t sz ag}(h:JF P t sz ag=true):∃i d,P.info? t=some i∧P.underlying t=some d∧i.size=sz∧bK d=ag:=by
 unfold JF at h
 split at h
 ·rename_i i d a hd
  simp only[qT] at h
  refine⟨i,d,a,hd,rA h.1,?_⟩
  have b:=h.2
  cases d<;>cases ag<;>simp_all [bK]
 ·cases h
def MH {P t e sz}(h:LJ P t e sz=true):∃i,P.underlying t=some (.slice e)∧P.info? e=some i∧i.size=sz∧0<sz:=by
 unfold LJ at h
 split at h
 ·rename_i k i d g
  simp only[qT,rP] at h
  obtain⟨⟨a,b⟩,c⟩:=h
  have j:=rA a
  subst j
  refine⟨i,d,g,rA b,?_⟩
  cases sz with
  |zero=>simp at c
  |succ n=>exact Nat.succ_pos _
 ·cases h
def ZO {P t j off}(h:Gf P t j off=true):∃a f i,P.underlying t=some (.struct a)∧a[j]? =some f∧f.offset=off∧P.info? f.type=some i∧i.size≠0:=by
 unfold Gf at h
 split at h
 ·rename_i a c
  split at h
  ·rename_i f d
   simp only[qT] at h
   have b:=h.2
   split at b
   ·rename_i i g
    refine⟨a,f,i,c,d,rA h.1,g,λh0=>?_⟩
    rw[h0] at b;simp at b
   ·cases b
  ·cases h
 ·cases h
section
variable {P:Program}{w:World}
def PL {t:TypeId}{i:TypeInfo}(h:P.info? t=some i):(sizeOf t).run P w= .ok i.size w:=by simp [sizeOf,typeInfo,h]
def Ru {t d}(h:P.underlying t=some d):(isAgg t).run P w= .ok (bK d) w:=by
 simp only[isAgg,Sem.run_bind,run_underlying h,Result.andThen_ok]
 cases d<;>rfl
def Mc {S:Nat→Prop}{p:Value}{cs:List Value}{t sz:Nat}{ag:Bool}(k:RN S w.heap p cs) (g:cs.length=sz) (y:JF P t sz ag=true) (z:ag=false→sz=1):
  (Instr.loadAt t p).run P w= .ok (if ag then .agg cs.toArray else cs.headD undef) w:=by
 obtain⟨a,rfl,u,D,A⟩:=k
 obtain⟨i,d,B,hd,C,n⟩:=Oa y
 have I5:∀j,j<cs.length→w.cell? (a.add j)=cs[j]? :=λj m=>by
  have:=A j m
  obtain⟨b,o,s⟩:=a
  simp only at u
  subst u
  have l:(⟨b,o,none⟩:Addr).add j=⟨b,o+j,none⟩:=by unfold Addr.add;split<;>simp_all
  rw[l,Kv];exact this
 simp only[Instr.loadAt,Instr.sureAddr,loadVar,Sem.run_bind,Sem.run_pure,Result.andThen_ok,Ru hd,n]
 cases ag with
 |true=>
  simp only[if_true,Sem.run_bind,PL B,Result.andThen_ok,C,←g]
  rw[run_loadCells_list (P:=P) w a cs (λj v m=>by
   have q:j<cs.length:=(rB.1 m).1
   rw[I5 j q,m])]
  rfl
 |false=>
  have:=z rfl
  have x:=I5 0 (by omega)
  match cs,g with
  |[c],_=>
   have h0:a.add 0=a:=by unfold Addr.add;simp
   rw[h0] at x
   simp only[tW,if_false,load,Sem.run,x]
   rfl
  |[],g=>simp at g;omega
  |_::_::_,g=>simp at g;omega
def NA {a:Addr}{t j off}(h:Gf P t j off=true):(Instr.fieldAt t (.pointer (some a)) j).run P w= .ok (.pointer (some (a.add off))) w:=by
 obtain⟨l,f,i,b,c,d,g,k⟩:=ZO h
 simp [Instr.fieldAt,run_underlying b,c,Instr.sureAddr,fieldPlace,PL g,k,d]
def Ls {a:Addr}{t e sz len cap:Nat}{i:Int}(h:LJ P t e sz=true) (h0:0≤i) (k:i.toNat<len):
  (Instr.indexAt t (.slice (some a) len cap) (.int .i64 i)).run P w= .ok (.pointer (some (a.add (i.toNat*sz)))) w:=by
 obtain⟨c,d,g,j,l⟩:=MH h
 have b:i<(len:Int):=by omega
 simp [Instr.indexAt,asIntOf,run_underlying d,PL g,h0,b,j]
end
def CK (C:World→Prop) (h:BM):Prop:=∀w,C w→∀b,b<h.size→w.heap[b]? =h[b]?
def Bu {B:World}{h}:CK (Wd B h) h:=λw a _ _=>by rw[a.heap]
structure GD (h h':BM):Prop where
 siz:h.size≤h'.size
 same:∀b,b<h.size→h'[b]? =h[b]?
def GD.refl (h:BM):GD h h:=⟨qX _,λ_ _=>rfl⟩
def GD.trans {h h' h''}(x:GD h h') (y:GD h' h''):GD h h'':=⟨sP x.siz y.siz,λb a=>(y.same b (qZ a x.siz)).trans (x.same b a)⟩
def GD.ext {S h h'}(o:GD h h') (a:∀b,S b→b<h.size):C9 S h S h':=⟨λ_ x=>x,λb c=>o.same b (a b c),o.siz⟩
def GD.all {S h h'}(o:GD h h') (a:∀b,S b→b<h.size):C9 S h (λb=>b<h'.size) h':=⟨λb x=>qZ (a b x) o.siz,λb c=>o.same b (a b c),o.siz⟩
def GD.st {S L h h'}(o:GD h h') (c:St S L h):St S L h':=
 ⟨λb a=>qZ (c.1 b a) o.siz,Sp.ext c.2 (λ_ x=>x) (λb a=>o.same b (a.elim (c.1 b) (·.1))) λ_ a=>⟨qZ a.1 o.siz,a.2⟩⟩
def Cl (B:World) (h:BM) (w:World):Prop:=∃h',Wd B h' w∧GD h h'
def CQ {B:World}{h}:CK (Cl B h) h:=λ_ ⟨_,a,o⟩ b c=>by rw[a.heap];exact o.same b c
section
variable {P:Program}{ops:Array Oper}{C:World→Prop}{Q:Act→Prop}{n:FN}{a:Act}{m:List (Nat×Value)}{rest:List Oper}
variable {d:Nat}{ty:TypeId}{pos:String}{af:Array Edge}
def Ge {c:Op}{v:Value}(g:Fr n a m) (hd:Nat.blt d n.1=true)
  (b:∀w,C w→(execOp a.eval ⟨some d,c,ty,pos,af,none⟩).run P w= .ok (.value v) w)
  (k:∀a,Fr n a ((d,v)::m)→wpQuiet P ops C Q rest a):wpQuiet P ops C Q (⟨some d,c,ty,pos,af,none⟩::rest) a:=by
 unfold wpQuiet
 rw[qR (by simp [Region.wanted])]
 exact⟨v,λw i=>by unfold Oper.quietAt;rw[b w i];exact⟨rfl,rfl⟩,k _ (g.put hd v)⟩
def pA {o:Oper}{j e:Nat}{b:Bool}(c:Fr n a m) (d:o.guard=some (j,b)) (g:(ops[j]?).bind (·.dst)=some e) (i:lk m e=some (.bool b))
  (k:wpQuiet P ops C Q ({ o with guard:=none}::rest) a):wpQuiet P ops C Q (o::rest) a:=by
 have l:Region.wanted o (yielded ops a.tmps)=true:=by
  have:=c.at_ e _ i
  simp [Region.wanted,d,yielded,g,this]
 unfold wpQuiet at k ⊢
 rw[qR l]
 rw[qR (by simp [Region.wanted])] at k
 exact k
def pB {o:Oper}{j e:Nat}{b:Bool}(c:Fr n a m) (g:o.guard=some (j,!b)) (i:(ops[j]?).bind (·.dst)=some e) (l:lk m e=some (.bool b)) (p:o.dst=some d) (hd:Nat.blt d n.1=true)
  (k:∀a,Fr n a ((d,undef)::m)→wpQuiet P ops C Q rest a):wpQuiet P ops C Q (o::rest) a:=by
 have q:Region.wanted o (yielded ops a.tmps)=false:=by
  have:=c.at_ e _ l
  cases b<;>simp [Region.wanted,g,yielded,i,this]
 unfold wpQuiet
 rw[qP (by rw[q];exact Bool.false_ne_true),p]
 exact k _ (c.put hd _)
def V8 (k:Nat) (I:Act→Prop) {l:List Oper}(b:wpQuiet P ops C I (l.take k) a) (c:∀g,I g→wpQuiet P ops C Q (l.drop k) g):wpQuiet P ops C Q l a:=by
 induction k generalizing l a with
 |zero=>exact c a (by simpa [wpQuiet] using b)
 |succ k i=>
  cases l with
  |nil=>exact c a (by simpa [wpQuiet] using b)
  |cons o l=>
   simp only[List.take_succ_cons,List.drop_succ_cons] at b c
   unfold wpQuiet at b ⊢
   split
   ·rename_i d
    rw[qR d] at b
    obtain⟨v,j,m⟩:=b
    exact⟨v,j,i m c⟩
   ·rename_i d
    rw[qP d] at b
    exact i b c
def oY {X v}(b:Fr n a m) (c:Ca m X=some v) (hd:Nat.blt d n.1=true)
  (k:∀a,Fr n a ((d,v)::m)→wpQuiet P ops C Q rest a):wpQuiet P ops C Q (⟨some d,.move X,ty,pos,af,none⟩::rest) a:=
 Ge b hd (λw _=>by simp [execOp,b.eval c]) k
def pD {X v}(b:Fr n a m) (c:Ca m X=some v) (hd:Nat.blt d n.1=true)
  (k:∀a,Fr n a ((d,v)::m)→wpQuiet P ops C Q rest a):wpQuiet P ops C Q (⟨some d,.assign X,ty,pos,af,none⟩::rest) a:=
 Ge b hd (λw _=>by simp [execOp,b.eval c]) k
def fC {c x y:Operand}{b:Bool}{v}(g:Fr n a m) (i:Ca m c=some (.bool b)) (j:Ca m (if b then x else y)=some v) (hd:Nat.blt d n.1=true)
  (k:∀a,Fr n a ((d,v)::m)→wpQuiet P ops C Q rest a):wpQuiet P ops C Q (⟨some d,.pick c x y,ty,pos,af,none⟩::rest) a:=
 Ge g hd (λw _=>by cases b<;>simp [execOp,g.eval i,asBool]<;>exact g.eval (by simpa using j)) k
section ints
variable {X Y:Operand}{t1 t2:TypeId}{x y:Int}{kd:IntKind}
def Mp {b:BinOp}{v:Value}(c:Fr n a m) (g:Ca m X=some (.int kd x)) (i:Ca m Y=some (.int kd y)) (hd:Nat.blt d n.1=true)
  (j:∀w,(binOp b t1 (.int kd x) (.int kd y)).run P w= .ok v w)
  (k:∀a,Fr n a ((d,v)::m)→wpQuiet P ops C Q rest a):wpQuiet P ops C Q (⟨some d,.binOp b t1 X Y t2,ty,pos,af,none⟩::rest) a:=by
 refine Ge c hd (λw _=>?_) k
 have l:(eqGuard b t1 X Y (.int kd x) (.int kd y)).run P w= .ok () w:=by
  unfold eqGuard;cases b<;>simp
 simp [execOp,c.eval g,c.eval i,l,j]
def kU (b:Fr n a m) (c:Ca m X=some (.int .i64 x)) (g:Ca m Y=some (.int .i64 y)) (hd:Nat.blt d n.1=true) (i:AH (x+y))
  (k:∀a,Fr n a ((d,.int .i64 (x+y))::m)→wpQuiet P ops C Q rest a):wpQuiet P ops C Q (⟨some d,.binOp .add t1 X Y t2,ty,pos,af,none⟩::rest) a:=
 Mp b c g hd (λw=>by have:=QV i;simp only[Bw] at this;simp [binOp,Op.intArith,this]) k
def kD (b:Fr n a m) (c:Ca m X=some (.int .i64 x)) (g:Ca m Y=some (.int .i64 y)) (hd:Nat.blt d n.1=true) (i:AH (x*y))
  (k:∀a,Fr n a ((d,.int .i64 (x*y))::m)→wpQuiet P ops C Q rest a):wpQuiet P ops C Q (⟨some d,.binOp .mul t1 X Y t2,ty,pos,af,none⟩::rest) a:=
 Mp b c g hd (λw=>by have:=QV i;simp only[Bw] at this;simp [binOp,Op.intArith,this]) k
def fH (b:Fr n a m) (c:Ca m X=some (.int .i64 x)) (g:Ca m Y=some (.int .i64 y)) (hd:Nat.blt d n.1=true)
  (k:∀a,Fr n a ((d,.int .i64 (Bw (x+y)))::m)→wpQuiet P ops C Q rest a):wpQuiet P ops C Q (⟨some d,.binOp .add t1 X Y t2,ty,pos,af,none⟩::rest) a:=
 Mp b c g hd (λw=>by simp [binOp,Op.intArith]) k
def fB (b:Fr n a m) (c:Ca m X=some (.int .i64 x)) (g:Ca m Y=some (.int .i64 y)) (hd:Nat.blt d n.1=true)
  (k:∀a,Fr n a ((d,.int .i64 (Bw (x-y)))::m)→wpQuiet P ops C Q rest a):wpQuiet P ops C Q (⟨some d,.binOp .sub t1 X Y t2,ty,pos,af,none⟩::rest) a:=
 Mp b c g hd (λw=>by simp [binOp,Op.intArith]) k
def fE (b:Fr n a m) (c:Ca m X=some (.int .i64 x)) (g:Ca m Y=some (.int .i64 y)) (hd:Nat.blt d n.1=true)
  (k:∀a,Fr n a ((d,.int .i64 (Bw (x*y)))::m)→wpQuiet P ops C Q rest a):wpQuiet P ops C Q (⟨some d,.binOp .mul t1 X Y t2,ty,pos,af,none⟩::rest) a:=
 Mp b c g hd (λw=>by simp [binOp,Op.intArith]) k
def kG (b:Fr n a m) (c:Ca m X=some (.int kd x)) (g:Ca m Y=some (.int kd y)) (hd:Nat.blt d n.1=true)
  (k:∀a,Fr n a ((d,.bool (decide (x<y)))::m)→wpQuiet P ops C Q rest a):wpQuiet P ops C Q (⟨some d,.binOp .lss t1 X Y t2,ty,pos,af,none⟩::rest) a:=
 Mp b c g hd (λw=>by simp [binOp,Op.intCmp]) k
def kH (b:Fr n a m) (c:Ca m X=some (.int kd x)) (g:Ca m Y=some (.int kd y)) (hd:Nat.blt d n.1=true)
  (k:∀a,Fr n a ((d,.bool (decide (x≤y)))::m)→wpQuiet P ops C Q rest a):wpQuiet P ops C Q (⟨some d,.binOp .leq t1 X Y t2,ty,pos,af,none⟩::rest) a:=
 Mp b c g hd (λw=>by simp [binOp,Op.intCmp]) k
def kP (b:Fr n a m) (c:Ca m X=some (.int kd x)) (g:Ca m Y=some (.int kd y)) (hd:Nat.blt d n.1=true)
  (k:∀a,Fr n a ((d,.bool (decide (y<x)))::m)→wpQuiet P ops C Q rest a):wpQuiet P ops C Q (⟨some d,.binOp .gtr t1 X Y t2,ty,pos,af,none⟩::rest) a:=
 Mp b c g hd (λw=>by simp [binOp,Op.intCmp]) k
def kQ (b:Fr n a m) (c:Ca m X=some (.int kd x)) (g:Ca m Y=some (.int kd y)) (hd:Nat.blt d n.1=true)
  (k:∀a,Fr n a ((d,.bool (decide (y≤x)))::m)→wpQuiet P ops C Q rest a):wpQuiet P ops C Q (⟨some d,.binOp .geq t1 X Y t2,ty,pos,af,none⟩::rest) a:=
 Mp b c g hd (λw=>by simp [binOp,Op.intCmp]) k
def kS (b:Fr n a m) (c:Ca m X=some (.int kd x)) (g:Ca m Y=some (.int kd y)) (hd:Nat.blt d n.1=true)
  (k:∀a,Fr n a ((d,.bool (decide (x=y)))::m)→wpQuiet P ops C Q rest a):wpQuiet P ops C Q (⟨some d,.binOp .eql t1 X Y t2,ty,pos,af,none⟩::rest) a:=
 Mp b c g hd (λw=>by simp [binOp,Op.intCmp,QH]) k
def kC (b:Fr n a m) (c:Ca m X=some (.int kd x)) (g:Ca m Y=some (.int kd y)) (hd:Nat.blt d n.1=true)
  (k:∀a,Fr n a ((d,.bool (decide (x≠y)))::m)→wpQuiet P ops C Q rest a):wpQuiet P ops C Q (⟨some d,.binOp .neq t1 X Y t2,ty,pos,af,none⟩::rest) a:=
 Mp b c g hd (λw=>by simp [binOp,Op.intCmp,bne,QH]) k
end ints
def kA {X t1 b}(c:Fr n a m) (g:Ca m X=some (.bool b)) (hd:Nat.blt d n.1=true)
  (k:∀a,Fr n a ((d,.bool (!b))::m)→wpQuiet P ops C Q rest a):wpQuiet P ops C Q (⟨some d,.unOp .not t1 X,ty,pos,af,none⟩::rest) a:=
 Ge c hd (λw _=>by simp [execOp,c.eval g,Op.unary]) k
def fD {X t1 x}(b:Fr n a m) (c:Ca m X=some (.int .i64 x)) (hd:Nat.blt d n.1=true)
  (k:∀a,Fr n a ((d,.int .i64 (Bw (0-x)))::m)→wpQuiet P ops C Q rest a):wpQuiet P ops C Q (⟨some d,.unOp .neg t1 X,ty,pos,af,none⟩::rest) a:=
 Ge b hd (λw _=>by simp [execOp,b.eval c,Op.unary,Op.intArith]) k
section loads
variable {A S:Nat→Prop}{L:List HP}{h:BM}{X:Operand}{p:Value}{t:TypeId}
def kN {cs:List Value}{sz:Nat}{ag:Bool}(g:CK C h) (i:∀b,A b→b<h.size) (c:Fr n a m) (j:Ca m X=some p) (k0:RN A h p cs) (l:cs.length=sz) (o:JF P t sz ag=true) (q:ag=false→sz=1) (hd:Nat.blt d n.1=true)
  (k:∀a,Fr n a ((d,if ag then .agg cs.toArray else cs.headD undef)::m)→wpQuiet P ops C Q rest a):wpQuiet P ops C Q (⟨some d,.load t X,ty,pos,af,none⟩::rest) a:=by
 refine Ge c hd (λw s=>?_) k
 have:=Mc (P:=P) (w:=w) (k0.mono (λ_ x=>x) λb u=>g w s b (i b u)) l o q
 simp [execOp,c.eval j,this]
def YY {α}{r:BZ α}{x}(i:CK C h) (j:∀b,A b→b<h.size) (l:Fr n a m) (o:Ca m X=some p) (k0:OV A S h r p x) (q:JF P t r.sz r.ag=true) (s:r.ag=false→r.sz=1) (hd:Nat.blt d n.1=true)
  (k:∀v a,Fr n a ((d,v)::m)→Rd S h r v x→wpQuiet P ops C Q rest a):wpQuiet P ops C Q (⟨some d,.load t X,ty,pos,af,none⟩::rest) a:=by
 obtain⟨cs,u,g⟩:=k0
 exact kN i j l o u (r.len g) q s hd λw c=>k _ w c ⟨cs,rfl,g⟩
def kM {x}(g:CK C h) (i:∀b,A b→b<h.size) (j:Fr n a m) (l:Ca m X=some p) (k0:OV A S h AJ p x) (o:JF P t 1 false=true) (hd:Nat.blt d n.1=true)
  (k:∀a,Fr n a ((d,.int .i64 x)::m)→AH x→wpQuiet P ops C Q rest a):wpQuiet P ops C Q (⟨some d,.load t X,ty,pos,af,none⟩::rest) a:=
 YY g i j l k0 o (λ_=>rfl) hd λv q c s=>by obtain⟨rfl,u⟩:=s.int;exact k q c u
def kO {x}(g:CK C h) (i:∀b,A b→b<h.size) (j:Fr n a m) (l:Ca m X=some p) (k0:OV A S h BZ.bool p x) (o:JF P t 1 false=true) (hd:Nat.blt d n.1=true)
  (k:∀a,Fr n a ((d,.bool x)::m)→wpQuiet P ops C Q rest a):wpQuiet P ops C Q (⟨some d,.load t X,ty,pos,af,none⟩::rest) a:=
 YY g i j l k0 o (λ_=>rfl) hd λv q c s=>by obtain rfl:=s.bool;exact k q c
def kJ {x}(g:CK C h) (i:∀b,A b→b<h.size) (j:Fr n a m) (l:Ca m X=some p) (k0:OV A S h BZ.str p x) (o:JF P t 1 false=true) (hd:Nat.blt d n.1=true)
  (k:∀a,Fr n a ((d,.string x)::m)→x.size≤maxLen→wpQuiet P ops C Q rest a):wpQuiet P ops C Q (⟨some d,.load t X,ty,pos,af,none⟩::rest) a:=
 YY g i j l k0 o (λ_=>rfl) hd λv q c s=>by obtain⟨rfl,u⟩:=s.str;exact k q c u
def kL {α}{r:BZ α}{x}(g:CK C h) (i:∀b,A b→b<h.size) (j:Fr n a m) (l:Ca m X=some p) (k0:OV A S h r.sl p x) (o:JF P t 1 false=true) (hd:Nat.blt d n.1=true)
  (k:∀v a,Fr n a ((d,v)::m)→Sl S h r v x→wpQuiet P ops C Q rest a):wpQuiet P ops C Q (⟨some d,.load t X,ty,pos,af,none⟩::rest) a:=
 YY g i j l k0 o (λ_=>rfl) hd λv q c s=>k v q c s.sl
def pC {α β}{r:BZ α}{r':BZ β}{f:α→β}{j off x}(c:Fr n a m) (g:Ca m X=some p) (k0:OV A S h r p x) (i:GO r off r' f) (l:Gf P t j off=true) (hd:Nat.blt d n.1=true)
  (k:∀q a,Fr n a ((d,q)::m)→OV A S h r' q (f x)→wpQuiet P ops C Q rest a):wpQuiet P ops C Q (⟨some d,.fieldAddr t X j,ty,pos,af,none⟩::rest) a:=by
 obtain⟨u,rfl,o⟩:=k0.fld i
 exact Ge c hd (λw _=>by simp [execOp,c.eval g,NA l]) λs b=>k _ s b o
def kR {b o j off}(g:Fr n a m) (i:Ca m X=some (.pointer (some ⟨b,o,none⟩))) (l:Gf P t j off=true) (hd:Nat.blt d n.1=true)
  (k:∀a,Fr n a ((d,.pointer (some ⟨b,o+off,none⟩))::m)→wpQuiet P ops C Q rest a):wpQuiet P ops C Q (⟨some d,.fieldAddr t X j,ty,pos,af,none⟩::rest) a:=by
 have c:(⟨b,o,none⟩:Addr).add off=⟨b,o+off,none⟩:=by unfold Addr.add;split<;>simp_all
 exact Ge g hd (λw _=>by simp [execOp,g.eval i,NA l,c]) k
def Sl.at_ {α}{r:BZ α}{v:Value}{l:List α}(k0:Sl S h r v l) {i:Nat}{x:α}(d:l[i]? =some x):
  ∃(a:Addr) (cap:Nat),v= .slice (some a) l.length cap∧Pt S h r (.pointer (some (a.add (i*r.sz)))) x:=by
 rcases k0 with ⟨rfl,rfl⟩|⟨a,cap,h1,h4,h5,h6⟩
 ·simp at d
 ·refine⟨a,cap,h1,?_⟩
  obtain⟨g,this⟩:=h6 i x d
  obtain⟨b,o,s⟩:=a
  simp only at g;subst g
  have c:(⟨b,o,none⟩:Addr).add (i*r.sz)=⟨b,o+i*r.sz,none⟩:=by unfold Addr.add;split<;>simp_all
  rw[c];exact this
def oZ {α}{r:BZ α}{l:List α}{e i x Y v}(b:Fr n a m) (j:Ca m X=some v) (o:Ca m Y=some (.int .i64 i)) (k0:Sl S h r v l) (p:LJ P t e r.sz=true) (h0:0≤i) (g:l[i.toNat]? =some x) (hd:Nat.blt d n.1=true)
  (k:∀q a,Fr n a ((d,q)::m)→Pt S h r q x→wpQuiet P ops C Q rest a):wpQuiet P ops C Q (⟨some d,.indexAddr t X Y,ty,pos,af,none⟩::rest) a:=by
 obtain⟨s,cap,rfl,u⟩:=k0.at_ g
 have y:i.toNat<l.length:=(rB.1 g).1
 exact Ge b hd (λw _=>by simp [execOp,b.eval j,b.eval o,Ls (P:=P) (w:=w) (cap:=cap) (a:=s) p h0 y]) λz c=>k _ z c u
def kI {α}{r:BZ α}{l:List α}{v aty e}(c:Fr n a m) (g:Ca m X=some v) (k0:Sl S h r v l) (j:LJ P t e r.sz=true) (hd:Nat.blt d n.1=true)
  (k:∀a,Fr n a ((d,.int .i64 l.length)::m)→l.length≤maxLen→wpQuiet P ops C Q rest a):wpQuiet P ops C Q (⟨some d,.call ⟨.builtin .len,#[X],#[t]⟩,aty,pos,af,none⟩::rest) a:=by
 obtain⟨s,cap,rfl,o⟩:=k0.len
 obtain⟨i,p,_⟩:=MH j
 exact Ge c hd (λw _=>by simp [execOp,resolve,invoke,builtin,Builtin.len_,c.eval g,run_underlying p,goInt]) λq b=>k q b o
def fF {ad len cap aty e sz}(b:Fr n a m) (c:Ca m X=some (.slice ad len cap)) (g:LJ P t e sz=true) (hd:Nat.blt d n.1=true)
  (k:∀a,Fr n a ((d,.int .i64 len)::m)→wpQuiet P ops C Q rest a):wpQuiet P ops C Q (⟨some d,.call ⟨.builtin .len,#[X],#[t]⟩,aty,pos,af,none⟩::rest) a:=by
 obtain⟨i,j,_⟩:=MH g
 exact Ge b hd (λw _=>by simp [execOp,resolve,invoke,builtin,Builtin.len_,b.eval c,run_underlying j,goInt]) k
end loads
def kF {X Y t1 t2 x y aty kd}(b:Fr n a m) (c:Ca m X=some (.int kd x)) (g:Ca m Y=some (.int kd y)) (hd:Nat.blt d n.1=true)
  (k:∀a,Fr n a ((d,.int kd (max x y))::m)→wpQuiet P ops C Q rest a):wpQuiet P ops C Q (⟨some d,.call ⟨.builtin .max,#[X,Y],#[t1,t2]⟩,aty,pos,af,none⟩::rest) a:=
 Ge b hd (λw _=>by
  have:(if y>x then y else x)=max x y:=by rw[Int.max_def];split<;>split<;>omega
  simp [execOp,resolve,invoke,builtin,Builtin.max_,Builtin.max2,b.eval c,b.eval g,this]) k
def kE {X Y t1 t2 x y aty kd}(b:Fr n a m) (c:Ca m X=some (.int kd x)) (g:Ca m Y=some (.int kd y)) (hd:Nat.blt d n.1=true)
  (k:∀a,Fr n a ((d,.int kd (min x y))::m)→wpQuiet P ops C Q rest a):wpQuiet P ops C Q (⟨some d,.call ⟨.builtin .min,#[X,Y],#[t1,t2]⟩,aty,pos,af,none⟩::rest) a:=
 Ge b hd (λw _=>by
  have:(if y<x then y else x)=min x y:=by rw[Int.min_def];split<;>split<;>omega
  simp [execOp,resolve,invoke,builtin,Builtin.min_,Builtin.min2,b.eval c,b.eval g,this]) k
end
end Go.Proofs.YtblcgjadhemlbaaGreat
