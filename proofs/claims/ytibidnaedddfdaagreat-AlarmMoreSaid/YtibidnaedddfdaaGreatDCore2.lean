import Derived.Test.YtibidnaedddfdaaGreatDCore1
namespace Go.Proofs.YtibidnaedddfdaaGreat
set_option linter.all false
open Go.RowKit
abbrev B8 (n:Int):Int:=IntKind.i64.wrap n
def My {n:Int}(h:AD n):B8 n=n:=IntWalk.i64_in n h
def CJ (n:Int):AD (B8 n):=by
 unfold B8 AD;rw[IntKind.wrap_i64];omega
def Ov (x y:Int):(x==y)=decide (x=y):=by rw[Bool.eq_iff_iff];simp
def YN:TypeDesc→Bool
 | .struct _| .array _ _=>true
 |_=>false
def Hd (P:Program) (t:TypeId) (sz:Nat) (ag:Bool):Bool:=
 match P.info? t,P.underlying t with
 |some i,some d=>Nat.beq i.size sz&&(match d with| .struct _| .array _ _=>ag|_=> !ag)
 |_,_=>false
def JZ (P:Program) (t e sz:Nat):Bool:=
 match P.underlying t,P.info? e with
 |some (.slice a),some i=>Nat.beq a e&&Nat.beq i.size sz&& !Nat.beq sz 0
 |_,_=>false
def FZ (P:Program) (t j a:Nat):Bool:=
 match P.underlying t with
 |some (.struct b)=>match b[j]? with
  |some f=>Nat.beq f.offset a&&(match P.info? f.type with|some i=> !Nat.beq i.size 0|none=>false)
  |none=>false
 |_=>false
def NN {P t sz ag}(h:Hd P t sz ag=true):∃i d,P.info? t=some i∧P.underlying t=some d∧i.size=sz∧YN d=ag:=by
 unfold Hd at h
 split at h
 ·rename_i i d a hd
  simp only[iQ] at h
  refine⟨i,d,a,hd,iX h.1,?_⟩
  have b:=h.2
  cases d<;>cases ag<;>simp_all [YN]
 ·cases h
def Ki {P t e sz}(h:JZ P t e sz=true):∃i,P.underlying t=some (.slice e)∧P.info? e=some i∧i.size=sz∧0<sz:=by
 unfold JZ at h
 split at h
 ·rename_i k i d g
  simp only[iQ,jI] at h
  obtain⟨⟨a,b⟩,c⟩:=h
  have j:=iX a
  subst j
  refine⟨i,d,g,iX b,?_⟩
  cases sz with
  |zero=>simp at c
  |succ n=>exact Nat.succ_pos _
 ·cases h
def WZ {P t j off}(h:FZ P t j off=true):∃a f i,P.underlying t=some (.struct a)∧a[j]? =some f∧f.offset=off∧P.info? f.type=some i∧i.size≠0:=by
 unfold FZ at h
 split at h
 ·rename_i a c
  split at h
  ·rename_i f d
   simp only[iQ] at h
   have b:=h.2
   split at b
   ·rename_i i g
    refine⟨a,f,i,c,d,iX h.1,g,λh0=>?_⟩
    rw[h0] at b;simp at b
   ·cases b
  ·cases h
 ·cases h
section
variable {P:Program}{w:World}
def OB {t:TypeId}{i:TypeInfo}(h:P.info? t=some i):(sizeOf t).run P w= .ok i.size w:=by simp [sizeOf,typeInfo,h]
def QN {t d}(h:P.underlying t=some d):(isAgg t).run P w= .ok (YN d) w:=by
 simp only[isAgg,Sem.run_bind,run_underlying h,Result.andThen_ok]
 cases d<;>rfl
def K0 {S:Nat→Prop}{p:Value}{cs:List Value}{t sz:Nat}{ag:Bool}(k:Qi S w.heap p cs) (g:cs.length=sz) (y:Hd P t sz ag=true) (z:ag=false→sz=1):
  (Instr.loadAt t p).run P w= .ok (if ag then .agg cs.toArray else cs.headD undef) w:=by
 obtain⟨a,rfl,u,D,A⟩:=k
 obtain⟨i,d,B,hd,C,n⟩:=NN y
 have Gt:∀j,j<cs.length→w.cell? (a.add j)=cs[j]? :=λj m=>by
  have:=A j m
  obtain⟨b,o,s⟩:=a
  simp only at u
  subst u
  have l:(⟨b,o,none⟩:Addr).add j=⟨b,o+j,none⟩:=by unfold Addr.add;split<;>simp_all
  rw[l,Ik];exact this
 simp only[Instr.loadAt,Instr.sureAddr,loadVar,Sem.run_bind,Sem.run_pure,Result.andThen_ok,QN hd,n]
 cases ag with
 |true=>
  simp only[if_true,Sem.run_bind,OB B,Result.andThen_ok,C,←g]
  rw[run_loadCells_list (P:=P) w a cs (λj v m=>by
   have q:j<cs.length:=(jF.1 m).1
   rw[Gt j q,m])]
  rfl
 |false=>
  have:=z rfl
  have x:=Gt 0 (by omega)
  match cs,g with
  |[c],_=>
   have h0:a.add 0=a:=by unfold Addr.add;simp
   rw[h0] at x
   simp only[kW,if_false,load,Sem.run,x]
   rfl
  |[],g=>simp at g;omega
  |_::_::_,g=>simp at g;omega
def Lr {a:Addr}{t j off}(h:FZ P t j off=true):(Instr.fieldAt t (.pointer (some a)) j).run P w= .ok (.pointer (some (a.add off))) w:=by
 obtain⟨l,f,i,b,c,d,g,k⟩:=WZ h
 simp [Instr.fieldAt,run_underlying b,c,Instr.sureAddr,fieldPlace,OB g,k,d]
def Lq {a:Addr}{t e sz len cap:Nat}{i:Int}(h:JZ P t e sz=true) (h0:0≤i) (k:i.toNat<len):
  (Instr.indexAt t (.slice (some a) len cap) (.int .i64 i)).run P w= .ok (.pointer (some (a.add (i.toNat*sz)))) w:=by
 obtain⟨c,d,g,j,l⟩:=Ki h
 have b:i<(len:Int):=by omega
 simp [Instr.indexAt,asIntOf,run_underlying d,OB g,h0,b,j]
end
def CK (C:World→Prop) (h:BB):Prop:=∀w,C w→∀b,b<h.size→w.heap[b]? =h[b]?
def BX {B:World}{h}:CK (Wd B h) h:=λw a _ _=>by rw[a.heap]
structure FW (h h':BB):Prop where
 siz:h.size≤h'.size
 same:∀b,b<h.size→h'[b]? =h[b]?
def FW.refl (h:BB):FW h h:=⟨jB _,λ_ _=>rfl⟩
def FW.trans {h h' h''}(x:FW h h') (y:FW h' h''):FW h h'':=⟨kO x.siz y.siz,λb a=>(y.same b (iY a x.siz)).trans (x.same b a)⟩
def FW.ext {S h h'}(o:FW h h') (a:∀b,S b→b<h.size):Cm S h S h':=⟨λ_ x=>x,λb c=>o.same b (a b c),o.siz⟩
def FW.all {S h h'}(o:FW h h') (a:∀b,S b→b<h.size):Cm S h (λb=>b<h'.size) h':=⟨λb x=>iY (a b x) o.siz,λb c=>o.same b (a b c),o.siz⟩
def FW.st {S L h h'}(o:FW h h') (c:St S L h):St S L h':=
 ⟨λb a=>iY (c.1 b a) o.siz,Sp.ext c.2 (λ_ x=>x) (λb a=>o.same b (a.elim (c.1 b) (·.1))) λ_ a=>⟨iY a.1 o.siz,a.2⟩⟩
def Cl (B:World) (h:BB) (w:World):Prop:=∃h',Wd B h' w∧FW h h'
def Bs {B:World}{h}:CK (Cl B h) h:=λ_ ⟨_,a,o⟩ b c=>by rw[a.heap];exact o.same b c
section
variable {P:Program}{ops:Array Oper}{C:World→Prop}{Q:Act→Prop}{n:FN}{a:Act}{m:List (Nat×Value)}{rest:List Oper}
variable {d:Nat}{ty:TypeId}{pos:String}{af:Array Edge}
def Fo {c:Op}{v:Value}(g:Fr n a m) (hd:Nat.blt d n.1=true)
  (b:∀w,C w→(execOp a.eval ⟨some d,c,ty,pos,af,none⟩).run P w= .ok (.value v) w)
  (k:∀a,Fr n a ((d,v)::m)→wpQuiet P ops C Q rest a):wpQuiet P ops C Q (⟨some d,c,ty,pos,af,none⟩::rest) a:=by
 unfold wpQuiet
 rw[iR (by simp [Region.wanted])]
 exact⟨v,λw i=>by unfold Oper.quietAt;rw[b w i];exact⟨rfl,rfl⟩,k _ (g.put hd v)⟩
def gM {o:Oper}{j e:Nat}{b:Bool}(c:Fr n a m) (d:o.guard=some (j,b)) (g:(ops[j]?).bind (·.dst)=some e) (i:lk m e=some (.bool b))
  (k:wpQuiet P ops C Q ({ o with guard:=none}::rest) a):wpQuiet P ops C Q (o::rest) a:=by
 have l:Region.wanted o (yielded ops a.tmps)=true:=by
  have:=c.at_ e _ i
  simp [Region.wanted,d,yielded,g,this]
 unfold wpQuiet at k ⊢
 rw[iR l]
 rw[iR (by simp [Region.wanted])] at k
 exact k
def gN {o:Oper}{j e:Nat}{b:Bool}(c:Fr n a m) (g:o.guard=some (j,!b)) (i:(ops[j]?).bind (·.dst)=some e) (l:lk m e=some (.bool b)) (p:o.dst=some d) (hd:Nat.blt d n.1=true)
  (k:∀a,Fr n a ((d,undef)::m)→wpQuiet P ops C Q rest a):wpQuiet P ops C Q (o::rest) a:=by
 have q:Region.wanted o (yielded ops a.tmps)=false:=by
  have:=c.at_ e _ l
  cases b<;>simp [Region.wanted,g,yielded,i,this]
 unfold wpQuiet
 rw[iP (by rw[q];exact Bool.false_ne_true),p]
 exact k _ (c.put hd _)
def Tw (k:Nat) (I:Act→Prop) {l:List Oper}(b:wpQuiet P ops C I (l.take k) a) (c:∀g,I g→wpQuiet P ops C Q (l.drop k) g):wpQuiet P ops C Q l a:=by
 induction k generalizing l a with
 |zero=>exact c a (by simpa [wpQuiet] using b)
 |succ k i=>
  cases l with
  |nil=>exact c a (by simpa [wpQuiet] using b)
  |cons o l=>
   simp only[List.take_succ_cons,List.drop_succ_cons] at b c
   unfold wpQuiet at b ⊢
   split
   ·rename_i d
    rw[iR d] at b
    obtain⟨v,j,m⟩:=b
    exact⟨v,j,i m c⟩
   ·rename_i d
    rw[iP d] at b
    exact i b c
def gK {X v}(b:Fr n a m) (c:CE m X=some v) (hd:Nat.blt d n.1=true)
  (k:∀a,Fr n a ((d,v)::m)→wpQuiet P ops C Q rest a):wpQuiet P ops C Q (⟨some d,.move X,ty,pos,af,none⟩::rest) a:=
 Fo b hd (λw _=>by simp [execOp,b.eval c]) k
def gP {X v}(b:Fr n a m) (c:CE m X=some v) (hd:Nat.blt d n.1=true)
  (k:∀a,Fr n a ((d,v)::m)→wpQuiet P ops C Q rest a):wpQuiet P ops C Q (⟨some d,.assign X,ty,pos,af,none⟩::rest) a:=
 Fo b hd (λw _=>by simp [execOp,b.eval c]) k
def Ze {c x y:Operand}{b:Bool}{v}(g:Fr n a m) (i:CE m c=some (.bool b)) (j:CE m (if b then x else y)=some v) (hd:Nat.blt d n.1=true)
  (k:∀a,Fr n a ((d,v)::m)→wpQuiet P ops C Q rest a):wpQuiet P ops C Q (⟨some d,.pick c x y,ty,pos,af,none⟩::rest) a:=
 Fo g hd (λw _=>by cases b<;>simp [execOp,g.eval i,asBool]<;>exact g.eval (by simpa using j)) k
section ints
variable {X Y:Operand}{t1 t2:TypeId}{x y:Int}{kd:IntKind}
def LO {b:BinOp}{v:Value}(c:Fr n a m) (g:CE m X=some (.int kd x)) (i:CE m Y=some (.int kd y)) (hd:Nat.blt d n.1=true)
  (j:∀w,(binOp b t1 (.int kd x) (.int kd y)).run P w= .ok v w)
  (k:∀a,Fr n a ((d,v)::m)→wpQuiet P ops C Q rest a):wpQuiet P ops C Q (⟨some d,.binOp b t1 X Y t2,ty,pos,af,none⟩::rest) a:=by
 refine Fo c hd (λw _=>?_) k
 have l:(eqGuard b t1 X Y (.int kd x) (.int kd y)).run P w= .ok () w:=by
  unfold eqGuard;cases b<;>simp
 simp [execOp,c.eval g,c.eval i,l,j]
def dL (b:Fr n a m) (c:CE m X=some (.int .i64 x)) (g:CE m Y=some (.int .i64 y)) (hd:Nat.blt d n.1=true) (i:AD (x+y))
  (k:∀a,Fr n a ((d,.int .i64 (x+y))::m)→wpQuiet P ops C Q rest a):wpQuiet P ops C Q (⟨some d,.binOp .add t1 X Y t2,ty,pos,af,none⟩::rest) a:=
 LO b c g hd (λw=>by have:=My i;simp only[B8] at this;simp [binOp,Op.intArith,this]) k
def cT (b:Fr n a m) (c:CE m X=some (.int .i64 x)) (g:CE m Y=some (.int .i64 y)) (hd:Nat.blt d n.1=true) (i:AD (x*y))
  (k:∀a,Fr n a ((d,.int .i64 (x*y))::m)→wpQuiet P ops C Q rest a):wpQuiet P ops C Q (⟨some d,.binOp .mul t1 X Y t2,ty,pos,af,none⟩::rest) a:=
 LO b c g hd (λw=>by have:=My i;simp only[B8] at this;simp [binOp,Op.intArith,this]) k
def Zi (b:Fr n a m) (c:CE m X=some (.int .i64 x)) (g:CE m Y=some (.int .i64 y)) (hd:Nat.blt d n.1=true)
  (k:∀a,Fr n a ((d,.int .i64 (B8 (x+y)))::m)→wpQuiet P ops C Q rest a):wpQuiet P ops C Q (⟨some d,.binOp .add t1 X Y t2,ty,pos,af,none⟩::rest) a:=
 LO b c g hd (λw=>by simp [binOp,Op.intArith]) k
def Zd (b:Fr n a m) (c:CE m X=some (.int .i64 x)) (g:CE m Y=some (.int .i64 y)) (hd:Nat.blt d n.1=true)
  (k:∀a,Fr n a ((d,.int .i64 (B8 (x-y)))::m)→wpQuiet P ops C Q rest a):wpQuiet P ops C Q (⟨some d,.binOp .sub t1 X Y t2,ty,pos,af,none⟩::rest) a:=
 LO b c g hd (λw=>by simp [binOp,Op.intArith]) k
def Zf (b:Fr n a m) (c:CE m X=some (.int .i64 x)) (g:CE m Y=some (.int .i64 y)) (hd:Nat.blt d n.1=true)
  (k:∀a,Fr n a ((d,.int .i64 (B8 (x*y)))::m)→wpQuiet P ops C Q rest a):wpQuiet P ops C Q (⟨some d,.binOp .mul t1 X Y t2,ty,pos,af,none⟩::rest) a:=
 LO b c g hd (λw=>by simp [binOp,Op.intArith]) k
def cW (b:Fr n a m) (c:CE m X=some (.int kd x)) (g:CE m Y=some (.int kd y)) (hd:Nat.blt d n.1=true)
  (k:∀a,Fr n a ((d,.bool (decide (x<y)))::m)→wpQuiet P ops C Q rest a):wpQuiet P ops C Q (⟨some d,.binOp .lss t1 X Y t2,ty,pos,af,none⟩::rest) a:=
 LO b c g hd (λw=>by simp [binOp,Op.intCmp]) k
def cX (b:Fr n a m) (c:CE m X=some (.int kd x)) (g:CE m Y=some (.int kd y)) (hd:Nat.blt d n.1=true)
  (k:∀a,Fr n a ((d,.bool (decide (x≤y)))::m)→wpQuiet P ops C Q rest a):wpQuiet P ops C Q (⟨some d,.binOp .leq t1 X Y t2,ty,pos,af,none⟩::rest) a:=
 LO b c g hd (λw=>by simp [binOp,Op.intCmp]) k
def dF (b:Fr n a m) (c:CE m X=some (.int kd x)) (g:CE m Y=some (.int kd y)) (hd:Nat.blt d n.1=true)
  (k:∀a,Fr n a ((d,.bool (decide (y<x)))::m)→wpQuiet P ops C Q rest a):wpQuiet P ops C Q (⟨some d,.binOp .gtr t1 X Y t2,ty,pos,af,none⟩::rest) a:=
 LO b c g hd (λw=>by simp [binOp,Op.intCmp]) k
def dG (b:Fr n a m) (c:CE m X=some (.int kd x)) (g:CE m Y=some (.int kd y)) (hd:Nat.blt d n.1=true)
  (k:∀a,Fr n a ((d,.bool (decide (y≤x)))::m)→wpQuiet P ops C Q rest a):wpQuiet P ops C Q (⟨some d,.binOp .geq t1 X Y t2,ty,pos,af,none⟩::rest) a:=
 LO b c g hd (λw=>by simp [binOp,Op.intCmp]) k
def dJ (b:Fr n a m) (c:CE m X=some (.int kd x)) (g:CE m Y=some (.int kd y)) (hd:Nat.blt d n.1=true)
  (k:∀a,Fr n a ((d,.bool (decide (x=y)))::m)→wpQuiet P ops C Q rest a):wpQuiet P ops C Q (⟨some d,.binOp .eql t1 X Y t2,ty,pos,af,none⟩::rest) a:=
 LO b c g hd (λw=>by simp [binOp,Op.intCmp,Ov]) k
def cS (b:Fr n a m) (c:CE m X=some (.int kd x)) (g:CE m Y=some (.int kd y)) (hd:Nat.blt d n.1=true)
  (k:∀a,Fr n a ((d,.bool (decide (x≠y)))::m)→wpQuiet P ops C Q rest a):wpQuiet P ops C Q (⟨some d,.binOp .neq t1 X Y t2,ty,pos,af,none⟩::rest) a:=
 LO b c g hd (λw=>by simp [binOp,Op.intCmp,bne,Ov]) k
end ints
def cR {X t1 b}(c:Fr n a m) (g:CE m X=some (.bool b)) (hd:Nat.blt d n.1=true)
  (k:∀a,Fr n a ((d,.bool (!b))::m)→wpQuiet P ops C Q rest a):wpQuiet P ops C Q (⟨some d,.unOp .not t1 X,ty,pos,af,none⟩::rest) a:=
 Fo c hd (λw _=>by simp [execOp,c.eval g,Op.unary]) k
section loads
variable {A S:Nat→Prop}{L:List HP}{h:BB}{X:Operand}{p:Value}{t:TypeId}
def dD {cs:List Value}{sz:Nat}{ag:Bool}(g:CK C h) (i:∀b,A b→b<h.size) (c:Fr n a m) (j:CE m X=some p) (k0:Qi A h p cs) (l:cs.length=sz) (o:Hd P t sz ag=true) (q:ag=false→sz=1) (hd:Nat.blt d n.1=true)
  (k:∀a,Fr n a ((d,if ag then .agg cs.toArray else cs.headD undef)::m)→wpQuiet P ops C Q rest a):wpQuiet P ops C Q (⟨some d,.load t X,ty,pos,af,none⟩::rest) a:=by
 refine Fo c hd (λw s=>?_) k
 have:=K0 (P:=P) (w:=w) (k0.mono (λ_ x=>x) λb u=>g w s b (i b u)) l o q
 simp [execOp,c.eval j,this]
def Vp {α}{r:B7 α}{x}(i:CK C h) (j:∀b,A b→b<h.size) (l:Fr n a m) (o:CE m X=some p) (k0:N0 A S h r p x) (q:Hd P t r.sz r.ag=true) (s:r.ag=false→r.sz=1) (hd:Nat.blt d n.1=true)
  (k:∀v a,Fr n a ((d,v)::m)→Rd S h r v x→wpQuiet P ops C Q rest a):wpQuiet P ops C Q (⟨some d,.load t X,ty,pos,af,none⟩::rest) a:=by
 obtain⟨cs,u,g⟩:=k0
 exact dD i j l o u (r.len g) q s hd λw c=>k _ w c ⟨cs,rfl,g⟩
def dC {x}(g:CK C h) (i:∀b,A b→b<h.size) (j:Fr n a m) (l:CE m X=some p) (k0:N0 A S h BQ p x) (o:Hd P t 1 false=true) (hd:Nat.blt d n.1=true)
  (k:∀a,Fr n a ((d,.int .i64 x)::m)→AD x→wpQuiet P ops C Q rest a):wpQuiet P ops C Q (⟨some d,.load t X,ty,pos,af,none⟩::rest) a:=
 Vp g i j l k0 o (λ_=>rfl) hd λv q c s=>by obtain⟨rfl,u⟩:=s.int;exact k q c u
def dE {x}(g:CK C h) (i:∀b,A b→b<h.size) (j:Fr n a m) (l:CE m X=some p) (k0:N0 A S h B7.bool p x) (o:Hd P t 1 false=true) (hd:Nat.blt d n.1=true)
  (k:∀a,Fr n a ((d,.bool x)::m)→wpQuiet P ops C Q rest a):wpQuiet P ops C Q (⟨some d,.load t X,ty,pos,af,none⟩::rest) a:=
 Vp g i j l k0 o (λ_=>rfl) hd λv q c s=>by obtain rfl:=s.bool;exact k q c
def cZ {x}(g:CK C h) (i:∀b,A b→b<h.size) (j:Fr n a m) (l:CE m X=some p) (k0:N0 A S h B7.str p x) (o:Hd P t 1 false=true) (hd:Nat.blt d n.1=true)
  (k:∀a,Fr n a ((d,.string x)::m)→x.size≤maxLen→wpQuiet P ops C Q rest a):wpQuiet P ops C Q (⟨some d,.load t X,ty,pos,af,none⟩::rest) a:=
 Vp g i j l k0 o (λ_=>rfl) hd λv q c s=>by obtain⟨rfl,u⟩:=s.str;exact k q c u
def dB {α}{r:B7 α}{x}(g:CK C h) (i:∀b,A b→b<h.size) (j:Fr n a m) (l:CE m X=some p) (k0:N0 A S h r.sl p x) (o:Hd P t 1 false=true) (hd:Nat.blt d n.1=true)
  (k:∀v a,Fr n a ((d,v)::m)→Sl S h r v x→wpQuiet P ops C Q rest a):wpQuiet P ops C Q (⟨some d,.load t X,ty,pos,af,none⟩::rest) a:=
 Vp g i j l k0 o (λ_=>rfl) hd λv q c s=>k v q c s.sl
def gO {α β}{r:B7 α}{r':B7 β}{f:α→β}{j off x}(c:Fr n a m) (g:CE m X=some p) (k0:N0 A S h r p x) (i:Fm r off r' f) (l:FZ P t j off=true) (hd:Nat.blt d n.1=true)
  (k:∀q a,Fr n a ((d,q)::m)→N0 A S h r' q (f x)→wpQuiet P ops C Q rest a):wpQuiet P ops C Q (⟨some d,.fieldAddr t X j,ty,pos,af,none⟩::rest) a:=by
 obtain⟨u,rfl,o⟩:=k0.fld i
 exact Fo c hd (λw _=>by simp [execOp,c.eval g,Lr l]) λs b=>k _ s b o
def dH {b o j off}(g:Fr n a m) (i:CE m X=some (.pointer (some ⟨b,o,none⟩))) (l:FZ P t j off=true) (hd:Nat.blt d n.1=true)
  (k:∀a,Fr n a ((d,.pointer (some ⟨b,o+off,none⟩))::m)→wpQuiet P ops C Q rest a):wpQuiet P ops C Q (⟨some d,.fieldAddr t X j,ty,pos,af,none⟩::rest) a:=by
 have c:(⟨b,o,none⟩:Addr).add off=⟨b,o+off,none⟩:=by unfold Addr.add;split<;>simp_all
 exact Fo g hd (λw _=>by simp [execOp,g.eval i,Lr l,c]) k
def Sl.at_ {α}{r:B7 α}{v:Value}{l:List α}(k0:Sl S h r v l) {i:Nat}{x:α}(d:l[i]? =some x):
  ∃(a:Addr) (cap:Nat),v= .slice (some a) l.length cap∧Pt S h r (.pointer (some (a.add (i*r.sz)))) x:=by
 rcases k0 with ⟨rfl,rfl⟩|⟨a,cap,h1,h4,h5,h6⟩
 ·simp at d
 ·refine⟨a,cap,h1,?_⟩
  obtain⟨g,this⟩:=h6 i x d
  obtain⟨b,o,s⟩:=a
  simp only at g;subst g
  have c:(⟨b,o,none⟩:Addr).add (i*r.sz)=⟨b,o+i*r.sz,none⟩:=by unfold Addr.add;split<;>simp_all
  rw[c];exact this
def gL {α}{r:B7 α}{l:List α}{e i x Y v}(b:Fr n a m) (j:CE m X=some v) (o:CE m Y=some (.int .i64 i)) (k0:Sl S h r v l) (p:JZ P t e r.sz=true) (h0:0≤i) (g:l[i.toNat]? =some x) (hd:Nat.blt d n.1=true)
  (k:∀q a,Fr n a ((d,q)::m)→Pt S h r q x→wpQuiet P ops C Q rest a):wpQuiet P ops C Q (⟨some d,.indexAddr t X Y,ty,pos,af,none⟩::rest) a:=by
 obtain⟨s,cap,rfl,u⟩:=k0.at_ g
 have y:i.toNat<l.length:=(jF.1 g).1
 exact Fo b hd (λw _=>by simp [execOp,b.eval j,b.eval o,Lq (P:=P) (w:=w) (cap:=cap) (a:=s) p h0 y]) λz c=>k _ z c u
def cY {α}{r:B7 α}{l:List α}{v aty e}(c:Fr n a m) (g:CE m X=some v) (k0:Sl S h r v l) (j:JZ P t e r.sz=true) (hd:Nat.blt d n.1=true)
  (k:∀a,Fr n a ((d,.int .i64 l.length)::m)→l.length≤maxLen→wpQuiet P ops C Q rest a):wpQuiet P ops C Q (⟨some d,.call ⟨.builtin .len,#[X],#[t]⟩,aty,pos,af,none⟩::rest) a:=by
 obtain⟨s,cap,rfl,o⟩:=k0.len
 obtain⟨i,p,_⟩:=Ki j
 exact Fo c hd (λw _=>by simp [execOp,resolve,invoke,builtin,Builtin.len_,c.eval g,run_underlying p,goInt]) λq b=>k q b o
def Zg {ad len cap aty e sz}(b:Fr n a m) (c:CE m X=some (.slice ad len cap)) (g:JZ P t e sz=true) (hd:Nat.blt d n.1=true)
  (k:∀a,Fr n a ((d,.int .i64 len)::m)→wpQuiet P ops C Q rest a):wpQuiet P ops C Q (⟨some d,.call ⟨.builtin .len,#[X],#[t]⟩,aty,pos,af,none⟩::rest) a:=by
 obtain⟨i,j,_⟩:=Ki g
 exact Fo b hd (λw _=>by simp [execOp,resolve,invoke,builtin,Builtin.len_,b.eval c,run_underlying j,goInt]) k
end loads
def cV {X Y t1 t2 x y aty kd}(b:Fr n a m) (c:CE m X=some (.int kd x)) (g:CE m Y=some (.int kd y)) (hd:Nat.blt d n.1=true)
  (k:∀a,Fr n a ((d,.int kd (max x y))::m)→wpQuiet P ops C Q rest a):wpQuiet P ops C Q (⟨some d,.call ⟨.builtin .max,#[X,Y],#[t1,t2]⟩,aty,pos,af,none⟩::rest) a:=
 Fo b hd (λw _=>by
  have:(if y>x then y else x)=max x y:=by rw[Int.max_def];split<;>split<;>omega
  simp [execOp,resolve,invoke,builtin,Builtin.max_,Builtin.max2,b.eval c,b.eval g,this]) k
def cU {X Y t1 t2 x y aty kd}(b:Fr n a m) (c:CE m X=some (.int kd x)) (g:CE m Y=some (.int kd y)) (hd:Nat.blt d n.1=true)
  (k:∀a,Fr n a ((d,.int kd (min x y))::m)→wpQuiet P ops C Q rest a):wpQuiet P ops C Q (⟨some d,.call ⟨.builtin .min,#[X,Y],#[t1,t2]⟩,aty,pos,af,none⟩::rest) a:=
 Fo b hd (λw _=>by
  have:(if y<x then y else x)=min x y:=by rw[Int.min_def];split<;>split<;>omega
  simp [execOp,resolve,invoke,builtin,Builtin.min_,Builtin.min2,b.eval c,b.eval g,this]) k
end
end Go.Proofs.YtibidnaedddfdaaGreat
