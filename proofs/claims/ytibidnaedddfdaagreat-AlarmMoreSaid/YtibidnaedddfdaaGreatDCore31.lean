import Derived.Test.YtibidnaedddfdaaGreatDCore27
import Derived.OrdersHeld
namespace Go.Proofs.YtibidnaedddfdaaGreat
set_option linter.all false
open Go.RowKit
section
variable {α:Type}{r:B7 α}{e T:TypeId}{v u:Value}{l:List α}{vs:List Value}{ll:List (List α)}{S F:Nat→Prop}{h:BB}{L L2:List HP}
def St.one {H:HP}(a:St S L h) (b:H∈L):St S [H] h:=by
 obtain⟨F,k,c⟩:=a.get b
 exact⟨a.1,F,k,c,trivial⟩
def OW.oslen {S X F:Nat→Prop}{h0 h:BB}{M:List HP}(k:OW S h0 X F M h) (a:OS r T v l∈M):∃b cap,v= .slice b l.length cap∧l.length≤maxLen:=by
 obtain⟨F,k,_⟩:=Sp.get a k
 exact OS.len k
end
section
variable {P:Program}{ops:Array Oper}{C:World→Prop}{Q:Act→Prop}{Q2:Exit→Act→World→Prop}{n:FN}{m m':SM}{rest:List Oper}
variable {d:Nat}{ty:TypeId}{pos:String}{af:Array Edge}{X Y:Operand}{t:TypeId}{v p:Value}{B:World}{h:BB}{S:Nat→Prop}{L L2:List HP}
end
end Go.Proofs.YtibidnaedddfdaaGreat
namespace Go.Proofs.YtibidnaedddfdaaGreat
set_option linter.all false
open Go.RowKit
def St.zs {α}{S:Nat→Prop}{L:List HP}{h:BB}(b:St S L h) (r:B7 α) (T:TypeId) (a:Option Addr):St S (OS r T (.slice a 0 0) ([]:List α)::L) h:=
 (b.add (jB _) (λ_ _=>rfl) ⟨λ_=>False,Or.inl ⟨⟨a,rfl⟩,rfl,λ_ x=>x⟩,λ_ x=>x.elim⟩).1
section
variable {P:Program}{ops:Array Oper}{C:World→Prop}{Q:Act→Prop}{Q2:Exit→Act→World→Prop}{n:FN}{m m':SM}{rest:List Oper}
variable {d:Nat}{ty:TypeId}{pos:String}{af:Array Edge}{X Y Z:Operand}{t:TypeId}{kd kd2:IntKind}{v p:Value}{S:Nat→Prop}{h:BB}{B:World}{L:List HP}
def iC {e sz:Nat}(g:CE m X=some (.slice none 0 0)) (i:CE m Y=some (.int kd 0)) (j:JZ P t e sz=true) (hd:Nat.blt d n.1=true)
  (k:QF P ops C Q rest n ((d,.slice none 0 0)::m)):QF P ops C Q (⟨some d,.slice t X none (some Y) none,ty,pos,af,none⟩::rest) n m:=λa b=>by
 obtain⟨c,l⟩:=Kh j
 refine Fo b hd (λw _=>?_) k
 simp [execOp,b.eval g,b.eval i,run_sliceAt_slice _ _ _ _ _ _ c,run_slice_h w t none 0 0 c kd 0 (by omega) (by omega),l,sliced]
def iK {o:Oper}{j e:Nat}{b:Bool}(g:o.guard=some (j,b)) (i:(ops[j]?).bind (·.dst)=some e) (l:lk m e=some (.bool b)) (k:LF P ops Q2 ({ o with guard:=none}::rest) B h n m):LF P ops Q2 (o::rest) B h n m:=by
 intro a w d p
 have q:Region.wanted o (yielded ops a.tmps)=true:=by
  have:=d.at_ e _ l
  simp [Region.wanted,g,yielded,i,this]
 have c:=k a w d p
 unfold wpList at c ⊢
 rw[iR (by simp [Region.wanted])] at c
 rw[iR q]
 exact c
end
end Go.Proofs.YtibidnaedddfdaaGreat
namespace Go.Proofs.YtibidnaedddfdaaGreat
set_option linter.all false
open Go.RowKit
section
variable {P:Program}{ex:List (Nat×AP)}{RR N:AP}{cs:List Code}{B:World}{h:BB}{n:FN}{m m':SM}{S:Nat→Prop}{L:List HP}{C:World→Prop}{l:List Oper}{fuel:Nat}{listed:Array Bool}
variable {d:Nat}{ty:TypeId}{pos:String}{af:Array Edge}{X Y:Operand}{t:TypeId}{v:Value}
def HF (P:Program) (l:List Oper) (Q:Exit→Act→World→Prop) (C:World→Prop) (fuel:Nat) (listed:Array Bool) (B:World) (h:BB) (n:FN) (m:SM):Prop:=
 ∀a w,Fr n a m→Wd B h w→wpAnyH P .any l.toArray Q C fuel listed a w
abbrev QW (P:Program) (ex:List (Nat×AP)) (RR:AP) (cs:List Code) (N:AP):Exit→Act→World→Prop:=Qx ex RR (W P ex RR cs N)
def Zp (l:List Oper) (listed:Array Bool) (i:Nat):Bool:=Region.noSelect l.toArray&&Region.free .any l.toArray listed i&&(Region.ready .any l.toArray listed).contains i
def Px {o:Op}(i:Nat) (q:l[i]? =some ⟨some d,o,ty,pos,af,none⟩) (c:Zp l listed i=true) (s:∀w,Wd B h w→C w) (hd:Nat.blt d n.1=true)
  (b:∀a w,Fr n a m→C w→(execOp a.eval ⟨some d,o,ty,pos,af,none⟩).run P w= .ok (.value v) w) (k:HF P l (QW P ex RR cs N) C fuel (listed.setIfInBounds i true) B h n ((d,v)::m)):HF P l (QW P ex RR cs N) C (fuel+1) listed B h n m:=by
 intro a w j p
 simp only[Zp,iQ] at c
 exact wpAnyH_take (oi:=⟨some d,o,ty,pos,af,none⟩) (v:=v) (by simpa using q) c.1.1 c.1.2 c.2 (λ_ _ _ t=>t.elim) (.inl ⟨by simp [Region.wanted],λu g=>b a u j g⟩) (s w p) (k _ _ (j.put hd v) p)
def iL (i:Nat) (b:l[i]? =some ⟨some d,.move X,ty,pos,af,none⟩) (c:Zp l listed i=true) (g:∀w,Wd B h w→C w) (j:CE m X=some v) (hd:Nat.blt d n.1=true) (k:HF P l (QW P ex RR cs N) C fuel (listed.setIfInBounds i true) B h n ((d,v)::m)):HF P l (QW P ex RR cs N) C (fuel+1) listed B h n m:=
 Px i b c g hd (λa w o _=>by simp [execOp,o.eval j]) k
def iI (i:Nat) (b:l[i]? =some ⟨some d,.assign X,ty,pos,af,none⟩) (c:Zp l listed i=true) (g:∀w,Wd B h w→C w) (j:CE m X=some v) (hd:Nat.blt d n.1=true) (k:HF P l (QW P ex RR cs N) C fuel (listed.setIfInBounds i true) B h n ((d,v)::m)):HF P l (QW P ex RR cs N) C (fuel+1) listed B h n m:=
 Px i b c g hd (λa w o _=>by simp [execOp,o.eval j]) k
def iH (i:Nat) {b o j g:Nat}(q:l[i]? =some ⟨some d,.fieldAddr t X j,ty,pos,af,none⟩) (c:Zp l listed i=true) (s:∀w,Wd B h w→C w) (u:CE m X=some (.pointer (some ⟨b,o,none⟩))) (v:FZ P t j g=true) (hd:Nat.blt d n.1=true) (k:HF P l (QW P ex RR cs N) C fuel (listed.setIfInBounds i true) B h n ((d,.pointer (some ⟨b,o+g,none⟩))::m)):HF P l (QW P ex RR cs N) C (fuel+1) listed B h n m:=
 have p:(⟨b,o,none⟩:Addr).add g=⟨b,o+g,none⟩:=by unfold Addr.add;split<;>simp_all
 Px i q c s hd (λa w x _=>by simp [execOp,x.eval u,Lr v,p]) k
def iF (i:Nat) {b o sz T:Nat}{ag:Bool}{q vs:List Value}(s:l[i]? =some ⟨some d,.load t X,ty,pos,af,none⟩) (c:Zp l listed i=true) (u:∀w,Wd B h w→C w) (v:CE m X=some (.pointer (some ⟨b,o,none⟩))) (y:∀w,C w→w.heap[b]? =some (.cells q.toArray T (0,0))) (z:(q.drop o).take sz=vs) (A:Nat.beq vs.length sz=true) (D:Hd P t sz ag=true) (F:(ag||Nat.beq sz 1)=true) (hd:Nat.blt d n.1=true)
  (k:HF P l (QW P ex RR cs N) C fuel (listed.setIfInBounds i true) B h n ((d,if ag then .agg vs.toArray else vs.headD undef)::m)):HF P l (QW P ex RR cs N) C (fuel+1) listed B h n m:=
 Px i s c u hd (λa w G H=>by
  have I:(Bx b T q).holds (λ_=>True) (λx=>x=b) w.heap:=⟨λ_=>Iff.rfl,y w H⟩
  have g:=iX A
  have:=K0 (P:=P) (w:=w) (S:=λ_=>True) (p:= .pointer (some ⟨b,o,none⟩)) (cs:=vs) (sz:=sz) (ag:=ag) (t:=t) ⟨⟨b,o,none⟩,rfl,rfl,trivial,λj J=>by
   rw[Bx.cell I,←z,kP (by omega),lD]⟩ g D (λe=>by subst e;simpa using F)
  simp [execOp,G.eval v,this]) k
def iG (i:Nat) {α}{r:B7 α}{xs:List α}{T e:Nat}{j:Int}{x:α}(s:l[i]? =some ⟨some d,.indexAddr t X Y,ty,pos,af,none⟩) (c:Zp l listed i=true) (u:∀w,Wd B h w→C w) (y:St S L h) (z:OS r T v xs∈L) (A:CE m X=some v) (D:CE m Y=some (.int .i64 j)) (F:JZ P t e r.sz=true) (o:ix xs j=some x) (hd:Nat.blt d n.1=true)
  (k:∀q,EP v (j.toNat*r.sz+0) q→HF P l (QW P ex RR cs N) C fuel (listed.setIfInBounds i true) B h n ((d,q)::m)):HF P l (QW P ex RR cs N) C (fuel+1) listed B h n m:=by
 obtain⟨J,cap,rfl,H⟩:=y.osAt z (IS o).2
 have G:j.toNat<xs.length:=(jF.1 (IS o).2).1
 have b:(⟨J,0,none⟩:Addr).add (j.toNat*r.sz)=⟨J,j.toNat*r.sz,none⟩:=by unfold Addr.add;split<;>simp_all
 exact Px i s c u hd (λa w p I=>by simp [execOp,p.eval A,p.eval D,Lq (P:=P) (w:=w) (cap:=cap) (a:=⟨J,0,none⟩) F (IS o).1 G,b]) (k _ ⟨J,_,_,rfl,rfl⟩)
def HF.w (i:Nat) {o:Oper}(q:l[i]? =some o) (d:o.guard=none) (c:Region.ready .any l.toArray listed=[i])
  (k:LF P l.toArray (Exit.then (λs g=>C g∧wpAnyH P .any l.toArray (QW P ex RR cs N) C fuel (listed.setIfInBounds i true) s g) (QW P ex RR cs N)) [o] B h n m):HF P l (QW P ex RR cs N) C (fuel+1) listed B h n m:=by
 intro a w t u
 refine wpAnyH_all c (by simp) λj p=>?_
 rw[mK] at p
 subst p
 unfold wpOp
 have b:l.toArray[j]? =some o:=by simpa using q
 simp only[b]
 rw[iR (by simp [Region.wanted,d])]
 exact G3 d (k a w t u)
def fY (c:Region.ready .any l.toArray listed=[]) (b:QC m m') (k:WF P ex RR cs N B h n m'):HF P l (QW P ex RR cs N) C fuel listed B h n m:=
 λa w d g=>wpAnyH_done c (k a w (d.sub b) g) _
end
end Go.Proofs.YtibidnaedddfdaaGreat
namespace Go.Proofs.YtibidnaedddfdaaGreat
set_option linter.all false
open Go.RowKit
abbrev vI (n:Int):Value:= .int .i64 n
abbrev vP (b o:Nat):Value:= .pointer (some ⟨b,o,none⟩)
abbrev vN:Value:= .slice none 0 0
section
variable {P:Program}{ops:Array Oper}{C:World→Prop}{Q:Act→Prop}{n:FN}{m m':SM}{rest:List Oper}
variable {d:Nat}{ty:TypeId}{pos:String}{af:Array Edge}{X Y:Operand}{t t1 t2:TypeId}{x y:Int}{kd:IntKind}{v p:Value}
def AA (e:(CE m X,Nat.blt d n.1)=(some v,true)) (k:QF P ops C Q rest n ((d,v)::m)):QF P ops C Q (⟨some d,.move X,ty,pos,af,none⟩::rest) n m:=
 E8 (jA (λz=>z.1) e) (jA (λz=>z.2) e) k
def A4 (e:(CE m X,Nat.blt d n.1)=(some v,true)) (k:QF P ops C Q rest n ((d,v)::m)):QF P ops C Q (⟨some d,.assign X,ty,pos,af,none⟩::rest) n m:=
 LG (jA (λz=>z.1) e) (jA (λz=>z.2) e) k
def BT {b}(e:(CE m X,Nat.blt d n.1)=(some (.bool b),true)) (k:QF P ops C Q rest n ((d,.bool (!b))::m)):QF P ops C Q (⟨some d,.unOp .not t1 X,ty,pos,af,none⟩::rest) n m:=
 XI (jA (λz=>z.1) e) (jA (λz=>z.2) e) k
def AB {o:Oper}{j e:Nat}{b:Bool}(e:(o.guard,(ops[j]?).bind (·.dst),lk m e)=(some (j,b),some e,some (.bool b))) (k:QF P ops C Q ({ o with guard:=none}::rest) n m):QF P ops C Q (o::rest) n m:=
 XL (jA (λz=>z.1) e) (jA (λz=>z.2.1) e) (jA (λz=>z.2.2) e) k
def AI {c X Y:Operand}{b:Bool}(e:(CE m c,CE m (if b then X else Y),Nat.blt d n.1)=(some (.bool b),some v,true)) (k:QF P ops C Q rest n ((d,v)::m)):QF P ops C Q (⟨some d,.pick c X Y,ty,pos,af,none⟩::rest) n m:=
 RY (jA (λz=>z.1) e) (jA (λz=>z.2.1) e) (jA (λz=>z.2.2) e) k
def BE (e:(CE m X,CE m Y,Nat.blt d n.1)=(some (.int kd x),some (.int kd y),true)) (k:QF P ops C Q rest n ((d,.bool (decide (x<y)))::m)):QF P ops C Q (⟨some d,.binOp .lss t1 X Y t2,ty,pos,af,none⟩::rest) n m:=
 bA (jA (λz=>z.1) e) (jA (λz=>z.2.1) e) (jA (λz=>z.2.2) e) k
def HC (e:(CE m X,CE m Y,Nat.blt d n.1)=(some (.int kd x),some (.int kd y),true)) (k:QF P ops C Q rest n ((d,.bool (decide (x≤y)))::m)):QF P ops C Q (⟨some d,.binOp .leq t1 X Y t2,ty,pos,af,none⟩::rest) n m:=
 bC (jA (λz=>z.1) e) (jA (λz=>z.2.1) e) (jA (λz=>z.2.2) e) k
def CN (e:(CE m X,CE m Y,Nat.blt d n.1)=(some (.int kd x),some (.int kd y),true)) (k:QF P ops C Q rest n ((d,.bool (decide (y<x)))::m)):QF P ops C Q (⟨some d,.binOp .gtr t1 X Y t2,ty,pos,af,none⟩::rest) n m:=
 XM (jA (λz=>z.1) e) (jA (λz=>z.2.1) e) (jA (λz=>z.2.2) e) k
def EQ (e:(CE m X,CE m Y,Nat.blt d n.1)=(some (.int kd x),some (.int kd y),true)) (k:QF P ops C Q rest n ((d,.bool (decide (y≤x)))::m)):QF P ops C Q (⟨some d,.binOp .geq t1 X Y t2,ty,pos,af,none⟩::rest) n m:=
 bG (jA (λz=>z.1) e) (jA (λz=>z.2.1) e) (jA (λz=>z.2.2) e) k
def CR (e:(CE m X,CE m Y,Nat.blt d n.1)=(some (.int kd x),some (.int kd y),true)) (k:QF P ops C Q rest n ((d,.bool (decide (x=y)))::m)):QF P ops C Q (⟨some d,.binOp .eql t1 X Y t2,ty,pos,af,none⟩::rest) n m:=
 Te (jA (λz=>z.1) e) (jA (λz=>z.2.1) e) (jA (λz=>z.2.2) e) k
def Cq (e:(CE m X,CE m Y,Nat.blt d n.1)=(some (.int kd x),some (.int kd y),true)) (k:QF P ops C Q rest n ((d,.bool (decide (x≠y)))::m)):QF P ops C Q (⟨some d,.binOp .neq t1 X Y t2,ty,pos,af,none⟩::rest) n m:=
 aZ (jA (λz=>z.1) e) (jA (λz=>z.2.1) e) (jA (λz=>z.2.2) e) k
def BD (e:(CE m X,CE m Y,Nat.blt d n.1)=(some (.int .i64 x),some (.int .i64 y),true)) (k:QF P ops C Q rest n ((d,.int .i64 (B8 (x+y)))::m)):QF P ops C Q (⟨some d,.binOp .add t1 X Y t2,ty,pos,af,none⟩::rest) n m:=
 Ud (jA (λz=>z.1) e) (jA (λz=>z.2.1) e) (jA (λz=>z.2.2) e) k
def FU (e:(CE m X,CE m Y,Nat.blt d n.1)=(some (.int .i64 x),some (.int .i64 y),true)) (k:QF P ops C Q rest n ((d,.int .i64 (B8 (x-y)))::m)):QF P ops C Q (⟨some d,.binOp .sub t1 X Y t2,ty,pos,af,none⟩::rest) n m:=
 Ua (jA (λz=>z.1) e) (jA (λz=>z.2.1) e) (jA (λz=>z.2.2) e) k
def De {xs:Array Value}{i:Nat}{u:Value}(e:(CE m X,xs[i]?,Nat.blt d n.1)=(some (.tuple xs),some u,true)) (k:QF P ops C Q rest n ((d,u)::m)):QF P ops C Q (⟨some d,.extract X i,ty,pos,af,none⟩::rest) n m:=
 bH (jA (λz=>z.1) e) (jA (λz=>z.2.1) e) (jA (λz=>z.2.2) e) k
def AF {b o j off}(a:FZ P t j off=true) (e:(CE m X,Nat.blt d n.1)=(some (.pointer (some ⟨b,o,none⟩)),true)) (k:QF P ops C Q rest n ((d,.pointer (some ⟨b,o+off,none⟩))::m)):QF P ops C Q (⟨some d,.fieldAddr t X j,ty,pos,af,none⟩::rest) n m:=
 XN (jA (λz=>z.1) e) a (jA (λz=>z.2) e) k
end
section
variable {P:Program}{ex:List (Nat×AP)}{R N:AP}{cs:List Code}{B:World}{h:BB}{n:FN}{m m':SM}
def AE {l:List Oper}{id:Nat}{y:Code}(k:QF P l.toArray (Wd B h) (λa=>∀w,Wd B h w→W P ex R (y::cs) N a w) l n m):WF P ex R (.seq (.region id l.toArray false) y::cs) N B h n m:=AC (CL (.inl rfl) k)
def WF.sl {l:List Oper}{id:Nat}{y:Code}(k:LF P l.toArray (Qx ex R (W P ex R (y::cs) N)) l B h n m):WF P ex R (.seq (.region id l.toArray false) y::cs) N B h n m:=AC (Gf k)
def AJ {ops:Array Oper}{C:World→Prop}{d:Nat}{ty:TypeId}{pos:String}{af:Array Edge}{X:Operand}{v:Value}(e:(CE m X,Nat.blt d n.1)=(some v,true)) (b:QC ((d,v)::m) m') (k:WF P ex R cs N B h n m'):QF P ops C (λa=>∀w,Wd B h w→W P ex R cs N a w) [⟨some d,.assign X,ty,pos,af,none⟩] n m:=A4 e (AL b k)
def AW {ex:List (Nat×AP)}{R N:AP}{m:SM}{b:Bool}{k:Type}{a d r:k}{X:Operand}{x y:Code}(g:CE m X=some (.bool b)) (E:cond b a d=r) (i:b=true→a=r→WF P ex R (x::cs) N B h n m) (j:b=false→d=r→WF P ex R (y::cs) N B h n m):WF P ex R (.cond X x y::cs) N B h n m:=RQ g (λc=>i c (GX c E)) (λc=>j c (GY c E))
def BF {P:Program}{ops:Array Oper}{C:World→Prop}{Q:Exit→Act→World→Prop}{B:World}{n:FN}{d:Nat}{R:Value→BB→Prop}{h:BB}{m:SM}{v:Value}(r:R v h):QF P ops C (λa=>∀w,Wd B h w→wpList P ops (Exit.then (KS B n d R h m) Q) [] a w) [] n ((d,v)::m):=A6 (GB (FW.refl _) r)
end
end Go.Proofs.YtibidnaedddfdaaGreat
