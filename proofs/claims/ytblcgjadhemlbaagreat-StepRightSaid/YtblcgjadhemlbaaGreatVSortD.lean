import Derived.Test.YtblcgjadhemlbaaGreatVCore28
import Derived.OrdersHeld
namespace Go.Proofs.YtblcgjadhemlbaaGreat
set_option linter.all false
open Go.RowKit
def St.zs {α}{S:Nat→Prop}{L:List HP}{h:BL}(b:St S L h) (r:BW α) (T:TypeId) (a:Option Addr):St S (OS r T (.slice a 0 0) ([]:List α)::L) h:=
 (b.add (nJ _) (λ_ _=>rfl) ⟨λ_=>False,Or.inl ⟨⟨a,rfl⟩,rfl,λ_ x=>x⟩,λ_ x=>x.elim⟩).1
section
variable {P:Program}{ops:Array Oper}{C:World→Prop}{Q:Act→Prop}{Q2:Exit→Act→World→Prop}{n:FN}{m m':SM}{rest:List Oper}
variable {d:Nat}{ty:TypeId}{pos:String}{af:Array Edge}{X Y Z:Operand}{t:TypeId}{kd kd2:IntKind}{v p:Value}{S:Nat→Prop}{h:BL}{B:World}{L:List HP}
def Zd {α}{r:BW α}{e:TypeId}{l:List α}(j:CQ m X=some v) (o:CQ m Y=some (.int kd 0)) (p:CQ m Z=some (.int kd2 0)) (k0:Sl S h r v l) (q:K2 P t e r.sz=true) (hd:Nat.blt d n.1=true)
  (k:∀b,QF P ops C Q rest n ((d,.slice b 0 0)::m)):QF P ops C Q (⟨some d,.slice t X none (some Y) (some Z),ty,pos,af,none⟩::rest) n m:=λa c=>by
 obtain⟨i,s⟩:=Mn q
 obtain⟨b,len,cap,rfl⟩:∃b len cap,v= .slice b len cap:=by
  rcases k0 with ⟨g,_⟩|⟨a,cap,g,_⟩
  ·exact⟨none,0,0,g⟩
  ·exact⟨_,_,_,g⟩
 refine GP c hd (λw _=>?_) (k b)
 simp [execOp,c.eval j,c.eval o,c.eval p,run_sliceAt_slice _ _ _ _ _ _ i,run_slice_hm w t b len cap i kd kd2 0 0 (by omega) (by omega) (by omega),s,sliced]
def dJ {e sz:Nat}(g:CQ m X=some (.slice none 0 0)) (i:CQ m Y=some (.int kd 0)) (j:K2 P t e sz=true) (hd:Nat.blt d n.1=true)
  (k:QF P ops C Q rest n ((d,.slice none 0 0)::m)):QF P ops C Q (⟨some d,.slice t X none (some Y) none,ty,pos,af,none⟩::rest) n m:=λa b=>by
 obtain⟨c,l⟩:=Mn j
 refine GP b hd (λw _=>?_) k
 simp [execOp,b.eval g,b.eval i,run_sliceAt_slice _ _ _ _ _ _ c,run_slice_h w t none 0 0 c kd 0 (by omega) (by omega),l,sliced]
def Zc {e sz:Nat}(g:CQ m X=some (.slice none 0 0)) (i:CQ m Y=some (.int kd 0)) (j:CQ m Z=some (.int kd2 0)) (l:K2 P t e sz=true) (hd:Nat.blt d n.1=true)
  (k:QF P ops C Q rest n ((d,.slice none 0 0)::m)):QF P ops C Q (⟨some d,.slice t X none (some Y) (some Z),ty,pos,af,none⟩::rest) n m:=λa b=>by
 obtain⟨c,o⟩:=Mn l
 refine GP b hd (λw _=>?_) k
 simp [execOp,b.eval g,b.eval i,b.eval j,run_sliceAt_slice _ _ _ _ _ _ c,run_slice_hm w t none 0 0 c kd kd2 0 0 (by omega) (by omega) (by omega),o,sliced]
def Zp {t s e sz g:Nat}{z:List Value}{H I:IntKind}{y:Int}(J:CQ m X=some (.slice none 0 0)) (M:CQ m Y=some (.int H y)) (Q:Na P t=some (e,sz,g,z)) (U:P.underlying s=some (.int I))
  (h0:0<y) (u:room y.toNat g=true) (v:Nat.blt 0 g=true) (hd:Nat.blt d n.1=true) (V:St S L h)
  (k:∀b c' cs' h',y.toNat≤c'→c'≤maxLen→cs'.length=c'*sz→St S (Bx b e cs'::L) h'→Cv S h S h'→LF P ops Q2 rest B h' n ((d,.slice (some ⟨b,0,none⟩) y.toNat c')::m)):
  LF P ops Q2 (⟨some d,.call ⟨.builtin .append,#[X,Y],#[t,s]⟩,ty,pos,af,none⟩::rest) B h n m:=by
 intro a w x o
 obtain⟨j,rfl⟩:∃j:Nat,y=j:=⟨y.toNat,by omega⟩
 have u:=Oo u
 simp only[oW] at u k
 have p:0<g:=(by simpa [Nat.blt] using v:1≤g)
 obtain⟨i,l,W,Z,u3,u4,u5,u6,u7,u8⟩:=Kh Q
 have aa:j≤j*g:=Nat.le_mul_of_pos_right _ p
 have q:=Lib.run_append_nil_zeros (P:=P) w t s ty e i l H I W U Z u3 j (by omega) (by omega) (by omega) (by rw[u5];omega)
 refine wpList_plain rfl λK hK=>?_
 unfold Oper.wp
 have A:(execOp a.eval ⟨some d,.call ⟨.builtin .append,#[X,Y],#[t,s]⟩,ty,pos,af,none⟩).run P w= .ok (.value (.slice (some ⟨w.heap.size,0,none⟩) j (grownCap w j 0 e)))
   (w.drew.alloc (.cells (Builtin.zeroCells l.cells j++Builtin.zeroCells l.cells (grownCap w j 0 e-j)) e)):=by
  simp [execOp,resolve,invoke,builtin,x.eval J,x.eval M,q]
 rw[A]
 have C:=grownCap_ge w j 0 e
 have D:=grownCap_le_maxLen w j 0 e (by unfold maxLen;omega)
 have F:l.cells.size=sz:=by rw[u6];simpa using u7
 have c:=V.push e (Builtin.zeroCells l.cells j++Builtin.zeroCells l.cells (grownCap w j 0 e-j)).toList
 rw[Array.toArray_toList] at c
 have G:=(show Wd B h w.drew from⟨o.heap,o.os,o.tape,o.out⟩).alloc (.cells (Builtin.zeroCells l.cells j++Builtin.zeroCells l.cells (grownCap w j 0 e-j)) e)
 have hz:w.heap.size=h.size:=by rw[o.heap]
 rw[hz]
 refine hK _ _ (k _ _ _ _ C D ?_ c.1 c.2 _ _ (x.put hd _) G)
 simp only[Array.length_toList,Array.size_append,size_zeroCells,F,←pH]
 congr 1
 omega
def G3 {o:Oper}{j e:Nat}{b:Bool}(g:o.guard=some (j,b)) (i:(ops[j]?).bind (·.dst)=some e) (l:lk m e=some (.bool b)) (k:LF P ops Q2 ({ o with guard:=none}::rest) B h n m):LF P ops Q2 (o::rest) B h n m:=by
 intro a w d p
 have q:Region.wanted o (yielded ops a.tmps)=true:=by
  have:=d.at_ e _ l
  simp [Region.wanted,g,yielded,i,this]
 have c:=k a w d p
 unfold wpList at c ⊢
 rw[nD (by simp [Region.wanted])] at c
 rw[nD q]
 exact c
def mR {l:List Oper}{b c:Bool}(a:b=c) (k:QF P ops C Q l n ((d,.bool c)::m)):QF P ops C Q l n ((d,.bool b)::m):=a▸k
def HZ {l:List Oper}{b c:Bool}(a:b=c) (k:LF P ops Q2 l B h n ((d,.bool c)::m)):LF P ops Q2 l B h n ((d,.bool b)::m):=a▸k
def dI {b len cap e sz:Nat}(a:CQ m X=some (.slice (some ⟨b,0,none⟩) len cap)) (c:CQ m Y=some (.int kd 0)) (g:K2 P t e sz=true) (hd:Nat.blt d n.1=true)
  (k:QF P ops C Q rest n ((d,.slice (some ⟨b,0,none⟩) 0 cap)::m)):QF P ops C Q (⟨some d,.slice t X none (some Y) none,ty,pos,af,none⟩::rest) n m:=
 YZ a c (j:=0) rfl g (nE _) hd k
def lP (P:Program) (t:TypeId):Bool:=match P.underlying t with|some (.slice _)=>true|_=>false
def Zf (g:CQ m X=some v) (b:lP P t=true) (hd:Nat.blt d n.1=true) (k:QF P ops C Q rest n ((d,.iface t v)::m)):QF P ops C Q (⟨some d,.makeInterface t X,ty,pos,af,none⟩::rest) n m:=λa c=>by
 unfold lP at b
 split at b
 ·rename_i e i
  refine GP c hd (λw _=>?_) k
  simp [execOp,c.eval g,Instr.makeInterface,run_underlying i]
 ·cases b
end
end Go.Proofs.YtblcgjadhemlbaaGreat
namespace Go.Proofs.YtblcgjadhemlbaaGreat
set_option linter.all false
open Go.RowKit
def XD {α}{S:Nat→Prop}{h:BL}{r:BW α}{cs:List Value}:Kz S h r (cs.take (([]:List α).length*r.sz)) ([]:List α):=by
 show cs.take (0*r.sz)=[]
 rw[Nat.zero_mul];rfl
section
variable {P:Program}{ex:List (Nat×AP)}{RR N:AP}{cs:List Code}{B:World}{h:BL}{n:FN}{m m':SM}{S:Nat→Prop}{L:List HP}{C:World→Prop}{l:List Oper}{fuel:Nat}{listed:Array Bool}
variable {d:Nat}{ty:TypeId}{pos:String}{af:Array Edge}{X Y:Operand}{t:TypeId}{v:Value}
def HF (P:Program) (l:List Oper) (Q:Exit→Act→World→Prop) (C:World→Prop) (fuel:Nat) (listed:Array Bool) (B:World) (h:BL) (n:FN) (m:SM):Prop:=
 ∀a w,Fr n a m→Wd B h w→wpAnyH P .any l.toArray Q C fuel listed a w
abbrev QW (P:Program) (ex:List (Nat×AP)) (RR:AP) (cs:List Code) (N:AP):Exit→Act→World→Prop:=Qx ex RR (W P ex RR cs N)
def cH (l:List Oper) (listed:Array Bool) (i:Nat):Bool:=Region.noSelect l.toArray&&Region.free .any l.toArray listed i&&(Region.ready .any l.toArray listed).contains i
def aX {id:Nat}(C:World→Prop) (c:P.follows .mixedOrders=true) (k:HF P l (QW P ex RR cs N) C l.toArray.size (Array.replicate l.toArray.size false) B h n m):WF P ex RR (.region id l.toArray true::cs) N B h n m:=
 λa w d g i b=>Mr b Li c (wpAny_of_held _ _ _ _ (k a _ d g.drew))
def Qc {o:Op}(i:Nat) (q:l[i]? =some ⟨some d,o,ty,pos,af,none⟩) (c:cH l listed i=true) (s:∀w,Wd B h w→C w) (hd:Nat.blt d n.1=true)
  (b:∀a w,Fr n a m→C w→(execOp a.eval ⟨some d,o,ty,pos,af,none⟩).run P w= .ok (.value v) w) (k:HF P l (QW P ex RR cs N) C fuel (listed.setIfInBounds i true) B h n ((d,v)::m)):HF P l (QW P ex RR cs N) C (fuel+1) listed B h n m:=by
 intro a w j p
 simp only[cH,mY] at c
 exact wpAnyH_take (oi:=⟨some d,o,ty,pos,af,none⟩) (v:=v) (by simpa using q) c.1.1 c.1.2 c.2 (λ_ _ _ t=>t.elim) (.inl ⟨by simp [Region.wanted],λw' g=>b a w' j g⟩) (s w p) (k _ _ (j.put hd v) p)
def Qa (i:Nat) (b:l[i]? =some ⟨some d,.move X,ty,pos,af,none⟩) (c:cH l listed i=true) (g:∀w,Wd B h w→C w) (j:CQ m X=some v) (hd:Nat.blt d n.1=true) (k:HF P l (QW P ex RR cs N) C fuel (listed.setIfInBounds i true) B h n ((d,v)::m)):HF P l (QW P ex RR cs N) C (fuel+1) listed B h n m:=
 Qc i b c g hd (λa w o _=>by simp [execOp,o.eval j]) k
def Yg (i:Nat) (b:l[i]? =some ⟨some d,.assign X,ty,pos,af,none⟩) (c:cH l listed i=true) (g:∀w,Wd B h w→C w) (j:CQ m X=some v) (hd:Nat.blt d n.1=true) (k:HF P l (QW P ex RR cs N) C fuel (listed.setIfInBounds i true) B h n ((d,v)::m)):HF P l (QW P ex RR cs N) C (fuel+1) listed B h n m:=
 Qc i b c g hd (λa w o _=>by simp [execOp,o.eval j]) k
def Uh (i:Nat) {b o j off:Nat}(p:l[i]? =some ⟨some d,.fieldAddr t X j,ty,pos,af,none⟩) (c:cH l listed i=true) (q:∀w,Wd B h w→C w) (s:CQ m X=some (.pointer (some ⟨b,o,none⟩))) (u:GN P t j off=true) (hd:Nat.blt d n.1=true) (k:HF P l (QW P ex RR cs N) C fuel (listed.setIfInBounds i true) B h n ((d,.pointer (some ⟨b,o+off,none⟩))::m)):HF P l (QW P ex RR cs N) C (fuel+1) listed B h n m:=
 have g:(⟨b,o,none⟩:Addr).add off=⟨b,o+off,none⟩:=by unfold Addr.add;split<;>simp_all
 Qc i p c q hd (λa w v _=>by simp [execOp,v.eval s,Mq u,g]) k
def Qb (i:Nat) {b o sz T:Nat}{ag:Bool}{q vs:List Value}(s:l[i]? =some ⟨some d,.load t X,ty,pos,af,none⟩) (c:cH l listed i=true) (u:∀w,Wd B h w→C w) (v:CQ m X=some (.pointer (some ⟨b,o,none⟩))) (y:∀w,C w→w.heap[b]? =some (.cells q.toArray T (0,0))) (z:(q.drop o).take sz=vs) (A:Nat.beq vs.length sz=true) (D:Iz P t sz ag=true) (F:(ag||Nat.beq sz 1)=true) (hd:Nat.blt d n.1=true)
  (k:HF P l (QW P ex RR cs N) C fuel (listed.setIfInBounds i true) B h n ((d,if ag then .agg vs.toArray else vs.headD undef)::m)):HF P l (QW P ex RR cs N) C (fuel+1) listed B h n m:=
 Qc i s c u hd (λa w G H=>by
  have I:(Bx b T q).holds (λ_=>True) (λx=>x=b) w.heap:=⟨λ_=>Iff.rfl,y w H⟩
  have g:=nI A
  have:=MB (P:=P) (w:=w) (S:=λ_=>True) (p:= .pointer (some ⟨b,o,none⟩)) (cs:=vs) (sz:=sz) (ag:=ag) (t:=t) ⟨⟨b,o,none⟩,rfl,rfl,trivial,λj J=>by
   rw[Bx.cell I,←z,pA (by omega),qM]⟩ g D (λe=>by subst e;simpa using F)
  simp [execOp,G.eval v,this]) k
def Ug (i:Nat) {α}{r:BW α}{xs:List α}{T e:Nat}{j:Int}{x:α}(s:l[i]? =some ⟨some d,.indexAddr t X Y,ty,pos,af,none⟩) (c:cH l listed i=true) (u:∀w,Wd B h w→C w) (y:St S L h) (z:OS r T v xs∈L) (A:CQ m X=some v) (D:CQ m Y=some (.int .i64 j)) (F:K2 P t e r.sz=true) (o:ix xs j=some x) (hd:Nat.blt d n.1=true)
  (k:∀q,EP v (j.toNat*r.sz+0) q→HF P l (QW P ex RR cs N) C fuel (listed.setIfInBounds i true) B h n ((d,q)::m)):HF P l (QW P ex RR cs N) C (fuel+1) listed B h n m:=by
 obtain⟨g,cap,rfl,H⟩:=y.osAt z (Eu o).2
 have G:j.toNat<xs.length:=(nK.1 (Eu o).2).1
 have b:(⟨g,0,none⟩:Addr).add (j.toNat*r.sz)=⟨g,j.toNat*r.sz,none⟩:=by unfold Addr.add;split<;>simp_all
 exact Qc i s c u hd (λa w p I=>by simp [execOp,p.eval A,p.eval D,LW (P:=P) (w:=w) (cap:=cap) (a:=⟨g,0,none⟩) F (Eu o).1 G,b]) (k _ ⟨g,_,_,rfl,rfl⟩)
def Zs (i:Nat) {o:Oper}(p:l[i]? =some o) (d:o.guard=none) (c:Region.ready .any l.toArray listed=[i])
  (k:LF P l.toArray (Exit.then (λq w'=>C w'∧wpAnyH P .any l.toArray (QW P ex RR cs N) C fuel (listed.setIfInBounds i true) q w') (QW P ex RR cs N)) [o] B h n m):HF P l (QW P ex RR cs N) C (fuel+1) listed B h n m:=by
 intro a w s t
 refine wpAnyH_all c (by simp) λj g=>?_
 rw[pJ] at g
 subst g
 unfold wpOp
 have b:l.toArray[j]? =some o:=by simpa using p
 simp only[b]
 rw[nD (by simp [Region.wanted,d])]
 exact Hd d (k a w s t)
def Vo {Q:Exit→Act→World→Prop}{b:Array Oper}(d:∀w,Wd B h w→C w) (k:HF P l (QW P ex RR cs N) C fuel listed B h n m):LF P b (Exit.then (λg w'=>C w'∧wpAnyH P .any l.toArray (QW P ex RR cs N) C fuel listed g w') Q) [] B h n m:=
 λa w i c=>⟨d w c,k a w i c⟩
def Vp (c:Region.ready .any l.toArray listed=[]) (b:Rf m m') (k:WF P ex RR cs N B h n m'):HF P l (QW P ex RR cs N) C fuel listed B h n m:=
 λa w d g=>wpAnyH_done c (k a w (d.sub b) g) _
def St.bxW {b T:Nat}{vs:List Value}(a:St S L h) (c:Bx b T vs∈L) {w:World}(d:Wd B h w):w.heap[b]? =some (.cells vs.toArray T (0,0)):=by
 rw[d.heap];exact a.bxcell c
end
end Go.Proofs.YtblcgjadhemlbaaGreat
namespace Go.Proofs.YtblcgjadhemlbaaGreat
set_option linter.all false
open Go.RowKit
abbrev vI (n:Int):Value:= .int .i64 n
abbrev vP (b o:Nat):Value:= .pointer (some ⟨b,o,none⟩)
abbrev vN:Value:= .slice none 0 0
section
variable {P:Program}{ops:Array Oper}{C:World→Prop}{Q:Act→Prop}{n:FN}{m m':SM}{rest:List Oper}
variable {d:Nat}{ty:TypeId}{pos:String}{af:Array Edge}{X Y:Operand}{t t1 t2:TypeId}{x y:Int}{kd:IntKind}{v p:Value}
def AA (e:(CQ m X,Nat.blt d n.1)=(some v,true)) (k:QF P ops C Q rest n ((d,v)::m)):QF P ops C Q (⟨some d,.move X,ty,pos,af,none⟩::rest) n m:=
 kA (nF (λz=>z.1) e) (nF (λz=>z.2) e) k
def AY (e:(CQ m X,Nat.blt d n.1)=(some v,true)) (k:QF P ops C Q rest n ((d,v)::m)):QF P ops C Q (⟨some d,.assign X,ty,pos,af,none⟩::rest) n m:=
 eB (nF (λz=>z.1) e) (nF (λz=>z.2) e) k
def CE {b}(e:(CQ m X,Nat.blt d n.1)=(some (.bool b),true)) (k:QF P ops C Q rest n ((d,.bool (!b))::m)):QF P ops C Q (⟨some d,.unOp .not t1 X,ty,pos,af,none⟩::rest) n m:=
 dL (nF (λz=>z.1) e) (nF (λz=>z.2) e) k
def AB {o:Oper}{j e:Nat}{b:Bool}(e:(o.guard,(ops[j]?).bind (·.dst),lk m e)=(some (j,b),some e,some (.bool b))) (k:QF P ops C Q ({ o with guard:=none}::rest) n m):QF P ops C Q (o::rest) n m:=
 Yb (nF (λz=>z.1) e) (nF (λz=>z.2.1) e) (nF (λz=>z.2.2) e) k
def AL {c X Y:Operand}{b:Bool}(e:(CQ m c,CQ m (if b then X else Y),Nat.blt d n.1)=(some (.bool b),some v,true)) (k:QF P ops C Q rest n ((d,v)::m)):QF P ops C Q (⟨some d,.pick c X Y,ty,pos,af,none⟩::rest) n m:=
 Sg (nF (λz=>z.1) e) (nF (λz=>z.2.1) e) (nF (λz=>z.2.2) e) k
def BK (e:(CQ m X,CQ m Y,Nat.blt d n.1)=(some (.int kd x),some (.int kd y),true)) (k:QF P ops C Q rest n ((d,.bool (decide (x<y)))::m)):QF P ops C Q (⟨some d,.binOp .lss t1 X Y t2,ty,pos,af,none⟩::rest) n m:=
 dO (nF (λz=>z.1) e) (nF (λz=>z.2.1) e) (nF (λz=>z.2.2) e) k
def HO (e:(CQ m X,CQ m Y,Nat.blt d n.1)=(some (.int kd x),some (.int kd y),true)) (k:QF P ops C Q rest n ((d,.bool (decide (x≤y)))::m)):QF P ops C Q (⟨some d,.binOp .leq t1 X Y t2,ty,pos,af,none⟩::rest) n m:=
 dQ (nF (λz=>z.1) e) (nF (λz=>z.2.1) e) (nF (λz=>z.2.2) e) k
def CP (e:(CQ m X,CQ m Y,Nat.blt d n.1)=(some (.int kd x),some (.int kd y),true)) (k:QF P ops C Q rest n ((d,.bool (decide (y<x)))::m)):QF P ops C Q (⟨some d,.binOp .gtr t1 X Y t2,ty,pos,af,none⟩::rest) n m:=
 dU (nF (λz=>z.1) e) (nF (λz=>z.2.1) e) (nF (λz=>z.2.2) e) k
def HQ (e:(CQ m X,CQ m Y,Nat.blt d n.1)=(some (.int kd x),some (.int kd y),true)) (k:QF P ops C Q rest n ((d,.bool (decide (y≤x)))::m)):QF P ops C Q (⟨some d,.binOp .geq t1 X Y t2,ty,pos,af,none⟩::rest) n m:=
 dX (nF (λz=>z.1) e) (nF (λz=>z.2.1) e) (nF (λz=>z.2.2) e) k
def B9 (e:(CQ m X,CQ m Y,Nat.blt d n.1)=(some (.int kd x),some (.int kd y),true)) (k:QF P ops C Q rest n ((d,.bool (decide (x=y)))::m)):QF P ops C Q (⟨some d,.binOp .eql t1 X Y t2,ty,pos,af,none⟩::rest) n m:=
 dZ (nF (λz=>z.1) e) (nF (λz=>z.2.1) e) (nF (λz=>z.2.2) e) k
def CW (e:(CQ m X,CQ m Y,Nat.blt d n.1)=(some (.int kd x),some (.int kd y),true)) (k:QF P ops C Q rest n ((d,.bool (decide (x≠y)))::m)):QF P ops C Q (⟨some d,.binOp .neq t1 X Y t2,ty,pos,af,none⟩::rest) n m:=
 dN (nF (λz=>z.1) e) (nF (λz=>z.2.1) e) (nF (λz=>z.2.2) e) k
def BB (e:(CQ m X,CQ m Y,Nat.blt d n.1)=(some (.int .i64 x),some (.int .i64 y),true)) (k:QF P ops C Q rest n ((d,.int .i64 (B0 (x+y)))::m)):QF P ops C Q (⟨some d,.binOp .add t1 X Y t2,ty,pos,af,none⟩::rest) n m:=
 Zl (nF (λz=>z.1) e) (nF (λz=>z.2.1) e) (nF (λz=>z.2.2) e) k
def Dk (e:(CQ m X,CQ m Y,Nat.blt d n.1)=(some (.int .i64 x),some (.int .i64 y),true)) (k:QF P ops C Q rest n ((d,.int .i64 (B0 (x-y)))::m)):QF P ops C Q (⟨some d,.binOp .sub t1 X Y t2,ty,pos,af,none⟩::rest) n m:=
 Za (nF (λz=>z.1) e) (nF (λz=>z.2.1) e) (nF (λz=>z.2.2) e) k
def CS {xs:Array Value}{i:Nat}{u:Value}(e:(CQ m X,xs[i]?,Nat.blt d n.1)=(some (.tuple xs),some u,true)) (k:QF P ops C Q rest n ((d,u)::m)):QF P ops C Q (⟨some d,.extract X i,ty,pos,af,none⟩::rest) n m:=
 dY (nF (λz=>z.1) e) (nF (λz=>z.2.1) e) (nF (λz=>z.2.2) e) k
def BM {o:Oper}{j e:Nat}(e:(o.guard,(ops[j]?).bind (·.dst),lk m e,o.dst,Nat.blt d n.1)=(some (j,true),some e,some (.bool false),some d,true)) (k:QF P ops C Q rest n ((d,undef)::m)):QF P ops C Q (o::rest) n m:=
 dW (nF (λz=>z.1) e) (nF (λz=>z.2.1) e) (nF (λz=>z.2.2.1) e) (nF (λz=>z.2.2.2.1) e) (nF (λz=>z.2.2.2.2) e) k
def AD {b o j off}(a:GN P t j off=true) (e:(CQ m X,Nat.blt d n.1)=(some (.pointer (some ⟨b,o,none⟩)),true)) (k:QF P ops C Q rest n ((d,.pointer (some ⟨b,o+off,none⟩))::m)):QF P ops C Q (⟨some d,.fieldAddr t X j,ty,pos,af,none⟩::rest) n m:=
 Yc (nF (λz=>z.1) e) a (nF (λz=>z.2) e) k
end
section
variable {P:Program}{ex:List (Nat×AP)}{R N:AP}{cs:List Code}{B:World}{h:BL}{n:FN}{m m':SM}
def AI {l:List Oper}{id:Nat}{y:Code}(k:QF P l.toArray (Wd B h) (λa=>∀w,Wd B h w→W P ex R (y::cs) N a w) l n m):WF P ex R (.seq (.region id l.toArray false) y::cs) N B h n m:=AE (CN (.inl rfl) k)
def WF.sl {l:List Oper}{id:Nat}{y:Code}(k:LF P l.toArray (Qx ex R (W P ex R (y::cs) N)) l B h n m):WF P ex R (.seq (.region id l.toArray false) y::cs) N B h n m:=AE (FO k)
def AM {ops:Array Oper}{C:World→Prop}{d:Nat}{ty:TypeId}{pos:String}{af:Array Edge}{X:Operand}{v:Value}(e:(CQ m X,Nat.blt d n.1)=(some v,true)) (b:Rf ((d,v)::m) m') (k:WF P ex R cs N B h n m'):QF P ops C (λa=>∀w,Wd B h w→W P ex R cs N a w) [⟨some d,.assign X,ty,pos,af,none⟩] n m:=AY e (AN b k)
def AX {ex:List (Nat×AP)}{R N:AP}{m:SM}{b:Bool}{k:Type}{a d r:k}{X:Operand}{x y:Code}(g:CQ m X=some (.bool b)) (E:cond b a d=r) (i:b=true→a=r→WF P ex R (x::cs) N B h n m) (j:b=false→d=r→WF P ex R (y::cs) N B h n m):WF P ex R (.cond X x y::cs) N B h n m:=dH g (λc=>i c (HE c E)) (λc=>j c (HG c E))
def AO {P:Program}{ops:Array Oper}{C:World→Prop}{Q:Exit→Act→World→Prop}{B:World}{n:FN}{d:Nat}{R:Value→BL→Prop}{h:BL}{m:SM}{v:Value}(r:R v h):QF P ops C (λa=>∀w,Wd B h w→wpList P ops (Exit.then (KS B n d R h m) Q) [] a w) [] n ((d,v)::m):=AG (DV (Fp.refl _) r)
end
end Go.Proofs.YtblcgjadhemlbaaGreat
namespace Go.Proofs.YtblcgjadhemlbaaGreat
set_option linter.all false
def PM (R:Nat→Int) (a b:Nat):Bool:=cond (!decide (R a=R b)) (decide (R b<R a)) (decide (a<b))
def Qs (lt:Int→Int→Bool) (x:Int):List Int→List Int
 |[]=>[x]
 |y::l=>cond (lt y x) (y::Qs lt x l) (x::y::l)
def Lv (lt:Int→Int→Bool):List Int→List Int
 |[]=>[]
 |x::l=>Qs lt x (Lv lt l)
def O5 (c:List Int) (a b:Int):Bool:=PM (λt=>c.getD t 0) a.toNat b.toNat
def P3 (a b:List Int):Option (List Int):=
 if a.length=b.length∧1≤a.length∧a.length≤64∧(a.all λx=>decide (0≤x)&&decide (x<a.length))=true then some (Lv (O5 b) a) else none
def NJ (lt:Int→Int→Bool) (x:Int):∀l,(Qs lt x l).Perm (x::l)
 |[]=> .refl _
 |y::l=>by
  unfold Qs
  cases lt y x with
  |true=>exact((NJ lt x l).cons y).trans (.swap x y l)
  |false=>exact .refl _
def LH (lt:Int→Int→Bool):∀l,(Lv lt l).Perm l
 |[]=> .refl _
 |x::l=>(NJ lt x _).trans ((LH lt l).cons x)
end Go.Proofs.YtblcgjadhemlbaaGreat
