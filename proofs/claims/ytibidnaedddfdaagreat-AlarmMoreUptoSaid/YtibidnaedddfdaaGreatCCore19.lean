import Derived.Test.YtibidnaedddfdaaGreatCCore18
namespace Go.Proofs.YtibidnaedddfdaaGreat
open Go.RowKit
set_option linter.unusedVariables false
set_option linter.unusedSimpArgs false
def Y9:List Nat→SM→Option SM
 |[],_=>some []
 |k::ks,m=>match lk m k with
  |some v=>match Y9 ks m with
   |some r=>some ((k,v)::r)
   |none=>none
  |none=>none
theorem kp:∀{m m':SM}(ks:List Nat),Y9 ks m=some m'→PJ m m'
 |m,m',[],h=>by cases h;trivial
 |m,m',k::ks,h=>by
  simp only[Y9] at h
  split at h
  ·rename_i v hv
   split at h
   ·rename_i r hr
    cases h
    exact⟨hv,kp ks hr⟩
   ·cases h
  ·cases h
def WG {α:Type}(S:Nat→Prop) (h:AX) (r:AV α) (T:TypeId) (l:List α) (v:Value) (hh:AX):Prop:=∃g cap,v= .slice (some ⟨g,0,none⟩) l.length cap∧h.size≤g∧g<hh.size∧(OS r T v l).holds S (λb=>b=g) hh
theorem WG.mono {α:Type}{S:Nat→Prop}{h h1 h2:AX}{r:AV α}{T:TypeId}{l:List α}{v:Value}(k:WG S h r T l v h1) (hS:∀b,S b→b<h.size) (o:BX h1 h2):WG S h r T l v h2:=by
 obtain⟨g,cap,k1,k2,k3,k4⟩:=k
 exact⟨g,cap,k1,k2,Nat.lt_of_lt_of_le k3 o.siz,HP.loc _ k4 (λ_ x=>x) λb hb=>o.same b (hb.elim (λx=>by have:=hS b x;omega) λx=>by subst x;exact k3)⟩
theorem WE {α:Type}{S:Nat→Prop}{h:AX}{r:AV α}{T:TypeId}{l:List α}:Mu (WG S h r T l):=λv hh ⟨g,_,k1,_,k3,_⟩=>⟨g,by rw[k1];rfl,k3⟩
theorem U0 {α:Type}{R:AR}{S:Nat→Prop}{h:AX}{r:AV α}{a T:Nat}{l:List α}{is:List Nat}(e:R a=WG S h r T l) (t:∀i,i∈is→Mu (R i)):∀i,i∈a::is→Mu (R i):=QP (by rw[e];exact WE) t
theorem Sn {α:Type}{S:Nat→Prop}{L:List HP}{h h2:AX}{bs:List Nat}{r:AV α}{g T:Nat}{v:Value}{l:List α}(k:OA S h h2 bs L) (h1:h.size≤g) (h3:g<h2.size) (h4:(OS r T v l).holds S (λb=>b=g) h2) (hn:g∉bs):OA S h h2 (g::bs) (OS r T v l::L):=by
 obtain⟨k1,k2,k3,k4⟩:=k
 refine⟨k1,k2,λc hc=>?_,λc=>c=g,h4,λc hc=>by subst hc;exact .inr (List.mem_cons_self ..),k4.mono λc hc=>⟨hc.imp_right (List.mem_cons_of_mem _),λe=>?_⟩⟩
 ·rcases List.mem_cons.1 hc with rfl|hc
  ·exact⟨h1,h3⟩
  ·exact k3 c hc
 ·subst e
  rcases hc with hc|hc
  ·have:=hc.1;omega
  ·exact hn hc
theorem YG {α:Type}{P:Program}{ops:Array Oper}{Q:Exit→Act→World→Prop}{n:FN}{m:SM}{rest:List Oper}{d:Nat}{ty:TypeId}{pos:String}{af:Array Edge}{B:World}{S:Nat→Prop}{h0 h:AX}{r:AV α}{T e sz by_:Nat}{z:List Value}{zx:α}{len cap:Int}{kl kc:IntKind}{U V:Operand}(he:LR P T=some (e,sz,by_,z)) (hrs:r.sz=sz) (hz:r.rd S h z zx)
  (hx:BP m U=some (.int kl len)) (hy:BP m V=some (.int kc cap)) (hok:I6 len cap by_=true) (hpos:Nat.blt 0 by_=true) (hd:Nat.blt d n.1=true) (o:BX h0 h) (hS:∀b,S b→b<h0.size)
  (k:∀v h',BX h h'→WG S h0 r e (List.replicate len.toNat zx) v h'→Oc h v→LF P ops Q rest B h' n ((d,v)::m)):LF P ops Q (⟨some d,.makeSlice T U V,ty,pos,af,none⟩::rest) B h n m:=by
 simp only[I6,Bool.and_eq_true,decide_eq_true_eq] at hok
 obtain⟨⟨h0',h1'⟩,h2'⟩:=hok
 obtain⟨a,rfl⟩:∃a:Nat,len=a:=⟨len.toNat,by omega⟩
 obtain⟨c,rfl⟩:∃c:Nat,cap=c:=⟨cap.toNat,by omega⟩
 have h3':((by_*c:Nat):Int)≤140737488355328:=by rw[Int.natCast_mul];exact h2'
 have h4':1≤by_:=by simpa [Nat.blt] using hpos
 have h5':c≤by_*c:=Nat.le_mul_of_pos_left _ h4'
 have hlc:a≤c:=by omega
 have hmx:c≤maxLen:=by unfold maxLen;omega
 intro ac w hf hw
 refine wpList_plain rfl λK hK=>?_
 unfold Oper.wp
 obtain⟨i,zv,h1,h2,h3,h4,h5,h6,h7,h8⟩:=Ht he
 have hmk:=run_make (P:=P) w T e i zv h1 h2 h3 kl kc (a:Int) (c:Int) (by omega) (by omega) (by rw[h5];omega) (by unfold maxLen at hmx;omega)
 simp only[Int.toNat_natCast,h6,h4] at hmk
 have hrun:(execOp ac.eval ⟨some d,.makeSlice T U V,ty,pos,af,none⟩).run P w= .ok (.value (.slice (some ⟨w.heap.size,0,none⟩) a c)) (w.alloc (.cells (madeCells z.toArray (c*sz)) e)):=by
  simp [execOp,hf.eval hx,hf.eval hy,hmk]
 rw[hrun]
 have hS':∀b,S b→b<h.size:=λb hb=>Nat.lt_of_lt_of_le (hS b hb) o.siz
 have hcells:(madeCells z.toArray (c*sz)).toList=(List.replicate c z).flatten:=by rw[←h7];exact IN z c (by omega)
 have hne:(OS r e (.slice (some ⟨h.size,0,none⟩) a c) (List.replicate a zx)).holds S (λb=>b=h.size) (h.push (.cells (madeCells z.toArray (c*sz)) e)):=by
  refine .inr ⟨h.size,c,madeCells z.toArray (c*sz),by simp,λ_=>Iff.rfl,HE _ _,by simpa using hlc,hmx,by rw[size_madeCells,hrs],?_⟩
  rw[hcells]
  have:((List.replicate c z).flatten).take ((List.replicate a zx).length*r.sz)=(List.replicate a z).flatten:=by
   obtain⟨j,rfl⟩:=Nat.exists_eq_add_of_le hlc
   rw[←List.replicate_append_replicate,List.flatten_append,List.length_replicate,hrs,←h7]
   have:(List.replicate a z).flatten.length=a*z.length:=by simp
   rw[←this,List.take_left]
  rw[this]
  exact(Mg hz a).mono (λ_ x=>x) λb hb=>ES _ _ _ (hS' b hb)
 have hsz:=hw.heap
 have:=k (.slice (some ⟨w.heap.size,0,none⟩) a c) (h.push (.cells (madeCells z.toArray (c*sz)) e)) ⟨by simp,λb hb=>ES _ _ _ hb⟩ (by rw[hsz];exact⟨h.size,c,by simp,o.siz,by simp,by simpa using hne⟩) ⟨h.size,by rw[hsz];rfl,Nat.le_refl _⟩
 exact hK _ _ (this _ _ (hf.put hd _) (hw.alloc _))
def WM:RC Int:=λ_ _ vs x=>vs=[.int .i64 x]∧AB x
def PQ {α:Type}(r:AV α):RC (Int×List α):=λS h vs x=>∃v,vs=[.int .i64 x.1,v]∧AB x.1∧Sl S h r v x.2
theorem WM.len {S:Nat→Prop}{h:AX}{vs:List Value}{x:Int}(k:WM S h vs x):vs.length=1:=by rw[k.1];rfl
theorem WM.mono {S S':Nat→Prop}{h h':AX}{vs:List Value}{x:Int}(k:WM S h vs x) (_:Bc S h S' h'):WM S' h' vs x:=k
theorem PQ.len {α:Type}{r:AV α}{S:Nat→Prop}{h:AX}{vs:List Value}{x:Int×List α}(k:PQ r S h vs x):vs.length=2:=by obtain⟨v,e,_⟩:=k;rw[e];rfl
theorem PQ.mono {α:Type}{r:AV α}{S S':Nat→Prop}{h h':AX}{vs:List Value}{x:Int×List α}(k:PQ r S h vs x) (e:Bc S h S' h'):PQ r S' h' vs x:=by obtain⟨v,k1,k2,k3⟩:=k;exact⟨v,k1,k2,k3.mono' e⟩
theorem Kn {P:Program}{ex:List (Nat×AP)}{R N:AP}{cs:List Code}:∀a w,¬Qx ex R (W P ex R cs N) .outgrown a w:=λ_ _ x=>x
theorem Zo (a:Value) (l:List Value):(#[a]++l.toArray:Array Value)=(a::l).toArray:=by simp
end Go.Proofs.YtibidnaedddfdaaGreat
