import Derived.Test.YtibidnaedddfdaaGreatACore18
namespace Go.Proofs.YtibidnaedddfdaaGreat
open Go.RowKit
set_option linter.unusedVariables false
set_option linter.unusedSimpArgs false
def Xi:List Nat→SM→Option SM
 |[],_=>some []
 |k::ks,m=>match lk m k with
  |some v=>match Xi ks m with
   |some r=>some ((k,v)::r)
   |none=>none
  |none=>none
theorem kp:∀{m m':SM}(ks:List Nat),Xi ks m=some m'→PL m m'
 |m,m',[],h=>by cases h;trivial
 |m,m',k::ks,h=>by
  simp only[Xi] at h
  split at h
  ·rename_i v hv
   split at h
   ·rename_i r hr
    cases h
    exact⟨hv,kp ks hr⟩
   ·cases h
  ·cases h
def RS {α:Type}(S:Nat→Prop) (h:Ad) (r:AW α) (T:TypeId) (l:List α) (v:Value) (hh:Ad):Prop:=∃g cap,v= .slice (some ⟨g,0,none⟩) l.length cap∧h.size≤g∧g<hh.size∧(OS r T v l).holds S (λb=>b=g) hh
theorem RS.mono {α:Type}{S:Nat→Prop}{h h1 h2:Ad}{r:AW α}{T:TypeId}{l:List α}{v:Value}(k:RS S h r T l v h1) (hS:∀b,S b→b<h.size) (o:Ap h1 h2):RS S h r T l v h2:=by
 obtain⟨g,cap,k1,k2,k3,k4⟩:=k
 exact⟨g,cap,k1,k2,Nat.lt_of_lt_of_le k3 o.siz,HP.loc _ k4 (λ_ x=>x) λb hb=>o.same b (hb.elim (λx=>by have:=hS b x;omega) λx=>by subst x;exact k3)⟩
theorem U1 {α:Type}{S:Nat→Prop}{h:Ad}{r:AW α}{T:TypeId}{l:List α}:NC (RS S h r T l):=λv hh ⟨g,_,k1,_,k3,_⟩=>⟨g,by rw[k1];rfl,k3⟩
theorem JY {α:Type}{R:AR}{S:Nat→Prop}{h:Ad}{r:AW α}{a T:Nat}{l:List α}{is:List Nat}(e:R a=RS S h r T l) (t:∀i,i∈is→NC (R i)):∀i,i∈a::is→NC (R i):=P6 (by rw[e];exact U1) t
theorem Ii {α:Type}{S:Nat→Prop}{L:List HP}{h h2:Ad}{bs:List Nat}{r:AW α}{g T:Nat}{v:Value}{l:List α}(k:MY S h h2 bs L) (h1:h.size≤g) (h3:g<h2.size) (h4:(OS r T v l).holds S (λb=>b=g) h2) (hn:g∉bs):MY S h h2 (g::bs) (OS r T v l::L):=by
 obtain⟨k1,k2,k3,k4⟩:=k
 refine⟨k1,k2,λc hc=>?_,λc=>c=g,h4,λc hc=>by subst hc;exact .inr (List.mem_cons_self ..),k4.mono λc hc=>⟨hc.imp_right (List.mem_cons_of_mem _),λe=>?_⟩⟩
 ·rcases List.mem_cons.1 hc with rfl|hc
  ·exact⟨h1,h3⟩
  ·exact k3 c hc
 ·subst e
  rcases hc with hc|hc
  ·have:=hc.1;omega
  ·exact hn hc
theorem Mr {α:Type}{P:Program}{ops:Array Oper}{Q:Exit→Act→World→Prop}{n:FN}{m:SM}{rest:List Oper}{d:Nat}{ty:TypeId}{pos:String}{af:Array Edge}{B:World}{S:Nat→Prop}{h0 h:Ad}{r:AW α}{T e sz by_:Nat}{z:List Value}{zx:α}{len cap:Int}{kl kc:IntKind}{U V:Operand}(he:Lt P T=some (e,sz,by_,z)) (hrs:r.sz=sz) (hz:r.rd S h z zx)
  (hx:BG m U=some (.int kl len)) (hy:BG m V=some (.int kc cap)) (hok:L7 len cap by_=true) (hpos:Nat.blt 0 by_=true) (hd:Nat.blt d n.1=true) (o:Ap h0 h) (hS:∀b,S b→b<h0.size)
  (k:∀v h',Ap h h'→RS S h0 r e (List.replicate len.toNat zx) v h'→RT h v→LF P ops Q rest B h' n ((d,v)::m)):LF P ops Q (⟨some d,.makeSlice T U V,ty,pos,af,none⟩::rest) B h n m:=by
 simp only[L7,Bool.and_eq_true,decide_eq_true_eq] at hok
 obtain⟨⟨h0',h1'⟩,h2'⟩:=hok
 obtain⟨a,rfl⟩:∃a:Nat,len=a:=⟨len.toNat,by omega⟩
 obtain⟨c,rfl⟩:∃c:Nat,cap=c:=⟨cap.toNat,by omega⟩
 have h3':((by_*c:Nat):Int)≤140737488355328:=by rw[Int.natCast_mul];exact h2'
 have h4':1≤by_:=by simpa [Nat.blt] using hpos
 have h5':c≤by_*c:=Nat.le_mul_of_pos_left _ h4'
 have hlc:a≤c:=by omega
 have hmx:c≤maxLen:=by unfold maxLen;omega
 intro ac w hf hw
 refine wpList_plain rfl λK hK=>?_
 unfold Oper.wp
 obtain⟨i,zv,h1,h2,h3,h4,h5,h6,h7,h8⟩:=ID he
 have hmk:=run_make (P:=P) w T e i zv h1 h2 h3 kl kc (a:Int) (c:Int) (by omega) (by omega) (by rw[h5];omega) (by unfold maxLen at hmx;omega)
 simp only[Int.toNat_natCast,h6,h4] at hmk
 have hrun:(execOp ac.eval ⟨some d,.makeSlice T U V,ty,pos,af,none⟩).run P w= .ok (.value (.slice (some ⟨w.heap.size,0,none⟩) a c)) (w.alloc (.cells (madeCells z.toArray (c*sz)) e)):=by
  simp [execOp,hf.eval hx,hf.eval hy,hmk]
 rw[hrun]
 have hS':∀b,S b→b<h.size:=λb hb=>Nat.lt_of_lt_of_le (hS b hb) o.siz
 have hcells:(madeCells z.toArray (c*sz)).toList=(List.replicate c z).flatten:=by rw[←h7];exact Im z c (by omega)
 have hne:(OS r e (.slice (some ⟨h.size,0,none⟩) a c) (List.replicate a zx)).holds S (λb=>b=h.size) (h.push (.cells (madeCells z.toArray (c*sz)) e)):=by
  refine .inr ⟨h.size,c,madeCells z.toArray (c*sz),by simp,λ_=>Iff.rfl,G8 _ _,by simpa using hlc,hmx,by rw[size_madeCells,hrs],?_⟩
  rw[hcells]
  have:((List.replicate c z).flatten).take ((List.replicate a zx).length*r.sz)=(List.replicate a z).flatten:=by
   obtain⟨j,rfl⟩:=Nat.exists_eq_add_of_le hlc
   rw[←List.replicate_append_replicate,List.flatten_append,List.length_replicate,hrs,←h7]
   have:(List.replicate a z).flatten.length=a*z.length:=by simp
   rw[←this,List.take_left]
  rw[this]
  exact(M2 hz a).mono (λ_ x=>x) λb hb=>DO _ _ _ (hS' b hb)
 have hsz:=hw.heap
 have:=k (.slice (some ⟨w.heap.size,0,none⟩) a c) (h.push (.cells (madeCells z.toArray (c*sz)) e)) ⟨by simp,λb hb=>DO _ _ _ hb⟩ (by rw[hsz];exact⟨h.size,c,by simp,o.siz,by simp,by simpa using hne⟩) ⟨h.size,by rw[hsz];rfl,Nat.le_refl _⟩
 exact hK _ _ (this _ _ (hf.put hd _) (hw.alloc _))
def U4:Qf Int:=λ_ _ vs x=>vs=[.int .i64 x]∧AB x
def UJ {α:Type}(r:AW α):Qf (Int×List α):=λS h vs x=>∃v,vs=[.int .i64 x.1,v]∧AB x.1∧Sl S h r v x.2
theorem U4.len {S:Nat→Prop}{h:Ad}{vs:List Value}{x:Int}(k:U4 S h vs x):vs.length=1:=by rw[k.1];rfl
theorem U4.mono {S S':Nat→Prop}{h h':Ad}{vs:List Value}{x:Int}(k:U4 S h vs x) (_:BO S h S' h'):U4 S' h' vs x:=k
theorem UJ.len {α:Type}{r:AW α}{S:Nat→Prop}{h:Ad}{vs:List Value}{x:Int×List α}(k:UJ r S h vs x):vs.length=2:=by obtain⟨v,e,_⟩:=k;rw[e];rfl
theorem UJ.mono {α:Type}{r:AW α}{S S':Nat→Prop}{h h':Ad}{vs:List Value}{x:Int×List α}(k:UJ r S h vs x) (e:BO S h S' h'):UJ r S' h' vs x:=by obtain⟨v,k1,k2,k3⟩:=k;exact⟨v,k1,k2,k3.mono' e⟩
theorem Mi {P:Program}{ex:List (Nat×AP)}{R N:AP}{cs:List Code}:∀a w,¬Qx ex R (W P ex R cs N) .outgrown a w:=λ_ _ x=>x
theorem Yq (a:Value) (l:List Value):(#[a]++l.toArray:Array Value)=(a::l).toArray:=by simp
end Go.Proofs.YtibidnaedddfdaaGreat
