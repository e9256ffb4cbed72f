import Derived.Test.YtabonambpbofgaaGreatNInst
import Derived.Test.YtabonambpbofgaaGreatNCore26
import Derived.Test.YtabonambpbofgaaGreatNSortD
import Derived.Test.YtabonambpbofgaaGreatRows
import Derived.Shelf.GgSortFunc.Whole
import Derived.Shelf.GgSortFunc.Tiny
import Derived.Deep.QuietTactic
import Derived.WalkKit
import Derived.Sort.LotA
import Derived.Test.YtabonambpbofgaaGreatNCore31
namespace Go.Proofs.YtabonambpbofgaaGreat
set_option linter.all false
open Go.RowKit
def Rk (f:Int→Nat) (ks:List Int):List (Int×Option Nat):=ks.map λi=>(i,some (f i))
def YY {f:Int→Nat}{i:Int}:∀{ks:List Int},Lr (Value.int .i64) (Rk f ks) i=if i∈ks then some (some (f i)) else none
 |[]=>by rw[Q5];rfl
 |k::ks=>by
  have a:=YY (f:=f) (i:=i) (ks:=ks);rw[Q5] at a ⊢;unfold Rk at a ⊢;rw[Acz,Ae4];by_cases h:k=i
  ·subst h;simp
  ·rw[Ack h];simp only[Acl,Ne.symm h,Ad1];exact a
def YW {f:Int→Nat}{i:Int}:∀{ks:List Int},i∉ks→Og (Value.int .i64) (Rk f ks) i (some (f i))=Rk f (ks++[i])
 |[],_=>rfl
 |k::ks,h=>by
  have a:=YW (f:=f) (i:=i) (ks:=ks) λe=>h (.tail _ e);have c:LB (Value.int .i64 i) (Value.int .i64 k)=false:=by
   cases b:LB (Value.int .i64 i) (Value.int .i64 k) with
   |false=>rfl
   |true=>simp [LB,Vs] at b;exact absurd (b▸ .head _) h
  simp only[Rk,Acz,Og,c,Acu,Aeb,Aec] at a ⊢;rw[a]
def dR {f:Int→Nat}{ks:List Int}{i:Int}:(if false=true then Value.tuple #[vO ((Lr (Value.int .i64) (Rk f ks) i).getD none),.bool (Lr (Value.int .i64) (Rk f ks) i).isSome] else vO ((Lr (Value.int .i64) (Rk f ks) i).getD none))=vO (if i∈ks then some (f i) else none):=by
 rw[YY];by_cases h:i∈ks<;>simp [h]
def dQ {f:Int→Nat}{ks:List Int}{i:Int}:(if i∈ks then some (f i) else none).isNone= !(ks.contains i):=by
 by_cases h:i∈ks<;>simp [h]
def WY {f:Int→Nat}{vs:List (Int×DL)}{c:List Int}:∀{ks:List Int},(∀k∈ks,(CV vs k).isSome=true)→OB f (ks.filterMap λi=>(CV vs i).map λx=>(i,{ x with kids:=x.kids.filter λk=>c.contains k}))=Rk f ks
 |[],_=>rfl
 |k::ks,h=>by
  have b:=WY (f:=f) (vs:=vs) (c:=c) (ks:=ks) λx a=>h x (.tail _ a);obtain⟨x,a⟩:=Aeo.1 (h k (.head _));rw[Afk,a];unfold Rk OB at b ⊢;simp only[Aed,Acz];rw[b]
def ZE {P:Program}{ops:Array Oper}{C:World→Prop}{Q:Act→Prop}{n:FN}{m:SM}{rest:List Oper}{d:Nat}{ty:TypeId}{pos:String}{af:Array Edge}{X Y:Operand}{o:Option Nat}{b:Bool}{t t2 a:TypeId}(c:B4 m X=some (vO o)) (g:B4 m Y=some (.pointer none)) (i:P.underlying t=some (.pointer a)) (l:((P.info? a).map (·.size)).isSome=true) (p:o.isNone=b) (hd:Nat.blt d n.1=true) (k:QF P ops C Q rest n ((d,.bool b)::m)):
  QF P ops C Q (⟨some d,.binOp .eql t X Y t2,ty,pos,af,none⟩::rest) n m:=by
 obtain⟨k0,j⟩:=Aeo.1 l;subst p;cases o with
 |none=>exact Sk c g i j hd k
 |some b=>exact Sk (o:=some ⟨b,0,none⟩) c g i j hd k
section
variable {P:Program}{ops:Array Oper}{C:World→Prop}{Q:Act→Prop}{n:FN}{m:SM}{rest:List Oper}
variable {d:Nat}{ty:TypeId}{pos:String}{af:Array Edge}{X Y:Operand}{t:TypeId}{u:Value}{S:Nat→Prop}{L:List HP}{h:AS}{b r:Nat}
variable {κ β:Type}{kv:κ→Value}{vv:β→Value}{l rem:List (κ×β)}{k0:κ}{z:β}{kt et:TypeId}
def mA {o:Bool}(p:CK C h) (q:St S L h) (s:MI kv vv b r l rem∈L) (v:B4 m X=some (.map (some b))) (x:B4 m Y=some (kv k0)) (y:P.underlying t=some (.map kt et)) (A:NR P kt kv) (B:∀w,(zeroValue et).run P w= .ok (vv z) w) (hd:Nat.blt d n.1=true)
  (D:(if o then .tuple #[vv ((Lr kv l k0).getD z),.bool (Lr kv l k0).isSome] else vv ((Lr kv l k0).getD z))=u)
  (k:QF P ops C Q rest n ((d,u)::m)):QF P ops C Q (⟨some d,.lookup t X Y o,ty,pos,af,none⟩::rest) n m:=λa g=>by
 refine GI g hd (λw G=>?_) k;obtain⟨F,⟨H,M,es,c,i,seen,I,J,_⟩,j⟩:=q.get s;have K:w.heap[b]? =some (.map es c):=(p w G b (j b ((H b).2 (.inl rfl))).1).trans I;simp [execOp,g.eval v,g.eval x,TG y A B K J,D]
end
def jL {P:Program}{w:World}{t e T ty:TypeId}{z:Value}{b o n c:Nat}{cs:List Value}(p:P.underlying t=some (.slice e)) (q:∀w,(zeroValue e).run P w= .ok z w) (g:z.cells= #[z]) (l:z.oneCell'=true) (s:w.heap[b]? =some (.cells cs.toArray T (0,0))) (x:0<n) (a:o+n≤cs.length):
  (Builtin.clear_ #[t] ty #[.slice (some ⟨b,o,none⟩) n c]).run P w= .ok (.tuple #[]) (w.setRow b (H7 cs o (List.replicate n z)).toArray):=by
 have j:(Builtin.zeroCells z.cells n).toList=List.replicate n z:=by
  rw[g];simp [Builtin.zeroCells];apply List.ext_getElem
  ·simp
  ·intro i l y;simp [Nat.mod_one]
 have d:=run_storeCells_at P b o T (List.replicate n z) 0 cs.toArray w s (by simpa using a) (by intro u v;rw[List.eq_of_mem_replicate v];exact l);have k:(List.take (o+0) cs.toArray.toList++List.replicate n z++List.drop (o+0+(List.replicate n z).length) cs.toArray.toList)=H7 cs o (List.replicate n z):=by simp [H7]
 rw[k] at d;obtain⟨m,rfl⟩:∃m,n=m+1:=⟨n-1,by omega⟩
 simp [Builtin.clear_,run_underlying p,q,j,d]
def vG {P:Program}{ops:Array Oper}{Q:Exit→Act→World→Prop}{n:FN}{m:SM}{rest:List Oper}{ty:TypeId}{pos:String}{af:Array Edge}{X:Operand}{B:World}{h:AS}{S:Nat→Prop}{L u:List HP}{t e T b o k c:Nat}{z:Value}{cs cs':List Value}(G:B4 m X=some (.slice (some ⟨b,o,none⟩) k c)) (H:P.underlying t=some (.slice e)) (I:∀w,(zeroValue e).run P w= .ok z w) (l:z.cells= #[z]) (J:z.oneCell'=true) (U:0<k) (d:o+k≤cs.length) (V:H7 cs o (List.replicate k z)=cs') (v:St S L h) (r:Mx L (Bx b T cs) (Bx b T cs') u)
  (W:∀h',St S u h'→CJ S h S h'→LF P ops Q rest B h' n m):LF P ops Q (⟨none,.call ⟨.builtin .clear,#[X],#[t]⟩,ty,pos,af,none⟩::rest) B h n m:=by
 intro a w x g;refine wpList_plain rfl λK Y=>?_;unfold Oper.wp;obtain⟨M,p,_⟩:=r.pick;obtain⟨F,Z,g2,_⟩:=Sp.pick p v.2;have y:w.heap[b]? =some (.cells cs.toArray T (0,0)):=by rw[g.heap];exact Z.2
 have i:=jL (P:=P) (ty:=ty) (c:=c) H I l J y U d;have q:(execOp a.eval ⟨none,.call ⟨.builtin .clear,#[X],#[t]⟩,ty,pos,af,none⟩).run P w= .ok (.value (.tuple #[])) (w.setRow b cs'.toArray):=by
  simp [execOp,resolve,invoke,builtin,x.eval G,i,V]
 rw[q];obtain⟨h',e1,e2,e3,A⟩:=Qs w b cs.toArray cs'.toArray T y;rw[g.heap] at e2 A;have j:=v.upd r (h':=h') (by omega) λF C k2=>⟨F,⟨C.1,e3⟩,λ_ hb=> .inl hb,λD _ s=>A D λe=>s ((C.1 D).2 e)⟩
 exact Y _ _ (W h' j.1 j.2 _ _ x ⟨e1,g.os,g.tape,g.out⟩)
def lO {b e cap:Nat}{cs:List Value}{l:List Int}{S:Nat→Prop}{L:List HP}{h:AS}(a:St S (Bx b e cs::L) h) (c:l.length≤cap) (d:cap≤maxLen) (g:cs.length=cap) (i:Me S h AB (cs.take l.length) l):St S (OS AB e (.slice (some ⟨b,0,none⟩) l.length cap) l::L) h:=
 a.bxosc c d (by rw[g];exact(Ad5 _).symm) (by rw[show l.length*AB.sz=l.length from Ad5 _];exact i)
section
variable {S:Nat→Prop}{L K:List HP}{h:AS}{T E:Nat}{f:Int→Nat}
def RY {P Q:List (Int×DL)}{p k:Int}{x:DL}(a:k≠p):CV (P++(p,x)::Q) k=CV (P++Q) k:=by
 unfold CV;rw[Afn,Afn,Ae4,Ack (λe=>a e.symm)]
def V4 {P Q:List (Int×DL)}{p k:Int}{x y:DL}(b:∀e∈P,e.1≠p):CV (P++(p,y)::Q) k=if k=p then some y else CV (P++(p,x)::Q) k:=by
 by_cases a:k=p
 ·subst a;rw[Acf rfl];unfold CV;rw[Afn,List.find?_eq_none.2 (λe c=>by simpa using b e c)];simp
 ·rw[Ace a,RY a,RY a]
def Wy:∀{us vs:List (Int×DL)}{K:List HP},(us.map (·.1)).Nodup→(∀e∈us,CV vs e.1=some e.2)→St S (K++(MD T E f vs++L)) h→St S (K++(MD T E f us++L)) h
 |[],vs,K,_,_,c=>by
  have:=c.dl (L1:=K++L) ?_
  ·exact this
  clear c
  induction K with
  |nil=>
   show Dl L (MD T E f vs++L)
   generalize MD T E f vs=X
   induction X with
   |nil=>exact .refl
   |cons x X d=>exact .drop d
  |cons k K d=>exact .keep d
 |e::us,vs,K,m,j,c=>by
  obtain⟨p,q,rfl,u⟩:=M9 (j e (.head _));have n:=OQ c;have a:=Aet.1 m;have o:St S (K++VB T E (f e.1) e.2::(MD T E f (p++q)++L)) h:=by
   refine St.mid ?_;rw[Qj,Ado];exact n
  have s:St S ((K++[VB T E (f e.1) e.2])++(MD T E f (p++q)++L)) h:=by
   rw[Ado];exact o
  have l:=Wy (us:=us) (vs:=p++q) a.2 (λg b=>by
   have i:g.1≠e.1:=λt=>a.1 (Adb.2 ⟨g,b,t⟩);rw[←RY (x:=e.2) i];exact j g (.tail _ b)) s
  rw[Ado] at l;exact l
end
def zQ (vs:List (Int×DL)) (ks rem:List Int) (a:List (Int×DL)):Prop:=(∀k,k∈rem→CV a k=CV vs k)∧∀k,k∈ks→k∉rem→CV a k=(CV vs k).map λx=>{ x with kids:=x.kids.filter λk=>ks.contains k}
def UO {a b:List Int}{k:Int}(h:(a++k::b).Nodup):k∉a++b∧(a++b).Nodup:=Aet.1 (List.perm_middle.nodup_iff.1 h)
def zQ.go {vs l:List (Int×DL)}{ks c d:List Int}{k:Int}{x:DL}{P Q:List (Int×DL)}(h:zQ vs ks (c++k::d) l) (o:(c++k::d).Nodup) (m:l=P++(k,x)::Q) (n:∀e∈P,e.1≠k) (p:CV vs k=some x):zQ vs ks (c++d) (P++(k,{ x with kids:=x.kids.filter λk=>ks.contains k})::Q):=by
 have q:=(UO o).1;refine⟨λj b=>?_,λj b g=>?_⟩
 ·have i:j≠k:=λe=>q (e▸b);rw[V4 (x:=x) n,Ace i,←m];refine h.1 j ?_;rcases Ac7.1 b with b|b
  ·exact Aef _ b
  ·exact Afm _ (.tail _ b)
 ·rw[V4 (x:=x) n];by_cases e:j=k
  ·subst e;rw[Acf rfl,p];rfl
  ·rw[Ace e,←m];refine h.2 j b λa=>g ?_;rcases Ac7.1 a with a|a
   ·exact Aef _ a
   ·rcases Acl.1 a with a|a
    ·exact absurd a e
    ·exact Afm _ a
def QT {vs:List (Int×DL)}{c:List Int}:∀{ks:List Int},(∀k∈ks,(CV vs k).isSome=true)→(ks.filterMap λi=>(CV vs i).map λx=>(i,{ x with kids:=x.kids.filter λk=>c.contains k})).map (·.1)=ks
 |[],_=>rfl
 |k::ks,h=>by
  obtain⟨x,a⟩:=Aeo.1 (h k (.head _));rw[Afk,a];simp only[Aed,Acz];rw[QT λx a=>h x (.tail _ a)]
def Zq {vs a:List (Int×DL)}{ks:List Int}(h:zQ vs ks [] a):∀e∈LV vs ks,CV a e.1=some e.2:=λe b=>by
 obtain⟨i,c,d⟩:=Afl.1 b;obtain⟨x,g,rfl⟩:=Adt.1 d;rw[h.2 i c (by simp),g];rfl
open Go.RowKit Go.Shelf
open Go.Proofs.Tryz
def jH:Ren:={ f:=λx=>match x with|6=>239|10=>248|11=>249|12=>250|13=>251|14=>252|24=>262|25=>243|26=>263|27=>264|28=>265|29=>266|30=>267|31=>268|32=>269|33=>270|34=>271|35=>272|36=>273|37=>274|38=>275|39=>276|n=>n,t:=λx=>match x with|20=>20|26=>183|35=>285|0=>0|37=>245|3=>3|41=>244|44=>291|49=>296|51=>125|4=>4|54=>299|53=>298|58=>140|5=>5|9=>9|60=>304|64=>308|66=>310|67=>197|17=>17|32=>282|33=>283|82=>326|12=>12|75=>319|76=>320|77=>321|78=>322|79=>323|80=>324|n=>n,g:=λx=>have n:=x;n}
def Abw:LaysGg.n6 prog jH:={ mixed:=by kernel_rfl,f6:=func239,f10:=func248,f11:=func249,f12:=func250,f13:=func251,f14:=func252,f24:=func262,f25:=func243,f26:=func263,f27:=func264,f28:=func265,f29:=func266,f30:=func267,f31:=func268,f32:=func269,f33:=func270,f34:=func271,f35:=func272,f36:=func273,f37:=func274,f38:=func275,f39:=func276,t0:=underlying0,a0:=Tryz.isAgg0,z0:=Tryz.sizeOf0,v0:=Tryz.zeroValue0,i0:=by kernel_rfl,t3:=underlying3,a3:=Tryz.isAgg3,z3:=Tryz.sizeOf3,v3:=Tryz.zeroValue3,i3:=by kernel_rfl,t4:=underlying4,a4:=Tryz.isAgg4,z4:=Tryz.sizeOf4,v4:=Tryz.zeroValue4,i4:=by kernel_rfl,t5:=underlying5,a5:=Tryz.isAgg5,z5:=Tryz.sizeOf5,v5:=Tryz.zeroValue5,i5:=by kernel_rfl,t9:=underlying9,a9:=Tryz.isAgg9,z9:=Tryz.sizeOf9,v9:=Tryz.zeroValue9,i9:=by kernel_rfl,t12:=underlying12,a12:=Tryz.isAgg12,z12:=Tryz.sizeOf12,v12:=Tryz.zeroValue12,i12:=by kernel_rfl,t17:=underlying17,a17:=Tryz.isAgg17,z17:=Tryz.sizeOf17,v17:=Tryz.zeroValue17,i17:=by kernel_rfl,t20:=underlying20,a20:=Tryz.isAgg20,z20:=Tryz.sizeOf20,v20:=Tryz.zeroValue20,i20:=by kernel_rfl,t26:=underlying183,a26:=Tryz.isAgg183,z26:=Tryz.sizeOf183,v26:=Tryz.zeroValue183,i26:=by kernel_rfl,t32:=underlying282,a32:=Tryz.isAgg282,z32:=Tryz.sizeOf282,v32:=Tryz.zeroValue282,i32:=by kernel_rfl,t33:=underlying283,a33:=Tryz.isAgg283,z33:=Tryz.sizeOf283,v33:=Tryz.zeroValue283,i33:=by kernel_rfl,t35:=underlying285,a35:=Tryz.isAgg285,z35:=Tryz.sizeOf285,v35:=Tryz.zeroValue285,i35:=by kernel_rfl,t37:=underlying245,a37:=Tryz.isAgg245,z37:=Tryz.sizeOf245,v37:=Tryz.zeroValue245,i37:=by kernel_rfl,t41:=underlying244,a41:=Tryz.isAgg244,z41:=Tryz.sizeOf244,v41:=Tryz.zeroValue244,i41:=by kernel_rfl,t44:=underlying291,a44:=Tryz.isAgg291,z44:=Tryz.sizeOf291,v44:=Tryz.zeroValue291,i44:=by kernel_rfl,t49:=underlying296,a49:=Tryz.isAgg296,z49:=Tryz.sizeOf296,v49:=Tryz.zeroValue296,i49:=by kernel_rfl,t51:=underlying125,a51:=Tryz.isAgg125,z51:=Tryz.sizeOf125,v51:=Tryz.zeroValue125,i51:=by kernel_rfl,t53:=underlying298,a53:=Tryz.isAgg298,z53:=Tryz.sizeOf298,v53:=Tryz.zeroValue298,i53:=by kernel_rfl,t54:=underlying299,a54:=Tryz.isAgg299,z54:=Tryz.sizeOf299,v54:=Tryz.zeroValue299,i54:=by kernel_rfl,t58:=underlying140,a58:=Tryz.isAgg140,z58:=Tryz.sizeOf140,v58:=Tryz.zeroValue140,i58:=by kernel_rfl,t60:=underlying304,a60:=Tryz.isAgg304,z60:=Tryz.sizeOf304,v60:=Tryz.zeroValue304,i60:=by kernel_rfl,t64:=underlying308,a64:=Tryz.isAgg308,z64:=Tryz.sizeOf308,v64:=Tryz.zeroValue308,i64:=by kernel_rfl,t66:=underlying310,a66:=Tryz.isAgg310,z66:=Tryz.sizeOf310,v66:=Tryz.zeroValue310,i66:=by kernel_rfl,t67:=underlying197,a67:=Tryz.isAgg197,z67:=Tryz.sizeOf197,v67:=Tryz.zeroValue197,i67:=by kernel_rfl,t75:=underlying319,a75:=Tryz.isAgg319,z75:=Tryz.sizeOf319,v75:=Tryz.zeroValue319,i75:=by kernel_rfl,t76:=underlying320,a76:=Tryz.isAgg320,z76:=Tryz.sizeOf320,v76:=Tryz.zeroValue320,i76:=by kernel_rfl,t77:=underlying321,a77:=Tryz.isAgg321,z77:=Tryz.sizeOf321,v77:=Tryz.zeroValue321,i77:=by kernel_rfl,t78:=underlying322,a78:=Tryz.isAgg322,z78:=Tryz.sizeOf322,v78:=Tryz.zeroValue322,i78:=by kernel_rfl,t79:=underlying323,a79:=Tryz.isAgg323,z79:=Tryz.sizeOf323,v79:=Tryz.zeroValue323,i79:=by kernel_rfl,t80:=underlying324,a80:=Tryz.isAgg324,z80:=Tryz.sizeOf324,v80:=Tryz.zeroValue324,i80:=by kernel_rfl,t82:=underlying326,a82:=Tryz.isAgg326,z82:=Tryz.sizeOf326,v82:=Tryz.zeroValue326,i82:=by kernel_rfl}
open Go.Shelf Go.RowKit Go.Lib Go.Sort
set_option maxHeartbeats 2000000 in
def XX (l m g off c b n o u a:Nat) (W:World) (G:Nat→Nat) (R:Nat→Int) (z:W.cell? ⟨l,0,none⟩=some (.slice (some ⟨g,off,none⟩) b c)) (A:W.cell? ⟨m,0,none⟩=some (.slice (some ⟨n,o,none⟩) a u))
  (p:∀t,t<b→W.cell? ⟨g,off+t,none⟩=some (.int .i64 (G t:Int))) (s:∀t,t<a→W.cell? ⟨n,o+t,none⟩=some (.int .i64 (R t))) (i j:Nat) (v:i<b) (w:j<b) (x:G i<a) (y:G j<a):
  Calls Tryz.prog 240 #[.int .i64 i,.int .i64 j,.pointer (some ⟨l,0,none⟩),.pointer (some ⟨m,0,none⟩)] W λe w'=>e= .returned (.bool (cond (!decide (R (G i)=R (G j))) (decide (R (G j)<R (G i))) (decide (G i<G j))))∧∃q,w'=W.drewN q:=by
 have B:=p i v;have C:=p j w;have D:=s _ x;have F:=s _ y;go_enter Tryz.func240,Tryz.ntmps240
 go_wp2
 go_quiet (fail)
 go_wp2
 go_quiet (fail)
 go_wp2
 ·go_quiet (fail)
  go_wp2
  go_ret
  rename_i d;have k:decide (R (G i)=R (G j))=false:=by simpa using d
  refine⟨by rw[k];rfl,_,by(try simp only[World.drewN_drewN]);rfl⟩
 ·go_ret
  rename_i d;have k:decide (R (G i)=R (G j))=true:=by simpa using d
  refine⟨by rw[k];rfl,_,by(try simp only[World.drewN_drewN]);rfl⟩
def cN (R:Nat→Int) {n:Nat}:SWO (λa b:Fin n=>SQ R a b) where
 irrefl x:=by simp [SQ]
 trans x y z h1 h2:=by
  simp only[SQ] at*;by_cases c:R x=R y<;>by_cases d:R y=R z<;>by_cases g:R x=R z<;>simp_all<;>omega
 ntrans x y z h1 h2:=by
  simp only[SQ] at*;by_cases c:R x=R y<;>by_cases d:R y=R z<;>by_cases g:R x=R z<;>simp_all<;>omega
def Za (R:Nat→Int) (a b:Nat) (d:SQ R a b=false) (g:SQ R b a=false):a=b:=by
 simp only[SQ] at*;by_cases c:R a=R b
 ·simp_all;omega
 ·have i:¬R b=R a:=λj=>c j.symm;simp_all;omega
def WD (p q g off c n s v z:Nat) [NeZero n] (W:World) (R:Nat→Int) (C:W.cell? ⟨p,0,none⟩=some (.slice (some ⟨g,off,none⟩) n c)) (D:W.cell? ⟨q,0,none⟩=some (.slice (some ⟨s,v,none⟩) n z))
  (d:Array (Fin n)) (hd:d.size=n) (F:Holds (λk:Fin n=>Value.int .i64 (k.val:Int)) W g off d) (G:∀t,t<n→W.cell? ⟨s,v+t,none⟩=some (.int .i64 (R t))) (A:g<W.heap.size) (H:p<W.heap.size) (I:q<W.heap.size) (J:s<W.heap.size) (K:p≠g) (M:q≠g) (Q:s≠g):
  LessReads Tryz.prog 240 #[.pointer (some ⟨p,0,none⟩),.pointer (some ⟨q,0,none⟩)] (λk:Fin n=>Value.int .i64 (k.val:Int)) (λa b:Fin n=>SQ R a b) g off n W:=by
 intro m u o U i j V X;have e:sortWorld (λk:Fin n=>Value.int .i64 (k.val:Int)) W g off m o u=putRow (λk:Fin n=>Value.int .i64 (k.val:Int)) (grow (Sort.ahead W m) u) g off o:=by
  unfold sortWorld;rw[putRow_grow _ (Sort.ahead W m) _ g off _ A]
 have w:Holds (λk:Fin n=>Value.int .i64 (k.val:Int)) (grow (Sort.ahead W m) u) g off d:=holds_grow _ _ _ g off d A (holds_ahead _ _ _ _ _ _ F);have l:∀a:Addr,a.block≠g→a.block<W.heap.size→(sortWorld (λk:Fin n=>Value.int .i64 (k.val:Int)) W g off m o u).cell? a=W.cell? a:=λa x y=>by
  rw[e,cell?_putRow_other _ _ g off o _ (Or.inl x),cell?_grow (Sort.ahead W m) _ _ y];rfl
 refine XX p q g off c n s v z n _ (λt=>(o[t]!).val) R ((l _ K H).trans C) ((l _ M I).trans D) (λt B=>?_) (λt B=>(l _ Q J).trans (G t B)) i j V X (o[i]!).isLt (o[j]!).isLt;rw[e];exact cell?_putRow _ _ g off d o w (U.trans hd.symm) t (by omega)
noncomputable def Abx:TypeInfo:=(Tryz.prog.info? 29).get (by kernel_rfl)
noncomputable def nO:TypeInfo:=(Tryz.prog.info? 3).get (by kernel_rfl)
def siK (n:Nat) (g:2≤n):Lib.swapperK n nO 2=5:=by
 have a:nO.hasPointers=false:=by kernel_rfl
 have b:nO.bytes=8:=by kernel_rfl
 have c:(n==0)=false:=by simp;omega
 have d:(n==1)=false:=by simp;omega
 simp [Lib.swapperK,a,b,c,d]
def WC (i j g off c n l o u:Nat) [NeZero n] (W:World) (R:Nat→Int) (x:W.cell? ⟨i,0,none⟩=some (.slice (some ⟨g,off,none⟩) n c)) (y:W.cell? ⟨j,0,none⟩=some (.slice (some ⟨l,o,none⟩) n u))
  (d:Array (Fin n)) (hd:d.size=n) (K:2≤n) (z:n<4611686018427387904) (v:Holds (λk:Fin n=>Value.int .i64 (k.val:Int)) W g off d) (A:∀t,t<n→W.cell? ⟨l,o+t,none⟩=some (.int .i64 (R t))) (w:g<W.heap.size) (B:i<W.heap.size) (C:j<W.heap.size) (D:l<W.heap.size) (F:i≠g) (G:j≠g) (H:l≠g):
  Calls Tryz.prog 239 #[.iface 29 (.slice (some ⟨g,off,none⟩) n c),.func (.func 240) #[] #[.pointer (some ⟨i,0,none⟩),.pointer (some ⟨j,0,none⟩)]] W λe w'=>
   e= .returned (.tuple #[])∧∃p q I,PermIn 0 d.size d p∧SortedIn (λa b:Fin n=>SQ R a b) 0 d.size p∧w'=grow (putRow (λk:Fin n=>Value.int .i64 (k.val:Int)) (Sort.ahead W q) g off p) I:=by
 have J:=WD i j g off c n l o u W R x y d hd v A w B C D F G H;have s:=Any.sort_Slice_sorted Abw 29 3 Abx nO (by kernel_rfl) (by kernel_rfl) (by kernel_rfl) (by kernel_rfl) 2 (λ_=>by kernel_rfl) (by kernel_rfl) (λ_=>by kernel_rfl) (λk:Fin n=>Value.int .i64 (k.val:Int)) (λ_=>rfl) (λa b:Fin n=>SQ R a b) (cN R) 240 _
  (enters_of Tryz.func240 (by kernel_rfl) rfl) g off c d (by omega) (by omega) 257 (by rw[siK _ (by omega)];kernel_rfl) true
  (λm W=>run_callFunc_extern Tryz.func257 (by kernel_rfl) (by kernel_rfl) (by kernel_rfl) (e:=Extern.ReflectliteSwapper.swap true) (by kernel_rfl) m W) W (by rw[hd];exact J) v w
 rw[hd] at s;change Calls Tryz.prog 239 _ _ _ at s;rw[hd];exact s
def Uu {j:Type}[Inhabited j] (enc:j→Value) (W:World) (q g b:Nat) (d:Array j) (a:Array Obj) (c:b<W.heap.size) (i:b≠g):(grow (putRow enc (Sort.ahead W q) g 0 d) a).heap[b]? =W.heap[b]? :=by
 show((W.heap.modify g _)++a)[b]? =_
 rw[Af6 (by simpa using c),Array.getElem?_modify];simp [Ne.symm i]
def Uv {i:Type}[Inhabited i] (enc:i→Value) (W:World) (q g:Nat) (d:Array i) (b:Array Obj) {cur:Array Value}{T:TypeId}{fr:Nat×Nat}(c:W.heap[g]? =some (.cells cur T fr)):(grow (putRow enc (Sort.ahead W q) g 0 d) b).heap[g]? =some (.cells (putCells enc 0 d cur) T fr):=by
 have a:g<W.heap.size:=(Ade.1 c).1;show((W.heap.modify g _)++b)[g]? =_
 rw[Af6 (by simpa using a),Array.getElem?_modify];simp [c,onCells]
def TB {b:Type}[Inhabited b] (enc:b→Value) (W:World) (q g:Nat) (d:Array b) (a:Array Obj):W.heap.size≤(grow (putRow enc (Sort.ahead W q) g 0 d) a).heap.size:=by
 show W.heap.size≤((W.heap.modify g _)++a).size
 simp
def SB {lt:Int→Int→Bool}(g:∀x,lt x x=false) (i:∀x y z,lt x y=true→lt y z=true→lt x z=true) (j:∀x y z,lt x y=false→lt y z=false→lt x z=false) (x:Int):∀l:List Int,l.Pairwise (λa b=>lt b a=false)→(T4 lt x l).Pairwise λa b=>lt b a=false
 |[],_=>by simp [T4]
 |y::l,o=>by
  have k:∀z,z∈l→lt z y=false:=λz c=>List.rel_of_pairwise_cons o c;have m:=o.of_cons;unfold T4;cases d:lt y x with
  |true=>
   refine List.Pairwise.cons (λz c=>?_) (SB g i j x l m);rcases Acl.1 ((Pp lt x l).mem_iff.1 c) with rfl|c
   ·cases n:lt z y with
    |false=>rfl
    |true=>have:=i _ _ _ d n;rw[g] at this;cases this
   ·exact k z c
  |false=>
   refine List.Pairwise.cons (λz c=>?_) o;rcases Acl.1 c with rfl|c
   ·exact d
   ·exact j _ _ _ (k z c) d
def Q6 {lt:Int→Int→Bool}(c:∀x,lt x x=false) (d:∀x y z,lt x y=true→lt y z=true→lt x z=true) (g:∀x y z,lt x y=false→lt y z=false→lt x z=false):∀l:List Int,(N0 lt l).Pairwise λa b=>lt b a=false
 |[]=> .nil
 |x::l=>SB c d g x _ (Q6 c d g l)
def XN (a:List Int) (x:Int):R4 a x x=false:=by simp [R4,SQ]
def xU (a b c:Int) (x y z:Nat) (d:cond (!decide (a=b)) (decide (b<a)) (decide (x<y))=true) (g:cond (!decide (b=c)) (decide (c<b)) (decide (y<z))=true):cond (!decide (a=c)) (decide (c<a)) (decide (x<z))=true:=by
 by_cases i:a=b<;>by_cases j:b=c<;>by_cases k:a=c<;>simp_all<;>omega
def xV (a b c:Int) (x y z:Nat) (d:cond (!decide (a=b)) (decide (b<a)) (decide (x<y))=false) (g:cond (!decide (b=c)) (decide (c<b)) (decide (y<z))=false):cond (!decide (a=c)) (decide (c<a)) (decide (x<z))=false:=by
 by_cases i:a=b<;>by_cases j:b=c<;>by_cases k:a=c<;>simp_all<;>omega
def Zb (a:List Int) (x y z:Int) (b:R4 a x y=true) (c:R4 a y z=true):R4 a x z=true:=xU _ _ _ _ _ _ b c
def XM (a:List Int) (x y z:Int) (b:R4 a x y=false) (c:R4 a y z=false):R4 a x z=false:=xV _ _ _ _ _ _ b c
def VC (c:List Int) {l d:List Int}(h0:∀x,x∈l→0≤x) (g:d.Perm l) (i:d.Pairwise λa b=>R4 c b a=false):d=N0 (R4 c) l:=by
 refine List.Perm.eq_of_pairwise (le:=λx y=>R4 c y x=false) (λa b j k m n=>?_) i (Q6 (XN c) (Zb c) (XM c) l) (g.trans (NH _ l).symm);have e:=Za _ _ _ n m;have o:=h0 a (g.mem_iff.1 j);have p:=h0 b ((NH _ l).mem_iff.1 k);omega
def U1 {S:Nat→Prop}{o:AS}:∀{l:List Int}{cs:List Value},Me S o AB cs l→cs=l.map (Value.int .i64)∧∀x,x∈l→AA x
 |[],cs,k=>⟨k,λx d=>by cases d⟩
 |x::l,cs,⟨g,n,e,c,i⟩=>by
  have a:g=[.int .i64 x]:=c.1;obtain⟨j,m⟩:=U1 i;subst e;subst a;subst j;exact⟨rfl,λy b=>by
   rcases Acl.1 b with rfl|b
   ·exact c.2
   ·exact m y b⟩
def WN {S:Nat→Prop}{b:AS}:∀{l:List Int},(∀x,x∈l→AA x)→Me S b AB (l.map (Value.int .i64)) l
 |[],_=>rfl
 |x::l,k=>⟨[.int .i64 x],_,rfl,⟨rfl,k x (Ac4 ..)⟩,WN λy a=>k y (Adi _ a)⟩
def Aav:Lib.swapperK 1 nO 2=2:=by
 have a:nO.hasPointers=false:=by kernel_rfl
 have b:nO.bytes=8:=by kernel_rfl
 simp [Lib.swapperK,a,b]
def Ty {n:Nat}[NeZero n] (enc:Fin n→Value) (d:Array (Fin n)) (cur:Array Value) (b:d.size≤cur.size):(putCells enc 0 d cur).toList.take d.size=d.toList.map enc:=by
 apply Adl;intro i;rw[Afy];by_cases a:i<d.size
 ·rw[Acf a,Array.getElem?_toList];have c:i<cur.size:=by omega
  simp [putCells,a,c,getElem!_pos]
 ·rw[Ace a,Ac8 (by simpa using a)]
def XK {S:Nat→Prop}{L:List HP}{h:AS}{A s:Nat}{v Y:Value}{c p G:List Int}(Z:St S (Bx A 29 [v]::OS AB 3 v c::Bx s 29 [Y]::OS AB 3 Y p::L) h) (E:TD c p=some G):
  CL Tryz.prog 239 #[.iface 29 v,.func (.func 240) #[] #[.pointer (some ⟨A,0,none⟩),.pointer (some ⟨s,0,none⟩)]] S h (λr S' h'=>r= .tuple #[]∧St S' (Bx A 29 [v]::OS AB 3 v G::Bx s 29 [Y]::OS AB 3 Y p::L) h'):=by
 unfold TD at E;split at E
 ·rename_i hc;obtain⟨hl,D,am,H⟩:=hc;cases E;intro B W m;have u:∀x,x∈c→0≤x∧x<c.length:=λx I=>by simpa using Acm.1 H x I
  obtain⟨F1,k1,s1,F2,k2,s2,F3,k3,s3,F4,k4,s4,_⟩:=Z.2;rcases k2 with ⟨_,e0,_⟩|⟨g,cap,cur,e1,e2,e3,e4,e5,e6,e7⟩
  ·rw[e0] at D;cases D
  rcases k4 with ⟨_,e0,_⟩|⟨rb,rcap,rcur,f1,f2,f3,f4,f5,f6,f7⟩
  ·rw[hl,e0] at D;cases D
  subst e1;subst f1;have hn:NeZero c.length:=⟨by omega⟩
  obtain⟨r1,r2⟩:=U1 e7;obtain⟨q1,q2⟩:=U1 f7;have r1:cur.toList.take c.length=c.map (Value.int .i64):=by rw[←r1];congr 1;exact(Ad5 _).symm
  have q1:rcur.toList.take p.length=p.map (Value.int .i64):=by rw[←q1];congr 1;exact(Ad5 _).symm
  have e6:cur.size=cap:=by rw[e6];exact Ad5 _
  have n:∀(b:Nat) (cs:Array Value) (T:TypeId) (t:Nat),h[b]? =some (.cells cs T (0,0))→W.cell? ⟨b,t,none⟩=cs[t]? :=λb cs T t z=>by
   rw[MS,m.heap];simp [Jm,z]
  have n1:A≠g:=λe=>(s2 g ((e2 g).2 rfl)).2 (by rw[k1.1 g];exact e.symm);have n2:s≠g:=λe=>(s3 s ((k3.1 s).2 rfl)).2 ((e2 s).2 e);have n3:rb≠g:=λe=>(s4 rb ((f2 rb).2 rfl)).1.2 ((e2 rb).2 e);have lt:∀(b:Nat) o,h[b]? =some o→b<W.heap.size:=λb o z=>by rw[m.heap];exact(Ade.1 z).1
  have J:∀t (w:t<c.length),cur[t]? =some (.int .i64 c[t]):=λt w=>by
   have:(cur.toList.take c.length)[t]? =some (.int .i64 c[t]):=by rw[r1];simp [w]
   rw[Ad3 w] at this;simpa using this
  have aa:∀t,t<c.length→rcur[t]? =some (.int .i64 (p.getD t 0)):=λt w=>by
   have y:t<p.length:=by omega
   have:(rcur.toList.take p.length)[t]? =some (.int .i64 (p.getD t 0)):=by rw[q1];simp [y,Adp]
   rw[Ad3 y] at this;simpa using this
  by_cases ab:2≤c.length
  ·have hd:=λ(i:Fin c.length)=>(u c[i] (Acw _))
   obtain⟨d,ds,K⟩:∃d:Array (Fin c.length),d.size=c.length∧d.toList.map (λk=>(k.val:Int))=c:=by
    refine⟨Array.ofFn λi:Fin c.length=>(⟨(c[i]).toNat,by have:=hd i;omega⟩:Fin c.length),by simp,?_⟩;apply Adl;intro i;by_cases hi:i<c.length
    ·have h9:=(u c[i] (Acw _)).1;simp [hi];omega
    ·rw[Ac8 (by simpa using hi),Ac8 (by omega)]
   have ac:∀t (w:t<c.length),((d[t]!).val:Int)=c[t]:=λt w=>by
    have a:(d.toList.map (λk=>(k.val:Int)))[t]? =some c[t]:=by rw[K];simp [w]
    have y:t<d.size:=by omega
    rw[getElem!_pos d t y];simpa [y] using a
   refine(WC A s g 0 cap c.length rb 0 rcap W (λt=>p.getD t 0) ((n A _ _ 0 k1.2).trans rfl) ((n s _ _ 0 k3.2).trans (by rw[hl];rfl)) d ds ab (by omega) (λj hj=>⟨?_,?_⟩) (λt w=>?_) (lt g _ e3) (lt A _ k1.2) (lt s _ k3.2) (lt rb _ f3) n1 n2 n3).mono ?_
   ·rw[Adj,n g cur 3 j e3,J j (by omega)];show _=some (Value.int .i64 ((d[j]!).val:Int))
    rw[ac j (by omega)]
   ·simp [World.frozen?,m.heap,e3]
   ·rw[Adj,n rb rcur 3 t f3];exact aa t w
   rintro e w' ⟨rfl,l,q,C,hp,ad,rfl⟩;have M:l.size=c.length:=hp.1.trans ds;have Q:(l.toList.map (λk=>(k.val:Int))).Perm c:=by
    have a:=hp.2.2;have ae:l.extract 0 d.size=l:=by rw[←hp.1];exact Array.extract_size
    rw[ae,Array.extract_size] at a;have:=a.map (λk:Fin c.length=>(k.val:Int));rwa [K] at this
   have af:(l.toList.map (λk=>(k.val:Int))).Pairwise λa b=>R4 p b a=false:=by
    rw[List.pairwise_map,Af0];intro i j hi hj ag;have ah:i<l.size:=by simpa using hi
    have ai:j<l.size:=by simpa using hj
    have:=ad i j (Aci _) ag (by omega);rw[getElem!_pos l j ai,getElem!_pos l i ah] at this;simpa [R4] using this
   have hq:=VC p (λx I=>(u x I).1) Q af;rw[←hq];have aj:=Uv (λk:Fin c.length=>Value.int .i64 (k.val:Int)) W q g l C (cur:=cur) (T:=3) (fr:=(0,0)) (by rw[m.heap];exact e3);have U:=Z.upd (H':=OS AB 3 (.slice (some ⟨g,0,none⟩) c.length cap) (l.toList.map (λk=>(k.val:Int)))) (h':=(grow (putRow (λk:Fin c.length=>Value.int .i64 (k.val:Int)) (Sort.ahead W q) g 0 l) C).heap) (.tail .head) (by have:=TB (λk:Fin c.length=>Value.int .i64 (k.val:Int)) W q g l C;rw[m.heap] at this;exact this) (λF V m2=>by
    rcases V with ⟨_,V,_⟩|⟨g',cap',cur',V,m3,_⟩
    ·rw[V] at D;cases D
    ·injection V with X z2 z3
     injection X with X
     injection X with X
     subst X;refine⟨F,.inr ⟨g,cap,_,by simp [M],m3,aj,by simpa [M] using e4,e5,?_,?_⟩,λ_ z=> .inl z,λb z ak=>?_⟩
     ·simp only[putCells,Array.size_mapIdx];rw[e6];exact(Ad5 _).symm
     ·have w:=Ty (λk:Fin c.length=>Value.int .i64 (k.val:Int)) l cur (by omega);rw[show (l.toList.map (λk=>(k.val:Int))).length*AB.sz=l.size from by simp;exact Ad5 _,w];have:l.toList.map (λk:Fin c.length=>Value.int .i64 (k.val:Int))=(l.toList.map (λk=>(k.val:Int))).map (Value.int .i64):=by rw[List.map_map];rfl
      rw[this];exact WN λx I=>r2 x (Q.mem_iff.1 I)
     ·rw[Uu _ W q g b l C (by rw[m.heap];exact z) (λe=>ak ((m3 b).2 e)),m.heap])
   exact⟨_,S,_,rfl,⟨rfl,m.os,m.tape,m.out⟩,U.2,rfl,U.1⟩
  ·have al:c.length=1:=by omega
   obtain⟨x,rfl⟩:∃x,c=[x]:=List.length_eq_one_iff.1 al;have hT:=Any.sort_Slice_tiny (P:=Tryz.prog) { Abw with} 29 3 Abx nO (by kernel_rfl) (by kernel_rfl) (by kernel_rfl) (by kernel_rfl) 2 (λ_=>by kernel_rfl) (some ⟨g,0,none⟩) 1 cap (Acr _) 254 (by rw[Aav];kernel_rfl) (.func 240) #[] #[.pointer (some ⟨A,0,none⟩),.pointer (some ⟨s,0,none⟩)] W;change Calls Tryz.prog 239 _ _ _ at hT;refine hT.mono ?_;rintro e w' ⟨rfl,C,rfl⟩;have ho:EY h (grow W C).heap:=⟨by show h.size≤(W.heap++C).size;rw[m.heap];simp,λb z=>by show(W.heap++C)[b]? =_;rw[m.heap,Af6 z]⟩
   exact⟨_,S,_,rfl,⟨rfl,m.os,m.tape,m.out⟩,ho.ext Z.1,rfl,ho.st Z⟩
 ·cases E
end Go.Proofs.YtabonambpbofgaaGreat
