import Derived.Test.YtabonambpbofgaaGreatQInst
import Derived.Test.YtabonambpbofgaaGreatQCore26
import Derived.Test.YtabonambpbofgaaGreatQSortD
import Derived.Test.YtabonambpbofgaaGreatRows
import Derived.Shelf.GgSortFunc.Whole
import Derived.Shelf.GgSortFunc.Tiny
import Derived.Deep.QuietTactic
import Derived.WalkKit
import Derived.Sort.LotA
import Derived.Test.YtabonambpbofgaaGreatQCore31
import Derived.Test.YtabonambpbofgaaGreatQForms
namespace Go.Proofs.YtabonambpbofgaaGreat
set_option linter.all false
open Go.RowKit
variable {G ks:xq}{f:Int->Nat}{o:Option Nat}{X Y:Operand}{af:Array Edge}{A T b c cap d e s:Nat}{rest:List Oper}{m:SM}{n:FN}{Q:Act->Prop}{C:World->Prop}{ops:Array Oper}{P:Program}{cs cs':List Value}{B w:World}{L:List HP}{S:Nat->Prop}{h:AV}{k p:Int}{y:Dy}{a vs:List (Int×Dy)}{cur:Array Value}{M ab:Value}{g:ByteArray}{c3_:Bool}{c2_:List (AI×Bool)}
def S7(f:Int->Nat)(ks:xq):List (Int×Option Nat):=ks.map λi=>(i,some (f i))
def aN{f:Int->Nat}{i:Int}:∀{ks:xq},KT (Value.int .i64) (S7 f ks) i=if i∈ks then some (some (f i)) else none
 |[]=>by rw[SJ];rfl
 |k::ks=>by
  have a:=aN (f:=f) (i:=i) (ks:=ks);rw[SJ]at a ⊢;unfold S7 at a ⊢;rw[Ag9,Aje];by_cases h:k=i
  ·subst h;simp
  ·rw[Agx h];simp only[Agv,Ne.symm h,Aid];exact a
def aM{f:Int->Nat}{i:Int}:∀{ks:xq},i∉ks->Mj (Value.int .i64) (S7 f ks) i (some (f i))=S7 f (ks++[i])
 |[],_=>rfl
 |k::ks,h=>by
  have a:=aM (f:=f) (i:=i) (ks:=ks) λe=>h (.tail _ e);have c:Kp (Value.int .i64 i) (Value.int .i64 k)=false:=by
   cases b:Kp (Value.int .i64 i) (Value.int .i64 k)with
   |false=>rfl
   |true=>simp[Kp,WA]at b;exact absurd (b▸ .head _) h
  simp only[S7,Ag9,Mj,c,Ag4,Ail,Aim]at a ⊢;rw[a]
def kG{i:Int}:(if false=true then Value.tuple #[vO ((KT (Value.int .i64) (S7 f ks) i).getD none),.bool (KT (Value.int .i64) (S7 f ks) i).isSome] else vO ((KT (Value.int .i64) (S7 f ks) i).getD none))=vO (if i∈ks then some (f i) else none):=by
 rw[aN];by_cases h:i∈ks<;>simp[h]
def kF{i:Int}:(if i∈ks then some (f i) else none).isNone= !(ks.contains i):=by
 by_cases h:i∈ks<;>simp[h]
def YF{f:Int->Nat}{vs:List (Int×Dy)}{c:xq}:∀{ks:xq},(∀k∈ks,(C3 vs k).isSome=true)->O7 f (ks.filterMap λi=>(C3 vs i).map λx=>(i,{ x with kids:=x.kids.filter λk=>c.contains k}))=S7 f ks
 |[],_=>rfl
 |k::ks,h=>by
  have b:=YF (f:=f) (vs:=vs) (c:=c) (ks:=ks) λx a=>h x (.tail _ a);obtain⟨x,a⟩:=Ajf.1 (h k (.head _));rw[List.filterMap_cons,a];unfold S7 O7 at b ⊢;simp only[Aix,Ag9];rw[b]
def cA{ty:TypeId}{pos:String}{b:Bool}{t t2 a:TypeId}(c:B5 m X=some (vO o))(g:B5 m Y=some (.pointer none))(i:P.underlying t=some (.pointer a))(l:((P.info? a).map (·.size)).isSome=true)(p:o.isNone=b)(hd:Nat.blt d n.1=true)(k:QF P ops C Q rest n ((d,.bool b)::m)):
  QF P ops C Q (⟨some d,.binOp .eql t X Y t2,ty,pos,af,none⟩::rest) n m:=by
 obtain⟨k0,j⟩:=Ajf.1 l;subst p;cases o with
 |none=>exact UC c g i j hd k
 |some b=>exact UC (o:=some ⟨b,0,none⟩) c g i j hd k
section
variable{P:Program}{ops:Array Oper}{C:World->Prop}{Q:Act->Prop}{n:FN}{m:SM}{rest:List Oper}
variable{d:Nat}{ty:TypeId}{pos:String}{af:Array Edge}{X Y:Operand}{t:TypeId}{u:Value}{S:Nat->Prop}{L:List HP}{h:AV}{b r:Nat}
variable{κ β:Type}{kv:κ->Value}{vv:β->Value}{l rem:List (κ×β)}{k0:κ}{z:β}{kt et:TypeId}
def rL{o:Bool}(p:CK C h)(q:St S L h)(s:MI kv vv b r l rem∈L)(v:B5 m X=some (.map (some b)))(x:B5 m Y=some (kv k0))(y:P.underlying t=some (.map kt et))(A:NU P kt kv)(B:∀w,(zeroValue et).run P w= .ok (vv z) w)(hd:Nat.blt d n.1=true)
  (D:(if o then .tuple #[vv ((KT kv l k0).getD z),.bool (KT kv l k0).isSome] else vv ((KT kv l k0).getD z))=u)
  (k:QF P ops C Q rest n ((d,u)::m)):QF P ops C Q (⟨some d,.lookup t X Y o,ty,pos,af,none⟩::rest) n m:=λa g=>by
 refine GH g hd (λw G=>?_) k;obtain⟨F,⟨H,M,es,c,i,seen,I,J,_⟩,j⟩:=q.get s;have K:w.heap[b]? =some (.map es c):=(p w G b (j b ((H b).2 (.inl rfl))).1).trans I;simp[execOp,g.eval v,g.eval x,UY y A B K J,D]
end
def oP{t e T ty:TypeId}{z:Value}{o n:Nat}(p:P.underlying t=some (.slice e))(q:∀w,(zeroValue e).run P w= .ok z w)(g:z.cells= #[z])(l:z.oneCell'=true)(s:w.heap[b]? =some (.cells cs.toArray T (0,0)))(x:0<n)(a:o+n<=cs.length):
  (Builtin.clear_ #[t] ty #[.slice (some ⟨b,o,none⟩) n c]).run P w= .ok (.tuple #[]) (w.setRow b (IY cs o (List.replicate n z)).toArray):=by
 have j:(Builtin.zeroCells z.cells n).toList=List.replicate n z:=by
  rw[g];simp[Builtin.zeroCells];apply List.ext_getElem
  ·simp
  ·intro i l y;simp[Nat.mod_one]
 have d:=run_storeCells_at P b o T (List.replicate n z) 0 cs.toArray w s (by simpa using a) (by intro u v;rw[List.eq_of_mem_replicate v];exact l);have k:(List.take (o+0) cs.toArray.toList++List.replicate n z++List.drop (o+0+(List.replicate n z).length) cs.toArray.toList)=IY cs o (List.replicate n z):=by simp[IY]
 rw[k]at d;obtain⟨m,rfl⟩:∃m,n=m+1:=⟨n-1,Ω⟩
 simp[Builtin.clear_,run_underlying p,q,j,d]
def Aa4{Q:Exit->Act->World->Prop}{ty:TypeId}{pos:String}{u:List HP}{t o k:Nat}{z:Value}(G:B5 m X=some (.slice (some ⟨b,o,none⟩) k c))(H:P.underlying t=some (.slice e))(I:∀w,(zeroValue e).run P w= .ok z w)(l:z.cells= #[z])(J:z.oneCell'=true)(U:0<k)(d:o+k<=cs.length)(V:IY cs o (List.replicate k z)=cs')(v:St S L h)(r:Nm L (Bx b T cs) (Bx b T cs') u)
  (W:∀h',St S u h'->CO S h S h'->LF P ops Q rest B h' n m):LF P ops Q (⟨none,.call ⟨.builtin .clear,#[X],#[t]⟩,ty,pos,af,none⟩::rest) B h n m:=by
 intro a w x g;refine wpList_plain rfl λK Y=>?_;unfold Oper.wp;obtain⟨M,p,_⟩:=r.pick;obtain⟨F,Z,g2,_⟩:=Sp.pick p v.2;have y:w.heap[b]? =some (.cells cs.toArray T (0,0)):=by rw[g.heap];exact Z.2
 have i:=oP (P:=P) (ty:=ty) (c:=c) H I l J y U d;have q:(execOp a.eval ⟨none,.call ⟨.builtin .clear,#[X],#[t]⟩,ty,pos,af,none⟩).run P w= .ok (.value (.tuple #[])) (w.setRow b cs'.toArray):=by
  simp[execOp,resolve,invoke,builtin,x.eval G,i,V]
 rw[q];obtain⟨h',e1,e2,e3,A⟩:=R7 w b cs.toArray cs'.toArray T y;rw[g.heap]at e2 A;have j:=v.upd r (h':=h') Ω λF C k2=>⟨F,⟨C.1,e3⟩,λ_ hb=> .inl hb,λD _ s=>A D λe=>s ((C.1 D).2 e)⟩
 exact Y _ _ (W h' j.1 j.2 _ _ x ⟨e1,g.os,g.tape,g.out⟩)
def qZ{l:xq}(a:St S (Bx b e cs::L) h)(c:l.length<=cap)(d:cap<=maxLen)(g:cs.length=cap)(i:M6 S h AC (cs.take l.length) l):St S (OS AC e (.slice (some ⟨b,0,none⟩) l.length cap) l::L) h:=
 a.bxosc c d (by rw[g];exact(Aih _).symm) (by rw[show l.length*AC.sz=l.length from Aih _];exact i)
section
variable{S:Nat->Prop}{L K:List HP}{h:AV}{T E:Nat}{f:Int->Nat}
def Sk{P Q:List (Int×Dy)}{x:Dy}(a:k≠p):C3 (P++(p,x)::Q) k=C3 (P++Q) k:=by
 unfold C3;rw[Aj0,Aj0,Aje,Agx (λe=>a e.symm)]
def Xi{P Q:List (Int×Dy)}{x:Dy}(b:∀e∈P,e.1≠p):C3 (P++(p,y)::Q) k=if k=p then some y else C3 (P++(p,x)::Q) k:=by
 by_cases a:k=p
 ·subst a;rw[Agp rfl];unfold C3;rw[Aj0,List.find?_eq_none.2 (λe c=>by simpa using b e c)];simp
 ·rw[Agn a,Sk a,Sk a]
def Yh:∀{us vs:List (Int×Dy)}{K:List HP},(us.map (·.1)).Nodup->(∀e∈us,C3 vs e.1=some e.2)->St S (K++(NB T E f vs++L)) h->St S (K++(NB T E f us++L)) h
 |[],vs,K,_,_,c=>by
  have:=c.dl (L1:=K++L) ?_
  ·exact this
  clear c
  induction K with
  |nil=>
   show Dl L (NB T E f vs++L)
   generalize NB T E f vs=X
   induction X with
   |nil=>exact .refl
   |cons x X d=>exact .drop d
  |cons k K d=>exact .keep d
 |e::us,vs,K,m,j,c=>by
  obtain⟨p,q,rfl,u⟩:=Nt (j e (.head _));have n:=PK c;have a:=Ajh.1 m;have o:St S (K++VB T E (f e.1) e.2::(NB T E f (p++q)++L)) h:=by
   refine St.mid ?_;rw[Rw,Ah0];exact n
  have s:St S ((K++[VB T E (f e.1) e.2])++(NB T E f (p++q)++L)) h:=by
   rw[Ah0];exact o
  have l:=Yh (us:=us) (vs:=p++q) a.2 (λg b=>by
   have i:g.1≠e.1:=λt=>a.1 (Ahr.2 ⟨g,b,t⟩);rw[<-Sk (x:=e.2) i];exact j g (.tail _ b)) s
  rw[Ah0]at l;exact l
end
def Ad9(vs:List (Int×Dy))(ks rem:xq)(a:List (Int×Dy)):Prop:=(∀k,k∈rem->C3 a k=C3 vs k)/\∀k,k∈ks->k∉rem->C3 a k=(C3 vs k).map λx=>{ x with kids:=x.kids.filter λk=>ks.contains k}
def Vr{a b:xq}(h:(a++k::b).Nodup):k∉a++b/\(a++b).Nodup:=Ajh.1 (List.perm_middle.nodup_iff.1 h)
def Ad9.go{l:List (Int×Dy)}{c d:xq}{x:Dy}{P Q:List (Int×Dy)}(h:Ad9 vs ks (c++k::d) l)(o:(c++k::d).Nodup)(m:l=P++(k,x)::Q)(n:∀e∈P,e.1≠k)(p:C3 vs k=some x):Ad9 vs ks (c++d) (P++(k,{ x with kids:=x.kids.filter λk=>ks.contains k})::Q):=by
 have q:=(Vr o).1;refine⟨λj b=>?_,λj b g=>?_⟩
 ·have i:j≠k:=λe=>q (e▸b);rw[Xi (x:=x) n,Agn i,<-m];refine h.1 j ?_;rcases Ahi.1 b with b|b
  ·exact Ait _ b
  ·exact Ajy _ (.tail _ b)
 ·rw[Xi (x:=x) n];by_cases e:j=k
  ·subst e;rw[Agp rfl,p];rfl
  ·rw[Agn e,<-m];refine h.2 j b λa=>g ?_;rcases Ahi.1 a with a|a
   ·exact Ait _ a
   ·rcases Agv.1 a with a|a
    ·exact absurd a e
    ·exact Ajy _ a
def Rc{vs:List (Int×Dy)}{c:xq}:∀{ks:xq},(∀k∈ks,(C3 vs k).isSome=true)->(ks.filterMap λi=>(C3 vs i).map λx=>(i,{ x with kids:=x.kids.filter λk=>c.contains k})).map (·.1)=ks
 |[],_=>rfl
 |k::ks,h=>by
  obtain⟨x,a⟩:=Ajf.1 (h k (.head _));rw[List.filterMap_cons,a];simp only[Aix,Ag9];rw[Rc λx a=>h x (.tail _ a)]
def dK(h:Ad9 vs ks [] a):∀e∈Tb vs ks,C3 a e.1=some e.2:=λe b=>by
 obtain⟨i,c,d⟩:=Ajx.1 b;obtain⟨x,g,rfl⟩:=Ah6.1 d;rw[h.2 i c (by simp),g];rfl
open Go.RowKit Go.Shelf
open Go.Proofs.Tryz
def oL:Ren:={ f:=λx=>match x with|6=>239|10=>248|11=>249|12=>250|13=>251|14=>252|24=>262|25=>243|26=>263|27=>264|28=>265|29=>266|30=>267|31=>268|32=>269|33=>270|34=>271|35=>272|36=>273|37=>274|38=>275|39=>276|n=>n,t:=λx=>match x with|20=>20|26=>183|35=>285|0=>0|37=>245|3=>3|41=>244|44=>291|49=>296|51=>125|4=>4|54=>299|53=>298|58=>140|5=>5|9=>9|60=>304|64=>308|66=>310|67=>197|17=>17|32=>282|33=>283|82=>326|12=>12|75=>319|76=>320|77=>321|78=>322|79=>323|80=>324|n=>n,g:=λx=>have n:=x;n}
def Af7:LaysGg.n6 prog oL:={ mixed:=Γ,f6:=func239,f10:=func248,f11:=func249,f12:=func250,f13:=func251,f14:=func252,f24:=func262,f25:=func243,f26:=func263,f27:=func264,f28:=func265,f29:=func266,f30:=func267,f31:=func268,f32:=func269,f33:=func270,f34:=func271,f35:=func272,f36:=func273,f37:=func274,f38:=func275,f39:=func276,t0:=underlying0,a0:=Tryz.isAgg0,z0:=Tryz.sizeOf0,v0:=Tryz.zeroValue0,i0:=Γ,t3:=underlying3,a3:=Tryz.isAgg3,z3:=Tryz.sizeOf3,v3:=Tryz.zeroValue3,i3:=Γ,t4:=underlying4,a4:=Tryz.isAgg4,z4:=Tryz.sizeOf4,v4:=Tryz.zeroValue4,i4:=Γ,t5:=underlying5,a5:=Tryz.isAgg5,z5:=Tryz.sizeOf5,v5:=Tryz.zeroValue5,i5:=Γ,t9:=underlying9,a9:=Tryz.isAgg9,z9:=Tryz.sizeOf9,v9:=Tryz.zeroValue9,i9:=Γ,t12:=underlying12,a12:=Tryz.isAgg12,z12:=Tryz.sizeOf12,v12:=Tryz.zeroValue12,i12:=Γ,t17:=underlying17,a17:=Tryz.isAgg17,z17:=Tryz.sizeOf17,v17:=Tryz.zeroValue17,i17:=Γ,t20:=underlying20,a20:=Tryz.isAgg20,z20:=Tryz.sizeOf20,v20:=Tryz.zeroValue20,i20:=Γ,t26:=underlying183,a26:=Tryz.isAgg183,z26:=Tryz.sizeOf183,v26:=Tryz.zeroValue183,i26:=Γ,t32:=underlying282,a32:=Tryz.isAgg282,z32:=Tryz.sizeOf282,v32:=Tryz.zeroValue282,i32:=Γ,t33:=underlying283,a33:=Tryz.isAgg283,z33:=Tryz.sizeOf283,v33:=Tryz.zeroValue283,i33:=Γ,t35:=underlying285,a35:=Tryz.isAgg285,z35:=Tryz.sizeOf285,v35:=Tryz.zeroValue285,i35:=Γ,t37:=underlying245,a37:=Tryz.isAgg245,z37:=Tryz.sizeOf245,v37:=Tryz.zeroValue245,i37:=Γ,t41:=underlying244,a41:=Tryz.isAgg244,z41:=Tryz.sizeOf244,v41:=Tryz.zeroValue244,i41:=Γ,t44:=underlying291,a44:=Tryz.isAgg291,z44:=Tryz.sizeOf291,v44:=Tryz.zeroValue291,i44:=Γ,t49:=underlying296,a49:=Tryz.isAgg296,z49:=Tryz.sizeOf296,v49:=Tryz.zeroValue296,i49:=Γ,t51:=underlying125,a51:=Tryz.isAgg125,z51:=Tryz.sizeOf125,v51:=Tryz.zeroValue125,i51:=Γ,t53:=underlying298,a53:=Tryz.isAgg298,z53:=Tryz.sizeOf298,v53:=Tryz.zeroValue298,i53:=Γ,t54:=underlying299,a54:=Tryz.isAgg299,z54:=Tryz.sizeOf299,v54:=Tryz.zeroValue299,i54:=Γ,t58:=underlying140,a58:=Tryz.isAgg140,z58:=Tryz.sizeOf140,v58:=Tryz.zeroValue140,i58:=Γ,t60:=underlying304,a60:=Tryz.isAgg304,z60:=Tryz.sizeOf304,v60:=Tryz.zeroValue304,i60:=Γ,t64:=underlying308,a64:=Tryz.isAgg308,z64:=Tryz.sizeOf308,v64:=Tryz.zeroValue308,i64:=Γ,t66:=underlying310,a66:=Tryz.isAgg310,z66:=Tryz.sizeOf310,v66:=Tryz.zeroValue310,i66:=Γ,t67:=underlying197,a67:=Tryz.isAgg197,z67:=Tryz.sizeOf197,v67:=Tryz.zeroValue197,i67:=Γ,t75:=underlying319,a75:=Tryz.isAgg319,z75:=Tryz.sizeOf319,v75:=Tryz.zeroValue319,i75:=Γ,t76:=underlying320,a76:=Tryz.isAgg320,z76:=Tryz.sizeOf320,v76:=Tryz.zeroValue320,i76:=Γ,t77:=underlying321,a77:=Tryz.isAgg321,z77:=Tryz.sizeOf321,v77:=Tryz.zeroValue321,i77:=Γ,t78:=underlying322,a78:=Tryz.isAgg322,z78:=Tryz.sizeOf322,v78:=Tryz.zeroValue322,i78:=Γ,t79:=underlying323,a79:=Tryz.isAgg323,z79:=Tryz.sizeOf323,v79:=Tryz.zeroValue323,i79:=Γ,t80:=underlying324,a80:=Tryz.isAgg324,z80:=Tryz.sizeOf324,v80:=Tryz.zeroValue324,i80:=Γ,t82:=underlying326,a82:=Tryz.isAgg326,z82:=Tryz.sizeOf326,v82:=Tryz.zeroValue326,i82:=by kernel_rfl}
open Go.Shelf Go.RowKit Go.Lib Go.Sort
set_option maxHeartbeats 2000000 in
def ZI(l m g off c b n o u a:Nat)(W:World)(G:Nat->Nat)(R:Nat->Int)(z:W.cell? ⟨l,0,none⟩=some (.slice (some ⟨g,off,none⟩) b c))(A:W.cell? ⟨m,0,none⟩=some (.slice (some ⟨n,o,none⟩) a u))
  (p:∀t,t<b->W.cell? ⟨g,off+t,none⟩=some (.int .i64 (G t:Int))) (s:∀t,t<a->W.cell? ⟨n,o+t,none⟩=some (.int .i64 (R t))) (i j:Nat) (v:i<b) (w:j<b) (x:G i<a) (y:G j<a):
  Calls Tryz.prog 240 #[.int .i64 i,.int .i64 j,.pointer (some ⟨l,0,none⟩),.pointer (some ⟨m,0,none⟩)] W λe w'=>e= .returned (.bool (cond (!decide (R (G i)=R (G j))) (decide (R (G j)<R (G i))) (decide (G i<G j))))/\∃q,w'=W.drewN q:=by
 have B:=p i v;have C:=p j w;have D:=s _ x;have F:=s _ y;go_enter Tryz.func240,Tryz.ntmps240
 go_wp2
 go_quiet (fail)
 go_wp2
 go_quiet (fail)
 go_wp2
 ·go_quiet (fail)
  go_wp2
  go_ret
  rename_i d;have k:decide (R (G i)=R (G j))=false:=by simpa using d
  refine⟨by rw[k];rfl,_,by(try simp only[World.drewN_drewN]);rfl⟩
 ·go_ret
  rename_i d;have k:decide (R (G i)=R (G j))=true:=by simpa using d
  refine⟨by rw[k];rfl,_,by(try simp only[World.drewN_drewN]);rfl⟩
def iS(R:Nat->Int){n:Nat}:SWO (λa b:Fin n=>Tq R a b) where
 irrefl x:=by simp[Tq]
 trans x y z h1 h2:=by
  simp only[Tq]at*;by_cases c:R x=R y<;>by_cases d:R y=R z<;>by_cases g:R x=R z<;>simp_all<;>omega
 ntrans x y z h1 h2:=by
  simp only[Tq]at*;by_cases c:R x=R y<;>by_cases d:R y=R z<;>by_cases g:R x=R z<;>simp_all<;>omega
def cT(R:Nat->Int)(a b:Nat)(d:Tq R a b=false)(g:Tq R b a=false):a=b:=by
 simp only[Tq]at*;by_cases c:R a=R b
 ·simp_all;omega
 ·have i:¬R b=R a:=λj=>c j.symm;simp_all;omega
def Xr(p q g off c n s v z:Nat)[NeZero n](W:World)(R:Nat->Int)(C:W.cell? ⟨p,0,none⟩=some (.slice (some ⟨g,off,none⟩) n c))(D:W.cell? ⟨q,0,none⟩=some (.slice (some ⟨s,v,none⟩) n z))
  (d:Array (Fin n)) (hd:d.size=n) (F:Holds (λk:Fin n=>Value.int .i64 (k.val:Int)) W g off d) (G:∀t,t<n->W.cell? ⟨s,v+t,none⟩=some (.int .i64 (R t))) (A:g<W.heap.size) (H:p<W.heap.size) (I:q<W.heap.size) (J:s<W.heap.size) (K:p≠g) (M:q≠g) (Q:s≠g):
  LessReads Tryz.prog 240 #[.pointer (some ⟨p,0,none⟩),.pointer (some ⟨q,0,none⟩)] (λk:Fin n=>Value.int .i64 (k.val:Int)) (λa b:Fin n=>Tq R a b) g off n W:=by
 intro m u o U i j V X;have e:sortWorld (λk:Fin n=>Value.int .i64 (k.val:Int)) W g off m o u=putRow (λk:Fin n=>Value.int .i64 (k.val:Int)) (grow (Sort.ahead W m) u) g off o:=by
  unfold sortWorld;rw[putRow_grow _ (Sort.ahead W m) _ g off _ A]
 have w:Holds (λk:Fin n=>Value.int .i64 (k.val:Int)) (grow (Sort.ahead W m) u) g off d:=holds_grow _ _ _ g off d A (holds_ahead _ _ _ _ _ _ F);have l:∀a:Addr,a.block≠g->a.block<W.heap.size->(sortWorld (λk:Fin n=>Value.int .i64 (k.val:Int)) W g off m o u).cell? a=W.cell? a:=λa x y=>by
  rw[e,cell?_putRow_other _ _ g off o _ (Or.inl x),cell?_grow (Sort.ahead W m) _ _ y];rfl
 refine ZI p q g off c n s v z n _ (λt=>(o[t]!).val) R ((l _ K H).trans C) ((l _ M I).trans D) (λt B=>?_) (λt B=>(l _ Q J).trans (G t B)) i j V X (o[i]!).isLt (o[j]!).isLt;rw[e];exact cell?_putRow _ _ g off d o w (U.trans hd.symm) t Ω
noncomputable def Af8:TypeInfo:=(Tryz.prog.info? 29).get Γ
noncomputable def sX:TypeInfo:=(Tryz.prog.info? 3).get Γ
def siK(n:Nat)(g:2<=n):Lib.swapperK n sX 2=5:=by
 have a:sX.hasPointers=false:=Γ
 have b:sX.bytes=8:=Γ
 have c:(n==0)=false:=by simp;omega
 have d:(n==1)=false:=by simp;omega
 simp[Lib.swapperK,a,b,c,d]
def Xq(i j g off c n l o u:Nat)[NeZero n](W:World)(R:Nat->Int)(x:W.cell? ⟨i,0,none⟩=some (.slice (some ⟨g,off,none⟩) n c))(y:W.cell? ⟨j,0,none⟩=some (.slice (some ⟨l,o,none⟩) n u))
  (d:Array (Fin n)) (hd:d.size=n) (K:2<=n) (z:n<4611686018427387904) (v:Holds (λk:Fin n=>Value.int .i64 (k.val:Int)) W g off d) (A:∀t,t<n->W.cell? ⟨l,o+t,none⟩=some (.int .i64 (R t))) (w:g<W.heap.size) (B:i<W.heap.size) (C:j<W.heap.size) (D:l<W.heap.size) (F:i≠g) (G:j≠g) (H:l≠g):
  Calls Tryz.prog 239 #[.iface 29 (.slice (some ⟨g,off,none⟩) n c),.func (.func 240) #[] #[.pointer (some ⟨i,0,none⟩),.pointer (some ⟨j,0,none⟩)]] W λe w'=>
   e= .returned (.tuple #[])/\∃p q I,PermIn 0 d.size d p/\SortedIn (λa b:Fin n=>Tq R a b) 0 d.size p/\w'=grow (putRow (λk:Fin n=>Value.int .i64 (k.val:Int)) (Sort.ahead W q) g off p) I:=by
 have J:=Xr i j g off c n l o u W R x y d hd v A w B C D F G H;have s:=Any.sort_Slice_sorted Af7 29 3 Af8 sX Γ Γ Γ Γ 2 (λ_=>Γ) Γ (λ_=>Γ) (λk:Fin n=>Value.int .i64 (k.val:Int)) (λ_=>rfl) (λa b:Fin n=>Tq R a b) (iS R) 240 _
  (enters_of Tryz.func240 Γ rfl) g off c d Ω Ω 257 (by rw[siK _ Ω];kernel_rfl) true
  (λm W=>run_callFunc_extern Tryz.func257 Γ Γ Γ (e:=Extern.ReflectliteSwapper.swap true) Γ m W) W (by rw[hd];exact J) v w
 rw[hd]at s;change Calls Tryz.prog 239 _ _ _ at s;rw[hd];exact s
def WW{j:Type}[Inhabited j](enc:j->Value)(W:World)(q g b:Nat)(d:Array j)(a:Array Obj)(c:b<W.heap.size)(i:b≠g):(grow (putRow enc (Sort.ahead W q) g 0 d) a).heap[b]? =W.heap[b]? :=by
 show((W.heap.modify g _)++a)[b]? =_
 rw[Akg (by simpa using c),Array.getElem?_modify];simp[Ne.symm i]
def WX{i:Type}[Inhabited i](enc:i->Value)(W:World)(q g:Nat)(d:Array i)(b:Array Obj){T:TypeId}{fr:Nat×Nat}(c:W.heap[g]? =some (.cells cur T fr)):(grow (putRow enc (Sort.ahead W q) g 0 d) b).heap[g]? =some (.cells (putCells enc 0 d cur) T fr):=by
 have a:g<W.heap.size:=(Ahu.1 c).1;show((W.heap.modify g _)++b)[g]? =_
 rw[Akg (by simpa using a),Array.getElem?_modify];simp[c,onCells]
def US{b:Type}[Inhabited b](enc:b->Value)(W:World)(q g:Nat)(d:Array b)(a:Array Obj):W.heap.size<=(grow (putRow enc (Sort.ahead W q) g 0 d) a).heap.size:=by
 show W.heap.size<=((W.heap.modify g _)++a).size
 simp
def Tc{lt:Int->Int->Bool}(g:∀x,lt x x=false)(i:∀x y z,lt x y=true->lt y z=true->lt x z=true)(j:∀x y z,lt x y=false->lt y z=false->lt x z=false)(x:Int):∀l:xq,l.Pairwise (λa b=>lt b a=false)->(VU lt x l).Pairwise λa b=>lt b a=false
 |[],_=>by simp[VU]
 |y::l,o=>by
  have k:∀z,z∈l->lt z y=false:=λz c=>List.rel_of_pairwise_cons o c;have m:=o.of_cons;unfold VU;cases d:lt y x with
  |true=>
   refine List.Pairwise.cons (λz c=>?_) (Tc g i j x l m);rcases Agv.1 ((Qm lt x l).mem_iff.1 c)with rfl|c
   ·cases n:lt z y with
    |false=>rfl
    |true=>have:=i _ _ _ d n;rw[g]at this;cases this
   ·exact k z c
  |false=>
   refine List.Pairwise.cons (λz c=>?_) o;rcases Agv.1 c with rfl|c
   ·exact d
   ·exact j _ _ _ (k z c) d
def SL{lt:Int->Int->Bool}(c:∀x,lt x x=false)(d:∀x y z,lt x y=true->lt y z=true->lt x z=true)(g:∀x y z,lt x y=false->lt y z=false->lt x z=false):∀l:xq,(Ou lt l).Pairwise λa b=>lt b a=false
 |[]=> .nil
 |x::l=>Tc c d g x _ (SL c d g l)
def Y5(a:xq)(x:Int):TV a x x=false:=by simp[TV,Tq]
def Acr(a b c:Int)(x y z:Nat)(d:cond (!decide (a=b)) (decide (b<a)) (decide (x<y))=true)(g:cond (!decide (b=c)) (decide (c<b)) (decide (y<z))=true):cond (!decide (a=c)) (decide (c<a)) (decide (x<z))=true:=by
 by_cases i:a=b<;>by_cases j:b=c<;>by_cases k:a=c<;>simp_all<;>omega
def Acs(a b c:Int)(x y z:Nat)(d:cond (!decide (a=b)) (decide (b<a)) (decide (x<y))=false)(g:cond (!decide (b=c)) (decide (c<b)) (decide (y<z))=false):cond (!decide (a=c)) (decide (c<a)) (decide (x<z))=false:=by
 by_cases i:a=b<;>by_cases j:b=c<;>by_cases k:a=c<;>simp_all<;>omega
def cU(a:xq)(x y z:Int)(b:TV a x y=true)(c:TV a y z=true):TV a x z=true:=Acr _ _ _ _ _ _ b c
def Y4(a:xq)(x y z:Int)(b:TV a x y=false)(c:TV a y z=false):TV a x z=false:=Acs _ _ _ _ _ _ b c
def Wq(c:xq){l d:xq}(h0:∀x,x∈l->0<=x)(g:d.Perm l)(i:d.Pairwise λa b=>TV c b a=false):d=Ou (TV c) l:=by
 refine List.Perm.eq_of_pairwise (le:=λx y=>TV c y x=false) (λa b j k m n=>?_) i (SL (Y5 c) (cU c) (Y4 c) l) (g.trans (N4 _ l).symm);have e:=cT _ _ _ n m;have o:=h0 a (g.mem_iff.1 j);have p:=h0 b ((N4 _ l).mem_iff.1 k);omega
def We{S:Nat->Prop}{o:AV}:∀{l:xq}{cs:List Value},M6 S o AC cs l->cs=l.map (Value.int .i64)/\∀x,x∈l->AB x
 |[],cs,k=>⟨k,λx d=>by cases d⟩
 |x::l,cs,⟨g,n,e,c,i⟩=>by
  have a:g=[.int .i64 x]:=c.1;obtain⟨j,m⟩:=We i;subst e;subst a;subst j;exact⟨rfl,λy b=>by
   rcases Agv.1 b with rfl|b
   ·exact c.2
   ·exact m y b⟩
def X0{S:Nat->Prop}{b:AV}:∀{l:xq},(∀x,x∈l->AB x)->M6 S b AC (l.map (Value.int .i64)) l
 |[],_=>rfl
 |x::l,k=>⟨[.int .i64 x],_,rfl,⟨rfl,k x (Ahf ..)⟩,X0 λy a=>k y (Aht _ a)⟩
def Ae4:Lib.swapperK 1 sX 2=2:=by
 have a:sX.hasPointers=false:=Γ
 have b:sX.bytes=8:=Γ
 simp[Lib.swapperK,a,b]
def VQ{n:Nat}[NeZero n](enc:Fin n->Value)(d:Array (Fin n))(cur:Array Value)(b:d.size<=cur.size):(putCells enc 0 d cur).toList.take d.size=d.toList.map enc:=by
 apply Ah1;intro i;rw[Ai4];by_cases a:i<d.size
 ·rw[Agp a,Array.getElem?_toList];have c:i<cur.size:=Ω
  simp[putCells,a,c,getElem!_pos]
 ·rw[Agn a,Ahj (by simpa using a)]
def Y3{v Y:Value}{c p:xq}(Z:St S (Bx A 29 [v]::OS AC 3 v c::Bx s 29 [Y]::OS AC 3 Y p::L) h)(E:UU c p=some G):
  CG Tryz.prog 239 #[.iface 29 v,.func (.func 240) #[] #[.pointer (some ⟨A,0,none⟩),.pointer (some ⟨s,0,none⟩)]] S h (λr S' h'=>r= .tuple #[]/\St S' (Bx A 29 [v]::OS AC 3 v G::Bx s 29 [Y]::OS AC 3 Y p::L) h'):=by
 unfold UU at E;split at E
 ·rename_i hc;obtain⟨hl,D,am,H⟩:=hc;cases E;intro B W m;have u:∀x,x∈c->0<=x/\x<c.length:=λx I=>by simpa using Agz.1 H x I
  obtain⟨F1,k1,s1,F2,k2,s2,F3,k3,s3,F4,k4,s4,_⟩:=Z.2;rcases k2 with⟨_,e0,_⟩|⟨g,cap,cur,e1,e2,e3,e4,e5,e6,e7⟩
  ·rw[e0]at D;cases D
  rcases k4 with⟨_,e0,_⟩|⟨rb,rcap,rcur,f1,f2,f3,f4,f5,f6,f7⟩
  ·rw[hl,e0]at D;cases D
  subst e1;subst f1;have hn:NeZero c.length:=⟨Ω⟩
  obtain⟨r1,r2⟩:=We e7;obtain⟨q1,q2⟩:=We f7;have r1:cur.toList.take c.length=c.map (Value.int .i64):=by rw[<-r1];congr 1;exact(Aih _).symm
  have q1:rcur.toList.take p.length=p.map (Value.int .i64):=by rw[<-q1];congr 1;exact(Aih _).symm
  have e6:cur.size=cap:=by rw[e6];exact Aih _
  have n:∀(b:Nat)(cs:Array Value)(T:TypeId)(t:Nat),h[b]? =some (.cells cs T (0,0))->W.cell? ⟨b,t,none⟩=cs[t]? :=λb cs T t z=>by
   rw[NI,m.heap];simp[KE,z]
  have n1:A≠g:=λe=>(s2 g ((e2 g).2 rfl)).2 (by rw[k1.1 g];exact e.symm);have n2:s≠g:=λe=>(s3 s ((k3.1 s).2 rfl)).2 ((e2 s).2 e);have n3:rb≠g:=λe=>(s4 rb ((f2 rb).2 rfl)).1.2 ((e2 rb).2 e);have lt:∀(b:Nat) o,h[b]? =some o->b<W.heap.size:=λb o z=>by rw[m.heap];exact(Ahu.1 z).1
  have J:∀t (w:t<c.length),cur[t]? =some (.int .i64 c[t]):=λt w=>by
   have:(cur.toList.take c.length)[t]? =some (.int .i64 c[t]):=by rw[r1];simp[w]
   rw[Aif w]at this;simpa using this
  have aa:∀t,t<c.length->rcur[t]? =some (.int .i64 (p.getD t 0)):=λt w=>by
   have y:t<p.length:=Ω
   have:(rcur.toList.take p.length)[t]? =some (.int .i64 (p.getD t 0)):=by rw[q1];simp[y,Ahc]
   rw[Aif y]at this;simpa using this
  by_cases ab:2<=c.length
  ·have hd:=λ(i:Fin c.length)=>(u c[i] (Agy _))
   obtain⟨d,ds,K⟩:∃d:Array (Fin c.length),d.size=c.length/\d.toList.map (λk=>(k.val:Int))=c:=by
    refine⟨Array.ofFn λi:Fin c.length=>(⟨(c[i]).toNat,by have:=hd i;omega⟩:Fin c.length),by simp,?_⟩;apply Ah1;intro i;by_cases hi:i<c.length
    ·have h9:=(u c[i] (Agy _)).1;simp[hi];omega
    ·rw[Ahj (by simpa using hi),Ahj Ω]
   have ac:∀t (w:t<c.length),((d[t]!).val:Int)=c[t]:=λt w=>by
    have a:(d.toList.map (λk=>(k.val:Int)))[t]? =some c[t]:=by rw[K];simp[w]
    have y:t<d.size:=Ω
    rw[getElem!_pos d t y];simpa[y]using a
   refine(Xq A s g 0 cap c.length rb 0 rcap W (λt=>p.getD t 0) ((n A _ _ 0 k1.2).trans rfl) ((n s _ _ 0 k3.2).trans (by rw[hl];rfl)) d ds ab Ω (λj hj=>⟨?_,?_⟩) (λt w=>?_) (lt g _ e3) (lt A _ k1.2) (lt s _ k3.2) (lt rb _ f3) n1 n2 n3).mono ?_
   ·rw[Ahw,n g cur 3 j e3,J j Ω];show _=some (Value.int .i64 ((d[j]!).val:Int))
    rw[ac j Ω]
   ·simp[World.frozen?,m.heap,e3]
   ·rw[Ahw,n rb rcur 3 t f3];exact aa t w
   rintro e w' ⟨rfl,l,q,C,hp,ad,rfl⟩;have M:l.size=c.length:=hp.1.trans ds;have Q:(l.toList.map (λk=>(k.val:Int))).Perm c:=by
    have a:=hp.2.2;have ae:l.extract 0 d.size=l:=by rw[<-hp.1];exact Array.extract_size
    rw[ae,Array.extract_size]at a;have:=a.map (λk:Fin c.length=>(k.val:Int));rwa [K]at this
   have af:(l.toList.map (λk=>(k.val:Int))).Pairwise λa b=>TV p b a=false:=by
    rw[List.pairwise_map,Aka];intro i j hi hj ag;have ah:i<l.size:=by simpa using hi
    have ai:j<l.size:=by simpa using hj
    have:=ad i j (Agr _) ag Ω;rw[getElem!_pos l j ai,getElem!_pos l i ah]at this;simpa[TV]using this
   have hq:=Wq p (λx I=>(u x I).1) Q af;rw[<-hq];have aj:=WX (λk:Fin c.length=>Value.int .i64 (k.val:Int)) W q g l C (cur:=cur) (T:=3) (fr:=(0,0)) (by rw[m.heap];exact e3);have U:=Z.upd (H':=OS AC 3 (.slice (some ⟨g,0,none⟩) c.length cap) (l.toList.map (λk=>(k.val:Int)))) (h':=(grow (putRow (λk:Fin c.length=>Value.int .i64 (k.val:Int)) (Sort.ahead W q) g 0 l) C).heap) (.tail .head) (by have:=US (λk:Fin c.length=>Value.int .i64 (k.val:Int)) W q g l C;rw[m.heap]at this;exact this) (λF V m2=>by
    rcases V with⟨_,V,_⟩|⟨g',cap',cur',V,m3,_⟩
    ·rw[V]at D;cases D
    ·injection V with X z2 z3
     injection X with X
     injection X with X
     subst X;refine⟨F,.inr ⟨g,cap,_,by simp[M],m3,aj,by simpa[M]using e4,e5,?_,?_⟩,λ_ z=> .inl z,λb z ak=>?_⟩
     ·simp only[putCells,Array.size_mapIdx];rw[e6];exact(Aih _).symm
     ·have w:=VQ (λk:Fin c.length=>Value.int .i64 (k.val:Int)) l cur Ω;rw[show(l.toList.map (λk=>(k.val:Int))).length*AC.sz=l.size from by simp;exact Aih _,w];have:l.toList.map (λk:Fin c.length=>Value.int .i64 (k.val:Int))=(l.toList.map (λk=>(k.val:Int))).map (Value.int .i64):=by rw[List.map_map];rfl
      rw[this];exact X0 λx I=>r2 x (Q.mem_iff.1 I)
     ·rw[WW _ W q g b l C (by rw[m.heap];exact z) (λe=>ak ((m3 b).2 e)),m.heap])
   exact⟨_,S,_,rfl,⟨rfl,m.os,m.tape,m.out⟩,U.2,rfl,U.1⟩
  ·have al:c.length=1:=Ω
   obtain⟨x,rfl⟩:∃x,c=[x]:=List.length_eq_one_iff.1 al;have hT:=Any.sort_Slice_tiny (P:=Tryz.prog) { Af7 with} 29 3 Af8 sX Γ Γ Γ Γ 2 (λ_=>Γ) (some ⟨g,0,none⟩) 1 cap (Ag5 _) 254 (by rw[Ae4];kernel_rfl) (.func 240) #[] #[.pointer (some ⟨A,0,none⟩),.pointer (some ⟨s,0,none⟩)] W;change Calls Tryz.prog 239 _ _ _ at hT;refine hT.mono ?_;rintro e w' ⟨rfl,C,rfl⟩;have ho:Ef h (grow W C).heap:=⟨by show h.size<=(W.heap++C).size;rw[m.heap];simp,λb z=>by show(W.heap++C)[b]? =_;rw[m.heap,Akg z]⟩
   exact⟨_,S,_,rfl,⟨rfl,m.os,m.tape,m.out⟩,ho.ext Z.1,rfl,ho.st Z⟩
 ·cases E
set_option maxRecDepth 10000
set_option maxHeartbeats 20000000
variable{N:Nat}{S:Nat->Prop}{L:List HP}{h:AV}
def Pd(hs:St S L h){r:AF}(E:LW N=some r):
 CG prog 34 #[] S h (λv S' h'=>Rd S' h' Bz v r/\St S' (L) h'):=by
 refine CG.go 9 func34 O ntmps34 O λB=>?_;rw[LW]at E;refine AU ?_;refine DT eT O hs λb1 h2 z e4=>AU ?_;refine IX (cs:=[.string (ByteArray.mk #[111])]) lJ O O O O O O O z λb5 h6 A e8=>AU ?_;refine GP (cs:=[vI 0,vI 0]) vY O O O (AU ?_);refine IX (cs:=[vI 0,vI 0]) ZL O O O O O O O A λX ab b ac=>IX (cs:=[vI 100]) JY O O O O O O O b λc ad d ae=>AU ?_;have g:=d.bxos (r:=CH) (l:=([(⟨0,0⟩:B3)]:List B3)) (.tail .head) ⟨_,_,O,⟨O,⟨(iq (n:=0) O),(iq (n:=0) O)⟩⟩,O⟩ (by simp[maxLen]);obtain⟨af,i,ag,C⟩:=g.pubs (.tail .head);have j:=i.bxos (r:=AC) (l:=([100]:xq)) .head ⟨_,_,O,⟨O,(iq (n:=100) O)⟩,O⟩ (by simp[maxLen]);obtain⟨ah,k,ai,D⟩:=j.pubs .head;refine GP (cs:=[.string (ByteArray.mk #[112]),vI 0,vI 2,vI 1000,(.slice (some ⟨X,0,none⟩) 1 1),(.slice (some ⟨c,0,none⟩) 1 1),vI 1,vI 10,vI (-1),vI 0,vI 0,vN]) vX O O O (AU ?_);refine IX (cs:=[.string (ByteArray.mk #[112]),vI 0,vI 2,vI 1000,(.slice (some ⟨X,0,none⟩) 1 1),(.slice (some ⟨c,0,none⟩) 1 1),vI 1,vI 10,vI (-1),vI 0,vI 0,vN]) lI O O O O O O O k λF aj m ak=>IX (cs:=[vI 0,vI 0,vI 0]) JY O O O O O O O m λG am o an=>AU ?_;have p:=o.bxos (r:=A9.str) (l:=([(ByteArray.mk #[111])]:List ByteArray)) (.tail (.tail .head)) ⟨_,_,O,⟨O,(by decide)⟩,O⟩ (by simp[maxLen]);obtain⟨ao,q,ap,H⟩:=p.pubs (.tail (.tail .head));have I:=C.nw;have J:=D.nw;have s:=q.bxos (r:=B4) (l:=Ql) (.tail .head) ⟨_,_,O,⟨_,_,_,O,(by decide),(iq (n:=0) O),(iq (n:=2) O),(iq (n:=1000) O),I,J,(iq (n:=1) O),(iq (n:=10) O),(iq (n:=(-1)) O),(iq (n:=0) O),(iq (n:=0) O),(.inl ⟨O,O⟩)⟩,O⟩ (by simp[maxLen,Ql]);obtain⟨aq,t,ar,K⟩:=s.pubs (.tail .head);have u:=t.bxos (r:=AC) (l:=([0,0,0]:xq)) .head ⟨_,_,O,⟨O,(iq (n:=0) O)⟩,⟨_,_,O,⟨O,(iq (n:=0) O)⟩,⟨_,_,O,⟨O,(iq (n:=0) O)⟩,O⟩⟩⟩ (by simp[maxLen]);obtain⟨au,w,av,M⟩:=u.pubs .head;refine GP (cs:=[.string (ByteArray.mk #[98]),(.slice (some ⟨b5,0,none⟩) 1 1),vI 0,(.slice (some ⟨F,0,none⟩) 1 1),vN,vN,vN,vN,vN,(.slice (some ⟨G,0,none⟩) 3 3),vI 0]) Abu O O O (AU ?_);refine EM O O O O Ns.1 O w .head O λaw a Q=>AU ?_;refine CM (λaa ww Y Z=>?_);have U:=H.nw;have V:=K.nw;have W:=M.mono' Q;have y:=a.drop .head;cases E;exact K0 Y O Z (Iv (Xu Y Z a O mh Ns.1 O) Kz) O EX ⟨(Bz.mk (x:=(⟨(ByteArray.mk #[98]),([(ByteArray.mk #[111])]:List ByteArray),0,Ql,[],[],[],[],[],([0,0,0]:xq),0⟩:AF)) (by decide) U (iq (n:=0) O) V (.inl ⟨O,O⟩) (.inl ⟨O,O⟩) (.inl ⟨O,O⟩) (.inl ⟨O,O⟩) (.inl ⟨O,O⟩) W (iq (n:=0) O)),y⟩
def B9(k:St S L h){b:Value}{c:xq}(a:Sl S h AC b c){r:xq}(E:BR N c=some r):
 CG prog 73 #[b] S h (λv S' h'=>St S' (OS AC 3 v r::L) h'):=by
 refine CG.go 8 func73 O ntmps73 O λB=>?_;rw[BR]at E;rcases a.cases with⟨rfl,rfl⟩|⟨n,m,rfl,a⟩
 ·have s:(some ([]:xq))=some r:=by simpa[chk,HN]using E
  refine AU ?_;refine J2 O O O fS (AU ?_);refine Kr O (AU ?_);have d:=k.nil AC 3;cases E;exact GF d O O EX
 refine AU ?_;refine K9 O O O fS (AU ?_);refine Ks O (AU ?_);refine Jl (r:=AC) JY O O k λv1 t g o=>AU ?_;have p:=a.mono' o;obtain⟨i,E⟩:=MF E;refine Eg (r:=AC) (l:=([]:xq)) (xs:=c) O O JY O (Sl.src p) O i O g (λ_=> .head) λu w j q=>AU ?_;cases E;exact GF j O O EX
def UP(hs:St S L h){c:AF}(ap:Rd S h Bz ab c){d:Int}(ba:AB d){r:AH}(E:PH N c d=some r):
 CG prog 36 #[ab,vI d] S h (λv S' h'=>Rd S' h' BP v r/\St S' (L) h'):=by
 refine CG.go 47 func36 O ntmps36 O λB=>?_;rw[PH]at E;refine AU ?_;refine CC O ap CE O hs λq1 S2 h3 eg e5 k6=>DT Pn O eg λb7 h8 j hn=>AU ?_;obtain⟨b5,E⟩:=MF E;obtain⟨b6,E⟩:=MF E;obtain⟨b8,E⟩:=MF E;obtain⟨b9,E⟩:=MF E;obtain⟨ca,E⟩:=MF E;refine qW (m:=[(4,vP b7 0),(2,q1),(1,vI d)]) [23] [] [4,8,12,16,20,22] ⟨[(21,[8,12,16,20,24,28])],λi l=>match i,l with|21,[some a8,some eh,some ei,some ej,some ek,some el]=>some (.agg ([a8]++[eh]++[ei]++[(vN:Value)]++[ej]++[ek]++[el]).toArray)|_,_=>none⟩ Γ Γ (λi v t=>match i with|0=>v=vI d/\AB d|1=>Pt S2 t (A9.sl B4) v c.A|2=>Sl S2 t B4 v c.A|3=>v=vI (↑c.A.length:Int)/\AB (↑c.A.length:Int)|4=>dX S2 h8 (A9.sl AC) 29 (List.replicate ((↑c.A.length:Int):Int).toNat ([]:xq)) v t|5=>Pt S2 t (A9.sl B4) v c.A|6=>Sl S2 t B4 v c.A|7=>v=vI (↑c.A.length:Int)/\AB (↑c.A.length:Int)|8=>dX S2 h8 AC 3 (List.replicate ((↑c.A.length:Int):Int).toNat (0:Int)) v t|9=>Pt S2 t (A9.sl CD) v c.E|10=>Sl S2 t CD v c.E|11=>v=vI (↑c.E.length:Int)/\AB (↑c.E.length:Int)|12=>dX S2 h8 BZ 107 (List.replicate ((↑c.E.length:Int):Int).toNat ((⟨0,0,false,false⟩:A8):A8)) v t|13=>Pt S2 t (A9.sl A9.str) v c.I|14=>Sl S2 t A9.str v c.I|15=>v=vI (↑c.I.length:Int)/\AB (↑c.I.length:Int)|16=>dX S2 h8 AC 3 (List.replicate ((↑c.I.length:Int):Int).toNat (0:Int)) v t|17=>Pt S2 t (A9.sl A9.str) v c.I|18=>Sl S2 t A9.str v c.I|19=>v=vI (↑c.I.length:Int)/\AB (↑c.I.length:Int)|20=>dX S2 h8 AC 3 (List.replicate ((↑c.I.length:Int):Int).toNat (0:Int)) v t|21=>True|22=>eQ h8 36 [vI 0,vN,vN,vN,vN,vN,vN] v t|_=>False) [[],[],[(1,9)],[(2,10)],[(3,11)],[],[(5,13)],[(6,14)],[(7,15)],[],[(9,17)],[(10,18)],[(11,19)],[],[(13,21)],[(14,22)],[(15,23)],[],[(17,25)],[(18,26)],[(19,27)],[(0,8),(4,12),(8,16),(12,20),(16,24),(20,28)],[],[]] [(0,8),(4,12),(8,16),(12,20),(16,24),(20,28),(21,29),(22,5)] mo Γ [4,2,1] O Γ Γ Γ O (kp [4,2,1] O) (λi v h1 h2 o1 o2 C=>?_) Γ (QS O (QS O (QS O (QS O (QS O (qT (T:=36) O Aab)))))) ?_ ?_ ?_
 ·match i,C with
   |0,C|3,C|7,C|11,C|15,C|19,C|21,C=>exact C
   |1,C|5,C|9,C|13,C|17,C=>exact OJ.mono C (o2.ext λb hb=>Ag6 (j.1 b hb) o1.siz)
   |2,C|6,C|10,C|14,C|18,C=>exact Sl.mono' C (o2.ext λb hb=>Ag6 (j.1 b hb) o1.siz)
   |4,C|8,C|12,C|16,C|20,C=>exact C.mono j.1 o2
   |22,C=>exact C.mono o2
   |_+23,C=>exact C.elim
 ·exact trivial
 ·refine Fi.cons O O O F9 (Fi.cons O O O ?_ ?_)
  ·intro U t o;have q:=o.st j;have em:=k6.nw;have en:=em.fl Ck;refine AU ?_;exact B1 en
  refine Fi.cons O O O ?_ ?_
  ·intro U t o;intro eo bb;have q:=o.st j;have bb:Pt _ _ (A9.sl B4) eo c.A:=bb;obtain⟨ho,_,ep⟩:=bb.ll;refine AU ?_;exact B1 ep
  refine Fi.cons O O O ?_ ?_
  ·intro U t o;intro eq bc;have q:=o.st j;have bc:Sl _ _ B4 eq c.A:=bc;have er:=bc.le;refine AU ?_;exact B1 ⟨O,(Mk er)⟩
  refine Fi.nw O O O (λ_ _ o _ es=>by obtain⟨rfl,hp⟩:=es;exact VC (r:=(A9.sl AC)) (zx:=[]) Uv O ⟨_,O,.inl ⟨O,O⟩⟩ O O b5 O O o j.1 λv' h' o' r' f'=>BB o' ⟨r',f'⟩) ?_;refine Fi.cons O O O ?_ ?_
  ·intro U t o;have q:=o.st j;have eu:=k6.nw;have ev:=eu.fl Ck;refine AU ?_;exact B1 ev
  refine Fi.cons O O O ?_ ?_
  ·intro U t o;intro ew be;have q:=o.st j;have be:Pt _ _ (A9.sl B4) ew c.A:=be;obtain⟨hq,_,ey⟩:=be.ll;refine AU ?_;exact B1 ey
  refine Fi.cons O O O ?_ ?_
  ·intro U t o;intro ez bf;have q:=o.st j;have bf:Sl _ _ B4 ez c.A:=bf;have e0:=bf.le;refine AU ?_;exact B1 ⟨O,(Mk e0)⟩
  refine Fi.nw O O O (λ_ _ o _ e1=>by obtain⟨rfl,ht⟩:=e1;exact VC (r:=AC) (zx:=0) JY O ⟨O,by unfold AB;omega⟩ O O b6 O O o j.1 λv' h' o' r' f'=>BB o' ⟨r',f'⟩) ?_;refine Fi.cons O O O ?_ ?_
  ·intro U t o;have q:=o.st j;have e2:=k6.nw;have e3:=e2.fl Hu;refine AU ?_;exact B1 e3
  refine Fi.cons O O O ?_ ?_
  ·intro U t o;intro e4 bg;have q:=o.st j;have bg:Pt _ _ (A9.sl CD) e4 c.E:=bg;obtain⟨hu,_,e6⟩:=bg.ll;refine AU ?_;exact B1 e6
  refine Fi.cons O O O ?_ ?_
  ·intro U t o;intro e7 bh;have q:=o.st j;have bh:Sl _ _ CD e7 c.E:=bh;have e8:=bh.le;refine AU ?_;exact B1 ⟨O,(Mk e8)⟩
  refine Fi.nw O O O (λ_ _ o _ e9=>by obtain⟨rfl,hv⟩:=e9;exact VC (r:=BZ) (zx:=(⟨0,0,false,false⟩:A8)) lH O ⟨O,by unfold A8.ok AB;simp[IntKind.has,IntKind.min,IntKind.max,IntKind.bits,IntKind.signed]⟩ O O b8 O O o j.1 λv' h' o' r' f'=>BB o' ⟨r',f'⟩) ?_;refine Fi.cons O O O ?_ ?_
  ·intro U t o;have q:=o.st j;have fa:=k6.nw;have fb:=fa.fl Ij;refine AU ?_;exact B1 fb
  refine Fi.cons O O O ?_ ?_
  ·intro U t o;intro fc bi;have q:=o.st j;have bi:Pt _ _ (A9.sl A9.str) fc c.I:=bi;obtain⟨hx,_,fd⟩:=bi.ll;refine AU ?_;exact B1 fd
  refine Fi.cons O O O ?_ ?_
  ·intro U t o;intro fe ad;have q:=o.st j;have ad:Sl _ _ A9.str fe c.I:=ad;have cb:=ad.le;refine AU ?_;exact B1 ⟨O,(Mk cb)⟩
  refine Fi.nw O O O (λ_ _ o _ cc=>by obtain⟨rfl,fg⟩:=cc;exact VC (r:=AC) (zx:=0) JY O ⟨O,by unfold AB;omega⟩ O O b9 O O o j.1 λv' h' o' r' f'=>BB o' ⟨r',f'⟩) ?_;refine Fi.cons O O O ?_ ?_
  ·intro U t o;have q:=o.st j;have cd:=k6.nw;have ce:=cd.fl Ij;refine AU ?_;exact B1 ce
  refine Fi.cons O O O ?_ ?_
  ·intro U t o;intro cf af;have q:=o.st j;have af:Pt _ _ (A9.sl A9.str) cf c.I:=af;obtain⟨fh,_,cg⟩:=af.ll;refine AU ?_;exact B1 cg
  refine Fi.cons O O O ?_ ?_
  ·intro U t o;intro ch ag;have q:=o.st j;have ag:Sl _ _ A9.str ch c.I:=ag;have ci:=ag.le;refine AU ?_;exact B1 ⟨O,(Mk ci)⟩
  refine Fi.nw O O O (λ_ _ o _ cj=>by obtain⟨rfl,fi⟩:=cj;exact VC (r:=AC) (zx:=0) JY O ⟨O,by unfold AB;omega⟩ O O ca O O o j.1 λv' h' o' r' f'=>BB o' ⟨r',f'⟩) ?_;refine Fi.z [8,12,16,20,24,28] O O O Γ ?_ ?_
  ·intro U t o;intro fj ck fk ay fm az fn a0 fo a1 fp a2;have q:=o.st j;obtain⟨rfl,fq⟩:=ck;obtain⟨cl,aq,rfl,ay⟩:=ay;obtain⟨cm,ar,rfl,az⟩:=az;obtain⟨cn,au,rfl,a0⟩:=a0;obtain⟨co,av,rfl,a1⟩:=a1;obtain⟨cp,aw,rfl,a2⟩:=a2;refine AU ?_;refine GP (cs:=[vI d,(.slice (some ⟨cl,0,none⟩) (List.replicate ((↑c.A.length:Int):Int).toNat ([]:xq)).length aq),(.slice (some ⟨cm,0,none⟩) (List.replicate ((↑c.A.length:Int):Int).toNat (0:Int)).length ar),vN,(.slice (some ⟨cn,0,none⟩) (List.replicate ((↑c.E.length:Int):Int).toNat ((⟨0,0,false,false⟩:A8):A8)).length au),(.slice (some ⟨co,0,none⟩) (List.replicate ((↑c.I.length:Int):Int).toNat (0:Int)).length av),(.slice (some ⟨cp,0,none⟩) (List.replicate ((↑c.I.length:Int):Int).toNat (0:Int)).length aw)]) sS O O O (AU ?_);exact B1 ⟨trivial,O,O⟩
  exact Fi.al O Pn O O (Fi.skip Γ (trivial))
 intro fr cq fs cr ft ct fu cu fv cv fw cw fx cx cy fy f0 cz g bj;obtain⟨J,u,rfl,c0,c1,c2⟩:=ct;obtain⟨V,D,rfl,c3,c4,c5⟩:=cu;obtain⟨W,F,rfl,c6,c7,c8⟩:=cv;obtain⟨X,G,rfl,c9,da,db⟩:=cw;obtain⟨Y,H,rfl,dc,dd,de⟩:=cx;obtain⟨K,rfl,df,dg,dh⟩:=cz;have bk:=(Yo.cons (O5 (O5 (O5 (O5 (O5 (Yo.nil j cq) c0 c1 c2 Aha) c3 c4 c5 (ZG (g.of_ (s:=16) (s':=12) Γ O O O O) Aha)) c6 c7 c8 (ZG (g.of_ (s:=20) (s':=16) Γ O O O O) (ZG (g.of_ (s:=20) (s':=12) Γ O O O O) Aha))) c9 da db (ZG (g.of_ (s:=24) (s':=20) Γ O O O O) (ZG (g.of_ (s:=24) (s':=16) Γ O O O O) (ZG (g.of_ (s:=24) (s':=12) Γ O O O O) Aha)))) dc dd de (ZG (g.of_ (s:=28) (s':=24) Γ O O O O) (ZG (g.of_ (s:=28) (s':=20) Γ O O O O) (ZG (g.of_ (s:=28) (s':=16) Γ O O O O) (ZG (g.of_ (s:=28) (s':=12) Γ O O O O) Aha))))) df dg dh (ZG (g.of_ (s:=5) (s':=28) Γ O O O O) (ZG (g.of_ (s:=5) (s':=24) Γ O O O O) (ZG (g.of_ (s:=5) (s':=20) Γ O O O O) (ZG (g.of_ (s:=5) (s':=16) Γ O O O O) (ZG (g.of_ (s:=5) (s':=12) Γ O O O O) Aha)))))).st;obtain⟨rfl,di⟩:=cr;obtain rfl:cy=Value.agg #[vI d,(.slice (some ⟨J,0,none⟩) (List.replicate ((↑c.A.length:Int):Int).toNat ([]:xq)).length u),(.slice (some ⟨V,0,none⟩) (List.replicate ((↑c.A.length:Int):Int).toNat (0:Int)).length D),vN,(.slice (some ⟨W,0,none⟩) (List.replicate ((↑c.E.length:Int):Int).toNat ((⟨0,0,false,false⟩:A8):A8)).length F),(.slice (some ⟨X,0,none⟩) (List.replicate ((↑c.I.length:Int):Int).toNat (0:Int)).length G),(.slice (some ⟨Y,0,none⟩) (List.replicate ((↑c.I.length:Int):Int).toNat (0:Int)).length H)]:=(Ags (bj _ Ahf 29 _ Γ O O)).symm;refine EM O O O O JB.1 O bk .head O λah bl f1=>?_;have dj:=k6.nw;have dk:=dj.fl Ck;obtain⟨a3,_,dl⟩:=dk.ll;refine AU ?_;refine AT (λa w=>∃(ac:List xq),IV B S2 ah (47,[]) a w [(5,vP K 0),(4,vP b7 0)] (Bx K 36 [vI d,(.slice (some ⟨J,0,none⟩) (List.replicate ((↑c.A.length:Int):Int).toNat ([]:xq)).length u),(.slice (some ⟨V,0,none⟩) (List.replicate ((↑c.A.length:Int):Int).toNat (0:Int)).length D),vN,(.slice (some ⟨W,0,none⟩) (List.replicate ((↑c.E.length:Int):Int).toNat ((⟨0,0,false,false⟩:A8):A8)).length F),(.slice (some ⟨X,0,none⟩) (List.replicate ((↑c.I.length:Int):Int).toNat (0:Int)).length G),(.slice (some ⟨Y,0,none⟩) (List.replicate ((↑c.I.length:Int):Int).toNat (0:Int)).length H)]::OS AC 3 (.slice (some ⟨Y,0,none⟩) (List.replicate ((↑c.I.length:Int):Int).toNat (0:Int)).length H) (List.replicate ((↑c.I.length:Int):Int).toNat (0:Int))::OS AC 3 (.slice (some ⟨X,0,none⟩) (List.replicate ((↑c.I.length:Int):Int).toNat (0:Int)).length G) (List.replicate ((↑c.I.length:Int):Int).toNat (0:Int))::OS BZ 107 (.slice (some ⟨W,0,none⟩) (List.replicate ((↑c.E.length:Int):Int).toNat ((⟨0,0,false,false⟩:A8):A8)).length F) (List.replicate ((↑c.E.length:Int):Int).toNat ((⟨0,0,false,false⟩:A8):A8))::OS AC 3 (.slice (some ⟨V,0,none⟩) (List.replicate ((↑c.A.length:Int):Int).toNat (0:Int)).length D) (List.replicate ((↑c.A.length:Int):Int).toNat (0:Int))::OS (A9.sl AC) 29 (.slice (some ⟨J,0,none⟩) (List.replicate ((↑c.A.length:Int):Int).toNat ([]:xq)).length u) ac::Bx b7 36 [vI 0,vN,vN,vN,vN,vN,vN]::L) λ_ _=>Ll N c d ac=some r) ?_ ?_
 ·refine A0 (λn1=>λa w=>∃(y:Int)(M:List xq),IV B S2 ah (47,[]) a w [(32,vI (↑c.A.length:Int)),(31,a3),(5,vP K 0),(4,vP b7 0),(33,vI y)] (Bx K 36 [vI d,(.slice (some ⟨J,0,none⟩) (List.replicate ((↑c.A.length:Int):Int).toNat ([]:xq)).length u),(.slice (some ⟨V,0,none⟩) (List.replicate ((↑c.A.length:Int):Int).toNat (0:Int)).length D),vN,(.slice (some ⟨W,0,none⟩) (List.replicate ((↑c.E.length:Int):Int).toNat ((⟨0,0,false,false⟩:A8):A8)).length F),(.slice (some ⟨X,0,none⟩) (List.replicate ((↑c.I.length:Int):Int).toNat (0:Int)).length G),(.slice (some ⟨Y,0,none⟩) (List.replicate ((↑c.I.length:Int):Int).toNat (0:Int)).length H)]::OS AC 3 (.slice (some ⟨Y,0,none⟩) (List.replicate ((↑c.I.length:Int):Int).toNat (0:Int)).length H) (List.replicate ((↑c.I.length:Int):Int).toNat (0:Int))::OS AC 3 (.slice (some ⟨X,0,none⟩) (List.replicate ((↑c.I.length:Int):Int).toNat (0:Int)).length G) (List.replicate ((↑c.I.length:Int):Int).toNat (0:Int))::OS BZ 107 (.slice (some ⟨W,0,none⟩) (List.replicate ((↑c.E.length:Int):Int).toNat ((⟨0,0,false,false⟩:A8):A8)).length F) (List.replicate ((↑c.E.length:Int):Int).toNat ((⟨0,0,false,false⟩:A8):A8))::OS AC 3 (.slice (some ⟨V,0,none⟩) (List.replicate ((↑c.A.length:Int):Int).toNat (0:Int)).length D) (List.replicate ((↑c.A.length:Int):Int).toNat (0:Int))::OS (A9.sl AC) 29 (.slice (some ⟨J,0,none⟩) (List.replicate ((↑c.A.length:Int):Int).toNat ([]:xq)).length u) M::Bx b7 36 [vI 0,vN,vN,vN,vN,vN,vN]::L) λ_ _=>AB y/\Kg N c (Ll N c d) n1 y M=some r) N ?_ ?_ ?_
  ·intro aa ww hf hw;exact⟨0,(List.replicate ((↑c.A.length:Int):Int).toNat ([]:xq)),_,_,hf.sub (kp [32,31,5,4,33] O),hw,bl,(CO.refl S2 ah),(iq (n:=0) O),E⟩
  ·rintro aa ww⟨_,_,_,_,_,_,_,_,_,E⟩;rw[Kg]at E;cases E
  rintro n1 aa ww⟨y,M,a4,f2,hf,hw,ai,a5,f3,E⟩;refine AL ?_ hf hw;clear hf hw ww aa;rw[Kg]at E;refine AU ?_;refine AK O E (λdm E=>?_) (λdm E=>?_)
  ·refine AU ?_;refine AW (AU ?_);have dn:=dl.mono' a5;refine BE E O O dn OM.1 O λa6 E f4 dp=>?_;obtain⟨f5,_,dq⟩:=dp.lv;refine AU ?_;refine DT RO O ai λa7 f6 bm dr=>AU ?_;have ds:=dq.mono dr;obtain⟨f7,f8,f9,rfl,ga,gb,gc,ge,gf,dt,gg,gh,gi,gj,gl,gm⟩:=B4.ex ds;refine H5 O O O ON RU.1 O bm .head O λa9 Q gn=>AU ?_;refine Rq (kp [6,7,32,31,5,4,33] O) ?_;obtain⟨aj,bn,E⟩:=bd E;obtain⟨gp,bo,E⟩:=bd E;refine OA (m:=[(6,vI y),(7,vP a7 0),(32,vI (↑c.A.length:Int)),(31,a3),(5,vP K 0),(4,vP b7 0),(33,vI y)]) 7 (λi v t=>match i with|0=>v=vP K 1|1=>v=(.slice (some ⟨J,0,none⟩) (List.replicate ((↑c.A.length:Int):Int).toNat ([]:xq)).length u)|2=>v=vI y/\AB y|3=>v=vP a7 5|4=>Sl a4 t AC v a6.An|5=>Sl (SN a4 a9 t) t AC v aj|6=>EP (.slice (some ⟨J,0,none⟩) (List.replicate ((↑c.A.length:Int):Int).toNat ([]:xq)).length u) (y.toNat*((A9.sl AC)).sz+0) v|_=>False) [[],[(0,38)],[],[],[(3,41)],[(4,42)],[(1,39),(2,40)]] [(5,43),(6,44)] mo Γ [6,7,32,31,5,4,33] O Γ Γ Γ (kp [6,7,32,31,5,4,33] O) MO ?_ ?_
   ·refine A7.cons O F9 (A7.cons O F9 (A7.cons O F9 (A7.cons O F9 (A7.cons O ?_ ?_))))
    ·intro U t o;intro gq du;have q:=o.st Q;cases du;refine AU ?_;have dv:=dt.nw;exact B1 dv
    refine A7.cons O ?_ ?_
    ·intro U t o;intro dw Z;have q:=SN.st Q o;have Z:=Sl.sn a9 Z;have Z:Sl _ _ AC dw a6.An:=Z;have ax:=q.fz;refine El O O O N9 O ax (B9 (St.all _) (Z.mono ax.ea.1 ax.ea.2) bn) λgr gs gu ff gv dx p=>?_;have bp:=p;have ak:=ax.join dx bp ⟨OS.flat (λ{_ _ _ _ _ _} k=>k),trivial⟩;simp only[Ag4,Ag3]at ak;obtain⟨gw,bq,gx,dy⟩:=ak.pubs .head;have am:=Fz.done o EX bq;exact BB am.1 (Sl.mono' dy am.2)
    refine A7.cons O ?_ ?_
    ·intro U t o;intro gy dz gz d0;have q:=o.st Q;cases dz;obtain⟨rfl,g0⟩:=d0;refine AU ?_;refine BU q (mt (mt (mt (mt (mt (mt mh)))))) O O Js.1 bo O λg1 br=>AU ?_;exact B1 br
    exact trivial
   intro g2 d1 d2 an g3 d3;have bs:=SN.st Q d1;have an:Sl _ _ AC d2 aj:=an;obtain⟨d4,bt,E⟩:=bd E;refine Ei (r:=(A9.sl AC)) (l:=M) (i:=y) (x:=d4) O O (Kx an) d3 bt NQ.id GC.1 (λ_=>rfl) bs (.tail (.tail (.tail (.tail (.tail (.tail .head)))))) λg4 bu g5=>AU ?_;refine BF (AU ?_);refine WF.nil (λaa ww hf hw=>?_);have bv:=bu.sel [1,1,1,1,1,1,1] 1 O;exact⟨(BO (y+1)),(upd M y aj),_,_,hf.sub (kp [32,31,5,4,33] O),hw,bv,EX,(BQ _),E⟩
  refine BL O (λaa ww hf hw=>?_);exact⟨M,_,_,hf.sub (kp [5,4] O),hw,ai,a5,E⟩
 rintro aa ww⟨ac,g6,g7,hf,hw,bw,g8,E⟩;refine AL ?_ hf hw;clear hf hw ww aa;rw[Ll]at E;refine AU ?_;refine EM O O O O JB.1 O bw (.tail (.tail (.tail (.tail (.tail (.tail .head)))))) O λg9 bx ha=>AU ?_;refine CM (λaa ww hf hw=>?_);obtain⟨hc,bz,hd,d5⟩:=bx.pubs (.tail (.tail (.tail (.tail (.tail .head)))));obtain⟨he,b0,hg,d6⟩:=bz.pubs (.tail (.tail (.tail (.tail .head))));obtain⟨hi,b1,hj,d7⟩:=b0.pubs (.tail (.tail (.tail .head)));obtain⟨hk,b2,hl,d8⟩:=b1.pubs (.tail (.tail .head));obtain⟨hm,b3,d9,eb⟩:=b2.pubs (.tail .head);have ao:=b3.sel [1] 1 O;have ec:=d5.nw;have ed:=d6.nw;have ee:=d7.nw;have ef:=d8.mono' d9;have b4:=ao.drop .head;cases E;exact K0 hf O hw (Iv (Xu hf hw ao O mh JB.1 O) Kz) O EX ⟨(BP.mk (x:=(⟨d,ac,(List.replicate ((↑c.A.length:Int):Int).toNat (0:Int)),[],(List.replicate ((↑c.E.length:Int):Int).toNat ((⟨0,0,false,false⟩:A8):A8)),(List.replicate ((↑c.I.length:Int):Int).toNat (0:Int)),(List.replicate ((↑c.I.length:Int):Int).toNat (0:Int))⟩:AH)) di ec ed (.inl ⟨O,O⟩) ee ef eb),b4⟩
def Cd(j:St S L h){c:Int}(i:AB c){b:Int}(g:AB b){a:Int}(d:AB a){r:Bool}(E:DI N c b a=some r):
 CG prog 143 #[vI c,vI b,vI a] S h (λv S' h'=>v= .bool r/\St S' (L) h'):=by
 refine CG.go 15 func143 O ntmps143 O λB=>?_;rw[DI]at E;exact RT
def Cs(d:St S L h){a:Int}(b:AB a){r:Bool}(E:Cz N a=some r):
 CG prog 144 #[vI a] S h (λv S' h'=>v= .bool r/\St S' (L) h'):=by
 refine CG.go 5 func144 O ntmps144 O λB=>?_;rw[Cz]at E;refine AU ?_;refine CP (.inl O) d (AU ?_);refine BD E O O O IJ O (λg c h' o=>Cd (St.all h') b (iq (n:=0) O) (iq (n:=1125899906842624) O) c) λg E=>AU ?_;exact BW (kp [2] O) λj i k=>RT
def Q9(hs:St S L h){t:Value}{b:AF}(V:Rd S h Bz t b){r:Bool}(E:Ic N b=some r):
 CG prog 74 #[t] S h (λv S' h'=>v= .bool r/\St S' (L) h'):=by
 refine CG.go (l:=[t]) 109 func74 O ntmps74 O λB=>?_;rw[Ic]at E;refine WF.sl (CC O V (λe=>by cases e) O hs λq1 S2 h3 s e5 D=>AN 1 (DV O (AG (LF.nil (kp [1] O) (CU (CU (CP (.inl O) s (Mq O D AF.f_Name Wv.1 O λq7 k8=>XG OK s.1 O k8 vA.1 O λr9=>Qr O VO O (LP O (AE O ?_))))))))));obtain⟨aj,j,E⟩:=bd E;refine A3 6 17 (.bool aj) ?_ ?_
 ·cases ak:(decide (500<(↑b.G.size:Int)))
  ·have j:=Hl ak j;refine AO O (Mq O D Ij pX.1 O λce a5=>AO O (GB OK s.1 O a5 sP.1 O λcf a6=>AO O (LX O a6 sW.1 O λa7=>AO O ?_)));obtain⟨cg,al,j⟩:=bd j;refine Jk O O O IJ O (λh' o=>Cd (St.all h') (Mk a7) (iq (n:=1) O) (iq (n:=16) O) al) (AO O (Lp O (AZ O ?_)));cases j;exact A4 O
  have j:=Hk ak j;cases j;exact BK O O
 refine AE O ?_;obtain⟨am,k,E⟩:=bd E;refine A3 5 23 (.bool am) ?_ ?_
 ·cases an:aj
  ·have k:=Hl an k;refine AO O (Mq O D OH pW.1 O λch a8=>AO O (FA OK s.1 O a8 Fl.1 O λa9=>AO O ?_));obtain⟨ci,ao,k⟩:=bd k;refine Jk O O O IJ O (λh' o=>Cd (St.all h') a9 (iq (n:=0) O) (iq (n:=64) O) ao) (AO O (Lp O (AZ O ?_)));cases k;exact A4 O
  have k:=Hk an k;cases k;exact BK O O
 refine AE O ?_;obtain⟨i,m,E⟩:=bd E;refine A3 6 30 (.bool i) ?_ ?_
 ·cases ap:am
  ·have m:=Hl ap m;refine AO O (Mq O D Ck pV.1 O λcj ba=>AO O (GB OK s.1 O ba sO.1 O λck bb=>AO O (LX O bb OM.1 O λbc=>AO O ?_)));obtain⟨cl,aq,m⟩:=bd m;refine Jk O O O IJ O (λh' o=>Cd (St.all h') (Mk bc) (iq (n:=1) O) (iq (n:=64) O) aq) (AO O (Lp O (AZ O ?_)));cases m;exact A4 O
  have m:=Hk ap m;cases m;exact BK O O
 refine AE O (A3 5 36 (.bool (i||(decide (96<(↑b.E.length:Int))))) ?_ ?_)
 ·cases cm:i
  ·exact AO O (Mq O D Hu pU.1 O λcn be=>AO O (GB OK s.1 O be sN.1 O λco bf=>AO O (LX O bf PU.1 O λcp=>AO O (LP O (AZ O (A4 O))))))
  exact BK O O
 refine AE O (A3 5 42 (.bool ((i||(decide (96<(↑b.E.length:Int))))||(decide (40<(↑b.Af.length:Int))))) ?_ ?_)
 ·cases cq:(i||(decide (96<(↑b.E.length:Int))))
  ·exact AO O (Mq O D LC pT.1 O λcr bg=>AO O (GB OK s.1 O bg sM.1 O λcs bh=>AO O (LX O bh iO.1 O λct=>AO O (LP O (AZ O (A4 O))))))
  exact BK O O
 refine AE O (A3 5 48 (.bool (((i||(decide (96<(↑b.E.length:Int))))||(decide (40<(↑b.Af.length:Int))))||(decide (128<(↑b.Ah.length:Int))))) ?_ ?_)
 ·cases cu:((i||(decide (96<(↑b.E.length:Int))))||(decide (40<(↑b.Af.length:Int))))
  ·exact AO O (Mq O D Lr pS.1 O λcv bi=>AO O (GB OK s.1 O bi sL.1 O λcw bj=>AO O (LX O bj iN.1 O λcx=>AO O (LP O (AZ O (A4 O))))))
  exact BK O O
 refine AE O (A3 5 54 (.bool ((((i||(decide (96<(↑b.E.length:Int))))||(decide (40<(↑b.Af.length:Int))))||(decide (128<(↑b.Ah.length:Int))))||(decide (128<(↑b.Ai.length:Int))))) ?_ ?_)
 ·cases cy:(((i||(decide (96<(↑b.E.length:Int))))||(decide (40<(↑b.Af.length:Int))))||(decide (128<(↑b.Ah.length:Int))))
  ·exact AO O (Mq O D Mg pR.1 O λcz bk=>AO O (GB OK s.1 O bk sK.1 O λc0 bl=>AO O (LX O bl iM.1 O λc1=>AO O (LP O (AZ O (A4 O))))))
  exact BK O O
 refine AE O (A3 5 60 (.bool (((((i||(decide (96<(↑b.E.length:Int))))||(decide (40<(↑b.Af.length:Int))))||(decide (128<(↑b.Ah.length:Int))))||(decide (128<(↑b.Ai.length:Int))))||(decide (40<(↑b.Ak.length:Int))))) ?_ ?_)
 ·cases c2:((((i||(decide (96<(↑b.E.length:Int))))||(decide (40<(↑b.Af.length:Int))))||(decide (128<(↑b.Ah.length:Int))))||(decide (128<(↑b.Ai.length:Int))))
  ·exact AO O (Mq O D Ky pQ.1 O λc3 bm=>AO O (GB OK s.1 O bm sJ.1 O λc4 bn=>AO O (LX O bn iL.1 O λc5=>AO O (LP O (AZ O (A4 O))))))
  exact BK O O
 refine AE O (A3 5 66 (.bool ((((((i||(decide (96<(↑b.E.length:Int))))||(decide (40<(↑b.Af.length:Int))))||(decide (128<(↑b.Ah.length:Int))))||(decide (128<(↑b.Ai.length:Int))))||(decide (40<(↑b.Ak.length:Int))))||(decide ((↑b.Aj.length:Int)≠3)))) ?_ ?_)
 ·cases c6:(((((i||(decide (96<(↑b.E.length:Int))))||(decide (40<(↑b.Af.length:Int))))||(decide (128<(↑b.Ah.length:Int))))||(decide (128<(↑b.Ai.length:Int))))||(decide (40<(↑b.Ak.length:Int))))
  ·exact AO O (Mq O D AF.f_Room aY.1 O λc7 bo=>AO O (GB OK s.1 O bo GC.1 O λc8 bp=>AO O (LX O bp CW.1 O λc9=>AO O (LO O (AZ O (A4 O))))))
  exact BK O O
 refine AE O ?_;obtain⟨bq,p,E⟩:=bd E;refine A3 5 72 (.bool bq) ?_ ?_
 ·cases ar:((((((i||(decide (96<(↑b.E.length:Int))))||(decide (40<(↑b.Af.length:Int))))||(decide (128<(↑b.Ah.length:Int))))||(decide (128<(↑b.Ai.length:Int))))||(decide (40<(↑b.Ak.length:Int))))||(decide ((↑b.Aj.length:Int)≠3)))
  ·have p:=Hl ar p;refine AO O (Mq O D AF.f_Err kZ.1 O λda br=>AO O (FA OK s.1 O br Fl.1 O λbs=>AO O ?_));obtain⟨db,au,p⟩:=bd p;refine Jk O O O IJ O (λh' o=>Cd (St.all h') bs (iq (n:=0) O) (iq (n:=1099511627776) O) au) (AO O (Lp O (AZ O ?_)));cases p;exact A4 O
  have p:=Hk ar p;cases p;exact BK O O
 refine BW (kp [72,1] O) λab F H=>AK O E (λbt E=>?_) (λbt E=>?_)
 ·refine Cr (Cm O (kp [2] O) (CM (λu x c d=>?_)));cases E;exact T0 c d O O (e5.trans H) ⟨O,F⟩
 refine D7 (CU (Cr ?_));have ac:=D.mono H;refine Mq O ac AF.f_Name Wv.1 O λdc bu=>XG H4 F.1 O bu vA.1 O λdd=>Qr O VO O (AE O (E9 (kp [76,75,1] O) (AT (λa w=>IV B S2 ab (109,[]) a w [(1,q1)] (L) λ_ _=>FM N b=some r) ?_ ?_)))
 ·refine A0 (λn1=>λa w=>∃(I:Int),IV B S2 ab (109,[]) a w [(75,vI (↑b.G.size:Int)),(1,q1),(76,vI I)] (L) λ_ _=>AB I/\FL N b (FM N b) n1 I=some r) N ?_ ?_ ?_
  ·intro u x c d;exact⟨0,_,_,c.sub (kp [75,1,76] O),d,F,(CO.refl S2 ab),(iq (n:=0) O),E⟩
  ·rintro u x⟨_,_,_,_,_,_,_,_,E⟩;rw[FL]at E;cases E
  rintro n1 u x⟨I,de,df,c,d,A,W,dg,E⟩;refine AL ?_ c d;clear c d x u;rw[FL]at E;refine Cr (J1 O (E9 (kp [77,75,1,76] O) (CU (AK O E (λbv E=>?_) (λbv E=>?_)))))
  ·refine D7 (CU (AW (Cr (AE O (Cm O (kp [3,75,1,76] O) (Cr ?_))))));have bw:=ac.mono W;refine Mq O bw AF.f_Name Wv.1 O λdh bx=>XG H4 A.1 O bx vA.1 O λdi=>AE O ?_;obtain⟨g,X,E⟩:=bd E;have bz:=SW X;refine Sf O O VO X O (Cm O (kp [4,75,1,76] O) (Cr (AE O (J1 O (AE O (A3 3 88 (.bool ((decide (g<32))||(decide (126<g)))) ?_ ?_))))))
   ·cases b0:(decide (g<32))
    ·exact AO O (AE O (AO O (LP O (AZ O (A4 O)))))
    exact BK O O
   refine AE O (A3 3 92 (.bool (((decide (g<32))||(decide (126<g)))||(decide (g=34)))) ?_ ?_)
   ·cases b1:((decide (g<32))||(decide (126<g)))
    ·exact AO O (AE O (AO O (DG O (AZ O (A4 O)))))
    exact BK O O
   refine AE O (A3 3 96 (.bool ((((decide (g<32))||(decide (126<g)))||(decide (g=34)))||(decide (g=92)))) ?_ ?_)
   ·cases b2:(((decide (g<32))||(decide (126<g)))||(decide (g=34)))
    ·exact AO O (AE O (AO O (DG O (AZ O (A4 O)))))
    exact BK O O
   refine E9 (kp [96,75,1,76] O) (AK O E (λav E=>?_) (λav E=>?_))
   ·refine Cr (Cm O (kp [2] O) (CM (λu x c d=>?_)));cases E;have ad:=e5.trans (H.trans W);exact T0 c d O O ad ⟨O,A⟩
   refine D7 (BF (Ip (.inl O) (J3 O (AE O (E9 (kp [76,75,1] O) (WF.nil (λu x c d=>?_)))))));exact⟨(BO (I+1)),_,_,c.sub (kp [75,1,76] O),d,A,W,(BQ _),E⟩
  refine BL O (λu x c d=>?_);exact⟨_,_,c.sub (kp [1] O),d,A,W,E⟩
 rintro u x⟨J,K,c,d,M,Q,E⟩;refine AL ?_ c d;clear c d x u;rw[FM]at E;refine CU (Cr ?_);have aw:=ac.mono Q;refine Mq O aw AF.f_Room aY.1 O λb3 ax=>GB H4 M.1 O ax GC.1 O λay Y=>LX O Y CW.1 O λb4=>AE O (E9 (kp [101,100,99] O) (AT (λa w=>IV B J K (109,[]) a w [] (L) λ_ _=>Hi N=some r) ?_ ?_))
 ·refine A0 (λn3=>λa w=>∃(y:Int),IV B J K (109,[]) a w [(100,vI (↑b.Aj.length:Int)),(99,ay),(101,vI y)] (L) λ_ _=>AB y/\FK N b (Hi N) n3 y=some r) N ?_ ?_ ?_
  ·intro u x c d;exact⟨0,_,_,c.sub (kp [100,99,101] O),d,M,(CO.refl J K),(iq (n:=0) O),E⟩
  ·rintro u x⟨_,_,_,_,_,_,_,_,E⟩;rw[FK]at E;cases E
  rintro n3 u x⟨y,b5,b6,c,d,z,C,b7,E⟩;refine AL ?_ c d;clear c d x u;rw[FK]at E;refine Cr (J1 O (E9 (kp [102,100,99,101] O) (CU (AK O E (λaz E=>?_) (λaz E=>?_)))))
  ·refine D7 (CU (AW (Cr ?_)));have a0:=Y.mono' C;obtain⟨b8,ae,E⟩:=bd E;refine Oc O O a0 CW.1 ae O λb9 a1=>FA H4 z.1 O a1 Fl.1 O λa2=>Cm O (kp [6,100,99,101] O) (CU (CP (.inl O) z (AE O ?_)));obtain⟨ca,af,E⟩:=bd E;refine Jk O O O Kq O (λh' o=>Cs (St.all h') a2 af) (Lp O (BW (kp [107,100,99,101] O) λcb U Z=>AK O E (λa3 E=>?_) (λa3 E=>?_)))
   ·refine Cr (Cm O (kp [2] O) (CM (λu x c d=>?_)));cases E;have ag:=e5.trans (H.trans (Q.trans (C.trans Z)));exact T0 c d O O ag ⟨O,U⟩
   refine D7 (BF (Ip (.inl O) (J3 O (AE O (E9 (kp [101,100,99] O) (WF.nil (λu x c d=>?_)))))));exact⟨(BO (y+1)),_,_,c.sub (kp [100,99,101] O),d,U,(C.trans Z),(BQ _),E⟩
  refine BL O (λu x c d=>?_);exact⟨_,_,c.sub Ts,d,z,C,E⟩
 rintro u x⟨cc,cd,c,d,ah,a4,E⟩;refine AL ?_ c d;clear c d x u;rw[Hi]at E;refine Cr (Cm O (kp [2] O) (CM (λu x c d=>?_)));cases E;have ai:=e5.trans (H.trans (Q.trans a4));exact T0 c d O O ai ⟨O,ah⟩
def TD(F:St S L h){b:ByteArray}(y:b.size<=maxLen){r:Bool}(E:K7 N b=some r):
 CG prog 200 #[.string b] S h (λv S' h'=>v= .bool r/\St S' (L) h'):=by
 refine CG.go (l:=[.string b]) 54 func200 O ntmps200 O λB=>?_;rw[K7]at E;refine Cr (Cm O (kp [0] O) (CU (Cr (AE O (Qr O VO O (J1 O (AE O (A3 4 12 (.bool ((decide ((↑b.size:Int)<1))||(decide (24<(↑b.size:Int))))) ?_ ?_))))))))
 ·cases c1:(decide ((↑b.size:Int)<1))
  ·exact AO O (AE O (AO O (Qr O VO O (AO O (LP O (AZ O (A4 O)))))))
  exact BK O O
 refine AE O (A3 3 16 (.bool (((decide ((↑b.size:Int)<1))||(decide (24<(↑b.size:Int))))||(b==(ByteArray.mk #[111,117,116])))) ?_ ?_)
 ·cases c2:((decide ((↑b.size:Int)<1))||(decide (24<(↑b.size:Int))))
  ·exact AO O (AE O (AO O (Yk O O O (AZ O (A4 O)))))
  exact BK O O
 refine AE O ?_;obtain⟨G,d,E⟩:=bd E;refine A3 4 21 (.bool G) ?_ ?_
 ·cases H:(((decide ((↑b.size:Int)<1))||(decide (24<(↑b.size:Int))))||(b==(ByteArray.mk #[111,117,116])))
  ·have d:=Hl H d;refine AO O (AE O (AO O ?_));obtain⟨z5,t,d⟩:=bd d;have r6:=SW t;refine Sf O O VO t O (AO O (J1 O (AZ O ?_)));cases d;exact A4 O
  have d:=Hk H d;cases d;exact BK O O
 refine AE O ?_;obtain⟨K,g,E⟩:=bd E;refine A3 4 26 (.bool K) ?_ ?_
 ·cases I:G
  ·have g:=Hl I g;refine AO O (AE O (AO O ?_));obtain⟨z9,u,g⟩:=bd g;have M:=SW u;refine Sf O O VO u O (AO O (LP O (AZ O ?_)));cases g;exact A4 O
  have g:=Hk I g;cases g;exact BK O O
 refine E9 (kp [26,0] O) (AK O E (λz E=>?_) (λz E=>?_))
 ·refine Cr (Cm O (kp [2] O) (CM (λo p i j=>?_)));cases E;exact T0 i j O O (CO.refl S h) ⟨O,F⟩
 refine D7 (CU (Cr (Cm O (kp [3,0] O) (AT (λa w=>IV B S h (54,[]) a w [] (L) λ_ _=>Id N=some r) ?_ ?_))))
 ·refine A0 (λJ=>λa w=>∃(k:Int),IV B S h (54,[]) a w [(0,.string b),(3,vI k)] (L) λ_ _=>AB k/\Gw N b (Id N) J k=some r) N ?_ ?_ ?_
  ·intro o p i j;exact⟨1,_,_,i.sub (kp [0,3] O),j,F,(CO.refl S h),(iq (n:=1) O),E⟩
  ·rintro o p⟨_,_,_,_,_,_,_,_,E⟩;rw[Gw]at E;cases E
  rintro J o p⟨k,Q,U,i,j,m,s,V,E⟩;refine AL ?_ i j;clear i j p o;rw[Gw]at E;refine CU (Cr (AE O (AE O (Qr O VO O (J1 O (E9 (kp [30,0,3] O) (AK O E (λA E=>?_) (λA E=>?_))))))))
  ·refine D7 (CU (AW (Cr (AE O (AE O ?_)))));obtain⟨c,q,E⟩:=bd E;have W:=SW q;refine Sf O O VO q O (Cm O (kp [4,0,3] O) (Cr (AE O (J1 O (AE O (A3 3 41 (.bool ((decide (c<97))||(decide (122<c)))) ?_ ?_))))))
   ·cases X:(decide (c<97))
    ·exact AO O (AE O (AO O (LP O (AZ O (A4 O)))))
    exact BK O O
   refine AE O (A3 7 49 (.bool (((decide (c<97))||(decide (122<c)))&&((decide (c<48))||(decide (57<c))))) ?_ ?_)
   ·cases Y:((decide (c<97))||(decide (122<c)))
    ·exact BK O O
    refine AO O (AE O (AO O (J1 O (AO O (AE O (A3 3 48 (.bool ((decide (c<48))||(decide (57<c)))) ?_ ?_))))))
    ·cases Z:(decide (c<48))
     ·exact AO O (AE O (AO O (LP O (AO O (AZ O (A4 O))))))
     exact BK O O
    exact AZ O (A4 O)
   refine AE O (A3 3 53 (.bool ((((decide (c<97))||(decide (122<c)))&&((decide (c<48))||(decide (57<c))))&&(decide (c≠95)))) ?_ ?_)
   ·cases ab:(((decide (c<97))||(decide (122<c)))&&((decide (c<48))||(decide (57<c))))
    ·exact BK O O
    exact AO O (AE O (AO O (LO O (AZ O (A4 O)))))
   refine E9 (kp [53,0,3] O) (AK O E (λC E=>?_) (λC E=>?_))
   ·refine Cr (Cm O (kp [2] O) (CM (λo p i j=>?_)));cases E;exact T0 i j O O s ⟨O,m⟩
   refine D7 (BF (Ip (.inl O) (AE O (J3 O (Cm O (kp [3,0] O) (WF.nil (λo p i j=>?_)))))));exact⟨(BO (k+1)),_,_,i.sub (kp [0,3] O),j,m,s,(BQ _),E⟩
  refine BL O (λo p i j=>?_);exact⟨_,_,i.sub Ts,j,m,s,E⟩
 rintro o p⟨ac,ad,i,j,x,D,E⟩;refine AL ?_ i j;clear i j p o;rw[Id]at E;refine Cr (Cm O (kp [2] O) (CM (λo p i j=>?_)));cases E;exact T0 i j O O D ⟨O,x⟩
def Tx{d:List (AI×Bool)}(F:St S (MP (λk:AI=>Value.agg (AI.v k).toArray) Value.bool c d::L) h)(i:g.size<=maxLen){b:ByteArray}(j:b.size<=maxLen){r:Bool×(List (AI×Bool))}(E:Le N d g b=some r):
 CG prog 146 #[.map (some c),.string g,.string b] S h (λv S' h'=>v= .bool r.1/\St S' (MP (λk:AI=>Value.agg (AI.v k).toArray) Value.bool c r.2::L) h'):=by
 refine CG.go 23 func146 O ntmps146 O λB=>?_;rw[Le]at E;refine AU ?_;refine Yk O O O (AU ?_);refine It (λa w=>∃(l:ByteArray),IV B S h (23,[]) a w [(0,.map (some c)),(2,.string b),(1,.string l)] (MP (λk:AI=>Value.agg (AI.v k).toArray) Value.bool c d::L) λ_ _=>l.size<=maxLen/\I8 N d b l=some r) ?_ ?_
 ·refine AK O E (λH E=>?_) (λH E=>?_)
  ·refine AU ?_;refine WF.nil (λy A p q=>?_);exact⟨(ByteArray.mk #[116,111,119,110]),_,_,p.sub (kp [0,2,1] O),q,F,(CO.refl S h),(by decide),E⟩
  refine AU ?_;refine WF.nil (λy A p q=>?_);exact⟨g,_,_,p.sub (kp [0,2,1] O),q,F,(CO.refl S h),i,E⟩
 rintro y A⟨l,X,Y,p,q,C,Z,r2,E⟩;refine AL ?_ p q;clear p q A y;rw[I8]at E;refine AU ?_;refine GP (cs:=[.string l,.string b]) vR O O O (AU ?_);refine DT uK O C λb8 h9 s I=>?_;refine EM O O O O vB.1 O s .head O λJ m K=>AU ?_;refine CP (.inl O) m (AU ?_);refine BD E O O O yO O (λn t h' o=>TD (St.all h') j t) λn E=>AU ?_;refine A3 4 20 (.bool ((!n)||((KT (λk:AI=>Value.agg (AI.v k).toArray) d (⟨l,b⟩:AI)).getD false))) ?_ ?_
 ·cases M:(!n)
  ·refine AU ?_;refine Nd (k0:=(⟨l,b⟩:AI)) (z:=false) OK m (mt mh) O O gC aO Aew O O (AU ?_);exact A4 O
  exact BK O O
 refine BW (kp [20,7,0] O) λQ u U=>AK O E (λD E=>?_) (λD E=>?_)
 ·exact RT
 refine AU ?_;exact TM (k0:=(⟨l,b⟩:AI)) (x:=true) u (.tail .head) O O O gC aO λV G W=>RT
def FZ{a:Nat}{g:Nat}(s:St S (Bx d 225 [.map (some a)]::MP (λk:AI=>Value.agg (AI.v k).toArray) Value.bool a c2_::Bx g 4 [.bool c3_]::L) h){b:ByteArray}(i:b.size<=maxLen){c:ByteArray}(j:c.size<=maxLen){r:(List (AI×Bool))×Bool}(E:Do N c2_ c3_ b c=some r):
 CG prog 145 #[.string b,.string c,vP d 0,vP g 0] S h (λv S' h'=>v= .tuple #[]/\St S' (Bx d 225 [.map (some a)]::MP (λk:AI=>Value.agg (AI.v k).toArray) Value.bool a r.1::Bx g 4 [.bool r.2]::L) h'):=by
 refine CG.go 13 func145 O ntmps145 O λB=>?_;rw[Do]at E;refine Cj (AU ?_);have n:=s.pick (.tail .head);refine DX E O O O zC O (λt o=>Tx n i j o) λt E y z A C p=>?_;obtain⟨rfl,q⟩:=p;refine AU ?_;refine EM O O O O Yw.1 O q (.tail (.tail .head)) O λD l u=>AU ?_;refine WF.nil (λF G w x=>?_);have m:=l.sel [1,0,0] 0 O;cases E;exact K0 w O x Kz O EX ⟨O,m⟩
def QP(hs:St S L h){b:AF}(a8:Rd S h Bz M b){r:Bool}(E:Kd N b=some r):
 CG prog 75 #[M] S h (λv S' h'=>v= .bool r/\St S' (L) h'):=by
 refine CG.go 106 func75 O ntmps75 O λB=>?_;rw[Kd]at E;refine AU ?_;refine CC O a8 CE O hs λq1 S2 h3 e3 e5 k6=>AU ?_;refine XK (K:=0) (E:=0) O e3 (λk:AI=>Value.agg (AI.v k).toArray) Value.bool λm h8 e4 jo=>DT uM O e4 λl jp c0 jq=>?_;refine EM O O O O vD.1 O c0 .head O λjr c1 js=>AU ?_;refine DT Aex O c1 λc jt c2 ju=>?_;refine EM O O O O Yw.1 O c2 .head O λbp c3 jv=>AU ?_;refine PM O O O ?_;have c4:=k6.nw;have e6:=c4.fl Ij;obtain⟨e7,_,e8⟩:=e6.ll;refine AU ?_;refine AT (λa w=>∃(a9:Bool)(ba:(List (AI×Bool))),IV B S2 bp (106,[]) a w [(5,.func (.func 145) #[] #[vP l 0,vP c 0]),(4,vP c 0),(1,q1)] (Bx c 4 [.bool a9]::Bx l 225 [.map (some m)]::MP (λk:AI=>Value.agg (AI.v k).toArray) Value.bool m ba::L) λ_ _=>F5 N b a9 ba=some r) ?_ ?_
 ·refine A0 (λn1=>λa w=>∃(ad:Int)(ae:Bool)(af:(List (AI×Bool))),IV B S2 bp (106,[]) a w [(24,vI (↑b.I.length:Int)),(23,e7),(5,.func (.func 145) #[] #[vP l 0,vP c 0]),(4,vP c 0),(1,q1),(25,vI ad)] (Bx c 4 [.bool ae]::Bx l 225 [.map (some m)]::MP (λk:AI=>Value.agg (AI.v k).toArray) Value.bool m af::L) λ_ _=>AB ad/\EI N b (F5 N b) n1 ad ae af=some r) N ?_ ?_ ?_
  ·intro i j d g;exact⟨0,true,([]:(List (AI×Bool))),_,_,d.sub (kp [24,23,5,4,1,25] O),g,c3,(CO.refl S2 bp),(iq (n:=0) O),E⟩
  ·rintro i j⟨_,_,_,_,_,_,_,_,_,_,E⟩;rw[EI]at E;cases E
  rintro n1 i j⟨ad,ae,af,jw,jx,d,g,be,c5,jy,E⟩;refine AL ?_ d g;clear d g j i;rw[EI]at E;refine AU ?_;refine AK O E (λe9 E=>?_) (λe9 E=>?_)
  ·refine AU ?_;refine AW (AU ?_);have fa:=e8.mono' c5;refine BE E O O fa sW.1 O λjz E j0 fb=>?_;have fc:=fb.sz;refine AU ?_;refine Cj (AU ?_);have c6:=be.sel [1,1,0] 0 O;refine DX E O O O Rm O (λbq c7=>FZ (c2_:=af) (c3_:=ae) c6 (by decide) fc c7) λbq E j1 j2 j3 j4 p=>?_;obtain⟨rfl,c8⟩:=p;refine AU ?_;refine BF (AU ?_);refine WF.nil (λi j d g=>?_);have c9:=c8.sel [2,0,0] 0 O;exact⟨(BO (ad+1)),bq.2,bq.1,_,_,d.sub (kp [24,23,5,4,1,25] O),g,c9,EX,(BQ _),E⟩
  refine BL O (λi j d g=>?_);exact⟨ae,af,_,_,d.sub (kp [5,4,1] O),g,be,c5,E⟩
 rintro i j⟨a9,ba,br,bs,d,g,da,fd,E⟩;refine AL ?_ d g;clear d g j i;rw[F5]at E;have db:=c4.mono fd;have fe:=db.fl Ck;obtain⟨ff,_,fg⟩:=fe.ll;refine AU ?_;refine AT (λa w=>∃(bb:Bool)(bc:(List (AI×Bool))),IV B br bs (106,[]) a w [(5,.func (.func 145) #[] #[vP l 0,vP c 0]),(4,vP c 0),(1,q1)] (Bx c 4 [.bool bb]::Bx l 225 [.map (some m)]::MP (λk:AI=>Value.agg (AI.v k).toArray) Value.bool m bc::L) λ_ _=>Fy N b bb bc=some r) ?_ ?_
 ·refine A0 (λn3=>λa w=>∃(ag:Int)(ah:Bool)(ai:(List (AI×Bool))),IV B br bs (106,[]) a w [(35,vI (↑b.A.length:Int)),(34,ff),(5,.func (.func 145) #[] #[vP l 0,vP c 0]),(4,vP c 0),(1,q1),(36,vI ag)] (Bx c 4 [.bool ah]::Bx l 225 [.map (some m)]::MP (λk:AI=>Value.agg (AI.v k).toArray) Value.bool m ai::L) λ_ _=>AB ag/\EH N b (Fy N b) n3 ag ah ai=some r) N ?_ ?_ ?_
  ·intro i j d g;exact⟨0,a9,ba,_,_,d.sub (kp [35,34,5,4,1,36] O),g,da,(CO.refl br bs),(iq (n:=0) O),E⟩
  ·rintro i j⟨_,_,_,_,_,_,_,_,_,_,E⟩;rw[EH]at E;cases E
  rintro n3 i j⟨ag,ah,ai,j5,j6,d,g,bf,dc,j7,E⟩;refine AL ?_ d g;clear d g j i;rw[EH]at E;refine AU ?_;refine AK O E (λfh E=>?_) (λfh E=>?_)
  ·refine AU ?_;refine AW (AU ?_);have fi:=fg.mono' dc;refine BE E O O fi OM.1 O λj8 E j9 fj=>?_;obtain⟨ka,_,fk⟩:=fj.lv;refine AU ?_;refine DT RO O bf λkb kc dd fm=>?_;have fn:=fk.mono fm;obtain⟨fq,fr,fs,rfl,fo,kd,ke,ft,fu,fv,fw,fx,fy,fz,f0,f1⟩:=B4.ex fn;refine H5 O O O ON RU.1 O dd .head O λf2 bt f3=>AU ?_;refine Cj (AU ?_);have bu:=bt.sel [2,2,1,0] 0 O;refine DX E O O O Rm O (λaj bv=>FZ (c2_:=ai) (c3_:=ah) bu (by decide) fo bv) λaj E f4 f5 f6 f7 p=>?_;obtain⟨rfl,bw⟩:=p;refine AU ?_;refine BF (AU ?_);refine WF.nil (λi j d g=>?_);have bx:=bw.sel [2,0,0] 1 O;exact⟨(BO (ag+1)),aj.2,aj.1,_,_,d.sub (kp [35,34,5,4,1,36] O),g,bx,EX,(BQ _),E⟩
  refine BL O (λi j d g=>?_);exact⟨ah,ai,_,_,d.sub (kp [5,4,1] O),g,bf,dc,E⟩
 rintro i j⟨bb,bc,ak,am,d,g,bz,de,E⟩;refine AL ?_ d g;clear d g j i;rw[Fy]at E;have bg:=db.mono de;have df:=bg.fl Hu;obtain⟨dg,_,dh⟩:=df.ll;refine AU ?_;refine AT (λa w=>∃(Q:Bool)(U:(List (AI×Bool))),IV B ak am (106,[]) a w [(5,.func (.func 145) #[] #[vP l 0,vP c 0]),(4,vP c 0),(1,q1)] (Bx c 4 [.bool Q]::Bx l 225 [.map (some m)]::MP (λk:AI=>Value.agg (AI.v k).toArray) Value.bool m U::L) λ_ _=>Fx N b Q U=some r) ?_ ?_
 ·refine A0 (λn5=>λa w=>∃(o:Int)(q:Bool)(s:(List (AI×Bool))),IV B ak am (106,[]) a w [(47,vI (↑b.E.length:Int)),(46,dg),(5,.func (.func 145) #[] #[vP l 0,vP c 0]),(4,vP c 0),(1,q1),(48,vI o)] (Bx c 4 [.bool q]::Bx l 225 [.map (some m)]::MP (λk:AI=>Value.agg (AI.v k).toArray) Value.bool m s::L) λ_ _=>AB o/\EG N b (Fx N b) n5 o q s=some r) N ?_ ?_ ?_
  ·intro i j d g;exact⟨0,bb,bc,_,_,d.sub (kp [47,46,5,4,1,48] O),g,bz,(CO.refl ak am),(iq (n:=0) O),E⟩
  ·rintro i j⟨_,_,_,_,_,_,_,_,_,_,E⟩;rw[EG]at E;cases E
  rintro n5 i j⟨o,q,s,f8,f9,d,g,an,bh,ga,E⟩;refine AL ?_ d g;clear d g j i;rw[EG]at E;refine AU ?_;refine AK O E (λdi E=>?_) (λdi E=>?_)
  ·refine AU ?_;refine AW (AU ?_);have dj:=dh.mono' bh;refine BE E O O dj PU.1 O λgb E gc dk=>?_;obtain⟨ge,_,dl⟩:=dk.lv;refine AU ?_;refine DT Po O an λgf gg b0 dm=>?_;have dn:=dl.mono dm;obtain⟨gh,gi,gj,rfl,dp,gl,gm,gn,gp,gq,gr,gs,gu,gv,gw,gx,gy,gz,g0,g1,g2,g3⟩:=CD.ex dn;refine H5 O O O ON Pv.1 O b0 .head O λg4 b1 g5=>AU ?_;refine Cj (AU ?_);have b2:=b1.sel [2,2,1,0] 0 O;refine DX E O O O Rm O (λao b3=>FZ (c2_:=s) (c3_:=q) b2 (by decide) dp b3) λao E g6 g7 g8 g9 p=>?_;obtain⟨rfl,b4⟩:=p;refine AU ?_;refine BF (AU ?_);refine WF.nil (λi j d g=>?_);have b5:=b4.sel [2,0,0] 1 O;exact⟨(BO (o+1)),ao.2,ao.1,_,_,d.sub (kp [47,46,5,4,1,48] O),g,b5,EX,(BQ _),E⟩
  refine BL O (λi j d g=>?_);exact⟨q,s,_,_,d.sub (kp [5,4,1] O),g,an,bh,E⟩
 rintro i j⟨Q,U,ap,aq,d,g,b6,dq,E⟩;refine AL ?_ d g;clear d g j i;rw[Fx]at E;have bi:=bg.mono dq;have dr:=bi.fl LC;obtain⟨ds,_,dt⟩:=dr.ll;refine AU ?_;refine AT (λa w=>∃(V:Bool)(W:(List (AI×Bool))),IV B ap aq (106,[]) a w [(5,.func (.func 145) #[] #[vP l 0,vP c 0]),(4,vP c 0),(1,q1)] (Bx c 4 [.bool V]::Bx l 225 [.map (some m)]::MP (λk:AI=>Value.agg (AI.v k).toArray) Value.bool m W::L) λ_ _=>Fw N b V W=some r) ?_ ?_
 ·refine A0 (λn7=>λa w=>∃(t:Int)(u:Bool)(x:(List (AI×Bool))),IV B ap aq (106,[]) a w [(59,vI (↑b.Af.length:Int)),(58,ds),(5,.func (.func 145) #[] #[vP l 0,vP c 0]),(4,vP c 0),(1,q1),(60,vI t)] (Bx c 4 [.bool u]::Bx l 225 [.map (some m)]::MP (λk:AI=>Value.agg (AI.v k).toArray) Value.bool m x::L) λ_ _=>AB t/\EF N b (Fw N b) n7 t u x=some r) N ?_ ?_ ?_
  ·intro i j d g;exact⟨0,Q,U,_,_,d.sub (kp [59,58,5,4,1,60] O),g,b6,(CO.refl ap aq),(iq (n:=0) O),E⟩
  ·rintro i j⟨_,_,_,_,_,_,_,_,_,_,E⟩;rw[EF]at E;cases E
  rintro n7 i j⟨t,u,x,ha,hb,d,g,ar,bj,hc,E⟩;refine AL ?_ d g;clear d g j i;rw[EF]at E;refine AU ?_;refine AK O E (λdu E=>?_) (λdu E=>?_)
  ·refine AU ?_;refine AW (AU ?_);have dv:=dt.mono' bj;refine BE E O O dv iO.1 O λhd E he dw=>?_;obtain⟨hg,_,dx⟩:=dw.lv;refine AU ?_;refine DT eZ O ar λhh hi b8 dy=>?_;have dz:=dx.mono dy;obtain⟨rfl,⟨d0,hj,hk,hl,hm,hn,ho⟩⟩:=Hj.ex dz;refine EM O O O O gJ.1 O b8 .head O λhp b9 hq=>AU ?_;refine Cj (AU ?_);have ca:=b9.sel [2,2,1,0] 0 O;refine DX E O O O Rm O (λau cb=>FZ (c2_:=x) (c3_:=u) ca (by decide) d0 cb) λau E hr ht hu hv p=>?_;obtain⟨rfl,cc⟩:=p;refine AU ?_;refine BF (AU ?_);refine WF.nil (λi j d g=>?_);have cd:=cc.sel [2,0,0] 1 O;exact⟨(BO (t+1)),au.2,au.1,_,_,d.sub (kp [59,58,5,4,1,60] O),g,cd,EX,(BQ _),E⟩
  refine BL O (λi j d g=>?_);exact⟨u,x,_,_,d.sub (kp [5,4,1] O),g,ar,bj,E⟩
 rintro i j⟨V,W,av,aw,d,g,ce,d1,E⟩;refine AL ?_ d g;clear d g j i;rw[Fw]at E;have bk:=bi.mono d1;have d2:=bk.fl Ky;obtain⟨d3,_,d4⟩:=d2.ll;refine AU ?_;refine AT (λa w=>∃(X:Bool)(Y:(List (AI×Bool))),IV B av aw (106,[]) a w [(5,.func (.func 145) #[] #[vP l 0,vP c 0]),(4,vP c 0),(1,q1)] (Bx c 4 [.bool X]::Bx l 225 [.map (some m)]::MP (λk:AI=>Value.agg (AI.v k).toArray) Value.bool m Y::L) λ_ _=>Fv N b X Y=some r) ?_ ?_
 ·refine A0 (λn9=>λa w=>∃(y:Int)(z:Bool)(C:(List (AI×Bool))),IV B av aw (106,[]) a w [(71,vI (↑b.Ak.length:Int)),(70,d3),(5,.func (.func 145) #[] #[vP l 0,vP c 0]),(4,vP c 0),(1,q1),(72,vI y)] (Bx c 4 [.bool z]::Bx l 225 [.map (some m)]::MP (λk:AI=>Value.agg (AI.v k).toArray) Value.bool m C::L) λ_ _=>AB y/\EE N b (Fv N b) n9 y z C=some r) N ?_ ?_ ?_
  ·intro i j d g;exact⟨0,V,W,_,_,d.sub (kp [71,70,5,4,1,72] O),g,ce,(CO.refl av aw),(iq (n:=0) O),E⟩
  ·rintro i j⟨_,_,_,_,_,_,_,_,_,_,E⟩;rw[EE]at E;cases E
  rintro n9 i j⟨y,z,C,hx,hy,d,g,ax,bl,hz,E⟩;refine AL ?_ d g;clear d g j i;rw[EE]at E;refine AU ?_;refine AK O E (λd5 E=>?_) (λd5 E=>?_)
  ·refine AU ?_;refine AW (AU ?_);have d6:=d4.mono' bl;refine BE E O O d6 iL.1 O λh0 E h1 d7=>?_;obtain⟨h2,_,d8⟩:=d7.lv;refine AU ?_;refine DT eV O ax λh4 h5 cf d9=>?_;have ea:=d8.mono d9;obtain⟨rfl,⟨eb,h6⟩⟩:=Db.ex ea;refine EM O O O O gG.1 O cf .head O λh7 cg h9=>AU ?_;refine Cj (AU ?_);have ch:=cg.sel [2,2,1,0] 0 O;refine DX E O O O Rm O (λay ci=>FZ (c2_:=C) (c3_:=z) ch (by decide) eb ci) λay E ia ib ic id p=>?_;obtain⟨rfl,cj⟩:=p;refine AU ?_;refine BF (AU ?_);refine WF.nil (λi j d g=>?_);have ck:=cj.sel [2,0,0] 1 O;exact⟨(BO (y+1)),ay.2,ay.1,_,_,d.sub (kp [71,70,5,4,1,72] O),g,ck,EX,(BQ _),E⟩
  refine BL O (λi j d g=>?_);exact⟨z,C,_,_,d.sub (kp [5,4,1] O),g,ax,bl,E⟩
 rintro i j⟨X,Y,az,a0,d,g,cl,ec,E⟩;refine AL ?_ d g;clear d g j i;rw[Fv]at E;have bm:=bk.mono ec;have ed:=bm.fl Lr;obtain⟨ee,_,ef⟩:=ed.ll;refine AU ?_;refine AT (λa w=>∃(Z:Bool)(ab:(List (AI×Bool))),IV B az a0 (106,[]) a w [(5,.func (.func 145) #[] #[vP l 0,vP c 0]),(4,vP c 0),(1,q1)] (Bx c 4 [.bool Z]::Bx l 225 [.map (some m)]::MP (λk:AI=>Value.agg (AI.v k).toArray) Value.bool m ab::L) λ_ _=>FX N b Z ab=some r) ?_ ?_
 ·refine A0 (λeg=>λa w=>∃(D:Int)(F:Bool)(G:(List (AI×Bool))),IV B az a0 (106,[]) a w [(83,vI (↑b.Ah.length:Int)),(82,ee),(5,.func (.func 145) #[] #[vP l 0,vP c 0]),(4,vP c 0),(1,q1),(84,vI D)] (Bx c 4 [.bool F]::Bx l 225 [.map (some m)]::MP (λk:AI=>Value.agg (AI.v k).toArray) Value.bool m G::L) λ_ _=>AB D/\D0 N b (FX N b) eg D F G=some r) N ?_ ?_ ?_
  ·intro i j d g;exact⟨0,X,Y,_,_,d.sub (kp [83,82,5,4,1,84] O),g,cl,(CO.refl az a0),(iq (n:=0) O),E⟩
  ·rintro i j⟨_,_,_,_,_,_,_,_,_,_,E⟩;rw[D0]at E;cases E
  rintro eg i j⟨D,F,G,ie,ig,d,g,a1,bn,ih,E⟩;refine AL ?_ d g;clear d g j i;rw[D0]at E;refine AU ?_;refine AK O E (λeh E=>?_) (λeh E=>?_)
  ·refine AU ?_;refine AW (AU ?_);have ei:=ef.mono' bn;refine BE E O O ei iN.1 O λii E ij ej=>?_;obtain⟨ik,_,ek⟩:=ej.lv;refine AU ?_;refine DT eY O a1 λil im cm el=>?_;have em:=ek.mono el;obtain⟨rfl,⟨en,io,ip,ir,it⟩⟩:=E7.ex em;refine EM O O O O gI.1 O cm .head O λiu cn iv=>AU ?_;refine Cj (AU ?_);have co:=cn.sel [2,2,1,0] 0 O;refine DX E O O O Rm O (λa2 cp=>FZ (c2_:=G) (c3_:=F) co (by decide) en cp) λa2 E iw iy iz i0 p=>?_;obtain⟨rfl,cq⟩:=p;refine AU ?_;refine BF (AU ?_);refine WF.nil (λi j d g=>?_);have cr:=cq.sel [2,0,0] 1 O;exact⟨(BO (D+1)),a2.2,a2.1,_,_,d.sub (kp [83,82,5,4,1,84] O),g,cr,EX,(BQ _),E⟩
  refine BL O (λi j d g=>?_);exact⟨F,G,_,_,d.sub (kp [5,4,1] O),g,a1,bn,E⟩
 rintro i j⟨Z,ab,a3,a4,d,g,cs,eo,E⟩;refine AL ?_ d g;clear d g j i;rw[FX]at E;have ep:=bm.mono eo;have eq:=ep.fl Mg;obtain⟨er,_,es⟩:=eq.ll;refine AU ?_;refine AT (λa w=>∃(a5:Bool),IV B a3 a4 (106,[]) a w [(4,vP c 0)] (Bx c 4 [.bool a5]::L) λ_ _=>FW N a5=some r) ?_ ?_
 ·refine A0 (λeu=>λa w=>∃(H:Int)(J:Bool)(ac:(List (AI×Bool))),IV B a3 a4 (106,[]) a w [(95,vI (↑b.Ai.length:Int)),(94,er),(5,.func (.func 145) #[] #[vP l 0,vP c 0]),(4,vP c 0),(96,vI H)] (Bx c 4 [.bool J]::Bx l 225 [.map (some m)]::MP (λk:AI=>Value.agg (AI.v k).toArray) Value.bool m ac::L) λ_ _=>AB H/\Dz N b (FW N) eu H J ac=some r) N ?_ ?_ ?_
  ·intro i j d g;exact⟨0,Z,ab,_,_,d.sub (kp [95,94,5,4,96] O),g,cs,(CO.refl a3 a4),(iq (n:=0) O),E⟩
  ·rintro i j⟨_,_,_,_,_,_,_,_,_,_,E⟩;rw[Dz]at E;cases E
  rintro eu i j⟨H,J,ac,i1,i2,d,g,a6,bo,i3,E⟩;refine AL ?_ d g;clear d g j i;rw[Dz]at E;refine AU ?_;refine AK O E (λev E=>?_) (λev E=>?_)
  ·refine AU ?_;refine AW (AU ?_);have ew:=es.mono' bo;refine BE E O O ew iM.1 O λi4 E i5 ey=>?_;obtain⟨i6,_,ez⟩:=ey.lv;refine AU ?_;refine DT eW O a6 λi7 i8 ct e0=>?_;have e1:=ez.mono e0;obtain⟨rfl,⟨e2,i9,ja,jb,jc,jd,je⟩⟩:=HC.ex e1;refine EM O O O O gH.1 O ct .head O λjf cu jg=>AU ?_;refine Cj (AU ?_);have cv:=cu.sel [2,2,1,0] 0 O;refine DX E O O O Rm O (λa7 cw=>FZ (c2_:=ac) (c3_:=J) cv (by decide) e2 cw) λa7 E jh ji jj jk p=>?_;obtain⟨rfl,cx⟩:=p;refine AU ?_;refine BF (AU ?_);refine WF.nil (λi j d g=>?_);have cy:=cx.sel [2,0,0] 1 O;exact⟨(BO (H+1)),a7.2,a7.1,_,_,d.sub (kp [95,94,5,4,96] O),g,cy,EX,(BQ _),E⟩
  refine BL O (λi j d g=>?_);have cz:=a6.sel [0] 2 O;exact⟨J,_,_,d.sub (kp [4] O),g,cz,bo,E⟩
 rintro i j⟨a5,jl,jm,d,g,fp,jn,E⟩;refine AL ?_ d g;clear d g j i;rw[FW]at E;exact RT
def If(Y:St S L h){d:Value}{i:List B3}(g:Sl S h CH d i){r:Bool}(E:Fo N i=some r):
 CG prog 147 #[d] S h (λv S' h'=>v= .bool r/\St S' (L) h'):=by
 refine CG.go 63 func147 O ntmps147 O λB=>?_;rw[Fo]at E;refine AU ?_;refine AK O E (λZ E=>?_) (λZ E=>?_)
 ·exact RT
 refine AU ?_;refine AT (λa w=>IV B S h (63,[]) a w [] (L) λ_ _=>IG N=some r) ?_ ?_
 ·refine A0 (λW=>λa w=>∃(p:Int),IV B S h (63,[]) a w [(14,vI (↑i.length:Int)),(13,d),(0,d),(15,vI p)] (L) λ_ _=>AB p/\Fm N i (IG N) W p=some r) N ?_ ?_ ?_
  ·intro m o j k;exact⟨0,_,_,j.sub (kp [14,13,0,15] O),k,Y,(CO.refl S h),(iq (n:=0) O),E⟩
  ·rintro m o⟨_,_,_,_,_,_,_,_,E⟩;rw[Fm]at E;cases E
  rintro W m o⟨p,ab,ac,j,k,l,q,r9,E⟩;refine AL ?_ j k;clear j k o m;rw[Fm]at E;refine AU ?_;refine AK O E (λz E=>?_) (λz E=>?_)
  ·refine AU ?_;refine AW (AU ?_);have A:=g.mono' q;refine BE E O O A MM.1 O λC E ad D=>?_;obtain⟨ae,_,F⟩:=D.lv;refine AU ?_;refine DT WP O l λaf ag s G=>AU ?_;have H:=F.mono G;obtain⟨rfl,⟨ah,ai⟩⟩:=CH.ex H;refine EM O O O O WT.1 O s .head O λaj t ak=>AU ?_;refine AK O E (λI E=>?_) (λI E=>?_)
   ·exact RT
   refine AU ?_;refine Ip (.inr ⟨mo,Γ⟩) (AU ?_);obtain⟨J,b,E⟩:=bd E;refine A3 21 61 (.bool J) ?_ ?_
   ·cases u:(decide (0<p))
    ·have b:=Hl u b;cases b;exact BK O O
    have b:=Hk u b;refine AU ?_;have K:=g.nw;refine BE b O O K MM.1 O λM b am an=>AU ?_;obtain⟨Q,c,b⟩:=bd b;refine A3 10 60 (.bool Q) ?_ ?_
    ·cases x:(decide (C.R<=M.R))
     ·have c:=Hl x c;refine AU ?_;have U:=g.nw;refine BE c O O U MM.1 O λao c ap aq=>AU ?_;cases c;exact A4 O
     have c:=Hk x c;cases c;exact BK O O
    refine AU ?_;cases b;exact A4 O
   refine AU ?_;refine AK O E (λV E=>?_) (λV E=>?_)
   ·exact RT
   refine AU ?_;refine BF (AU ?_);refine WF.nil (λm o j k=>?_);have y:=t.drop .head;exact⟨(BO (p+1)),_,_,j.sub (kp [14,13,0,15] O),k,y,EX,(BQ _),E⟩
  refine BL O (λm o j k=>?_);exact⟨_,_,j.sub Ts,k,l,q,E⟩
 rintro m o⟨ar,au,j,k,X,av,E⟩;refine AL ?_ j k;clear j k o m;rw[IG]at E;exact RT
end Go.Proofs.YtabonambpbofgaaGreat
