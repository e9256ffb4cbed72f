import Derived.Test.YtedgiljmffngoaaGreatFCore44
namespace Go.Proofs.YtedgiljmffngoaaGreat
set_option linter.all false
open Go.RowKit
def bL (s:ByteArray):List Int:=s.data.toList.map λb=>(b.toNat:Int)
def LZ (s:ByteArray):(bL s).length=s.size:=by simp [bL]
def YE (g j:Nat):(⟨g,0,none⟩:Addr).add j=⟨g,j,none⟩:=by unfold Addr.add;split<;>simp_all
def Z5 (s t:ByteArray):bL (s++t)=bL s++bL t:=by simp [bL,ByteArray.data_append]
def W8 (s:ByteArray) (c:Int) (h:IntKind.has .u8 c):bL (s.push (UInt8.ofNat c.toNat))=bL s++[c]:=by
 have:0≤c∧c≤255:=by simpa [IntKind.has,IntKind.min,IntKind.max,IntKind.signed,IntKind.bits] using h
 have e:(((UInt8.ofNat c.toNat).toNat:Nat):Int)=c:=by rw[UInt8.toNat_ofNat'];omega
 simp only[bL,ByteArray.push,Array.toList_push,jM,iF,List.map_nil,e]
abbrev RB:BB Int:=BB.intk .u8
def RU {S:Nat→Prop}{h:AT}:∀l:List UInt8,KW S h RB (l.map λb=>Value.int .u8 b.toNat) (l.map λb=>(b.toNat:Int))
 |[]=>rfl
 |b::l=>⟨[.int .u8 b.toNat],l.map λb=>Value.int .u8 b.toNat,rfl,⟨rfl,by have:=b.toNat_lt;simp [IntKind.has,IntKind.min,IntKind.max,IntKind.signed,IntKind.bits];omega⟩,RU l⟩
def T4 {S:Nat→Prop}{h:AT}(t:ByteArray):KW S h RB (Lib.strCells t) (bL t):=RU t.data.toList
section
variable {P:Program}{ops:Array Oper}{Q:Exit→Act→World→Prop}{n:FN}{m:SM}{rest:List Oper}{a:Act}
variable {d:Nat}{ty:TypeId}{pos:String}{af:Array Edge}{X Y:Operand}{B w:World}{h:AT}{S:Nat→Prop}{L L2:List HP}{v:Value}
def Si {T U e H:Nat}{z:List Value}{l:List Int}{t:ByteArray}{F:Nat→Prop}(he:M3 P T=some (e,1,H,z)) (p:P.underlying U=some .string)
  (M:l.length+t.size≤maxLen) (Q:Ic (l.length+t.size) H) (c:Wd B h w) (k:(OS RB e v l).holds S F h) (hS:∀b,S b→b<h.size∧¬F b):
  ∃v' w' h' F',(Builtin.append_ #[T,U] ty #[v,.string t]).run P w= .ok v' w'∧Wd B h' w'∧h.size≤h'.size∧(OS RB e v' (l++bL t)).holds S F' h'∧(∀b,F' b→F b∨(h.size≤b∧b<h'.size))∧(∀b,b<h.size→¬F b→h'[b]? =h[b]?)∧(v= .slice none 0 0→t.size=0→v'= .slice none 0 0):=by
 obtain⟨i,D,V,W,h3,h4,h5,h6,h7,h8⟩:=KF he;have X:l.length+t.size≤9223372036854775807:=by unfold maxLen at M;omega
 have ac:D.cells.size=1:=by rw[h6];simpa using h7
 have d:(bL t).length=t.size:=LZ t;have q:(Lib.strCells t).length=t.size:=Lib.strCells_length t;have s:∀(m:List Value) (o:Nat),KW S h RB m l→o<l.length+t.size→
   (OS RB e (.slice (some ⟨h.size,0,none⟩) (l.length+t.size) (grownCap w (l.length+t.size) o e)) (l++bL t)).holds S (λb=>b=h.size)
    (h.push (.cells (m.toArray++(Lib.strCells t).toArray++Builtin.zeroCells D.cells (grownCap w (l.length+t.size) o e-(l.length+t.size))) e)):=by
  intro m o ho ag;have ae:=grownCap_ge w (l.length+t.size) o e;refine .inr ⟨h.size,_,_,by rw[hP,d],λ_=>iM,Jr _ _,by rw[hP,d];exact ae,grownCap_le_maxLen w _ o e M,?_,?_⟩
  ·have:=ho.len;simp only[Array.size_append,jS,size_zeroCells,ac,this,q];show l.length*1+t.size+_*1=_*1
   omega
  ·have y:(l++bL t).length*RB.sz=(m++Lib.strCells t).length:=by
    rw[hP,hP,ho.len,q,d];show(l.length+t.size)*1=l.length*1+t.size;omega
   rw[y];simp only[Array.toList_append];rw[jJ];exact(ho.append (T4 t)).mono (λ_ x=>x) λb a=>Ed _ _ _ (hS b a).1
 rcases k with ⟨⟨I,rfl⟩,rfl,hF⟩|⟨g,cap,cur,rfl,hF,hg,hlc,hcm,hcs,hrd⟩
 ·by_cases Y:t.size=0
  ·have hn:Lib.strCells t=[]:=jW (by rw[q];exact Y);have a:bL t=[]:=jW (by rw[d];exact Y);refine⟨.slice I 0 0,w,h,F,?_,c,gN _,.inl ⟨⟨I,rfl⟩,by rw[a];rfl,hF⟩,λb a=> .inl a,λ_ _ _=>rfl,λe _=>e⟩;have hf:=Lib.run_firstCells_string (P:=P) w 1 t;rw[Y,hn] at hf;cases I<;>simp [Builtin.append_,run_underlying V,run_underlying p,sizeOf,typeInfo,W,h4,Builtin.lenOf,Y,hf,storeCells]
  ·have G:Ic t.size H:=by simpa using Q
   have ah:=G.le;have e1:(t.data.map λb=>Value.int .u8 b.toNat)=(Lib.strCells t).toArray:=by
    apply Array.ext';simp [Lib.strCells]
   have Z:(Builtin.append_ #[T,U] ty #[.slice I 0 0,.string t]).run P w= .ok (.slice (some ⟨w.heap.size,0,none⟩) t.size (grownCap w t.size 0 e)) (w.drew.alloc (.cells ((Lib.strCells t).toArray++Builtin.zeroCells D.cells (grownCap w t.size 0 e-t.size)) e)):=by
    cases I with
    |none=>
     have:=run_append_nil_string (P:=P) w T U ty e i D V p W h3 t (by omega) (by simp at X;omega) (by rw[h5];omega);rw[e1] at this;exact this
    |some I=>
     have hq:=Lib.run_append_grow_string (P:=P) w T U ty e i D V p W h3 I 0 0 [] (by simp) (λj u p=>by simp at p) t (by omega) (by omega) (Mq (by omega) (by rw[h5];simpa using G));simpa using hq
   have C:=s [] 0 rfl (by simp;omega);simp only[List.length_nil,hM,gQ,Array.empty_append] at C;refine⟨_,_,h.push (.cells ((Lib.strCells t).toArray++Builtin.zeroCells D.cells (grownCap w t.size 0 e-t.size)) e),λb=>b=h.size,Z,⟨?_,c.os,c.tape,c.out⟩,by simp,?_,λb a=> .inr (by subst a;simp),λb a _=>Ed _ _ _ a,λ_ e=>absurd e Y⟩
   ·show(w.heap.push _)=_;rw[c.heap]
   ·rw[c.heap];exact C
 ·have aa:w.heap[g]? =some (.cells cur e (0,0)):=by rw[c.heap];exact hg
  have af:cur.size=cap:=by have:cur.size=cap*1:=hcs;omega
  have n:KW S h RB (cur.toList.take l.length) l:=by have:=hrd;rwa [show l.length*RB.sz=l.length from iO _] at this
  by_cases A:l.length+t.size≤cap
  ·have Z:=Lib.run_append_room_string (P:=P) w T U ty e i V p W h4 g l.length cap cur aa t A (by omega);obtain⟨h',e1,e2,e3,e4⟩:=Ou w g cur (c':=(cur.toList.take l.length++Lib.strCells t++cur.toList.drop (l.length+t.size)).toArray) e aa;rw[c.heap] at e2 e4;refine⟨_,_,h',F,Z,⟨e1,c.os,c.tape,c.out⟩,by omega,.inr ⟨g,cap,_,by rw[hP,d],hF,e3,by rw[hP,d];exact A,hcm,?_,?_⟩,λb a=> .inl a,λb _ a=>e4 b λe=>a ((hF b).2 e),λe=>by cases e⟩
   ·simp only[jS,hP,iL,iW,kD,q];show _=cap*1
    omega
   ·have J:=n.len;have ab:(cur.toList.take l.length).length=l.length:=by rw[J];exact iO _
    have y:(l++bL t).length*RB.sz=(cur.toList.take l.length++Lib.strCells t).length:=by
     rw[hP,hP,ab,q,d];exact iO _
    rw[y,jJ];exact(n.append (T4 t)).mono (λ_ x=>x) λb a=>e4 b λe=>(hS b a).2 ((hF b).2 e)
  ·have K:∀j u,(cur.toList.take l.length)[j]? =some u→w.cell? ((⟨g,0,none⟩:Addr).add j)=some u:=λj u p=>by
    rw[YE,Hl,c.heap];have hj:j<l.length:=by
     have:=(hJ.1 p).1;simp at this;omega
    rw[iG hj] at p;simp only[Gk,hg,jQ,iR,iS];simpa using p
   have J:=n.len;have Z:=Lib.run_append_grow_string (P:=P) w T U ty e i D V p W h3 ⟨g,0,none⟩ l.length cap _ (by rw[h4];exact J) K t (by omega) (by omega) (Mq (by omega) (by rw[h5];exact Q));have C:=s _ cap n (by omega);refine⟨_,_,h.push (.cells ((cur.toList.take l.length).toArray++(Lib.strCells t).toArray++Builtin.zeroCells D.cells (grownCap w (l.length+t.size) cap e-(l.length+t.size))) e),λb=>b=h.size,Z,⟨?_,c.os,c.tape,c.out⟩,by simp,?_,λb a=> .inr (by subst a;simp),λb a _=>Ed _ _ _ a,λe=>by cases e⟩
   ·show(w.heap.push _)=_;rw[c.heap]
   ·rw[c.heap];exact C
def Xk {T U e u:Nat}{z:List Value}{l:List Int}{t:ByteArray}{LL:Value→List HP}(hx:BU m X=some v) (hy:BU m Y=some (.string t)) (he:M3 P T=some (e,1,u,z)) (Z:P.underlying U=some .string)
  (y:l.length+t.size≤maxLen) (A:Ic (l.length+t.size) u) (hd:Nat.blt d n.1=true) (s:St S L h) (rp:∀i,Lb L (OS RB e v l) (OS RB e i (l++bL t)) (LL i))
  (k:∀i h',St S (LL i) h'→B6 S h S h'→(v= .slice none 0 0→t.size=0→i= .slice none 0 0)→LF P ops Q rest B h' n ((d,i)::m)):
  LF P ops Q (⟨some d,.call ⟨.builtin .append,#[X,Y],#[T,U]⟩,ty,pos,af,none⟩::rest) B h n m:=by
 intro a w g hw;refine wpList_plain rfl λK hK=>?_;unfold Oper.wp;obtain⟨M,p,_⟩:=(rp v).pick;obtain⟨F,g1,g2,_⟩:=Sp.pick p s.2;obtain⟨i,w',h',F',e1,e2,e3,e4,e5,e6,e7⟩:=Si (ty:=ty) he Z y A hw g1 λb c=>⟨s.1 b c,λg=>(g2 b g).2 c⟩
 have C:(execOp a.eval ⟨some d,.call ⟨.builtin .append,#[X,Y],#[T,U]⟩,ty,pos,af,none⟩).run P w= .ok (.value i) w':=by
  simp [execOp,resolve,invoke,builtin,g.eval hx,g.eval hy,e1]
 rw[C];obtain⟨M,p,q⟩:=(rp i).pick;have D:St S (LL i) h'∧B6 S h S h':=by
  obtain⟨G,aa,j,ab⟩:=Sp.pick p s.2;obtain⟨ai,aj,H,ac,I,ad,o,ae,J,V,_⟩:=Si (ty:=ty) he Z y A hw aa λb c=>⟨s.1 b c,λg=>(j b g).2 c⟩
  rw[e1] at I;injection I with ev ew
  subst ev;subst ew;have hh:H=h':=by rw[←ad.heap,e2.heap]
  subst hh;have W:∀b,S b→H[b]? =h[b]? :=λb c=>V b (s.1 b c) λg=>(j b g).2 c;refine⟨⟨λb c=>gJ (s.1 b c) o,LD q ⟨ac,ae,λb c=>?_,?_⟩⟩,λ_ x=>x,W,o⟩
  ·rcases J b c with g|⟨hl,Z⟩
   ·exact⟨gJ (j b g).1 o,(j b g).2⟩
   ·exact⟨Z,λag=>absurd (s.1 b ag) (by omega)⟩
  ·refine Sp.ext ab (λ_ x=>x) (λb c=>?_) λb c=>⟨⟨gJ c.1.1 o,c.1.2⟩,λah=>?_⟩
   ·rcases c with c|c
    ·exact W b c
    ·exact V b c.1.1 c.2
   ·rcases J b ah with g|⟨hl,_⟩
    ·exact c.2 g
    ·exact absurd c.1.1 (by omega)
 exact hK _ _ (k i h' D.1 D.2 e7 _ w' (g.put hd _) e2)
end
def SV (b T E:Nat) (s:ByteArray):HP where
 holds:=λS F h=>∃p v a d,(p= .pointer none∨p= .pointer (some ⟨b,0,none⟩))∧(s.size=0→v= .slice none 0 0)∧(Bx b T [p,v]).holds S a h∧(OS RB E v (bL s)).holds S d h∧(∀c,a c→F c)∧(∀c,d c→F c∧¬a c)
 loc:=by
  rintro S S' F h h' ⟨p,v,a,d,m,n,o,q,i,j⟩ k l;exact⟨p,v,a,d,m,n,HP.loc _ o k λb g=>l b (g.imp_right (i b)),HP.loc _ q k λb g=>l b (g.imp_right λx=>(j b x).1),i,j⟩
section
variable {P:Program}{ops:Array Oper}{Q:Exit→Act→World→Prop}{n:FN}{m:SM}{rest:List Oper}
variable {d:Nat}{ty:TypeId}{pos:String}{af:Array Edge}{X Y:Operand}{B w:World}{h:AT}{S:Nat→Prop}{L L2:List HP}{p v:Value}{b T E:Nat}{s:ByteArray}
def St.bldO (j:St S (SV b T E s::L) h):∃p v,(p= .pointer none∨p= .pointer (some ⟨b,0,none⟩))∧(s.size=0→v= .slice none 0 0)∧St S (Bx b T [p,v]::OS RB E v (bL s)::L) h:=by
 obtain⟨k,F,⟨p,v,l,m,n,o,q,t,g,d⟩,i,u⟩:=j;exact⟨p,v,n,o,k,l,q,λc a=>i c (g c a),m,t,λc a=>⟨i c (d c a).1,(d c a).2⟩,Sp.mono u λc a=>⟨⟨a.1,λx=>a.2 (g c x)⟩,λx=>a.2 (d c x).1⟩⟩
def SA (j:p= .pointer none∨p= .pointer (some ⟨b,0,none⟩)) (k:s.size=0→v= .slice none 0 0) (l:St S (Bx b T [p,v]::OS RB E v (bL s)::L) h):St S (SV b T E s::L) h:=by
 obtain⟨m,d,n,o,g,q,i,t⟩:=l;exact⟨m,λc=>d c∨g c,⟨p,v,d,g,j,k,n,q,λc x=> .inl x,λc x=>⟨.inr x,(i c x).2⟩⟩,λc x=>x.elim (o c) λx=>(i c x).1,Sp.mono t λc a=>⟨a.1.1,λx=>x.elim a.1.2 a.2⟩⟩
def Wf (c:Cx P T=some [.pointer none,.slice none 0 0]) (E:Nat) (hd:Nat.blt d n.1=true) (g:St S L h) (k:∀b h',St S (SV b T E ByteArray.empty::L) h'→B6 S h S h'→LF P ops Q rest B h' n ((d,.pointer (some ⟨b,0,none⟩))::m)):LF P ops Q (⟨some d,.alloc T,ty,pos,af,none⟩::rest) B h n m:=
 CG c hd (g.nil RB E) λb h' a e=>k b h' (SA (.inl rfl) (λ_=>rfl) a) e
def Ub {C:World→Prop}{Q:Act→Prop}{o:Option Addr}{t t2 c:TypeId}{k0:Nat}(g:BU m X=some (.pointer o)) (i:BU m Y=some (.pointer none)) (l:P.underlying t=some (.pointer c)) (p:(P.info? c).map (·.size)=some k0) (hd:Nat.blt d n.1=true) (k:QF P ops C Q rest n ((d,.bool o.isNone)::m)):
  QF P ops C Q (⟨some d,.binOp .eql t X Y t2,ty,pos,af,none⟩::rest) n m:=λa b=>Cu b hd (λw _=>by
 obtain⟨j,s,_⟩:=iH.1 p;have e:∀q:Nat,(Op.equalIn (q+1) t (.pointer o) (.pointer none)).run P w= .ok o.isNone w:=λq=>by
  cases o<;>simp [Op.equalIn,run_underlying l,sizeOf,typeInfo,s,sameAddr]
 have y:=e 9999;have u:∀w,(eqGuard .eql t X Y (.pointer o) (.pointer none)).run P w= .ok () w:=λw=>by cases o<;>(unfold eqGuard;simp)
 have v:(binOp .eql t (.pointer o) (.pointer none)).run P w= .ok (.bool o.isNone) w:=by
  simp only[binOp];have x:(Op.equalIn Op.maxDepth t (.pointer o) (.pointer none)).run P w= .ok o.isNone w:=e (Op.maxDepth-1);simp [Op.equal,x]
 simp [execOp,b.eval g,b.eval i,u,v]) k
def WP {C:World→Prop}{Q:Act→Prop}{o:Addr}{t t2 c:TypeId}{k0:Nat}(g:BU m X=some (.pointer (some o))) (i:BU m Y=some (.pointer (some o))) (l:P.underlying t=some (.pointer c)) (p:(P.info? c).map (·.size)=some k0) (hd:Nat.blt d n.1=true) (k:QF P ops C Q rest n ((d,.bool false)::m)):
  QF P ops C Q (⟨some d,.binOp .neq t X Y t2,ty,pos,af,none⟩::rest) n m:=λa b=>Cu b hd (λw _=>by
 obtain⟨j,q,_⟩:=iH.1 p;have:=Lib.run_neq_ptr_same (P:=P) w o l q;have s:∀w,(eqGuard .neq t X Y (.pointer (some o)) (.pointer (some o))).run P w= .ok () w:=λw=>by unfold eqGuard;simp
 simp [execOp,b.eval g,b.eval i,s,this]) k
def fU {cs:List Value}(a:St S L h) (c:Bx b T cs∈L) (d:Wd B h w):w.shape? b=some (T,cs.length):=by
 have:=a.bxW c d;simp [World.shape?,this]
def Z9 {Q:Act→Prop}{cs:List Value}{c t2:TypeId}{k0:Nat}(i:St S L h) (l:Bx b T cs∈L) (o:BU m X=some (.pointer (some ⟨b,0,none⟩))) (p:P.underlying c=some (.pointer T)) (q:P.underlying t2=some .unsafePointer) (s:(P.info? T).map (·.size)=some (k0+1)) (t:Nat.blt 0 cs.length=true) (hd:Nat.blt d n.1=true)
  (k:QF P ops (Wd B h) Q rest n ((d,.pointer (some ⟨b,0,none⟩))::m)):QF P ops (Wd B h) Q (⟨some d,.convert c t2 X,ty,pos,af,none⟩::rest) n m:=λa g=>Cu g hd (λw u=>by
 obtain⟨j,v,x⟩:=iH.1 s;have:=Lib.run_to_unsafe (P:=P) w (src:=c) (dst:=t2) ⟨b,0,none⟩ p q v (by omega) (fU i l u) (jE t);simp [execOp,g.eval o,this]) k
def aM {Q:Act→Prop}{cs:List Value}{c t2:TypeId}{k0:Nat}(i:St S L h) (l:Bx b T cs∈L) (o:BU m X=some (.pointer (some ⟨b,0,none⟩))) (p:P.underlying c=some .unsafePointer) (q:P.underlying t2=some (.pointer T)) (s:(P.info? T).map (·.size)=some k0) (t:liesAt P P.depth T (cs.length/P.cellsOf T) 0 T 1=true) (hd:Nat.blt d n.1=true)
  (k:QF P ops (Wd B h) Q rest n ((d,.pointer (some ⟨b,0,none⟩))::m)):QF P ops (Wd B h) Q (⟨some d,.convert c t2 X,ty,pos,af,none⟩::rest) n m:=λa g=>Cu g hd (λw u=>by
 obtain⟨j,v,x⟩:=iH.1 s;have:=Lib.run_from_unsafe (P:=P) w (src:=c) (dst:=t2) ⟨b,0,none⟩ p q v (fU i l u) t;simp [execOp,g.eval o,this]) k
def cI {f:Nat}{a:Func}(b:P.funcs[f]? =some a) (c:(a.name== "runtime.NumGoroutine")=false) (d:a.body.isNone=true) (g:Extern.findNext a=none) (i:Extern.find a=some Extern.AbiNoEscape.same) (x:Value) (w:World):
  (callFunc f #[x]).run P w= .ok (.value x) w:=by
 rw[run_callFunc_extern b c d g i,Lib.run_noEscape];rfl
def fM {C:World→Prop}{Q:Act→Prop}{o:Option Addr}{l c:Nat}{t:TypeId}(g:BU m X=some (.slice o l c)) (h0:o.isSome=true→c≠0) (hd:Nat.blt d n.1=true) (k:QF P ops C Q rest n ((d,.pointer o)::m)):
  QF P ops C Q (⟨some d,.call ⟨.builtin .unsafeSliceData,#[X],#[t]⟩,ty,pos,af,none⟩::rest) n m:=λa b=>Cu b hd (λw _=>by
 have e:(Builtin.unsafeSliceData_ #[t] ty #[.slice o l c]).run P w= .ok (.pointer o) w:=by
  cases o with
  |none=>exact Lib.run_unsafeSliceData_nil w _ _ _ _
  |some a=>exact Lib.run_unsafeSliceData_row w _ _ _ _ _ (h0 rfl)
 simp [execOp,resolve,invoke,builtin,b.eval g,e]) k
def Wb {c t2:TypeId}{o:Option Addr}(i:BU m X=some (.pointer o)) (j:BU m Y=some (.int .i64 0)) (hd:Nat.blt d n.1=true) (k:LF P ops Q rest B h n ((d,.string ByteArray.empty)::m)):
  LF P ops Q (⟨some d,.call ⟨.builtin .unsafeString,#[X,Y],#[c,t2]⟩,ty,pos,af,none⟩::rest) B h n m:=λa w g l=>by
 refine wpList_plain rfl λK p=>?_;unfold Oper.wp;have e:(Builtin.unsafeString_ #[c,t2] ty #[.pointer o,.int .i64 0]).run P w= .ok (.string ByteArray.empty) w:=Lib.run_unsafeString_none w _ _ _ _;have b:(execOp a.eval ⟨some d,.call ⟨.builtin .unsafeString,#[X,Y],#[c,t2]⟩,ty,pos,af,none⟩).run P w= .ok (.value (.string ByteArray.empty)) w:=by
  simp [execOp,resolve,invoke,builtin,g.eval i,g.eval j,e]
 rw[b];exact p _ _ (k _ w (g.put hd _) l)
def Xg {q t2:TypeId}{g cap:Nat}(J:BU m X=some (.pointer (some ⟨g,0,none⟩))) (M:BU m Y=some (.int .i64 s.size)) (U:St S (OS RB E (.slice (some ⟨g,0,none⟩) s.size cap) (bL s)::L) h) (h0:s.size≠0) (V:P.underlying q=some (.pointer E)) (W:P.cellsOf E=1) (hd:Nat.blt d n.1=true)
  (k:∀h',St S L h'→B6 S h S h'→LF P ops Q rest B h' n ((d,.string s)::m)):
  LF P ops Q (⟨some d,.call ⟨.builtin .unsafeString,#[X,Y],#[q,t2]⟩,ty,pos,af,none⟩::rest) B h n m:=λa w A o=>by
 refine wpList_plain rfl λK Z=>?_;unfold Oper.wp;obtain⟨h1,F,kO,hF,hL⟩:=U;rcases kO with ⟨_,z,_⟩|⟨g',cap',cur,k1,z,k3,k4,k5,k6,k7⟩
 ·exact absurd (by rw[←LZ,z];rfl) h0
 ·rw[LZ] at k1 k4;injection k1 with t q2 q3
  injection t with t
  injection t with t
  subst t;subst q3;have i:s.data.toList.length=s.size:=by simp
  have C:w.heap[g]? =some (.cells cur E (0,0)):=by rw[o.heap];exact k3
  have aa:cur.size=cap:=by have:cur.size=cap*1:=k6;omega
  have e:(Builtin.unsafeString_ #[q,t2] ty #[.pointer (some ⟨g,0,none⟩),.int .i64 s.data.toList.length]).run P w= .ok (.string ⟨s.data.toList.toArray⟩) (w.freeze ⟨g,0,none⟩ s.data.toList.length):=by
   refine Lib.run_unsafeString_row w q t2 ty E V W g cur.size (by simp [World.shape?,C]) s.data.toList (λe0=>h0 (by rw[←i,e0];rfl)) (by rw[i];omega) (by rw[i];unfold maxLen at k5;omega) ?_;intro j x H;have hr:KW S h RB (cur.toList.take s.size) (bL s):=by have:=k7;rwa [show (bL s).length*RB.sz=s.size by rw[LZ];exact iO _] at this
   have c:(bL s)[j]? =some (x.toNat:Int):=by simp [bL,H]
   have D:j<s.size:=by rw[←i];exact(hJ.1 H).1
   have h9:=(hr.at_ c).1;have I:(cur.toList.take s.size)[j]? =some (.int .u8 x.toNat):=by
    have u:((cur.toList.take s.size).drop (j*RB.sz)).take RB.sz=[.int .u8 x.toNat]:=h9;rw[show j*RB.sz=j from iO j] at u;have G:(((cur.toList.take s.size).drop j).take 1)[0]? =some (.int .u8 x.toNat):=by rw[show (1:Nat)=RB.sz from rfl,u];rfl
    simpa using G
   rw[YE,Hl,o.heap];simp only[Gk,k3,jQ,iR,iS];rw[iG D] at I;simpa using I
  rw[i] at e;have v:(execOp a.eval ⟨some d,.call ⟨.builtin .unsafeString,#[X,Y],#[q,t2]⟩,ty,pos,af,none⟩).run P w= .ok (.value (.string s)) (w.freeze ⟨g,0,none⟩ s.size):=by
   simp [execOp,resolve,invoke,builtin,A.eval J,A.eval M,e]
  rw[v];have l:∀b,b≠g→(w.freeze ⟨g,0,none⟩ s.size).heap[b]? =h[b]? :=λb c=>by
   rw[←o.heap];simp only[World.freeze];split
   ·rfl
   ·rw[Array.getElem?_modify,gL (λe=>c e.symm)]
  have p:(w.freeze ⟨g,0,none⟩ s.size).heap.size=h.size:=by
   rw[←o.heap];simp only[World.freeze];split<;>simp
  have y:∀b,S b→b≠g:=λb c e=>(hF g ((z g).2 rfl)).2 (e▸c);refine Z _ _ (k (w.freeze ⟨g,0,none⟩ s.size).heap ⟨λb c=>by rw[p];exact h1 b c,?_⟩ ⟨λ_ x=>x,λb c=>l b (y b c),by rw[p];exact gN _⟩ _ _ (A.put hd _) ⟨rfl,?_,?_,?_⟩)
  ·refine Sp.ext hL (λ_ x=>x) (λb c=>l b ?_) λb c=>⟨by rw[p];exact c.1.1,c.1.2⟩
   rcases c with c|c
   ·exact y b c
   ·exact λe=>c.2 ((z b).2 e)
  ·rw[←o.os];simp only[World.freeze];split<;>rfl
  ·rw[←o.tape];simp only[World.freeze];split<;>rfl
  ·rw[←o.out];simp only[World.freeze];split<;>rfl
end
def N8 (N:Nat) (b s:ByteArray):Option ByteArray:=chk (Hn (b.size+s.size) 1) <| some (b++s)
def Z4 (N:Nat) (b:ByteArray) (c:Int):Option ByteArray:=chk (Hn (b.size+1) 1) <| some (b.push (UInt8.ofNat c.toNat))
def Z3 (N:Nat) (b:ByteArray):Option ByteArray:=some b
def Xu {n:Nat}(h:Hn n 1=true):n≤maxLen:=by have:=LC h;unfold Ic at this;unfold maxLen;omega
def dP {b s:ByteArray}{v a:Value}(c:b.size=0→v= .slice none 0 0) (d:v= .slice none 0 0→s.size=0→a= .slice none 0 0) (h:(b++s).size=0):a= .slice none 0 0:=by
 rw[ByteArray.size_append] at h;exact d (c (by omega)) (by omega)
def St.oscell {α}{r:BB α}{T:Nat}{v:Value}{l:List α}{S:Nat→Prop}{L:List HP}{h:AT}(a:St S L h) (b:OS r T v l∈L):v.cells=[v].toArray:=by
 obtain⟨c,cap,rfl,_⟩:=a.oslen b;rfl
def St.osrow {α}{r:BB α}{T:Nat}{v:Value}{l:List α}{S:Nat→Prop}{L:List HP}{h:AT}(a:St S L h) (b:OS r T v l∈L) (h0:l.length≠0):∃g cap,v= .slice (some ⟨g,0,none⟩) l.length cap∧l.length≤cap:=by
 obtain⟨F,k,_⟩:=a.get b;rcases k with ⟨_,c,_⟩|⟨g,cap,cur,h1,_,_,h4,_⟩
 ·subst c;exact absurd rfl h0
 ·exact⟨g,cap,h1,h4⟩
end Go.Proofs.YtedgiljmffngoaaGreat
