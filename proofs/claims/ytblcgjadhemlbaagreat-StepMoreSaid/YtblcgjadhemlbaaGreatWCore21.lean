import Derived.Test.YtblcgjadhemlbaaGreatWCore17
import Derived.Maps.RangeRun
namespace Go.Proofs.YtblcgjadhemlbaaGreat
set_option linter.all false
open Go.RowKit
def P6 (L:List HP):HP where
 holds:=λS F h=>Sp S L h F
 loc:=λk s e=>Sp.ext k s e λ_ x=>x
def iU (l:Nat) (r:Loop):HP where
 holds:=λ_ F h=>(∀b,F b↔b=l)∧h[l]? =some (.loop r)
 loc:=λ⟨a,c⟩ _ e=>⟨a,(e l (.inr ((a l).2 rfl))).trans c⟩
def Sp.app {S:Nat→Prop}{h:BM}:∀{L1 L:List HP}{A:Nat→Prop},Sp S (L1++L) h A→∃F,Sp S L1 h F∧(∀b,F b→A b)∧Sp S L h (λb=>A b∧¬F b)
 |[],L,A,k=>⟨λ_=>False,trivial,λ_ x=>x.elim,k.mono λb a=>⟨a,λx=>x⟩⟩
 |H::L1,L,A,⟨F,d,g,i⟩=>by
  obtain⟨G,j,c,l⟩:=Sp.app i
  refine⟨λb=>F b∨G b,⟨F,d,λb a=> .inl a,j.mono λb a=>⟨.inr a,(c b a).2⟩⟩,λb a=>a.elim (g b) λx=>(c b x).1,l.mono λb a=>⟨a.1.1,λx=>x.elim a.1.2 a.2⟩⟩
def Sp.app2 {S:Nat→Prop}{h:BM}:∀{L1 L:List HP}{A F:Nat→Prop},Sp S L1 h F→(∀b,F b→A b)→Sp S L h (λb=>A b∧¬F b)→Sp S (L1++L) h A
 |[],L,A,F,_,_,k=>k.mono λb a=>a.1
 |H::L1,L,A,F,⟨G,d,c,g⟩,i,k=>⟨G,d,λb a=>i b (c b a),Sp.app2 g (λb a=>⟨i b a.1,a.2⟩) (k.mono λb a=>⟨⟨a.1,λx=>a.2 (c b x)⟩,λx=>a.2 x.1⟩)⟩
section
variable {S:Nat→Prop}{L L1 M:List HP}{h:BM}{H:HP}
def UE:∀{M:List HP},N6 (M++H::L) H (M++L)
 |[]=> .head
 |K::M=> .tail UE
def St.mid (a:St S (H::(M++L)) h):St S (M++H::L) h:=⟨a.1,MT UE a.2⟩
def St.rec {l:Nat}{r r':Loop}(d:St S (iU l r::L) h):h[l]? =some (.loop r)∧St S (iU l r'::L) (h.setIfInBounds l (.loop r'))∧C9 S h S (h.setIfInBounds l (.loop r')):=by
 obtain⟨F,k,_⟩:=d.get (rV ..)
 have a:l<h.size:=(rM.1 k.2).1
 refine⟨k.2,d.upd (H':=iU l r') .head (by simp) λF g _=>⟨F,⟨g.1,by simp [a]⟩,λ_ c=> .inl c,λb _ c=>?_⟩⟩
 have:b≠l:=λe=>c ((g.1 b).2 e)
 simp [Array.getElem?_setIfInBounds_ne (Ne.symm this)]
end
def Wd.putObj {B w:World}{h:BM}(k:Wd B h w) (l:Nat) (o:Obj):Wd B (h.setIfInBounds l o) (w.putObj l o):=⟨by show w.heap.setIfInBounds l o=_;rw[k.heap],k.os,k.tape,k.out⟩
abbrev Tg (a:Type):=(Nat→Prop)→BM→List Value→a→Prop
def YC {k σ:Type}(P:Program) (i:Value) (Y:Bool→σ→HP) (AR:Tg k) (g:k→σ→Option (Bool×σ)) (j:Nat→Prop) (h0:BM):Prop:=
 ∃l,i= .func (.yield l) #[] #[]∧∀(x:k) (s:σ) (b:Bool×σ),g x s=some b→∀(S:Nat→Prop) (L:List HP) (h:BM) (vs:List Value) (B w:World),C9 j h0 S h→St S (Y true s::L) h→AR S h vs x→Wd B h w→
  ∃fn c a d,(Instr.yield l vs.toArray).run P w= .ok (.round l fn c a d) w∧
   RoundIn Fence.wide 0 P l fn c a d w (λe w'=>∃S' h',e= .returned (.bool b.1)∧Wd B h' w'∧C9 S h S' h'∧St S' (Y b.1 b.2::L) h')
def YC.mono {o σ:Type}{P:Program}{c:Value}{Y:Bool→σ→HP}{AR:Tg o}{a:o→σ→Option (Bool×σ)}{d g:Nat→Prop}{h0 i:BM}(k:YC P c Y AR a d h0) (e:C9 d h0 g i):YC P c Y AR a g i:=by
 obtain⟨l,j,k⟩:=k
 exact⟨l,j,λx s b m S L h vs B w n=>k x s b m S L h vs B w (e.trans n)⟩
def YL (P:Program) (ops:Array Oper) (Q:Exit→Act→World→Prop) (l:List Oper) (B:World) (h:BM) (n:FN) (m:SM):Prop:=∀a w,Fr n a m→Wd B h w→wpListIn (FF none) 0 P ops Q l a w
def V3 {P:Program}{l:Nat}{f:FuncId}{b:Array Value}{a d:Code}{w:World}{R:Ending→World→Prop}{g:Option Nat}{n i:Nat}(h:RoundIn Fence.wide n P l f b a d w R):RoundIn (FF g) i P l f b a d w R:=
 ⟨OE g f,λc cs _=>by rw[Nw];exact h.2 c cs (room_wide _)⟩
def NK {P:Program}{ops:Array Oper}{Q:Exit→Act→World→Prop}{g:Option Nat}:∀(l:List Oper) (a:Act) (w:World),(g=none∨l.all Xi=true)→wpListIn (FF none) 0 P ops Q l a w→wpListIn (FF g) 0 P ops Q l a w
 |[],_,_,_,h=>h
 |o::rest,a,w,i,h=>by
  have q:g=none∨Xi o=true:=i.imp (λx=>x) λh=>by simp only[List.all_cons,qT] at h;exact h.1
  have j:g=none∨rest.all Xi=true:=i.imp (λx=>x) λh=>by simp only[List.all_cons,qT] at h;exact h.2
  unfold wpListIn at h ⊢
  split
  ·rename_i n
   rw[qR n] at h
   refine⟨λf _=>OE g f,?_⟩
   have b:=h.2
   have s:o.semAt (FF g).round a.eval=o.semAt (FF none).round a.eval:=by
    rw[RL,RL]
    cases g with
    |none=>rfl
    |some l=>exact Oper.semAt_some l _ _ λc t=>q.elim (λi=>by cases i) λi=>by unfold Xi at i;rw[t] at i;cases i
   rw[s]
   generalize (o.semAt (FF none).round a.eval).run P w=r at b
   cases r with
   |ok u w'=>
    cases u<;>simp only[Oper.uponIn] at b ⊢
    case value v=>exact NK rest _ _ j b
    case skip=>exact NK rest _ _ j b
    case defer d=>exact NK rest _ _ j b
    case enter f args=>exact⟨λhd=>(by rw[Lo] at hd;cases hd),Wg ((callsIn_wide.1 b.2).mono λe k m=>by cases e<;>first|exact NK rest _ _ j m|exact m)⟩
    case row r args=>exact⟨λhd=>(by rw[Lo] at hd;cases hd),λc cs _=>by
     obtain⟨v,k,y,p⟩:=b.2 c cs (cJ none _)
     exact⟨v,k,NK rest _ _ j y,by rw[Nw] at p ⊢;exact p⟩⟩
    case round l f tmps assign body=>exact⟨λhd=>(by rw[Lo] at hd;cases hd),V3 (RoundIn.mono b.2 λe k m=>by cases e<;>first|exact NK rest _ _ j m|exact m)⟩
   |halt x w'=>cases x<;>simp only[Oper.uponIn] at b ⊢;exact b
  ·rename_i n
   rw[qP n] at h
   exact⟨λf _=>OE g f,NK rest _ w j h.2⟩
section
variable {P:Program}{ex:List (Nat×AP)}{R N:AP}{cs:List Code}{B:World}{h:BM}{n:FN}{m m':SM}{S:Nat→Prop}{L:List HP}
def qH {l:List Oper}{id:Nat}(k:YL P l.toArray (Qx ex R (W P ex R cs N)) l B h n m):WF P ex R (.region id l.toArray false::cs) N B h n m:=λa w b c d hd=>
 wpIn_region_lit (NK l a w (hd.imp (λx=>x) λh=>by simpa [WE] using h) (k a w b c))
end
section
variable {P:Program}{ops:Array Oper}{Q:Exit→Act→World→Prop}{n:FN}{m m':SM}{rest l:List Oper}{B:World}{h:BM}{S:Nat→Prop}{L:List HP}
def OM (g:∀a w,¬Q .outgrown a w):∀(k:Nat) (l:List Oper) (a:Act) (w:World),wpList P ops (Exit.then (wpListIn (FF none) 0 P ops Q (l.drop k)) Q) (l.take k) a w→wpListIn (FF none) 0 P ops Q l a w
 |0,l,a,w,h=>by simpa [wpList,Exit.then] using h
 |k+1,[],a,w,h=>by simpa [wpList,Exit.then] using h
 |k+1,o::l,a,w,h=>by
  simp only[List.take_succ_cons,List.drop_succ_cons] at h
  unfold wpList at h
  unfold wpListIn
  split
  ·rename_i i
   rw[qR i] at h
   have b:=h.imp (Oper.wp_mono λa w p=>OM g k l a w p) id
   refine fI (.inl rfl) g ?_
   rcases b with b|⟨_,j,m,h2⟩
   ·refine .inl ?_
    unfold Oper.wp at b ⊢
    generalize (execOp a.eval o).run P w=r at b
    cases r with
    |ok q w'=>
     cases q<;>simp only[Oper.upon] at b ⊢
     case value v=>exact b
     case skip=>exact b
     case defer d=>exact b
     case enter f args=>
      refine b.mono λe s n=>?_
      cases e with
      |returned v=>exact n
      |panicked c=>exact n
      |outgrown=>obtain⟨j,m,h0⟩:=n;exact⟨j,m,h0⟩
     case row r args=>exact b
    |halt x w'=>cases x<;>simp only[Oper.upon] at b ⊢;exact b
   ·exact absurd h2 (g j m)
  ·rename_i i
   rw[qP i] at h
   exact⟨λf _=>OE none f,OM g k l _ w h⟩
def qI {C:World→Prop}(k:YL P ops Q l B h n m):QF P ops C (λa=>∀w,Wd B h w→wpListIn (FF none) 0 P ops Q l a w) [] n m:=λa b w c=>k a w b c
def qG (j:Nat) (b:∀a w,¬Q .outgrown a w) (k:LF P ops (Exit.then (wpListIn (FF none) 0 P ops Q (l.drop j)) Q) (l.take j) B h n m):YL P ops Q l B h n m:=λa w c d=>OM b j l a w (k a w c d)
def qK (k:YL P ops Q l B h n m):LF P ops (Exit.then (wpListIn (FF none) 0 P ops Q l) Q) [] B h n m:=λa w b c=>k a w b c
def YL.nil {ex:List (Nat×AP)}{R N:AP}{cs:List Code}(b:SO m m') (k:WF P ex R cs N B h n m'):YL P ops (Qx ex R (W P ex R cs N)) [] B h n m:=λa w c d=>k a w (c.sub b) d
def YL.gy {o:Oper}{j e:Nat}{b:Bool}(g:o.guard=some (j,b)) (i:(ops[j]?).bind (·.dst)=some e) (l:lk m e=some (.bool b)) (k:YL P ops Q ({ o with guard:=none}::rest) B h n m):YL P ops Q (o::rest) B h n m:=by
 intro a w d p
 have q:Region.wanted o (yielded ops a.tmps)=true:=by
  have:=d.at_ e _ l
  simp [Region.wanted,g,yielded,i,this]
 have c:=k a w d p
 unfold wpListIn at c ⊢
 rw[qR (by simp [Region.wanted])] at c
 rw[qR q]
 exact c
def YL.gn {o:Oper}{j e d:Nat}{b:Bool}(g:o.guard=some (j,!b)) (i:(ops[j]?).bind (·.dst)=some e) (l:lk m e=some (.bool b)) (p:o.dst=some d) (hd:Nat.blt d n.1=true) (k:YL P ops Q rest B h n ((d,undef)::m)):YL P ops Q (o::rest) B h n m:=by
 intro a w c q
 have s:Region.wanted o (yielded ops a.tmps)=false:=by
  have:=c.at_ e _ l
  cases b<;>simp [Region.wanted,g,yielded,i,this]
 unfold wpListIn
 rw[qP (by rw[s];exact Bool.false_ne_true),p]
 exact⟨λf _=>OE none f,k _ w (c.put hd _) q⟩
def pN {α σ:Type}{C:Value}{Y:Bool→σ→HP}{AR:Tg α}{j:α→σ→Option (Bool×σ)}{D:Nat→Prop}{h0:BM}{X:Operand}{xs:Array Operand}{c:Array TypeId}{vs:List Value}{d:Nat}{ty:TypeId}{g:String}{t:Array Edge}{x:α}{s:σ}{b:Bool×σ}
  (u:YC P C Y AR j D h0) (F:Ca m X=some C) (v:xs.toList.mapM (Ca m)=some vs) (G:j x s=some b) (H:C9 D h0 S h) (I:St S (Y true s::L) h) (J:AR S h vs x) (hd:Nat.blt d n.1=true)
  (k:∀S' h',C9 S h S' h'→St S' (Y b.1 b.2::L) h'→YL P ops Q rest B h' n ((d,.bool b.1)::m)):YL P ops Q (⟨some d,.call ⟨.value X,xs,c⟩,ty,g,t,none⟩::rest) B h n m:=by
 intro a w z K
 obtain⟨l,rfl,u⟩:=u
 obtain⟨fn,o,i,p,M,U⟩:=u x s b G S L h vs B w H I J K
 unfold wpListIn
 rw[qR (by simp [Region.wanted])]
 refine⟨λf _=>OE none f,?_⟩
 have q:(execOp a.eval ⟨some d,.call ⟨.value X,xs,c⟩,ty,g,t,none⟩).run P w= .ok (.round l fn o i p) w:=by
  have V:=z.eval F
  have W:=We z v
  simp [execOp,resolve,Deferred.ofValue,invoke,V,W,M]
 have A:(⟨some d,.call ⟨.value X,xs,c⟩,ty,g,t,none⟩:Oper).semAt (FF none).round a.eval=execOp a.eval ⟨some d,.call ⟨.value X,xs,c⟩,ty,g,t,none⟩:=rfl
 rw[A,q]
 refine⟨λhd=>(by rw[Lo] at hd;cases hd),V3 (RoundIn.mono U λe w' Z=>?_)⟩
 obtain⟨S',h',rfl,r1,r2,r3⟩:=Z
 exact k S' h' r2 r3 _ w' (z.put hd _) r1
end
section
variable {P:Program}{ex:List (Nat×AP)}{R N:AP}{cs:List Code}{B:World}{h:BM}{k:Nat}{Ds:List Nat}{m:SM}{S:Nat→Prop}{L:List HP}
end
section
variable {S:Nat→Prop}{L:List HP}{h:BM}
end
section
variable {P:Program}{ops:Array Oper}{Q:Exit→Act→World→Prop}{n:FN}{m m':SM}{rest l:List Oper}{B:World}{h:BM}{S:Nat→Prop}{L:List HP}
def qF {C σ:Type}{l:Value}{Y:Bool→σ→HP}{AR:Tg C}{c:C→σ→Option (Bool×σ)}{o:Nat→Prop}{h0:BM}{X:Operand}{xs:Array Operand}{i:Array TypeId}{vs:List Value}{d:Nat}{ty:TypeId}{j:String}{p:Array Edge}{x:C}{s:σ}{a:Bool×σ}
  (q:YC P l Y AR c o h0) (t:Ca m X=some l) (k:xs.toList.mapM (Ca m)=some vs) (u:c x s=some a) (v:C9 o h0 S h) (b:St S (Y true s::L) h) (w:AR S h vs x) (hd:Nat.blt d n.1=true)
  (z:a.1=true→∀S' h',C9 S h S' h'→St S' (Y true a.2::L) h'→YL P ops Q rest B h' n ((d,.bool true)::m))
  (A:a.1=false→∀S' h',C9 S h S' h'→St S' (Y false a.2::L) h'→YL P ops Q rest B h' n ((d,.bool false)::m)):YL P ops Q (⟨some d,.call ⟨.value X,xs,i⟩,ty,j,p,none⟩::rest) B h n m:=
 pN q t k u v b w hd λS' h' e b=>by
  cases g:a.1 with
  |true=>rw[g] at b;exact z g S' h' e b
  |false=>rw[g] at b;exact A g S' h' e b
end
section
variable {P:Program}{fn:Func}{B:World}{S S':Nat→Prop}{h h':BM}{post:Value→(Nat→Prop)→BM→Prop}{a:Act}{m:SM}{w:World}{L:List HP}
end
end Go.Proofs.YtblcgjadhemlbaaGreat
namespace Go.Proofs.YtblcgjadhemlbaaGreat
set_option linter.all false
open Go.RowKit
def lD:List Nat→SM→Option SM
 |[],_=>some []
 |k::a,m=>match lk m k with
  |some v=>match lD a m with
   |some r=>some ((k,v)::r)
   |none=>none
  |none=>none
def kp:∀{m a:SM}(b:List Nat),lD b m=some a→SO m a
 |m,a,[],g=>by cases g;trivial
 |m,a,k::b,g=>by
  simp only[lD] at g
  split at g
  ·rename_i v c
   split at g
   ·rename_i r d
    cases g
    exact⟨c,kp b d⟩
   ·cases g
  ·cases g
def Xe {c:Type}(S:Nat→Prop) (d:BM) (r:BZ c) (T:TypeId) (l:List c) (v:Value) (a:BM):Prop:=∃g cap,v= .slice (some ⟨g,0,none⟩) l.length cap∧d.size≤g∧g<a.size∧(OS r T v l).holds S (λb=>b=g) a
def Xe.mono {q:Type}{S:Nat→Prop}{s a c:BM}{r:BZ q}{T:TypeId}{l:List q}{v:Value}(k:Xe S s r T l v a) (i:∀b,S b→b<s.size) (o:GD a c):Xe S s r T l v c:=by
 obtain⟨g,cap,j,m,d,n⟩:=k
 exact⟨g,cap,j,m,qZ d o.siz,HP.loc _ n (λ_ x=>x) λb p=>o.same b (p.elim (λx=>by have:=i b x;omega) λx=>by subst x;exact d)⟩
def cC {d:Type}{S:Nat→Prop}{i:BM}{r:BZ d}{T:TypeId}{l:List d}:Rf (Xe S i r T l):=λv c ⟨g,_,a,_,b,_⟩=>⟨g,by rw[a];rfl,b⟩
def NW {b:Type}{R:AR}{S:Nat→Prop}{c:BM}{r:BZ b}{a T:Nat}{l:List b}{is:List Nat}(e:R a=Xe S c r T l) (t:∀i,i∈is→Rf (R i)):∀i,i∈a::is→Rf (R i):=Up (by rw[e];exact cC) t
def MX {u:Type}{S:Nat→Prop}{L:List HP}{w d:BM}{i:List Nat}{r:BZ u}{g T:Nat}{v:Value}{l:List u}(k:Uu S w d i L) (j:w.size≤g) (m:g<d.size) (n:(OS r T v l).holds S (λb=>b=g) d) (o:g∉i):Uu S w d (g::i) (OS r T v l::L):=by
 obtain⟨p,q,s,t⟩:=k
 refine⟨p,q,λc a=>?_,λc=>c=g,n,λc a=>by subst a;exact .inr (rV ..),t.mono λc a=>⟨a.imp_right (sE _),λe=>?_⟩⟩
 ·rcases rG.1 a with rfl|a
  ·exact⟨j,m⟩
  ·exact s c a
 ·subst e
  rcases a with a|a
  ·have:=a.1;omega
  ·exact o a
def RC {α:Type}{P:Program}{q:Array Oper}{Q:Exit→Act→World→Prop}{n:FN}{m:SM}{p:List Oper}{d:Nat}{ty:TypeId}{s:String}{Y:Array Edge}{B:World}{S:Nat→Prop}{h0 h:BM}{r:BZ α}{T e sz g:Nat}{z:List Value}{zx:α}{len cap:Int}{Z kc:IntKind}{U V:Operand}(he:N3 P T=some (e,sz,g,z)) (t:r.sz=sz) (hz:r.rd S h z zx)
  (hx:Ca m U=some (.int Z len)) (hy:Ca m V=some (.int kc cap)) (u:Jk len cap g=true) (y:Nat.blt 0 g=true) (hd:Nat.blt d n.1=true) (o:GD h0 h) (hS:∀b,S b→b<h0.size)
  (k:∀v h',GD h h'→Xe S h0 r e (List.replicate len.toNat zx) v h'→SR h v→LF P q Q p B h' n ((d,v)::m)):LF P q Q (⟨some d,.makeSlice T U V,ty,s,Y,none⟩::p) B h n m:=by
 simp only[Jk,qT,rJ] at u
 obtain⟨⟨aa,ab⟩,I⟩:=u
 obtain⟨a,rfl⟩:∃a:Nat,len=a:=⟨len.toNat,by omega⟩
 obtain⟨c,rfl⟩:∃c:Nat,cap=c:=⟨cap.toNat,by omega⟩
 have ad:((g*c:Nat):Int)≤140737488355328:=by rw[uK];exact I
 have J:1≤g:=by simpa [Nat.blt] using y
 have ae:c≤g*c:=Nat.le_mul_of_pos_left _ J
 have A:a≤c:=by omega
 have C:c≤maxLen:=by unfold maxLen;omega
 intro ac w M hw
 refine wpList_plain rfl λK hK=>?_
 unfold Oper.wp
 obtain⟨i,zv,h1,h2,h3,h4,h5,h6,h7,h8⟩:=K1 he
 have D:=run_make (P:=P) w T e i zv h1 h2 h3 Z kc (a:Int) (c:Int) (by omega) (by omega) (by rw[h5];omega) (by unfold maxLen at C;omega)
 simp only[sF,h6,h4] at D
 have F:(execOp ac.eval ⟨some d,.makeSlice T U V,ty,s,Y,none⟩).run P w= .ok (.value (.slice (some ⟨w.heap.size,0,none⟩) a c)) (w.alloc (.cells (madeCells z.toArray (c*sz)) e)):=by
  simp [execOp,M.eval hx,M.eval hy,D]
 rw[F]
 have W:∀b,S b→b<h.size:=λb G=>qZ (hS b G) o.siz
 have l:(madeCells z.toArray (c*sz)).toList=(List.replicate c z).flatten:=by rw[←h7];exact Lb z c (by omega)
 have X:(OS r e (.slice (some ⟨h.size,0,none⟩) a c) (List.replicate a zx)).holds S (λb=>b=h.size) (h.push (.cells (madeCells z.toArray (c*sz)) e)):=by
  refine .inr ⟨h.size,c,madeCells z.toArray (c*sz),by simp,λ_=>Iff.rfl,La _ _,by simpa using A,C,by rw[size_madeCells,t],?_⟩
  rw[l]
  have:((List.replicate c z).flatten).take ((List.replicate a zx).length*r.sz)=(List.replicate a z).flatten:=by
   obtain⟨j,rfl⟩:=Nat.exists_eq_add_of_le A
   rw[←List.replicate_append_replicate,List.flatten_append,List.length_replicate,t,←h7]
   have:(List.replicate a z).flatten.length=a*z.length:=by simp
   rw[←this,List.take_left]
  rw[this]
  exact(Pm hz a).mono (λ_ x=>x) λb G=>If _ _ _ (W b G)
 have H:=hw.heap
 have:=k (.slice (some ⟨w.heap.size,0,none⟩) a c) (h.push (.cells (madeCells z.toArray (c*sz)) e)) ⟨by simp,λb G=>If _ _ _ G⟩ (by rw[H];exact⟨h.size,c,by simp,o.siz,by simp,by simpa using X⟩) ⟨h.size,by rw[H];rfl,qX _⟩
 exact hK _ _ (this _ _ (M.put hd _) (hw.alloc _))
def oF:Tg Int:=λ_ _ vs x=>vs=[.int .i64 x]∧AH x
def Zu {a:Type}(r:BZ a):Tg (Int×List a):=λS b vs x=>∃v,vs=[.int .i64 x.1,v]∧AH x.1∧Sl S b r v x.2
def oF.len {S:Nat→Prop}{a:BM}{vs:List Value}{x:Int}(k:oF S a vs x):vs.length=1:=by rw[k.1];rfl
def oF.mono {S S':Nat→Prop}{a h':BM}{vs:List Value}{x:Int}(k:oF S a vs x) (_:C9 S a S' h'):oF S' h' vs x:=k
def Zu.len {a:Type}{r:BZ a}{S:Nat→Prop}{b:BM}{vs:List Value}{x:Int×List a}(k:Zu r S b vs x):vs.length=2:=by obtain⟨v,e,_⟩:=k;rw[e];rfl
def Zu.mono {d:Type}{r:BZ d}{S S':Nat→Prop}{g h':BM}{vs:List Value}{x:Int×List d}(k:Zu r S g vs x) (e:C9 S g S' h'):Zu r S' h' vs x:=by obtain⟨v,a,b,c⟩:=k;exact⟨v,a,b,c.mono' e⟩
end Go.Proofs.YtblcgjadhemlbaaGreat
namespace Go.Proofs.YtblcgjadhemlbaaGreat
set_option linter.all false
open Go.RowKit
open Go.ChangeMaps (setBlock)
section
variable {P:Program}{ops:Array Oper}{Q:Exit→Act→World→Prop}{n:FN}{m:SM}{rest:List Oper}
variable {d:Nat}{ty:TypeId}{pos:String}{af:Array Edge}{X:Operand}{B:World}{h:BM}{S:Nat→Prop}{L:List HP}{t kt et:TypeId}{b r:Nat}
variable {κ β:Type}{kv:κ→Value}{vv:β→Value}{l rem:List (κ×β)}
end
end Go.Proofs.YtblcgjadhemlbaaGreat
namespace Go.Proofs.YtblcgjadhemlbaaGreat
set_option linter.all false
open Go.RowKit
def aD:List Nat→Nat→List HP→Option (List HP)
 |[],m,L=>some (L.drop m)
 |i::is,m,L=>match L[i]? with
  |some H=>match aD is m (L.eraseIdx i) with
   |some r=>some (H::r)
   |none=>none
  |none=>none
def WA:∀{L:List HP}{i:Nat}{H:HP},L[i]? =some H→N6 L H (L.eraseIdx i)
 |[],i,H,h=>by simp at h
 |K::L,0,H,h=>by
  simp only[tO,sD] at h
  subst h
  exact .head
 |K::L,i+1,H,h=>by
  simp only[tH] at h
  exact .tail (WA h)
def Sp.dropn {S:Nat→Prop}{h:BM}:∀(m:Nat) {L:List HP}{A:Nat→Prop},Sp S L h A→Sp S (L.drop m) h A
 |0,L,A,k=>k
 |m+1,[],A,k=>k
 |m+1,H::L,A,⟨F,_,_,k⟩=>Sp.dropn m (k.mono λb a=>a.1)
def Sp.sel {S:Nat→Prop}{h:BM}:∀(is:List Nat) {m:Nat}{L a:List HP}{A:Nat→Prop},aD is m L=some a→Sp S L h A→Sp S a h A
 |[],m,L,a,A,e,k=>by cases e;exact k.dropn m
 |i::is,m,L,a,A,e,k=>by
  simp only[aD] at e
  split at e
  ·rename_i H b
   split at e
   ·rename_i r c
    cases e
    obtain⟨F,d,g,j⟩:=Sp.pick (WA b) k
    exact⟨F,d,g,Sp.sel is c j⟩
   ·cases e
  ·cases e
def St.sel {S:Nat→Prop}{h:BM}{L a:List HP}(b:St S L h) (is:List Nat) (m:Nat) (e:aD is m L=some a):St S a h:=⟨b.1,Sp.sel is e b.2⟩
abbrev IV (B:World) (S:Nat→Prop) (h:BM) (n:FN) (a:Act) (w:World) (m:SM) (L:List HP) (F:(Nat→Prop)→BM→Prop):Prop:=∃(S':Nat→Prop) (h':BM),Fr n a m∧Wd B h' w∧St S' L h'∧C9 S h S' h'∧F S' h'
def WC {vs:List Value}(h:vs.all (·.oneCell')=true):∀u∈vs,u.oneCell'=true:=λu a=>qV.1 h u a
section
variable {P:Program}{ops:Array Oper}{Q:Exit→Act→World→Prop}{n:FN}{m:SM}{rest:List Oper}
variable {d:Nat}{ty:TypeId}{pos:String}{af:Array Edge}{X Y:Operand}{B:World}{h:BM}{S:Nat→Prop}{L L2:List HP}{v:Value}
def Iq {T d:TypeId}{b o:Nat}{cs vs cs':List Value}{sz:Nat}{ag:Bool}(g:Ca m X=some (.pointer (some ⟨b,o,none⟩))) (i:Ca m Y=some v) (j:v.cells=vs.toArray) (l:vs.all (·.oneCell')=true)
  (p:JF P T sz ag=true) (c:vs.length=sz) (q:St S L h) (r:MA L (Bx b d cs) (Bx b d cs') L2) (a:Nat.ble (o+sz) cs.length=true) (s:IY cs o vs=cs')
  (k:∀h',St S L2 h'→C9 S h S h'→LF P ops Q rest B h' n m):LF P ops Q (⟨none,.store T X Y,ty,pos,af,none⟩::rest) B h n m:=Ht g i j (WC l) p c q r a s k
def Ek {T c:TypeId}{b:Nat}{cs vs:List Value}{sz:Nat}{ag:Bool}(d:Ca m X=some (.pointer (some ⟨b,0,none⟩))) (g:Ca m Y=some v) (i:v.cells=vs.toArray) (j:vs.all (·.oneCell')=true)
  (l:JF P T sz ag=true) (a:Nat.beq vs.length sz=true) (o:St S L h) (r:MA L (Bx b c cs) (Bx b c vs) L2) (p:Nat.beq cs.length sz=true)
  (k:∀h',St S L2 h'→C9 S h S h'→LF P ops Q rest B h' n m):LF P ops Q (⟨none,.store T X Y,ty,pos,af,none⟩::rest) B h n m:=by
 have q:=rA a
 have s:=rA p
 refine Ht d g i (WC j) l q o r (by simp [s]) ?_ k
 unfold IY
 rw[tJ (by omega)]
 simp
end
section
variable {P:Program}{ops:Array Oper}{C:World→Prop}{Q:Act→Prop}{n:FN}{m:SM}{rest:List Oper}{v:Value}
variable {d:Nat}{ty:TypeId}{pos:String}{af:Array Edge}{X Y:Operand}{h:BM}{S:Nat→Prop}{L:List HP}{t:TypeId}
def AT {T b o:Nat}{cs:List Value}(g:CK C h) (i:St S L h) (j:Ca m X=some (.pointer (some ⟨b,o,none⟩))) (l:Bx b T cs∈L) (c:cs[o]? =some v) (p:JF P t 1 false=true) (hd:Nat.blt d n.1=true)
  (k:QF P ops C Q rest n ((d,v)::m)):QF P ops C Q (⟨some d,.load t X,ty,pos,af,none⟩::rest) n m:=by
 have e:(cs.drop o).take 1=[v]:=by
  have a:=(rB.1 c).1
  have q:=(rB.1 c).2
  rw[uJ a,q]
  simp
 exact ES (vs:=[v]) g i j l e rfl p rfl hd k
def iL {o:Oper}{j e:Nat}{b:Bool}{u:Value}(p:o.guard=some (j,b)) (q:(ops[j]?).bind (·.dst)=some e) (g:lk m e=some u) (s:yb u≠some b) (i:o.dst=some d) (hd:Nat.blt d n.1=true) (k:QF P ops C Q rest n ((d,undef)::m)):QF P ops C Q (o::rest) n m:=by
 intro a c
 have l:Region.wanted o (yielded ops a.tmps)=false:=by
  have:=c.at_ e _ g
  cases u<;>simp_all [Region.wanted,yielded,yb]
 unfold wpQuiet
 rw[qP (by rw[l];exact Bool.false_ne_true),i]
 exact k _ (c.put hd _)
def kW (a:Op) (m:SM):Option Value:=
 match a with
 | .pick c x y=>match Ca m c with
  |some (.bool true)=>Ca m x
  |some (.bool false)=>Ca m y
  |_=>none
 |_=>none
def U6 (ops:Array Oper) (k:Nat):List Oper→SM→Option SM
 |[],m=>some m
 |o::r,m=>match o.guard,o.dst with
  |some (j,b),some d=>match (ops[j]?).bind (·.dst) with
   |some e=>match lk m e with
    |some u=>match yb u,b with
     |some true,true=>match kW o.op m with
      |some v=>cond (Nat.blt d k) (U6 ops k r ((d,v)::m)) none
      |none=>none
     |some false,false=>match kW o.op m with
      |some v=>cond (Nat.blt d k) (U6 ops k r ((d,v)::m)) none
      |none=>none
     |_,_=>cond (Nat.blt d k) (U6 ops k r ((d,undef)::m)) none
    |none=>none
   |none=>none
  |none,some d=>match kW o.op m with
   |some v=>cond (Nat.blt d k) (U6 ops k r ((d,v)::m)) none
   |none=>none
  |_,none=>none
def Nt {a:Type}{c:Bool}{x:Option a}{y:a}(h:cond c x none=some y):c=true∧x=some y:=by cases c<;>simp_all
def Vm {u:Value}{b:Bool}(h:yb u=some b):u= .bool b:=by
 cases u<;>simp_all [yb]
def Vb {o:Oper}{d:Nat}{v:Value}(c:o.guard=none) (hd:o.dst=some d) (a:kW o.op m=some v) (g:Nat.blt d n.1=true) (k:QF P ops C Q rest n ((d,v)::m)):QF P ops C Q (o::rest) n m:=by
 obtain⟨j,l,p,i,q,s⟩:=o
 simp only at c hd a
 subst c hd
 unfold kW at a
 split at a
 ·split at a
  ·rename_i b;exact TY b a g k
  ·rename_i b;exact TY b a g k
  ·cases a
 ·cases a
def O7:∀{l:List Oper}{m p:SM},U6 ops n.1 l m=some p→QF P ops C Q [] n p→QF P ops C Q l n m
 |[],m,p,h,k=>by cases h;exact k
 |o::r,m,p,h,k=>by
  simp only[U6] at h
  split at h
  ·rename_i j b d g hd
   split at h
   ·rename_i e s
    split at h
    ·rename_i u t
     split at h
     ·rename_i w
      split at h
      ·rename_i v i
       obtain⟨a,c⟩:=Nt h
       have:=Vm w
       subst this
       exact Zp g s t (Vb rfl hd i a (O7 c k))
      ·cases h
     ·rename_i w
      split at h
      ·rename_i v i
       obtain⟨a,c⟩:=Nt h
       have:=Vm w
       subst this
       exact Zp g s t (Vb rfl hd i a (O7 c k))
      ·cases h
     ·rename_i x y
      obtain⟨a,c⟩:=Nt h
      refine iL g s t (λz=>?_) hd a (O7 c k)
      generalize A:yb u=zz at*
      subst z
      revert x y
      intro x y
      exact Bool.rec (motive:=λq=>(some q=some true→q=true→False)→(some q=some false→q=false→False)→False) (λ_ h=>h rfl rfl) (λh _=>h rfl rfl) _ x y
    ·cases h
   ·cases h
  ·rename_i d g hd
   split at h
   ·rename_i v i
    obtain⟨a,c⟩:=Nt h
    exact Vb g hd i a (O7 c k)
   ·cases h
  ·cases h
def AV {b:SM}(c:lD (b.map (·.1)) m=some b):QF P ops C (λa=>Fr n a b) [] n m:=bY (kp _ c)
def A4 {l:List Oper}{c b:SM}(h:U6 ops n.1 l m=some c) (d:lD (b.map (·.1)) c=some b):QF P ops C (λa=>Fr n a b) l n m:=O7 h (AV d)
end
section
variable {P:Program}{ops:Array Oper}{Q:Act→Prop}{n:FN}{m:SM}{rest:List Oper}{d:Nat}{ty:TypeId}{pos:String}{af:Array Edge}{X:Operand}{v:Value}{Ψ:Prop}{f:Nat}{xs:Array Operand}{tys:Array TypeId}{args vs:List Value}{first cap:Array Value}{h:BM}{B:World}{Z:(Nat→Prop)→BM→Prop}
def BU (i:Ca m X=some (.func (.func f) first cap)) (a:xs.toList.mapM (Ca m)=some args) (c:first.toList++args++cap.toList=vs) (g:CC P f=true) (hd:Nat.blt d n.1=true)
  (j:∀h',GD h h'→DK P f vs.toArray (λb=>b<h'.size) h' (λu S' l=>u=v∧Z S' l))
  (k:QF P ops (Cl B h) Q rest n ((d,v)::m)):QF P ops (Cl B h) Q (⟨some d,.call ⟨.value X,xs,tys⟩,ty,pos,af,none⟩::rest) n m:=
 I8 (Ψ:=True) i a c g hd (λh' o=>(j h' o).mono λ_ _ _ _ p=>⟨p.1,trivial⟩) λ_=>k
def DW (i:Ca m X=some (.func (.func f) first cap)) (a:xs.toList.mapM (Ca m)=some args) (c:first.toList++args++cap.toList=vs) (g:CC P f=true) (hd:Nat.blt d n.1=true)
  (j:∀h',GD h h'→DK P f vs.toArray (λb=>b<h'.size) h' (λu S' l=>u=v∧Ψ∧Z S' l))
  (k:Ψ→QF P ops (Cl B h) Q rest n ((d,v)::m)):QF P ops (Cl B h) Q (⟨some d,.call ⟨.value X,xs,tys⟩,ty,pos,af,none⟩::rest) n m:=
 I8 i a c g hd (λh' o=>(j h' o).mono λ_ _ _ _ p=>⟨p.1,p.2.1⟩) k
end
def iq {n:Int}(h:(decide (-9223372036854775808≤n)&&decide (n≤9223372036854775807))=true):AH n:=by
 simp only[qT,rJ] at h
 exact h
def KY {n:Nat}(h:n≤maxLen):AH (n:Int):=by unfold maxLen at h;unfold AH;omega
section
variable {P:Program}{fn:Func}{B:World}{S S':Nat→Prop}{h h':BM}{post:Value→(Nat→Prop)→BM→Prop}{a:Act}{m:SM}{w:World}
def Em {k t:Nat}{v:Value}(b:Fr (k,[]) a m) (c:Wd B h' w) (d:fn.results= #[.tmp t]) (g:lk m t=some v) (e:C9 S h S' h') (kp:post v S' h'):Rt P fn B S h post a w:=rt1 b d g c e kp
end
end Go.Proofs.YtblcgjadhemlbaaGreat
