import Derived.Test.YtblcgjadhemlbaaGreatVCore17
import Derived.Maps.RangeRun
namespace Go.Proofs.YtblcgjadhemlbaaGreat
set_option linter.all false
open Go.RowKit
def PU (L:List HP):HP where
 holds:=λS F h=>Sp S L h F
 loc:=λk s e=>Sp.ext k s e λ_ x=>x
def eC (l:Nat) (r:Loop):HP where
 holds:=λ_ F h=>(∀b,F b↔b=l)∧h[l]? =some (.loop r)
 loc:=λ⟨a,c⟩ _ e=>⟨a,(e l (.inr ((a l).2 rfl))).trans c⟩
def Sp.app {S:Nat→Prop}{h:BL}:∀{L1 L:List HP}{A:Nat→Prop},Sp S (L1++L) h A→∃F,Sp S L1 h F∧(∀b,F b→A b)∧Sp S L h (λb=>A b∧¬F b)
 |[],L,A,k=>⟨λ_=>False,trivial,λ_ x=>x.elim,k.mono λb a=>⟨a,λx=>x⟩⟩
 |H::L1,L,A,⟨F,d,g,i⟩=>by
  obtain⟨G,j,c,l⟩:=Sp.app i
  refine⟨λb=>F b∨G b,⟨F,d,λb a=> .inl a,j.mono λb a=>⟨.inr a,(c b a).2⟩⟩,λb a=>a.elim (g b) λx=>(c b x).1,l.mono λb a=>⟨a.1.1,λx=>x.elim a.1.2 a.2⟩⟩
def Sp.app2 {S:Nat→Prop}{h:BL}:∀{L1 L:List HP}{A F:Nat→Prop},Sp S L1 h F→(∀b,F b→A b)→Sp S L h (λb=>A b∧¬F b)→Sp S (L1++L) h A
 |[],L,A,F,_,_,k=>k.mono λb a=>a.1
 |H::L1,L,A,F,⟨G,d,c,g⟩,i,k=>⟨G,d,λb a=>i b (c b a),Sp.app2 g (λb a=>⟨i b a.1,a.2⟩) (k.mono λb a=>⟨⟨a.1,λx=>a.2 (c b x)⟩,λx=>a.2 x.1⟩)⟩
section
variable {S:Nat→Prop}{L L1 M:List HP}{h:BL}{H:HP}
def TY:∀{M:List HP},Nf (M++H::L) H (M++L)
 |[]=> .head
 |K::M=> .tail TY
def St.mid (a:St S (H::(M++L)) h):St S (M++H::L) h:=⟨a.1,L4 TY a.2⟩
def St.rec {l:Nat}{r r':Loop}(d:St S (eC l r::L) h):h[l]? =some (.loop r)∧St S (eC l r'::L) (h.setIfInBounds l (.loop r'))∧Cv S h S (h.setIfInBounds l (.loop r')):=by
 obtain⟨F,k,_⟩:=d.get (oB ..)
 have a:l<h.size:=(nS.1 k.2).1
 refine⟨k.2,d.upd (H':=eC l r') .head (by simp) λF g _=>⟨F,⟨g.1,by simp [a]⟩,λ_ c=> .inl c,λb _ c=>?_⟩⟩
 have:b≠l:=λe=>c ((g.1 b).2 e)
 simp [Array.getElem?_setIfInBounds_ne (Ne.symm this)]
end
def Wd.putObj {B w:World}{h:BL}(k:Wd B h w) (l:Nat) (o:Obj):Wd B (h.setIfInBounds l o) (w.putObj l o):=⟨by show w.heap.setIfInBounds l o=_;rw[k.heap],k.os,k.tape,k.out⟩
abbrev Sr (a:Type):=(Nat→Prop)→BL→List Value→a→Prop
def YC {j σ:Type}(P:Program) (g:Value) (Y:Bool→σ→HP) (AR:Sr j) (d:j→σ→Option (Bool×σ)) (i:Nat→Prop) (h0:BL):Prop:=
 ∃l,g= .func (.yield l) #[] #[]∧∀(x:j) (s:σ) (out:Bool×σ),d x s=some out→∀(S:Nat→Prop) (L:List HP) (h:BL) (vs:List Value) (B w:World),Cv i h0 S h→St S (Y true s::L) h→AR S h vs x→Wd B h w→
  ∃fn b a c,(Instr.yield l vs.toArray).run P w= .ok (.round l fn b a c) w∧
   RoundIn Fence.wide 0 P l fn b a c w (λe w'=>∃S' h',e= .returned (.bool out.1)∧Wd B h' w'∧Cv S h S' h'∧St S' (Y out.1 out.2::L) h')
def YC.mono {n σ:Type}{P:Program}{b:Value}{Y:Bool→σ→HP}{AR:Sr n}{a:n→σ→Option (Bool×σ)}{c d:Nat→Prop}{h0 g:BL}(k:YC P b Y AR a c h0) (e:Cv c h0 d g):YC P b Y AR a d g:=by
 obtain⟨l,i,k⟩:=k
 exact⟨l,i,λx s out j S L h vs B w m=>k x s out j S L h vs B w (e.trans m)⟩
def YL (P:Program) (ops:Array Oper) (Q:Exit→Act→World→Prop) (l:List Oper) (B:World) (h:BL) (n:FN) (m:SM):Prop:=∀a w,Fr n a m→Wd B h w→wpListIn (FF none) 0 P ops Q l a w
def U0 {P:Program}{l:Nat}{f:FuncId}{b:Array Value}{a d:Code}{w:World}{R:Ending→World→Prop}{g:Option Nat}{n i:Nat}(h:RoundIn Fence.wide n P l f b a d w R):RoundIn (FF g) i P l f b a d w R:=
 ⟨Nl g f,λc cs _=>by rw[NT];exact h.2 c cs (room_wide _)⟩
def Mx {P:Program}{ops:Array Oper}{Q:Exit→Act→World→Prop}{g:Option Nat}:∀(l:List Oper) (a:Act) (w:World),(g=none∨l.all WR=true)→wpListIn (FF none) 0 P ops Q l a w→wpListIn (FF g) 0 P ops Q l a w
 |[],_,_,_,h=>h
 |o::rest,a,w,i,h=>by
  have q:g=none∨WR o=true:=i.imp (λx=>x) λh=>by simp only[List.all_cons,mY] at h;exact h.1
  have j:g=none∨rest.all WR=true:=i.imp (λx=>x) λh=>by simp only[List.all_cons,mY] at h;exact h.2
  unfold wpListIn at h ⊢
  split
  ·rename_i n
   rw[nD n] at h
   refine⟨λf _=>Nl g f,?_⟩
   have b:=h.2
   have s:o.semAt (FF g).round a.eval=o.semAt (FF none).round a.eval:=by
    rw[Qg,Qg]
    cases g with
    |none=>rfl
    |some l=>exact Oper.semAt_some l _ _ λc t=>q.elim (λi=>by cases i) λi=>by unfold WR at i;rw[t] at i;cases i
   rw[s]
   generalize (o.semAt (FF none).round a.eval).run P w=r at b
   cases r with
   |ok u w'=>
    cases u<;>simp only[Oper.uponIn] at b ⊢
    case value v=>exact Mx rest _ _ j b
    case skip=>exact Mx rest _ _ j b
    case defer d=>exact Mx rest _ _ j b
    case enter f args=>exact⟨λhd=>(by rw[LS] at hd;cases hd),VX ((callsIn_wide.1 b.2).mono λe k m=>by cases e<;>first|exact Mx rest _ _ j m|exact m)⟩
    case row r args=>exact⟨λhd=>(by rw[LS] at hd;cases hd),λc cs _=>by
     obtain⟨v,k,y,p⟩:=b.2 c cs (Zt none _)
     exact⟨v,k,Mx rest _ _ j y,by rw[NT] at p ⊢;exact p⟩⟩
    case round l f tmps assign body=>exact⟨λhd=>(by rw[LS] at hd;cases hd),U0 (RoundIn.mono b.2 λe k m=>by cases e<;>first|exact Mx rest _ _ j m|exact m)⟩
   |halt x w'=>cases x<;>simp only[Oper.uponIn] at b ⊢;exact b
  ·rename_i n
   rw[nB n] at h
   exact⟨λf _=>Nl g f,Mx rest _ w j h.2⟩
section
variable {P:Program}{ex:List (Nat×AP)}{R N:AP}{cs:List Code}{B:World}{h:BL}{n:FN}{m m':SM}{S:Nat→Prop}{L:List HP}
def mO {l:List Oper}{id:Nat}(k:YL P l.toArray (Qx ex R (W P ex R cs N)) l B h n m):WF P ex R (.region id l.toArray false::cs) N B h n m:=λa w b c d hd=>
 wpIn_region_lit (Mx l a w (hd.imp (λx=>x) λh=>by simpa [U9] using h) (k a w b c))
end
section
variable {P:Program}{ops:Array Oper}{Q:Exit→Act→World→Prop}{n:FN}{m m':SM}{rest l:List Oper}{B:World}{h:BL}{S:Nat→Prop}{L:List HP}
def Nw (g:∀a w,¬Q .outgrown a w):∀(k:Nat) (l:List Oper) (a:Act) (w:World),wpList P ops (Exit.then (wpListIn (FF none) 0 P ops Q (l.drop k)) Q) (l.take k) a w→wpListIn (FF none) 0 P ops Q l a w
 |0,l,a,w,h=>by simpa [wpList,Exit.then] using h
 |k+1,[],a,w,h=>by simpa [wpList,Exit.then] using h
 |k+1,o::l,a,w,h=>by
  simp only[List.take_succ_cons,List.drop_succ_cons] at h
  unfold wpList at h
  unfold wpListIn
  split
  ·rename_i i
   rw[nD i] at h
   have b:=h.imp (Oper.wp_mono λa w p=>Nw g k l a w p) id
   refine cB (.inl rfl) g ?_
   rcases b with b|⟨_,j,m,h2⟩
   ·refine .inl ?_
    unfold Oper.wp at b ⊢
    generalize (execOp a.eval o).run P w=r at b
    cases r with
    |ok q w'=>
     cases q<;>simp only[Oper.upon] at b ⊢
     case value v=>exact b
     case skip=>exact b
     case defer d=>exact b
     case enter f args=>
      refine b.mono λe s n=>?_
      cases e with
      |returned v=>exact n
      |panicked c=>exact n
      |outgrown=>obtain⟨j,m,h0⟩:=n;exact⟨j,m,h0⟩
     case row r args=>exact b
    |halt x w'=>cases x<;>simp only[Oper.upon] at b ⊢;exact b
   ·exact absurd h2 (g j m)
  ·rename_i i
   rw[nB i] at h
   exact⟨λf _=>Nl none f,Nw g k l _ w h⟩
def mQ {C:World→Prop}(k:YL P ops Q l B h n m):QF P ops C (λa=>∀w,Wd B h w→wpListIn (FF none) 0 P ops Q l a w) [] n m:=λa b w c=>k a w b c
def mN (j:Nat) (b:∀a w,¬Q .outgrown a w) (k:LF P ops (Exit.then (wpListIn (FF none) 0 P ops Q (l.drop j)) Q) (l.take j) B h n m):YL P ops Q l B h n m:=λa w c d=>Nw b j l a w (k a w c d)
def mS (k:YL P ops Q l B h n m):LF P ops (Exit.then (wpListIn (FF none) 0 P ops Q l) Q) [] B h n m:=λa w b c=>k a w b c
def YL.nil {ex:List (Nat×AP)}{R N:AP}{cs:List Code}(b:Rf m m') (k:WF P ex R cs N B h n m'):YL P ops (Qx ex R (W P ex R cs N)) [] B h n m:=λa w c d=>k a w (c.sub b) d
def YL.gy {o:Oper}{j e:Nat}{b:Bool}(g:o.guard=some (j,b)) (i:(ops[j]?).bind (·.dst)=some e) (l:lk m e=some (.bool b)) (k:YL P ops Q ({ o with guard:=none}::rest) B h n m):YL P ops Q (o::rest) B h n m:=by
 intro a w d p
 have q:Region.wanted o (yielded ops a.tmps)=true:=by
  have:=d.at_ e _ l
  simp [Region.wanted,g,yielded,i,this]
 have c:=k a w d p
 unfold wpListIn at c ⊢
 rw[nD (by simp [Region.wanted])] at c
 rw[nD q]
 exact c
def YL.gn {o:Oper}{j e d:Nat}{b:Bool}(g:o.guard=some (j,!b)) (i:(ops[j]?).bind (·.dst)=some e) (l:lk m e=some (.bool b)) (p:o.dst=some d) (hd:Nat.blt d n.1=true) (k:YL P ops Q rest B h n ((d,undef)::m)):YL P ops Q (o::rest) B h n m:=by
 intro a w c q
 have s:Region.wanted o (yielded ops a.tmps)=false:=by
  have:=c.at_ e _ l
  cases b<;>simp [Region.wanted,g,yielded,i,this]
 unfold wpListIn
 rw[nB (by rw[s];exact Bool.false_ne_true),p]
 exact⟨λf _=>Nl none f,k _ w (c.put hd _) q⟩
def lT {α σ:Type}{A:Value}{Y:Bool→σ→HP}{AR:Sr α}{i:α→σ→Option (Bool×σ)}{C:Nat→Prop}{h0:BL}{X:Operand}{xs:Array Operand}{b:Array TypeId}{vs:List Value}{d:Nat}{ty:TypeId}{c:String}{q:Array Edge}{x:α}{s:σ}{out:Bool×σ}
  (t:YC P A Y AR i C h0) (D:CQ m X=some A) (u:xs.toList.mapM (CQ m)=some vs) (F:i x s=some out) (G:Cv C h0 S h) (H:St S (Y true s::L) h) (I:AR S h vs x) (hd:Nat.blt d n.1=true)
  (k:∀S' h',Cv S h S' h'→St S' (Y out.1 out.2::L) h'→YL P ops Q rest B h' n ((d,.bool out.1)::m)):YL P ops Q (⟨some d,.call ⟨.value X,xs,b⟩,ty,c,q,none⟩::rest) B h n m:=by
 intro a w v J
 obtain⟨l,rfl,t⟩:=t
 obtain⟨fn,j,g,o,K,M⟩:=t x s out F S L h vs B w G H I J
 unfold wpListIn
 rw[nD (by simp [Region.wanted])]
 refine⟨λf _=>Nl none f,?_⟩
 have p:(execOp a.eval ⟨some d,.call ⟨.value X,xs,b⟩,ty,c,q,none⟩).run P w= .ok (.round l fn j g o) w:=by
  have U:=v.eval D
  have V:=VU v u
  simp [execOp,resolve,Deferred.ofValue,invoke,U,V,K]
 have z:(⟨some d,.call ⟨.value X,xs,b⟩,ty,c,q,none⟩:Oper).semAt (FF none).round a.eval=execOp a.eval ⟨some d,.call ⟨.value X,xs,b⟩,ty,c,q,none⟩:=rfl
 rw[z,p]
 refine⟨λhd=>(by rw[LS] at hd;cases hd),U0 (RoundIn.mono M λe w' W=>?_)⟩
 obtain⟨S',h',rfl,Z,r2,r3⟩:=W
 exact k S' h' r2 r3 _ w' (v.put hd _) Z
end
section
variable {P:Program}{ex:List (Nat×AP)}{R N:AP}{cs:List Code}{B:World}{h:BL}{k:Nat}{Ds:List Nat}{m:SM}{S:Nat→Prop}{L:List HP}
end
section
variable {S:Nat→Prop}{L:List HP}{h:BL}
end
section
variable {P:Program}{ops:Array Oper}{Q:Exit→Act→World→Prop}{n:FN}{m m':SM}{rest l:List Oper}{B:World}{h:BL}{S:Nat→Prop}{L:List HP}
def mM {A σ:Type}{k:Value}{Y:Bool→σ→HP}{AR:Sr A}{b:A→σ→Option (Bool×σ)}{l:Nat→Prop}{h0:BL}{X:Operand}{xs:Array Operand}{g:Array TypeId}{vs:List Value}{d:Nat}{ty:TypeId}{i:String}{o:Array Edge}{x:A}{s:σ}{out:Bool×σ}
  (p:YC P k Y AR b l h0) (q:CQ m X=some k) (j:xs.toList.mapM (CQ m)=some vs) (t:b x s=some out) (u:Cv l h0 S h) (a:St S (Y true s::L) h) (v:AR S h vs x) (hd:Nat.blt d n.1=true)
  (w:out.1=true→∀S' h',Cv S h S' h'→St S' (Y true out.2::L) h'→YL P ops Q rest B h' n ((d,.bool true)::m))
  (z:out.1=false→∀S' h',Cv S h S' h'→St S' (Y false out.2::L) h'→YL P ops Q rest B h' n ((d,.bool false)::m)):YL P ops Q (⟨some d,.call ⟨.value X,xs,g⟩,ty,i,o,none⟩::rest) B h n m:=
 lT p q j t u a v hd λS' h' e a=>by
  cases c:out.1 with
  |true=>rw[c] at a;exact w c S' h' e a
  |false=>rw[c] at a;exact z c S' h' e a
end
section
variable {P:Program}{fn:Func}{B:World}{S S':Nat→Prop}{h h':BL}{post:Value→(Nat→Prop)→BL→Prop}{a:Act}{m:SM}{w:World}{L:List HP}
end
end Go.Proofs.YtblcgjadhemlbaaGreat
namespace Go.Proofs.YtblcgjadhemlbaaGreat
set_option linter.all false
open Go.RowKit
def gJ:List Nat→SM→Option SM
 |[],_=>some []
 |k::a,m=>match lk m k with
  |some v=>match gJ a m with
   |some r=>some ((k,v)::r)
   |none=>none
  |none=>none
def kp:∀{m a:SM}(b:List Nat),gJ b m=some a→Rf m a
 |m,a,[],g=>by cases g;trivial
 |m,a,k::b,g=>by
  simp only[gJ] at g
  split at g
  ·rename_i v c
   split at g
   ·rename_i r d
    cases g
    exact⟨c,kp b d⟩
   ·cases g
  ·cases g
def WO {c:Type}(S:Nat→Prop) (d:BL) (r:BW c) (T:TypeId) (l:List c) (v:Value) (a:BL):Prop:=∃g cap,v= .slice (some ⟨g,0,none⟩) l.length cap∧d.size≤g∧g<a.size∧(OS r T v l).holds S (λb=>b=g) a
def WO.mono {q:Type}{S:Nat→Prop}{s a c:BL}{r:BW q}{T:TypeId}{l:List q}{v:Value}(k:WO S s r T l v a) (i:∀b,S b→b<s.size) (o:Fp a c):WO S s r T l v c:=by
 obtain⟨g,cap,j,m,d,n⟩:=k
 exact⟨g,cap,j,m,nH d o.siz,HP.loc _ n (λ_ x=>x) λb p=>o.same b (p.elim (λx=>by have:=i b x;omega) λx=>by subst x;exact d)⟩
def Zm {d:Type}{S:Nat→Prop}{i:BL}{r:BW d}{T:TypeId}{l:List d}:Qz (WO S i r T l):=λv c ⟨g,_,a,_,b,_⟩=>⟨g,by rw[a];rfl,b⟩
def M8 {b:Type}{R:AR}{S:Nat→Prop}{c:BL}{r:BW b}{a T:Nat}{l:List b}{is:List Nat}(e:R a=WO S c r T l) (t:∀i,i∈is→Qz (R i)):∀i,i∈a::is→Qz (R i):=T0 (by rw[e];exact Zm) t
def L6 {u:Type}{S:Nat→Prop}{L:List HP}{w d:BL}{i:List Nat}{r:BW u}{g T:Nat}{v:Value}{l:List u}(k:T5 S w d i L) (j:w.size≤g) (m:g<d.size) (n:(OS r T v l).holds S (λb=>b=g) d) (o:g∉i):T5 S w d (g::i) (OS r T v l::L):=by
 obtain⟨p,q,s,t⟩:=k
 refine⟨p,q,λc a=>?_,λc=>c=g,n,λc a=>by subst a;exact .inr (oB ..),t.mono λc a=>⟨a.imp_right (oI _),λe=>?_⟩⟩
 ·rcases nM.1 a with rfl|a
  ·exact⟨j,m⟩
  ·exact s c a
 ·subst e
  rcases a with a|a
  ·have:=a.1;omega
  ·exact o a
def QY {α:Type}{P:Program}{q:Array Oper}{Q:Exit→Act→World→Prop}{n:FN}{m:SM}{p:List Oper}{d:Nat}{ty:TypeId}{s:String}{Y:Array Edge}{B:World}{S:Nat→Prop}{h0 h:BL}{r:BW α}{T e sz g:Nat}{z:List Value}{zx:α}{len cap:Int}{Z kc:IntKind}{U V:Operand}(he:Na P T=some (e,sz,g,z)) (t:r.sz=sz) (hz:r.rd S h z zx)
  (hx:CQ m U=some (.int Z len)) (hy:CQ m V=some (.int kc cap)) (u:Jh len cap g=true) (y:Nat.blt 0 g=true) (hd:Nat.blt d n.1=true) (o:Fp h0 h) (hS:∀b,S b→b<h0.size)
  (k:∀v h',Fp h h'→WO S h0 r e (List.replicate len.toNat zx) v h'→Rh h v→LF P q Q p B h' n ((d,v)::m)):LF P q Q (⟨some d,.makeSlice T U V,ty,s,Y,none⟩::p) B h n m:=by
 simp only[Jh,mY,nR] at u
 obtain⟨⟨aa,ab⟩,I⟩:=u
 obtain⟨a,rfl⟩:∃a:Nat,len=a:=⟨len.toNat,by omega⟩
 obtain⟨c,rfl⟩:∃c:Nat,cap=c:=⟨cap.toNat,by omega⟩
 have ad:((g*c:Nat):Int)≤140737488355328:=by rw[Int.natCast_mul];exact I
 have J:1≤g:=by simpa [Nat.blt] using y
 have ae:c≤g*c:=Nat.le_mul_of_pos_left _ J
 have A:a≤c:=by omega
 have C:c≤maxLen:=by unfold maxLen;omega
 intro ac w M hw
 refine wpList_plain rfl λK hK=>?_
 unfold Oper.wp
 obtain⟨i,zv,h1,h2,h3,h4,h5,h6,h7,h8⟩:=Kh he
 have D:=run_make (P:=P) w T e i zv h1 h2 h3 Z kc (a:Int) (c:Int) (by omega) (by omega) (by rw[h5];omega) (by unfold maxLen at C;omega)
 simp only[oW,h6,h4] at D
 have F:(execOp ac.eval ⟨some d,.makeSlice T U V,ty,s,Y,none⟩).run P w= .ok (.value (.slice (some ⟨w.heap.size,0,none⟩) a c)) (w.alloc (.cells (madeCells z.toArray (c*sz)) e)):=by
  simp [execOp,M.eval hx,M.eval hy,D]
 rw[F]
 have W:∀b,S b→b<h.size:=λb G=>nH (hS b G) o.siz
 have l:(madeCells z.toArray (c*sz)).toList=(List.replicate c z).flatten:=by rw[←h7];exact LE z c (by omega)
 have X:(OS r e (.slice (some ⟨h.size,0,none⟩) a c) (List.replicate a zx)).holds S (λb=>b=h.size) (h.push (.cells (madeCells z.toArray (c*sz)) e)):=by
  refine .inr ⟨h.size,c,madeCells z.toArray (c*sz),by simp,λ_=>Iff.rfl,LD _ _,by simpa using A,C,by rw[size_madeCells,t],?_⟩
  rw[l]
  have:((List.replicate c z).flatten).take ((List.replicate a zx).length*r.sz)=(List.replicate a z).flatten:=by
   obtain⟨j,rfl⟩:=Nat.exists_eq_add_of_le A
   rw[←List.replicate_append_replicate,List.flatten_append,List.length_replicate,t,←h7]
   have:(List.replicate a z).flatten.length=a*z.length:=by simp
   rw[←this,List.take_left]
  rw[this]
  exact(PB hz a).mono (λ_ x=>x) λb G=>IL _ _ _ (W b G)
 have H:=hw.heap
 have:=k (.slice (some ⟨w.heap.size,0,none⟩) a c) (h.push (.cells (madeCells z.toArray (c*sz)) e)) ⟨by simp,λb G=>IL _ _ _ G⟩ (by rw[H];exact⟨h.size,c,by simp,o.siz,by simp,by simpa using X⟩) ⟨h.size,by rw[H];rfl,nJ _⟩
 exact hK _ _ (this _ _ (M.put hd _) (hw.alloc _))
def kM:Sr Int:=λ_ _ vs x=>vs=[.int .i64 x]∧AH x
def Yh {a:Type}(r:BW a):Sr (Int×List a):=λS b vs x=>∃v,vs=[.int .i64 x.1,v]∧AH x.1∧Sl S b r v x.2
def kM.len {S:Nat→Prop}{a:BL}{vs:List Value}{x:Int}(k:kM S a vs x):vs.length=1:=by rw[k.1];rfl
def kM.mono {S S':Nat→Prop}{a h':BL}{vs:List Value}{x:Int}(k:kM S a vs x) (_:Cv S a S' h'):kM S' h' vs x:=k
def Yh.len {a:Type}{r:BW a}{S:Nat→Prop}{b:BL}{vs:List Value}{x:Int×List a}(k:Yh r S b vs x):vs.length=2:=by obtain⟨v,e,_⟩:=k;rw[e];rfl
def Yh.mono {d:Type}{r:BW d}{S S':Nat→Prop}{g h':BL}{vs:List Value}{x:Int×List d}(k:Yh r S g vs x) (e:Cv S g S' h'):Yh r S' h' vs x:=by obtain⟨v,a,b,c⟩:=k;exact⟨v,a,b,c.mono' e⟩
end Go.Proofs.YtblcgjadhemlbaaGreat
namespace Go.Proofs.YtblcgjadhemlbaaGreat
set_option linter.all false
open Go.RowKit
open Go.ChangeMaps (setBlock)
section
variable {P:Program}{ops:Array Oper}{Q:Exit→Act→World→Prop}{n:FN}{m:SM}{rest:List Oper}
variable {d:Nat}{ty:TypeId}{pos:String}{af:Array Edge}{X:Operand}{B:World}{h:BL}{S:Nat→Prop}{L:List HP}{t kt et:TypeId}{b r:Nat}
variable {κ β:Type}{kv:κ→Value}{vv:β→Value}{l rem:List (κ×β)}
end
end Go.Proofs.YtblcgjadhemlbaaGreat
namespace Go.Proofs.YtblcgjadhemlbaaGreat
set_option linter.all false
open Go.RowKit
def Yx:List Nat→Nat→List HP→Option (List HP)
 |[],m,L=>some (L.drop m)
 |i::is,m,L=>match L[i]? with
  |some H=>match Yx is m (L.eraseIdx i) with
   |some r=>some (H::r)
   |none=>none
  |none=>none
def U5:∀{L:List HP}{i:Nat}{H:HP},L[i]? =some H→Nf L H (L.eraseIdx i)
 |[],i,H,h=>by simp at h
 |K::L,0,H,h=>by
  simp only[pW,oH] at h
  subst h
  exact .head
 |K::L,i+1,H,h=>by
  simp only[pP] at h
  exact .tail (U5 h)
def Sp.dropn {S:Nat→Prop}{h:BL}:∀(m:Nat) {L:List HP}{A:Nat→Prop},Sp S L h A→Sp S (L.drop m) h A
 |0,L,A,k=>k
 |m+1,[],A,k=>k
 |m+1,H::L,A,⟨F,_,_,k⟩=>Sp.dropn m (k.mono λb a=>a.1)
def Sp.sel {S:Nat→Prop}{h:BL}:∀(is:List Nat) {m:Nat}{L a:List HP}{A:Nat→Prop},Yx is m L=some a→Sp S L h A→Sp S a h A
 |[],m,L,a,A,e,k=>by cases e;exact k.dropn m
 |i::is,m,L,a,A,e,k=>by
  simp only[Yx] at e
  split at e
  ·rename_i H b
   split at e
   ·rename_i r c
    cases e
    obtain⟨F,d,g,j⟩:=Sp.pick (U5 b) k
    exact⟨F,d,g,Sp.sel is c j⟩
   ·cases e
  ·cases e
def St.sel {S:Nat→Prop}{h:BL}{L a:List HP}(b:St S L h) (is:List Nat) (m:Nat) (e:Yx is m L=some a):St S a h:=⟨b.1,Sp.sel is e b.2⟩
abbrev IV (B:World) (S:Nat→Prop) (h:BL) (n:FN) (a:Act) (w:World) (m:SM) (L:List HP) (F:(Nat→Prop)→BL→Prop):Prop:=∃(S':Nat→Prop) (h':BL),Fr n a m∧Wd B h' w∧St S' L h'∧Cv S h S' h'∧F S' h'
def U7 {vs:List Value}(h:vs.all (·.oneCell')=true):∀u∈vs,u.oneCell'=true:=λu a=>nC.1 h u a
section
variable {P:Program}{ops:Array Oper}{Q:Exit→Act→World→Prop}{n:FN}{m:SM}{rest:List Oper}
variable {d:Nat}{ty:TypeId}{pos:String}{af:Array Edge}{X Y:Operand}{B:World}{h:BL}{S:Nat→Prop}{L L2:List HP}{v:Value}
def Il {T d:TypeId}{b o:Nat}{cs vs cs':List Value}{sz:Nat}{ag:Bool}(g:CQ m X=some (.pointer (some ⟨b,o,none⟩))) (i:CQ m Y=some v) (j:v.cells=vs.toArray) (l:vs.all (·.oneCell')=true)
  (p:Iz P T sz ag=true) (c:vs.length=sz) (q:St S L h) (r:Ll L (Bx b d cs) (Bx b d cs') L2) (a:Nat.ble (o+sz) cs.length=true) (s:IH cs o vs=cs')
  (k:∀h',St S L2 h'→Cv S h S h'→LF P ops Q rest B h' n m):LF P ops Q (⟨none,.store T X Y,ty,pos,af,none⟩::rest) B h n m:=IA g i j (U7 l) p c q r a s k
def EW {T c:TypeId}{b:Nat}{cs vs:List Value}{sz:Nat}{ag:Bool}(d:CQ m X=some (.pointer (some ⟨b,0,none⟩))) (g:CQ m Y=some v) (i:v.cells=vs.toArray) (j:vs.all (·.oneCell')=true)
  (l:Iz P T sz ag=true) (a:Nat.beq vs.length sz=true) (o:St S L h) (r:Ll L (Bx b c cs) (Bx b c vs) L2) (p:Nat.beq cs.length sz=true)
  (k:∀h',St S L2 h'→Cv S h S h'→LF P ops Q rest B h' n m):LF P ops Q (⟨none,.store T X Y,ty,pos,af,none⟩::rest) B h n m:=by
 have q:=nI a
 have s:=nI p
 refine IA d g i (U7 j) l q o r (by simp [s]) ?_ k
 unfold IH
 rw[pX (by omega)]
 simp
end
section
variable {P:Program}{ops:Array Oper}{C:World→Prop}{Q:Act→Prop}{n:FN}{m:SM}{rest:List Oper}{v:Value}
variable {d:Nat}{ty:TypeId}{pos:String}{af:Array Edge}{X Y:Operand}{h:BL}{S:Nat→Prop}{L:List HP}{t:TypeId}
def AS {T b o:Nat}{cs:List Value}(g:CK C h) (i:St S L h) (j:CQ m X=some (.pointer (some ⟨b,o,none⟩))) (l:Bx b T cs∈L) (c:cs[o]? =some v) (p:Iz P t 1 false=true) (hd:Nat.blt d n.1=true)
  (k:QF P ops C Q rest n ((d,v)::m)):QF P ops C Q (⟨some d,.load t X,ty,pos,af,none⟩::rest) n m:=by
 have e:(cs.drop o).take 1=[v]:=by
  have a:=(nK.1 c).1
  have q:=(nK.1 c).2
  rw[qY a,q]
  simp
 exact EH (vs:=[v]) g i j l e rfl p rfl hd k
def dV {o:Oper}{j e:Nat}{b:Bool}{u:Value}(p:o.guard=some (j,b)) (q:(ops[j]?).bind (·.dst)=some e) (g:lk m e=some u) (s:yb u≠some b) (i:o.dst=some d) (hd:Nat.blt d n.1=true) (k:QF P ops C Q rest n ((d,undef)::m)):QF P ops C Q (o::rest) n m:=by
 intro a c
 have l:Region.wanted o (yielded ops a.tmps)=false:=by
  have:=c.at_ e _ g
  cases u<;>simp_all [Region.wanted,yielded,yb]
 unfold wpQuiet
 rw[nB (by rw[l];exact Bool.false_ne_true),i]
 exact k _ (c.put hd _)
def gG (a:Op) (m:SM):Option Value:=
 match a with
 | .pick c x y=>match CQ m c with
  |some (.bool true)=>CQ m x
  |some (.bool false)=>CQ m y
  |_=>none
 |_=>none
def UG (ops:Array Oper) (k:Nat):List Oper→SM→Option SM
 |[],m=>some m
 |o::r,m=>match o.guard,o.dst with
  |some (j,b),some d=>match (ops[j]?).bind (·.dst) with
   |some e=>match lk m e with
    |some u=>match yb u,b with
     |some true,true=>match gG o.op m with
      |some v=>cond (Nat.blt d k) (UG ops k r ((d,v)::m)) none
      |none=>none
     |some false,false=>match gG o.op m with
      |some v=>cond (Nat.blt d k) (UG ops k r ((d,v)::m)) none
      |none=>none
     |_,_=>cond (Nat.blt d k) (UG ops k r ((d,undef)::m)) none
    |none=>none
   |none=>none
  |none,some d=>match gG o.op m with
   |some v=>cond (Nat.blt d k) (UG ops k r ((d,v)::m)) none
   |none=>none
  |_,none=>none
def NP {a:Type}{c:Bool}{x:Option a}{y:a}(h:cond c x none=some y):c=true∧x=some y:=by cases c<;>simp_all
def Uo {u:Value}{b:Bool}(h:yb u=some b):u= .bool b:=by
 cases u<;>simp_all [yb]
def Uf {o:Oper}{d:Nat}{v:Value}(c:o.guard=none) (hd:o.dst=some d) (a:gG o.op m=some v) (g:Nat.blt d n.1=true) (k:QF P ops C Q rest n ((d,v)::m)):QF P ops C Q (o::rest) n m:=by
 obtain⟨j,l,p,i,q,s⟩:=o
 simp only at c hd a
 subst c hd
 unfold gG at a
 split at a
 ·split at a
  ·rename_i b;exact Sg b a g k
  ·rename_i b;exact Sg b a g k
  ·cases a
 ·cases a
def Oa:∀{l:List Oper}{m p:SM},UG ops n.1 l m=some p→QF P ops C Q [] n p→QF P ops C Q l n m
 |[],m,p,h,k=>by cases h;exact k
 |o::r,m,p,h,k=>by
  simp only[UG] at h
  split at h
  ·rename_i j b d g hd
   split at h
   ·rename_i e s
    split at h
    ·rename_i u t
     split at h
     ·rename_i w
      split at h
      ·rename_i v i
       obtain⟨a,c⟩:=NP h
       have:=Uo w
       subst this
       exact Yb g s t (Uf rfl hd i a (Oa c k))
      ·cases h
     ·rename_i w
      split at h
      ·rename_i v i
       obtain⟨a,c⟩:=NP h
       have:=Uo w
       subst this
       exact Yb g s t (Uf rfl hd i a (Oa c k))
      ·cases h
     ·rename_i x y
      obtain⟨a,c⟩:=NP h
      refine dV g s t (λz=>?_) hd a (Oa c k)
      generalize A:yb u=zz at*
      subst z
      revert x y
      intro x y
      exact Bool.rec (motive:=λq=>(some q=some true→q=true→False)→(some q=some false→q=false→False)→False) (λ_ h=>h rfl rfl) (λh _=>h rfl rfl) _ x y
    ·cases h
   ·cases h
  ·rename_i d g hd
   split at h
   ·rename_i v i
    obtain⟨a,c⟩:=NP h
    exact Uf g hd i a (Oa c k)
   ·cases h
  ·cases h
def AV {b:SM}(c:gJ (b.map (·.1)) m=some b):QF P ops C (λa=>Fr n a b) [] n m:=Zi (kp _ c)
def A3 {l:List Oper}{c b:SM}(h:UG ops n.1 l m=some c) (d:gJ (b.map (·.1)) c=some b):QF P ops C (λa=>Fr n a b) l n m:=Oa h (AV d)
end
section
variable {P:Program}{ops:Array Oper}{Q:Act→Prop}{n:FN}{m:SM}{rest:List Oper}{d:Nat}{ty:TypeId}{pos:String}{af:Array Edge}{X:Operand}{v:Value}{Ψ:Prop}{f:Nat}{xs:Array Operand}{tys:Array TypeId}{args vs:List Value}{first cap:Array Value}{h:BL}{B:World}{Z:(Nat→Prop)→BL→Prop}
def BR (i:CQ m X=some (.func (.func f) first cap)) (a:xs.toList.mapM (CQ m)=some args) (c:first.toList++args++cap.toList=vs) (g:CB P f=true) (hd:Nat.blt d n.1=true)
  (j:∀h',Fp h h'→C5 P f vs.toArray (λb=>b<h'.size) h' (λu S' l=>u=v∧Z S' l))
  (k:QF P ops (Cl B h) Q rest n ((d,v)::m)):QF P ops (Cl B h) Q (⟨some d,.call ⟨.value X,xs,tys⟩,ty,pos,af,none⟩::rest) n m:=
 It (Ψ:=True) i a c g hd (λh' o=>(j h' o).mono λ_ _ _ _ p=>⟨p.1,trivial⟩) λ_=>k
def DF (i:CQ m X=some (.func (.func f) first cap)) (a:xs.toList.mapM (CQ m)=some args) (c:first.toList++args++cap.toList=vs) (g:CB P f=true) (hd:Nat.blt d n.1=true)
  (j:∀h',Fp h h'→C5 P f vs.toArray (λb=>b<h'.size) h' (λu S' l=>u=v∧Ψ∧Z S' l))
  (k:Ψ→QF P ops (Cl B h) Q rest n ((d,v)::m)):QF P ops (Cl B h) Q (⟨some d,.call ⟨.value X,xs,tys⟩,ty,pos,af,none⟩::rest) n m:=
 It i a c g hd (λh' o=>(j h' o).mono λ_ _ _ _ p=>⟨p.1,p.2.1⟩) k
end
def iq {n:Int}(h:(decide (-9223372036854775808≤n)&&decide (n≤9223372036854775807))=true):AH n:=by
 simp only[mY,nR] at h
 exact h
def J9 {n:Nat}(h:n≤maxLen):AH (n:Int):=by unfold maxLen at h;unfold AH;omega
section
variable {P:Program}{fn:Func}{B:World}{S S':Nat→Prop}{h h':BL}{post:Value→(Nat→Prop)→BL→Prop}{a:Act}{m:SM}{w:World}
def Ee {k t:Nat}{v:Value}(b:Fr (k,[]) a m) (c:Wd B h' w) (d:fn.results= #[.tmp t]) (g:lk m t=some v) (e:Cv S h S' h') (kp:post v S' h'):Rt P fn B S h post a w:=rt1 b d g c e kp
end
end Go.Proofs.YtblcgjadhemlbaaGreat
