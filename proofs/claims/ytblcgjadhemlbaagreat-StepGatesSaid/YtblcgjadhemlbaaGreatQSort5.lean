import Derived.Test.YtblcgjadhemlbaaGreatQSort4
import Derived.Test.YtblcgjadhemlbaaGreatQSortD
import Derived.Shelf.GgSortFunc.Tiny
namespace Go.Proofs.YtblcgjadhemlbaaGreat
open Go.Shelf Go.RowKit Go.Lib Go.Sort
set_option linter.unusedVariables false
set_option linter.unusedSimpArgs false
theorem N3 {lt:Int→Int→Bool}(hi:∀x,lt x x=false) (ht:∀x y z,lt x y=true→lt y z=true→lt x z=true) (hn:∀x y z,lt x y=false→lt y z=false→lt x z=false) (x:Int):∀l:List Int,l.Pairwise (λa b=>lt b a=false)→(SL lt x l).Pairwise λa b=>lt b a=false
 |[],_=>by simp [SL]
 |y::l,h=>by
  have hy:∀z,z∈l→lt z y=false:=λz hz=>List.rel_of_pairwise_cons h hz
  have hl:=h.of_cons
  unfold SL
  cases hc:lt y x with
  |true=>
   refine List.Pairwise.cons (λz hz=>?_) (N3 hi ht hn x l hl)
   rcases List.mem_cons.1 ((No lt x l).mem_iff.1 hz) with rfl|hz
   ·cases hq:lt z y with
    |false=>rfl
    |true=>have:=ht _ _ _ hc hq;rw[hi] at this;cases this
   ·exact hy z hz
  |false=>
   refine List.Pairwise.cons (λz hz=>?_) h
   rcases List.mem_cons.1 hz with rfl|hz
   ·exact hc
   ·exact hn _ _ _ (hy z hz) hc
theorem NE {lt:Int→Int→Bool}(hi:∀x,lt x x=false) (ht:∀x y z,lt x y=true→lt y z=true→lt x z=true) (hn:∀x y z,lt x y=false→lt y z=false→lt x z=false):∀l:List Int,(Oz lt l).Pairwise λa b=>lt b a=false
 |[]=> .nil
 |x::l=>N3 hi ht hn x _ (NE hi ht hn l)
theorem R9 (lr:List Int) (x:Int):RJ lr x x=false:=by simp [RJ,OF]
theorem aE (a b c:Int) (x y z:Nat) (h1:cond (!decide (a=b)) (decide (b<a)) (decide (x<y))=true) (h2:cond (!decide (b=c)) (decide (c<b)) (decide (y<z))=true):cond (!decide (a=c)) (decide (c<a)) (decide (x<z))=true:=by
 by_cases e1:a=b<;>by_cases e2:b=c<;>by_cases e3:a=c<;>simp_all<;>omega
theorem aF (a b c:Int) (x y z:Nat) (h1:cond (!decide (a=b)) (decide (b<a)) (decide (x<y))=false) (h2:cond (!decide (b=c)) (decide (c<b)) (decide (y<z))=false):cond (!decide (a=c)) (decide (c<a)) (decide (x<z))=false:=by
 by_cases e1:a=b<;>by_cases e2:b=c<;>by_cases e3:a=c<;>simp_all<;>omega
theorem Tl (lr:List Int) (x y z:Int) (h1:RJ lr x y=true) (h2:RJ lr y z=true):RJ lr x z=true:=aE _ _ _ _ _ _ h1 h2
theorem R8 (lr:List Int) (x y z:Int) (h1:RJ lr x y=false) (h2:RJ lr y z=false):RJ lr x z=false:=aF _ _ _ _ _ _ h1 h2
theorem QS (lr:List Int) {l l':List Int}(h0:∀x,x∈l→0≤x) (hp:l'.Perm l) (hs:l'.Pairwise λa b=>RJ lr b a=false):l'=Oz (RJ lr) l:=by
 refine List.Perm.eq_of_pairwise (le:=λx y=>RJ lr y x=false) (λa b ha hb h1 h2=>?_) hs (NE (R9 lr) (Tl lr) (R8 lr) l) (hp.trans (K6 _ l).symm)
 have e:=Tk _ _ _ h2 h1
 have a0:=h0 a (hp.mem_iff.1 ha)
 have b0:=h0 b ((K6 _ l).mem_iff.1 hb)
 omega
theorem QL {S:Nat→Prop}{h:Aq}:∀{l:List Int}{cs:List Value},Jw S h AN.int cs l→cs=l.map (Value.int .i64)∧∀x,x∈l→AI x
 |[],cs,k=>⟨k,λx hx=>by cases hx⟩
 |x::l,cs,⟨c1,c2,e,k1,k2⟩=>by
  have a:c1=[.int .i64 x]:=k1.1
  obtain⟨b1,b2⟩:=QL k2
  subst e;subst a;subst b1
  exact⟨rfl,λy hy=>by
   rcases List.mem_cons.1 hy with rfl|hy
   ·exact k1.2
   ·exact b2 y hy⟩
theorem RQ {S:Nat→Prop}{h:Aq}:∀{l:List Int},(∀x,x∈l→AI x)→Jw S h AN.int (l.map (Value.int .i64)) l
 |[],_=>rfl
 |x::l,k=>⟨[.int .i64 x],_,rfl,⟨rfl,k x (List.mem_cons_self ..)⟩,RQ λy hy=>k y (List.mem_cons_of_mem _ hy)⟩
theorem dB:Lib.swapperK 1 XT 2=2:=by
 have a:XT.hasPointers=false:=by kernel_rfl
 have b:XT.bytes=8:=by kernel_rfl
 simp [Lib.swapperK,a,b]
theorem PT {n:Nat}[NeZero n] (enc:Fin n→Value) (d:Array (Fin n)) (cur:Array Value) (hle:d.size≤cur.size):(putCells enc 0 d cur).toList.take d.size=d.toList.map enc:=by
 apply List.ext_getElem?
 intro i
 rw[List.getElem?_take]
 by_cases hi:i<d.size
 ·rw[if_pos hi,Array.getElem?_toList]
  have hc:i<cur.size:=by omega
  simp [putCells,hi,hc,getElem!_pos]
 ·rw[if_neg hi,List.getElem?_eq_none (by simpa using hi)]
theorem R7 {S:Nat→Prop}{L:List HP}{h:Aq}{b1 b2:Nat}{v v2:Value}{lo lr lo':List Int}(hs:St S (Bx b1 29 [v]::OS AN.int 3 v lo::Bx b2 29 [v2]::OS AN.int 3 v2 lr::L) h) (E:Om lo lr=some lo'):
  CG Tryz.prog 108 #[.iface 29 v,.func (.func 109) #[] #[.pointer (some ⟨b1,0,none⟩),.pointer (some ⟨b2,0,none⟩)]] S h (λr S' h'=>r= .tuple #[]∧St S' (Bx b1 29 [v]::OS AN.int 3 v lo'::Bx b2 29 [v2]::OS AN.int 3 v2 lr::L) h'):=by
 unfold Om at E
 split at E
 ·rename_i hc
  obtain⟨hl,h1,h64,hall⟩:=hc
  cases E
  intro B W hw
  have hrng:∀x,x∈lo→0≤x∧x<lo.length:=λx hx=>by simpa using List.all_eq_true.1 hall x hx
  obtain⟨F1,k1,s1,F2,k2,s2,F3,k3,s3,F4,k4,s4,_⟩:=hs.2
  rcases k2 with ⟨_,e0,_⟩|⟨g,cap,cur,e1,e2,e3,e4,e5,e6,e7⟩
  ·rw[e0] at h1;cases h1
  rcases k4 with ⟨_,e0,_⟩|⟨rb,rcap,rcur,f1,f2,f3,f4,f5,f6,f7⟩
  ·rw[hl,e0] at h1;cases h1
  subst e1;subst f1
  have hn:NeZero lo.length:=⟨by omega⟩
  obtain⟨r1,r2⟩:=QL e7
  obtain⟨q1,q2⟩:=QL f7
  have r1:cur.toList.take lo.length=lo.map (Value.int .i64):=by rw[←r1];congr 1;exact(Nat.mul_one _).symm
  have q1:rcur.toList.take lr.length=lr.map (Value.int .i64):=by rw[←q1];congr 1;exact(Nat.mul_one _).symm
  have e6:cur.size=cap:=by rw[e6];exact Nat.mul_one _
  have cell:∀(b:Nat) (cs:Array Value) (T:TypeId) (t:Nat),h[b]? =some (.cells cs T (0,0))→W.cell? ⟨b,t,none⟩=cs[t]? :=λb cs T t hb=>by
   rw[Ja,hw.heap];simp [Hb,hb]
  have n1:b1≠g:=λe=>(s2 g ((e2 g).2 rfl)).2 (by rw[k1.1 g];exact e.symm)
  have n2:b2≠g:=λe=>(s3 b2 ((k3.1 b2).2 rfl)).2 ((e2 b2).2 e)
  have n3:rb≠g:=λe=>(s4 rb ((f2 rb).2 rfl)).1.2 ((e2 rb).2 e)
  have lt:∀(b:Nat) o,h[b]? =some o→b<W.heap.size:=λb o hb=>by rw[hw.heap];exact(Array.getElem?_eq_some_iff.1 hb).1
  have hcur:∀t (ht:t<lo.length),cur[t]? =some (.int .i64 lo[t]):=λt ht=>by
   have:(cur.toList.take lo.length)[t]? =some (.int .i64 lo[t]):=by rw[r1];simp [ht]
   rw[List.getElem?_take_of_lt ht] at this
   simpa using this
  have hrc:∀t,t<lo.length→rcur[t]? =some (.int .i64 (lr.getD t 0)):=λt ht=>by
   have ht':t<lr.length:=by omega
   have:(rcur.toList.take lr.length)[t]? =some (.int .i64 (lr.getD t 0)):=by rw[q1];simp [ht',List.getD_eq_getElem?_getD]
   rw[List.getElem?_take_of_lt ht'] at this
   simpa using this
  by_cases hn2:2≤lo.length
  ·have hd:=λ(i:Fin lo.length)=>(hrng lo[i] (List.getElem_mem _))
   obtain⟨d,ds,hdl⟩:∃d:Array (Fin lo.length),d.size=lo.length∧d.toList.map (λk=>(k.val:Int))=lo:=by
    refine⟨Array.ofFn λi:Fin lo.length=>(⟨(lo[i]).toNat,by have:=hd i;omega⟩:Fin lo.length),by simp,?_⟩
    apply List.ext_getElem?
    intro i
    by_cases hi:i<lo.length
    ·have h9:=(hrng lo[i] (List.getElem_mem _)).1
     simp [hi]
     omega
    ·rw[List.getElem?_eq_none (by simpa using hi),List.getElem?_eq_none (by omega)]
   have hdt:∀t (ht:t<lo.length),((d[t]!).val:Int)=lo[t]:=λt ht=>by
    have a:(d.toList.map (λk=>(k.val:Int)))[t]? =some lo[t]:=by rw[hdl];simp [ht]
    have ht':t<d.size:=by omega
    rw[getElem!_pos d t ht']
    simpa [ht'] using a
   refine(RH b1 b2 g 0 cap lo.length rb 0 rcap W (λt=>lr.getD t 0) ((cell b1 _ _ 0 k1.2).trans rfl) ((cell b2 _ _ 0 k3.2).trans (by rw[hl];rfl)) d ds hn2 (by omega) (λj hj=>⟨?_,?_⟩) (λt ht=>?_) (lt g _ e3) (lt b1 _ k1.2) (lt b2 _ k3.2) (lt rb _ f3) n1 n2 n3).mono ?_
   ·rw[Nat.zero_add,cell g cur 3 j e3,hcur j (by omega)]
    show _=some (Value.int .i64 ((d[j]!).val:Int))
    rw[hdt j (by omega)]
   ·simp [World.frozen?,hw.heap,e3]
   ·rw[Nat.zero_add,cell rb rcur 3 t f3];exact hrc t ht
   rintro e w' ⟨rfl,d',q,os,hp,hso,rfl⟩
   have dsz:d'.size=lo.length:=hp.1.trans ds
   have hpl:(d'.toList.map (λk=>(k.val:Int))).Perm lo:=by
    have a:=hp.2.2
    have e1':d'.extract 0 d.size=d':=by rw[←hp.1];exact Array.extract_size
    rw[e1',Array.extract_size] at a
    have:=a.map (λk:Fin lo.length=>(k.val:Int))
    rwa [hdl] at this
   have hpw:(d'.toList.map (λk=>(k.val:Int))).Pairwise λa b=>RJ lr b a=false:=by
    rw[List.pairwise_map,List.pairwise_iff_getElem]
    intro i j hi hj hij
    have hi':i<d'.size:=by simpa using hi
    have hj':j<d'.size:=by simpa using hj
    have:=hso i j (Nat.zero_le _) hij (by omega)
    rw[getElem!_pos d' j hj',getElem!_pos d' i hi'] at this
    simpa [RJ] using this
   have hq:=QS lr (λx hx=>(hrng x hx).1) hpl hpw
   rw[←hq]
   have hg':=QG (λk:Fin lo.length=>Value.int .i64 (k.val:Int)) W q g d' os (cur:=cur) (T:=3) (fr:=(0,0)) (by rw[hw.heap];exact e3)
   have hup:=hs.upd (H':=OS AN.int 3 (.slice (some ⟨g,0,none⟩) lo.length cap) (d'.toList.map (λk=>(k.val:Int)))) (h':=(grow (putRow (λk:Fin lo.length=>Value.int .i64 (k.val:Int)) (Sort.ahead W q) g 0 d') os).heap) (.tail .head) (by have:=Oi (λk:Fin lo.length=>Value.int .i64 (k.val:Int)) W q g d' os;rw[hw.heap] at this;exact this) (λF m1 m2=>by
    rcases m1 with ⟨_,m1,_⟩|⟨g',cap',cur',m1,m3,_⟩
    ·rw[m1] at h1;cases h1
    ·injection m1 with z1 z2 z3
     injection z1 with z1
     injection z1 with z1
     subst z1
     refine⟨F,.inr ⟨g,cap,_,by simp [dsz],m3,hg',by simpa [dsz] using e4,e5,?_,?_⟩,λ_ hb=> .inl hb,λb hb hb'=>?_⟩
     ·simp only[putCells,Array.size_mapIdx];rw[e6];exact(Nat.mul_one _).symm
     ·have ht:=PT (λk:Fin lo.length=>Value.int .i64 (k.val:Int)) d' cur (by omega)
      rw[show (d'.toList.map (λk=>(k.val:Int))).length*AN.int.sz=d'.size from by simp;exact Nat.mul_one _,ht]
      have:d'.toList.map (λk:Fin lo.length=>Value.int .i64 (k.val:Int))=(d'.toList.map (λk=>(k.val:Int))).map (Value.int .i64):=by rw[List.map_map];rfl
      rw[this]
      exact RQ λx hx=>r2 x (hpl.mem_iff.1 hx)
     ·rw[QE _ W q g b d' os (by rw[hw.heap];exact hb) (λe=>hb' ((m3 b).2 e)),hw.heap])
   exact⟨_,S,_,rfl,⟨rfl,hw.os,hw.tape,hw.out⟩,hup.2,rfl,hup.1⟩
  ·have hn1:lo.length=1:=by omega
   obtain⟨x,rfl⟩:∃x,lo=[x]:=List.length_eq_one_iff.1 hn1
   have hT:=Any.sort_Slice_tiny (P:=Tryz.prog) { dZ with} 29 3 eA XT (by kernel_rfl) (by kernel_rfl) (by kernel_rfl) (by kernel_rfl) 2 (λ_=>by kernel_rfl) (some ⟨g,0,none⟩) 1 cap (Nat.le_refl _) 119 (by rw[dB];kernel_rfl) (.func 109) #[] #[.pointer (some ⟨b1,0,none⟩),.pointer (some ⟨b2,0,none⟩)] W
   change Calls Tryz.prog 108 _ _ _ at hT
   refine hT.mono ?_
   rintro e w' ⟨rfl,os,rfl⟩
   have ho:BA h (grow W os).heap:=⟨by show h.size≤(W.heap++os).size;rw[hw.heap];simp,λb hb=>by show(W.heap++os)[b]? =_;rw[hw.heap,Array.getElem?_append_left hb]⟩
   exact⟨_,S,_,rfl,⟨rfl,hw.os,hw.tape,hw.out⟩,ho.ext hs.1,rfl,ho.st hs⟩
 ·cases E
end Go.Proofs.YtblcgjadhemlbaaGreat
