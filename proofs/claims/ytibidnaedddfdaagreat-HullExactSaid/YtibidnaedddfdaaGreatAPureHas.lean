import Derived.Test.YtibidnaedddfdaaGreatAPureOf
namespace Go.Proofs.YtibidnaedddfdaaGreat
open Go.RowKit
set_option linter.unusedVariables false
set_option linter.unusedSimpArgs false
abbrev kK (k:AM):Value:=Value.agg (AM.v k).toArray
theorem Xn (k k':AM):IK (kK k) (kK k')=true↔k=k':=by
 obtain⟨a,t⟩:=k
 obtain⟨a',t'⟩:=k'
 simp [IK,MX,Ry]
instance:DecidableEq AM:=λa b=>decidable_of_iff (IK (kK a) (kK b)=true) (Xn a b)
section
variable {β:Type}
theorem Ig (k1:AM) (y:β) (r:List (AM×β)) (k:AM):HR kK ((k1,y)::r) k=if k=k1 then some y else HR kK r k:=by
 unfold HR
 rw[List.find?_cons]
 by_cases h:k=k1
 ·rw[if_pos h,show IK (kK k) (kK (k1,y).1)=true from(Xn _ _).2 h];rfl
 ·rw[if_neg h]
  cases hb:IK (kK k) (kK (k1,y).1) with
  |true=>exact absurd ((Xn _ _).1 hb) h
  |false=>rfl
theorem OM (k1:AM) (y:β) (r:List (AM×β)) (k:AM) (x:β):IH kK ((k1,y)::r) k x=if k=k1 then (k,x)::r else (k1,y)::IH kK r k x:=by
 by_cases h:k=k1
 ·rw[if_pos h,IH,if_pos ((Xn _ _).2 h)]
 ·rw[if_neg h,IH,if_neg λhb=>h ((Xn _ _).1 hb)]
theorem Mm:∀(m:List (AM×β)) (k:AM) (x:β) (k':AM),HR kK (IH kK m k x) k'=if k'=k then some x else HR kK m k'
 |[],k,x,k'=>by unfold IH;rw[Ig]
 |(k1,y)::r,k,x,k'=>by
  rw[OM]
  by_cases h:k=k1
  ·subst h
   rw[if_pos rfl,Ig,Ig]
   split<;>rfl
  ·rw[if_neg h,Ig,Mm r k x k',Ig]
   by_cases h1:k'=k1
   ·rw[if_pos h1,if_pos h1,if_neg λe=>h (e.symm.trans h1)]
   ·rw[if_neg h1,if_neg h1]
theorem Ml:∀(m:List (AM×β)) (k:AM) (x:β),(IH kK m k x).map (·.1)=if k∈m.map (·.1) then m.map (·.1) else m.map (·.1)++[k]
 |[],k,x=>by simp [IH]
 |(k1,y)::r,k,x=>by
  rw[OM]
  by_cases h:k=k1
  ·subst h;simp
  ·rw[if_neg h,List.map_cons,Ml r k x]
   by_cases h2:k∈r.map (·.1)
   ·have h3:k∈((k1,y)::r).map (·.1):=List.mem_cons_of_mem _ h2
    rw[if_pos h2,if_pos h3];rfl
   ·have h3:¬k∈((k1,y)::r).map (·.1):=λhh=>(List.mem_cons.1 hh).elim h h2
    rw[if_neg h2,if_neg h3];rfl
theorem Ub {m:List (AM×β)}(h:(m.map (·.1)).Nodup) (k:AM) (x:β):((IH kK m k x).map (·.1)).Nodup:=by
 rw[Ml]
 split
 ·exact h
 ·rename_i hk
  rw[List.nodup_append]
  exact⟨h,by simp,λa ha b hb=>by simp only[List.mem_singleton] at hb;subst hb;exact λe=>hk (e▸ha)⟩
theorem Pm:∀{m:List (AM×β)},(m.map (·.1)).Nodup→∀e∈m,HR kK m e.1=some e.2
 |[],_,e,h=>by cases h
 |(k1,y)::r,hu,e,h=>by
  rw[Ig]
  rw[List.map_cons,List.nodup_cons] at hu
  rcases List.mem_cons.1 h with rfl|h
  ·rw[if_pos rfl]
  ·have:e.1≠k1:=λe0=>hu.1 (e0▸List.mem_map.2 ⟨e,h,rfl⟩)
   rw[if_neg this]
   exact Pm hu.2 e h
theorem So (m:List (AM×β)) (k:AM) (x:β) (k':AM):k'∈(IH kK m k x).map (·.1)↔k'=k∨k'∈m.map (·.1):=by
 rw[Ml]
 split
 ·rename_i h
  exact⟨.inr,λh2=>h2.elim (λe=>e▸h) id⟩
 ·simp only[List.mem_append,List.mem_singleton];exact Or.comm
end
structure SI (l:List E0) (m:List (AM×Int)):Prop where
 uq:(m.map (·.1)).Nodup
 get:∀k,(HR kK m k).getD 0=G4 l k.at_ k.to_
 key:∀k,k∈m.map (·.1)↔∃x∈l,x.At=k.at_∧x.To=k.to_
theorem SI.nil:SI [] []:=⟨List.nodup_nil,λk=>rfl,λk=>by simp⟩
theorem SI.put {l:List E0}{m:List (AM×Int)}(h:SI l m) (x:E0):SI (l++[x]) (IH kK m ⟨x.At,x.To⟩ (G4 l x.At x.To+x.Part.sum)):=by
 refine⟨Ub h.uq _ _,λk=>?_,λk=>?_⟩
 ·rw[Mm,NE]
  by_cases hk:k=⟨x.At,x.To⟩
  ·subst hk
   rw[if_pos rfl,if_pos ⟨rfl,rfl⟩];rfl
  ·rw[if_neg hk,if_neg λhh=>hk (by cases k;simp only at hh;rw[hh.1,hh.2]),h.get];omega
 ·rw[So,h.key]
  constructor
  ·rintro(rfl|⟨y,hy,h1⟩)
   ·exact⟨x,by simp,rfl,rfl⟩
   ·exact⟨y,List.mem_append_left _ hy,h1⟩
  ·rintro⟨y,hy,h1,h2⟩
   rcases List.mem_append.1 hy with hy|hy
   ·exact .inr ⟨y,hy,h1,h2⟩
   ·simp only[List.mem_singleton] at hy
    subst hy
    left;cases k;simp only at h1 h2;rw[h1,h2]
theorem Qz {σ β:Type}(L:Nat) (f:Nat→Int→σ→Option β) (kj:σ→Option β) (x0:Option β) (Bad:Prop) (I:Nat→σ→Prop) (hstop:∀n (k:Nat) s,L≤k→f (n+1) (k:Int) s=kj s) (hstep:∀n (k:Nat) s,I k s→k<L→(Bad∧f (n+1) (k:Int) s=x0)∨∃s',I (k+1) s'∧f (n+1) (k:Int) s=f n ((k+1:Nat):Int) s'):
  ∀n (k:Nat) s,I k s→L<n+k→k≤L→(Bad∧f n (k:Int) s=x0)∨∃s',I L s'∧f n (k:Int) s=kj s'
 |0,k,s,_,h,hk=>by omega
 |n+1,k,s,hi,h,hk=>by
  rcases Nat.lt_or_ge k L with hl|hl
  ·rcases hstep n k s hi hl with ⟨h0,h1⟩|⟨s1,i1,h1⟩
   ·exact .inl ⟨h0,h1⟩
   ·rcases Qz L f kj x0 Bad I hstop hstep n (k+1) s1 i1 (by omega) (by omega) with ⟨h0,h2⟩|⟨s2,i2,h2⟩
    ·exact .inl ⟨h0,h1.trans h2⟩
    ·exact .inr ⟨s2,i2,h1.trans h2⟩
  ·have:k=L:=by omega
   subst this
   exact .inr ⟨s,hi,hstop n k s hl⟩
def UA (l l':List E0):Prop:=∀x,x∈l∨x∈l'→G4 l x.At x.To=G4 l' x.At x.To
theorem QB {b:AJ}{s:AV}(h:EK b s) (a t:Int):0≤G4 s.Queue a t∧G4 s.Queue a t≤1125899906842624:=by
 have h1:=OZ h.nn a t
 have h2:=Lg h.nn a t
 have h3:=h.tot
 have h4:=h.ownle
 unfold MV at h3
 omega
theorem Ui {N:Nat}(hN:2000000<N) {b:AJ}{s t:AV}(h:EK b s) (ht:EK b t) (hq:s.Queue.length≤500) (hq':t.Queue.length≤500) {q:List Ay}(k:QI s.Queue q):∃v,GI N (CR s q) t=some v∧(v=true↔UA s.Queue t.Queue):=by
 have hql:=k.len
 unfold GI
 obtain⟨m,i1,h1⟩:=HE t.Queue.length (λn i x=>CJ N t (CM N (CR s q)) n i x) (CM N (CR s q)) (λk x=>SI (t.Queue.take k) x) (λn k x hk=>by
  simp only[CJ];rw[EO hk];rfl) (λn i x hi hk=>by
  have hm:=List.getElem_mem hk
  have hL:=ht.queue _ hm
  have hpl:=hL.plen
  refine⟨_,by rw[List.take_succ_eq_append_getElem hk];exact hi.put (t.Queue[i]),?_⟩
  simp only[CJ]
  rw[EN hk,cond_true,A9 hk,Az (by omega)]
  simp only[Option.bind_some]
  rw[Hc hL.part (by omega) (by omega)]
  have h9:=ht.nn
  have u1:=OZ (l:=t.Queue.take i) (λy hy=>h9 y (List.mem_of_mem_take hy)) (t.Queue[i]).At (t.Queue[i]).To
  have u2:=Lg (l:=t.Queue.take i) (λy hy=>h9 y (List.mem_of_mem_take hy)) (t.Queue[i]).At (t.Queue[i]).To
  have u3:(LP (t.Queue.take i)).sum≤(LP t.Queue).sum:=by
   unfold LP
   rw[List.map_take]
   exact(IA (λy hy=>by obtain⟨z,hz,rfl⟩:=List.mem_map.1 hy;exact h9 z hz) _).2
  have u4:=ht.tot
  have u5:=ht.ownle
  have u6:(t.Queue[i]).Part.sum≤1125899906842624:=hL.part.le
  have u7:=hL.pos
  unfold MV at u4
  have hget:=hi.get ⟨(t.Queue[i]).At,(t.Queue[i]).To⟩
  simp only at hget
  have hget:(HR (λk:AM=>Value.agg (AM.v k).toArray) x (⟨(t.Queue[i]).At,(t.Queue[i]).To⟩:AM)).getD 0=G4 (t.Queue.take i) (t.Queue[i]).At (t.Queue[i]).To:=hget
  simp only[Option.bind_some]
  rw[hget,E6 (by omega) (by omega),O9 N (by omega) (by omega) (by omega) (by omega)]
  rfl) N 0 [] SI.nil (by omega) (Nat.zero_le _)
 have h1:CJ N t (CM N (CR s q)) N 0 []=CM N (CR s q) m:=h1
 rw[h1]
 rw[List.take_length] at i1
 unfold CM
 rcases Qz q.length (λn i x=>CI N (CR s q) m (CL N m) n i x) (CL N m) (some false) (¬∀e∈q,G4 s.Queue e.At e.To=G4 t.Queue e.At e.To) (λk (x:List (AM×Bool))=>(∀e∈q.take k,G4 s.Queue e.At e.To=G4 t.Queue e.At e.To)∧∀y:AM,(HR kK x y).getD false=true↔∃e∈q.take k,e.At=y.at_∧e.To=y.to_) (λn k x hk=>by
  simp only[CI];rw[EO hk];rfl) (λn i x hi hk=>by
  have hm:=List.getElem_mem hk
  obtain⟨g1,g2⟩:=hi
  obtain⟨v1,v2,v3⟩:=k.val _ hm
  have hb:=QB ht (q[i]).At (q[i]).To
  simp only[CI]
  rw[EN hk,cond_true,A9 hk,Az (by omega)]
  have hget:=i1.get ⟨(q[i]).At,(q[i]).To⟩
  simp only at hget
  have hget:(HR (λk:AM=>Value.agg (AM.v k).toArray) m (⟨(q[i]).At,(q[i]).To⟩:AM)).getD 0=G4 t.Queue (q[i]).At (q[i]).To:=hget
  simp only[Option.bind_some,D9]
  rw[hget,E6 (by omega) (by omega),v1,v2]
  by_cases he:G4 s.Queue (q[i]).At (q[i]).To=G4 t.Queue (q[i]).At (q[i]).To
  ·refine .inr ⟨IH kK x ⟨(q[i]).At,(q[i]).To⟩ true,⟨JI hk g1 he,λy=>?_⟩,by rw[he];simp⟩
   rw[Mm,List.take_succ_eq_append_getElem hk]
   by_cases hy:y=⟨(q[i]).At,(q[i]).To⟩
   ·subst hy
    rw[if_pos rfl]
    exact⟨λ_=>⟨q[i],List.mem_append_right _ (List.mem_singleton.2 rfl),rfl,rfl⟩,λ_=>rfl⟩
   ·rw[if_neg hy,g2]
    constructor
    ·rintro⟨e,he1,he2⟩
     exact⟨e,List.mem_append_left _ he1,he2⟩
    ·rintro⟨e,he1,he2,he3⟩
     rcases List.mem_append.1 he1 with he1|he1
     ·exact⟨e,he1,he2,he3⟩
     ·simp only[List.mem_singleton] at he1
      subst he1
      exact absurd (by cases y;simp only at he2 he3;rw[he2,he3]) hy
  ·refine .inl ⟨λhh=>he (hh _ hm),?_⟩
   have:(decide (G4 s.Queue (q[i]).At (q[i]).To≤G4 t.Queue (q[i]).At (q[i]).To)&&decide (G4 t.Queue (q[i]).At (q[i]).To≤G4 s.Queue (q[i]).At (q[i]).To))=false:=by
    simp only[Bool.and_eq_false_iff,decide_eq_false_iff_not];omega
   rw[this]
   rfl) N 0 [] ⟨by simp,λy=>by simp [HR]⟩ (by omega) (Nat.zero_le _) with ⟨hbad,h2⟩|⟨m2,⟨g1,g2⟩,h2⟩
 ·refine⟨false,h2,λh=>(by cases h),λhs=>absurd (λe he=>?_) hbad⟩
  obtain⟨x,hx,hx1,hx2⟩:=k.bk e he
  rw[←hx1,←hx2]
  exact hs x (.inl hx)
 ·have h2:CI N (CR s q) m (CL N m) N 0 []=CL N m m2:=h2
  rw[h2]
  rw[List.take_length] at g1 g2
  unfold CL E9
  rw[C2]
  refine⟨_,rfl,?_⟩
  have hn:∀e∈m,((CH N m2 e).isNone=true↔∃z∈q,z.At=e.1.at_∧z.To=e.1.to_):=by
   intro e he
   obtain⟨x,hx,hx1,hx2⟩:=(i1.key e.1).1 (List.mem_map.2 ⟨e,he,rfl⟩)
   have e2:e.2=G4 t.Queue e.1.at_ e.1.to_:=by
    have:=i1.get e.1
    rw[Pm i1.uq e he] at this
    exact this
   have hp:=Qm ht.nn hx (ht.queue x hx).pos
   rw[hx1,hx2,←e2] at hp
   have hb:=QB ht e.1.at_ e.1.to_
   rw[←e2] at hb
   unfold CH
   rw[E6 (by omega) (by omega),show decide (e.2≠0)=true by simp;omega,Bool.and_true,←g2 e.1]
   have:(HR (λk:AM=>Value.agg (AM.v k).toArray) m2 e.1).getD false=(HR kK m2 e.1).getD false:=rfl
   rw[this]
   cases (HR kK m2 e.1).getD false<;>simp
  rw[show cond (List.all m λe=>(CH N m2 e).isNone) true false=List.all m λe=>(CH N m2 e).isNone by cases (List.all m λe=>(CH N m2 e).isNone)<;>rfl,List.all_eq_true]
  constructor
  ·intro ha x hx
   have inq:∀y∈t.Queue,∃z∈q,z.At=y.At∧z.To=y.To:=λy hy=>by
    obtain⟨e,he,hee⟩:=List.mem_map.1 ((i1.key ⟨y.At,y.To⟩).2 ⟨y,hy,rfl,rfl⟩)
    obtain⟨z,hz,hz1,hz2⟩:=(hn e he).1 (ha e he)
    rw[hee] at hz1 hz2
    exact⟨z,hz,hz1,hz2⟩
   have:∃z∈q,z.At=x.At∧z.To=x.To:=hx.elim (λhx=>k.key x hx) (inq x)
   obtain⟨z,hz,hz1,hz2⟩:=this
   rw[←hz1,←hz2]
   exact g1 z hz
  ·intro hs e he
   rw[hn e he]
   obtain⟨x,hx,hx1,hx2⟩:=(i1.key e.1).1 (List.mem_map.2 ⟨e,he,rfl⟩)
   have h3:=hs x (.inr hx)
   have hp:=Qm ht.nn hx (ht.queue x hx).pos
   rw[←h3] at hp
   have:∃y∈s.Queue,y.At=x.At∧y.To=x.To:=by
    apply Classical.byContradiction
    intro hno
    have:=PS (l:=s.Queue) (a:=x.At) (t:=x.To) λy hy hh=>hno ⟨y,hy,hh⟩
    omega
   obtain⟨y,hy,hy1,hy2⟩:=this
   obtain⟨z,hz,hz1,hz2⟩:=k.key y hy
   exact⟨z,hz,by rw[hz1,hy1,hx1],by rw[hz2,hy2,hx2]⟩
end Go.Proofs.YtibidnaedddfdaaGreat
