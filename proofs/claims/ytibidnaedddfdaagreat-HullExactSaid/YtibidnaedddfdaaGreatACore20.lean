import Derived.Test.YtibidnaedddfdaaGreatACore19
import Derived.Maps.RangeRun
namespace Go.Proofs.YtibidnaedddfdaaGreat
open Go.RowKit
open Go.ChangeMaps (setBlock)
set_option linter.unusedVariables false
set_option linter.unusedSimpArgs false
def MI {κ β:Type}(kv:κ→Value) (vv:β→Value) (b r:Nat) (l rem:List (κ×β)):HP where
 holds:=λ_ F h=>(∀c,F c↔(c=b∨c=r))∧b≠r∧∃es clock since seen,h[b]? =some (.map es clock)∧es.toList.map (λe=>(e.key,e.val))=(l.map λe=>(kv e.1,vv e.2))∧J3 es.toList clock∧
  h[r]? =some (.mapIter (some b) since seen clock)∧since=clock∧(leftOf es seen).toList.map (λe=>(e.key,e.val))=rem.map λe=>(kv e.1,vv e.2)
 loc:=λ⟨k1,k2,es,c,since,seen,k3,k4,k5,k6,k7⟩ _ e=>⟨k1,k2,es,c,since,seen,(e _ (.inr ((k1 _).2 (.inl rfl)))).trans k3,k4,k5,(e _ (.inr ((k1 _).2 (.inr rfl)))).trans k6,k7⟩
section
variable {P:Program}{ops:Array Oper}{Q:Exit→Act→World→Prop}{n:FN}{m:SM}{rest:List Oper}
variable {d:Nat}{ty:TypeId}{pos:String}{af:Array Edge}{X:Operand}{B:World}{h:Ad}{S:Nat→Prop}{L:List HP}{t kt et:TypeId}{b r:Nat}
variable {κ β:Type}{kv:κ→Value}{vv:β→Value}{l rem:List (κ×β)}
theorem Rw (hs:St S (MP kv vv b l::L) h) (hx:BG m X=some (.map (some b))) (hT:P.underlying t=some (.map kt et)) (hd:Nat.blt d n.1=true)
  (k:∀r h',St S (MI kv vv b r l l::L) h'→BO S h S h'→LF P ops Q rest B h' n ((d,.pointer (some ⟨r,0,none⟩))::m)):LF P ops Q (⟨some d,.range t X,ty,pos,af,none⟩::rest) B h n m:=by
 intro a w hf hw
 refine wpList_plain rfl λK hKK=>?_
 unfold Oper.wp
 obtain⟨F,⟨g1,es,c,g2,g3,g4⟩,hF,_⟩:=hs.2
 have hg:w.heap[b]? =some (.map es c):=by rw[hw.heap];exact g2
 have hrun:(execOp a.eval ⟨some d,.range t X,ty,pos,af,none⟩).run P w= .ok (.value (.pointer (some ⟨w.heap.size,0,none⟩))) (w.alloc (.mapIter (some b) c #[] c)):=by
  simp [execOp,hf.eval hx,Instr.range,run_underlying hT,MapKept.run_getObj_map hg,newObj,Sem.run]
 rw[hrun]
 have hb:b<h.size:=(hF b ((g1 b).2 rfl)).1
 obtain⟨u1,u2⟩:=hs.upd (H':=MI kv vv b h.size l l) (h':=h.push (.mapIter (some b) c #[] c)) .head (by simp) λF k1 k2=>⟨λx=>x=b∨x=h.size,⟨λx=>Iff.rfl,by omega,es,c,c,#[],by rw[DO _ _ _ hb];exact g2,g3,g4,G8 _ _,rfl,by rw[show leftOf es #[]=es from Array.filter_eq_self.2 λx _=>(by simp)];exact g3⟩,λx hx=>hx.imp (λe=>(k1.1 x).2 e) λe=>by subst e;simp,λx hx _=>DO _ _ _ hx⟩
 have hsz:=hw.heap
 exact hKK _ _ (k w.heap.size _ (by rw[hsz];exact u1) u2 _ _ (hf.put hd _) (hw.alloc _))
theorem U2 {h:Ad}{b r:Nat}{o:Obj}(hr:r<h.size) (hn:b≠r):(h.setIfInBounds r o)[b]? =h[b]? ∧(h.setIfInBounds r o)[r]? =some o∧(h.setIfInBounds r o).size=h.size:=
 ⟨by rw[Array.getElem?_setIfInBounds_ne (Ne.symm hn)],by rw[Array.getElem?_setIfInBounds_self];simp [hr],by simp⟩
theorem UG (hs:St S (MI kv vv b r l rem::L) h) (hx:BG m X=some (.pointer (some ⟨r,0,none⟩))) (hd:Nat.blt d n.1=true)
  (k0:rem=[]→LF P ops Q rest B h n ((d,.tuple #[.bool false])::m))
  (k1:∀(x:κ×β) (l1 l2:List (κ×β)) h',rem=l1++x::l2→St S (MI kv vv b r l (l1++l2)::L) h'→BO S h S h'→(∀w,Wd B h' w→(Instr.entry (.pointer (some ⟨r,0,none⟩))).run P w= .ok (.tuple #[kv x.1,vv x.2]) w)→LF P ops Q rest B h' n ((d,.tuple #[.bool true,kv x.1,vv x.2])::m)):LF P ops Q (⟨some d,.next X false,ty,pos,af,none⟩::rest) B h n m:=by
 intro a w hf hw
 refine wpList_plain rfl λK hKK=>?_
 unfold Oper.wp
 obtain⟨F,⟨g1,gn,es,c,since,seen,g2,g3,g4,g5,g6,g7⟩,hF,_⟩:=hs.2
 have hr:w.heap[r]? =some (.mapIter (some b) since seen c):=by rw[hw.heap];exact g5
 have hb:w.heap[b]? =some (.map es c):=by rw[hw.heap];exact g2
 have hrl:r<h.size:=(hF r ((g1 r).2 (.inr rfl))).1
 subst g6
 rcases run_next_at (P:=P) w ty r b since since seen es since hr hb (λx hx=>g4.2 x hx) (Nat.le_refl _) with ⟨h0,hrun⟩|⟨e,he,w1,hw1,hrun⟩
 ·have h1:(execOp a.eval ⟨some d,.next X false,ty,pos,af,none⟩).run P w= .ok (.value (.tuple #[.bool false])) w:=by simp [execOp,hf.eval hx,hrun]
  rw[h1]
  have hrem:rem=[]:=by
   have:(leftOf es seen).toList=[]:=by
    have:=Array.eq_empty_of_size_eq_zero h0
    rw[this]
   rw[this] at g7
   cases rem with
   |nil=>rfl
   |cons _ _=>cases g7
  exact hKK _ _ (k0 hrem _ _ (hf.put hd _) hw)
 ·have h1:(execOp a.eval ⟨some d,.next X false,ty,pos,af,none⟩).run P w= .ok (.value (.tuple #[.bool true,e.key,e.val])) (setBlock w1 r (.mapIter (some b) since (seen.push e.born) since)):=by simp [execOp,hf.eval hx,hrun]
  rw[h1]
  obtain⟨p1,p2,hp⟩:=List.append_of_mem he
  rw[hp,List.map_append,List.map_cons] at g7
  obtain⟨l1,lx,hl,q1,q2⟩:=List.map_eq_append_iff.1 g7.symm
  obtain⟨x,l2,hl2,q3,q4⟩:=List.map_eq_cons_iff.1 q2
  subst hl2
  have hkx:e.key=kv x.1∧e.val=vv x.2:=by
   have:=q3
   simp only[Prod.mk.injEq] at this
   exact⟨this.1.symm,this.2.symm⟩
  have hnd:((leftOf es seen).toList.map (·.born)).Nodup:=by
   unfold leftOf
   rw[Array.toList_filter]
   exact(List.Sublist.map _ List.filter_sublist).nodup g4.1
  have hleft:(leftOf es (seen.push e.born)).toList=p1++p2:=by
   have e1:(leftOf es (seen.push e.born)).toList=(leftOf es seen).toList.filter λy=>y.born != e.born:=by
    unfold leftOf
    rw[Array.toList_filter,Array.toList_filter,List.filter_filter]
    congr 1
    funext y
    cases h1:seen.contains y.born<;>cases h2:(y.born==e.born)<;>simp_all
   rw[e1,hp,List.filter_append,List.filter_cons]
   rw[hp,List.map_append,List.map_cons,List.nodup_append] at hnd
   obtain⟨_,n2,n3⟩:=hnd
   obtain⟨n4,_⟩:=List.nodup_cons.1 n2
   simp only[bne_self_eq_false,Bool.false_eq_true,if_false]
   rw[List.filter_eq_self.2,List.filter_eq_self.2]
   ·intro y hy
    simp only[bne_iff_ne,ne_eq]
    exact λe0=>n4 (by rw[←e0];exact List.mem_map.2 ⟨y,hy,rfl⟩)
   ·intro y hy
    simp only[bne_iff_ne,ne_eq]
    exact λe0=>n3 _ (List.mem_map.2 ⟨y,hy,rfl⟩) _ (List.mem_cons_self ..) e0
  obtain⟨s1,s2,s3⟩:=U2 (o:= .mapIter (some b) since (seen.push e.born) since) hrl gn
  have hw2:Wd B (h.setIfInBounds r (.mapIter (some b) since (seen.push e.born) since)) (setBlock w1 r (.mapIter (some b) since (seen.push e.born) since)):=by
   have hw1':Wd B h w1:=by
    rcases hw1 with rfl|rfl
    ·exact hw
    ·exact hw.drew
   exact⟨by show w1.heap.setIfInBounds _ _=_;rw[hw1'.heap],hw1'.os,hw1'.tape,hw1'.out⟩
  obtain⟨u1,u2⟩:=hs.upd (H':=MI kv vv b r l (l1++l2)) (h':=h.setIfInBounds r (.mapIter (some b) since (seen.push e.born) since)) .head (by omega) λF k1 k2=>⟨F,⟨k1.1,gn,es,since,since,seen.push e.born,by rw[s1];exact g2,g3,g4,s2,rfl,by rw[hleft,List.map_append,List.map_append,q1,q4]⟩,λx hx=> .inl hx,λx hx hF'=>by
   have:x≠r:=λe=>hF' ((k1.1 x).2 (.inr e))
   rw[Array.getElem?_setIfInBounds_ne (Ne.symm this)]⟩
  have:=k1 x l1 l2 _ hl u1 u2 (λw' hw'=>by
   have:=run_entry_at (P:=P) w' r b since seen es since e (by rw[hw'.heap];exact s2) (by rw[hw'.heap,s1];exact g2) (by
    have:e∈(leftOf es seen).toList:=he
    unfold leftOf at this
    rw[Array.toList_filter] at this
    exact(List.mem_filter.1 this).1) g4.1
   rw[this,hkx.1,hkx.2])
  rw[hkx.1,hkx.2]
  exact hKK _ _ (this _ _ (hf.put hd _) hw2)
theorem Rv {C:World→Prop}{Q:Act→Prop}{v:Value}(hx:BG m X=some (.pointer (some ⟨r,0,none⟩))) (he:∀w,C w→(Instr.entry (.pointer (some ⟨r,0,none⟩))).run P w= .ok v w) (hd:Nat.blt d n.1=true)
  (k:QF P ops C Q rest n ((d,v)::m)):QF P ops C Q (⟨some d,.entry X,ty,pos,af,none⟩::rest) n m:=λa hf=>
 D2 hf hd (λw hw=>by simp [execOp,hf.eval hx,he w hw]) k
theorem St.miMP (hs:St S (MI kv vv b r l rem::L) h):St S (MP kv vv b l::L) h:=by
 obtain⟨F,⟨g1,gn,es,c,since,seen,g2,g3,g4,_⟩,hF,hr⟩:=hs.2
 exact⟨hs.1,λx=>x=b,⟨λ_=>Iff.rfl,es,c,g2,g3,g4⟩,λx hx=>hF x ((g1 x).2 (.inl hx)),hr.mono λx hx=>⟨hx.1,λe=>hx.2 ((g1 x).2 (.inl e))⟩⟩
end
def OY (x:Int):Value:= .int .i64 (Ar x)
theorem Qk {x:Int}(h:AB x):OY x= .int .i64 x:=by unfold OY;rw[Ka h]
theorem R6:OY 0= .int .i64 0:=Qk (by unfold AB;omega)
theorem Ti {α:Type}{c:Bool}{a y:α}(h:cond c (some a) none=some y):y=a:=by cases c<;>simp_all
theorem UZ {α:Type}(c:Bool) (a b z:Option α):(cond c a b).or z=cond c (a.or z) (b.or z):=by cases c<;>rfl
theorem Ri {α ρ:Type}{f:α→Option ρ}{C:ρ}{x:α}{l1 l2:List α}{K:Option ρ}{r:ρ}(hC:∀e y,f e=some y→y=C) (E:cond ((l1++x::l2).all λe=>(f e).isNone) K (some C)=some r):(f x).or (cond ((l1++l2).all λe=>(f e).isNone) K (some C))=some r:=by
 cases hx:f x with
 |none=>
  rw[Option.none_or]
  rw[List.all_append,List.all_cons,hx] at E
  rw[List.all_append]
  simpa using E
 |some y=>
  have:=hC x y hx
  subst this
  rw[List.all_append,List.all_cons,hx] at E
  simpa using E
end Go.Proofs.YtibidnaedddfdaaGreat
