/- The abstract machine: calls that look at the caller's objects and turn them: the callee's code is walked in the caller's heap. -/
import Derived.Test.YtnodicdkejklmaaGreatDoorKe2
import Derived.Test.YtnodicdkejklmaaGreatDoorProg
import Derived.KernelRfl
set_option linter.unusedVariables false
set_option linter.unusedSimpArgs false
set_option maxRecDepth 100000
set_option maxHeartbeats 4000000
namespace Go.AE
open Go
variable {P:Program}
def a5j (l:List Oper) (i:Nat):Option Nat:=(l[i]?).bind (·.dst)
def tr:Nat->Bool:=fun _=>true
theorem a0L {dst:Nat->Option Nat} {E:Nat->Eff} {A:St}:∀i,replay dst E A tr (i+1)=replay (fun i=>dst (i+1)) (fun i=>E (i+1)) ((E 0).app (dst 0) A) tr i
 |0=>rfl
 |i+1=>by
  rw [replay,a0L i,replay]
  rfl
theorem b2L {ops:Array Oper} {K:St->Prop}:∀(l:List Oper) (A:St),a2z P true ops l K A->
  ∃E:Nat->Eff,(∀i o,l[i]?=some o->a6J P ops false false [] o (replay (a5j l) E A tr i) (E i))/\K (replay (a5j l) E A tr l.length)
 |[],A,h=>⟨fun _=>a6D (.c .a4S),fun i o h=>by simp at h,h⟩
 |o::l,A,h=>by
  rw [a9H] at h
  obtain ⟨e,he,h⟩:=a9J h
  obtain ⟨E',h1,h2⟩:=b2L l _ h
  refine ⟨fun i=>match i with|0=>e|i+1=>E' i,fun i o' hi=>?_,?_⟩
  ·cases i with
   |zero=>
    rw [List.getElem?_cons_zero] at hi
    cases hi
    exact he
   |succ i=>
    rw [List.getElem?_cons_succ] at hi
    rw [a0L]
    exact h1 i o' hi
  ·rw [List.length_cons,a0L]
   exact h2
def c5s (W:List (Nat×Id)) (i:Nat):List Id:=(W.filter (·.1==i)).map (·.2)
theorem a6e {W:List (Nat×Id)} {i:Nat} {id:Id}:id∈c5s W i↔(i,id)∈W:=by
 unfold c5s
 simp only [List.mem_map,List.mem_filter,beq_iff_eq]
 constructor
 ·rintro ⟨⟨a,b⟩,⟨h1,h2⟩,h3⟩
  simp only at h2 h3
  subst h2 h3
  exact h1
 ·intro h
  exact ⟨(i,id),⟨h,rfl⟩,rfl⟩
theorem a47 {ops:Array Oper} {js:List Nat} {prs:List (Nat×Nat)} {K:List (Nat×Id)->List (Nat×AV)->St->Prop}:∀(l:List Oper) (i0:Nat) (W0:List (Nat×Id)) (N0:List (Nat×AV)) (A:St),b4L P ops js prs l i0 W0 N0 K A->
  ∃(E:Nat->Eff) (W:List (Nat×Id)) (N:List (Nat×AV)),(∀i o,l[i]?=some o->a6J P ops (prs.contains (i0+i,i0+i)) (js.contains (i0+i)) (c5s W (i0+i)) o (replay (a5j l) E A tr i) (E i))/\
   (∀i o,l[i]?=some o->prs.any (·.2==i0+i)=true->∀x∈o.op.operands.toList,(i0+i,(replay (a5j l) E A tr i).eval x)∈N)/\
   (∀x∈W0,x∈W)/\(∀x∈N0,x∈N)/\(∀x∈W,x∈W0\/js.contains x.1=true)/\K W N (replay (a5j l) E A tr l.length)
 |[],i0,W0,N0,A,h=>⟨fun _=>a6D (.c .a4S),W0,N0,fun i o h=>by simp at h,fun i o h=>by simp at h,fun _ h=>h,fun _ h=>h,fun _ h=>.inl h,h⟩
 |o::l,i0,W0,N0,A,h=>by
  unfold b4L at h
  have hN:∀(N1:List (Nat×AV)),(∀x∈(if prs.any (·.2==i0)=true then a2L i0 o.op A++N0 else N0),x∈N1)->(prs.any (·.2==i0)=true->∀x∈o.op.operands.toList,(i0,A.eval x)∈N1)/\∀x∈N0,x∈N1:=fun N1 hs=>by
   refine ⟨fun hc x hx=>hs _ ?_,fun x hx=>hs x ?_⟩
   ·rw [if_pos hc]
    exact List.mem_append.2 (.inl (List.mem_map.2 ⟨x,hx,rfl⟩))
   ·split
    ·exact List.mem_append.2 (.inr hx)
    ·exact hx
  by_cases hp:prs.contains (i0,i0)=true
  ·rw [if_pos hp] at h
   obtain ⟨e,he,h⟩:=b4Y (ops:=ops) (dc:=js.contains i0) (W:=[]) h
   obtain ⟨E',W,N,h1,h2,h3,h4,h7,h5⟩:=a47 l _ _ _ _ h
   obtain ⟨n1,n2⟩:=hN _ h4
   refine ⟨fun i=>match i with|0=>e|i+1=>E' i,W,N,fun i o' hi=>?_,fun i o' hi hc=>?_,h3,n2,h7,?_⟩
   ·cases i with
    |zero=>
     rw [List.getElem?_cons_zero] at hi
     cases hi
     rw [Nat.add_zero,hp]
     exact he.mono (by simp)
    |succ i=>
     rw [List.getElem?_cons_succ] at hi
     rw [a0L,show i0+(i+1)=i0+1+i by omega]
     exact h1 i o' hi
   ·cases i with
    |zero=>
     rw [List.getElem?_cons_zero] at hi
     cases hi
     exact n1 hc
    |succ i=>
     rw [List.getElem?_cons_succ] at hi
     rw [a0L]
     rw [show i0+(i+1)=i0+1+i by omega] at hc ⊢
     exact h2 i o' hi hc
   ·rw [List.length_cons,a0L]
    exact h5
  rw [if_neg hp] at h
  by_cases hj:js.contains i0=true
  ·rw [if_pos hj] at h
   obtain ⟨e,W',he,h⟩:=b4Z (ops:=ops) h
   obtain ⟨E',W,N,h1,h2,h3,h4,h7,h5⟩:=a47 l _ _ _ _ h
   obtain ⟨n1,n2⟩:=hN _ h4
   refine ⟨fun i=>match i with|0=>e|i+1=>E' i,W,N,fun i o' hi=>?_,fun i o' hi hc=>?_,fun x hx=>h3 x (List.mem_append.2 (.inr hx)),n2,fun x hx=>?_,?_⟩
   ·cases i with
    |zero=>
     rw [List.getElem?_cons_zero] at hi
     cases hi
     rw [Nat.add_zero,show prs.contains (i0,i0)=false by simpa using hp,hj]
     exact he.mono fun id hid=>a6e.2 (h3 _ (List.mem_append.2 (.inl (List.mem_map.2 ⟨id,hid,rfl⟩))))
    |succ i=>
     rw [List.getElem?_cons_succ] at hi
     rw [a0L,show i0+(i+1)=i0+1+i by omega]
     exact h1 i o' hi
   ·cases i with
    |zero=>
     rw [List.getElem?_cons_zero] at hi
     cases hi
     exact n1 hc
    |succ i=>
     rw [List.getElem?_cons_succ] at hi
     rw [a0L]
     rw [show i0+(i+1)=i0+1+i by omega] at hc ⊢
     exact h2 i o' hi hc
   ·rcases h7 x hx with h|h
    ·rw [List.mem_append] at h
     rcases h with h|h
     ·rw [List.mem_map] at h
      obtain ⟨id,_,rfl⟩:=h
      exact .inr hj
     ·exact .inl h
    ·exact .inr h
   ·rw [List.length_cons,a0L]
    exact h5
  ·rw [if_neg hj] at h
   obtain ⟨e,he,h⟩:=a9J h
   obtain ⟨E',W,N,h1,h2,h3,h4,h7,h5⟩:=a47 l _ _ _ _ h
   obtain ⟨n1,n2⟩:=hN _ h4
   refine ⟨fun i=>match i with|0=>e|i+1=>E' i,W,N,fun i o' hi=>?_,fun i o' hi hc=>?_,h3,n2,h7,?_⟩
   ·cases i with
    |zero=>
     rw [List.getElem?_cons_zero] at hi
     cases hi
     rw [Nat.add_zero,show prs.contains (i0,i0)=false by simpa using hp,show js.contains i0=false by simpa using hj]
     exact he.mono (by simp)
    |succ i=>
     rw [List.getElem?_cons_succ] at hi
     rw [a0L,show i0+(i+1)=i0+1+i by omega]
     exact h1 i o' hi
   ·cases i with
    |zero=>
     rw [List.getElem?_cons_zero] at hi
     cases hi
     exact n1 hc
    |succ i=>
     rw [List.getElem?_cons_succ] at hi
     rw [a0L]
     rw [show i0+(i+1)=i0+1+i by omega] at hc ⊢
     exact h2 i o' hi hc
   ·rw [List.length_cons,a0L]
    exact h5
theorem b43 {A B:St} {x:Operand} (h:∀t,x=.tmp t->B.s t=A.s t):B.eval x=A.eval x:=by
 cases x<;>first|exact h _ rfl|rfl
theorem a9L {α:Type} {p q:α->Bool} {i:α}:∀{l:List α},i∈l->(∀j,p j=true->q j=true)->q i=true->p i=false->l.countP p<l.countP q
 |[],h,_,_,_=>by simp at h
 |x::l,h,hpq,h1,h2=>by
  have hle:l.countP p<=l.countP q:=List.countP_mono_left fun j _ hj=>hpq j hj
  by_cases e:i=x
  ·subst e
   rw [List.countP_cons_of_pos h1,List.countP_cons_of_neg (by simp [h2])]
   omega
  ·have hm:i∈l:=by
    rcases List.mem_cons.1 h with h|h
    ·exact (e h).elim
    ·exact h
   have ih:=a9L hm hpq h1 h2
   by_cases hp:p x=true
   ·rw [List.countP_cons_of_pos hp,List.countP_cons_of_pos (hpq x hp)];omega
   ·rw [List.countP_cons_of_neg hp]
    by_cases hq:q x=true
    ·rw [List.countP_cons_of_pos hq];omega
    ·rw [List.countP_cons_of_neg hq];omega
theorem b7u {ops:Array Oper} {n:Nat} {C:Ctx P} {K:St->Prop} {Q:Exit->Act->World->Prop} {st:St} (hc:b9R ops) (hd:a5L n ops.toList=true)
  (hQ:∀a w,a1o C n K a w->Q .normal a w) {E:Nat->Eff} {js:List Nat} {Wf:Nat->List Id} {os:Nat->Bool}
  (hO:∀i k,i<ops.size->k<ops.size->os i=true->k≠i->Anc ops i k\/Anc ops k i)
  (hE:∀i o,ops[i]?=some o->a6J P ops (os i) (js.contains i) (Wf i) o (replay (a5j ops.toList) E st tr i) (E i))
  (hH:∀(j k:Nat) (o o':Oper),ops[j]?=some o->ops[k]?=some o'->j≠k->js.contains j=false->writer o.op=true->hfree o'.op=false->Anc ops j k\/Anc ops k j)
  (hD:∀(j k:Nat) (o o':Oper),ops[j]?=some o->ops[k]?=some o'->j≠k->hfree o'.op=false->∀id∈Wf j,(∀x∈o'.op.operands.toList,¬idV id ((replay (a5j ops.toList) E st tr k).eval x))\/Anc ops j k\/Anc ops k j)
  (hW:∀j,∀id∈Wf j,id.1≠st.T) (hK:K (replay (a5j ops.toList) E st tr ops.size)) :
  ∀(fuel:Nat) (listed:Array Bool) (ρ:Lies) (a:Act) (w:World),listed.size=ops.size->((List.range ops.size).countP fun j=>!listed.getD j false)<=fuel->Closed ops (fun j=>listed.getD j false)->a.tmps.size=n->
   Rel C ρ (replay (a5j ops.toList) E st (fun j=>listed.getD j false) ops.size) a w->wpAny P .any ops Q fuel listed a w:=by
 have dstE:∀j o,ops[j]?=some o->a5j ops.toList j=o.dst:=fun j o h=>by simp [a5j,h]
 have c8w:∀j d,a5j ops.toList j=some d->∃o,ops[j]?=some o/\o.dst=some d:=fun j d h=>by
  unfold a5j at h
  cases ho:ops[j]? with
  |none=>simp [ho] at h
  |some o=>exact ⟨o,rfl,by simpa [ho] using h⟩
 have done:∀(listed:Array Bool) (ρ:Lies) (a:Act) (w:World),(∀j,j<ops.size->listed.getD j false=true)->a.tmps.size=n->Rel C ρ (replay (a5j ops.toList) E st (fun j=>listed.getD j false) ops.size) a w->Q .normal a w:=fun listed ρ a w hall ha hr=>by
  refine hQ a w ⟨ha,ρ,_,hr,?_⟩
  rw [a1W (S':=tr) fun j hj=>hall j hj]
  exact hK
 have b4u:∀(listed:Array Bool),listed.size=ops.size->Region.ready .any ops listed=[]->∀j,j<ops.size->listed.getD j false=true:=fun listed hsz hr j=>by
  induction j using Nat.strongRecOn with
  |_ j ih=>
   intro hj
   cases h:listed.getD j false with
   |true=>rfl
   |false=>
    have hm:j∈Region.ready .any ops listed:=by
     rw [mem_ready]
     have hjl:j<listed.size:=by omega
     refine ⟨?_,ops[j],by simp [hj],fun e he hb=>?_⟩
     ·rw [Array.getD_eq_getD_getElem?] at h ⊢
      rw [Array.getElem?_eq_getElem hjl] at h ⊢
      exact h
     ·have hlt:=hc.lt j ops[j] e (by simp [hj]) he hb
      exact ih e.on hlt (by omega)
    rw [hr] at hm
    cases hm
 intro fuel
 induction fuel with
 |zero=>
  intro listed ρ a w hsz hcnt hcl ha hr
  have hall:∀j,j<ops.size->listed.getD j false=true:=fun j hj=>by
   have:(List.range ops.size).countP (fun j=>!listed.getD j false)=0:=by omega
   rw [List.countP_eq_zero] at this
   have:=this j (by simpa using hj)
   simpa using this
  refine ⟨?_,done listed ρ a w hall ha hr⟩
  cases hrd:Region.ready .any ops listed with
  |nil=>rfl
  |cons i r=>
   have hm:i∈Region.ready .any ops listed:=by rw [hrd];simp
   rw [mem_ready] at hm
   obtain ⟨h1,o,ho,_⟩:=hm
   have hi:i<ops.size:=(Array.getElem?_eq_some_iff.1 ho).1
   have:=hall i hi
   rw [Array.getD_eq_getD_getElem?,Array.getElem?_eq_getElem (by omega)] at h1 this
   simp only [Option.getD_some] at h1 this
   rw [h1] at this
   cases this
 |succ fuel ih=>
  intro listed ρ a w hsz hcnt hcl ha hr
  refine ⟨fun hrd=>done listed ρ a w (b4u listed hsz hrd) ha hr,fun i hi=>?_⟩
  rw [mem_ready] at hi
  obtain ⟨hi0,o,ho,b6Z⟩:=hi
  have hin:i<ops.size:=(Array.getElem?_eq_some_iff.1 ho).1
  have hil:i<listed.size:=by omega
  have hiF:listed.getD i false=false:=by
   rw [Array.getD_eq_getD_getElem?,Array.getElem?_eq_getElem hil] at hi0 ⊢
   exact hi0
  have c8x:∀k,Anc ops i k->listed.getD k false=true:=fun k hk=>hk.mem hcl fun o' e ho' he hb=>by
   rw [ho] at ho';cases ho'
   exact b6Z e he hb
  have c5n:∀k,Anc ops k i->listed.getD k false=false:=fun k hk=>by
   cases h:listed.getD k false with
   |false=>rfl
   |true=>
    have:=hk.mem hcl fun o' e ho' he hb=>hcl k o' e h ho' he hb
    rw [hiF] at this
    cases this
  have hei:=hE i o ho
  have hDi:=fun (j:Nat) (o':Oper) (ho':ops[j]?=some o')=>hD j i o' o ho' ho
  have d0W:∀{d:Option Nat} {id:Id},b0P d st.T id->id.1=st.T:=fun ⟨_,_,h,_⟩=>h
  generalize hA:replay (a5j ops.toList) E st tr i=Ai at hei hDi
  generalize hB:replay (a5j ops.toList) E st (fun j=>listed.getD j false) ops.size=B at hr
  have hAi:Ai=replay (a5j ops.toList) E st (fun j=>decide (j<i)) ops.size:=by
   rw [<-hA]
   have:∀m,i<=m->replay (a5j ops.toList) E st (fun j=>decide (j<i)) m=replay (a5j ops.toList) E st tr i:=fun m hm=>by
    induction m with
    |zero=>
     have:i=0:=by omega
     subst this;rfl
    |succ m ihm=>
     by_cases e:i=m+1
     ·rw [e]
      refine a1W fun j hj=>?_
      simp [tr,hj]
     ·have hm':i<=m:=by omega
      rw [replay,if_neg (by simpa using hm')]
      exact ihm hm'
   exact (this ops.size (by omega)).symm
  have hEs:∀j,j<ops.size->∃o',ops[j]?=some o':=fun j hj=>⟨ops[j],by simp [hj]⟩
  have d6j:∀j,j<ops.size->∀id ob,(E j).N id=some ob->ob≠.a0b:=fun j hj id ob h=>by
   obtain ⟨o',ho'⟩:=hEs j hj
   exact ((hE j o' ho').own id ob h).1
  have unb:∀(S:Nat->Bool) (m:Nat),m<=ops.size->∀id,(replay (a5j ops.toList) E st S m).H id=.a0b->st.H id=.a0b/\∀j,j<m->S j=true->(E j).N id=none:=fun S m=>by
   induction m with
   |zero=>intro _ id h;exact ⟨h,fun j hj=>by omega⟩
   |succ m ihm=>
    intro hm id h
    unfold replay at h
    split at h
    ·rename_i hs
     rw [b40] at h
     cases hn:(E m).N id with
     |some ob=>rw [hn] at h;exact (d6j m (by omega) id ob hn h).elim
     |none=>
      rw [hn] at h
      obtain ⟨h1,h2⟩:=ihm (by omega) id h
      refine ⟨h1,fun j hj hsj=>?_⟩
      by_cases e:j=m
      ·subst e;exact hn
      ·exact h2 j (by omega) hsj
    ·rename_i hs
     obtain ⟨h1,h2⟩:=ihm (by omega) id h
     refine ⟨h1,fun j hj hsj=>?_⟩
     by_cases e:j=m
     ·subst e;exact (hs hsj).elim
     ·exact h2 j (by omega) hsj
  have b2u:∀j o',ops[j]?=some o'->∀id,(E j).N id≠none->hfree o'.op=false:=fun j o' ho' id h=>by
   cases hf:hfree o'.op with
   |false=>rfl
   |true=>exact (h ((hE j o' ho').free hf id)).elim
  have T0:∀m,(replay (a5j ops.toList) E st tr m).T=st.T:=fun m=>a42 tr m
  have b0x:∀(j k:Nat) (o' o'':Oper) (id:Id),ops[j]?=some o'->ops[k]?=some o''->b0P o'.dst st.T id->b0P o''.dst st.T id->j=k:=fun j k o' o'' id hj hk h1 h2=>by
   by_cases e:j=k
   ·exact e
   ·have:=b7t h1 h2 (fun n hn=>hc.small j o' n hj hn) (fun n hn=>hc.small k o'' n hk hn)
    obtain ⟨d,hd1,_⟩:=h2
    exact (hc.dst j k o' o'' d hj hk e hd1 (this.trans hd1)).elim
  have apart:∀k,i<k->listed.getD k false=true->∀id,(E i).N id≠none->(E k).N id=none:=fun k hik hk id hni=>by
   cases hnk:(E k).N id with
   |none=>rfl
   |some ob=>
    have hkn:k<ops.size:=by
     rcases Nat.lt_or_ge k ops.size with h|h
     ·exact h
     ·rw [Array.getD_eq_getD_getElem?,Array.getElem?_eq_none (by omega)] at hk
      cases hk
    obtain ⟨o',ho'⟩:=hEs k hkn
    obtain ⟨ob',d6k⟩:=Option.ne_none_iff_exists'.1 hni
    have f1:=b2u i o ho id hni
    have f2:=b2u k o' ho' id (by rw [hnk];simp)
    have cmp:(Anc ops i k\/Anc ops k i)->False:=fun h=>by
     rcases h with h|h
     ·have:=h.lt hc;omega
     ·have:=c5n k h
      rw [hk] at this
      cases this
    have hne:i≠k:=by omega
    have hAT:Ai.T=st.T:=by rw [<-hA];exact T0 i
    rcases (hei.own id ob' d6k).2 with ⟨q1,_⟩|⟨⟨qd,q1⟩|⟨q1,_⟩,_⟩
    ·rw [hAT] at q1
     rcases ((hE k o' ho').own id ob hnk).2 with ⟨r1,_⟩|⟨⟨rd,r1⟩|⟨r1,_⟩,_⟩
     ·rw [T0 k] at r1
      exact (hne (b0x i k o o' id ho ho' q1 r1)).elim
     ·exact (cmp ((hH k i o' o ho' ho (fun e=>hne e.symm) rd r1 f1).symm)).elim
     ·exact (hW k id r1 (d0W q1)).elim
    ·exact (cmp (hH i k o o' ho ho' hne qd q1 f2)).elim
    ·rcases ((hE k o' ho').own id ob hnk).2 with ⟨r1,_⟩|⟨⟨rd,r1⟩|⟨r1,x,hx,hi⟩,_⟩
     ·rw [T0 k] at r1
      exact (hW i id q1 (d0W r1)).elim
     ·exact (cmp ((hH k i o' o ho' ho (fun e=>hne e.symm) rd r1 f1).symm)).elim
     ·rcases hD i k o o' ho ho' hne f2 id q1 with h|h
      ·exact (h x hx hi).elim
      ·exact (cmp h).elim
  have hnext:replay (a5j ops.toList) E st (fun j=>(listed.setIfInBounds i true).getD j false) ops.size=(E i).app o.dst B:=by
   rw [<-hB,<-dstE i o ho]
   refine a43 hiF (fun j=>?_) (fun k t hk hdi hdk=>?_) apart hin
   ·simp only [Array.getD_eq_getD_getElem?,Array.getElem?_setIfInBounds]
    by_cases e:j=i
    ·subst e;simp [hil]
    ·have e':¬i=j:=fun h=>e h.symm
     simp [e,e']
   ·obtain ⟨o1,ho1,hd1⟩:=c8w i t hdi
    obtain ⟨o2,ho2,hd2⟩:=c8w k t hdk
    exact hc.dst k i o2 o1 t ho2 ho1 hk hd1 hd2
  have slots:∀t,t∈o.looksAt ops->B.s t=Ai.s t:=fun t ht=>by
   rw [<-hB,hAi]
   by_cases hex:∃k,k<ops.size/\k≠i/\a5j ops.toList k=some t
   ·obtain ⟨k,hk,hki,hdk⟩:=hex
    obtain ⟨o',ho',hd'⟩:=c8w k t hdk
    have uniq:∀m,m<ops.size->m≠k->a5j ops.toList m≠some t:=fun m hm hmk hdm=>by
     obtain ⟨o'',c5o,hd''⟩:=c8w m t hdm
     exact hc.dst m k o'' o' t c5o ho' hmk hd' hd''
    rcases hc.look i k o o' t ho ho' (fun e=>hki e.symm) hd' ht with h|h
    ·have h1:=h.lt hc
     rw [a4d (j:=k) hk (c8x k h) hdk uniq,a4d (j:=k) hk (by simp [h1]) hdk uniq]
    ·have h1:=h.lt hc
     have h2:=c5n k h
     rw [a2j fun j hj hs hdj=>?_,a2j fun j hj hs hdj=>?_]
     ·by_cases e:j=k
      ·subst e
       have:j<i:=by simpa using hs
       omega
      ·exact uniq j hj e hdj
     ·by_cases e:j=k
      ·subst e
       rw [h2] at hs;cases hs
      ·exact uniq j hj e hdj
   ·rw [a2j fun j hj hs hdj=>?_,a2j fun j hj hs hdj=>?_]
    ·by_cases e:j=i
     ·subst e
      have:j<j:=by simp at hs
      omega
     ·exact hex ⟨j,hj,e,hdj⟩
    ·by_cases e:j=i
     ·subst e
      rw [hiF] at hs;cases hs
     ·exact hex ⟨j,hj,e,hdj⟩
  have hBT:B.T=Ai.T:=by rw [<-hB,<-hA,a42,a42]
  have evs:∀x∈o.op.operands.toList,B.eval x=Ai.eval x:=fun x hx=>b43 fun t e=>slots t (b42 (by rw [<-e];exact hx))
  have alike:Alike o.op Ai B:=by
   refine ⟨hBT,evs,fun hf x hx id hid hu=>?_⟩
   have hbB:B.H id≠.a0b:=(hr.eval x).born (by rw [evs x hx];exact hid)
   rw [<-hB] at hbB ⊢
   rw [hAi] at hu ⊢
   refine a6K fun j hj hn=>?_
   by_cases e:j=i
   ·subst e
    rw [hiF];simp
   ·obtain ⟨o',ho'⟩:=hEs j hj
    have hf':=b2u j o' ho' id hn
    obtain ⟨ob,hob⟩:=Option.ne_none_iff_exists'.1 hn
    rcases ((hE j o' ho').own id ob hob).2 with ⟨q1,q2⟩|⟨⟨qd,q1⟩|⟨q1,_⟩,q2⟩
    ·rw [T0 j] at q1
     obtain ⟨u1,u2⟩:=unb tr j (by omega) id q2
     have hji:j<i:=by
      rcases Nat.lt_or_ge j i with h|h
      ·exact h
      ·exfalso
       apply hu
       rw [a05 fun k hk hs=>u2 k (by have:k<i:=(by simpa using hs);omega) rfl]
       exact u1
     have hjS:listed.getD j false=true:=by
      by_cases hex:∃k,k<ops.size/\listed.getD k false=true/\(E k).N id≠none
      ·obtain ⟨k,hk,hks,hkn⟩:=hex
       by_cases ekj:k=j
       ·rw [<-ekj];exact hks
       ·obtain ⟨o'',c5o⟩:=hEs k hk
        obtain ⟨ob2,d6l⟩:=Option.ne_none_iff_exists'.1 hkn
        rcases ((hE k o'' c5o).own id ob2 d6l).2 with ⟨r1,_⟩|⟨⟨rd,r1⟩|⟨r1,_⟩,r2⟩
        ·rw [T0 k] at r1
         exact (ekj (b0x k j o'' o' id c5o ho' r1 q1)).elim
        ·rcases hH k j o'' o' c5o ho' ekj rd r1 hf' with h|h
         ·exact h.mem hcl fun o3 e3 ho3 he3 hb3=>hcl k o3 e3 hks ho3 he3 hb3
         ·have hkj:=h.lt hc
          exfalso
          apply r2
          rw [a05 fun m hm hs=>u2 m (by omega) rfl]
          exact u1
        ·exact (hW k id r1 (d0W q1)).elim
      ·exfalso
       apply hbB
       rw [a05 fun m hm hs=>?_]
       ·exact u1
       ·by_cases hnn:(E m).N id=none
        ·exact hnn
        ·exact (hex ⟨m,hm,hs,hnn⟩).elim
     rw [hjS];simp [hji]
    ·rcases hH j i o' o ho' ho e qd q1 hf with h|h
     ·have:=h.lt hc
      rw [c5n j h]
      have:¬j<i:=by omega
      simp [this]
     ·have:=h.lt hc
      rw [c8x j h];simp [this]
    ·rcases hDi j o' ho' e hf id q1 with h|h|h
     ·exact (h x hx hid).elim
     ·have:=h.lt hc
      rw [c5n j h]
      have:¬j<i:=by omega
      simp [this]
     ·have:=h.lt hc
      rw [c8x j h];simp [this]
  have fresh:∀id,(E i).N id≠none->Ai.H id=.a0b->B.H id=.a0b:=fun id hn hu=>by
   rw [<-hA] at hu
   obtain ⟨u1,u2⟩:=unb tr i (by omega) id hu
   rw [<-hB,a05 fun k hk hs=>?_]
   ·exact u1
   ·rcases Nat.lt_or_ge k i with h|h
    ·exact u2 k h rfl
    ·by_cases e:k=i
     ·subst e;rw [hiF] at hs;cases hs
     ·exact apart k (by omega) hs id hn
  have d0X:os i=true->B=Ai:=fun hos=>by
   rw [<-hB,hAi]
   refine a1W fun j hj=>?_
   by_cases e:j=i
   ·subst e;rw [hiF];simp
   ·rcases hO i j hin hj hos e with h|h
    ·have:=h.lt hc
     rw [c8x j h];simp [this]
    ·have:=h.lt hc
     rw [c5n j h]
     have:¬j<i:=by omega
     simp [this]
  have hgo:=hei.go B d0X alike (fun j want d hg hd=>slots d (b0Z hg hd)) fresh
  have hdd:∀d,o.dst=some d->d<a.tmps.size:=fun d hd'=>by
   have:=List.all_eq_true.1 hd o (by simpa using Array.mem_of_getElem? ho)
   rw [hd'] at this
   rw [ha]
   simpa using this
  refine wpOp_mono (fun a' w' h=>?_) (a9I ho hr hdd hgo)
  obtain ⟨g1,ρ',st',g2,g3⟩:=h
  subst g3
  rw [<-hnext] at g2
  refine ih _ ρ' a' w' (by simpa using hsz) ?_ ?_ (g1.trans ha) g2
  ·have hlt:(List.range ops.size).countP (fun j=>!(listed.setIfInBounds i true).getD j false)<(List.range ops.size).countP (fun j=>!listed.getD j false):=by
    refine a9L (i:=i) (by simpa using hin) (fun j hj=>?_) (by simp only [hiF,Bool.not_false]) ?_
    ·simp only [Array.getD_eq_getD_getElem?,Array.getElem?_setIfInBounds] at hj ⊢
     by_cases e:i=j
     ·subst e;simp [hil] at hj
     ·rw [if_neg e] at hj;exact hj
    ·simp [hil]
   omega
  ·intro j o' e hj ho' he hb
   simp only at hj ⊢
   have get:∀k,(listed.setIfInBounds i true).getD k false=(listed.getD k false||decide (k=i)):=fun k=>by
    simp only [Array.getD_eq_getD_getElem?,Array.getElem?_setIfInBounds]
    by_cases e:k=i
    ·subst e;simp [hil]
    ·have e':¬i=k:=fun h=>e h.symm
     simp [e,e']
   rw [get] at hj ⊢
   rw [Bool.or_eq_true] at hj ⊢
   rcases hj with hj|hj
   ·exact .inl (hcl j o' e hj ho' he hb)
   ·have:j=i:=by simpa using hj
    subst this
    rw [ho] at ho';cases ho'
    exact .inl (b6Z e he hb)
theorem a1A.draw {C:Ctx P} {H:Heap} {ρ:Lies} {w:World} (h:a1A C H ρ w):a1A C H ρ {w with drawn:=w.drawn+1}:=by
 have hk:a1c w {w with drawn:=w.drawn+1} (Fr C H ρ) (Fr C H ρ) H H ρ ρ:=⟨Nat.le_refl _,fun _ _ h _=>⟨h,rfl⟩,fun _ h=>⟨h,fun l=>⟨l,rfl⟩⟩⟩
 refine ⟨h.below.drew,fun id e sz frz rows hi=>?_,h.inj,h.fin,h.maps.keep (ρ':=ρ) ⟨Nat.le_refl _,fun _ _ hf _=>⟨hf,rfl⟩,fun _ hi=>⟨hi,fun l=>⟨l,rfl⟩⟩⟩ (fun id ag es q=>⟨q,rfl,fun _ _ _ _=>rfl⟩) (fun id b c s q l=>by rw [q] at l;cases l) fun _ _=>rfl⟩
 obtain ⟨r1,r2⟩:=h.row id e sz frz rows hi
 refine ⟨r1,r2.imp_right fun ⟨b,cap,cur,q1,q2,q3,q4,q5,q6,q7⟩=>⟨b,cap,cur,q1,q2,q3,q4,q5,q6,fun i j r c hr hc=>?_⟩⟩
 obtain ⟨v,v1,v2,v3⟩:=q7 i j r c hr hc
 exact ⟨v,v1,v2,v3.keep hk⟩
theorem Rel.draw {C:Ctx P} {ρ:Lies} {st:St} {a:Act} {w:World} (h:Rel C ρ st a w):Rel C ρ st a {w with drawn:=w.drawn+1}:=by
 have hk:a1c w {w with drawn:=w.drawn+1} (Fr C st.H ρ) (Fr C st.H ρ) st.H st.H ρ ρ:=⟨Nat.le_refl _,fun _ _ h _=>⟨h,rfl⟩,fun _ h=>⟨h,fun l=>⟨l,rfl⟩⟩⟩
 exact ⟨h.heap.draw,fun t=>(h.slot t).keep hk,h.a6a,C.b0v hk h.ghost,h.nf⟩
theorem b44 {ops:Array Oper} {js:List Nat} {prs:List (Nat×Nat)} (h:dOK ops js prs=true):∀(j k:Nat) (o o':Oper),ops[j]?=some o->ops[k]?=some o'->j≠k->js.contains j=true\/writer o.op=true->hfree o'.op=false->
  (js.contains j=true/\(j,k)∈prs)\/Anc ops j k\/Anc ops k j:=by
 unfold dOK at h
 simp only at h
 intro j k o o' hj hk hne hw hf
 have b9E:=a45 (ops:=ops) ops.toList [] (fun j k h=>by simp at h) (fun i=>by simp)
 have h1:=List.all_eq_true.1 h (o,j) (by rw [List.mem_zipIdx_iff_getElem?];simpa using hj)
 rw [Bool.and_eq_true] at h1
 have h2:=h1.2
 have hw':(js.contains j||writer o.op)=true:=by rcases hw with e|e<;>rw [e]<;>simp
 simp only [hw',Bool.not_true,Bool.false_or] at h2
 have h3:=List.all_eq_true.1 h2 (o',k) (by rw [List.mem_zipIdx_iff_getElem?];simpa using hk)
 simp only [Bool.or_eq_true,beq_iff_eq,hf,Bool.false_eq_true,or_false,Bool.and_eq_true] at h3
 rcases h3 with (h|h|h)|h
 ·exact (hne h).elim
 ·exact .inr (.inl (b9E _ _ h))
 ·exact .inr (.inr (b9E _ _ h))
 ·exact .inl ⟨h.1,by simpa using h.2⟩
theorem b9T {ops:Array Oper} {js:List Nat} {prs:List (Nat×Nat)} (h:dOK ops js prs=true) (i k:Nat) (hi:i<ops.size) (hk:k<ops.size) (hp:prs.contains (i,i)=true) (hne:k≠i):Anc ops i k\/Anc ops k i:=by
 unfold dOK at h
 simp only at h
 have b9E:=a45 (ops:=ops) ops.toList [] (fun j k h=>by simp at h) (fun i=>by simp)
 have h1:=List.all_eq_true.1 h (ops[i],i) (by rw [List.mem_zipIdx_iff_getElem?];simp [hi])
 rw [Bool.and_eq_true,Bool.and_eq_true] at h1
 have h2:=h1.1.2
 simp only [hp,Bool.not_true,Bool.false_or] at h2
 have h3:=List.all_eq_true.1 h2 (ops[k],k) (by rw [List.mem_zipIdx_iff_getElem?];simp [hk])
 simp only [Bool.or_eq_true,beq_iff_eq] at h3
 rcases h3 with h|h|h
 ·exact (hne h.symm).elim
 ·exact .inl (b9E _ _ h)
 ·exact .inr (b9E _ _ h)
theorem a8y (hm:P.follows .mixedOrders=true):b2H P a0q:=by
 intro C n ops id K Q ρ st a w hcalm hd ha hr hQ hp hk
 have hc:=b9S hcalm
 have core:∀{E:Nat->Eff} {js:List Nat} {Wf:Nat->List Id} {os:Nat->Bool},
   (∀i k,i<ops.size->k<ops.size->os i=true->k≠i->Anc ops i k\/Anc ops k i)->
   (∀i o,ops[i]?=some o->a6J P ops (os i) (js.contains i) (Wf i) o (replay (a5j ops.toList) E st tr i) (E i))->
   (∀(j k:Nat) (o o':Oper),ops[j]?=some o->ops[k]?=some o'->j≠k->js.contains j=false->writer o.op=true->hfree o'.op=false->Anc ops j k\/Anc ops k j)->
   (∀(j k:Nat) (o o':Oper),ops[j]?=some o->ops[k]?=some o'->j≠k->hfree o'.op=false->∀id∈Wf j,(∀x∈o'.op.operands.toList,¬idV id ((replay (a5j ops.toList) E st tr k).eval x))\/Anc ops j k\/Anc ops k j)->
   (∀j,∀id∈Wf j,id.1≠st.T)->
   K (replay (a5j ops.toList) E st tr ops.size)->(Code.region id ops true).wp P Q a w:=fun {E js Wf os} hO hE hH hD hW h2=>by
  refine wp_region_any hm (b7u hc hd hQ hO hE hH hD hW h2 ops.size _ ρ a _ (by simp) ?_ ?_ ha ?_)
  ·exact Nat.le_trans List.countP_le_length (by simp)
  ·intro j o e hj ho he hb
   simp only [Array.getD_eq_getD_getElem?,Array.getElem?_replicate] at hj
   split at hj<;>cases hj
  ·rw [a1W (S':=fun _=>false) fun j hj=>by simp [Array.getD_eq_getD_getElem?,Array.getElem?_replicate,hj]]
   have:∀m,replay (a5j ops.toList) E st (fun _=>false) m=st:=fun m=>by
    induction m with
    |zero=>rfl
    |succ m ih=>rw [replay];simpa using ih
   rw [this]
   exact hr.draw
 rcases hk with ⟨hk,hh⟩|⟨_,js,prs,hdk,hk⟩
 ·obtain ⟨E,h1,h2⟩:=b2L ops.toList st hk
  refine core (js:=[]) (Wf:=fun _=>[]) (os:=fun _=>false) (fun _ _ _ _ h=>by cases h) (fun i o ho=>?_) (fun j k o o' hj hk' hne _ hw hf=>?_) (fun j k o o' _ _ _ _ id h=>by simp at h) (fun j id h=>by simp at h) (by simpa using h2)
  ·exact h1 i o (by simpa using ho)
  ·rcases b44 (hh rfl) j k o o' hj hk' hne (.inr hw) hf with h|h
   ·simp at h
   ·exact h
 ·obtain ⟨E,W,N,h1,h2,_,_,h7,h5,h6⟩:=a47 ops.toList 0 [] [] st hk
  refine core (js:=js) (Wf:=c5s W) (os:=fun i=>prs.contains (i,i)) (fun i k hi hk hp hne=>b9T hdk i k hi hk hp hne) (fun i o ho=>?_) (fun j k o o' hj hk' hne hjs hw hf=>?_) (fun j k o o' hj hk' hne hf id hid=>?_) (fun j id hid=>(h5 _ (a6e.1 hid)).1) (by simpa using h6)
  ·have:=h1 i o (by simpa using ho)
   rw [Nat.zero_add] at this
   exact this
  ·rcases b44 hdk j k o o' hj hk' hne (.inr hw) hf with h|h
   ·rw [hjs] at h;cases h.1
   ·exact h
  ·have hn:=fun x hx hp=>h2 k o' (by simpa using hk') (by rw [Nat.zero_add];exact hp) x hx
   by_cases hjs:js.contains j=true
   ·rcases b44 hdk j k o o' hj hk' hne (.inl hjs) hf with h|h
    ·left
     intro x hx hi
     have hp:prs.any (·.2==k)=true:=List.any_eq_true.2 ⟨(j,k),h.2,by simp⟩
     have:=hn x hx hp
     rw [Nat.zero_add] at this
     exact (h5 _ (a6e.1 hid)).2 _ this h.2 hi
    ·exact .inr h
   ·exact (hjs ((h7 _ (a6e.1 hid)).resolve_left (by simp))).elim
open Go
variable {P:Program}
structure SO where
 dst:Option Nat
 op:Op
 g:Option (Option Nat×Bool)
inductive SC where
 |skip
 |region (id:Nat) (ops:List SO) (draw:Bool)
 |seq (x y:SC)
 |cond (c:Operand) (x y:SC)
 |block (id:Nat) (x:SC)
 |loop (x:SC)
 |exit (id:Nat)
 |ret
 |no
 |a2R (id:Nat) (ops:List SO) (js:List Nat) (prs:List (Nat×Nat))
def a4F (ops:Array Oper) (l:List Oper):List SO:=l.map fun o=>⟨o.dst,o.op,o.guard.map fun q=>(a6z ops q.1,q.2)⟩
def b0z:Code->SC
 |.skip=>.skip
 |.region id ops draw=>.region id (a4F ops ops.toList) draw
 |.seq x y=>.seq (b0z x) (b0z y)
 |.cond c x y=>.cond c (b0z x) (b0z y)
 |.block id x=>.block id (b0z x)
 |.loop x=>.loop (b0z x)
 |.exit id=>.exit id
 |.ret=>.ret
 |_=>.no
def unK:SC->SC
 |.a2R id ops _ _=>.region id ops true
 |.seq x y=>.seq (unK x) (unK y)
 |.cond c x y=>.cond c (unK x) (unK y)
 |.block id x=>.block id (unK x)
 |.loop x=>.loop (unK x)
 |s=>s
def kOK:Code->SC->Bool
 |.region _ ops d,.a2R _ _ js prs=>d&&dOK ops js prs
 |.region _ ops d,.region ..=>!d||c2d ops
 |.seq x y,.seq x' y'=>kOK x x'&&kOK y y'
 |.cond _ x y,.cond _ x' y'=>kOK x x'&&kOK y y'
 |.block _ x,.block _ x'=>kOK x x'
 |.loop x,.loop x'=>kOK x x'
 |_,.a2R ..=>false
 |_,_=>true
def a0r (b:Option Code) (s:SC):Option (SC×Bool):=b.map fun c=>(b0z c,kOK c s)
inductive Ent where
 |pu (h:List AV->Option (Prop×AV))
 |mu (h:MH)
abbrev CT:=List (FuncId×Ent)
def a0c:CT->FuncId->Option Ent
 |[],_=>none
 |(g,h)::r,f=>if f=g then some h else a0c r f
def b45 (P:Program) (f:FuncId) (h:List AV->Option (Prop×AV)):Prop:=∀args C ret,h args=some (C,ret)->C->PEv P f args ret
def c2i (P:Program) (f:FuncId):Ent->Prop
 |.pu h=>b45 P f h
 |.mu h=>a5J P f h
def a07 (P:Program):CT->Prop
 |[]=>True
 |(f,h)::r=>c2i P f h/\a07 P r
theorem a6f:∀{F:CT} {f:FuncId} {h},a07 P F->a0c F f=some h->c2i P f h
 |[],_,_,_,h=>by simp [a0c] at h
 |(g,h')::r,f,h,hF,hg=>by
  unfold a0c at hg
  split at hg
  ·rename_i e;subst e;cases hg;exact hF.1
  ·exact a6f hF.2 hg
def a7m (P:Program) (F:CT) (dr:Bool) (st:St) (dst:Option Nat) (f:FuncId) (args:List AV) (K:St->Prop):Prop:=
 match a0c F f with
 |some (.pu h)=>match a3c st.H args with
  |some args'=>match h args' with
   |some (C,ret)=>C/\a4R (a1P st dst) st.H 0 ret.flat/\(dr=true->ret.flat.length<=1024/\dst.isSome=true)/\K (b7k st dst ret)
   |none=>False
  |none=>False
 |some (.mu h)=>match h st.H args with
  |some (C,us,ret)=>C/\dr=false/\a4R (a1P st dst) st.H 0 ret.flat/\K (a9u st dst us ret)
  |none=>False
 |none=>a6y P dr st dst f args K
def b46:Operand->Bool
 |.const (.slice none 0 0)=>true
 |_=>false
def stepS (P:Program) (F:CT) (dr:Bool) (dst:Option Nat) (op:Op) (st:St) (K:St->Prop):Prop:=
 match op with
 |.call c=>
  match c.callee with
  |.builtin b=>abi P dst b c.args.toList c.argTypes.toList st K
  |.value f=>match st.eval f with
   |.c (.fn g caps)=>a7m P F dr st dst g (c.args.toList.map st.eval++caps.map .c) K
   |_=>False
  |.invoke _ _=>False
 |.binOp op t x y t'=>if b46 y=true then dr=false/\b8T P dst op t (st.eval x) (st.eval y) st K else aop P dst (.binOp op t x y t') st K
 |op=>aop P dst op st K
def a9M (P:Program) (F:CT) (dr:Bool):List SO->(St->Prop)->St->Prop
 |[],K,st=>K st
 |o::rest,K,st=>
  match o.g with
  |none=>stepS P F dr o.dst o.op st (a9M P F dr rest K)
  |some (gs,want)=>agd gs want st (fun st=>stepS P F dr o.dst o.op st (a9M P F dr rest K)) (fun st=>a9M P F dr rest K (st.put o.dst (.c (.raw undef))))
def St.tick (st:St):St:={st with T:=st.T+1}
def a3V (P:Program) (F:CT) (o:SO) (st:St) (K:List Id->St->Prop):Prop:=
 match o.g,o.op with
 |none,.call c=>
  match c.callee with
  |.value f=>match st.eval f with
   |.c (.fn g caps)=>match a0c F g with
    |some (.mu h)=>match h st.H (c.args.toList.map st.eval++caps.map .c) with
     |some (C,us,ret)=>C/\a4R (a1P st o.dst) st.H 0 ret.flat/\(ret.flat.length<=1024/\o.dst.isSome=true)/\K (us.map (·.1)) (a9u st o.dst us ret)
     |none=>False
    |_=>False
   |_=>False
  |_=>False
 |none,.store t x v=>
  match st.eval x with
  |.c (.pt id _ _)=>aop P o.dst (.store t x v) st (K [id])
  |_=>False
 |_,_=>False
def c8C (P:Program) (F:CT) (st:St) (dst:Option Nat) (f:FuncId) (args:List AV) (K:St->Prop):Prop:=∃v,a7m P F false st dst f args (·=st.put dst v)/\K (st.put dst v)
def a5Q (P:Program) (F:CT) (dst:Option Nat) (op:Op) (st:St) (K:St->Prop):Prop:=
 match op with
 |.call c=>
  match c.callee with
  |.value f=>match st.eval f with
   |.c (.fn g caps)=>c8C P F st dst g (c.args.toList.map st.eval++caps.map .c) K
   |_=>False
  |_=>False
 |_=>False
def a7E (P:Program) (F:CT) (js:List Nat) (prs:List (Nat×Nat)):List SO->Nat->List (Nat×Id)->List (Nat×AV)->(List (Nat×Id)->List (Nat×AV)->St->Prop)->St->Prop
 |[],_,W,N,K,st=>K W N st
 |o::rest,i,W,N,K,st=>
  if prs.contains (i,i)=true then
   match o.g with
   |none=>a5Q P F o.dst o.op st (a7E P F js prs rest (i+1) W (if prs.any (·.2==i)=true then a2L i o.op st++N else N) K)
   |some (gs,want)=>agd gs want st (fun st'=>a5Q P F o.dst o.op st' (a7E P F js prs rest (i+1) W (if prs.any (·.2==i)=true then a2L i o.op st++N else N) K)) (fun st'=>a7E P F js prs rest (i+1) W (if prs.any (·.2==i)=true then a2L i o.op st++N else N) K (st'.put o.dst (.c (.raw undef))))
  else if js.contains i=true then a3V P F o st fun W' st'=>a7E P F js prs rest (i+1) (W'.map (fun id=>(i,id))++W) (if prs.any (·.2==i)=true then a2L i o.op st++N else N) K st'
  else
   match o.g with
   |none=>stepS P F true o.dst o.op st (a7E P F js prs rest (i+1) W (if prs.any (·.2==i)=true then a2L i o.op st++N else N) K)
   |some (gs,want)=>agd gs want st (fun st'=>stepS P F true o.dst o.op st' (a7E P F js prs rest (i+1) W (if prs.any (·.2==i)=true then a2L i o.op st++N else N) K))
     (fun st'=>a7E P F js prs rest (i+1) W (if prs.any (·.2==i)=true then a2L i o.op st++N else N) K (st'.put o.dst (.c (.raw undef))))
def a4G (P:Program) (F:CT):SC->(AEx->St->Prop)->St->Prop
 |.skip,Q,st=>Q .normal st
 |.region _ ops draw,Q,st=>a9M P F draw ops (fun st=>Q .normal st.tick) st
 |.seq x y,Q,st=>a4G P F x (a2V (fun st'=>∃vs,a6c P vs st'/\a4G P F y Q vs) Q) st
 |.cond c x y,Q,st=>
  match st.eval c with
  |.c (.raw (.bool b))=>(b=true->a4G P F x Q st)/\(b=false->a4G P F y Q st)
  |_=>False
 |.block id x,Q,st=>a4G P F x (a2M id Q) st
 |.loop x,Q,st=>∃(ι:Type) (v:ι->St) (μ:ι->Nat) (i:ι),a6c P (v i) st/\∀i,a4G P F x (a2V (fun st'=>∃j,μ j<μ i/\a6c P (v j) st') Q) (v i)
 |.exit id,Q,st=>Q (.exit id) st
 |.ret,Q,st=>Q .ret st
 |.no,_,_=>False
 |.a2R _ ops js prs,Q,st=>a7E P F js prs ops 0 [] [] (fun W N st'=>(∀x∈W,x.2.1≠st.T/\∀y∈N,(x.1,y.1)∈prs->¬idV x.2 y.2)/\Q .normal st'.tick) st
def a14 (P:Program) (F:CT):SC->(AEx->St->Prop)->St->Prop
 |.skip,Q,st=>Q .normal st
 |.region _ ops draw,Q,st=>a9M P F draw ops (fun st=>Q .normal st.tick) st
 |.seq x y,Q,st=>a14 P F x (a2V (a14 P F y Q) Q) st
 |.cond c x y,Q,st=>
  match st.eval c with
  |.c (.raw (.bool b))=>(b=true->a14 P F x Q st)/\(b=false->a14 P F y Q st)
  |_=>False
 |.block id x,Q,st=>a14 P F x (a2M id Q) st
 |.loop x,Q,st=>a4G P F (.loop x) Q st
 |.exit id,Q,st=>Q (.exit id) st
 |.ret,Q,st=>Q .ret st
 |.no,_,_=>False
 |.a2R _ ops js prs,Q,st=>a7E P F js prs ops 0 [] [] (fun W N st'=>(∀x∈W,x.2.1≠st.T/\∀y∈N,(x.1,y.1)∈prs->¬idV x.2 y.2)/\Q .normal st'.tick) st
theorem a6L {F:CT} (hF:a07 P F) {dr:Bool} {st:St} {dst:Option Nat} {f:FuncId} {args:List AV} {K:St->Prop} (h:a7m P F dr st dst f args K):a6y P dr st dst f args K:=by
 unfold a7m at h
 split at h
 ·rename_i g hg
  split at h
  ·rename_i args' ha
   split at h
   ·rename_i D ret hr
    obtain ⟨h1,h2,h3,h4⟩:=h
    exact .inl ⟨false,args',ret,ha,a6f hF hg args' D ret hr h1,h2,h3,h4⟩
   ·exact h.elim
  ·exact h.elim
 ·rename_i g hg
  split at h
  ·rename_i D us ret hr
   obtain ⟨h1,h2,h3,h4⟩:=h
   have ck:=(a6f hF hg).go (dst:=dst) hr h1 h3
   refine .inr ⟨h2,ck.1,fun C ρ a w vs q1 q2 q3=>(ck.2 C ρ a w vs q1 q2 q3).mono fun e w' ⟨v,e1,ρ',r,H',T',g1,g2,g3,g4,g5⟩=>⟨v,e1,ρ',r,H',T',g1,g2,?_⟩⟩
   subst g3 g4 g5
   exact h4
  ·exact h.elim
 ·exact h
theorem a7F {dr:Bool} {st:St} {dst:Option Nat} {f:FuncId} {args:List AV} {K K':St->Prop} (hk:∀st,K st->K' st) (h:a6y P dr st dst f args K):a6y P dr st dst f args K':=by
 rcases h with ⟨m,args',ret,h1,h2,h3,h4,h5⟩|⟨h1,h2,h3⟩
 ·exact .inl ⟨m,args',ret,h1,h2,h3,h4,hk _ h5⟩
 ·refine .inr ⟨h1,h2,fun C ρ a w vs hr hs hv=>Calls.mono (h3 C ρ a w vs hr hs hv) fun e w' ⟨v,e1,ρ',ret,H',T',q1,q2,q3⟩=>⟨v,e1,ρ',ret,H',T',q1,q2,hk _ q3⟩⟩
theorem a3v {F:CT} (hF:a07 P F) {dr:Bool} {dst:Option Nat} {op:Op} {st:St} {K:St->Prop} (h:stepS P F dr dst op st K):a0D P dr dst op st K:=by
 cases op with
 |call c=>
  simp only [stepS] at h
  simp only [a0D]
  split
  ·rename_i b hb
   rw [hb] at h
   exact h
  ·rename_i f hf
   rw [hf] at h
   simp only at h
   split at h
   ·rename_i g caps hfe
    rw [hfe]
    exact a6L hF h
   ·exact h.elim
  ·rename_i r m hr
   rw [hr] at h
   exact h.elim
 |binOp op t x y t'=>
  simp only [stepS] at h
  simp only [a0D]
  split at h
  ·exact .inr h
  ·exact .inl h
 |_=>exact h
theorem a2k {st:St} {dst:Option Nat} {e sz:Nat} {rows:List (List AC)} {v:Id->AC} {K K':St->Prop} (hk:∀st,K st->K' st) (h:newObj st dst e sz rows v K):newObj st dst e sz rows v K':=by
 cases dst with
 |none=>exact h
 |some d=>exact ⟨h.1,hk _ h.2⟩
theorem a2D {gs:Option Nat} {want:Bool} {st:St} {y n y' n':St->Prop} (hy:∀st,y st->y' st) (hn:∀st,n st->n' st) (h:agd gs want st y n):agd gs want st y' n':=by
 unfold agd at *
 split at h
 ·split at h
  ·exact ⟨fun e=>hy _ (h.1 e),fun e=>hn _ (h.2 e)⟩
  ·exact hn _ h
  ·exact h
 ·exact h
theorem a3w {dst:Option Nat} {op:Op} {st:St} {K K':St->Prop} (hk:∀st,K st->K' st) (h:aop P dst op st K):aop P dst op st K':=by
 cases op
 case unOp o t x=>
  cases o<;>simp only [aop] at h ⊢
  repeat' split at h
  all_goals first
   |exact hk _ h
   |exact h.elim
 case makeMap t r=>
  cases r<;>simp only [aop] at h ⊢
  repeat' split at h
  all_goals first
   |exact ⟨h.1,hk _ h.2⟩
   |exact h.elim
 case lookup t x ix ok=>
  simp only [aop] at h ⊢
  split at h
  ·split at h
   ·exact ⟨h.1,hk _ h.2⟩
   ·exact h.elim
  ·exact h.elim
 case makeFunc f a b=>
  cases f<;>simp only [aop] at h ⊢
  repeat' split at h
  all_goals first
   |exact ⟨h.1,hk _ h.2⟩
   |exact h.elim
 all_goals simp only [aop] at h ⊢
 all_goals repeat' split at h
 all_goals first
  |exact hk _ h
  |exact h.elim
  |exact ⟨fun e=>hk _ (h.1 e),fun e=>hk _ (h.2 e)⟩
  |exact ⟨h.1,hk _ h.2⟩
  |exact ⟨h.1,a2k hk h.2⟩
  |(rename_i hf;simp only [if_pos hf];exact ⟨h.1,a2k hk h.2⟩)
  |(rename_i hf;simp only [if_neg hf];exact ⟨h.1,hk _ h.2⟩)
  |exact ⟨h.1,h.2.1,a2k hk h.2.2⟩
  |exact ⟨h.1,h.2.1,hk _ h.2.2⟩
theorem b2M {dst:Option Nat} {b:Builtin} {args:List Operand} {ts:List TypeId} {st:St} {K K':St->Prop} (hk:∀st,K st->K' st) (h:abi P dst b args ts st K):abi P dst b args ts st K':=by
 unfold abi at h
 split at h
 ·simp only [abi]
  split at h<;>first|exact ⟨h.1,hk _ h.2⟩|exact h.elim
 ·simp only [abi]
  split at h<;>first|exact ⟨h.1,hk _ h.2⟩|exact h.elim
 ·simp only [abi]
  split at h<;>first|exact ⟨h.1,hk _ h.2⟩|exact h.elim
 ·simp only [abi]
  split at h
  ·exact ⟨h.1,a2k hk h.2⟩
  ·exact ⟨h.1,a2k hk h.2⟩
  ·split at h
   ·exact ⟨h.1,a2k hk h.2⟩
   ·exact h.elim
  ·exact h.elim
 ·simp only [abi]
  split at h
  ·split at h
   ·exact ⟨h.1,hk _ h.2⟩
   ·exact h.elim
  ·exact h.elim
 ·exact h.elim
theorem a9N {dst:Option Nat} {op:BinOp} {t:TypeId} {x y:AV} {st:St} {K K':St->Prop} (hk:∀st,K st->K' st) (h:b8T P dst op t x y st K):b8T P dst op t x y st K':=by
 unfold b8T at *
 split at h
 ·exact ⟨h.1,fun e=>hk _ (h.2.1 e),hk _ h.2.2⟩
 ·exact ⟨h.1,fun e=>hk _ (h.2.1 e),hk _ h.2.2⟩
 ·exact h
theorem a1X {dr:Bool} {dst:Option Nat} {op:Op} {st:St} {K K':St->Prop} (hk:∀st,K st->K' st) (h:a0D P dr dst op st K):a0D P dr dst op st K':=by
 cases op
 case call c=>
  simp only [a0D] at h ⊢
  split at h
  ·exact b2M hk h
  ·split at h
   ·exact a7F hk h
   ·exact h.elim
  ·exact h.elim
 case binOp op t x y t'=>
  simp only [a0D] at h ⊢
  exact h.imp (a3w hk) fun q=>⟨q.1,a9N hk q.2⟩
 all_goals (simp only [a0D] at h ⊢;exact a3w hk h)
theorem a4e {F:CT} (hF:a07 P F) {dr:Bool} {ops:Array Oper}:∀{l:List Oper} {K:St->Prop} {st:St},a9M P F dr (a4F ops l) K st->a2z P dr ops l K st
 |[],K,st,h=>h
 |o::l,K,st,h=>by
  unfold a4F at h
  rw [List.map_cons] at h
  unfold a9M at h
  unfold a2z
  simp only at h
  cases hg:o.guard with
  |none=>
   rw [hg] at h
   exact a1X (fun st h=>a4e hF h) (a3v hF h)
  |some q=>
   obtain ⟨j,want⟩:=q
   rw [hg] at h
   exact a2D (fun st h=>a1X (fun st h=>a4e hF h) (a3v hF h)) (fun st h=>a4e hF h) h
theorem a3x {dr:Bool} {ops:Array Oper}:∀{l:List Oper} {K K':St->Prop} {st:St},(∀st,K st->K' st)->a2z P dr ops l K st->a2z P dr ops l K' st
 |[],K,K',st,hk,h=>hk _ h
 |o::l,K,K',st,hk,h=>by
  unfold a2z at h ⊢
  split at h
  ·exact a1X (fun st h=>a3x hk h) h
  ·exact a2D (fun st h=>a1X (fun st h=>a3x hk h) h) (fun st h=>a3x hk h) h
theorem b3A {o:Oper} {st:St} {K K':List Id->St->Prop} (hk:∀W st,K W st->K' W st) (h:a5p P o st K):a5p P o st K':=by
 unfold a5p at h ⊢
 split at h
 ·split at h
  ·split at h
   ·obtain ⟨hh,C,us,ret,m1,m2,m3,m4,m5,m6⟩:=h
    exact ⟨hh,C,us,ret,m1,m2,m3,m4,m5,hk _ _ m6⟩
   ·exact h.elim
  ·exact h.elim
 ·split at h
  ·exact a3w (fun st h=>hk _ _ h) h
  ·exact h.elim
 ·exact h.elim
theorem b3B {ops:Array Oper} {o:Oper} {st:St} {K K':St->Prop} (hk:∀st,K st->K' st) (h:a4E P ops o st K):a4E P ops o st K':=by
 unfold a4E at h ⊢
 split
 ·rename_i hg
  rw [hg] at h
  exact h.imp fun v q=>⟨q.1,hk _ q.2⟩
 ·rename_i j want hg
  rw [hg] at h
  exact a2D (fun st h=>h.imp fun v q=>⟨q.1,hk _ q.2⟩) (fun st h=>hk _ h) h
theorem a3o {ops:Array Oper} {js:List Nat} {prs:List (Nat×Nat)}:∀{l:List Oper} {i:Nat} {W:List (Nat×Id)} {N:List (Nat×AV)} {K K':List (Nat×Id)->List (Nat×AV)->St->Prop} {st:St},(∀W N st,K W N st->K' W N st)->
  b4L P ops js prs l i W N K st->b4L P ops js prs l i W N K' st
 |[],i,W,N,K,K',st,hk,h=>hk _ _ _ h
 |o::l,i,W,N,K,K',st,hk,h=>by
  unfold b4L at h ⊢
  by_cases hp:prs.contains (i,i)=true
  ·rw [if_pos hp] at h ⊢
   exact b3B (fun st h=>a3o hk h) h
  rw [if_neg hp] at h ⊢
  by_cases hj:js.contains i=true
  ·rw [if_pos hj] at h ⊢
   exact b3A (fun W st h=>a3o hk h) h
  ·rw [if_neg hj] at h ⊢
   unfold a4W at h ⊢
   split
   ·rename_i hg
    rw [hg] at h
    exact a1X (fun st h=>a3o hk h) h
   ·rename_i j want hg
    rw [hg] at h
    exact a2D (fun st h=>a1X (fun st h=>a3o hk h) h) (fun st h=>a3o hk h) h
theorem b00 {dr:Bool} {ops:Array Oper} {K K':St->Prop} {st:St} (hk:∀st,K st->K' st) (h:a9v P dr ops K st):a9v P dr ops K' st:=by
 rcases h with h|⟨h1,js,prs,h2,h3⟩
 ·exact .inl ⟨a3x hk h.1,h.2⟩
 ·exact .inr ⟨h1,js,prs,h2,a3o (fun W N st h=>⟨h.1,hk _ h.2⟩) h3⟩
section
variable {F:CT} {st:St}
theorem b3C {dr:Bool} {dst:Option Nat} {f:FuncId} {args:List AV} {K K':St->Prop} (hk:∀st,K st->K' st) (h:a7m P F dr st dst f args K):a7m P F dr st dst f args K':=by
 unfold a7m at *
 split at h
 ·split at h
  ·split at h
   ·exact ⟨h.1,h.2.1,h.2.2.1,hk _ h.2.2.2⟩
   ·exact h
  ·exact h
 ·split at h
  ·exact ⟨h.1,h.2.1,h.2.2.1,hk _ h.2.2.2⟩
  ·exact h
 ·exact a7F hk h
theorem b01 {o:SO} {st:St} {K K':List Id->St->Prop} (hk:∀W st,K W st->K' W st) (h:a3V P F o st K):a3V P F o st K':=by
 unfold a3V at h ⊢
 split at h
 ·split at h
  ·split at h
   ·split at h
    ·split at h
     ·exact ⟨h.1,h.2.1,h.2.2.1,hk _ _ h.2.2.2⟩
     ·exact h
    ·exact h
   ·exact h
  ·exact h
 ·split at h
  ·exact a3w (fun st h=>hk _ _ h) h
  ·exact h
 ·exact h
theorem a4f {dr:Bool} {dst:Option Nat} {op:Op} {K K':St->Prop} (hk:∀st,K st->K' st) (h:stepS P F dr dst op st K):stepS P F dr dst op st K':=by
 cases op
 case call c=>
  simp only [stepS] at h ⊢
  split at h
  ·exact b2M hk h
  ·split at h
   ·exact b3C hk h
   ·exact h.elim
  ·exact h.elim
 case binOp op t x y t'=>
  simp only [stepS] at h ⊢
  split at h
  ·rename_i e;rw [if_pos e];exact ⟨h.1,a9N hk h.2⟩
  ·rename_i e;rw [if_neg e];exact a3w hk h
 all_goals (simp only [stepS] at h ⊢;exact a3w hk h)
theorem a3W {dr:Bool}:∀{l:List SO} {K K':St->Prop} {st:St},(∀st,K st->K' st)->a9M P F dr l K st->a9M P F dr l K' st
 |[],K,K',st,hk,h=>hk _ h
 |o::l,K,K',st,hk,h=>by
  unfold a9M at h ⊢
  split at h
  ·exact a4f (fun st h=>a3W hk h) h
  ·exact a2D (fun st h=>a4f (fun st h=>a3W hk h) h) (fun st h=>a3W hk h) h
theorem a6M {dst:Option Nat} {op:Op} {st:St} {K K':St->Prop} (hk:∀st,K st->K' st) (h:a5Q P F dst op st K):a5Q P F dst op st K':=by
 unfold a5Q at h ⊢
 split at h
 ·split at h
  ·split at h
   ·exact h.imp fun v q=>⟨q.1,hk _ q.2⟩
   ·exact h
  ·exact h
 ·exact h
theorem a18 {js:List Nat} {prs:List (Nat×Nat)}:∀{l:List SO} {i:Nat} {W:List (Nat×Id)} {N:List (Nat×AV)} {K K':List (Nat×Id)->List (Nat×AV)->St->Prop} {st:St},(∀W N st,K W N st->K' W N st)->a7E P F js prs l i W N K st->a7E P F js prs l i W N K' st
 |[],i,W,N,K,K',st,hk,h=>hk _ _ _ h
 |o::l,i,W,N,K,K',st,hk,h=>by
  unfold a7E at h ⊢
  by_cases hp:prs.contains (i,i)=true
  ·rw [if_pos hp] at h ⊢
   split at h
   ·exact a6M (fun st h=>a18 hk h) h
   ·exact a2D (fun st h=>a6M (fun st h=>a18 hk h) h) (fun st h=>a18 hk h) h
  rw [if_neg hp] at h ⊢
  split
  ·rename_i hj
   rw [if_pos hj] at h
   exact b01 (fun W st h=>a18 hk h) h
  ·rename_i hj
   rw [if_neg hj] at h
   split at h
   ·exact a4f (fun st h=>a18 hk h) h
   ·exact a2D (fun st h=>a4f (fun st h=>a18 hk h) h) (fun st h=>a18 hk h) h
theorem a1w:∀{c:SC} {Q Q':AEx->St->Prop} {st:St},(∀e st,Q e st->Q' e st)->a4G P F c Q st->a4G P F c Q' st
 |.skip,Q,Q',st,hq,h=>hq _ _ h
 |.region id ops d,Q,Q',st,hq,h=>a3W (fun st h=>hq _ _ h) h
 |.seq x y,Q,Q',st,hq,h=>a1w (c:=x) (fun e st h=>by cases e<;>first|exact h.imp fun vs g=>⟨g.1,a1w (c:=y) hq g.2⟩|exact hq _ _ h) h
 |.cond c x y,Q,Q',st,hq,h=>by
  unfold a4G at h ⊢
  split at h
  ·exact ⟨fun e=>a1w (c:=x) hq (h.1 e),fun e=>a1w (c:=y) hq (h.2 e)⟩
  ·exact h
 |.block id x,Q,Q',st,hq,h=>a1w (c:=x) (fun e st h=>by
   cases e with
   |exit j=>
    simp only [a2M] at h ⊢
    split
    ·rename_i hj;rw [if_pos hj] at h;exact hq _ _ h
    ·rename_i hj;rw [if_neg hj] at h;exact hq _ _ h
   |_=>exact hq _ _ h) h
 |.loop x,Q,Q',st,hq,h=>by
  obtain ⟨ι,v,μ,i,h1,h2⟩:=h
  exact ⟨ι,v,μ,i,h1,fun i=>a1w (c:=x) (fun e st h=>by cases e<;>first|exact h|exact hq _ _ h) (h2 i)⟩
 |.exit id,Q,Q',st,hq,h=>hq _ _ h
 |.ret,Q,Q',st,hq,h=>hq _ _ h
 |.no,_,_,_,_,h=>h.elim
 |.a2R id ops js prs,Q,Q',st,hq,h=>a18 (fun W N st h=>⟨h.1,hq _ _ h.2⟩) h
theorem a19:∀{c:SC} {Q Q':AEx->St->Prop} {st:St},(∀e st,Q e st->Q' e st)->a14 P F c Q st->a14 P F c Q' st
 |.skip,Q,Q',st,hq,h=>hq _ _ h
 |.region id ops d,Q,Q',st,hq,h=>a3W (fun st h=>hq _ _ h) h
 |.seq x y,Q,Q',st,hq,h=>a19 (c:=x) (fun e st h=>by cases e<;>first|exact a19 (c:=y) hq h|exact hq _ _ h) h
 |.cond c x y,Q,Q',st,hq,h=>by
  unfold a14 at h ⊢
  split at h
  ·exact ⟨fun e=>a19 (c:=x) hq (h.1 e),fun e=>a19 (c:=y) hq (h.2 e)⟩
  ·exact h
 |.block id x,Q,Q',st,hq,h=>a19 (c:=x) (fun e st h=>by
   cases e with
   |exit j=>
    simp only [a2M] at h ⊢
    split
    ·rename_i hj;rw [if_pos hj] at h;exact hq _ _ h
    ·rename_i hj;rw [if_neg hj] at h;exact hq _ _ h
   |_=>exact hq _ _ h) h
 |.loop x,Q,Q',st,hq,h=>a1w (c:=.loop x) hq h
 |.exit id,Q,Q',st,hq,h=>hq _ _ h
 |.ret,Q,Q',st,hq,h=>hq _ _ h
 |.no,_,_,_,_,h=>h.elim
 |.a2R id ops js prs,Q,Q',st,hq,h=>a18 (fun W N st h=>⟨h.1,hq _ _ h.2⟩) h
end
theorem a2A {F:CT}:∀{c:SC} {Q:AEx->St->Prop} {st:St},a14 P F c Q st->a4G P F c Q st
 |.skip,_,_,h|.region ..,_,_,h|.exit _,_,_,h|.ret,_,_,h|.no,_,_,h|.a2R ..,_,_,h|.loop _,_,_,h=>h
 |.seq x y,Q,st,h=>a1w (c:=x) (fun e st h=>by cases e<;>first|exact ⟨_,.refl _,a2A (c:=y) h⟩|exact h) (a2A (c:=x) h)
 |.cond c x y,Q,st,h=>by
  unfold a14 at h
  unfold a4G
  split at h
  ·exact ⟨fun e=>a2A (c:=x) (h.1 e),fun e=>a2A (c:=y) (h.2 e)⟩
  ·exact h
 |.block id x,Q,st,h=>a2A (c:=x) h
theorem a25:∀{c:Code} {Q Q':AEx->St->Prop} {st:St},(∀e st,Q e st->Q' e st)->awp P c Q st->awp P c Q' st
 |.skip,Q,Q',st,hq,h=>hq _ _ h
 |.region id ops d,Q,Q',st,hq,h=>b00 (fun st h=>hq _ _ h) h
 |.seq x y,Q,Q',st,hq,h=>a25 (c:=x) (fun e st h=>by cases e<;>first|exact h.imp fun vs g=>⟨g.1,a25 (c:=y) hq g.2⟩|exact hq _ _ h) h
 |.cond c x y,Q,Q',st,hq,h=>by
  unfold awp at h ⊢
  split at h
  ·exact ⟨fun e=>a25 (c:=x) hq (h.1 e),fun e=>a25 (c:=y) hq (h.2 e)⟩
  ·exact h
 |.block id x,Q,Q',st,hq,h=>a25 (c:=x) (fun e st h=>by
   cases e with
   |exit j=>
    simp only [a2M] at h ⊢
    split
    ·rename_i hj;rw [if_pos hj] at h;exact hq _ _ h
    ·rename_i hj;rw [if_neg hj] at h;exact hq _ _ h
   |_=>exact hq _ _ h) h
 |.loop x,Q,Q',st,hq,h=>by
  obtain ⟨ι,v,μ,i,h1,h2⟩:=h
  exact ⟨ι,v,μ,i,h1,fun i=>a25 (c:=x) (fun e st h=>by cases e<;>first|exact h|exact hq _ _ h) (h2 i)⟩
 |.exit id,Q,Q',st,hq,h=>hq _ _ h
 |.ret,Q,Q',st,hq,h=>hq _ _ h
 |.scope _,_,_,_,_,h=>h.elim
theorem a9O {F:CT} (hF:a07 P F) {o:Oper} {so:SO} (hd:so.dst=o.dst) (hop:so.op=o.op) (hg:so.g=none->o.guard=none) {st:St} {K K':List Id->St->Prop} (hk:∀W st,K W st->K' W st) (h:a3V P F so st K):a5p P o st K':=by
 unfold a3V at h
 split at h
 ·rename_i c h1 h2
  split at h
  ·rename_i f hf
   split at h
   ·rename_i g caps hv
    split at h
    ·rename_i hh hget
     split at h
     ·rename_i D us ret hr
      obtain ⟨q1,q2,q3,q4⟩:=h
      unfold a5p
      rw [hg h1,<-hop,h2]
      simp only [hf,hv]
      rw [hd] at q2 q3 q4
      exact ⟨hh,D,us,ret,a6f hF hget,hr,q1,q2,q3,hk _ _ q4⟩
     ·exact h.elim
    ·exact h.elim
   ·exact h.elim
  ·exact h.elim
 ·rename_i t x v h1 h2
  unfold a5p
  rw [hg h1,<-hop,h2]
  simp only
  split at h
  ·rename_i id i j hx
   rw [hx]
   rw [hd] at h
   exact a3w (fun st h=>hk _ _ h) h
  ·exact h.elim
 ·exact h.elim
theorem a5R {F:CT} (hF:a07 P F) {dst:Option Nat} {op:Op} {st:St} {K K':St->Prop} (hk:∀st,K st->K' st) (h:a5Q P F dst op st K):∃v,a0D P false dst op st (·=st.put dst v)/\K' (st.put dst v):=by
 unfold a5Q at h
 split at h
 ·rename_i c
  split at h
  ·rename_i f hf
   split at h
   ·rename_i g caps hv
    obtain ⟨v,h1,h2⟩:=h
    refine ⟨v,?_,hk _ h2⟩
    simp only [a0D]
    rw [hf]
    simp only
    rw [hv]
    exact a6L hF h1
   ·exact h.elim
  ·exact h.elim
 ·exact h.elim
theorem a1Y {F:CT} (hF:a07 P F) {ops:Array Oper} {js:List Nat} {prs:List (Nat×Nat)}:∀{l:List Oper} {i:Nat} {W:List (Nat×Id)} {N:List (Nat×AV)} {K:List (Nat×Id)->List (Nat×AV)->St->Prop} {st:St},
  a7E P F js prs (a4F ops l) i W N K st->b4L P ops js prs l i W N K st
 |[],i,W,N,K,st,h=>h
 |o::l,i,W,N,K,st,h=>by
  unfold a4F at h
  rw [List.map_cons] at h
  unfold a7E at h
  unfold b4L
  by_cases hp:prs.contains (i,i)=true
  ·rw [if_pos hp] at h ⊢
   simp only at h
   unfold a4E
   cases hg:o.guard with
   |none=>
    rw [hg] at h
    exact a5R hF (fun st h=>a1Y hF h) h
   |some q=>
    obtain ⟨j,want⟩:=q
    rw [hg] at h
    exact a2D (fun st h=>a5R hF (fun st h=>a1Y hF h) h) (fun st h=>a1Y hF h) h
  rw [if_neg hp] at h ⊢
  by_cases hj:js.contains i=true
  ·rw [if_pos hj] at h ⊢
   exact a9O hF (so:=⟨o.dst,o.op,o.guard.map fun q=>(a6z ops q.1,q.2)⟩) rfl rfl (fun h=>by simpa using h) (fun W st h=>a1Y hF h) h
  ·rw [if_neg hj] at h ⊢
   simp only at h
   unfold a4W
   cases hg:o.guard with
   |none=>
    rw [hg] at h
    exact a1X (fun st h=>a1Y hF h) (a3v hF h)
   |some q=>
    obtain ⟨j,want⟩:=q
    rw [hg] at h
    exact a2D (fun st h=>a1X (fun st h=>a1Y hF h) (a3v hF h)) (fun st h=>a1Y hF h) h
theorem a1C {F:CT} (hF:a07 P F):∀{c:Code} {s:SC} {Q:AEx->St->Prop} {st:St},b0z c=unK s->kOK c s=true->a4G P F s Q st->awp P c Q st
 |.skip,s,Q,st,hs,hk,h=>by cases s<;>first|exact h|cases hs
 |.region id ops d,s,Q,st,hs,hk,h=>by
  cases s with
  |region id' ops' d'=>
   simp only [b0z,unK,SC.region.injEq] at hs
   obtain ⟨rfl,rfl,rfl⟩:=hs
   simp only [kOK] at hk
   exact .inl ⟨a4e hF h,fun hd=>by rw [hd] at hk;simpa using hk⟩
  |a2R id' ops' js prs=>
   simp only [b0z,unK,SC.region.injEq] at hs
   obtain ⟨rfl,rfl,rfl⟩:=hs
   simp only [kOK,Bool.true_and] at hk
   exact .inr ⟨rfl,js,prs,hk,a1Y hF h⟩
  |_=>cases hs
 |.seq x y,s,Q,st,hs,hk,h=>by
  cases s with
  |seq x' y'=>
   simp only [b0z,unK,SC.seq.injEq] at hs
   simp only [kOK,Bool.and_eq_true] at hk
   exact a25 (c:=x) (fun e st h=>by cases e<;>first|exact h.imp fun vs g=>⟨g.1,a1C hF (c:=y) hs.2 hk.2 g.2⟩|exact h) (a1C hF (c:=x) hs.1 hk.1 h)
  |_=>cases hs
 |.cond c x y,s,Q,st,hs,hk,h=>by
  cases s with
  |cond c' x' y'=>
   simp only [b0z,unK,SC.cond.injEq] at hs
   obtain ⟨rfl,hs1,hs2⟩:=hs
   simp only [kOK,Bool.and_eq_true] at hk
   unfold a4G at h
   unfold awp
   split at h
   ·rename_i b hb
    rw [hb]
    exact ⟨fun e=>a1C hF (c:=x) hs1 hk.1 (h.1 e),fun e=>a1C hF (c:=y) hs2 hk.2 (h.2 e)⟩
   ·exact h.elim
  |_=>cases hs
 |.block id x,s,Q,st,hs,hk,h=>by
  cases s with
  |block id' x'=>
   simp only [b0z,unK,SC.block.injEq] at hs
   obtain ⟨rfl,hs⟩:=hs
   exact a1C hF (c:=x) hs hk h
  |_=>cases hs
 |.loop x,s,Q,st,hs,hk,h=>by
  cases s with
  |loop x'=>
   simp only [b0z,unK,SC.loop.injEq] at hs
   obtain ⟨ι,v,μ,i,h1,h2⟩:=h
   exact ⟨ι,v,μ,i,h1,fun i=>a1C hF (c:=x) hs hk (h2 i)⟩
  |_=>cases hs
 |.exit id,s,Q,st,hs,hk,h=>by
  cases s with
  |exit id'=>
   simp only [b0z,unK,SC.exit.injEq] at hs
   subst hs
   exact h
  |_=>cases hs
 |.ret,s,Q,st,hs,hk,h=>by cases s<;>first|exact h|cases hs
 |.scope _,s,_,_,hs,_,h=>by cases s<;>first|exact h.elim|cases hs
 |.label _,s,_,_,hs,_,h=>by cases s<;>first|exact h.elim|cases hs
 |.goto _,s,_,_,hs,_,h=>by cases s<;>first|exact h.elim|cases hs
 |.rangeFunc ..,s,_,_,hs,_,h=>by cases s<;>first|exact h.elim|cases hs
 |.refuse _,s,_,_,hs,_,h=>by cases s<;>first|exact h.elim|cases hs
theorem a7G {F:CT} (hF:a07 P F) {c:Code} {s:SC} {Q:AEx->St->Prop} {st:St} (hs:b0z c=unK s) (hk:kOK c s=true) (h:a14 P F s Q st):awp P c Q st:=a1C hF hs hk (a2A h)
theorem b9U (hm:P.follows .mixedOrders=true) {F:CT} (hF:a07 P F) {f:FuncId} {fn:Func} {s:SC} {args:List AV} {ret:AV} (hf:P.funcs[f]?=some fn) (hs:a0r fn.body s=some (unK s,true))
  (hok:a0R a0q fn 0=true) (hle:Nat.ble args.length fn.ntmps=true) (hret:∀c∈ret.flat,a6v c) (harg:∀x∈args,∀c∈x.flat,VOK c) (h:a4G P F s (b8U P fn ret) (a4Y args)):PEv P f args ret:=by
 cases hb:fn.body with
 |none=>rw [hb] at hs;cases hs
 |some c=>
  rw [hb] at hs
  simp only [a0r,Option.map_some,Option.some.injEq,Prod.mk.injEq] at hs
  refine c2g (a8y hm) hf hb ?_ hret harg (a1C hF hs.1 hs.2 h)
  simp only [a0R,hb,Bool.and_eq_true] at hok ⊢
  exact ⟨hok.1,by simpa using Nat.le_of_ble_eq_true hle⟩
theorem a0e (hm:P.follows .mixedOrders=true) {F:CT} (hF:a07 P F) {f:FuncId} {fn:Func} {s:SC} {args:List AV} {ret:AV} (hf:P.funcs[f]?=some fn) (hs:a0r fn.body s=some (unK s,true))
  (hok:a0R a0q fn 0=true) (hle:Nat.ble args.length fn.ntmps=true) (hret:∀c∈ret.flat,a6v c) (harg:∀x∈args,∀c∈x.flat,VOK c) (h:a14 P F s (b8U P fn ret) (a4Y args)):PEv P f args ret:=
 b9U hm hF hf hs hok hle hret harg (a2A h)
def St.hto (st:St) (H:Heap):St:={st with H:=H}
theorem c2j (st:St) (k:Nat):st.eval (.tmp k)=st.s k:=(rfl)
theorem b2N (st:St) (v:Value):st.eval (.const v)=.c (a2U v):=(rfl)
theorem b9V (st:St) (f:FuncId):st.eval (.func f)=.c (.fn f []):=(rfl)
theorem b7v (st:St) (v:AV):st.put none v=st:=(rfl)
theorem b7w (st:St) (d:Nat) (v:AV):(st.put (some d) v).s d=v:=by simp [St.put,upd]
theorem c2k (st:St) (d k:Nat) (v:AV) (h:(k=d)=False):(st.put (some d) v).s k=st.s k:=by simp [St.put,upd,h]
theorem c8D (st:St) (d:Option Nat) (v:AV):(st.put d v).H=st.H:=by cases d<;>rfl
theorem c8E (st:St) (d:Option Nat) (v:AV):(st.put d v).T=st.T:=by cases d<;>rfl
theorem c2l (st:St):st.tick.s=st.s:=(rfl)
theorem c2m (st:St):st.tick.H=st.H:=(rfl)
theorem c2n (st:St):st.tick.T=st.T+1:=(rfl)
theorem c8F (st:St) (H:Heap):(st.hto H).s=st.s:=(rfl)
theorem c8G (st:St) (H:Heap):(st.hto H).H=H:=(rfl)
theorem c8H (st:St) (H:Heap):(st.hto H).T=st.T:=(rfl)
theorem b9W (args:List AV) (k:Nat):(a4Y args).s k=args.getD k (.c (.raw undef)):=(rfl)
theorem b9X (args:List AV):(a4Y args).H=a0j:=(rfl)
theorem b9Y (args:List AV):(a4Y args).T=0:=(rfl)
theorem c2o (st:St) (H:Heap):St.mk st.s H st.T st.n=st.hto H:=(rfl)
theorem b47 (id:Id):a0j id=.a0b:=(rfl)
theorem b48 {F:CT} {Q:AEx->St->Prop} {st:St}:a14 P F .skip Q st=Q .normal st:=(rfl)
theorem b7x {F:CT} {id:Nat} {ops:List SO} {d:Bool} {Q:AEx->St->Prop} {st:St}:a14 P F (.region id ops d) Q st=a9M P F d ops (fun st=>Q .normal st.tick) st:=(rfl)
theorem b7y {F:CT} {x y:SC} {Q:AEx->St->Prop} {st:St}:a14 P F (.seq x y) Q st=a14 P F x (a2V (a14 P F y Q) Q) st:=(rfl)
theorem b3D {F:CT} {id:Nat} {x:SC} {Q:AEx->St->Prop} {st:St}:a14 P F (.block id x) Q st=a14 P F x (a2M id Q) st:=(rfl)
theorem b49 {F:CT} {id:Nat} {Q:AEx->St->Prop} {st:St}:a14 P F (.exit id) Q st=Q (.exit id) st:=(rfl)
theorem b7z {F:CT} {Q:AEx->St->Prop} {st:St}:a14 P F .ret Q st=Q .ret st:=(rfl)
theorem b7A {F:CT} {d:Bool} {K:St->Prop} {st:St}:a9M P F d [] K st=K st:=(rfl)
theorem b5a {F:CT} {d:Bool} {dst:Option Nat} {op:Op} {l:List SO} {K:St->Prop} {st:St}:a9M P F d (⟨dst,op,none⟩::l) K st=stepS P F d dst op st (a9M P F d l K):=(rfl)
theorem b3E {F:CT} {d:Bool} {dst:Option Nat} {op:Op} {gs:Option Nat} {want:Bool} {l:List SO} {K:St->Prop} {st:St}:a9M P F d (⟨dst,op,some (gs,want)⟩::l) K st =
  agd gs want st (fun st=>stepS P F d dst op st (a9M P F d l K)) (fun st=>a9M P F d l K (st.put dst (.c (.raw undef)))):=(rfl)
theorem b5b {F:CT} {id:Nat} {ops:List SO} {js:List Nat} {prs:List (Nat×Nat)} {Q:AEx->St->Prop} {st:St}:a14 P F (.a2R id ops js prs) Q st =
  a7E P F js prs ops 0 [] [] (fun W N st'=>(∀x∈W,x.2.1≠st.T/\∀y∈N,(x.1,y.1)∈prs->¬idV x.2 y.2)/\Q .normal st'.tick) st:=(rfl)
theorem b9Z {next:St->Prop} {Q:AEx->St->Prop} {st:St}:a2V next Q .normal st=next st:=(rfl)
theorem b90 {next:St->Prop} {Q:AEx->St->Prop} {st:St} {id:Nat}:a2V next Q (.exit id) st=Q (.exit id) st:=(rfl)
theorem b91 {next:St->Prop} {Q:AEx->St->Prop} {st:St}:a2V next Q .ret st=Q .ret st:=(rfl)
theorem b7B {id:Nat} {Q:AEx->St->Prop} {st:St}:a2M id Q .normal st=Q .normal st:=(rfl)
theorem b7C {id:Nat} {Q:AEx->St->Prop} {st:St}:a2M id Q .ret st=Q .ret st:=(rfl)
theorem b2O {id j:Nat} {Q:AEx->St->Prop} {st:St}:a2M id Q (.exit j) st=if j=id then Q .normal st else Q (.exit j) st:=(rfl)
theorem b92 {F:CT} {c:SC} {Q:AEx->St->Prop} {st st':St} (h:st=st'):a14 P F c Q st=a14 P F c Q st':=by rw [h]
theorem b7D {F:CT} {d:Bool} {dst:Option Nat} {op:Op} {K:St->Prop} {st st':St} (h:st=st'):stepS P F d dst op st K=stepS P F d dst op st' K:=by rw [h]
theorem b7E {d:Bool} {dst:Option Nat} {f:FuncId} {args args':List AV} {K:St->Prop} {st st':St} (h:st=st') (ha:args=args'):a6y P d st dst f args K=a6y P d st' dst f args' K:=by rw [h,ha]
attribute [congr] b92 b7D b7E
attribute [simp] c2j b2N b9V b7v b7w c2k c8D c8E c2l c2m c2n c8F c8G c8H b9W b9X b9Y b47 a0c b8U hset a4q lay a6l a6m b4y a2C a1P adL adT adH a6w a6x a6b a3K
attribute [simp ↓] c2o b48 b7x b5b b7y b3D b49 b7z b7A b5a b3E b9Z b90 b91 b7B b7C b2O
open Go
def isO (KF:List Nat):Op->Bool
 |.call c=>match c.callee with
  |.value (.func f)=>KF.contains (f+1000000)
  |_=>false
 |_=>false
def d07 (KF:List Nat):Op->Bool
 |.call c=>match c.callee with
  |.value (.func f)=>KF.contains f
  |_=>false
 |_=>false
def mkJ (KF:List Nat) (ops:Array Oper):List (Nat×List Nat):=
 let tab:=b0L [] ops.toList
 let l:=ops.toList.zipIdx
 ((l.filter fun x=>isO KF x.1.op).map fun x=>(x.2,[x.2]))++(l.filter fun x=>d07 KF x.1.op||writer x.1.op).filterMap fun x=>
  let u:=(l.filter fun y=>x.2 != y.2&&!hfree y.1.op&&!((tab.getD x.2 0).testBit y.2||(tab.getD y.2 0).testBit x.2)).map (·.2)
  if d07 KF x.1.op||!u.isEmpty then some (x.2,u) else none
def slR (id:Nat) (so:List SO):List (Nat×List Nat)->SC
 |[]=>.region id so true
 |J=>.a2R id so ((J.filter fun q=>q.2 != [q.1]).map (·.1)) (J.flatMap fun q=>q.2.map fun y=>(q.1,y))
def slN (KF:List Nat) (L:List SC):Code->List SC->SC×List SC
 |.skip,b=>(.skip,b)
 |.region id ops d,b=>(if d then slR id (a4F ops ops.toList) (mkJ KF ops) else .region id (a4F ops ops.toList) false,b)
 |.seq x y,b=>let r:=slN KF L x b;let q:=slN KF L y r.2;(.seq r.1 q.1,q.2)
 |.cond c x y,b=>let r:=slN KF L x b;let q:=slN KF L y r.2;(.cond c r.1 q.1,q.2)
 |.block id x,b=>let r:=slN KF L x b;(.block id r.1,r.2)
 |.loop x,b=>let r:=slN KF L x b;(.loop (L.getD r.2.length .no),r.2++[r.1])
 |.exit id,b=>(.exit id,b)
 |.ret,b=>(.ret,b)
 |_,b=>(.no,b)
def slB (KF:List Nat) (b:Option Code) (L:List SC) (k:Nat):SC:=match b with
 |some c=>(slN KF L c []).2.getD k .no
 |none=>.no
def slW (KF:List Nat) (b:Option Code) (L:List SC):SC:=match b with
 |some c=>(slN KF L c []).1
 |none=>.no
open Go Go.Proofs
@[simp] theorem ty0:tyI Tryz.prog 0={ok:=false,sz:=1,ag:=false,bytes:=0,zero:=[Value.tuple {toList:=[]}],a2m:=[],elem:=0,kind:=none,form:=0,eqs:=[],bld:=false}:=by kernel_rfl
@[simp] theorem ty3:tyI Tryz.prog 3={ok:=true,sz:=1,ag:=false,bytes:=8,zero:=[Value.int IntKind.i64 (0)],a2m:=[],elem:=0,kind:=some IntKind.i64,form:=3,eqs:=[],bld:=false}:=by kernel_rfl
@[simp] theorem ty4:tyI Tryz.prog 4={ok:=true,sz:=1,ag:=false,bytes:=1,zero:=[Value.bool false],a2m:=[],elem:=0,kind:=none,form:=4,eqs:=[],bld:=false}:=by kernel_rfl
@[simp] theorem ty5:tyI Tryz.prog 5={ok:=true,sz:=1,ag:=false,bytes:=1,zero:=[Value.int IntKind.u8 (0)],a2m:=[],elem:=0,kind:=some IntKind.u8,form:=3,eqs:=[],bld:=false}:=by kernel_rfl
@[simp] theorem ty9:tyI Tryz.prog 9={ok:=true,sz:=1,ag:=false,bytes:=16,zero:=[Value.string ⟨#[]⟩],a2m:=[],elem:=0,kind:=none,form:=1,eqs:=[],bld:=false}:=by kernel_rfl
@[simp] theorem d6u:tyI Tryz.prog 21={ok:=true,sz:=1,ag:=false,bytes:=4,zero:=[Value.int IntKind.i32 (0)],a2m:=[],elem:=0,kind:=some IntKind.i32,form:=3,eqs:=[],bld:=false}:=by kernel_rfl
@[simp] theorem d6v:tyI Tryz.prog 22={ok:=true,sz:=1,ag:=false,bytes:=24,zero:=[Value.slice none 0 0],a2m:=[],elem:=46,kind:=none,form:=2,eqs:=[],bld:=false}:=by kernel_rfl
@[simp] theorem d6w:tyI Tryz.prog 23={ok:=true,sz:=1,ag:=false,bytes:=24,zero:=[Value.slice none 0 0],a2m:=[],elem:=44,kind:=none,form:=2,eqs:=[],bld:=false}:=by kernel_rfl
@[simp] theorem d6x:tyI Tryz.prog 24={ok:=true,sz:=1,ag:=false,bytes:=24,zero:=[Value.slice none 0 0],a2m:=[],elem:=3,kind:=none,form:=2,eqs:=[],bld:=false}:=by kernel_rfl
@[simp] theorem d6y:tyI Tryz.prog 26={ok:=true,sz:=3,ag:=true,bytes:=72,zero:=[Value.slice none 0 0,Value.slice none 0 0,Value.slice none 0 0],a2m:=[(0,1,false),(1,1,false),(2,1,false)],elem:=0,kind:=none,form:=5,eqs:=[],bld:=true}:=by kernel_rfl
@[simp] theorem d6z:tyI Tryz.prog 27={ok:=true,sz:=1,ag:=false,bytes:=24,zero:=[Value.slice none 0 0],a2m:=[],elem:=9,kind:=none,form:=2,eqs:=[],bld:=false}:=by kernel_rfl
@[simp] theorem d6A:tyI Tryz.prog 28={ok:=true,sz:=1,ag:=false,bytes:=24,zero:=[Value.slice none 0 0],a2m:=[],elem:=73,kind:=none,form:=2,eqs:=[],bld:=false}:=by kernel_rfl
@[simp] theorem d6B:tyI Tryz.prog 30={ok:=true,sz:=2,ag:=true,bytes:=48,zero:=[Value.slice none 0 0,Value.slice none 0 0],a2m:=[(0,1,false),(1,1,false)],elem:=0,kind:=none,form:=5,eqs:=[],bld:=true}:=by kernel_rfl
@[simp] theorem d6C:tyI Tryz.prog 31={ok:=true,sz:=1,ag:=false,bytes:=24,zero:=[Value.slice none 0 0],a2m:=[],elem:=87,kind:=none,form:=2,eqs:=[],bld:=false}:=by kernel_rfl
@[simp] theorem d6D:tyI Tryz.prog 33={ok:=true,sz:=4,ag:=true,bytes:=80,zero:=[Value.slice none 0 0,Value.slice none 0 0,Value.int IntKind.i64 (0),Value.slice none 0 0],a2m:=[(0,2,true),(2,1,false),(3,1,false)],elem:=0,kind:=none,form:=5,eqs:=[],bld:=true}:=by kernel_rfl
@[simp] theorem d6E:tyI Tryz.prog 34={ok:=true,sz:=1,ag:=false,bytes:=24,zero:=[Value.slice none 0 0],a2m:=[],elem:=48,kind:=none,form:=2,eqs:=[],bld:=false}:=by kernel_rfl
@[simp] theorem d6F:tyI Tryz.prog 36={ok:=true,sz:=9,ag:=true,bytes:=200,zero:=[Value.slice none 0 0,Value.slice none 0 0,Value.slice none 0 0,Value.slice none 0 0,Value.slice none 0 0,Value.int IntKind.i64 (0),Value.slice none 0 0,Value.slice none 0 0,Value.slice none 0 0],a2m:=[(0,3,true),(3,4,true),(7,1,false),(8,1,false)],elem:=0,kind:=none,form:=5,eqs:=[],bld:=true}:=by kernel_rfl
@[simp] theorem d6G:tyI Tryz.prog 40={ok:=true,sz:=1,ag:=false,bytes:=8,zero:=[Value.int IntKind.i64 (0)],a2m:=[],elem:=0,kind:=some IntKind.i64,form:=3,eqs:=[],bld:=false}:=by kernel_rfl
@[simp] theorem d6H:tyI Tryz.prog 44={ok:=true,sz:=3,ag:=true,bytes:=24,zero:=[Value.int IntKind.i64 (0),Value.int IntKind.i64 (0),Value.int IntKind.i64 (0)],a2m:=[(0,1,false),(1,1,false),(2,1,false)],elem:=0,kind:=none,form:=5,eqs:=[3,3,3],bld:=true}:=by kernel_rfl
@[simp] theorem d6I:tyI Tryz.prog 46={ok:=true,sz:=11,ag:=true,bytes:=112,zero:=[Value.int IntKind.i64 (0),Value.int IntKind.i64 (0),Value.int IntKind.i64 (0),Value.int IntKind.i64 (0),Value.int IntKind.i64 (0),Value.int IntKind.i64 (0),Value.string ⟨#[]⟩,Value.slice none 0 0,Value.int IntKind.i64 (0),Value.int IntKind.i64 (0),Value.int IntKind.i64 (0)],a2m:=[(0,1,false),(1,1,false),(2,1,false),(3,3,true),(6,1,false),(7,1,false),(8,1,false),(9,1,false),(10,1,false)],elem:=0,kind:=none,form:=5,eqs:=[],bld:=true}:=by kernel_rfl
@[simp] theorem d6J:tyI Tryz.prog 48={ok:=true,sz:=13,ag:=true,bytes:=128,zero:=[Value.bool false,Value.int IntKind.i64 (0),Value.int IntKind.i64 (0),Value.int IntKind.i64 (0),Value.int IntKind.i64 (0),Value.int IntKind.i64 (0),Value.int IntKind.i64 (0),Value.int IntKind.i64 (0),Value.string ⟨#[]⟩,Value.slice none 0 0,Value.int IntKind.i64 (0),Value.int IntKind.i64 (0),Value.int IntKind.i64 (0)],a2m:=[(0,1,false),(1,1,false),(2,11,true)],elem:=0,kind:=none,form:=5,eqs:=[],bld:=true}:=by kernel_rfl
@[simp] theorem d6K:tyI Tryz.prog 73={ok:=true,sz:=2,ag:=true,bytes:=24,zero:=[Value.int IntKind.i64 (0),Value.string ⟨#[]⟩],a2m:=[(0,1,false),(1,1,false)],elem:=0,kind:=none,form:=5,eqs:=[3,1],bld:=true}:=by kernel_rfl
@[simp] theorem d6L:tyI Tryz.prog 79={ok:=true,sz:=1,ag:=false,bytes:=24,zero:=[Value.slice none 0 0],a2m:=[],elem:=21,kind:=none,form:=2,eqs:=[],bld:=false}:=by kernel_rfl
@[simp] theorem d6M:tyI Tryz.prog 87={ok:=true,sz:=4,ag:=true,bytes:=56,zero:=[Value.int IntKind.i64 (0),Value.int IntKind.i64 (0),Value.string ⟨#[]⟩,Value.slice none 0 0],a2m:=[(0,1,false),(1,1,false),(2,1,false),(3,1,false)],elem:=0,kind:=none,form:=5,eqs:=[],bld:=true}:=by kernel_rfl
@[simp] theorem d6N:tyI Tryz.prog 98={ok:=true,sz:=1,ag:=false,bytes:=8,zero:=[Value.int IntKind.u64 (0)],a2m:=[],elem:=0,kind:=some IntKind.u64,form:=3,eqs:=[],bld:=false}:=by kernel_rfl
@[simp] theorem d2y:tyI Tryz.prog 113={ok:=true,sz:=1,ag:=false,bytes:=24,zero:=[Value.slice none 0 0],a2m:=[],elem:=5,kind:=none,form:=2,eqs:=[],bld:=false}:=by kernel_rfl
@[simp] theorem d2z:tyI Tryz.prog 119={ok:=true,sz:=1,ag:=false,bytes:=4,zero:=[Value.int IntKind.u32 (0)],a2m:=[],elem:=0,kind:=some IntKind.u32,form:=3,eqs:=[],bld:=false}:=by kernel_rfl
@[simp] theorem d2A:tyI Tryz.prog 124={ok:=true,sz:=1,ag:=false,bytes:=8,zero:=[Value.int IntKind.u64 (0)],a2m:=[],elem:=0,kind:=some IntKind.u64,form:=3,eqs:=[],bld:=false}:=by kernel_rfl
@[simp] theorem d2B:tyI Tryz.prog 145={ok:=true,sz:=2,ag:=true,bytes:=24,zero:=[Value.string ⟨#[]⟩,Value.bool false],a2m:=[(0,1,false),(1,1,false)],elem:=0,kind:=none,form:=5,eqs:=[1,4],bld:=true}:=by kernel_rfl
theorem mixed:Tryz.prog.follows .mixedOrders=true:=by kernel_rfl
open Go Go.Proofs
def kf5:List Nat:=[]
def c2p:SC:=(⟨_,by cbv⟩:{x//slB kf5 Tryz.f5.body [] 0=x}).1
def s5:SC:=(⟨_,fun a=>by cbv⟩:{x:SC->SC//∀a,slW kf5 Tryz.f5.body [a]=x a}).1 c2p
theorem sl5:a0r Tryz.f5.body s5=some (unK s5,true):=by kernel_rfl
theorem ok5:a0R a0q Tryz.f5 0=true:=by kernel_rfl
def s9:SC:=(⟨_,by cbv⟩:{x//slW kf5 Tryz.f9.body []=x}).1
theorem sl9:a0r Tryz.f9.body s9=some (unK s9,true):=by kernel_rfl
theorem ok9:a0R a0q Tryz.f9 0=true:=by kernel_rfl
def a9P:SC:=(⟨_,by cbv⟩:{x//slB kf5 Tryz.f10.body [] 0=x}).1
def s10:SC:=(⟨_,fun a=>by cbv⟩:{x:SC->SC//∀a,slW kf5 Tryz.f10.body [a]=x a}).1 a9P
theorem sl10:a0r Tryz.f10.body s10=some (unK s10,true):=by kernel_rfl
theorem d2C:a0R a0q Tryz.f10 0=true:=by kernel_rfl
def b7F:SC:=(⟨_,by cbv⟩:{x//slB kf5 Tryz.f18.body [] 0=x}).1
def s18:SC:=(⟨_,fun a=>by cbv⟩:{x:SC->SC//∀a,slW kf5 Tryz.f18.body [a]=x a}).1 b7F
theorem d2D:a0r Tryz.f18.body s18=some (unK s18,true):=by kernel_rfl
theorem d2E:a0R a0q Tryz.f18 0=true:=by kernel_rfl
def s19:SC:=(⟨_,by cbv⟩:{x//slW kf5 Tryz.f19.body []=x}).1
theorem d2F:a0r Tryz.f19.body s19=some (unK s19,true):=by kernel_rfl
theorem d2G:a0R a0q Tryz.f19 0=true:=by kernel_rfl
def s22:SC:=(⟨_,by cbv⟩:{x//slW kf5 Tryz.f22.body []=x}).1
theorem d2H:a0r Tryz.f22.body s22=some (unK s22,true):=by kernel_rfl
theorem d2I:a0R a0q Tryz.f22 0=true:=by kernel_rfl
def s25:SC:=(⟨_,by cbv⟩:{x//slW kf5 Tryz.f25.body []=x}).1
theorem d2J:a0r Tryz.f25.body s25=some (unK s25,true):=by kernel_rfl
theorem d2K:a0R a0q Tryz.f25 0=true:=by kernel_rfl
def b5c:SC:=(⟨_,by cbv⟩:{x//slB kf5 Tryz.f26.body [] 0=x}).1
def s26:SC:=(⟨_,fun a=>by cbv⟩:{x:SC->SC//∀a,slW kf5 Tryz.f26.body [a]=x a}).1 b5c
theorem d2L:a0r Tryz.f26.body s26=some (unK s26,true):=by kernel_rfl
theorem d2M:a0R a0q Tryz.f26 0=true:=by kernel_rfl
def s27:SC:=(⟨_,by cbv⟩:{x//slW kf5 Tryz.f27.body []=x}).1
theorem sl27:a0r Tryz.f27.body s27=some (unK s27,true):=by kernel_rfl
theorem d2N:a0R a0q Tryz.f27 0=true:=by kernel_rfl
def s30:SC:=(⟨_,by cbv⟩:{x//slW kf5 Tryz.f30.body []=x}).1
theorem d2O:a0r Tryz.f30.body s30=some (unK s30,true):=by kernel_rfl
theorem d2P:a0R a0q Tryz.f30 0=true:=by kernel_rfl
def s32:SC:=(⟨_,by cbv⟩:{x//slW kf5 Tryz.f32.body []=x}).1
theorem d2Q:a0r Tryz.f32.body s32=some (unK s32,true):=by kernel_rfl
theorem ok32:a0R a0q Tryz.f32 0=true:=by kernel_rfl
def a8z:SC:=(⟨_,by cbv⟩:{x//slB kf5 Tryz.f39.body [] 0=x}).1
def a9Q:SC:=(⟨_,fun a=>by cbv⟩:{x:SC->SC//∀a,slB kf5 Tryz.f39.body [a] 1=x a}).1 a8z
def s39:SC:=(⟨_,fun a b=>by cbv⟩:{x:SC->SC->SC//∀a b,slW kf5 Tryz.f39.body [a,b]=x a b}).1 a8z a9Q
theorem d2R:a0r Tryz.f39.body s39=some (unK s39,true):=by kernel_rfl
theorem d2S:a0R a0q Tryz.f39 0=true:=by kernel_rfl
def s40:SC:=(⟨_,by cbv⟩:{x//slW kf5 Tryz.f40.body []=x}).1
theorem d2T:a0r Tryz.f40.body s40=some (unK s40,true):=by kernel_rfl
theorem d2U:a0R a0q Tryz.f40 0=true:=by kernel_rfl
def s43:SC:=(⟨_,by cbv⟩:{x//slW kf5 Tryz.f43.body []=x}).1
theorem d2V:a0r Tryz.f43.body s43=some (unK s43,true):=by kernel_rfl
theorem d2W:a0R a0q Tryz.f43 0=true:=by kernel_rfl
def s44:SC:=(⟨_,by cbv⟩:{x//slW kf5 Tryz.f44.body []=x}).1
theorem d2X:a0r Tryz.f44.body s44=some (unK s44,true):=by kernel_rfl
theorem d2Y:a0R a0q Tryz.f44 0=true:=by kernel_rfl
def s45:SC:=(⟨_,by cbv⟩:{x//slW kf5 Tryz.f45.body []=x}).1
theorem d2Z:a0r Tryz.f45.body s45=some (unK s45,true):=by kernel_rfl
theorem d3a:a0R a0q Tryz.f45 0=true:=by kernel_rfl
def s46:SC:=(⟨_,by cbv⟩:{x//slW kf5 Tryz.f46.body []=x}).1
theorem d3b:a0r Tryz.f46.body s46=some (unK s46,true):=by kernel_rfl
theorem d3c:a0R a0q Tryz.f46 0=true:=by kernel_rfl
def s47:SC:=(⟨_,by cbv⟩:{x//slW kf5 Tryz.f47.body []=x}).1
theorem d3d:a0r Tryz.f47.body s47=some (unK s47,true):=by kernel_rfl
theorem d3e:a0R a0q Tryz.f47 0=true:=by kernel_rfl
def s54:SC:=(⟨_,by cbv⟩:{x//slW kf5 Tryz.f54.body []=x}).1
theorem d3f:a0r Tryz.f54.body s54=some (unK s54,true):=by kernel_rfl
theorem d3g:a0R a0q Tryz.f54 0=true:=by kernel_rfl
def s55:SC:=(⟨_,by cbv⟩:{x//slW kf5 Tryz.f55.body []=x}).1
theorem d3h:a0r Tryz.f55.body s55=some (unK s55,true):=by kernel_rfl
theorem d3i:a0R a0q Tryz.f55 0=true:=by kernel_rfl
def s62:SC:=(⟨_,by cbv⟩:{x//slW kf5 Tryz.f62.body []=x}).1
theorem d3j:a0r Tryz.f62.body s62=some (unK s62,true):=by kernel_rfl
theorem d3k:a0R a0q Tryz.f62 0=true:=by kernel_rfl
def b7G:SC:=(⟨_,by cbv⟩:{x//slB kf5 Tryz.f65.body [] 0=x}).1
def s65:SC:=(⟨_,fun a=>by cbv⟩:{x:SC->SC//∀a,slW kf5 Tryz.f65.body [a]=x a}).1 b7G
theorem d3l:a0r Tryz.f65.body s65=some (unK s65,true):=by kernel_rfl
theorem d3m:a0R a0q Tryz.f65 0=true:=by kernel_rfl
def b7H:SC:=(⟨_,by cbv⟩:{x//slB kf5 Tryz.f66.body [] 0=x}).1
def s66:SC:=(⟨_,fun a=>by cbv⟩:{x:SC->SC//∀a,slW kf5 Tryz.f66.body [a]=x a}).1 b7H
theorem d3n:a0r Tryz.f66.body s66=some (unK s66,true):=by kernel_rfl
theorem d3o:a0R a0q Tryz.f66 0=true:=by kernel_rfl
def s76:SC:=(⟨_,by cbv⟩:{x//slW kf5 Tryz.f76.body []=x}).1
theorem d3p:a0r Tryz.f76.body s76=some (unK s76,true):=by kernel_rfl
theorem d3q:a0R a0q Tryz.f76 0=true:=by kernel_rfl
def s78:SC:=(⟨_,by cbv⟩:{x//slW kf5 Tryz.f78.body []=x}).1
theorem d3r:a0r Tryz.f78.body s78=some (unK s78,true):=by kernel_rfl
theorem d3s:a0R a0q Tryz.f78 0=true:=by kernel_rfl
attribute [simp] Tryz.results5 Tryz.results9 Tryz.results10 Tryz.results18 Tryz.results19 Tryz.results22 Tryz.results25 Tryz.results26 Tryz.results27 Tryz.results30 Tryz.results32 Tryz.results39 Tryz.results40 Tryz.results43 Tryz.results44 Tryz.results45 Tryz.results46 Tryz.results47 Tryz.results54 Tryz.results55 Tryz.results62 Tryz.results65 Tryz.results66 Tryz.results76 Tryz.results78
open Go
variable {P:Program} {F:CT} {d:Bool} {dst:Option Nat} {st:St} {K:St->Prop}
def wd {α:Type} (x:α):α:=x
@[simp] theorem d3t {α:Type} {x:α}:wd x=x:=(rfl)
def onV (v:AV) (k:AV->Prop):Prop:=k v
@[simp] theorem d08 {v:AV} {k:AV->Prop}:onV v k=k v:=(rfl)
@[congr] theorem d09 {v v':AV} {k:AV->Prop} (h:v=v'):onV v k=onV v' k:=by rw [h]
def onN (H:Heap) (T:Nat) (rows:List (List AC)) (c:AC) (k:Heap->Nat->List (List AC)->AC->Prop):Prop:=k H T rows c
@[simp] theorem d1a {H:Heap} {T:Nat} {rows:List (List AC)} {c:AC} {k:Heap->Nat->List (List AC)->AC->Prop}:onN H T rows c k=k H T rows c:=(rfl)
@[congr] theorem d1b {H H':Heap} {T T':Nat} {rows rows':List (List AC)} {c c':AC} {k:Heap->Nat->List (List AC)->AC->Prop} (h1:H=H') (h2:T=T') (h3:rows=rows') (h4:c=c'):onN H T rows c k=onN H' T' rows' c' k:=by rw [h1,h2,h3,h4]
def onA (H:Heap) (v:AV) (k:Heap->AV->Prop):Prop:=k H v
@[simp] theorem d1c {H:Heap} {v:AV} {k:Heap->AV->Prop}:onA H v k=k H v:=(rfl)
@[congr] theorem d1d {H H':Heap} {v v':AV} {k:Heap->AV->Prop} (h1:H=H') (h2:v=v'):onA H v k=onA H' v' k:=by rw [h1,h2]
theorem a0Q {dr:Bool} {st:St} {dst:Option Nat} {f:FuncId} {args args':List AV} {ret:AV} {K:St->Prop} (hp:PEv P f args' ret) (hv:a3c st.H args=some args')
  (hun:a4R (a1P st dst) st.H 0 ret.flat) (hdr:dr=true->ret.flat.length<=1024/\dst.isSome=true) (hk:onA (wd (adH (a1P st dst) 0 ret.flat st.H)) (ret.ad (a1P st dst)) fun H v=>K ((st.hto H).put dst v)):a6y P dr st dst f args K:=.inl ⟨false,args',ret,hv,hp,hun,hdr,hk⟩
theorem b3F (st:St) (d e sz:Nat) (rows:List (List AC)) (v:Id->AC) (K:St->Prop) :
  newObj st (some d) e sz rows v K=onN (wd st.H) st.T rows (v (st.T,d)) fun H T rows c=>H (T,d)=.a0b/\K ((st.hto (hset H (T,d) (.arr e sz false rows))).put (some d) (.c c)):=(rfl)
theorem b93 {x:Operand}:stepS P F d dst (.move x) st K=onV (st.eval x) fun v=>K (st.put dst v):=(rfl)
theorem b5d {x:Operand}:stepS P F d dst (.assign x) st K=onV (st.eval x) fun v=>K (st.put dst v):=(rfl)
def onB (v:AV) (k:Bool->Prop):Prop:=
 match v with
 |.c (.raw (.bool q))=>k q
 |_=>False
def onP {α:Type} (o:Option (Prop×α)) (k:α->Prop):Prop:=
 match o with
 |some (C,v)=>C/\k v
 |none=>False
@[simp] theorem d1e {q:Bool} {k:Bool->Prop}:onB (.c (.raw (.bool q))) k=k q:=(rfl)
@[simp] theorem a7H {α:Type} {C:Prop} {v:α} {k:α->Prop}:onP (some (C,v)) k=(C/\k v):=(rfl)
@[simp] theorem c5t {α:Type} {k:α->Prop}:onP none k=False:=(rfl)
@[congr] theorem d1f {v v':AV} {k:Bool->Prop} (h:v=v'):onB v k=onB v' k:=by rw [h]
@[congr] theorem d1g {α:Type} {o o':Option (Prop×α)} {k:α->Prop} (h:o=o'):onP o k=onP o' k:=by rw [h]
def b8V (b:Bool) (y n:Prop):Prop:=(b=true->y)/\(b=false->n)
def c1x (b:Bool) (y n:Prop):Prop:=(b=false->y)/\(b=true->n)
@[simp high,simp ↓] theorem c2q {y n:Prop}:b8V true y n=y:=by simp [b8V]
@[simp high,simp ↓] theorem c1y {y n:Prop}:b8V false y n=n:=by simp [b8V]
@[simp high,simp ↓] theorem c2r {y n:Prop}:c1x true y n=n:=by simp [c1x]
@[simp high,simp ↓] theorem c1z {y n:Prop}:c1x false y n=y:=by simp [c1x]
@[simp low] theorem c8I {b:Bool} {y n:Prop}:b8V b y n=((b=true->y)/\(b=false->n)):=(rfl)
@[simp low] theorem c8J {b:Bool} {y n:Prop}:c1x b y n=((b=false->y)/\(b=true->n)):=(rfl)
theorem b94 {c a b:Operand}:stepS P F d dst (.pick c a b) st K=onB (st.eval c) fun q=>b8V q (onV (st.eval a) fun v=>K (st.put dst v)) (onV (st.eval b) fun v=>K (st.put dst v)):=(rfl)
theorem c2s {t:TypeId} {x:Operand}:stepS P F d dst (.unOp .not t x) st K=onB (st.eval x) fun q=>K (st.put dst (.c (.raw (.bool (!q))))):=(rfl)
theorem b95 {c:Operand} {x y:SC} {Q:AEx->St->Prop}:a14 P F (.cond c x y) Q st=onB (st.eval c) fun b=>b8V b (a14 P F x Q st) (a14 P F y Q st):=(rfl)
theorem b7I {e:TypeId}:stepS P F d dst (.alloc e) st K=((tyI P e).ok=true/\newObj st dst e (tyI P e).sz [(tyI P e).zero.map a2U] (fun id=>.pt id 0 0) K):=(rfl)
def c8K (ti:TyI) (H:Heap) (v:AV):Option (Prop×List (List AC)):=
 match v.cells with
 |some cs=>some (ti.ok=true/\cs.length=ti.sz/\cs.all (AC.one H)=true,[cs])
 |none=>none
theorem c2t {e:TypeId} {x:Operand}:stepS P F d dst (.box e x) st K=onP (c8K (tyI P e) st.H (st.eval x)) fun rows=>newObj st dst e (tyI P e).sz rows (fun id=>.pt id 0 0) K:=by
 simp only [stepS,aop,c8K]
 cases (st.eval x).cells with
 |none=>rfl
 |some cs=>simp only [a7H,and_assoc]
def b5e (ti:TyI) (o:Option (List AC)):Option (Prop×AV):=o.map fun cs=>(ti.ok=true/\ti.bld=true,.g cs)
theorem b7J {t:TypeId} {parts:Array (Nat×Operand)}:stepS P F d dst (.build t parts) st K=onP (b5e (tyI P t) (a6l st.H (tyI P t).a2m ((tyI P t).zero.map a2U) (parts.toList.map fun q=>(q.1,st.eval q.2)))) fun v=>K (st.put dst v):=by
 simp only [stepS,aop,b5e]
 split
 ·rename_i h;rw [h];rfl
 ·rename_i h;rw [h];rfl
def b96 (ti te:TyI) (len:Nat) (o:Option (List (List AC))):Option (Prop×List (List AC)):=o.map fun rows=>(ti.form=2/\te.ok=true/\rows.length=len/\len*te.sz<=16777216/\0<te.sz,rows)
theorem a8A {t:TypeId} {len:Nat} {parts:Array (Nat×Operand)}:stepS P F d dst (.buildSlice t len parts) st K=onP (b96 (tyI P t) (tyI P (tyI P t).elem) len (a6m st.H (tyI P (tyI P t).elem).sz 0 (parts.toList.map fun q=>(q.1,st.eval q.2)))) fun rows=>newObj st dst (tyI P t).elem (tyI P (tyI P t).elem).sz rows (fun id=>.so id 0 len) K:=by
 simp only [stepS,aop,b96]
 split
 ·rename_i h;rw [h];rfl
 ·rename_i h;rw [h];rfl
def b02 (ti:TyI) (row:Option (List AC)) (j:Nat):Option (Prop×AV):=
 match row with
 |some row=>(a4q ti.ag ti.sz row j).map fun v=>(ti.ok=true,v)
 |none=>none
def c1A (H:Heap) (id:Id) (i:Nat):Option (List AC):=
 match H id with
 |.arr _ _ _ rows=>rows[i]?
 |_=>none
def b5f (ti:TyI) (H:Heap) (v:AV):Option (Prop×AV):=
 match v with
 |.c (.pt id i j)=>b02 ti (c1A H id i) j
 |.c (.pv _ row j)=>b02 ti (some row) j
 |_=>none
theorem b97 {t:TypeId} {x:Operand}:stepS P F d dst (.load t x) st K=onP (b5f (tyI P t) st.H (st.eval x)) fun v=>K (st.put dst v):=by
 simp only [stepS,aop]
 generalize st.eval x=v
 cases v with
 |c y=>
  cases y with
  |pt id i j=>
   simp only [b5f,b02,c1A]
   cases st.H id with
   |arr e sz frz rows=>
    simp only
    cases rows[i]? with
    |none=>rfl
    |some row=>
     simp only
     cases a4q (tyI P t).ag (tyI P t).sz row j<;>rfl
   |_=>rfl
  |pv tg row j=>
   simp only [b5f,b02]
   cases a4q (tyI P t).ag (tyI P t).sz row j<;>rfl
  |_=>rfl
 |_=>rfl
def b2P (ti:TyI) (H:Heap) (x v:AV):Option (Prop×Heap):=
 match x,v.cells with
 |.c (.pt id i j),some cs=>match H id with
  |.arr e sz false rows=>match rows[i]? with
   |some row=>some (ti.ok=true/\cs.length=ti.sz/\cs.all (AC.one H)=true/\j+cs.length<=row.length,hset H id (.arr e sz false (rows.set i (lay row j cs))))
   |none=>none
  |_=>none
 |_,_=>none
theorem b7K {t:TypeId} {x v:Operand}:stepS P F d dst (.store t x v) st K=onP (b2P (tyI P t) st.H (st.eval x) (st.eval v)) fun H=>K ((st.hto H).put dst (.c (.raw undef))):=by
 simp only [stepS,aop]
 generalize st.eval x=u
 generalize st.eval v=q
 unfold b2P
 cases q.cells with
 |none=>cases u with
  |c y=>cases y<;>rfl
  |_=>rfl
 |some cs=>cases u with
  |c y=>cases y with
   |pt id i j=>
    simp only
    cases st.H id with
    |arr e sz frz rows=>
     cases frz with
     |true=>rfl
     |false=>
      simp only
      cases rows[i]?<;>rfl
    |_=>rfl
   |_=>rfl
  |_=>rfl
def d1h (H:Heap) (v:AV):Option (Prop×AV):=
 match v with
 |.c (.pt id i j)=>some ((H id).live=true,.c (.pt id i j))
 |_=>none
theorem b03 {x:Operand}:stepS P F d dst (.nilCheck x) st K=onP (d1h st.H (st.eval x)) fun v=>K (st.put dst v):=by
 simp only [stepS,aop]
 generalize st.eval x=v
 cases v with
 |c y=>cases y<;>rfl
 |_=>rfl
theorem a8B {op:BinOp} {t t':TypeId} {x y:Operand} (hy:b46 y=false):stepS P F d dst (.binOp op t x y t') st K=onP (a2J (tyI P t) op (st.eval x) (st.eval y)) fun c=>K (st.put dst (.c c)):=by
 simp only [stepS,hy,Bool.false_eq_true,if_false,aop]
 cases a2J (tyI P t) op (st.eval x) (st.eval y)<;>rfl
theorem b7L {op:BinOp} {t t':TypeId} {x:Operand} {y:Nat}:stepS P F d dst (.binOp op t x (.tmp y) t') st K=onP (a2J (tyI P t) op (st.eval x) (st.eval (.tmp y))) fun c=>K (st.put dst (.c c)):=a8B rfl
theorem b7M {op:BinOp} {t t':TypeId} {x:Operand} {k:IntKind} {n:Int}:stepS P F d dst (.binOp op t x (.const (.int k n)) t') st K=onP (a2J (tyI P t) op (st.eval x) (.c (.raw (.int k n)))) fun c=>K (st.put dst (.c c)):=a8B rfl
theorem b7N {op:BinOp} {t t':TypeId} {x:Operand} {s:ByteArray}:stepS P F d dst (.binOp op t x (.const (.string s)) t') st K=onP (a2J (tyI P t) op (st.eval x) (.c (.str s.data.toList))) fun c=>K (st.put dst (.c c)):=a8B rfl
def b5g (ti:TyI) (op:BinOp) (d:Bool) (v:AV) (k:Bool->Prop):Prop:=
 match op,v with
 |.eql,.c (.sl _ _ xs)=>d=false/\ti.form=2/\(xs=[]->k true)/\k false
 |.neq,.c (.sl _ _ xs)=>d=false/\ti.form=2/\(xs=[]->k false)/\k true
 |_,_=>False
@[congr] theorem c5u {ti:TyI} {op:BinOp} {v v':AV} {k:Bool->Prop} (h:v=v'):b5g ti op d v k=b5g ti op d v' k:=by rw [h]
@[simp] theorem c2u {ti:TyI} {t:Tag} {cl:Bool} {xs:List (List AC)} {k:Bool->Prop}:b5g ti .eql d (.c (.sl t cl xs)) k=(d=false/\ti.form=2/\(xs=[]->k true)/\k false):=(rfl)
theorem b3G {op:BinOp} {t t':TypeId} {x:Operand}:stepS P F d dst (.binOp op t x (.const (.slice none 0 0)) t') st K=b5g (tyI P t) op d (st.eval x) fun q=>K (st.put dst (.c (.raw (.bool q)))):=by
 simp only [stepS,b46,if_true,b2N,a2U]
 generalize st.eval x=v
 unfold b8T b5g
 cases op<;>(try (simp;done))
 all_goals
  cases v with
  |c y=>cases y<;>simp
  |_=>simp
def a9R (ts ti te:TyI) (H:Heap) (v:AV):Option (Prop×AV):=
 match v with
 |.c (.raw (.int _ n))=>ti.kind.map fun k=>(ts.form=3,.c (.raw (.int k (k.wrap n))))
 |.c (.str l)=>some (ts.form=1/\ti.form=1,.c (.str l))
 |.c x=>((rowsOf H x).bind a1Q).map fun l=>(ts.form=2/\ti.form=1/\te.kind=some .u8,.c (.str l))
 |_=>none
def a9S (ts ti te tf:TyI) (e:Nat) (st:St) (dst:Option Nat) (v:AV) (K:St->Prop):Prop:=
 match v with
 |.c (.str l)=>if ti.form=2 then (ts.form=1/\tf.kind=some .u8/\l.length<=9223372036854775807)/\newObj st dst e 1 (l.map fun b=>[.raw (.int .u8 (b.toNat:Int))]) (fun id=>.so id 0 l.length) K
  else (ts.form=1/\ti.form=1)/\K (st.put dst (.c (.str l)))
 |v=>onP (a9R ts ti te st.H v) fun v=>K (st.put dst v)
theorem b7O {ts ti te tf:TyI} {e:Nat} {st st':St} {dst:Option Nat} {v v':AV} {K:St->Prop} (hs:st=st') (hv:v=v'):a9S ts ti te tf e st dst v K=a9S ts ti te tf e st' dst v' K:=by rw [hs,hv]
theorem b5h {ts ti te tf:TyI} {e:Nat} {st:St} {dst:Option Nat} {u:Value} {K:St->Prop}:a9S ts ti te tf e st dst (.c (.raw u)) K=onP (a9R ts ti te st.H (.c (.raw u))) fun v=>K (st.put dst v):=(rfl)
theorem b7P {ts ti te tf:TyI} {e:Nat} {st:St} {dst:Option Nat} {id:Id} {off len:Nat} {K:St->Prop}:a9S ts ti te tf e st dst (.c (.so id off len)) K=onP (a9R ts ti te st.H (.c (.so id off len))) fun v=>K (st.put dst v):=(rfl)
theorem b3H {src t:TypeId} {x:Operand}:stepS P F d dst (.convert src t x) st K=a9S (tyI P src) (tyI P t) (tyI P (tyI P src).elem) (tyI P (tyI P t).elem) (tyI P t).elem st dst (st.eval x) K:=by
 simp only [stepS,aop]
 generalize st.eval x=v
 cases v with
 |c y=>
  cases y with
  |str l=>rfl
  |raw u=>
   cases u with
   |int k n=>
    simp only [a9S,a9R]
    cases (tyI P t).kind<;>rfl
   |_=>
    simp only [a9S,a9R]
    generalize (Option.bind (rowsOf st.H _) a1Q)=o
    cases o<;>rfl
  |_=>
   simp only [a9S,a9R]
   generalize (Option.bind (rowsOf st.H _) a1Q)=o
   cases o<;>rfl
 |_=>rfl
def rFn (first:Array Operand) (f:FuncId) (o:Option (List AC)):Option (Prop×AV):=o.map fun cs=>(first=#[],.c (.fn f cs))
theorem b04 {f:FuncId} {first caps:Array Operand}:stepS P F d dst (.makeFunc (.func f) first caps) st K=onP (rFn first f (a3K st caps.toList)) fun v=>K (st.put dst v):=by
 simp only [stepS,aop,rFn]
 split
 ·rename_i h;rw [h];rfl
 ·rename_i h;rw [h];rfl
def b98 (ti te:TyI) (l c:AV):Option (Prop×Nat):=
 match l,c with
 |.c (.raw (.int .i64 n)),.c (.raw (.int .i64 m))=>some (n=m/\0<=n/\n<=9223372036854775807/\n*te.bytes<=281474976710656/\ti.form=2/\te.ok=true/\0<te.sz,n.toNat)
 |_,_=>none
theorem a9T {t:TypeId} {l c:Operand}:stepS P F d dst (.makeSlice t l c) st K=onP (b98 (tyI P t) (tyI P (tyI P t).elem) (st.eval l) (st.eval c)) fun n=>newObj st dst (tyI P t).elem (tyI P (tyI P t).elem).sz (List.replicate n ((tyI P (tyI P t).elem).zero.map a2U)) (fun id=>.so id 0 n) K:=by
 simp only [stepS,aop]
 generalize st.eval l=v
 generalize st.eval c=u
 unfold b98
 split
 ·rfl
 ·rename_i n
  split
  ·exact (n _ _ rfl rfl).elim
  ·rfl
def a5s (ti:TyI) (H:Heap) (f:Nat) (v:AV):Option (Prop×AV):=
 match v,ti.a2m[f]? with
 |.c (.pt id i j),some (off,n,_)=>some ((ti.form=5/\0<n)/\(H id).live=true,.c (.pt id i (j+off)))
 |.c (.pv tg row j),some (off,n,_)=>some (ti.form=5/\0<n,.c (.pv tg row (j+off)))
 |_,_=>none
theorem a9U {t:TypeId} {x:Operand} {f:Nat}:stepS P F d dst (.fieldAddr t x f) st K=onP (a5s (tyI P t) st.H f (st.eval x)) fun v=>K (st.put dst v):=by
 simp only [stepS,aop]
 generalize st.eval x=v
 generalize hq:(tyI P t).a2m[f]?=q
 unfold a5s
 rw [hq]
 split
 ·simp only [a7H,and_assoc]
 ·rfl
 ·rename_i n1 n2
  split
  ·exact (n1 _ _ _ _ _ _ rfl rfl).elim
  ·exact (n2 _ _ _ _ _ _ rfl rfl).elim
  ·rfl
def a8C (ti te:TyI) (eid:TypeId) (H:Heap) (x ix:AV):Option (Prop×AV):=
 match x,ix with
 |.c (.sl tg _ xs),.c (.raw (.int _ i))=>some ((ti.form=2/\te.ok=true/\te.sz=(xs.getD i.toNat []).length)/\0<=i/\i<xs.length,.c (.pv tg (xs.getD i.toNat []) 0))
 |.c (.so id off len),.c (.raw (.int _ i))=>some ((ti.form=2/\te.ok=true/\∃frz rows,H id=.arr eid te.sz frz rows)/\0<=i/\i<len,.c (.pt id (off+i.toNat) 0))
 |_,_=>none
theorem a9V {t:TypeId} {x ix:Operand}:stepS P F d dst (.indexAddr t x ix) st K=onP (a8C (tyI P t) (tyI P (tyI P t).elem) (tyI P t).elem st.H (st.eval x) (st.eval ix)) fun v=>K (st.put dst v):=by
 simp only [stepS,aop]
 generalize st.eval x=v
 generalize st.eval ix=u
 unfold a8C
 split
 ·rfl
 ·rfl
 ·rename_i n1 n2
  split
  ·exact (n1 _ _ _ _ _ rfl rfl).elim
  ·exact (n2 _ _ _ _ _ rfl rfl).elim
  ·rfl
def b5i (ti:TyI) (x ix:AV):Option (Prop×AV):=
 match x,ix with
 |.c (.str l),.c (.raw (.int _ i))=>some (ti.form=1/\0<=i/\i<l.length,.c (.raw (.int .u8 (bts l i))))
 |_,_=>none
theorem b7Q {t:TypeId} {x ix:Operand}:stepS P F d dst (.index t x ix) st K=onP (b5i (tyI P t) (st.eval x) (st.eval ix)) fun v=>K (st.put dst v):=by
 simp only [stepS,aop]
 generalize st.eval x=v
 generalize st.eval ix=u
 unfold b5i
 split
 ·rfl
 ·rename_i n
  split
  ·exact (n _ _ _ rfl rfl).elim
  ·rfl
def a8D (i:Nat) (v:AV):Option (Prop×AV):=
 match v with
 |.t parts=>match parts[i]? with
  |some (true,cs)=>some (True,.g cs)
  |some (false,[c])=>some (True,.c c)
  |_=>none
 |_=>none
section
variable {ag ag':Nat} {z x:AC} {id:Id} {H:Heap} {k:AV} {ok:Bool} {es:List (List Int×AC)} {ks:List Int} {n:Nat} {a:Int} {xs:List AC} {l:List Int}
def kG (n:Nat) (l:Option (List Int)):Option (List Int):=l.bind fun l=>if l.length=n/\n≠0 then some l else none
end
theorem b3I {x:Operand} {i:Nat}:stepS P F d dst (.extract x i) st K=onP (a8D i (st.eval x)) fun v=>K (st.put dst v):=by
 simp only [stepS,aop]
 generalize st.eval x=v
 unfold a8D
 cases v with
 |t parts=>
  simp only
  cases parts[i]? with
  |none=>rfl
  |some q=>
   obtain ⟨b,cs⟩:=q
   cases b with
   |true=>simp
   |false=>
    cases cs with
    |nil=>rfl
    |cons c cs=>cases cs<;>simp
 |_=>rfl
def a9W (ti te:TyI) (eid:TypeId) (H:Heap) (x:AV) (lo hi mx:Option AV):Option (Prop×AV):=
 match x with
 |.c (.str l)=>
  match lo.getD (.c (.raw (.int .i64 0))),hi.getD (.c (.raw (.int .i64 l.length))) with
  |.c (.raw (.int _ i)),.c (.raw (.int _ j))=>some (ti.form=1/\mx.isNone=true/\0<=i/\i<=j/\j<=l.length,.c (.str ((l.take j.toNat).drop i.toNat)))
  |_,_=>none
 |.c (.sl tg _ xs)=>
  match lo.getD (.c (.raw (.int .i64 0))),hi.getD (.c (.raw (.int .i64 xs.length))),mx with
  |.c (.raw (.int _ i)),.c (.raw (.int _ j)),none=>some (ti.form=2/\te.ok=true/\(∀r∈xs,r.length=te.sz)/\0<=i/\i<=j/\j<=xs.length,.c (.sl tg false ((xs.take j.toNat).drop i.toNat)))
  |.c (.raw (.int _ i)),.c (.raw (.int _ j)),some (.c (.raw (.int _ m)))=>some (ti.form=2/\te.ok=true/\(∀r∈xs,r.length=te.sz)/\0<=i/\i<=j/\j=m/\m<=xs.length/\hi.isSome=true,.c (.sl tg true ((xs.take j.toNat).drop i.toNat)))
  |_,_,_=>none
 |.c (.so id off len)=>
  match lo.getD (.c (.raw (.int .i64 0))),hi.getD (.c (.raw (.int .i64 len))),mx with
  |.c (.raw (.int _ i)),.c (.raw (.int _ j)),none=>some (ti.form=2/\te.ok=true/\(∃sz frz rows,H id=.arr eid sz frz rows/\sz=te.sz)/\0<=i/\i<=j/\j<=len,.c (.so id (off+i.toNat) (j.toNat-i.toNat)))
  |_,_,_=>none
 |_=>none
theorem b7R {t:TypeId} {x:Operand} {lo hi mx:Option Operand}:stepS P F d dst (.slice t x lo hi mx) st K=onP (a9W (tyI P t) (tyI P (tyI P t).elem) (tyI P t).elem st.H (st.eval x) (lo.map st.eval) (hi.map st.eval) (mx.map st.eval)) fun v=>K (st.put dst v):=by
 have e1:(mx.map st.eval).isNone=mx.isNone:=by cases mx<;>rfl
 have e2:(hi.map st.eval).isSome=hi.isSome:=by cases hi<;>rfl
 have e3:mx.map st.eval=none->True:=fun _=>trivial
 simp only [stepS,aop,a9W,e1,e2]
 generalize st.eval x=v
 generalize lo.map st.eval=l
 generalize hi.map st.eval=h
 generalize mx.map st.eval=m
 cases v with
 |c y=>
  cases y with
  |str s=>
   simp only
   generalize l.getD _=p
   generalize h.getD _=q
   cases p<;>(try rfl)
   rename_i p
   cases p<;>(try rfl)
   rename_i p
   cases p<;>(try rfl)
   cases q<;>(try rfl)
   rename_i q
   cases q<;>(try rfl)
   rename_i q
   cases q<;>rfl
  |sl tg cl xs=>
   simp only
   generalize l.getD _=p
   generalize h.getD _=q
   cases p<;>(try rfl)
   rename_i p
   cases p<;>(try rfl)
   rename_i p
   cases p<;>(try rfl)
   cases q<;>(try rfl)
   rename_i q
   cases q<;>(try rfl)
   rename_i q
   cases q<;>(try rfl)
   cases m<;>(try rfl)
   rename_i m
   cases m<;>(try rfl)
   rename_i m
   cases m<;>(try rfl)
   rename_i m
   cases m<;>rfl
  |so id off len=>
   simp only
   generalize l.getD _=p
   generalize h.getD _=q
   cases p<;>(try rfl)
   rename_i p
   cases p<;>(try rfl)
   rename_i p
   cases p<;>(try rfl)
   cases q<;>(try rfl)
   rename_i q
   cases q<;>(try rfl)
   rename_i q
   cases q<;>(try rfl)
   cases m<;>rfl
  |_=>rfl
 |_=>rfl
def c1B (v:AV) (k:FuncId->List AC->Prop):Prop:=
 match v with
 |.c (.fn g caps)=>k g caps
 |_=>False
@[simp] theorem c8L {g:FuncId} {caps:List AC} {k:FuncId->List AC->Prop}:c1B (.c (.fn g caps)) k=k g caps:=(rfl)
@[congr] theorem c8M {v v':AV} {k:FuncId->List AC->Prop} (h:v=v'):c1B v k=c1B v' k:=by rw [h]
theorem go_call {f:Operand} {args:Array Operand} {ts:Array TypeId}:stepS P F d dst (.call {callee:=.value f,args:=args,argTypes:=ts}) st K=c1B (st.eval f) fun g caps=>a7m P F d st dst g (args.toList.map st.eval++caps.map .c) K:=by
 simp only [stepS]
 generalize st.eval f=v
 cases v with
 |c y=>cases y<;>rfl
 |_=>rfl
theorem b3J {b:Builtin} {l:List Operand} {ts:List TypeId}:stepS P F d dst (.call {callee:=.builtin b,args:=⟨l⟩,argTypes:=⟨ts⟩}) st K=abi P dst b l ts st K:=(rfl)
def c2v (ti:TyI) (H:Heap) (v:AV):Option (Prop×AV):=
 match v with
 |.c (.str l)=>some (ti.form=1,.c (.raw (.int .i64 l.length)))
 |.c (.so id _ len)=>some (ti.form=2/\(H id).live=true,.c (.raw (.int .i64 len)))
 |.c (.sl _ _ xs)=>some (ti.form=2,.c (.raw (.int .i64 xs.length)))
 |.c (.raw (.slice none 0 0))=>some (ti.form=2,.c (.raw (.int .i64 0)))
 |_=>none
theorem c2w {x:Operand} {t:TypeId}:abi P dst .len [x] [t] st K=onP (c2v (tyI P t) st.H (st.eval x)) fun v=>K (st.put dst v):=by
 simp only [abi]
 generalize st.eval x=v
 unfold c2v
 split
 ·rfl
 ·rfl
 ·rfl
 ·rfl
 ·rename_i n1 n2 n3 n4
  split
  ·exact (n1 _ rfl).elim
  ·exact (n2 _ _ _ rfl).elim
  ·exact (n3 _ _ _ rfl).elim
  ·exact (n4 rfl).elim
  ·rfl
def onE (g:Option Ent) (H:Heap) (args:List AV) (fall:Prop) (k:AV->Prop) (m:List (Id×OK)->AV->Prop):Prop:=
 match g with
 |some (.pu h)=>onP ((a3c H args).bind h) k
 |some (.mu h)=>onP (h H args) fun r=>m r.1 r.2
 |none=>fall
@[simp] theorem c2x {H:Heap} {args:List AV} {h:List AV->Option (Prop×AV)} {fall:Prop} {k:AV->Prop} {m:List (Id×OK)->AV->Prop}:onE (some (.pu h)) H args fall k m=onP ((a3c H args).bind h) k:=(rfl)
@[simp] theorem c2y {H:Heap} {args:List AV} {h:MH} {fall:Prop} {k:AV->Prop} {m:List (Id×OK)->AV->Prop}:onE (some (.mu h)) H args fall k m=onP (h H args) fun r=>m r.1 r.2:=(rfl)
@[simp] theorem c5v {H:Heap} {args:List AV} {fall:Prop} {k:AV->Prop} {m:List (Id×OK)->AV->Prop}:onE none H args fall k m=fall:=(rfl)
@[congr] theorem d1i {g g':Option Ent} {H:Heap} {args:List AV} {fall:Prop} {k:AV->Prop} {m:List (Id×OK)->AV->Prop} (h:g=g'):onE g H args fall k m=onE g' H args fall k m:=by rw [h]
theorem b7S {f:FuncId} {args:List AV}:a7m P F d st dst f args K =
  onE (a0c F f) st.H args (a6y P d st dst f args K)
   (fun ret=>a4R (a1P st dst) st.H 0 ret.flat/\(d=true->ret.flat.length<=1024/\dst.isSome=true)/\onA (wd (adH (a1P st dst) 0 ret.flat st.H)) (ret.ad (a1P st dst)) fun H v=>K ((st.hto H).put dst v))
   fun us ret=>d=false/\a4R (a1P st dst) st.H 0 ret.flat/\onA (wd (adH (a1P st dst) 0 ret.flat (upH st.H us))) (ret.ad (a1P st dst)) fun H v=>K ((st.hto H).put dst v):=by
 unfold a7m
 cases a0c F f with
 |none=>rfl
 |some e=>
  cases e with
  |pu h=>
   simp only [c2x]
   cases a3c st.H args with
   |none=>rfl
   |some args'=>
    simp only [Option.bind_some]
    cases h args' with
    |none=>rfl
    |some q=>rfl
  |mu h=>
   simp only [c2y]
   cases h st.H args with
   |none=>rfl
   |some q=>rfl
def onD (g:Option Ent) (H:Heap) (args:List AV) (m:List (Id×OK)->AV->Prop):Prop:=
 match g with
 |some (.mu h)=>onP (h H args) fun r=>m r.1 r.2
 |_=>False
@[simp] theorem c2z {H:Heap} {args:List AV} {h:MH} {m:List (Id×OK)->AV->Prop}:onD (some (.mu h)) H args m=onP (h H args) fun r=>m r.1 r.2:=(rfl)
@[congr] theorem d1j {g g':Option Ent} {H:Heap} {args:List AV} {m:List (Id×OK)->AV->Prop} (h:g=g'):onD g H args m=onD g' H args m:=by rw [h]
theorem b7T {f:Operand} {args:Array Operand} {ts:Array TypeId} {K:List Id->St->Prop}:a3V P F ⟨dst,.call {callee:=.value f,args:=args,argTypes:=ts},none⟩ st K =
  c1B (st.eval f) fun g caps=>onD (a0c F g) st.H (args.toList.map st.eval++caps.map .c) fun us ret=>a4R (a1P st dst) st.H 0 ret.flat/\(ret.flat.length<=1024/\dst.isSome=true)/\
   onA (wd (adH (a1P st dst) 0 ret.flat (upH st.H us))) (ret.ad (a1P st dst)) fun H v=>K (us.map (·.1)) ((st.hto H).put dst v):=by
 unfold a3V c1B
 simp only
 first
 |done
 |generalize st.eval f=v
  cases v with
  |c x=>
   cases x with
   |fn g caps=>
    simp only
    cases a0c F g with
    |none=>rfl
    |some e=>
     cases e with
     |pu h=>rfl
     |mu h=>
      simp only [c2z]
      cases h st.H _ with
      |none=>rfl
      |some q=>rfl
   |_=>rfl
  |_=>rfl
def c2A (v:AV) (k:Id->Prop):Prop:=
 match v with
 |.c (.pt id _ _)=>k id
 |_=>False
@[simp] theorem c8N {id:Id} {i j:Nat} {k:Id->Prop}:c2A (.c (.pt id i j)) k=k id:=(rfl)
@[congr] theorem c8O {v v':AV} {k:Id->Prop} (h:v=v'):c2A v k=c2A v' k:=by rw [h]
theorem b5j {t:TypeId} {x v:Operand} {K:List Id->St->Prop}:a3V P F ⟨dst,.store t x v,none⟩ st K=c2A (st.eval x) fun id=>stepS P F true dst (.store t x v) st (K [id]):=by
 unfold a3V c2A
 simp only [stepS]
 first
 |done
 |generalize st.eval x=u
  cases u with
  |c c=>cases c<;>rfl
  |_=>rfl
theorem b7U {js:List Nat} {prs:List (Nat×Nat)} {i:Nat} {W:List (Nat×Id)} {N:List (Nat×AV)} {K:List (Nat×Id)->List (Nat×AV)->St->Prop}:a7E P F js prs [] i W N K st=K W N st:=(rfl)
theorem b5k {js:List Nat} {prs:List (Nat×Nat)} {i:Nat} {W:List (Nat×Id)} {N:List (Nat×AV)} {op:Op} {l:List SO} {K:List (Nat×Id)->List (Nat×AV)->St->Prop}:a7E P F js prs (⟨dst,op,none⟩::l) i W N K st =
  if prs.contains (i,i)=true then a5Q P F dst op st (a7E P F js prs l (i+1) W (if prs.any (·.2==i)=true then a2L i op st++N else N) K)
  else if js.contains i=true then a3V P F ⟨dst,op,none⟩ st fun W' st'=>a7E P F js prs l (i+1) (W'.map (fun id=>(i,id))++W) (if prs.any (·.2==i)=true then a2L i op st++N else N) K st'
  else stepS P F true dst op st (a7E P F js prs l (i+1) W (if prs.any (·.2==i)=true then a2L i op st++N else N) K):=(rfl)
attribute [simp ↓] b7T b5j b7U b5k
attribute [simp] a2L Op.operands
@[simp] theorem d3u {id:Id} {c:AC}:idV id (.c c)↔idC id c:=by simp [idV,AV.flat]
@[simp] theorem d1k {id i:Id} {j k:Nat}:idC id (.pt i j k)↔id=i:=⟨(fun h=>by cases h;rfl),(fun h=>by subst h;constructor)⟩
@[simp] theorem c8P {id:Id} {l:List UInt8}:idC id (.str l)↔False:=⟨(fun h=>nomatch h),(fun h=>h.elim)⟩
attribute [simp] upH
section
variable {ti te ts:TyI} {H:Heap} {id:Id} {i j off len n eid:Nat} {row cs:List AC} {rows xs:List (List AC)} {tg:Tag} {cl:Bool} {c:AC} {k k' k'':IntKind} {a b m:Int} {l:List UInt8} {v:AV}
@[simp] theorem d1l:c8K ti H (.g cs)=some (ti.ok=true/\cs.length=ti.sz/\cs.all (AC.one H)=true,[cs]):=(rfl)
@[simp] theorem c2B:b5e ti (some cs)=some (ti.ok=true/\ti.bld=true,.g cs):=(rfl)
@[simp] theorem c5w:b96 ti te n (some rows)=some (ti.form=2/\te.ok=true/\rows.length=n/\n*te.sz<=16777216/\0<te.sz,rows):=(rfl)
@[simp] theorem c5x:b02 ti (some row) j=(a4q ti.ag ti.sz row j).map fun v=>(ti.ok=true,v):=(rfl)
@[simp] theorem c5y:b5f ti H (.c (.pt id i j))=b02 ti (c1A H id i) j:=(rfl)
@[simp] theorem c5z:b5f ti H (.c (.pv tg row j))=b02 ti (some row) j:=(rfl)
def rowAt (o:OK) (i:Nat):Option (List AC):=
 match o with
 |.arr _ _ _ rows=>rows[i]?
 |_=>none
@[simp] theorem c8Q:c1A H id i=rowAt (H id) i:=(rfl)
@[simp] theorem c5A {e sz:Nat} {f:Bool}:rowAt (.arr e sz f rows) i=rows[i]?:=(rfl)
def c8R (ti:TyI) (H:Heap) (id:Id) (i j:Nat) (cs:List AC) (o:OK):Option (Prop×Heap):=
 match o with
 |.arr e sz false rows=>match rows[i]? with
   |some row=>some (ti.ok=true/\cs.length=ti.sz/\cs.all (AC.one H)=true/\j+cs.length<=row.length,hset H id (.arr e sz false (rows.set i (lay row j cs))))
   |none=>none
 |_=>none
def b99 (ti:TyI) (H:Heap) (id:Id) (i j e sz:Nat) (cs:List AC) (rows:List (List AC)) (o:Option (List AC)):Option (Prop×Heap):=
 o.map fun row=>(ti.ok=true/\cs.length=ti.sz/\cs.all (AC.one H)=true/\j+cs.length<=row.length,hset H id (.arr e sz false (rows.set i (lay row j cs))))
@[simp] theorem c5B:b2P ti H (.c (.pt id i j)) (.c c)=c8R ti H id i j [c] (H id):=(rfl)
@[simp] theorem c5C:b2P ti H (.c (.pt id i j)) (.g cs)=c8R ti H id i j cs (H id):=(rfl)
@[simp] theorem c8S {e sz:Nat}:c8R ti H id i j cs (.arr e sz false rows)=b99 ti H id i j e sz cs rows rows[i]?:=by
 show (match rows[i]? with
   |some row=>some (ti.ok=true/\cs.length=ti.sz/\cs.all (AC.one H)=true/\j+cs.length<=row.length,hset H id (.arr e sz false (rows.set i (lay row j cs))))
   |none=>none)=_
 unfold b99
 generalize rows[i]?=o
 cases o<;>rfl
@[simp] theorem c5D {e sz:Nat}:b99 ti H id i j e sz cs rows (some row)=some (ti.ok=true/\cs.length=ti.sz/\cs.all (AC.one H)=true/\j+cs.length<=row.length,hset H id (.arr e sz false (rows.set i (lay row j cs)))):=(rfl)
@[simp] theorem c8T:d1h H (.c (.pt id i j))=some ((H id).live=true,.c (.pt id i j)):=(rfl)
@[simp] theorem c2C:a9R ts ti te H (.c (.raw (.int k a)))=ti.kind.map fun k=>(ts.form=3,.c (.raw (.int k (k.wrap a)))):=(rfl)
@[simp] theorem c5E:a9R ts ti te H (.c (.so id off len))=((rowsOf H (.so id off len)).bind a1Q).map fun l=>(ts.form=2/\ti.form=1/\te.kind=some .u8,.c (.str l)):=(rfl)
@[simp] theorem d1m {first:Array Operand} {f:FuncId}:rFn first f (some cs)=some (first=#[],.c (.fn f cs)):=(rfl)
@[simp] theorem c5F:b98 ti te (.c (.raw (.int .i64 a))) (.c (.raw (.int .i64 b)))=some (a=b/\0<=a/\a<=9223372036854775807/\a*te.bytes<=281474976710656/\ti.form=2/\te.ok=true/\0<te.sz,a.toNat):=(rfl)
@[simp] theorem c1C {f:Nat}:a5s ti H f (.c (.pt id i j))=ti.a2m[f]?.map fun q=>((ti.form=5/\0<q.2.1)/\(H id).live=true,.c (.pt id i (j+q.1))):=by
 unfold a5s
 cases ti.a2m[f]?<;>rfl
@[simp] theorem c1D {f:Nat}:a5s ti H f (.c (.pv tg row j))=ti.a2m[f]?.map fun q=>(ti.form=5/\0<q.2.1,.c (.pv tg row (j+q.1))):=by
 unfold a5s
 cases ti.a2m[f]?<;>rfl
@[simp] theorem c1E:a8C ti te eid H (.c (.sl tg cl xs)) (.c (.raw (.int k a)))=some ((ti.form=2/\te.ok=true/\te.sz=(xs.getD a.toNat []).length)/\0<=a/\a<xs.length,.c (.pv tg (xs.getD a.toNat []) 0)):=(rfl)
@[simp] theorem c1F:a8C ti te eid H (.c (.so id off len)) (.c (.raw (.int k a)))=some ((ti.form=2/\te.ok=true/\∃frz rows,H id=.arr eid te.sz frz rows)/\0<=a/\a<len,.c (.pt id (off+a.toNat) 0)):=(rfl)
@[simp] theorem c2D:b5i ti (.c (.str l)) (.c (.raw (.int k a)))=some (ti.form=1/\0<=a/\a<l.length,.c (.raw (.int .u8 (bts l a)))):=(rfl)
def c8U (o:Option (Bool×List AC)):Option (Prop×AV):=
 match o with
 |some (true,cs)=>some (True,.g cs)
 |some (false,[c])=>some (True,.c c)
 |_=>none
@[simp] theorem c0a {ps:List (Bool×List AC)}:a8D i (.t ps)=c8U ps[i]?:=(rfl)
@[simp] theorem d1n:c8U (some (true,cs))=some (True,.g cs):=(rfl)
@[simp] theorem d1o:c8U (some (false,[c]))=some (True,.c c):=(rfl)
@[simp] theorem c1G {lo hi mx:Option AV}:a9W ti te eid H (.c (.str l)) lo hi mx=(match lo.getD (.c (.raw (.int .i64 0))),hi.getD (.c (.raw (.int .i64 l.length))) with
  |.c (.raw (.int _ i)),.c (.raw (.int _ j))=>some (ti.form=1/\mx.isNone=true/\0<=i/\i<=j/\j<=l.length,.c (.str ((l.take j.toNat).drop i.toNat)))
  |_,_=>none):=(rfl)
@[simp] theorem c2E {lo hi mx:Option AV}:a9W ti te eid H (.c (.sl tg cl xs)) lo hi mx=(match lo.getD (.c (.raw (.int .i64 0))),hi.getD (.c (.raw (.int .i64 xs.length))),mx with
  |.c (.raw (.int _ i)),.c (.raw (.int _ j)),none=>some (ti.form=2/\te.ok=true/\(∀r∈xs,r.length=te.sz)/\0<=i/\i<=j/\j<=xs.length,.c (.sl tg false ((xs.take j.toNat).drop i.toNat)))
  |.c (.raw (.int _ i)),.c (.raw (.int _ j)),some (.c (.raw (.int _ m)))=>some (ti.form=2/\te.ok=true/\(∀r∈xs,r.length=te.sz)/\0<=i/\i<=j/\j=m/\m<=xs.length/\hi.isSome=true,.c (.sl tg true ((xs.take j.toNat).drop i.toNat)))
  |_,_,_=>none):=(rfl)
@[simp] theorem c2F {lo hi mx:Option AV}:a9W ti te eid H (.c (.so id off len)) lo hi mx=(match lo.getD (.c (.raw (.int .i64 0))),hi.getD (.c (.raw (.int .i64 len))),mx with
  |.c (.raw (.int _ i)),.c (.raw (.int _ j)),none=>some (ti.form=2/\te.ok=true/\(∃sz frz rows,H id=.arr eid sz frz rows/\sz=te.sz)/\0<=i/\i<=j/\j<=len,.c (.so id (off+i.toNat) (j.toNat-i.toNat)))
  |_,_,_=>none):=(rfl)
@[simp] theorem c5G:c2v ti H (.c (.str l))=some (ti.form=1,.c (.raw (.int .i64 l.length))):=(rfl)
@[simp] theorem c8V:c2v ti H (.c (.so id off len))=some (ti.form=2/\(H id).live=true,.c (.raw (.int .i64 len))):=(rfl)
@[simp] theorem c8W:c2v ti H (.c (.sl tg cl xs))=some (ti.form=2,.c (.raw (.int .i64 xs.length))):=(rfl)
end
variable {ti:TyI} {k:IntKind} {a b:Int}
theorem c0b:a2J ti .add (.c (.raw (.int k a))) (.c (.raw (.int k b)))=some (True,.raw (.int k (k.wrap (a+b)))):=by simp [a2J,b3n]
theorem c0c:a2J ti .sub (.c (.raw (.int k a))) (.c (.raw (.int k b)))=some (True,.raw (.int k (k.wrap (a-b)))):=by simp [a2J,b3n]
theorem c0d:a2J ti .mul (.c (.raw (.int k a))) (.c (.raw (.int k b)))=some (True,.raw (.int k (k.wrap (a*b)))):=by simp [a2J,b3n]
theorem c0e:a2J ti .lss (.c (.raw (.int k a))) (.c (.raw (.int k b)))=some (True,.raw (.bool (decide (a<b)))):=by simp [a2J,b3n]
theorem c0f:a2J ti .leq (.c (.raw (.int k a))) (.c (.raw (.int k b)))=some (True,.raw (.bool (decide (a<=b)))):=by simp [a2J,b3n]
theorem c0g:a2J ti .gtr (.c (.raw (.int k a))) (.c (.raw (.int k b)))=some (True,.raw (.bool (decide (b<a)))):=by simp [a2J,b3n]
theorem c0h:a2J ti .geq (.c (.raw (.int k a))) (.c (.raw (.int k b)))=some (True,.raw (.bool (decide (b<=a)))):=by simp [a2J,b3n]
theorem c0i:a2J ti .eql (.c (.raw (.int k a))) (.c (.raw (.int k b)))=some (True,.raw (.bool (decide (a=b)))):=by simp [a2J,b3n]
theorem c0j:a2J ti .neq (.c (.raw (.int k a))) (.c (.raw (.int k b)))=some (True,.raw (.bool (!decide (a=b)))):=by simp [a2J,b3n]
def c5H (k:IntKind) (a b:Int):Int:=k.wrap (BitVec.ofInt k.bits a &&&BitVec.ofInt k.bits b).toNat
def ior (k:IntKind) (a b:Int):Int:=k.wrap (BitVec.ofInt k.bits a |||BitVec.ofInt k.bits b).toNat
theorem c0k:a2J ti .and (.c (.raw (.int k a))) (.c (.raw (.int k b)))=some (True,.raw (.int k (c5H k a b))):=by simp [a2J,b3n,c5H]
theorem c2G:a2J ti .or (.c (.raw (.int k a))) (.c (.raw (.int k b)))=some (True,.raw (.int k (ior k a b))):=by simp [a2J,b3n,ior]
theorem c0l {k':IntKind}:a2J ti .shl (.c (.raw (.int k a))) (.c (.raw (.int k' b)))=some (0<=b,.raw (.int k (k.wrap (a*2^(min b.toNat k.bits))))):=by simp [a2J]
theorem c0m {k':IntKind}:a2J ti .shr (.c (.raw (.int k a))) (.c (.raw (.int k' b)))=some (0<=b,.raw (.int k (a.fdiv (2^(min b.toNat k.bits))))):=by simp [a2J]
theorem c0n:a2J ti .quo (.c (.raw (.int k a))) (.c (.raw (.int k b)))=some (b≠0,.raw (.int k (k.wrap (a.tdiv b)))):=by simp [a2J]
theorem c0o:a2J ti .rem (.c (.raw (.int k a))) (.c (.raw (.int k b)))=some (b≠0,.raw (.int k (a.tmod b))):=by simp [a2J]
variable {x y:List UInt8} {p q:Bool} {xs ys:List AC}
theorem b7V:a2J ti .add (.c (.str x)) (.c (.str y))=some (x.length+y.length<=9223372036854775807,.str (x++y)):=by simp [a2J]
theorem b7W:a2J ti .eql (.c (.str x)) (.c (.str y))=some (True,.raw (.bool (decide (x=y)))):=by simp [a2J]
theorem b7X:a2J ti .neq (.c (.str x)) (.c (.str y))=some (True,.raw (.bool (!decide (x=y)))):=by simp [a2J]
theorem b7Y:a2J ti .eql (.c (.raw (.bool p))) (.c (.raw (.bool q)))=some (ti.form=4,.raw (.bool (p==q))):=by simp [a2J]
theorem c8X {op:BinOp}:a2J ti op (.g xs) (.g ys)=aeq op (a0x ti.eqs xs ys) ti.eqs:=by simp [a2J]
variable {H:Heap} {v v':Value} {l l':List UInt8} {t t':Tag} {cl cl':Bool} {rows rows':List (List AC)} {id:Id} {off len e sz:Nat} {n:Int}
@[simp] theorem c2H:a2U (.int k n)=.raw (.int k n):=(rfl)
@[simp] theorem c1H:a2U (.bool p)=.raw (.bool p):=(rfl)
@[simp] theorem b8W {s:ByteArray}:a2U (.string s)=.str s.data.toList:=(rfl)
@[simp] theorem c0p {x:Option Addr} {i j:Nat}:a2U (.slice x i j)=.raw (.slice x i j):=(rfl)
@[simp] theorem c5I {f:Bool}:(OK.arr e sz f rows).live=true:=(rfl)
@[simp] theorem c8Y {x:AC}:(AV.c x).cells=some [x]:=(rfl)
@[simp] theorem c8Z {xs:List AC}:(AV.g xs).cells=some xs:=(rfl)
@[simp] theorem c2I:a3t H []=some []:=(rfl)
@[simp] theorem c1I {c:AC} {r:List AC}:a3t H (c::r)=(match a1e H c,a3t H r with
  |some x,some xs=>some (x::xs)
  |_,_=>none):=(rfl)
@[simp] theorem c2J:a3c H []=some []:=(rfl)
@[simp] theorem c1J {c:AV} {r:List AV}:a3c H (c::r)=(match a2K H c,a3c H r with
  |some x,some xs=>some (x::xs)
  |_,_=>none):=(rfl)
section
variable {nm:Nat->Id} {i:Nat} {r:List AC}
@[simp] theorem d1p {x:AC}:(AV.c x).flat=[x]:=(rfl)
@[simp] theorem d1q {xs:List AC}:(AV.g xs).flat=xs:=(rfl)
@[simp] theorem d1r {xs:List (Bool×List AC)}:(AV.t xs).flat=a2C xs:=(rfl)
@[simp] theorem d6O {x:AC}:(AV.c x).ad nm=.c (adC nm 0 x):=(rfl)
@[simp] theorem d6P {xs:List AC}:(AV.g xs).ad nm=.g (adL nm 0 xs):=(rfl)
@[simp] theorem d6Q {xs:List (Bool×List AC)}:(AV.t xs).ad nm=.t (adT nm 0 xs):=(rfl)
@[simp] theorem d1t:adC nm i (.nw e sz rows)=.so (nm i) 0 rows.length:=(rfl)
@[simp] theorem c80:adC nm i (.raw v)=.raw v:=(rfl)
@[simp] theorem c81:adC nm i (.str l)=.str l:=(rfl)
@[simp] theorem d1u:adC nm i (.sl t cl rows)=.sl t cl rows:=(rfl)
@[simp] theorem c82:b4x id (.nw e sz rows) H=hset H id (.arr e sz false rows):=(rfl)
@[simp] theorem c5J:b4x id (.raw v) H=H:=(rfl)
@[simp] theorem c5K:b4x id (.str l) H=H:=(rfl)
@[simp] theorem c83:b4x id (.sl t cl rows) H=H:=(rfl)
@[simp] theorem c5L:a4R nm H i []=True:=(rfl)
@[simp] theorem c84:a4R nm H i (.nw e sz rows::r)=(H (nm i)=.a0b/\a4R nm H (i+1) r):=(rfl)
@[simp] theorem c5M:a4R nm H i (.raw v::r)=a4R nm H (i+1) r:=(rfl)
@[simp] theorem c5N:a4R nm H i (.str l::r)=a4R nm H (i+1) r:=(rfl)
@[simp] theorem c85:a4R nm H i (.sl t cl rows::r)=a4R nm H (i+1) r:=(rfl)
@[simp] theorem c2K:a1j []=[]:=(rfl)
@[simp] theorem c5O:a1j (.so id off len::r)=id::a1j r:=(rfl)
@[simp] theorem c2L:a1j (.raw v::r)=a1j r:=(rfl)
@[simp] theorem c2M:a1j (.str l::r)=a1j r:=(rfl)
@[simp] theorem c5P:a1j (.sl t cl rows::r)=a1j r:=(rfl)
end
@[simp] theorem c86:exL H [] []=True:=(rfl)
@[simp] theorem c5Q {c c':AC} {r r':List AC}:exL H (c::r) (c'::r')=(exC H c c'/\exL H r r'):=(rfl)
@[simp] theorem c87:exT H [] []=True:=(rfl)
@[simp] theorem c5R {b b':Bool} {c c':List AC} {r r':List (Bool×List AC)}:exT H ((b,c)::r) ((b',c')::r')=(b=b'/\exL H c c'/\exT H r r'):=(rfl)
@[simp] theorem c0q:a1Q []=some []:=(rfl)
@[simp] theorem b8X {r:List (List AC)}:a1Q ([.raw (.int .u8 n)]::r)=(a1Q r).map fun l=>UInt8.ofNat n.toNat::l:=(rfl)
@[simp] theorem c88:exC H (.raw v) (.raw v')=(v=v'):=by unfold exC;split<;>simp_all
@[simp] theorem c89:exC H (.str l) (.str l')=(l=l'):=(rfl)
@[simp] theorem c2N:exC H (.so id off len) (.nw e sz rows)=(off=0/\H id=.arr e sz false rows/\len=rows.length):=(rfl)
@[simp] theorem c2O:exC H (.so id off len) (.sl t cl rows)=(t≠.brw/\cl=false/\rowsOf H (.so id off len)=some rows):=(rfl)
@[simp] theorem c1K:exC H (.raw (.slice none 0 0)) (.nw e sz rows)=(rows=[]):=(rfl)
@[simp] theorem c1L:exC H (.raw (.slice none 0 0)) (.sl t cl rows)=(rows=[]):=(rfl)
@[simp] theorem c2P:exC H (.sl t cl rows) (.sl t' cl' rows')=(rows=rows'/\(t'=t\/(t=.new/\t'=.old))/\t'≠.brw/\(cl'=true->cl=true)):=(rfl)
@[simp] theorem d3v {x y:AC}:exV H (.c x) (.c y)=exC H x y:=(rfl)
@[simp] theorem d3w {x y:List AC}:exV H (.g x) (.g y)=exL H x y:=(rfl)
@[simp] theorem d3x {x y:List (Bool×List AC)}:exV H (.t x) (.t y)=exT H x y:=(rfl)
@[simp] theorem c5S:a6v (.raw v)=True:=by simp [a6v,a3O]
@[simp] theorem c5T:a6v (.str l)=True:=by simp [a6v,a3P]
@[simp] theorem c9a:a6v (.sl t cl rows)=(t≠.brw/\∀r∈rows,∀c∈r,a1L c):=by simp [a6v,a4a]
@[simp] theorem c9b:a6v (.nw e sz rows)=(∀r∈rows,∀c∈r,a1L c):=(rfl)
attribute [simp] a3O a3P a4a
@[simp] theorem c9c:VOK (.raw v)=True:=(rfl)
@[simp] theorem c9d:VOK (.str l)=True:=(rfl)
@[simp] theorem d1v:VOK (.sl t cl rows)=(∀r∈rows,∀c∈r,a4D c):=(rfl)
@[simp] theorem d1x {f:FuncId} {caps:List AC}:VOK (.fn f caps)=(∀c∈caps,b4w c):=(rfl)
@[simp] theorem d1y {row:List AC} {i:Nat}:VOK (.pv t row i)=(∀c∈row,b7j c):=(rfl)
@[simp] theorem c9e {row:List AC} {i:Nat}:b4w (.pv t row i)=(∀c∈row,b7j c):=(rfl)
@[simp] theorem c9f:b7j (.sl t cl rows)=(∀r∈rows,∀c∈r,a4D c):=(rfl)
@[simp] theorem c2Q:rowsOf H (.sl t cl rows)=some rows:=(rfl)
def b8Y (o:OK) (off len:Nat):Option (List (List AC)):=
 match o with
 |.arr _ _ _ rows=>if off+len<=rows.length then some ((rows.drop off).take len) else none
 |_=>none
@[simp] theorem c2R:rowsOf H (.so id off len)=b8Y (H id) off len:=(rfl)
@[simp] theorem c2S {f:Bool}:b8Y (.arr e sz f rows) off len=if off+len<=rows.length then some ((rows.drop off).take len) else none:=(rfl)
@[simp] theorem c2T:a1e H (.raw (.slice none 0 0))=some (.sl .brw false []):=(rfl)
@[simp] theorem c2U:a1e H (.raw (.int k n))=some (.raw (.int k n)):=(rfl)
@[simp] theorem c1M:a1e H (.raw (.bool p))=some (.raw (.bool p)):=(rfl)
@[simp] theorem c2V:a1e H (.str l)=some (.str l):=(rfl)
@[simp] theorem c5U:a1e H (.sl t cl rows)=some (.sl .brw false rows):=(rfl)
@[simp] theorem c5V:a1e H (.so id off len)=(rowsOf H (.so id off len)).map fun rows=>.sl .brw false rows:=(rfl)
@[simp] theorem c9g:a2K H (.g xs)=(a3t H xs).map .g:=(rfl)
@[simp] theorem c5W {f:FuncId} {caps:List AC}:a2K H (.c (.fn f caps))=(a2Z H caps).map fun cs=>.c (.fn f cs):=(rfl)
def viewAt (o:OK) (i j:Nat):Option AC:=
 match o with
 |.arr _ _ _ rows=>match rows[i]? with
   |some row=>(a3t a0j row).map fun cs=>.pv .brw cs j
   |none=>none
 |_=>none
def b05 (o:Option (List AC)) (j:Nat):Option AC:=o.bind fun row=>(a3t a0j row).map fun cs=>.pv .brw cs j
@[simp] theorem c1N {row:List AC} {j:Nat}:b05 (some row) j=(a3t a0j row).map fun cs=>.pv .brw cs j:=(rfl)
@[simp] theorem c5X {i j:Nat}:a4r H (.pt id i j)=viewAt (H id) i j:=(rfl)
@[simp] theorem c2W {f:Bool} {i j:Nat}:viewAt (.arr e sz f rows) i j=b05 rows[i]? j:=by
 show (match rows[i]? with
   |some row=>(a3t a0j row).map fun cs=>AC.pv .brw cs j
   |none=>none)=_
 unfold b05
 generalize rows[i]?=o
 cases o<;>rfl
@[simp] theorem c5Y {row:List AC} {j:Nat}:a4r H (.pv t row j)=(a3t a0j row).map fun cs=>.pv .brw cs j:=(rfl)
@[simp] theorem c1O:a2Z H []=some []:=(rfl)
@[simp] theorem c0r {c:AC} {r:List AC}:a2Z H (c::r)=(match a4r H c,a2Z H r with
  |some x,some xs=>some (x::xs)
  |_,_=>none):=(rfl)
@[simp] theorem c5Z {row:List AC} {j:Nat}:a2K H (.c (.pv t row j))=(a4r H (.pv t row j)).map .c:=(rfl)
@[simp] theorem c2X:a2K H (.c (.raw v))=(a1e H (.raw v)).map .c:=(rfl)
@[simp] theorem c2Y:a2K H (.c (.str l))=some (.c (.str l)):=(rfl)
@[simp] theorem c50:a2K H (.c (.sl t cl rows))=some (.c (.sl .brw false rows)):=(rfl)
@[simp] theorem c51:a2K H (.c (.so id off len))=(a1e H (.so id off len)).map .c:=(rfl)
@[simp] theorem c9h:AC.one H (.raw v)=v.oneCell':=(rfl)
@[simp] theorem c9i:AC.one H (.str l)=true:=(rfl)
@[simp] theorem d1z:AC.one H (.sl t cl rows)=true:=(rfl)
@[simp] theorem d1A:AC.one H (.so id off len)=(H id).live:=(rfl)
@[simp] theorem c52 {i:Nat}:resV P st (.tmp i)=some (st.s i):=(rfl)
def c2Z (ti:TyI) (H:Heap) (v:AV):Option AV:=
 match v with
 |.c (.pt id i j)=>match H id with
   |.arr _ _ _ rows=>match rows[i]? with
    |some row=>if ti.ok=true then a4q ti.ag ti.sz row j else none
    |none=>none
   |_=>none
 |_=>none
def b5l (ti:TyI) (j:Nat) (o:Option (List AC)):Option AV:=o.bind fun row=>if ti.ok=true then a4q ti.ag ti.sz row j else none
@[simp] theorem c20 {ti:TyI} {j:Nat} {row:List AC}:b5l ti j (some row)=if ti.ok=true then a4q ti.ag ti.sz row j else none:=(rfl)
@[simp] theorem c21 {x:Nat} {ty:TypeId}:resV P st (.cell x ty)=c2Z (tyI P ty) st.H (st.s x):=(rfl)
@[simp] theorem c53 {ti:TyI} {i j:Nat}:c2Z ti H (.c (.pt id i j))=b5l ti j (c1A H id i):=by
 show (match H id with
   |.arr _ _ _ rows=>match rows[i]? with
    |some row=>if ti.ok=true then a4q ti.ag ti.sz row j else none
    |none=>none
   |_=>none)=_
 unfold b5l c1A
 generalize H id=o
 cases o with
 |arr e sz f rows=>
  simp only
  generalize rows[i]?=q
  cases q<;>rfl
 |_=>rfl
@[simp] theorem d1B {x:AC}:(AV.c x).part=some (false,[x]):=(rfl)
@[simp] theorem d1C {xs:List AC}:(AV.g xs).part=some (true,xs):=(rfl)
@[simp] theorem c54:b4Q P st []=some []:=(rfl)
@[simp] theorem c22 {r:ResultVar} {rs:List ResultVar}:b4Q P st (r::rs)=(match (resV P st r).bind AV.part,b4Q P st rs with
  |some p,some ps=>some (p::ps)
  |_,_=>none):=by rfl
@[simp] theorem c0s:(Value.int k n).oneCell'=true:=(rfl)
@[simp] theorem b8Z:(Value.bool p).oneCell'=true:=(rfl)
@[simp] theorem c0t:(Value.slice none 0 0).oneCell'=true:=(rfl)
def onG (v:AV) (want:Bool) (y n1 n2:Prop):Prop:=
 match v with
 |.c (.raw (.bool b))=>(b=want->y)/\(b=!want->n1)
 |.c (.raw (.tuple _))=>n2
 |_=>False
@[simp] theorem c23 {y n1 n2:Prop}:onG (.c (.raw (.bool p))) true y n1 n2=b8V p y n1:=(rfl)
@[simp] theorem c24 {y n1 n2:Prop}:onG (.c (.raw (.bool p))) false y n1 n2=c1x p y n1:=(rfl)
@[simp] theorem c25 {want:Bool} {y n1 n2:Prop} {vs:Array Value}:onG (.c (.raw (.tuple vs))) want y n1 n2=n2:=(rfl)
@[congr] theorem d1D {v v':AV} {want:Bool} {y n1 n2:Prop} (h:v=v'):onG v want y n1 n2=onG v' want y n1 n2:=by rw [h]
theorem c26 {j:Nat} {want:Bool} {y n:St->Prop}:agd (some j) want st y n=onG (st.s j) want (y (st.put (some j) (.c (.raw (.bool want))))) (n (st.put (some j) (.c (.raw (.bool (!want)))))) (n st):=by
 unfold agd
 simp only
 generalize st.s j=v
 cases v with
 |c c=>cases c with
  |raw u=>cases u<;>rfl
  |_=>rfl
 |_=>rfl
@[simp] theorem c55:undef=Value.tuple #[]:=(rfl)
attribute [congr] b7O
attribute [simp ↓] b3F c26 b7R b93 b5d b94 b7I c2t b7J a8A b97 b7K b03 b7L b7M b7N b3G c2s b3H b5h b7P b04 a9T a9U a9V b7Q b3I go_call b7S b95 b3J c2w
attribute [simp] c0b c0c c0d c0e c0f c0g c0h c0i c0j c0k c2G c0l c0m c0n c0o b7V b7W b7X b7Y c8X
open Go
variable {P:Program} {F:CT} {st:St}
theorem a1x {x:SC} {Q:AEx->St->Prop} (I:Nat->St->Prop) (n:Nat) (h0:I n st) (h:∀n st',I n st'->a14 P F x (a2V (fun d0Y=>∃m,m<n/\I m d0Y) Q) st'):a14 P F (.loop x) Q st:=
 ⟨{p:Nat×St // I p.1 p.2},fun i=>i.1.2,fun i=>i.1.1,⟨(n,st),h0⟩,.refl _,fun i=>a1w (fun e st' q=>by
  cases e with
  |normal=>obtain ⟨m,g1,g2⟩:=q;exact ⟨⟨(m,st'),g2⟩,g1,.refl _⟩
  |_=>exact q) (a2A (h i.1.1 i.1.2 i.2))⟩
class Enc (α:Type) where
 w:Nat
 row:α->List AC
 dec:List AC->Option α
 a3f:∀a,dec (row a)=some a
 a2S:∀{r:List AC} {a:α},dec r=some a->r=row a
 len:∀a,(row a).length=w
 old:∀a,∀c∈row a,a4D c
 ret:∀a,∀c∈row a,a1L c
section
variable {α:Type} [Enc α]
def a0a (l:List α):List (List AC):=l.map Enc.row
def a3g:List (List AC)->Option (List α)
 |[]=>some []
 |r::rs=>match Enc.dec r,a3g rs with
  |some a,some l=>some (a::l)
  |_,_=>none
@[simp] theorem b80 (l:List α):(a0a l).length=l.length:=by simp [a0a]
@[simp] theorem c27:a0a ([]:List α)=[]:=(rfl)
@[simp] theorem a48:∀l:List α,a3g (a0a l)=some l
 |[]=>rfl
 |s::l=>by
  have:=a48 l
  unfold a0a at this
  simp [a0a,a3g,this,Enc.a3f]
theorem a0I:∀{r:List (List AC)} {l:List α},a3g r=some l->r=a0a l
 |[],l,h=>by simp [a3g] at h;subst h;rfl
 |r::rs,l,h=>by
  unfold a3g at h
  split at h
  ·rename_i a l' h1 h2
   cases h
   rw [a0I h2,Enc.a2S h1];rfl
  ·cases h
@[simp] theorem c1P {l:List α} {i:Nat} (h:i<(a0a l).length):(a0a l)[i]=Enc.row (l[i]'(by simpa using h)):=by simp [a0a]
@[simp] theorem a7I {l:List α} {i:Nat}:(a0a l)[i]?=(l[i]?).map Enc.row:=by simp [a0a]
@[simp] theorem c28 {l:List α}:(∀r∈a0a l,∀c∈r,a4D c)↔True:=by simp only [a0a,List.mem_map,iff_true];rintro r ⟨a,_,rfl⟩;exact Enc.old a
@[simp] theorem b5m {l:List α}:(∀r∈a0a l,∀c∈r,a1L c)↔True:=by simp only [a0a,List.mem_map,iff_true];rintro r ⟨a,_,rfl⟩;exact Enc.ret a
@[simp] theorem c29 {l:List α} {n:Nat} (h:n=Enc.w α):(∀r∈a0a l,r.length=n)↔True:=by
 subst h
 simp only [a0a,List.mem_map,iff_true]
 rintro r ⟨a,_,rfl⟩
 exact Enc.len a
theorem a27 (l m:List α):a0a (l++m)=a0a l++a0a m:=by simp [a0a]
theorem a7J (l:List α) (a:α):a0a l++[Enc.row a]=a0a (l++[a]):=by simp [a0a]
theorem b5n (l:List α) (i:Nat) (a:α):(a0a l).set i (Enc.row a)=a0a (l.set i a):=by simp [a0a,List.map_set]
theorem a4g (l:List α) (i:Nat):(a0a l).take i=a0a (l.take i):=by simp [a0a,List.map_take]
@[simp] theorem c3a {l m:List α}:a0a l=a0a m↔l=m:=
 ⟨fun h=>by have:=congrArg (a3g (α:=α)) h;simpa using this,fun h=>by rw [h]⟩
@[simp] theorem b7Z {l:List α}:a0a l=[]↔l=[]:=by simp [a0a]
end
instance encS:Enc (List UInt8) where
 w:=1
 row s:=[.str s]
 dec|[.str s]=>some s|_=>none
 a3f _:=rfl
 a2S {r a} h:=by split at h<;>simp_all
 len _:=rfl
 old a c hc:=by simp at hc;subst hc;exact .str _
 ret a c hc:=by simp at hc;subst hc;exact .str _
instance encI:Enc Int where
 w:=1
 row n:=[.raw (.int .i64 n)]
 dec|[.raw (.int .i64 n)]=>some n|_=>none
 a3f _:=rfl
 a2S {r a} h:=by split at h<;>simp_all
 len _:=rfl
 old a c hc:=by simp at hc;subst hc;exact .raw _
 ret a c hc:=by simp at hc;subst hc;exact .raw _
@[simp] theorem d3y (s:List UInt8):Enc.row s=[AC.str s]:=(rfl)
@[simp] theorem d3z (n:Int):Enc.row n=[AC.raw (.int .i64 n)]:=(rfl)
@[simp] theorem w_S:Enc.w (List UInt8)=1:=(rfl)
@[simp] theorem w_I:Enc.w Int=1:=(rfl)
theorem b06 {α:Type} {a b:List α} {i:Nat} (h:a.take i=b.take i) (ha:i<a.length) (hb:i<b.length) (he:a[i]=b[i]):a.take (i+1)=b.take (i+1):=by
 rw [List.take_add_one,List.take_add_one,h];simp [ha,hb,he]
theorem a0f {n:Int} (h1:-9223372036854775808<=n) (h2:n<=9223372036854775807):IntKind.wrap .i64 n=n:=by
 have:IntKind.wrap .i64 n=if n%18446744073709551616≥9223372036854775808 then n%18446744073709551616-18446744073709551616 else n%18446744073709551616:=by
  simp [IntKind.wrap,IntKind.bits,IntKind.signed]
 rw [this]
 split<;>omega
attribute [simp] Int.natCast_inj Int.ofNat_inj
def c9j (e:TypeId) (te:TyI) (teq same:Prop) (H:Heap) (id:Id) (n:Nat) (ys:List (List AC)) (o:OK):Option (Prop×(Heap×Nat×Nat×List (List AC))):=
 match o with
 |.arr e' sz false xs=>some (teq/\e'=e/\sz=te.sz/\te.ok=true/\(∀r∈ys,r.length=sz)/\0<sz/\n=(a1u n xs).length/\¬same/\
   (a1u n xs).length+ys.length<=9223372036854775807/\((a1u n xs).length+ys.length)*te.bytes<=140737488355328,(hset H id .dead,e',sz,a1u n xs++ys))
 |_=>none
def c3b (e:TypeId) (te:TyI) (teq:Prop) (H:Heap) (x y:AV) (ys:Option (List (List AC))):Option (Prop×(Heap×Nat×Nat×List (List AC))):=
 match x,ys with
 |.c (.raw (.slice none 0 0)),some ys=>some (teq/\te.ok=true/\(∀r∈ys,r.length=te.sz)/\0<te.sz/\ys.length<=9223372036854775807/\ys.length*te.bytes<=140737488355328,(H,e,te.sz,ys))
 |.c (.sl _ true xs),some ys=>some (teq/\te.ok=true/\(∀r∈xs,r.length=te.sz)/\(∀r∈ys,r.length=te.sz)/\0<te.sz/\(0<ys.length\/xs=[])/\
    xs.length+ys.length<=9223372036854775807/\(xs.length+ys.length)*te.bytes<=140737488355328,(H,e,te.sz,xs++ys))
 |.c (.so id 0 n),some ys=>c9j e te teq (y=.c (.so id 0 n)) H id n ys (H id)
 |_,_=>none
section
variable {e:TypeId} {te:TyI} {teq:Prop} {H:Heap} {y:AV} {ys xs:List (List AC)} {tg:Tag} {id:Id} {n:Nat}
@[simp] theorem b70:c3b e te teq H (.c (.raw (.slice none 0 0))) y (some ys)=some (teq/\te.ok=true/\(∀r∈ys,r.length=te.sz)/\0<te.sz/\ys.length<=9223372036854775807/\ys.length*te.bytes<=140737488355328,(H,e,te.sz,ys)):=(rfl)
@[simp] theorem c0u:c3b e te teq H (.c (.sl tg true xs)) y (some ys)=some (teq/\te.ok=true/\(∀r∈xs,r.length=te.sz)/\(∀r∈ys,r.length=te.sz)/\0<te.sz/\(0<ys.length\/xs=[])/\
    xs.length+ys.length<=9223372036854775807/\(xs.length+ys.length)*te.bytes<=140737488355328,(H,e,te.sz,xs++ys)):=(rfl)
@[simp] theorem c0v:c3b e te teq H (.c (.so id 0 n)) y (some ys)=c9j e te teq (y=.c (.so id 0 n)) H id n ys (H id):=(rfl)
@[simp] theorem c0w {e' sz:Nat} {same:Prop}:c9j e te teq same H id n ys (.arr e' sz false xs)=some (teq/\e'=e/\sz=te.sz/\te.ok=true/\(∀r∈ys,r.length=sz)/\0<sz/\n=(a1u n xs).length/\¬same/\
   (a1u n xs).length+ys.length<=9223372036854775807/\((a1u n xs).length+ys.length)*te.bytes<=140737488355328,(hset H id .dead,e',sz,a1u n xs++ys)):=(rfl)
attribute [simp] a5k
end
def b71 (H:Heap) (v:AV):Option (List (List AC)):=
 match v with
 |.c c=>rowsOf H c
 |_=>none
@[simp] theorem b72 {H:Heap} {c:AC}:b71 H (.c c)=rowsOf H c:=(rfl)
theorem b5o {d:Nat} {K:St->Prop} {x y:Operand} {t t':TypeId}:abi P (some d) .append [x,y] [t,t'] st K =
  onP (c3b (tyI P t).elem (tyI P (tyI P t).elem) ((tyI P t).form=2/\t'=t) st.H (st.eval x) (st.eval y) (b71 st.H (st.eval y))) fun r=>newObj (st.hto r.1) (some d) r.2.1 r.2.2.1 r.2.2.2 (fun id=>.so id 0 r.2.2.2.length) K:=by
 simp only [abi]
 generalize hy:st.eval y=yv
 have go:∀u:Option (List (List AC)),(match st.eval x,u,some d with
  |.c (.raw (.slice none 0 0)),some ys,some d=>
   ((tyI P t).form=2/\t'=t/\(tyI P (tyI P t).elem).ok=true/\(∀r∈ys,r.length=(tyI P (tyI P t).elem).sz)/\0<(tyI P (tyI P t).elem).sz/\ys.length<=9223372036854775807/\ys.length*(tyI P (tyI P t).elem).bytes<=140737488355328)/\
    newObj st (some d) (tyI P t).elem (tyI P (tyI P t).elem).sz ys (fun id=>.so id 0 ys.length) K
  |.c (.sl _ true xs),some ys,some d=>
   ((tyI P t).form=2/\t'=t/\(tyI P (tyI P t).elem).ok=true/\(∀r∈xs,r.length=(tyI P (tyI P t).elem).sz)/\(∀r∈ys,r.length=(tyI P (tyI P t).elem).sz)/\0<(tyI P (tyI P t).elem).sz/\(0<ys.length\/xs=[])/\
    xs.length+ys.length<=9223372036854775807/\(xs.length+ys.length)*(tyI P (tyI P t).elem).bytes<=140737488355328)/\
    newObj st (some d) (tyI P t).elem (tyI P (tyI P t).elem).sz (xs++ys) (fun id=>.so id 0 (xs.length+ys.length)) K
  |.c (.so id 0 n),some ys,some d=>
   match st.H id with
   |.arr e sz false xs=>
    ((tyI P t).form=2/\t'=t/\e=(tyI P t).elem/\sz=(tyI P (tyI P t).elem).sz/\(tyI P (tyI P t).elem).ok=true/\(∀r∈ys,r.length=sz)/\0<sz/\n=(a1u n xs).length/\yv≠.c (.so id 0 n)/\
     (a1u n xs).length+ys.length<=9223372036854775807/\((a1u n xs).length+ys.length)*(tyI P (tyI P t).elem).bytes<=140737488355328)/\
     newObj {st with H:=hset st.H id .dead} (some d) e sz (a1u n xs++ys) (fun id=>.so id 0 ((a1u n xs).length+ys.length)) K
   |_=>False
  |_,_,_=>False)=onP (c3b (tyI P t).elem (tyI P (tyI P t).elem) ((tyI P t).form=2/\t'=t) st.H (st.eval x) yv u) fun r=>newObj (st.hto r.1) (some d) r.2.1 r.2.2.1 r.2.2.2 (fun id=>.so id 0 r.2.2.2.length) K:=fun u=>by
  generalize st.eval x=v
  cases u with
  |none=>
   cases v with
   |c c=>cases c with
    |raw w=>cases w with
     |slice a b c=>cases a<;>cases b<;>cases c<;>rfl
     |_=>rfl
    |sl _ b _=>cases b<;>rfl
    |so id off n=>cases off<;>rfl
    |_=>rfl
   |_=>rfl
  |some ys=>
   cases v with
   |c c=>cases c with
    |raw w=>cases w with
     |slice a b c=>
      cases a with
      |some a=>rfl
      |none=>cases b with
       |zero=>cases c with
        |zero=>simp only [b70,a7H,and_assoc];rfl
        |succ c=>rfl
       |succ b=>rfl
     |_=>rfl
    |sl tg b xs=>cases b with
     |false=>rfl
     |true=>simp only [c0u,a7H,and_assoc,List.length_append];rfl
    |so id off n=>cases off with
     |succ o=>rfl
     |zero=>
      simp only [c0v]
      cases st.H id with
      |arr ee sz f xs=>cases f with
       |true=>rfl
       |false=>simp only [c0w,a7H,and_assoc,List.length_append,ne_eq];rfl
      |_=>rfl
    |_=>rfl
   |_=>rfl
 exact go (b71 st.H yv)
def c9k (t:TyI) (te:TyI) (H:Heap) (id:Id) (off len:Nat) (ys:List (List AC)) (o:OK):Option (Prop×(Heap×Nat)):=
 match o with
 |.arr e sz false rows=>some (t.form=2/\sz=te.sz/\te.ok=true/\(∀r∈ys,r.length=sz)/\0<sz/\off+len<=rows.length,(hset H id (.arr e sz false (rows.take off++ys.take len++rows.drop (off+min len ys.length))),min len ys.length))
 |_=>none
def c3c (t te:TyI) (H:Heap) (x:AV) (ys:Option (List (List AC))):Option (Prop×(Heap×Nat)):=
 match x,ys with
 |.c (.so id off len),some ys=>c9k t te H id off len ys (H id)
 |_,_=>none
@[simp] theorem b73 {t te:TyI} {H:Heap} {id:Id} {off len:Nat} {ys:List (List AC)}:c3c t te H (.c (.so id off len)) (some ys)=c9k t te H id off len ys (H id):=(rfl)
@[simp] theorem c0x {t te:TyI} {H:Heap} {id:Id} {off len e sz:Nat} {ys rows:List (List AC)}:c9k t te H id off len ys (.arr e sz false rows)=some (t.form=2/\sz=te.sz/\te.ok=true/\(∀r∈ys,r.length=sz)/\0<sz/\off+len<=rows.length,(hset H id (.arr e sz false (rows.take off++ys.take len++rows.drop (off+min len ys.length))),min len ys.length)):=(rfl)
theorem c0y {dst:Option Nat} {K:St->Prop} {x y:Operand} {t t':TypeId}:abi P dst .copy [x,y] [t,t'] st K =
  onP (c3c (tyI P t) (tyI P (tyI P t).elem) st.H (st.eval x) (b71 st.H (st.eval y))) fun r=>K ((st.hto r.1).put dst (.c (.raw (.int .i64 ((r.2:Nat):Int))))):=by
 simp only [abi]
 generalize st.eval x=v
 generalize st.eval y=q
 cases q with
 |c cc=>
  simp only [b72]
  generalize rowsOf st.H cc=u
  cases v with
  |c c=>
   cases c with
   |so id off len=>
    cases u with
    |none=>rfl
    |some ys=>
     simp only [b73]
     cases st.H id with
     |arr ee sz f rows=>
      cases f with
      |true=>rfl
      |false=>simp only [c0x,a7H];rfl
     |_=>rfl
   |_=>rfl
  |_=>rfl
 |_=>
  cases v with
  |c c=>cases c<;>rfl
  |_=>rfl
def c9l (x y:AV):Option (Prop×AV):=
 match x,y with
 |.c (.raw (.int k a)),.c (.raw (.int k' b))=>some (k=k',.c (.raw (.int k (if b<a then b else a))))
 |_,_=>none
@[simp] theorem c9m {k k':IntKind} {a b:Int}:c9l (.c (.raw (.int k a))) (.c (.raw (.int k' b)))=some (k=k',.c (.raw (.int k (if b<a then b else a)))):=(rfl)
theorem c3d {dst:Option Nat} {K:St->Prop} {x y:Operand} {ts:List TypeId}:abi P dst .min [x,y] ts st K=onP (c9l (st.eval x) (st.eval y)) fun v=>K (st.put dst v):=by
 simp only [abi]
 generalize st.eval x=u
 generalize st.eval y=v
 unfold c9l
 split
 ·rfl
 ·rename_i hn
  split
  ·rename_i k a k' b;exact (hn _ _ _ _ rfl rfl).elim
  ·rfl
attribute [simp ↓] b5o c0y c3d
section
variable {ks:List Nat} {xs ys eqs:List AC} {k:IntKind} {a b:Int} {p q r:Bool} {s t:List UInt8} {es:List Nat}
@[simp] theorem c9n:a0x [] [] []=some true:=(rfl)
@[simp] theorem c9o:a0x (3::ks) (.raw (.int k a)::xs) (.raw (.int k b)::ys)=(a0x ks xs ys).map fun r=>decide (a=b)&&r:=by simp [a0x]
@[simp] theorem c9p:aeq .eql (some r) es=some (es≠[],.raw (.bool r)):=(rfl)
@[simp] theorem c9q:aeq .neq (some r) es=some (es≠[],.raw (.bool (!r))):=(rfl)
end
@[simp] theorem c9r (H H':Heap):(st.hto H).hto H'=st.hto H':=(rfl)
def a0v (H:Heap) (T:Nat):Prop:=∀k d,T<=k->H (k,d)=.a0b
theorem a0v.set {H:Heap} {T T':Nat} {i:Id} {o:OK} (h:a0v H T) (hT:T<=T') (hi:i.1<T'):a0v (hset H i o) T':=fun k d hk=>by
 unfold hset
 rw [if_neg (fun e=>by rw [<-e] at hi;simp at hi;omega)]
 exact h k d (by omega)
theorem a0v.mono {H:Heap} {T T':Nat} (h:a0v H T) (hT:T<=T'):a0v H T':=fun k d hk=>h k d (by omega)
theorem a0v.lt {H:Heap} {T:Nat} {i:Id} (h:a0v H T) (hi:H i≠.a0b):i.1<T:=by
 rcases Nat.lt_or_ge i.1 T with q|q
 ·exact q
 ·exact (hi (h i.1 i.2 q)).elim
theorem a0v.ne {H:Heap} {T:Nat} {i:Id} (h:a0v H T) (hi:H i≠.a0b) (d:Nat):(T,d)≠i:=fun e=>by
 have:=h.lt hi
 rw [<-e] at this
 simp at this
theorem a0v.nee {H:Heap} {T:Nat} {i:Id} (h:a0v H T) (hi:H i≠.a0b) (k d:Nat) (hk:T<=k):((k,d)=i)=False:=by
 have:=h.lt hi
 simp only [eq_iff_iff,iff_false]
 intro e
 rw [<-e] at this
 simp at this;omega
theorem a0v.d3A {H:Heap} {T:Nat} {i:Id} (h:a0v H T) (hi:H i≠.a0b) (k d:Nat) (hk:T<=k):(i=(k,d))=False:=by
 have:=h.nee hi k d hk
 simp only [eq_iff_iff,iff_false] at this ⊢
 exact fun e=>this e.symm
theorem a1r:a0v a0j 0:=fun _ _ _=>rfl
open Go Go.Proofs
theorem b5p {F:CT} (hF:a07 Tryz.prog F) (l:List UInt8):PEv Tryz.prog 45 [.c (.str l)] (.c (.raw (.bool (decide (l.length=32))))):=by
 refine a0e mixed hF Tryz.func45 d2Z d3a (by kernel_rfl) (by simp) (by simp) ?_
 simp [s45,ty9,ty3,ty4,Tryz.results45]
 omega
theorem b3K {F:CT} (hF:a07 Tryz.prog F) (n lo hi:Int):PEv Tryz.prog 62 [.c (.raw (.int .i64 n)),.c (.raw (.int .i64 lo)),.c (.raw (.int .i64 hi))] (.c (.raw (.bool (decide (lo<=n)&&decide (n<=hi))))):=by
 refine a0e mixed hF Tryz.func62 d3j d3k (by kernel_rfl) (by simp) (by simp) ?_
 simp [s62,ty9,ty3,ty4,Tryz.results62]
 omega
open Go
theorem b74 {P:Program} {F:CT} {x y:SC} {id:Nat} {Q Q':AEx->St->Prop} {st:St} (R:St->Prop) (hl:a14 P F x (a2M id (a2V R Q')) st) (hy:∀st,R st->a14 P F y Q st) :
  a14 P F x (a2M id (a2V (a14 P F y Q) Q')) st:=by
 refine a19 (fun e st h=>?_) hl
 cases e with
 |normal=>exact hy st h
 |exit j=>
  simp only [b2O] at h ⊢
  split
  ·rename_i hj
   rw [if_pos hj] at h
   exact hy st h
  ·rename_i hj
   rw [if_neg hj] at h
   exact h
 |ret=>exact h
class Arg (α:Type) where
 enc:α->AV
 dec:AV->Option α
 a0X:∀{x:AV} {a:α},dec x=some a->x=enc a
section
variable {P:Program} {α β γ δ:Type} [Arg α] [Arg β] [Arg γ] [Arg δ]
def t1 (C:α->Prop) (R:α->AV):List AV->Option (Prop×AV)
 |[x]=>(Arg.dec x).map fun a=>(C a,R a)
 |_=>none
def t2 (C:α->β->Prop) (R:α->β->AV):List AV->Option (Prop×AV)
 |[x,y]=>match Arg.dec x,Arg.dec y with
  |some a,some b=>some (C a b,R a b)
  |_,_=>none
 |_=>none
def t3 (C:α->β->γ->Prop) (R:α->β->γ->AV):List AV->Option (Prop×AV)
 |[x,y,z]=>match Arg.dec x,Arg.dec y,Arg.dec z with
  |some a,some b,some c=>some (C a b c,R a b c)
  |_,_,_=>none
 |_=>none
theorem a0o {f:FuncId} {C:α->Prop} {R:α->AV} (h:∀a,C a->PEv P f [Arg.enc a] (R a)):b45 P f (t1 C R):=by
 intro args D ret he hD
 unfold t1 at he
 split at he
 ·rename_i x
  rw [Option.map_eq_some_iff] at he
  obtain ⟨a,h1,h2⟩:=he
  cases h2
  rw [Arg.a0X h1]
  exact h a hD
 ·cases he
theorem a1s {f:FuncId} {C:α->β->Prop} {R:α->β->AV} (h:∀a b,C a b->PEv P f [Arg.enc a,Arg.enc b] (R a b)):b45 P f (t2 C R):=by
 intro args D ret he hD
 unfold t2 at he
 split at he
 ·split at he
  ·rename_i a b h1 h2
   cases he
   rw [Arg.a0X h1,Arg.a0X h2]
   exact h a b hD
  ·cases he
 ·cases he
theorem b2Q {f:FuncId} {C:α->β->γ->Prop} {R:α->β->γ->AV} (h:∀a b c,C a b c->PEv P f [Arg.enc a,Arg.enc b,Arg.enc c] (R a b c)):b45 P f (t3 C R):=by
 intro args D ret he hD
 unfold t3 at he
 split at he
 ·split at he
  ·rename_i a b c h1 h2 h3
   cases he
   rw [Arg.a0X h1,Arg.a0X h2,Arg.a0X h3]
   exact h a b c hD
  ·cases he
 ·cases he
end
@[simp] theorem d3B {α:Type} [Arg α] {C:α->Prop} {R:α->AV} {x:AV}:t1 C R [x]=(Arg.dec x).map fun a=>(C a,R a):=(rfl)
@[simp] theorem d3C {α β:Type} [Arg α] [Arg β] {C:α->β->Prop} {R:α->β->AV} {x y:AV}:t2 C R [x,y]=(match (Arg.dec x:Option α),(Arg.dec y:Option β) with
  |some a,some b=>some (C a b,R a b)
  |_,_=>none):=(rfl)
@[simp] theorem d3D {α β γ:Type} [Arg α] [Arg β] [Arg γ] {C:α->β->γ->Prop} {R:α->β->γ->AV} {x y z:AV}:t3 C R [x,y,z]=(match (Arg.dec x:Option α),(Arg.dec y:Option β),(Arg.dec z:Option γ) with
  |some a,some b,some c=>some (C a b c,R a b c)
  |_,_,_=>none):=(rfl)
def t0 (R:AV):List AV->Option (Prop×AV)
 |[]=>some (True,R)
 |_=>none
@[simp] theorem d3E {R:AV}:t0 R []=some (True,R):=(rfl)
theorem b2R {P:Program} {f:FuncId} {R:AV} (h:PEv P f [] R):b45 P f (t0 R):=by
 intro args D ret he hD
 cases args with
 |nil=>cases he;exact h
 |cons a r=>cases he
def t4 {α β γ δ:Type} [Arg α] [Arg β] [Arg γ] [Arg δ] (C:α->β->γ->δ->Prop) (R:α->β->γ->δ->AV):List AV->Option (Prop×AV)
 |[x,y,z,u]=>match Arg.dec x,Arg.dec y,Arg.dec z,Arg.dec u with
  |some a,some b,some c,some d=>some (C a b c d,R a b c d)
  |_,_,_,_=>none
 |_=>none
instance d6R:Arg Int where
 enc n:=.c (.raw (.int .i64 n))
 dec|.c (.raw (.int .i64 n))=>some n|_=>none
 a0X {x a} h:=by split at h<;>simp_all
instance d6S:Arg (List UInt8) where
 enc s:=.c (.str s)
 dec|.c (.str s)=>some s|_=>none
 a0X {x a} h:=by split at h<;>simp_all
instance d1E {α:Type} [Enc α]:Arg (List α) where
 enc l:=.c (.sl .brw false (a0a l))
 dec|.c (.sl .brw false xs)=>a3g xs|_=>none
 a0X {x a} h:=by
  split at h
  ·rw [a0I h]
  ·cases h
@[simp] theorem d3F {α:Type} [Enc α] (l:List α):@Arg.enc (List α) d1E l=.c (.sl .brw false (a0a l)):=(rfl)
@[simp] theorem d3G (n:Int):Arg.dec (.c (.raw (.int .i64 n)))=some n:=(rfl)
@[simp] theorem d3H (s:List UInt8):(Arg.dec (.c (.str s)):Option (List UInt8))=some s:=(rfl)
@[simp] theorem d3I {α:Type} [Enc α] (l:List α):@Arg.dec (List α) d1E (.c (.sl .brw false (a0a l)))=some l:=a48 l
open Go
structure a4h where
 at_:Int
 text:List UInt8
 deriving DecidableEq
instance c9s:Enc a4h where
 w:=2
 row s:=[.raw (.int .i64 s.at_),.str s.text]
 dec|[.raw (.int .i64 n),.str t]=>some ⟨n,t⟩|_=>none
 a3f _:=rfl
 a2S {r a} h:=by split at h<;>simp_all;subst h;exact ⟨rfl,rfl⟩
 len _:=rfl
 old a c hc:=by simp at hc;rcases hc with rfl|rfl<;>constructor
 ret a c hc:=by simp at hc;rcases hc with rfl|rfl<;>constructor
@[simp] theorem c56 (s:a4h):Enc.row s=[AC.raw (.int .i64 s.at_),AC.str s.text]:=rfl
@[simp] theorem d1F:Enc.w a4h=2:=rfl
structure a0l where
 safe:List (List UInt8)
 wait:List a4h
 deriving DecidableEq
theorem a4h.a8E {a b:a4h}:a=b↔a.at_=b.at_/\a.text=b.text:=by
 cases a;cases b;simp
open Go Go.Proofs
open Go Go.Proofs
def b5q:List AV->Option (Prop×AV):=t1 (fun _=>True) fun l:List UInt8=>.c (.raw (.bool (decide (l.length=32))))
@[simp] theorem c9t {l:List AV}:b5q l=(t1 (fun _=>True) fun l:List UInt8=>.c (.raw (.bool (decide (l.length=32))))) l:=(rfl)
def b5r:List AV->Option (Prop×AV):=t3 (fun _ _ _=>True) fun n lo hi:Int=>.c (.raw (.bool (decide (lo<=n)&&decide (n<=hi))))
@[simp] theorem c9u {l:List AV}:b5r l=(t3 (fun _ _ _=>True) fun n lo hi:Int=>.c (.raw (.bool (decide (lo<=n)&&decide (n<=hi))))) l:=(rfl)
def F1:CT:=(45,.pu b5q)::(62,.pu b5r)::[]
theorem b3L:a07 Tryz.prog F1:=⟨a0o fun l _=>b5p (F:=[]) trivial l,
 b2Q fun n lo hi _=>b3K (F:=[]) trivial n lo hi,trivial⟩
@[simp] theorem c57:a0c F1 45=some (.pu b5q):=(rfl)
@[simp] theorem c58:a0c F1 62=some (.pu b5r):=(rfl)
@[simp] theorem c9v {n:Nat} (h:(n==45||n==62)=false):a0c F1 n=a0c ([]:CT) n:=by
 simp only [Bool.or_eq_false_iff,beq_eq_false_iff_ne,ne_eq] at h
 simp [F1,a0c,h]
instance c9w:Arg a0l where
 enc d:=.g [.sl .brw false (a0a d.safe),.sl .brw false (a0a d.wait)]
 dec|.g [.sl .brw false a,.sl .brw false b]=>(match a3g a,a3g b with|some a,some b=>some ⟨a,b⟩|_,_=>none)|_=>none
 a0X {x d} h:=by
  split at h
  ·split at h
   ·rename_i h1 h2
    cases h
    rw [a0I h1,a0I h2]
   ·cases h
  ·cases h
@[simp] theorem c59 (d:a0l):Arg.enc d=.g [.sl .brw false (a0a d.safe),.sl .brw false (a0a d.wait)]:=rfl
@[simp] theorem b75 (a:List (List UInt8)) (b:List a4h):Arg.dec (.g [.sl .brw false (a0a a),.sl .brw false (a0a b)])=some (a0l.mk a b):=by
 show (match a3g (a0a a),a3g (a0a b) with|some a,some b=>some (a0l.mk a b)|_,_=>none)=_
 simp
def a0w (d:a0l):List AC:=[.nw 9 1 (a0a d.safe),.nw 73 2 (a0a d.wait)]
open Go
structure a0s where
 site:Int
 seq:Int
 i:Int
 deriving DecidableEq
instance c9x:Enc a0s where
 w:=3
 row e:=[.raw (.int .i64 e.site),.raw (.int .i64 e.seq),.raw (.int .i64 e.i)]
 dec|[.raw (.int .i64 a),.raw (.int .i64 b),.raw (.int .i64 c)]=>some ⟨a,b,c⟩|_=>none
 a3f _:=rfl
 a2S {r a} h:=by split at h<;>simp_all;subst h;exact ⟨rfl,rfl,rfl⟩
 len _:=rfl
 old a c hc:=by simp at hc;rcases hc with rfl|rfl|rfl<;>constructor
 ret a c hc:=by simp at hc;rcases hc with rfl|rfl|rfl<;>constructor
@[simp] theorem c6a (e:a0s):Enc.row e=[AC.raw (.int .i64 e.site),AC.raw (.int .i64 e.seq),AC.raw (.int .i64 e.i)]:=rfl
@[simp] theorem d1G:Enc.w a0s=3:=rfl
structure OpV where
 site:Int
 seq:Int
 kind:Int
 after:a0s
 text:List UInt8
 gone:List a0s
 of_:Int
 num:Int
 gen:Int
 deriving DecidableEq
def a0d (t:Tag) (o:OpV):List AC:=
 [.raw (.int .i64 o.site),.raw (.int .i64 o.seq),.raw (.int .i64 o.kind),.raw (.int .i64 o.after.site),.raw (.int .i64 o.after.seq),.raw (.int .i64 o.after.i),.str o.text,.sl t false (a0a o.gone),.raw (.int .i64 o.of_),.raw (.int .i64 o.num),.raw (.int .i64 o.gen)]
def b07 (t:Tag):List AC->Option OpV
 |[.raw (.int .i64 a),.raw (.int .i64 b),.raw (.int .i64 c),.raw (.int .i64 d),.raw (.int .i64 e),.raw (.int .i64 f),.str s,.sl t' false g,.raw (.int .i64 h),.raw (.int .i64 i),.raw (.int .i64 j)]=>
  if t'=t then (a3g g).map fun g=>⟨a,b,c,⟨d,e,f⟩,s,g,h,i,j⟩ else none
 |_=>none
theorem a3X (t:Tag) (o:OpV):b07 t (a0d t o)=some o:=by
 unfold b07 a0d
 simp
theorem a6N {t:Tag} {r:List AC} {o:OpV} (h:b07 t r=some o):r=a0d t o:=by
 unfold b07 at h
 split at h
 ·split at h
  ·rename_i ht
   subst ht
   rw [Option.map_eq_some_iff] at h
   obtain ⟨g,hg,rfl⟩:=h
   rw [a0I hg]
   rfl
  ·cases h
 ·cases h
theorem b5s (t:Tag) (o:OpV):(a0d t o).length=11:=rfl
instance d3J:Enc OpV where
 w:=11
 row:=a0d .old
 dec:=b07 .old
 a3f:=a3X .old
 a2S:=a6N
 len:=b5s .old
 old a c hc:=by simp [a0d] at hc;rcases hc with rfl|rfl|rfl|rfl|rfl|rfl|rfl|rfl|rfl|rfl|rfl<;>simp [a6w,a6x,a6b]
 ret a c hc:=by simp [a0d] at hc;rcases hc with rfl|rfl|rfl|rfl|rfl|rfl|rfl|rfl|rfl|rfl|rfl<;>simp [a3O,a3P,a4a]
@[simp] theorem d1H (o:OpV):Enc.row o=a0d .old o:=rfl
@[simp] theorem d6T:Enc.w OpV=11:=rfl
structure a0i where
 join:Bool
 a13:Int
 op:OpV
 deriving DecidableEq
def a0n (t:Tag) (e:a0i):List AC:=.raw (.bool e.join)::.raw (.int .i64 e.a13)::a0d t e.op
def a7K (t:Tag):List AC->Option a0i
 |.raw (.bool j)::.raw (.int .i64 n)::r=>(b07 t r).map fun o=>⟨j,n,o⟩
 |_=>none
theorem a4i (t:Tag) (e:a0i):a7K t (a0n t e)=some e:=by simp [a7K,a0n,a3X]
theorem a7L {t:Tag} {r:List AC} {e:a0i} (h:a7K t r=some e):r=a0n t e:=by
 unfold a7K at h
 split at h
 ·rw [Option.map_eq_some_iff] at h
  obtain ⟨o,ho,rfl⟩:=h
  rw [a6N ho]
  rfl
 ·cases h
instance c6b:Enc a0i where
 w:=13
 row:=a0n .old
 dec:=a7K .old
 a3f:=a4i .old
 a2S:=a7L
 len _:=rfl
 old a c hc:=by simp [a0n,a0d] at hc;rcases hc with rfl|rfl|rfl|rfl|rfl|rfl|rfl|rfl|rfl|rfl|rfl|rfl|rfl<;>simp [a6w,a6x,a6b]
 ret a c hc:=by simp [a0n,a0d] at hc;rcases hc with rfl|rfl|rfl|rfl|rfl|rfl|rfl|rfl|rfl|rfl|rfl|rfl|rfl<;>simp [a3O,a3P,a4a]
@[simp] theorem c3e (e:a0i):Enc.row e=a0n .old e:=rfl
@[simp] theorem c9y:Enc.w a0i=13:=rfl
instance c9z:Arg a0s where
 enc e:=.g (Enc.row e)
 dec|.g r=>Enc.dec r|_=>none
 a0X {x a} h:=by
  split at h
  ·rw [Enc.a2S h]
  ·cases h
instance d3K:Arg OpV where
 enc o:=.g (a0d .brw o)
 dec|.g r=>b07 .brw r|_=>none
 a0X {x a} h:=by
  split at h
  ·rw [a6N h]
  ·cases h
instance c6c:Arg a0i where
 enc e:=.g (a0n .brw e)
 dec|.g r=>a7K .brw r|_=>none
 a0X {x a} h:=by
  split at h
  ·rw [a7L h]
  ·cases h
instance d6U:Arg Bool where
 enc b:=.c (.raw (.bool b))
 dec|.c (.raw (.bool b))=>some b|_=>none
 a0X {x a} h:=by split at h<;>simp_all
@[simp] theorem d3L (b:Bool):Arg.enc b=.c (.raw (.bool b)):=rfl
@[simp] theorem d3M (b:Bool):(Arg.dec (.c (.raw (.bool b))):Option Bool)=some b:=rfl
@[simp] theorem c6d (e:a0s):Arg.enc e=.g [AC.raw (.int .i64 e.site),AC.raw (.int .i64 e.seq),AC.raw (.int .i64 e.i)]:=rfl
@[simp] theorem c6e (a b c:Int):(Arg.dec (.g [AC.raw (.int .i64 a),AC.raw (.int .i64 b),AC.raw (.int .i64 c)]):Option a0s)=some ⟨a,b,c⟩:=rfl
@[simp] theorem d1I (o:OpV):Arg.enc o=.g (a0d .brw o):=rfl
@[simp] theorem d1J (a b c d e f:Int) (s:List UInt8) (g:List a0s) (h i j:Int) :
  (Arg.dec (.g [.raw (.int .i64 a),.raw (.int .i64 b),.raw (.int .i64 c),.raw (.int .i64 d),.raw (.int .i64 e),.raw (.int .i64 f),.str s,.sl .brw false (a0a g),.raw (.int .i64 h),.raw (.int .i64 i),.raw (.int .i64 j)]):Option OpV) =
   some ⟨a,b,c,⟨d,e,f⟩,s,g,h,i,j⟩:=a3X .brw ⟨a,b,c,⟨d,e,f⟩,s,g,h,i,j⟩
@[simp] theorem c9A (a b c d e f:Int) (s:List UInt8) (h i j:Int) :
  (Arg.dec (.g [.raw (.int .i64 a),.raw (.int .i64 b),.raw (.int .i64 c),.raw (.int .i64 d),.raw (.int .i64 e),.raw (.int .i64 f),.str s,.sl .brw false [],.raw (.int .i64 h),.raw (.int .i64 i),.raw (.int .i64 j)]):Option OpV) =
   some ⟨a,b,c,⟨d,e,f⟩,s,[],h,i,j⟩:=a3X .brw ⟨a,b,c,⟨d,e,f⟩,s,[],h,i,j⟩
@[simp high] theorem c9B (o:OpV):(Arg.dec (.g [.raw (.int .i64 o.site),.raw (.int .i64 o.seq),.raw (.int .i64 o.kind),.raw (.int .i64 o.after.site),.raw (.int .i64 o.after.seq),.raw (.int .i64 o.after.i),.str o.text,.sl .brw false (a0a o.gone),.raw (.int .i64 o.of_),.raw (.int .i64 o.num),.raw (.int .i64 o.gen)]):Option OpV)=some o:=a3X .brw o
@[simp] theorem c3f (e:a0i):Arg.enc e=.g (a0n .brw e):=rfl
@[simp] theorem c3g (j:Bool) (n a b c d e f:Int) (s:List UInt8) (g:List a0s) (h i k:Int) :
  (Arg.dec (.g [.raw (.bool j),.raw (.int .i64 n),.raw (.int .i64 a),.raw (.int .i64 b),.raw (.int .i64 c),.raw (.int .i64 d),.raw (.int .i64 e),.raw (.int .i64 f),.str s,.sl .brw false (a0a g),.raw (.int .i64 h),.raw (.int .i64 i),.raw (.int .i64 k)]):Option a0i) =
   some ⟨j,n,a,b,c,⟨d,e,f⟩,s,g,h,i,k⟩:=a4i .brw ⟨j,n,a,b,c,⟨d,e,f⟩,s,g,h,i,k⟩
@[simp] theorem c1Q (j:Bool) (n a b c d e f:Int) (s:List UInt8) (h i k:Int) :
  (Arg.dec (.g [.raw (.bool j),.raw (.int .i64 n),.raw (.int .i64 a),.raw (.int .i64 b),.raw (.int .i64 c),.raw (.int .i64 d),.raw (.int .i64 e),.raw (.int .i64 f),.str s,.sl .brw false [],.raw (.int .i64 h),.raw (.int .i64 i),.raw (.int .i64 k)]):Option a0i) =
   some ⟨j,n,a,b,c,⟨d,e,f⟩,s,[],h,i,k⟩:=a4i .brw ⟨j,n,a,b,c,⟨d,e,f⟩,s,[],h,i,k⟩
@[simp high] theorem c6f (e:a0i):(Arg.dec (.g [.raw (.bool e.join),.raw (.int .i64 e.a13),.raw (.int .i64 e.op.site),.raw (.int .i64 e.op.seq),.raw (.int .i64 e.op.kind),.raw (.int .i64 e.op.after.site),.raw (.int .i64 e.op.after.seq),.raw (.int .i64 e.op.after.i),.str e.op.text,.sl .brw false (a0a e.op.gone),.raw (.int .i64 e.op.of_),.raw (.int .i64 e.op.num),.raw (.int .i64 e.op.gen)]):Option a0i)=some e:=a4i .brw e
open Go
variable {P:Program}
theorem a1A.ctx {C:Ctx P} {H:Heap} {ρ:Lies} {w:World} (h:a1A C H ρ w) (X:World->(Tag->Nat->Prop)->Heap->Lies->Prop)
  (b0v:∀{w w':World} {F F':Tag->Nat->Prop} {H H':Heap} {ρ ρ':Lies},a1c w w' F F' H H' ρ ρ'->X w F H ρ->X w' F' H' ρ'):a1A (P:=P) ⟨C.w0,C.hI,C.G,X,b0v,C.B,C.K⟩ H ρ w:=
 ⟨h.below,h.row,h.inj,h.fin,⟨h.maps.row,h.maps.inj,h.maps.there,h.maps.not⟩⟩
theorem a1A.c9C {C:Ctx P} {H:Heap} {ρ:Lies} {w:World} {X:World->(Tag->Nat->Prop)->Heap->Lies->Prop}
  {b0v:∀{w w':World} {F F':Tag->Nat->Prop} {H H':Heap} {ρ ρ':Lies},a1c w w' F F' H H' ρ ρ'->X w F H ρ->X w' F' H' ρ'} (h:a1A (P:=P) ⟨C.w0,C.hI,C.G,X,b0v,C.B,C.K⟩ H ρ w):a1A C H ρ w:=
 ⟨h.below,h.row,h.inj,h.fin,⟨h.maps.row,h.maps.inj,h.maps.there,h.maps.not⟩⟩
end Go.AE
