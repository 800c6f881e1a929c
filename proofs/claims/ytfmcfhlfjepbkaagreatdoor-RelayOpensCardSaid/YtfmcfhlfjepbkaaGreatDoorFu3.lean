/- The abstract machine: how a walk goes: each operation's own equation. -/
import Derived.Test.YtfmcfhlfjepbkaaGreatDoorFu2
import Derived.Test.YtfmcfhlfjepbkaaGreatDoorProg
import Derived.KernelRfl
set_option linter.unusedVariables false
set_option linter.unusedSimpArgs false
set_option maxRecDepth 100000
set_option maxHeartbeats 4000000
namespace Go.AE
open Go
variable {P:Program}
def a7U (l:List Oper) (i:Nat):Option Nat:=(l[i]?).bind (·.dst)
def tr:Nat->Bool:=fun _=>true
theorem a1u {dst:Nat->Option Nat} {E:Nat->Eff} {A:St}:∀i,replay dst E A tr (i+1)=replay (fun i=>dst (i+1)) (fun i=>E (i+1)) ((E 0).app (dst 0) A) tr i
 |0=>rfl
 |i+1=>by
  rw [replay,a1u i,replay]
  rfl
theorem b9W {ops:Array Oper} {K:St->Prop}:∀(l:List Oper) (A:St),a38 P true ops l K A->
  ∃E:Nat->Eff,(∀i o,l[i]?=some o->a9M P ops false false [] o (replay (a7U l) E A tr i) (E i))/\K (replay (a7U l) E A tr l.length)
 |[],A,h=>⟨fun _=>a9G (.c .a0x),fun i o h=>by simp at h,h⟩
 |o::l,A,h=>by
  rw [b5y] at h
  obtain ⟨e,he,h⟩:=b5A h
  obtain ⟨E',h1,h2⟩:=b9W l _ h
  refine ⟨fun i=>match i with|0=>e|i+1=>E' i,fun i o' hi=>?_,?_⟩
  ·cases i with
   |zero=>
    rw [List.getElem?_cons_zero] at hi
    cases hi
    exact he
   |succ i=>
    rw [List.getElem?_cons_succ] at hi
    rw [a1u]
    exact h1 i o' hi
  ·rw [List.length_cons,a1u]
   exact h2
def e1L (W:List (Nat×Id)) (i:Nat):List Id:=(W.filter (·.1==i)).map (·.2)
theorem a9e {W:List (Nat×Id)} {i:Nat} {id:Id}:id∈e1L W i↔(i,id)∈W:=by
 unfold e1L
 simp only [List.mem_map,List.mem_filter,beq_iff_eq]
 constructor
 ·rintro ⟨⟨a,b⟩,⟨h1,h2⟩,h3⟩
  simp only at h2 h3
  subst h2 h3
  exact h1
 ·intro h
  exact ⟨(i,id),⟨h,rfl⟩,rfl⟩
theorem a7p {ops:Array Oper} {js:List Nat} {prs:List (Nat×Nat)} {K:List (Nat×Id)->List (Nat×AV)->St->Prop}:∀(l:List Oper) (i0:Nat) (W0:List (Nat×Id)) (N0:List (Nat×AV)) (A:St),c2v P ops js prs l i0 W0 N0 K A->
  ∃(E:Nat->Eff) (W:List (Nat×Id)) (N:List (Nat×AV)),(∀i o,l[i]?=some o->a9M P ops (prs.contains (i0+i,i0+i)) (js.contains (i0+i)) (e1L W (i0+i)) o (replay (a7U l) E A tr i) (E i))/\
   (∀i o,l[i]?=some o->prs.any (·.2==i0+i)=true->∀x∈o.op.operands.toList,(i0+i,(replay (a7U l) E A tr i).eval x)∈N)/\
   (∀x∈W0,x∈W)/\(∀x∈N0,x∈N)/\(∀x∈W,x∈W0\/js.contains x.1=true)/\K W N (replay (a7U l) E A tr l.length)
 |[],i0,W0,N0,A,h=>⟨fun _=>a9G (.c .a0x),W0,N0,fun i o h=>by simp at h,fun i o h=>by simp at h,fun _ h=>h,fun _ h=>h,fun _ h=>.inl h,h⟩
 |o::l,i0,W0,N0,A,h=>by
  unfold c2v at h
  have hN:∀(N1:List (Nat×AV)),(∀x∈(if prs.any (·.2==i0)=true then a3w i0 o.op A++N0 else N0),x∈N1)->(prs.any (·.2==i0)=true->∀x∈o.op.operands.toList,(i0,A.eval x)∈N1)/\∀x∈N0,x∈N1:=fun N1 hs=>by
   refine ⟨fun hc x hx=>hs _ ?_,fun x hx=>hs x ?_⟩
   ·rw [if_pos hc]
    exact List.mem_append.2 (.inl (List.mem_map.2 ⟨x,hx,rfl⟩))
   ·split
    ·exact List.mem_append.2 (.inr hx)
    ·exact hx
  by_cases hp:prs.contains (i0,i0)=true
  ·rw [if_pos hp] at h
   obtain ⟨e,he,h⟩:=c2K (ops:=ops) (dc:=js.contains i0) (W:=[]) h
   obtain ⟨E',W,N,h1,h2,h3,h4,h7,h5⟩:=a7p l _ _ _ _ h
   obtain ⟨n1,n2⟩:=hN _ h4
   refine ⟨fun i=>match i with|0=>e|i+1=>E' i,W,N,fun i o' hi=>?_,fun i o' hi hc=>?_,h3,n2,h7,?_⟩
   ·cases i with
    |zero=>
     rw [List.getElem?_cons_zero] at hi
     cases hi
     rw [Nat.add_zero,hp]
     exact he.mono (by simp)
    |succ i=>
     rw [List.getElem?_cons_succ] at hi
     rw [a1u,show i0+(i+1)=i0+1+i by omega]
     exact h1 i o' hi
   ·cases i with
    |zero=>
     rw [List.getElem?_cons_zero] at hi
     cases hi
     exact n1 hc
    |succ i=>
     rw [List.getElem?_cons_succ] at hi
     rw [a1u]
     rw [show i0+(i+1)=i0+1+i by omega] at hc ⊢
     exact h2 i o' hi hc
   ·rw [List.length_cons,a1u]
    exact h5
  rw [if_neg hp] at h
  by_cases hj:js.contains i0=true
  ·rw [if_pos hj] at h
   obtain ⟨e,W',he,h⟩:=c2L (ops:=ops) h
   obtain ⟨E',W,N,h1,h2,h3,h4,h7,h5⟩:=a7p l _ _ _ _ h
   obtain ⟨n1,n2⟩:=hN _ h4
   refine ⟨fun i=>match i with|0=>e|i+1=>E' i,W,N,fun i o' hi=>?_,fun i o' hi hc=>?_,fun x hx=>h3 x (List.mem_append.2 (.inr hx)),n2,fun x hx=>?_,?_⟩
   ·cases i with
    |zero=>
     rw [List.getElem?_cons_zero] at hi
     cases hi
     rw [Nat.add_zero,show prs.contains (i0,i0)=false by simpa using hp,hj]
     exact he.mono fun id hid=>a9e.2 (h3 _ (List.mem_append.2 (.inl (List.mem_map.2 ⟨id,hid,rfl⟩))))
    |succ i=>
     rw [List.getElem?_cons_succ] at hi
     rw [a1u,show i0+(i+1)=i0+1+i by omega]
     exact h1 i o' hi
   ·cases i with
    |zero=>
     rw [List.getElem?_cons_zero] at hi
     cases hi
     exact n1 hc
    |succ i=>
     rw [List.getElem?_cons_succ] at hi
     rw [a1u]
     rw [show i0+(i+1)=i0+1+i by omega] at hc ⊢
     exact h2 i o' hi hc
   ·rcases h7 x hx with h|h
    ·rw [List.mem_append] at h
     rcases h with h|h
     ·rw [List.mem_map] at h
      obtain ⟨id,_,rfl⟩:=h
      exact .inr hj
     ·exact .inl h
    ·exact .inr h
   ·rw [List.length_cons,a1u]
    exact h5
  ·rw [if_neg hj] at h
   obtain ⟨e,he,h⟩:=b5A h
   obtain ⟨E',W,N,h1,h2,h3,h4,h7,h5⟩:=a7p l _ _ _ _ h
   obtain ⟨n1,n2⟩:=hN _ h4
   refine ⟨fun i=>match i with|0=>e|i+1=>E' i,W,N,fun i o' hi=>?_,fun i o' hi hc=>?_,h3,n2,h7,?_⟩
   ·cases i with
    |zero=>
     rw [List.getElem?_cons_zero] at hi
     cases hi
     rw [Nat.add_zero,show prs.contains (i0,i0)=false by simpa using hp,show js.contains i0=false by simpa using hj]
     exact he.mono (by simp)
    |succ i=>
     rw [List.getElem?_cons_succ] at hi
     rw [a1u,show i0+(i+1)=i0+1+i by omega]
     exact h1 i o' hi
   ·cases i with
    |zero=>
     rw [List.getElem?_cons_zero] at hi
     cases hi
     exact n1 hc
    |succ i=>
     rw [List.getElem?_cons_succ] at hi
     rw [a1u]
     rw [show i0+(i+1)=i0+1+i by omega] at hc ⊢
     exact h2 i o' hi hc
   ·rw [List.length_cons,a1u]
    exact h5
theorem c2P {A B:St} {x:Operand} (h:∀t,x=.tmp t->B.s t=A.s t):B.eval x=A.eval x:=by
 cases x<;>first|exact h _ rfl|rfl
theorem b5C {α:Type} {p q:α->Bool} {i:α}:∀{l:List α},i∈l->(∀j,p j=true->q j=true)->q i=true->p i=false->l.countP p<l.countP q
 |[],h,_,_,_=>by simp at h
 |x::l,h,hpq,h1,h2=>by
  have hle:l.countP p<=l.countP q:=List.countP_mono_left fun j _ hj=>hpq j hj
  by_cases e:i=x
  ·subst e
   rw [List.countP_cons_of_pos h1,List.countP_cons_of_neg (by simp [h2])]
   omega
  ·have hm:i∈l:=by
    rcases List.mem_cons.1 h with h|h
    ·exact (e h).elim
    ·exact h
   have ih:=b5C hm hpq h1 h2
   by_cases hp:p x=true
   ·rw [List.countP_cons_of_pos hp,List.countP_cons_of_pos (hpq x hp)];omega
   ·rw [List.countP_cons_of_neg hp]
    by_cases hq:q x=true
    ·rw [List.countP_cons_of_pos hq];omega
    ·rw [List.countP_cons_of_neg hq];omega
theorem c6x {ops:Array Oper} {n:Nat} {C:Ctx P} {K:St->Prop} {Q:Exit->Act->World->Prop} {st:St} (hc:c9U ops) (hd:a8N n ops.toList=true)
  (hQ:∀a w,a2h C n K a w->Q .normal a w) {E:Nat->Eff} {js:List Nat} {Wf:Nat->List Id} {os:Nat->Bool}
  (hO:∀i k,i<ops.size->k<ops.size->os i=true->k≠i->Anc ops i k\/Anc ops k i)
  (hE:∀i o,ops[i]?=some o->a9M P ops (os i) (js.contains i) (Wf i) o (replay (a7U ops.toList) E st tr i) (E i))
  (hH:∀(j k:Nat) (o o':Oper),ops[j]?=some o->ops[k]?=some o'->j≠k->js.contains j=false->writer o.op=true->hfree o'.op=false->Anc ops j k\/Anc ops k j)
  (hD:∀(j k:Nat) (o o':Oper),ops[j]?=some o->ops[k]?=some o'->j≠k->hfree o'.op=false->∀id∈Wf j,(∀x∈o'.op.operands.toList,¬idV id ((replay (a7U ops.toList) E st tr k).eval x))\/Anc ops j k\/Anc ops k j)
  (hW:∀j,∀id∈Wf j,id.1≠st.T) (hK:K (replay (a7U ops.toList) E st tr ops.size)) :
  ∀(fuel:Nat) (listed:Array Bool) (ρ:Lies) (a:Act) (w:World),listed.size=ops.size->((List.range ops.size).countP fun j=>!listed.getD j false)<=fuel->Closed ops (fun j=>listed.getD j false)->a.tmps.size=n->
   Rel C ρ (replay (a7U ops.toList) E st (fun j=>listed.getD j false) ops.size) a w->wpAny P .any ops Q fuel listed a w:=by
 have dstE:∀j o,ops[j]?=some o->a7U ops.toList j=o.dst:=fun j o h=>by simp [a7U,h]
 have e6g:∀j d,a7U ops.toList j=some d->∃o,ops[j]?=some o/\o.dst=some d:=fun j d h=>by
  unfold a7U at h
  cases ho:ops[j]? with
  |none=>simp [ho] at h
  |some o=>exact ⟨o,rfl,by simpa [ho] using h⟩
 have done:∀(listed:Array Bool) (ρ:Lies) (a:Act) (w:World),(∀j,j<ops.size->listed.getD j false=true)->a.tmps.size=n->Rel C ρ (replay (a7U ops.toList) E st (fun j=>listed.getD j false) ops.size) a w->Q .normal a w:=fun listed ρ a w hall ha hr=>by
  refine hQ a w ⟨ha,ρ,_,hr,?_⟩
  rw [a3k (S':=tr) fun j hj=>hall j hj]
  exact hK
 have c2i:∀(listed:Array Bool),listed.size=ops.size->Region.ready .any ops listed=[]->∀j,j<ops.size->listed.getD j false=true:=fun listed hsz hr j=>by
  induction j using Nat.strongRecOn with
  |_ j ih=>
   intro hj
   cases h:listed.getD j false with
   |true=>rfl
   |false=>
    have hm:j∈Region.ready .any ops listed:=by
     rw [mem_ready]
     have hjl:j<listed.size:=by omega
     refine ⟨?_,ops[j],by simp [hj],fun e he hb=>?_⟩
     ·rw [Array.getD_eq_getD_getElem?] at h ⊢
      rw [Array.getElem?_eq_getElem hjl] at h ⊢
      exact h
     ·have hlt:=hc.lt j ops[j] e (by simp [hj]) he hb
      exact ih e.on hlt (by omega)
    rw [hr] at hm
    cases hm
 intro fuel
 induction fuel with
 |zero=>
  intro listed ρ a w hsz hcnt hcl ha hr
  have hall:∀j,j<ops.size->listed.getD j false=true:=fun j hj=>by
   have:(List.range ops.size).countP (fun j=>!listed.getD j false)=0:=by omega
   rw [List.countP_eq_zero] at this
   have:=this j (by simpa using hj)
   simpa using this
  refine ⟨?_,done listed ρ a w hall ha hr⟩
  cases hrd:Region.ready .any ops listed with
  |nil=>rfl
  |cons i r=>
   have hm:i∈Region.ready .any ops listed:=by rw [hrd];simp
   rw [mem_ready] at hm
   obtain ⟨h1,o,ho,_⟩:=hm
   have hi:i<ops.size:=(Array.getElem?_eq_some_iff.1 ho).1
   have:=hall i hi
   rw [Array.getD_eq_getD_getElem?,Array.getElem?_eq_getElem (by omega)] at h1 this
   simp only [Option.getD_some] at h1 this
   rw [h1] at this
   cases this
 |succ fuel ih=>
  intro listed ρ a w hsz hcnt hcl ha hr
  refine ⟨fun hrd=>done listed ρ a w (c2i listed hsz hrd) ha hr,fun i hi=>?_⟩
  rw [mem_ready] at hi
  obtain ⟨hi0,o,ho,c5V⟩:=hi
  have hin:i<ops.size:=(Array.getElem?_eq_some_iff.1 ho).1
  have hil:i<listed.size:=by omega
  have hiF:listed.getD i false=false:=by
   rw [Array.getD_eq_getD_getElem?,Array.getElem?_eq_getElem hil] at hi0 ⊢
   exact hi0
  have e6h:∀k,Anc ops i k->listed.getD k false=true:=fun k hk=>hk.mem hcl fun o' e ho' he hb=>by
   rw [ho] at ho';cases ho'
   exact c5V e he hb
  have e1F:∀k,Anc ops k i->listed.getD k false=false:=fun k hk=>by
   cases h:listed.getD k false with
   |false=>rfl
   |true=>
    have:=hk.mem hcl fun o' e ho' he hb=>hcl k o' e h ho' he hb
    rw [hiF] at this
    cases this
  have hei:=hE i o ho
  have hDi:=fun (j:Nat) (o':Oper) (ho':ops[j]?=some o')=>hD j i o' o ho' ho
  have f3N:∀{d:Option Nat} {id:Id},b7h d st.T id->id.1=st.T:=fun ⟨_,_,h,_⟩=>h
  generalize hA:replay (a7U ops.toList) E st tr i=Ai at hei hDi
  generalize hB:replay (a7U ops.toList) E st (fun j=>listed.getD j false) ops.size=B at hr
  have hAi:Ai=replay (a7U ops.toList) E st (fun j=>decide (j<i)) ops.size:=by
   rw [<-hA]
   have:∀m,i<=m->replay (a7U ops.toList) E st (fun j=>decide (j<i)) m=replay (a7U ops.toList) E st tr i:=fun m hm=>by
    induction m with
    |zero=>
     have:i=0:=by omega
     subst this;rfl
    |succ m ihm=>
     by_cases e:i=m+1
     ·rw [e]
      refine a3k fun j hj=>?_
      simp [tr,hj]
     ·have hm':i<=m:=by omega
      rw [replay,if_neg (by simpa using hm')]
      exact ihm hm'
   exact (this ops.size (by omega)).symm
  have hEs:∀j,j<ops.size->∃o',ops[j]?=some o':=fun j hj=>⟨ops[j],by simp [hj]⟩
  have g0k:∀j,j<ops.size->∀id ob,(E j).N id=some ob->ob≠.a0g:=fun j hj id ob h=>by
   obtain ⟨o',ho'⟩:=hEs j hj
   exact ((hE j o' ho').own id ob h).1
  have unb:∀(S:Nat->Bool) (m:Nat),m<=ops.size->∀id,(replay (a7U ops.toList) E st S m).H id=.a0g->st.H id=.a0g/\∀j,j<m->S j=true->(E j).N id=none:=fun S m=>by
   induction m with
   |zero=>intro _ id h;exact ⟨h,fun j hj=>by omega⟩
   |succ m ihm=>
    intro hm id h
    unfold replay at h
    split at h
    ·rename_i hs
     rw [c2M] at h
     cases hn:(E m).N id with
     |some ob=>rw [hn] at h;exact (g0k m (by omega) id ob hn h).elim
     |none=>
      rw [hn] at h
      obtain ⟨h1,h2⟩:=ihm (by omega) id h
      refine ⟨h1,fun j hj hsj=>?_⟩
      by_cases e:j=m
      ·subst e;exact hn
      ·exact h2 j (by omega) hsj
    ·rename_i hs
     obtain ⟨h1,h2⟩:=ihm (by omega) id h
     refine ⟨h1,fun j hj hsj=>?_⟩
     by_cases e:j=m
     ·subst e;exact (hs hsj).elim
     ·exact h2 j (by omega) hsj
  have b9G:∀j o',ops[j]?=some o'->∀id,(E j).N id≠none->hfree o'.op=false:=fun j o' ho' id h=>by
   cases hf:hfree o'.op with
   |false=>rfl
   |true=>exact (h ((hE j o' ho').free hf id)).elim
  have T0:∀m,(replay (a7U ops.toList) E st tr m).T=st.T:=fun m=>a7m tr m
  have b6V:∀(j k:Nat) (o' o'':Oper) (id:Id),ops[j]?=some o'->ops[k]?=some o''->b7h o'.dst st.T id->b7h o''.dst st.T id->j=k:=fun j k o' o'' id hj hk h1 h2=>by
   by_cases e:j=k
   ·exact e
   ·have:=c6w h1 h2 (fun n hn=>hc.small j o' n hj hn) (fun n hn=>hc.small k o'' n hk hn)
    obtain ⟨d,hd1,_⟩:=h2
    exact (hc.dst j k o' o'' d hj hk e hd1 (this.trans hd1)).elim
  have apart:∀k,i<k->listed.getD k false=true->∀id,(E i).N id≠none->(E k).N id=none:=fun k hik hk id hni=>by
   cases hnk:(E k).N id with
   |none=>rfl
   |some ob=>
    have hkn:k<ops.size:=by
     rcases Nat.lt_or_ge k ops.size with h|h
     ·exact h
     ·rw [Array.getD_eq_getD_getElem?,Array.getElem?_eq_none (by omega)] at hk
      cases hk
    obtain ⟨o',ho'⟩:=hEs k hkn
    obtain ⟨ob',g0l⟩:=Option.ne_none_iff_exists'.1 hni
    have f1:=b9G i o ho id hni
    have f2:=b9G k o' ho' id (by rw [hnk];simp)
    have cmp:(Anc ops i k\/Anc ops k i)->False:=fun h=>by
     rcases h with h|h
     ·have:=h.lt hc;omega
     ·have:=e1F k h
      rw [hk] at this
      cases this
    have hne:i≠k:=by omega
    have hAT:Ai.T=st.T:=by rw [<-hA];exact T0 i
    rcases (hei.own id ob' g0l).2 with ⟨q1,_⟩|⟨⟨qd,q1⟩|⟨q1,_⟩,_⟩
    ·rw [hAT] at q1
     rcases ((hE k o' ho').own id ob hnk).2 with ⟨r1,_⟩|⟨⟨rd,r1⟩|⟨r1,_⟩,_⟩
     ·rw [T0 k] at r1
      exact (hne (b6V i k o o' id ho ho' q1 r1)).elim
     ·exact (cmp ((hH k i o' o ho' ho (fun e=>hne e.symm) rd r1 f1).symm)).elim
     ·exact (hW k id r1 (f3N q1)).elim
    ·exact (cmp (hH i k o o' ho ho' hne qd q1 f2)).elim
    ·rcases ((hE k o' ho').own id ob hnk).2 with ⟨r1,_⟩|⟨⟨rd,r1⟩|⟨r1,x,hx,hi⟩,_⟩
     ·rw [T0 k] at r1
      exact (hW i id q1 (f3N r1)).elim
     ·exact (cmp ((hH k i o' o ho' ho (fun e=>hne e.symm) rd r1 f1).symm)).elim
     ·rcases hD i k o o' ho ho' hne f2 id q1 with h|h
      ·exact (h x hx hi).elim
      ·exact (cmp h).elim
  have hnext:replay (a7U ops.toList) E st (fun j=>(listed.setIfInBounds i true).getD j false) ops.size=(E i).app o.dst B:=by
   rw [<-hB,<-dstE i o ho]
   refine a7n hiF (fun j=>?_) (fun k t hk hdi hdk=>?_) apart hin
   ·simp only [Array.getD_eq_getD_getElem?,Array.getElem?_setIfInBounds]
    by_cases e:j=i
    ·subst e;simp [hil]
    ·have e':¬i=j:=fun h=>e h.symm
     simp [e,e']
   ·obtain ⟨o1,ho1,hd1⟩:=e6g i t hdi
    obtain ⟨o2,ho2,hd2⟩:=e6g k t hdk
    exact hc.dst k i o2 o1 t ho2 ho1 hk hd1 hd2
  have slots:∀t,t∈o.looksAt ops->B.s t=Ai.s t:=fun t ht=>by
   rw [<-hB,hAi]
   by_cases hex:∃k,k<ops.size/\k≠i/\a7U ops.toList k=some t
   ·obtain ⟨k,hk,hki,hdk⟩:=hex
    obtain ⟨o',ho',hd'⟩:=e6g k t hdk
    have uniq:∀m,m<ops.size->m≠k->a7U ops.toList m≠some t:=fun m hm hmk hdm=>by
     obtain ⟨o'',e1G,hd''⟩:=e6g m t hdm
     exact hc.dst m k o'' o' t e1G ho' hmk hd' hd''
    rcases hc.look i k o o' t ho ho' (fun e=>hki e.symm) hd' ht with h|h
    ·have h1:=h.lt hc
     rw [a6k (j:=k) hk (e6h k h) hdk uniq,a6k (j:=k) hk (by simp [h1]) hdk uniq]
    ·have h1:=h.lt hc
     have h2:=e1F k h
     rw [a3H fun j hj hs hdj=>?_,a3H fun j hj hs hdj=>?_]
     ·by_cases e:j=k
      ·subst e
       have:j<i:=by simpa using hs
       omega
      ·exact uniq j hj e hdj
     ·by_cases e:j=k
      ·subst e
       rw [h2] at hs;cases hs
      ·exact uniq j hj e hdj
   ·rw [a3H fun j hj hs hdj=>?_,a3H fun j hj hs hdj=>?_]
    ·by_cases e:j=i
     ·subst e
      have:j<j:=by simp at hs
      omega
     ·exact hex ⟨j,hj,e,hdj⟩
    ·by_cases e:j=i
     ·subst e
      rw [hiF] at hs;cases hs
     ·exact hex ⟨j,hj,e,hdj⟩
  have hBT:B.T=Ai.T:=by rw [<-hB,<-hA,a7m,a7m]
  have evs:∀x∈o.op.operands.toList,B.eval x=Ai.eval x:=fun x hx=>c2P fun t e=>slots t (c2O (by rw [<-e];exact hx))
  have alike:Alike o.op Ai B:=by
   refine ⟨hBT,evs,fun hf x hx id hid hu=>?_⟩
   have hbB:B.H id≠.a0g:=(hr.eval x).born (by rw [evs x hx];exact hid)
   rw [<-hB] at hbB ⊢
   rw [hAi] at hu ⊢
   refine a9N fun j hj hn=>?_
   by_cases e:j=i
   ·subst e
    rw [hiF];simp
   ·obtain ⟨o',ho'⟩:=hEs j hj
    have hf':=b9G j o' ho' id hn
    obtain ⟨ob,hob⟩:=Option.ne_none_iff_exists'.1 hn
    rcases ((hE j o' ho').own id ob hob).2 with ⟨q1,q2⟩|⟨⟨qd,q1⟩|⟨q1,_⟩,q2⟩
    ·rw [T0 j] at q1
     obtain ⟨u1,u2⟩:=unb tr j (by omega) id q2
     have hji:j<i:=by
      rcases Nat.lt_or_ge j i with h|h
      ·exact h
      ·exfalso
       apply hu
       rw [a10 fun k hk hs=>u2 k (by have:k<i:=(by simpa using hs);omega) rfl]
       exact u1
     have hjS:listed.getD j false=true:=by
      by_cases hex:∃k,k<ops.size/\listed.getD k false=true/\(E k).N id≠none
      ·obtain ⟨k,hk,hks,hkn⟩:=hex
       by_cases ekj:k=j
       ·rw [<-ekj];exact hks
       ·obtain ⟨o'',e1G⟩:=hEs k hk
        obtain ⟨ob2,g0m⟩:=Option.ne_none_iff_exists'.1 hkn
        rcases ((hE k o'' e1G).own id ob2 g0m).2 with ⟨r1,_⟩|⟨⟨rd,r1⟩|⟨r1,_⟩,r2⟩
        ·rw [T0 k] at r1
         exact (ekj (b6V k j o'' o' id e1G ho' r1 q1)).elim
        ·rcases hH k j o'' o' e1G ho' ekj rd r1 hf' with h|h
         ·exact h.mem hcl fun o3 e3 ho3 he3 hb3=>hcl k o3 e3 hks ho3 he3 hb3
         ·have hkj:=h.lt hc
          exfalso
          apply r2
          rw [a10 fun m hm hs=>u2 m (by omega) rfl]
          exact u1
        ·exact (hW k id r1 (f3N q1)).elim
      ·exfalso
       apply hbB
       rw [a10 fun m hm hs=>?_]
       ·exact u1
       ·by_cases hnn:(E m).N id=none
        ·exact hnn
        ·exact (hex ⟨m,hm,hs,hnn⟩).elim
     rw [hjS];simp [hji]
    ·rcases hH j i o' o ho' ho e qd q1 hf with h|h
     ·have:=h.lt hc
      rw [e1F j h]
      have:¬j<i:=by omega
      simp [this]
     ·have:=h.lt hc
      rw [e6h j h];simp [this]
    ·rcases hDi j o' ho' e hf id q1 with h|h|h
     ·exact (h x hx hid).elim
     ·have:=h.lt hc
      rw [e1F j h]
      have:¬j<i:=by omega
      simp [this]
     ·have:=h.lt hc
      rw [e6h j h];simp [this]
  have fresh:∀id,(E i).N id≠none->Ai.H id=.a0g->B.H id=.a0g:=fun id hn hu=>by
   rw [<-hA] at hu
   obtain ⟨u1,u2⟩:=unb tr i (by omega) id hu
   rw [<-hB,a10 fun k hk hs=>?_]
   ·exact u1
   ·rcases Nat.lt_or_ge k i with h|h
    ·exact u2 k h rfl
    ·by_cases e:k=i
     ·subst e;rw [hiF] at hs;cases hs
     ·exact apart k (by omega) hs id hn
  have f3O:os i=true->B=Ai:=fun hos=>by
   rw [<-hB,hAi]
   refine a3k fun j hj=>?_
   by_cases e:j=i
   ·subst e;rw [hiF];simp
   ·rcases hO i j hin hj hos e with h|h
    ·have:=h.lt hc
     rw [e6h j h];simp [this]
    ·have:=h.lt hc
     rw [e1F j h]
     have:¬j<i:=by omega
     simp [this]
  have hgo:=hei.go B f3O alike (fun j want d hg hd=>slots d (b7r hg hd)) fresh
  have hdd:∀d,o.dst=some d->d<a.tmps.size:=fun d hd'=>by
   have:=List.all_eq_true.1 hd o (by simpa using Array.mem_of_getElem? ho)
   rw [hd'] at this
   rw [ha]
   simpa using this
  refine wpOp_mono (fun a' w' h=>?_) (b5z ho hr hdd hgo)
  obtain ⟨g1,ρ',st',g2,g3⟩:=h
  subst g3
  rw [<-hnext] at g2
  refine ih _ ρ' a' w' (by simpa using hsz) ?_ ?_ (g1.trans ha) g2
  ·have hlt:(List.range ops.size).countP (fun j=>!(listed.setIfInBounds i true).getD j false)<(List.range ops.size).countP (fun j=>!listed.getD j false):=by
    refine b5C (i:=i) (by simpa using hin) (fun j hj=>?_) (by simp only [hiF,Bool.not_false]) ?_
    ·simp only [Array.getD_eq_getD_getElem?,Array.getElem?_setIfInBounds] at hj ⊢
     by_cases e:i=j
     ·subst e;simp [hil] at hj
     ·rw [if_neg e] at hj;exact hj
    ·simp [hil]
   omega
  ·intro j o' e hj ho' he hb
   simp only at hj ⊢
   have get:∀k,(listed.setIfInBounds i true).getD k false=(listed.getD k false||decide (k=i)):=fun k=>by
    simp only [Array.getD_eq_getD_getElem?,Array.getElem?_setIfInBounds]
    by_cases e:k=i
    ·subst e;simp [hil]
    ·have e':¬i=k:=fun h=>e h.symm
     simp [e,e']
   rw [get] at hj ⊢
   rw [Bool.or_eq_true] at hj ⊢
   rcases hj with hj|hj
   ·exact .inl (hcl j o' e hj ho' he hb)
   ·have:j=i:=by simpa using hj
    subst this
    rw [ho] at ho';cases ho'
    exact .inl (c5V e he hb)
theorem a2B.draw {C:Ctx P} {H:Heap} {ρ:Lies} {w:World} (h:a2B C H ρ w):a2B C H ρ {w with drawn:=w.drawn+1}:=by
 have hk:a13 w {w with drawn:=w.drawn+1} (Fr C H ρ) (Fr C H ρ) H H ρ ρ:=⟨Nat.le_refl _,fun _ _ h _=>⟨h,rfl⟩,fun _ h=>⟨h,fun l=>⟨l,rfl⟩⟩⟩
 refine ⟨h.below.drew,fun id e sz frz rows hi=>?_,h.inj,h.fin,h.maps.keep (ρ':=ρ) ⟨Nat.le_refl _,fun _ _ hf _=>⟨hf,rfl⟩,fun _ hi=>⟨hi,fun l=>⟨l,rfl⟩⟩⟩ (fun id ag es q=>⟨q,rfl,fun _ _ _ _=>rfl⟩) (fun id b c s q l=>by rw [q] at l;cases l) fun _ _=>rfl⟩
 obtain ⟨r1,r2⟩:=h.row id e sz frz rows hi
 refine ⟨r1,r2.imp_right fun ⟨b,cap,cur,q1,q2,q3,q4,q5,q6,q7⟩=>⟨b,cap,cur,q1,q2,q3,q4,q5,q6,fun i j r c hr hc=>?_⟩⟩
 obtain ⟨v,v1,v2,v3⟩:=q7 i j r c hr hc
 exact ⟨v,v1,v2,v3.keep hk⟩
theorem Rel.draw {C:Ctx P} {ρ:Lies} {st:St} {a:Act} {w:World} (h:Rel C ρ st a w):Rel C ρ st a {w with drawn:=w.drawn+1}:=by
 have hk:a13 w {w with drawn:=w.drawn+1} (Fr C st.H ρ) (Fr C st.H ρ) st.H st.H ρ ρ:=⟨Nat.le_refl _,fun _ _ h _=>⟨h,rfl⟩,fun _ h=>⟨h,fun l=>⟨l,rfl⟩⟩⟩
 exact ⟨h.heap.draw,fun t=>(h.slot t).keep hk,h.a7T,C.b42 hk h.ghost,h.nf⟩
theorem c2Q {ops:Array Oper} {js:List Nat} {prs:List (Nat×Nat)} (h:dOK ops js prs=true):∀(j k:Nat) (o o':Oper),ops[j]?=some o->ops[k]?=some o'->j≠k->js.contains j=true\/writer o.op=true->hfree o'.op=false->
  (js.contains j=true/\(j,k)∈prs)\/Anc ops j k\/Anc ops k j:=by
 unfold dOK at h
 simp only at h
 intro j k o o' hj hk hne hw hf
 have c9J:=a7o (ops:=ops) ops.toList [] (fun j k h=>by simp at h) (fun i=>by simp)
 have h1:=List.all_eq_true.1 h (o,j) (by rw [List.mem_zipIdx_iff_getElem?];simpa using hj)
 rw [Bool.and_eq_true] at h1
 have h2:=h1.2
 have hw':(js.contains j||writer o.op)=true:=by rcases hw with e|e<;>rw [e]<;>simp
 simp only [hw',Bool.not_true,Bool.false_or] at h2
 have h3:=List.all_eq_true.1 h2 (o',k) (by rw [List.mem_zipIdx_iff_getElem?];simpa using hk)
 simp only [Bool.or_eq_true,beq_iff_eq,hf,Bool.false_eq_true,or_false,Bool.and_eq_true] at h3
 rcases h3 with (h|h|h)|h
 ·exact (hne h).elim
 ·exact .inr (.inl (c9J _ _ h))
 ·exact .inr (.inr (c9J _ _ h))
 ·exact .inl ⟨h.1,by simpa using h.2⟩
theorem c9W {ops:Array Oper} {js:List Nat} {prs:List (Nat×Nat)} (h:dOK ops js prs=true) (i k:Nat) (hi:i<ops.size) (hk:k<ops.size) (hp:prs.contains (i,i)=true) (hne:k≠i):Anc ops i k\/Anc ops k i:=by
 unfold dOK at h
 simp only at h
 have c9J:=a7o (ops:=ops) ops.toList [] (fun j k h=>by simp at h) (fun i=>by simp)
 have h1:=List.all_eq_true.1 h (ops[i],i) (by rw [List.mem_zipIdx_iff_getElem?];simp [hi])
 rw [Bool.and_eq_true,Bool.and_eq_true] at h1
 have h2:=h1.1.2
 simp only [hp,Bool.not_true,Bool.false_or] at h2
 have h3:=List.all_eq_true.1 h2 (ops[k],k) (by rw [List.mem_zipIdx_iff_getElem?];simp [hk])
 simp only [Bool.or_eq_true,beq_iff_eq] at h3
 rcases h3 with h|h|h
 ·exact (hne h.symm).elim
 ·exact .inl (c9J _ _ h)
 ·exact .inr (c9J _ _ h)
theorem a9O (hm:P.follows .mixedOrders=true):c2C P a0p:=by
 intro C n ops id K Q ρ st a w hcalm hd ha hr hQ hp hk
 have hc:=c9V hcalm
 have core:∀{E:Nat->Eff} {js:List Nat} {Wf:Nat->List Id} {os:Nat->Bool},
   (∀i k,i<ops.size->k<ops.size->os i=true->k≠i->Anc ops i k\/Anc ops k i)->
   (∀i o,ops[i]?=some o->a9M P ops (os i) (js.contains i) (Wf i) o (replay (a7U ops.toList) E st tr i) (E i))->
   (∀(j k:Nat) (o o':Oper),ops[j]?=some o->ops[k]?=some o'->j≠k->js.contains j=false->writer o.op=true->hfree o'.op=false->Anc ops j k\/Anc ops k j)->
   (∀(j k:Nat) (o o':Oper),ops[j]?=some o->ops[k]?=some o'->j≠k->hfree o'.op=false->∀id∈Wf j,(∀x∈o'.op.operands.toList,¬idV id ((replay (a7U ops.toList) E st tr k).eval x))\/Anc ops j k\/Anc ops k j)->
   (∀j,∀id∈Wf j,id.1≠st.T)->
   K (replay (a7U ops.toList) E st tr ops.size)->(Code.region id ops true).wp P Q a w:=fun {E js Wf os} hO hE hH hD hW h2=>by
  refine wp_region_any hm (c6x hc hd hQ hO hE hH hD hW h2 ops.size _ ρ a _ (by simp) ?_ ?_ ha ?_)
  ·exact Nat.le_trans List.countP_le_length (by simp)
  ·intro j o e hj ho he hb
   simp only [Array.getD_eq_getD_getElem?,Array.getElem?_replicate] at hj
   split at hj<;>cases hj
  ·rw [a3k (S':=fun _=>false) fun j hj=>by simp [Array.getD_eq_getD_getElem?,Array.getElem?_replicate,hj]]
   have:∀m,replay (a7U ops.toList) E st (fun _=>false) m=st:=fun m=>by
    induction m with
    |zero=>rfl
    |succ m ih=>rw [replay];simpa using ih
   rw [this]
   exact hr.draw
 rcases hk with ⟨hk,hh⟩|⟨_,js,prs,hdk,hk⟩
 ·obtain ⟨E,h1,h2⟩:=b9W ops.toList st hk
  refine core (js:=[]) (Wf:=fun _=>[]) (os:=fun _=>false) (fun _ _ _ _ h=>by cases h) (fun i o ho=>?_) (fun j k o o' hj hk' hne _ hw hf=>?_) (fun j k o o' _ _ _ _ id h=>by simp at h) (fun j id h=>by simp at h) (by simpa using h2)
  ·exact h1 i o (by simpa using ho)
  ·rcases c2Q (hh rfl) j k o o' hj hk' hne (.inr hw) hf with h|h
   ·simp at h
   ·exact h
 ·obtain ⟨E,W,N,h1,h2,_,_,h7,h5,h6⟩:=a7p ops.toList 0 [] [] st hk
  refine core (js:=js) (Wf:=e1L W) (os:=fun i=>prs.contains (i,i)) (fun i k hi hk hp hne=>c9W hdk i k hi hk hp hne) (fun i o ho=>?_) (fun j k o o' hj hk' hne hjs hw hf=>?_) (fun j k o o' hj hk' hne hf id hid=>?_) (fun j id hid=>(h5 _ (a9e.1 hid)).1) (by simpa using h6)
  ·have:=h1 i o (by simpa using ho)
   rw [Nat.zero_add] at this
   exact this
  ·rcases c2Q hdk j k o o' hj hk' hne (.inr hw) hf with h|h
   ·rw [hjs] at h;cases h.1
   ·exact h
  ·have hn:=fun x hx hp=>h2 k o' (by simpa using hk') (by rw [Nat.zero_add];exact hp) x hx
   by_cases hjs:js.contains j=true
   ·rcases c2Q hdk j k o o' hj hk' hne (.inl hjs) hf with h|h
    ·left
     intro x hx hi
     have hp:prs.any (·.2==k)=true:=List.any_eq_true.2 ⟨(j,k),h.2,by simp⟩
     have:=hn x hx hp
     rw [Nat.zero_add] at this
     exact (h5 _ (a9e.1 hid)).2 _ this h.2 hi
    ·exact .inr h
   ·exact (hjs ((h7 _ (a9e.1 hid)).resolve_left (by simp))).elim
open Go
variable {P:Program}
structure SO where
 dst:Option Nat
 op:Op
 g:Option (Option Nat×Bool)
inductive SC where
 |skip
 |region (id:Nat) (ops:List SO) (draw:Bool)
 |seq (x y:SC)
 |cond (c:Operand) (x y:SC)
 |block (id:Nat) (x:SC)
 |loop (x:SC)
 |exit (id:Nat)
 |ret
 |no
 |a4z (id:Nat) (ops:List SO) (js:List Nat) (prs:List (Nat×Nat))
def a6S (ops:Array Oper) (l:List Oper):List SO:=l.map fun o=>⟨o.dst,o.op,o.guard.map fun q=>(a9C ops q.1,q.2)⟩
def b6X:Code->SC
 |.skip=>.skip
 |.region id ops draw=>.region id (a6S ops ops.toList) draw
 |.seq x y=>.seq (b6X x) (b6X y)
 |.cond c x y=>.cond c (b6X x) (b6X y)
 |.block id x=>.block id (b6X x)
 |.loop x=>.loop (b6X x)
 |.exit id=>.exit id
 |.ret=>.ret
 |_=>.no
def unK:SC->SC
 |.a4z id ops _ _=>.region id ops true
 |.seq x y=>.seq (unK x) (unK y)
 |.cond c x y=>.cond c (unK x) (unK y)
 |.block id x=>.block id (unK x)
 |.loop x=>.loop (unK x)
 |s=>s
def kOK:Code->SC->Bool
 |.region _ ops d,.a4z _ _ js prs=>d&&dOK ops js prs
 |.region _ ops d,.region ..=>!d||d5e ops
 |.seq x y,.seq x' y'=>kOK x x'&&kOK y y'
 |.cond _ x y,.cond _ x' y'=>kOK x x'&&kOK y y'
 |.block _ x,.block _ x'=>kOK x x'
 |.loop x,.loop x'=>kOK x x'
 |_,.a4z ..=>false
 |_,_=>true
def a0q (b:Option Code) (s:SC):Option (SC×Bool):=b.map fun c=>(b6X c,kOK c s)
inductive Ent where
 |pu (h:List AV->Option (Prop×AV))
 |mu (h:MH)
abbrev CT:=List (FuncId×Ent)
def a0c:CT->FuncId->Option Ent
 |[],_=>none
 |(g,h)::r,f=>if f=g then some h else a0c r f
def c2R (P:Program) (f:FuncId) (h:List AV->Option (Prop×AV)):Prop:=∀args C ret,h args=some (C,ret)->C->PEv P f args ret
def d5j (P:Program) (f:FuncId):Ent->Prop
 |.pu h=>c2R P f h
 |.mu h=>a5C P f h
def a1k (P:Program):CT->Prop
 |[]=>True
 |(f,h)::r=>d5j P f h/\a1k P r
theorem a9f:∀{F:CT} {f:FuncId} {h},a1k P F->a0c F f=some h->d5j P f h
 |[],_,_,_,h=>by simp [a0c] at h
 |(g,h')::r,f,h,hF,hg=>by
  unfold a0c at hg
  split at hg
  ·rename_i e;subst e;cases hg;exact hF.1
  ·exact a9f hF.2 hg
def a9P (P:Program) (F:CT) (dr:Bool) (st:St) (dst:Option Nat) (f:FuncId) (args:List AV) (K:St->Prop):Prop:=
 match a0c F f with
 |some (.pu h)=>match a4B st.H args with
  |some args'=>match h args' with
   |some (C,ret)=>C/\a6Q (a2n st dst) st.H 0 ret.flat/\(dr=true->ret.flat.length<=1024/\dst.isSome=true)/\K (c6n st dst ret)
   |none=>False
  |none=>False
 |some (.mu h)=>match h st.H args with
  |some (C,us,ret)=>C/\dr=false/\a6Q (a2n st dst) st.H 0 ret.flat/\K (b5l st dst us ret)
  |none=>False
 |none=>a7i P dr st dst f args K
def c2S:Operand->Bool
 |.const (.slice none 0 0)=>true
 |_=>false
def stepS (P:Program) (F:CT) (dr:Bool) (dst:Option Nat) (op:Op) (st:St) (K:St->Prop):Prop:=
 match op with
 |.call c=>
  match c.callee with
  |.builtin b=>abi P dst b c.args.toList c.argTypes.toList st K
  |.value f=>match st.eval f with
   |.c (.fn g caps)=>a9P P F dr st dst g (c.args.toList.map st.eval++caps.map .c) K
   |_=>False
  |.invoke _ _=>False
 |.binOp op t x y t'=>if c2S y=true then dr=false/\c8G P dst op t (st.eval x) (st.eval y) st K else aop P dst (.binOp op t x y t') st K
 |op=>aop P dst op st K
def b5D (P:Program) (F:CT) (dr:Bool):List SO->(St->Prop)->St->Prop
 |[],K,st=>K st
 |o::rest,K,st=>
  match o.g with
  |none=>stepS P F dr o.dst o.op st (b5D P F dr rest K)
  |some (gs,want)=>agd gs want st (fun st=>stepS P F dr o.dst o.op st (b5D P F dr rest K)) (fun st=>b5D P F dr rest K (st.put o.dst (.c (.raw undef))))
def St.tick (st:St):St:={st with T:=st.T+1}
def a5E (P:Program) (F:CT) (o:SO) (st:St) (K:List Id->St->Prop):Prop:=
 match o.g,o.op with
 |none,.call c=>
  match c.callee with
  |.value f=>match st.eval f with
   |.c (.fn g caps)=>match a0c F g with
    |some (.mu h)=>match h st.H (c.args.toList.map st.eval++caps.map .c) with
     |some (C,us,ret)=>C/\a6Q (a2n st o.dst) st.H 0 ret.flat/\(ret.flat.length<=1024/\o.dst.isSome=true)/\K (us.map (·.1)) (b5l st o.dst us ret)
     |none=>False
    |_=>False
   |_=>False
  |_=>False
 |none,.store t x v=>
  match st.eval x with
  |.c (.pt id _ _)=>aop P o.dst (.store t x v) st (K [id])
  |_=>False
 |_,_=>False
def c2T (P:Program) (F:CT) (st:St) (dst:Option Nat) (f:FuncId) (args:List AV) (K:St->Prop):Prop:=∃v,a9P P F false st dst f args (·=st.put dst v)/\K (st.put dst v)
def a5U (P:Program) (F:CT) (dst:Option Nat) (op:Op) (st:St) (K:St->Prop):Prop:=
 match op with
 |.call c=>
  match c.callee with
  |.value f=>match st.eval f with
   |.c (.fn g caps)=>c2T P F st dst g (c.args.toList.map st.eval++caps.map .c) K
   |_=>False
  |_=>False
 |_=>False
def a8S (P:Program) (F:CT) (js:List Nat) (prs:List (Nat×Nat)):List SO->Nat->List (Nat×Id)->List (Nat×AV)->(List (Nat×Id)->List (Nat×AV)->St->Prop)->St->Prop
 |[],_,W,N,K,st=>K W N st
 |o::rest,i,W,N,K,st=>
  if prs.contains (i,i)=true then
   match o.g with
   |none=>a5U P F o.dst o.op st (a8S P F js prs rest (i+1) W (if prs.any (·.2==i)=true then a3w i o.op st++N else N) K)
   |some (gs,want)=>agd gs want st (fun st'=>a5U P F o.dst o.op st' (a8S P F js prs rest (i+1) W (if prs.any (·.2==i)=true then a3w i o.op st++N else N) K)) (fun st'=>a8S P F js prs rest (i+1) W (if prs.any (·.2==i)=true then a3w i o.op st++N else N) K (st'.put o.dst (.c (.raw undef))))
  else if js.contains i=true then a5E P F o st fun W' st'=>a8S P F js prs rest (i+1) (W'.map (fun id=>(i,id))++W) (if prs.any (·.2==i)=true then a3w i o.op st++N else N) K st'
  else
   match o.g with
   |none=>stepS P F true o.dst o.op st (a8S P F js prs rest (i+1) W (if prs.any (·.2==i)=true then a3w i o.op st++N else N) K)
   |some (gs,want)=>agd gs want st (fun st'=>stepS P F true o.dst o.op st' (a8S P F js prs rest (i+1) W (if prs.any (·.2==i)=true then a3w i o.op st++N else N) K))
     (fun st'=>a8S P F js prs rest (i+1) W (if prs.any (·.2==i)=true then a3w i o.op st++N else N) K (st'.put o.dst (.c (.raw undef))))
def a6G (P:Program) (F:CT):SC->(AEx->St->Prop)->St->Prop
 |.skip,Q,st=>Q .normal st
 |.region _ ops draw,Q,st=>b5D P F draw ops (fun st=>Q .normal st.tick) st
 |.seq x y,Q,st=>a6G P F x (a4C (fun st'=>∃vs,a9c P vs st'/\a6G P F y Q vs) Q) st
 |.cond c x y,Q,st=>
  match st.eval c with
  |.c (.raw (.bool b))=>(b=true->a6G P F x Q st)/\(b=false->a6G P F y Q st)
  |_=>False
 |.block id x,Q,st=>a6G P F x (a4o id Q) st
 |.loop x,Q,st=>∃(ι:Type) (v:ι->St) (μ:ι->Nat) (i:ι),a9c P (v i) st/\∀i,a6G P F x (a4C (fun st'=>∃j,μ j<μ i/\a9c P (v j) st') Q) (v i)
 |.exit id,Q,st=>Q (.exit id) st
 |.ret,Q,st=>Q .ret st
 |.no,_,_=>False
 |.a4z _ ops js prs,Q,st=>a8S P F js prs ops 0 [] [] (fun W N st'=>(∀x∈W,x.2.1≠st.T/\∀y∈N,(x.1,y.1)∈prs->¬idV x.2 y.2)/\Q .normal st'.tick) st
def a2S (P:Program) (F:CT):SC->(AEx->St->Prop)->St->Prop
 |.skip,Q,st=>Q .normal st
 |.region _ ops draw,Q,st=>b5D P F draw ops (fun st=>Q .normal st.tick) st
 |.seq x y,Q,st=>a2S P F x (a4C (a2S P F y Q) Q) st
 |.cond c x y,Q,st=>
  match st.eval c with
  |.c (.raw (.bool b))=>(b=true->a2S P F x Q st)/\(b=false->a2S P F y Q st)
  |_=>False
 |.block id x,Q,st=>a2S P F x (a4o id Q) st
 |.loop x,Q,st=>a6G P F (.loop x) Q st
 |.exit id,Q,st=>Q (.exit id) st
 |.ret,Q,st=>Q .ret st
 |.no,_,_=>False
 |.a4z _ ops js prs,Q,st=>a8S P F js prs ops 0 [] [] (fun W N st'=>(∀x∈W,x.2.1≠st.T/\∀y∈N,(x.1,y.1)∈prs->¬idV x.2 y.2)/\Q .normal st'.tick) st
theorem a9Q {F:CT} (hF:a1k P F) {dr:Bool} {st:St} {dst:Option Nat} {f:FuncId} {args:List AV} {K:St->Prop} (h:a9P P F dr st dst f args K):a7i P dr st dst f args K:=by
 unfold a9P at h
 split at h
 ·rename_i g hg
  split at h
  ·rename_i args' ha
   split at h
   ·rename_i D ret hr
    obtain ⟨h1,h2,h3,h4⟩:=h
    exact .inl ⟨false,args',ret,ha,a9f hF hg args' D ret hr h1,h2,h3,h4⟩
   ·exact h.elim
  ·exact h.elim
 ·rename_i g hg
  split at h
  ·rename_i D us ret hr
   obtain ⟨h1,h2,h3,h4⟩:=h
   have ck:=(a9f hF hg).go (dst:=dst) hr h1 h3
   refine .inr ⟨h2,ck.1,fun C ρ a w vs q1 q2 q3=>(ck.2 C ρ a w vs q1 q2 q3).mono fun e w' ⟨v,e1,ρ',r,H',T',g1,g2,g3,g4,g5⟩=>⟨v,e1,ρ',r,H',T',g1,g2,?_⟩⟩
   subst g3 g4 g5
   exact h4
  ·exact h.elim
 ·exact h
theorem b1d {dr:Bool} {st:St} {dst:Option Nat} {f:FuncId} {args:List AV} {K K':St->Prop} (hk:∀st,K st->K' st) (h:a7i P dr st dst f args K):a7i P dr st dst f args K':=by
 rcases h with ⟨m,args',ret,h1,h2,h3,h4,h5⟩|⟨h1,h2,h3⟩
 ·exact .inl ⟨m,args',ret,h1,h2,h3,h4,hk _ h5⟩
 ·refine .inr ⟨h1,h2,fun C ρ a w vs hr hs hv=>Calls.mono (h3 C ρ a w vs hr hs hv) fun e w' ⟨v,e1,ρ',ret,H',T',q1,q2,q3⟩=>⟨v,e1,ρ',ret,H',T',q1,q2,hk _ q3⟩⟩
theorem a5o {F:CT} (hF:a1k P F) {dr:Bool} {dst:Option Nat} {op:Op} {st:St} {K:St->Prop} (h:stepS P F dr dst op st K):a09 P dr dst op st K:=by
 cases op with
 |call c=>
  simp only [stepS] at h
  simp only [a09]
  split
  ·rename_i b hb
   rw [hb] at h
   exact h
  ·rename_i f hf
   rw [hf] at h
   simp only at h
   split at h
   ·rename_i g caps hfe
    rw [hfe]
    exact a9Q hF h
   ·exact h.elim
  ·rename_i r m hr
   rw [hr] at h
   exact h.elim
 |binOp op t x y t'=>
  simp only [stepS] at h
  simp only [a09]
  split at h
  ·exact .inr h
  ·exact .inl h
 |_=>exact h
theorem a3I {st:St} {dst:Option Nat} {e sz:Nat} {rows:List (List AC)} {v:Id->AC} {K K':St->Prop} (hk:∀st,K st->K' st) (h:newObj st dst e sz rows v K):newObj st dst e sz rows v K':=by
 cases dst with
 |none=>exact h
 |some d=>exact ⟨h.1,hk _ h.2⟩
theorem a4b {gs:Option Nat} {want:Bool} {st:St} {y n y' n':St->Prop} (hy:∀st,y st->y' st) (hn:∀st,n st->n' st) (h:agd gs want st y n):agd gs want st y' n':=by
 unfold agd at *
 split at h
 ·split at h
  ·exact ⟨fun e=>hy _ (h.1 e),fun e=>hn _ (h.2 e)⟩
  ·exact hn _ h
  ·exact h
 ·exact h
theorem a5p {dst:Option Nat} {op:Op} {st:St} {K K':St->Prop} (hk:∀st,K st->K' st) (h:aop P dst op st K):aop P dst op st K':=by
 cases op
 case unOp o t x=>
  cases o<;>simp only [aop] at h ⊢
  repeat' split at h
  all_goals first
   |exact hk _ h
   |exact h.elim
 case makeMap t r=>
  cases r<;>simp only [aop] at h ⊢
  repeat' split at h
  all_goals first
   |exact ⟨h.1,hk _ h.2⟩
   |exact h.elim
 case lookup t x ix ok=>
  simp only [aop] at h ⊢
  split at h
  ·split at h
   ·exact ⟨h.1,hk _ h.2⟩
   ·exact h.elim
  ·exact h.elim
 case makeFunc f a b=>
  cases f<;>simp only [aop] at h ⊢
  repeat' split at h
  all_goals first
   |exact ⟨h.1,hk _ h.2⟩
   |exact h.elim
 all_goals simp only [aop] at h ⊢
 all_goals repeat' split at h
 all_goals first
  |exact hk _ h
  |exact h.elim
  |exact ⟨fun e=>hk _ (h.1 e),fun e=>hk _ (h.2 e)⟩
  |exact ⟨h.1,hk _ h.2⟩
  |exact ⟨h.1,a3I hk h.2⟩
  |(rename_i hf;simp only [if_pos hf];exact ⟨h.1,a3I hk h.2⟩)
  |(rename_i hf;simp only [if_neg hf];exact ⟨h.1,hk _ h.2⟩)
  |exact ⟨h.1,h.2.1,a3I hk h.2.2⟩
  |exact ⟨h.1,h.2.1,hk _ h.2.2⟩
theorem b9X {dst:Option Nat} {b:Builtin} {args:List Operand} {ts:List TypeId} {st:St} {K K':St->Prop} (hk:∀st,K st->K' st) (h:abi P dst b args ts st K):abi P dst b args ts st K':=by
 unfold abi at h
 split at h
 ·simp only [abi]
  split at h<;>first|exact ⟨h.1,hk _ h.2⟩|exact h.elim
 ·simp only [abi]
  split at h<;>first|exact ⟨h.1,hk _ h.2⟩|exact h.elim
 ·simp only [abi]
  split at h<;>first|exact ⟨h.1,hk _ h.2⟩|exact h.elim
 ·simp only [abi]
  split at h
  ·exact ⟨h.1,a3I hk h.2⟩
  ·exact ⟨h.1,a3I hk h.2⟩
  ·split at h
   ·exact ⟨h.1,a3I hk h.2⟩
   ·exact h.elim
  ·exact h.elim
 ·simp only [abi]
  split at h
  ·split at h
   ·exact ⟨h.1,hk _ h.2⟩
   ·exact h.elim
  ·exact h.elim
 ·exact h.elim
theorem b5E {dst:Option Nat} {op:BinOp} {t:TypeId} {x y:AV} {st:St} {K K':St->Prop} (hk:∀st,K st->K' st) (h:c8G P dst op t x y st K):c8G P dst op t x y st K':=by
 unfold c8G at *
 split at h
 ·exact ⟨h.1,fun e=>hk _ (h.2.1 e),hk _ h.2.2⟩
 ·exact ⟨h.1,fun e=>hk _ (h.2.1 e),hk _ h.2.2⟩
 ·exact h
theorem a3l {dr:Bool} {dst:Option Nat} {op:Op} {st:St} {K K':St->Prop} (hk:∀st,K st->K' st) (h:a09 P dr dst op st K):a09 P dr dst op st K':=by
 cases op
 case call c=>
  simp only [a09] at h ⊢
  split at h
  ·exact b9X hk h
  ·split at h
   ·exact b1d hk h
   ·exact h.elim
  ·exact h.elim
 case binOp op t x y t'=>
  simp only [a09] at h ⊢
  exact h.imp (a5p hk) fun q=>⟨q.1,b5E hk q.2⟩
 all_goals (simp only [a09] at h ⊢;exact a5p hk h)
theorem a6l {F:CT} (hF:a1k P F) {dr:Bool} {ops:Array Oper}:∀{l:List Oper} {K:St->Prop} {st:St},b5D P F dr (a6S ops l) K st->a38 P dr ops l K st
 |[],K,st,h=>h
 |o::l,K,st,h=>by
  unfold a6S at h
  rw [List.map_cons] at h
  unfold b5D at h
  unfold a38
  simp only at h
  cases hg:o.guard with
  |none=>
   rw [hg] at h
   exact a3l (fun st h=>a6l hF h) (a5o hF h)
  |some q=>
   obtain ⟨j,want⟩:=q
   rw [hg] at h
   exact a4b (fun st h=>a3l (fun st h=>a6l hF h) (a5o hF h)) (fun st h=>a6l hF h) h
theorem a5q {dr:Bool} {ops:Array Oper}:∀{l:List Oper} {K K':St->Prop} {st:St},(∀st,K st->K' st)->a38 P dr ops l K st->a38 P dr ops l K' st
 |[],K,K',st,hk,h=>hk _ h
 |o::l,K,K',st,hk,h=>by
  unfold a38 at h ⊢
  split at h
  ·exact a3l (fun st h=>a5q hk h) h
  ·exact a4b (fun st h=>a3l (fun st h=>a5q hk h) h) (fun st h=>a5q hk h) h
theorem c1d {o:Oper} {st:St} {K K':List Id->St->Prop} (hk:∀W st,K W st->K' W st) (h:a71 P o st K):a71 P o st K':=by
 unfold a71 at h ⊢
 split at h
 ·split at h
  ·split at h
   ·obtain ⟨hh,C,us,ret,m1,m2,m3,m4,m5,m6⟩:=h
    exact ⟨hh,C,us,ret,m1,m2,m3,m4,m5,hk _ _ m6⟩
   ·exact h.elim
  ·exact h.elim
 ·split at h
  ·exact a5p (fun st h=>hk _ _ h) h
  ·exact h.elim
 ·exact h.elim
theorem c1e {ops:Array Oper} {o:Oper} {st:St} {K K':St->Prop} (hk:∀st,K st->K' st) (h:a6R P ops o st K):a6R P ops o st K':=by
 unfold a6R at h ⊢
 split
 ·rename_i hg
  rw [hg] at h
  exact h.imp fun v q=>⟨q.1,hk _ q.2⟩
 ·rename_i j want hg
  rw [hg] at h
  exact a4b (fun st h=>h.imp fun v q=>⟨q.1,hk _ q.2⟩) (fun st h=>hk _ h) h
theorem a5d {ops:Array Oper} {js:List Nat} {prs:List (Nat×Nat)}:∀{l:List Oper} {i:Nat} {W:List (Nat×Id)} {N:List (Nat×AV)} {K K':List (Nat×Id)->List (Nat×AV)->St->Prop} {st:St},(∀W N st,K W N st->K' W N st)->
  c2v P ops js prs l i W N K st->c2v P ops js prs l i W N K' st
 |[],i,W,N,K,K',st,hk,h=>hk _ _ _ h
 |o::l,i,W,N,K,K',st,hk,h=>by
  unfold c2v at h ⊢
  by_cases hp:prs.contains (i,i)=true
  ·rw [if_pos hp] at h ⊢
   exact c1e (fun st h=>a5d hk h) h
  rw [if_neg hp] at h ⊢
  by_cases hj:js.contains i=true
  ·rw [if_pos hj] at h ⊢
   exact c1d (fun W st h=>a5d hk h) h
  ·rw [if_neg hj] at h ⊢
   unfold a7j at h ⊢
   split
   ·rename_i hg
    rw [hg] at h
    exact a3l (fun st h=>a5d hk h) h
   ·rename_i j want hg
    rw [hg] at h
    exact a4b (fun st h=>a3l (fun st h=>a5d hk h) h) (fun st h=>a5d hk h) h
theorem b7s {dr:Bool} {ops:Array Oper} {K K':St->Prop} {st:St} (hk:∀st,K st->K' st) (h:b5m P dr ops K st):b5m P dr ops K' st:=by
 rcases h with h|⟨h1,js,prs,h2,h3⟩
 ·exact .inl ⟨a5q hk h.1,h.2⟩
 ·exact .inr ⟨h1,js,prs,h2,a5d (fun W N st h=>⟨h.1,hk _ h.2⟩) h3⟩
section
variable {F:CT} {st:St}
theorem c1f {dr:Bool} {dst:Option Nat} {f:FuncId} {args:List AV} {K K':St->Prop} (hk:∀st,K st->K' st) (h:a9P P F dr st dst f args K):a9P P F dr st dst f args K':=by
 unfold a9P at *
 split at h
 ·split at h
  ·split at h
   ·exact ⟨h.1,h.2.1,h.2.2.1,hk _ h.2.2.2⟩
   ·exact h
  ·exact h
 ·split at h
  ·exact ⟨h.1,h.2.1,h.2.2.1,hk _ h.2.2.2⟩
  ·exact h
 ·exact b1d hk h
theorem b7t {o:SO} {st:St} {K K':List Id->St->Prop} (hk:∀W st,K W st->K' W st) (h:a5E P F o st K):a5E P F o st K':=by
 unfold a5E at h ⊢
 split at h
 ·split at h
  ·split at h
   ·split at h
    ·split at h
     ·exact ⟨h.1,h.2.1,h.2.2.1,hk _ _ h.2.2.2⟩
     ·exact h
    ·exact h
   ·exact h
  ·exact h
 ·split at h
  ·exact a5p (fun st h=>hk _ _ h) h
  ·exact h
 ·exact h
theorem a6m {dr:Bool} {dst:Option Nat} {op:Op} {K K':St->Prop} (hk:∀st,K st->K' st) (h:stepS P F dr dst op st K):stepS P F dr dst op st K':=by
 cases op
 case call c=>
  simp only [stepS] at h ⊢
  split at h
  ·exact b9X hk h
  ·split at h
   ·exact c1f hk h
   ·exact h.elim
  ·exact h.elim
 case binOp op t x y t'=>
  simp only [stepS] at h ⊢
  split at h
  ·rename_i e;rw [if_pos e];exact ⟨h.1,b5E hk h.2⟩
  ·rename_i e;rw [if_neg e];exact a5p hk h
 all_goals (simp only [stepS] at h ⊢;exact a5p hk h)
theorem a5V {dr:Bool}:∀{l:List SO} {K K':St->Prop} {st:St},(∀st,K st->K' st)->b5D P F dr l K st->b5D P F dr l K' st
 |[],K,K',st,hk,h=>hk _ h
 |o::l,K,K',st,hk,h=>by
  unfold b5D at h ⊢
  split at h
  ·exact a6m (fun st h=>a5V hk h) h
  ·exact a4b (fun st h=>a6m (fun st h=>a5V hk h) h) (fun st h=>a5V hk h) h
theorem a9R {dst:Option Nat} {op:Op} {st:St} {K K':St->Prop} (hk:∀st,K st->K' st) (h:a5U P F dst op st K):a5U P F dst op st K':=by
 unfold a5U at h ⊢
 split at h
 ·split at h
  ·split at h
   ·exact h.imp fun v q=>⟨q.1,hk _ q.2⟩
   ·exact h
  ·exact h
 ·exact h
theorem a3x {js:List Nat} {prs:List (Nat×Nat)}:∀{l:List SO} {i:Nat} {W:List (Nat×Id)} {N:List (Nat×AV)} {K K':List (Nat×Id)->List (Nat×AV)->St->Prop} {st:St},(∀W N st,K W N st->K' W N st)->a8S P F js prs l i W N K st->a8S P F js prs l i W N K' st
 |[],i,W,N,K,K',st,hk,h=>hk _ _ _ h
 |o::l,i,W,N,K,K',st,hk,h=>by
  unfold a8S at h ⊢
  by_cases hp:prs.contains (i,i)=true
  ·rw [if_pos hp] at h ⊢
   split at h
   ·exact a9R (fun st h=>a3x hk h) h
   ·exact a4b (fun st h=>a9R (fun st h=>a3x hk h) h) (fun st h=>a3x hk h) h
  rw [if_neg hp] at h ⊢
  split
  ·rename_i hj
   rw [if_pos hj] at h
   exact b7t (fun W st h=>a3x hk h) h
  ·rename_i hj
   rw [if_neg hj] at h
   split at h
   ·exact a6m (fun st h=>a3x hk h) h
   ·exact a4b (fun st h=>a6m (fun st h=>a3x hk h) h) (fun st h=>a3x hk h) h
theorem a2F:∀{c:SC} {Q Q':AEx->St->Prop} {st:St},(∀e st,Q e st->Q' e st)->a6G P F c Q st->a6G P F c Q' st
 |.skip,Q,Q',st,hq,h=>hq _ _ h
 |.region id ops d,Q,Q',st,hq,h=>a5V (fun st h=>hq _ _ h) h
 |.seq x y,Q,Q',st,hq,h=>a2F (c:=x) (fun e st h=>by cases e<;>first|exact h.imp fun vs g=>⟨g.1,a2F (c:=y) hq g.2⟩|exact hq _ _ h) h
 |.cond c x y,Q,Q',st,hq,h=>by
  unfold a6G at h ⊢
  split at h
  ·exact ⟨fun e=>a2F (c:=x) hq (h.1 e),fun e=>a2F (c:=y) hq (h.2 e)⟩
  ·exact h
 |.block id x,Q,Q',st,hq,h=>a2F (c:=x) (fun e st h=>by
   cases e with
   |exit j=>
    simp only [a4o] at h ⊢
    split
    ·rename_i hj;rw [if_pos hj] at h;exact hq _ _ h
    ·rename_i hj;rw [if_neg hj] at h;exact hq _ _ h
   |_=>exact hq _ _ h) h
 |.loop x,Q,Q',st,hq,h=>by
  obtain ⟨ι,v,μ,i,h1,h2⟩:=h
  exact ⟨ι,v,μ,i,h1,fun i=>a2F (c:=x) (fun e st h=>by cases e<;>first|exact h|exact hq _ _ h) (h2 i)⟩
 |.exit id,Q,Q',st,hq,h=>hq _ _ h
 |.ret,Q,Q',st,hq,h=>hq _ _ h
 |.no,_,_,_,_,h=>h.elim
 |.a4z id ops js prs,Q,Q',st,hq,h=>a3x (fun W N st h=>⟨h.1,hq _ _ h.2⟩) h
theorem a3y:∀{c:SC} {Q Q':AEx->St->Prop} {st:St},(∀e st,Q e st->Q' e st)->a2S P F c Q st->a2S P F c Q' st
 |.skip,Q,Q',st,hq,h=>hq _ _ h
 |.region id ops d,Q,Q',st,hq,h=>a5V (fun st h=>hq _ _ h) h
 |.seq x y,Q,Q',st,hq,h=>a3y (c:=x) (fun e st h=>by cases e<;>first|exact a3y (c:=y) hq h|exact hq _ _ h) h
 |.cond c x y,Q,Q',st,hq,h=>by
  unfold a2S at h ⊢
  split at h
  ·exact ⟨fun e=>a3y (c:=x) hq (h.1 e),fun e=>a3y (c:=y) hq (h.2 e)⟩
  ·exact h
 |.block id x,Q,Q',st,hq,h=>a3y (c:=x) (fun e st h=>by
   cases e with
   |exit j=>
    simp only [a4o] at h ⊢
    split
    ·rename_i hj;rw [if_pos hj] at h;exact hq _ _ h
    ·rename_i hj;rw [if_neg hj] at h;exact hq _ _ h
   |_=>exact hq _ _ h) h
 |.loop x,Q,Q',st,hq,h=>a2F (c:=.loop x) hq h
 |.exit id,Q,Q',st,hq,h=>hq _ _ h
 |.ret,Q,Q',st,hq,h=>hq _ _ h
 |.no,_,_,_,_,h=>h.elim
 |.a4z id ops js prs,Q,Q',st,hq,h=>a3x (fun W N st h=>⟨h.1,hq _ _ h.2⟩) h
end
theorem a1p {F:CT}:∀{c:SC} {Q:AEx->St->Prop} {st:St},a2S P F c Q st->a6G P F c Q st
 |.skip,_,_,h|.region ..,_,_,h|.exit _,_,_,h|.ret,_,_,h|.no,_,_,h|.a4z ..,_,_,h|.loop _,_,_,h=>h
 |.seq x y,Q,st,h=>a2F (c:=x) (fun e st h=>by cases e<;>first|exact ⟨_,.refl _,a1p (c:=y) h⟩|exact h) (a1p (c:=x) h)
 |.cond c x y,Q,st,h=>by
  unfold a2S at h
  unfold a6G
  split at h
  ·exact ⟨fun e=>a1p (c:=x) (h.1 e),fun e=>a1p (c:=y) (h.2 e)⟩
  ·exact h
 |.block id x,Q,st,h=>a1p (c:=x) h
theorem a4K:∀{c:Code} {Q Q':AEx->St->Prop} {st:St},(∀e st,Q e st->Q' e st)->awp P c Q st->awp P c Q' st
 |.skip,Q,Q',st,hq,h=>hq _ _ h
 |.region id ops d,Q,Q',st,hq,h=>b7s (fun st h=>hq _ _ h) h
 |.seq x y,Q,Q',st,hq,h=>a4K (c:=x) (fun e st h=>by cases e<;>first|exact h.imp fun vs g=>⟨g.1,a4K (c:=y) hq g.2⟩|exact hq _ _ h) h
 |.cond c x y,Q,Q',st,hq,h=>by
  unfold awp at h ⊢
  split at h
  ·exact ⟨fun e=>a4K (c:=x) hq (h.1 e),fun e=>a4K (c:=y) hq (h.2 e)⟩
  ·exact h
 |.block id x,Q,Q',st,hq,h=>a4K (c:=x) (fun e st h=>by
   cases e with
   |exit j=>
    simp only [a4o] at h ⊢
    split
    ·rename_i hj;rw [if_pos hj] at h;exact hq _ _ h
    ·rename_i hj;rw [if_neg hj] at h;exact hq _ _ h
   |_=>exact hq _ _ h) h
 |.loop x,Q,Q',st,hq,h=>by
  obtain ⟨ι,v,μ,i,h1,h2⟩:=h
  exact ⟨ι,v,μ,i,h1,fun i=>a4K (c:=x) (fun e st h=>by cases e<;>first|exact h|exact hq _ _ h) (h2 i)⟩
 |.exit id,Q,Q',st,hq,h=>hq _ _ h
 |.ret,Q,Q',st,hq,h=>hq _ _ h
 |.scope _,_,_,_,_,h=>h.elim
theorem b5F {F:CT} (hF:a1k P F) {o:Oper} {so:SO} (hd:so.dst=o.dst) (hop:so.op=o.op) (hg:so.g=none->o.guard=none) {st:St} {K K':List Id->St->Prop} (hk:∀W st,K W st->K' W st) (h:a5E P F so st K):a71 P o st K':=by
 unfold a5E at h
 split at h
 ·rename_i c h1 h2
  split at h
  ·rename_i f hf
   split at h
   ·rename_i g caps hv
    split at h
    ·rename_i hh hget
     split at h
     ·rename_i D us ret hr
      obtain ⟨q1,q2,q3,q4⟩:=h
      unfold a71
      rw [hg h1,<-hop,h2]
      simp only [hf,hv]
      rw [hd] at q2 q3 q4
      exact ⟨hh,D,us,ret,a9f hF hget,hr,q1,q2,q3,hk _ _ q4⟩
     ·exact h.elim
    ·exact h.elim
   ·exact h.elim
  ·exact h.elim
 ·rename_i t x v h1 h2
  unfold a71
  rw [hg h1,<-hop,h2]
  simp only
  split at h
  ·rename_i id i j hx
   rw [hx]
   rw [hd] at h
   exact a5p (fun st h=>hk _ _ h) h
  ·exact h.elim
 ·exact h.elim
theorem a8T {F:CT} (hF:a1k P F) {dst:Option Nat} {op:Op} {st:St} {K K':St->Prop} (hk:∀st,K st->K' st) (h:a5U P F dst op st K):∃v,a09 P false dst op st (·=st.put dst v)/\K' (st.put dst v):=by
 unfold a5U at h
 split at h
 ·rename_i c
  split at h
  ·rename_i f hf
   split at h
   ·rename_i g caps hv
    obtain ⟨v,h1,h2⟩:=h
    refine ⟨v,?_,hk _ h2⟩
    simp only [a09]
    rw [hf]
    simp only
    rw [hv]
    exact a9Q hF h1
   ·exact h.elim
  ·exact h.elim
 ·exact h.elim
theorem a3m {F:CT} (hF:a1k P F) {ops:Array Oper} {js:List Nat} {prs:List (Nat×Nat)}:∀{l:List Oper} {i:Nat} {W:List (Nat×Id)} {N:List (Nat×AV)} {K:List (Nat×Id)->List (Nat×AV)->St->Prop} {st:St},
  a8S P F js prs (a6S ops l) i W N K st->c2v P ops js prs l i W N K st
 |[],i,W,N,K,st,h=>h
 |o::l,i,W,N,K,st,h=>by
  unfold a6S at h
  rw [List.map_cons] at h
  unfold a8S at h
  unfold c2v
  by_cases hp:prs.contains (i,i)=true
  ·rw [if_pos hp] at h ⊢
   simp only at h
   unfold a6R
   cases hg:o.guard with
   |none=>
    rw [hg] at h
    exact a8T hF (fun st h=>a3m hF h) h
   |some q=>
    obtain ⟨j,want⟩:=q
    rw [hg] at h
    exact a4b (fun st h=>a8T hF (fun st h=>a3m hF h) h) (fun st h=>a3m hF h) h
  rw [if_neg hp] at h ⊢
  by_cases hj:js.contains i=true
  ·rw [if_pos hj] at h ⊢
   exact b5F hF (so:=⟨o.dst,o.op,o.guard.map fun q=>(a9C ops q.1,q.2)⟩) rfl rfl (fun h=>by simpa using h) (fun W st h=>a3m hF h) h
  ·rw [if_neg hj] at h ⊢
   simp only at h
   unfold a7j
   cases hg:o.guard with
   |none=>
    rw [hg] at h
    exact a3l (fun st h=>a3m hF h) (a5o hF h)
   |some q=>
    obtain ⟨j,want⟩:=q
    rw [hg] at h
    exact a4b (fun st h=>a3l (fun st h=>a3m hF h) (a5o hF h)) (fun st h=>a3m hF h) h
theorem a2r {F:CT} (hF:a1k P F):∀{c:Code} {s:SC} {Q:AEx->St->Prop} {st:St},b6X c=unK s->kOK c s=true->a6G P F s Q st->awp P c Q st
 |.skip,s,Q,st,hs,hk,h=>by cases s<;>first|exact h|cases hs
 |.region id ops d,s,Q,st,hs,hk,h=>by
  cases s with
  |region id' ops' d'=>
   simp only [b6X,unK,SC.region.injEq] at hs
   obtain ⟨rfl,rfl,rfl⟩:=hs
   simp only [kOK] at hk
   exact .inl ⟨a6l hF h,fun hd=>by rw [hd] at hk;simpa using hk⟩
  |a4z id' ops' js prs=>
   simp only [b6X,unK,SC.region.injEq] at hs
   obtain ⟨rfl,rfl,rfl⟩:=hs
   simp only [kOK,Bool.true_and] at hk
   exact .inr ⟨rfl,js,prs,hk,a3m hF h⟩
  |_=>cases hs
 |.seq x y,s,Q,st,hs,hk,h=>by
  cases s with
  |seq x' y'=>
   simp only [b6X,unK,SC.seq.injEq] at hs
   simp only [kOK,Bool.and_eq_true] at hk
   exact a4K (c:=x) (fun e st h=>by cases e<;>first|exact h.imp fun vs g=>⟨g.1,a2r hF (c:=y) hs.2 hk.2 g.2⟩|exact h) (a2r hF (c:=x) hs.1 hk.1 h)
  |_=>cases hs
 |.cond c x y,s,Q,st,hs,hk,h=>by
  cases s with
  |cond c' x' y'=>
   simp only [b6X,unK,SC.cond.injEq] at hs
   obtain ⟨rfl,hs1,hs2⟩:=hs
   simp only [kOK,Bool.and_eq_true] at hk
   unfold a6G at h
   unfold awp
   split at h
   ·rename_i b hb
    rw [hb]
    exact ⟨fun e=>a2r hF (c:=x) hs1 hk.1 (h.1 e),fun e=>a2r hF (c:=y) hs2 hk.2 (h.2 e)⟩
   ·exact h.elim
  |_=>cases hs
 |.block id x,s,Q,st,hs,hk,h=>by
  cases s with
  |block id' x'=>
   simp only [b6X,unK,SC.block.injEq] at hs
   obtain ⟨rfl,hs⟩:=hs
   exact a2r hF (c:=x) hs hk h
  |_=>cases hs
 |.loop x,s,Q,st,hs,hk,h=>by
  cases s with
  |loop x'=>
   simp only [b6X,unK,SC.loop.injEq] at hs
   obtain ⟨ι,v,μ,i,h1,h2⟩:=h
   exact ⟨ι,v,μ,i,h1,fun i=>a2r hF (c:=x) hs hk (h2 i)⟩
  |_=>cases hs
 |.exit id,s,Q,st,hs,hk,h=>by
  cases s with
  |exit id'=>
   simp only [b6X,unK,SC.exit.injEq] at hs
   subst hs
   exact h
  |_=>cases hs
 |.ret,s,Q,st,hs,hk,h=>by cases s<;>first|exact h|cases hs
 |.scope _,s,_,_,hs,_,h=>by cases s<;>first|exact h.elim|cases hs
 |.label _,s,_,_,hs,_,h=>by cases s<;>first|exact h.elim|cases hs
 |.goto _,s,_,_,hs,_,h=>by cases s<;>first|exact h.elim|cases hs
 |.rangeFunc ..,s,_,_,hs,_,h=>by cases s<;>first|exact h.elim|cases hs
 |.refuse _,s,_,_,hs,_,h=>by cases s<;>first|exact h.elim|cases hs
theorem b1e {F:CT} (hF:a1k P F) {c:Code} {s:SC} {Q:AEx->St->Prop} {st:St} (hs:b6X c=unK s) (hk:kOK c s=true) (h:a2S P F s Q st):awp P c Q st:=a2r hF hs hk (a1p h)
theorem c2U (hm:P.follows .mixedOrders=true) {F:CT} (hF:a1k P F) {f:FuncId} {fn:Func} {s:SC} {args:List AV} {ret:AV} (hf:P.funcs[f]?=some fn) (hs:a0q fn.body s=some (unK s,true))
  (hok:a0M a0p fn 0=true) (hle:Nat.ble args.length fn.ntmps=true) (hret:∀c∈ret.flat,b0J c) (harg:∀x∈args,∀c∈x.flat,VOK c) (h:a6G P F s (c2B P fn ret) (a74 args)):PEv P f args ret:=by
 cases hb:fn.body with
 |none=>rw [hb] at hs;cases hs
 |some c=>
  rw [hb] at hs
  simp only [a0q,Option.map_some,Option.some.injEq,Prod.mk.injEq] at hs
  refine d5h (a9O hm) hf hb ?_ hret harg (a2r hF hs.1 hs.2 h)
  simp only [a0M,hb,Bool.and_eq_true] at hok ⊢
  exact ⟨hok.1,by simpa using Nat.le_of_ble_eq_true hle⟩
theorem a0f (hm:P.follows .mixedOrders=true) {F:CT} (hF:a1k P F) {f:FuncId} {fn:Func} {s:SC} {args:List AV} {ret:AV} (hf:P.funcs[f]?=some fn) (hs:a0q fn.body s=some (unK s,true))
  (hok:a0M a0p fn 0=true) (hle:Nat.ble args.length fn.ntmps=true) (hret:∀c∈ret.flat,b0J c) (harg:∀x∈args,∀c∈x.flat,VOK c) (h:a2S P F s (c2B P fn ret) (a74 args)):PEv P f args ret:=
 c2U hm hF hf hs hok hle hret harg (a1p h)
def St.hto (st:St) (H:Heap):St:={st with H:=H}
theorem d5k (st:St) (k:Nat):st.eval (.tmp k)=st.s k:=(rfl)
theorem b9Y (st:St) (v:Value):st.eval (.const v)=.c (a4l v):=(rfl)
theorem c9X (st:St) (f:FuncId):st.eval (.func f)=.c (.fn f []):=(rfl)
theorem c6y (st:St) (v:AV):st.put none v=st:=(rfl)
theorem c6z (st:St) (d:Nat) (v:AV):(st.put (some d) v).s d=v:=by simp [St.put,upd]
theorem d5l (st:St) (d k:Nat) (v:AV) (h:(k=d)=False):(st.put (some d) v).s k=st.s k:=by simp [St.put,upd,h]
theorem e6o (st:St) (d:Option Nat) (v:AV):(st.put d v).H=st.H:=by cases d<;>rfl
theorem e6p (st:St) (d:Option Nat) (v:AV):(st.put d v).T=st.T:=by cases d<;>rfl
theorem d5m (st:St):st.tick.s=st.s:=(rfl)
theorem d5n (st:St):st.tick.H=st.H:=(rfl)
theorem d5o (st:St):st.tick.T=st.T+1:=(rfl)
theorem e6q (st:St) (H:Heap):(st.hto H).s=st.s:=(rfl)
theorem e6r (st:St) (H:Heap):(st.hto H).H=H:=(rfl)
theorem e6s (st:St) (H:Heap):(st.hto H).T=st.T:=(rfl)
theorem c9Y (args:List AV) (k:Nat):(a74 args).s k=args.getD k (.c (.raw undef)):=(rfl)
theorem c9Z (args:List AV):(a74 args).H=a0s:=(rfl)
theorem c90 (args:List AV):(a74 args).T=0:=(rfl)
theorem d5p (st:St) (H:Heap):St.mk st.s H st.T st.n=st.hto H:=(rfl)
theorem c2V (id:Id):a0s id=.a0g:=(rfl)
theorem c2W {F:CT} {Q:AEx->St->Prop} {st:St}:a2S P F .skip Q st=Q .normal st:=(rfl)
theorem c6A {F:CT} {id:Nat} {ops:List SO} {d:Bool} {Q:AEx->St->Prop} {st:St}:a2S P F (.region id ops d) Q st=b5D P F d ops (fun st=>Q .normal st.tick) st:=(rfl)
theorem c6B {F:CT} {x y:SC} {Q:AEx->St->Prop} {st:St}:a2S P F (.seq x y) Q st=a2S P F x (a4C (a2S P F y Q) Q) st:=(rfl)
theorem c1g {F:CT} {id:Nat} {x:SC} {Q:AEx->St->Prop} {st:St}:a2S P F (.block id x) Q st=a2S P F x (a4o id Q) st:=(rfl)
theorem c2X {F:CT} {id:Nat} {Q:AEx->St->Prop} {st:St}:a2S P F (.exit id) Q st=Q (.exit id) st:=(rfl)
theorem c6C {F:CT} {Q:AEx->St->Prop} {st:St}:a2S P F .ret Q st=Q .ret st:=(rfl)
theorem c6D {F:CT} {d:Bool} {K:St->Prop} {st:St}:b5D P F d [] K st=K st:=(rfl)
theorem c2Y {F:CT} {d:Bool} {dst:Option Nat} {op:Op} {l:List SO} {K:St->Prop} {st:St}:b5D P F d (⟨dst,op,none⟩::l) K st=stepS P F d dst op st (b5D P F d l K):=(rfl)
theorem c1h {F:CT} {d:Bool} {dst:Option Nat} {op:Op} {gs:Option Nat} {want:Bool} {l:List SO} {K:St->Prop} {st:St}:b5D P F d (⟨dst,op,some (gs,want)⟩::l) K st =
  agd gs want st (fun st=>stepS P F d dst op st (b5D P F d l K)) (fun st=>b5D P F d l K (st.put dst (.c (.raw undef)))):=(rfl)
theorem c2Z {F:CT} {id:Nat} {ops:List SO} {js:List Nat} {prs:List (Nat×Nat)} {Q:AEx->St->Prop} {st:St}:a2S P F (.a4z id ops js prs) Q st =
  a8S P F js prs ops 0 [] [] (fun W N st'=>(∀x∈W,x.2.1≠st.T/\∀y∈N,(x.1,y.1)∈prs->¬idV x.2 y.2)/\Q .normal st'.tick) st:=(rfl)
theorem c91 {next:St->Prop} {Q:AEx->St->Prop} {st:St}:a4C next Q .normal st=next st:=(rfl)
theorem c92 {next:St->Prop} {Q:AEx->St->Prop} {st:St} {id:Nat}:a4C next Q (.exit id) st=Q (.exit id) st:=(rfl)
theorem c93 {next:St->Prop} {Q:AEx->St->Prop} {st:St}:a4C next Q .ret st=Q .ret st:=(rfl)
theorem c6E {id:Nat} {Q:AEx->St->Prop} {st:St}:a4o id Q .normal st=Q .normal st:=(rfl)
theorem c6F {id:Nat} {Q:AEx->St->Prop} {st:St}:a4o id Q .ret st=Q .ret st:=(rfl)
theorem b9Z {id j:Nat} {Q:AEx->St->Prop} {st:St}:a4o id Q (.exit j) st=if j=id then Q .normal st else Q (.exit j) st:=(rfl)
theorem c94 {F:CT} {c:SC} {Q:AEx->St->Prop} {st st':St} (h:st=st'):a2S P F c Q st=a2S P F c Q st':=by rw [h]
theorem c6G {F:CT} {d:Bool} {dst:Option Nat} {op:Op} {K:St->Prop} {st st':St} (h:st=st'):stepS P F d dst op st K=stepS P F d dst op st' K:=by rw [h]
theorem c6H {d:Bool} {dst:Option Nat} {f:FuncId} {args args':List AV} {K:St->Prop} {st st':St} (h:st=st') (ha:args=args'):a7i P d st dst f args K=a7i P d st' dst f args' K:=by rw [h,ha]
attribute [congr] c94 c6G c6H
attribute [simp] d5k b9Y c9X c6y c6z d5l e6o e6p d5m d5n d5o e6q e6r e6s c9Y c9Z c90 c2V a0c c2B hset a6D lay a9s a9t c08 a3q a2n adL adT adH a7g a7h a6i a5J
attribute [simp ↓] d5p c2W c6A c2Z c6B c1g c2X c6C c6D c2Y c1h c91 c92 c93 c6E c6F b9Z
open Go
def isO (KF:List Nat):Op->Bool
 |.call c=>match c.callee with
  |.value (.func f)=>KF.contains (f+1000000)
  |_=>false
 |_=>false
def f4b (KF:List Nat):Op->Bool
 |.call c=>match c.callee with
  |.value (.func f)=>KF.contains f
  |_=>false
 |_=>false
def mkJ (KF:List Nat) (ops:Array Oper):List (Nat×List Nat):=
 let tab:=b7d [] ops.toList
 let l:=ops.toList.zipIdx
 ((l.filter fun x=>isO KF x.1.op).map fun x=>(x.2,[x.2]))++(l.filter fun x=>f4b KF x.1.op||writer x.1.op).filterMap fun x=>
  let u:=(l.filter fun y=>x.2 != y.2&&!hfree y.1.op&&!((tab.getD x.2 0).testBit y.2||(tab.getD y.2 0).testBit x.2)).map (·.2)
  if f4b KF x.1.op||!u.isEmpty then some (x.2,u) else none
def slR (id:Nat) (so:List SO):List (Nat×List Nat)->SC
 |[]=>.region id so true
 |J=>.a4z id so ((J.filter fun q=>q.2 != [q.1]).map (·.1)) (J.flatMap fun q=>q.2.map fun y=>(q.1,y))
def slN (KF:List Nat) (L:List SC):Code->List SC->SC×List SC
 |.skip,b=>(.skip,b)
 |.region id ops d,b=>(if d then slR id (a6S ops ops.toList) (mkJ KF ops) else .region id (a6S ops ops.toList) false,b)
 |.seq x y,b=>let r:=slN KF L x b;let q:=slN KF L y r.2;(.seq r.1 q.1,q.2)
 |.cond c x y,b=>let r:=slN KF L x b;let q:=slN KF L y r.2;(.cond c r.1 q.1,q.2)
 |.block id x,b=>let r:=slN KF L x b;(.block id r.1,r.2)
 |.loop x,b=>let r:=slN KF L x b;(.loop (L.getD r.2.length .no),r.2++[r.1])
 |.exit id,b=>(.exit id,b)
 |.ret,b=>(.ret,b)
 |_,b=>(.no,b)
def slB (KF:List Nat) (b:Option Code) (L:List SC) (k:Nat):SC:=match b with
 |some c=>(slN KF L c []).2.getD k .no
 |none=>.no
def slW (KF:List Nat) (b:Option Code) (L:List SC):SC:=match b with
 |some c=>(slN KF L c []).1
 |none=>.no
open Go Go.Proofs
@[simp] theorem ty0:tyI Tryz.prog 0={ok:=false,sz:=1,ag:=false,bytes:=0,zero:=[Value.tuple {toList:=[]}],a3t:=[],elem:=0,kind:=none,form:=0,eqs:=[],bld:=false}:=by kernel_rfl
@[simp] theorem ty3:tyI Tryz.prog 3={ok:=true,sz:=1,ag:=false,bytes:=8,zero:=[Value.int IntKind.i64 (0)],a3t:=[],elem:=0,kind:=some IntKind.i64,form:=3,eqs:=[],bld:=false}:=by kernel_rfl
@[simp] theorem ty4:tyI Tryz.prog 4={ok:=true,sz:=1,ag:=false,bytes:=1,zero:=[Value.bool false],a3t:=[],elem:=0,kind:=none,form:=4,eqs:=[],bld:=false}:=by kernel_rfl
@[simp] theorem ty5:tyI Tryz.prog 5={ok:=true,sz:=1,ag:=false,bytes:=1,zero:=[Value.int IntKind.u8 (0)],a3t:=[],elem:=0,kind:=some IntKind.u8,form:=3,eqs:=[],bld:=false}:=by kernel_rfl
@[simp] theorem ty9:tyI Tryz.prog 9={ok:=true,sz:=1,ag:=false,bytes:=16,zero:=[Value.string ⟨#[]⟩],a3t:=[],elem:=0,kind:=none,form:=1,eqs:=[],bld:=false}:=by kernel_rfl
@[simp] theorem g0v:tyI Tryz.prog 21={ok:=true,sz:=1,ag:=false,bytes:=4,zero:=[Value.int IntKind.i32 (0)],a3t:=[],elem:=0,kind:=some IntKind.i32,form:=3,eqs:=[],bld:=false}:=by kernel_rfl
@[simp] theorem c51:tyI Tryz.prog 22={ok:=true,sz:=1,ag:=false,bytes:=24,zero:=[Value.slice none 0 0],a3t:=[],elem:=9,kind:=none,form:=2,eqs:=[],bld:=false}:=by kernel_rfl
@[simp] theorem c52:tyI Tryz.prog 23={ok:=true,sz:=1,ag:=false,bytes:=24,zero:=[Value.slice none 0 0],a3t:=[],elem:=125,kind:=none,form:=2,eqs:=[],bld:=false}:=by kernel_rfl
@[simp] theorem f4c:tyI Tryz.prog 25={ok:=true,sz:=2,ag:=true,bytes:=48,zero:=[Value.slice none 0 0,Value.slice none 0 0],a3t:=[(0,1,false),(1,1,false)],elem:=0,kind:=none,form:=5,eqs:=[],bld:=true}:=by kernel_rfl
@[simp] theorem g0w:tyI Tryz.prog 26={ok:=true,sz:=1,ag:=false,bytes:=24,zero:=[Value.slice none 0 0],a3t:=[],elem:=53,kind:=none,form:=2,eqs:=[],bld:=false}:=by kernel_rfl
@[simp] theorem d5q:tyI Tryz.prog 27={ok:=true,sz:=1,ag:=false,bytes:=24,zero:=[Value.slice none 0 0],a3t:=[],elem:=3,kind:=none,form:=2,eqs:=[],bld:=false}:=by kernel_rfl
@[simp] theorem g0x:tyI Tryz.prog 29={ok:=true,sz:=4,ag:=true,bytes:=96,zero:=[Value.slice none 0 0,Value.slice none 0 0,Value.slice none 0 0,Value.slice none 0 0],a3t:=[(0,2,true),(2,1,false),(3,1,false)],elem:=0,kind:=none,form:=5,eqs:=[],bld:=true}:=by kernel_rfl
@[simp] theorem g0y:tyI Tryz.prog 30={ok:=true,sz:=1,ag:=false,bytes:=24,zero:=[Value.slice none 0 0],a3t:=[],elem:=42,kind:=none,form:=2,eqs:=[],bld:=false}:=by kernel_rfl
@[simp] theorem g0z:tyI Tryz.prog 32={ok:=true,sz:=6,ag:=true,bytes:=128,zero:=[Value.slice none 0 0,Value.slice none 0 0,Value.slice none 0 0,Value.slice none 0 0,Value.int IntKind.i64 (0),Value.slice none 0 0],a3t:=[(0,4,true),(4,1,false),(5,1,false)],elem:=0,kind:=none,form:=5,eqs:=[],bld:=true}:=by kernel_rfl
@[simp] theorem g0A:tyI Tryz.prog 36={ok:=true,sz:=1,ag:=false,bytes:=8,zero:=[Value.int IntKind.i64 (0)],a3t:=[],elem:=0,kind:=some IntKind.i64,form:=3,eqs:=[],bld:=false}:=by kernel_rfl
@[simp] theorem g0B:tyI Tryz.prog 38={ok:=true,sz:=7,ag:=true,bytes:=72,zero:=[Value.int IntKind.i64 (0),Value.int IntKind.i64 (0),Value.int IntKind.i64 (0),Value.int IntKind.i64 (0),Value.int IntKind.i64 (0),Value.int IntKind.i64 (0),Value.slice none 0 0],a3t:=[(0,1,false),(1,1,false),(2,1,false),(3,1,false),(4,1,false),(5,1,false),(6,1,false)],elem:=0,kind:=none,form:=5,eqs:=[],bld:=true}:=by kernel_rfl
@[simp] theorem g0C:tyI Tryz.prog 42={ok:=true,sz:=9,ag:=true,bytes:=104,zero:=[Value.int IntKind.i64 (0),Value.int IntKind.i64 (0),Value.int IntKind.i64 (0),Value.int IntKind.i64 (0),Value.int IntKind.i64 (0),Value.int IntKind.i64 (0),Value.int IntKind.i64 (0),Value.slice none 0 0,Value.slice none 0 0],a3t:=[(0,1,false),(1,7,true),(8,1,false)],elem:=0,kind:=none,form:=5,eqs:=[],bld:=true}:=by kernel_rfl
@[simp] theorem g0D:tyI Tryz.prog 50={ok:=true,sz:=3,ag:=true,bytes:=24,zero:=[Value.int IntKind.i64 (0),Value.int IntKind.i64 (0),Value.int IntKind.i64 (0)],a3t:=[(0,1,false),(1,1,false),(2,1,false)],elem:=0,kind:=none,form:=5,eqs:=[3,3,3],bld:=true}:=by kernel_rfl
@[simp] theorem g0E:tyI Tryz.prog 51={ok:=true,sz:=1,ag:=false,bytes:=24,zero:=[Value.slice none 0 0],a3t:=[],elem:=50,kind:=none,form:=2,eqs:=[],bld:=false}:=by kernel_rfl
@[simp] theorem g0F:tyI Tryz.prog 53={ok:=true,sz:=11,ag:=true,bytes:=112,zero:=[Value.int IntKind.i64 (0),Value.int IntKind.i64 (0),Value.int IntKind.i64 (0),Value.int IntKind.i64 (0),Value.int IntKind.i64 (0),Value.int IntKind.i64 (0),Value.string ⟨#[]⟩,Value.slice none 0 0,Value.int IntKind.i64 (0),Value.int IntKind.i64 (0),Value.int IntKind.i64 (0)],a3t:=[(0,1,false),(1,1,false),(2,1,false),(3,3,true),(6,1,false),(7,1,false),(8,1,false),(9,1,false),(10,1,false)],elem:=0,kind:=none,form:=5,eqs:=[],bld:=true}:=by kernel_rfl
@[simp] theorem g0G:tyI Tryz.prog 65={ok:=true,sz:=1,ag:=false,bytes:=24,zero:=[Value.slice none 0 0],a3t:=[],elem:=5,kind:=none,form:=2,eqs:=[],bld:=false}:=by kernel_rfl
@[simp] theorem g0H:tyI Tryz.prog 87={ok:=true,sz:=1,ag:=false,bytes:=24,zero:=[Value.slice none 0 0],a3t:=[],elem:=97,kind:=none,form:=2,eqs:=[],bld:=false}:=by kernel_rfl
@[simp] theorem g0I:tyI Tryz.prog 97={ok:=true,sz:=13,ag:=true,bytes:=128,zero:=[Value.bool false,Value.int IntKind.i64 (0),Value.int IntKind.i64 (0),Value.int IntKind.i64 (0),Value.int IntKind.i64 (0),Value.int IntKind.i64 (0),Value.int IntKind.i64 (0),Value.int IntKind.i64 (0),Value.string ⟨#[]⟩,Value.slice none 0 0,Value.int IntKind.i64 (0),Value.int IntKind.i64 (0),Value.int IntKind.i64 (0)],a3t:=[(0,1,false),(1,1,false),(2,11,true)],elem:=0,kind:=none,form:=5,eqs:=[],bld:=true}:=by kernel_rfl
@[simp] theorem b0O:tyI Tryz.prog 125={ok:=true,sz:=2,ag:=true,bytes:=24,zero:=[Value.int IntKind.i64 (0),Value.string ⟨#[]⟩],a3t:=[(0,1,false),(1,1,false)],elem:=0,kind:=none,form:=5,eqs:=[3,1],bld:=true}:=by kernel_rfl
@[simp] theorem f6f:tyI Tryz.prog 152={ok:=true,sz:=1,ag:=false,bytes:=24,zero:=[Value.slice none 0 0],a3t:=[],elem:=21,kind:=none,form:=2,eqs:=[],bld:=false}:=by kernel_rfl
@[simp] theorem f6g:tyI Tryz.prog 168={ok:=true,sz:=1,ag:=false,bytes:=8,zero:=[Value.int IntKind.u64 (0)],a3t:=[],elem:=0,kind:=some IntKind.u64,form:=3,eqs:=[],bld:=false}:=by kernel_rfl
@[simp] theorem f6h:tyI Tryz.prog 188={ok:=true,sz:=1,ag:=false,bytes:=8,zero:=[Value.pointer none],a3t:=[],elem:=0,kind:=none,form:=0,eqs:=[],bld:=false}:=by kernel_rfl
@[simp] theorem f6i:tyI Tryz.prog 189={ok:=true,sz:=1,ag:=false,bytes:=8,zero:=[Value.map none],a3t:=[],elem:=0,kind:=none,form:=0,eqs:=[],bld:=false}:=by kernel_rfl
@[simp] theorem f6j:tyI Tryz.prog 190={ok:=true,sz:=1,ag:=false,bytes:=8,zero:=[Value.map none],a3t:=[],elem:=0,kind:=none,form:=0,eqs:=[],bld:=false}:=by kernel_rfl
@[simp] theorem f6k:tyI Tryz.prog 192={ok:=true,sz:=3,ag:=true,bytes:=24,zero:=[Value.map none,Value.map none,Value.int IntKind.i64 (0)],a3t:=[(0,1,false),(1,1,false),(2,1,false)],elem:=0,kind:=none,form:=5,eqs:=[],bld:=true}:=by kernel_rfl
@[simp] theorem f6l:tyI Tryz.prog 201={ok:=true,sz:=1,ag:=false,bytes:=4,zero:=[Value.int IntKind.u32 (0)],a3t:=[],elem:=0,kind:=some IntKind.u32,form:=3,eqs:=[],bld:=false}:=by kernel_rfl
@[simp] theorem f6m:tyI Tryz.prog 204={ok:=true,sz:=1,ag:=false,bytes:=8,zero:=[Value.int IntKind.u64 (0)],a3t:=[],elem:=0,kind:=some IntKind.u64,form:=3,eqs:=[],bld:=false}:=by kernel_rfl
@[simp] theorem f6n:tyI Tryz.prog 220={ok:=true,sz:=2,ag:=true,bytes:=24,zero:=[Value.string ⟨#[]⟩,Value.bool false],a3t:=[(0,1,false),(1,1,false)],elem:=0,kind:=none,form:=5,eqs:=[1,4],bld:=true}:=by kernel_rfl
@[simp] theorem f6o:tyI Tryz.prog 228={ok:=true,sz:=2,ag:=true,bytes:=16,zero:=[Value.int IntKind.i64 (0),Value.int IntKind.i64 (0)],a3t:=[(0,1,false),(1,1,false)],elem:=0,kind:=none,form:=5,eqs:=[3,3],bld:=true}:=by kernel_rfl
@[simp] theorem f6p:tyI Tryz.prog 253={ok:=true,sz:=2,ag:=true,bytes:=24,zero:=[Value.string ⟨#[]⟩,Value.bool false],a3t:=[(0,1,false),(1,1,false)],elem:=0,kind:=none,form:=5,eqs:=[1,4],bld:=true}:=by kernel_rfl
@[simp] theorem f4d:c00 Tryz.prog 189=some (2,AC.raw (Value.int IntKind.i64 (0))):=by kernel_rfl
@[simp] theorem f4e:c00 Tryz.prog 190=some (0,AC.raw (Value.int IntKind.i64 (0))):=by kernel_rfl
theorem mixed:Tryz.prog.follows .mixedOrders=true:=by kernel_rfl
open Go Go.Proofs
def a3J:List Nat:=[]
def s34:SC:=(⟨_,by cbv⟩:{x//slW a3J Tryz.f34.body []=x}).1
theorem sl34:a0q Tryz.f34.body s34=some (unK s34,true):=by kernel_rfl
theorem f6q:a0M a0p Tryz.f34 0=true:=by kernel_rfl
def s36:SC:=(⟨_,by cbv⟩:{x//slW a3J Tryz.f36.body []=x}).1
theorem sl36:a0q Tryz.f36.body s36=some (unK s36,true):=by kernel_rfl
theorem f6r:a0M a0p Tryz.f36 0=true:=by kernel_rfl
def s37:SC:=(⟨_,by cbv⟩:{x//slW a3J Tryz.f37.body []=x}).1
theorem f6s:a0q Tryz.f37.body s37=some (unK s37,true):=by kernel_rfl
theorem f6t:a0M a0p Tryz.f37 0=true:=by kernel_rfl
def s38:SC:=(⟨_,by cbv⟩:{x//slW a3J Tryz.f38.body []=x}).1
theorem f6u:a0q Tryz.f38.body s38=some (unK s38,true):=by kernel_rfl
theorem f6v:a0M a0p Tryz.f38 0=true:=by kernel_rfl
def b5G:SC:=(⟨_,by cbv⟩:{x//slB a3J Tryz.f40.body [] 0=x}).1
def s40:SC:=(⟨_,fun a=>by cbv⟩:{x:SC->SC//∀a,slW a3J Tryz.f40.body [a]=x a}).1 b5G
theorem f6w:a0q Tryz.f40.body s40=some (unK s40,true):=by kernel_rfl
theorem f6x:a0M a0p Tryz.f40 0=true:=by kernel_rfl
def s43:SC:=(⟨_,by cbv⟩:{x//slW a3J Tryz.f43.body []=x}).1
theorem f6y:a0q Tryz.f43.body s43=some (unK s43,true):=by kernel_rfl
theorem f6z:a0M a0p Tryz.f43 0=true:=by kernel_rfl
def c20:SC:=(⟨_,by cbv⟩:{x//slB a3J Tryz.f47.body [] 0=x}).1
def c6I:SC:=(⟨_,fun a=>by cbv⟩:{x:SC->SC//∀a,slB a3J Tryz.f47.body [a] 1=x a}).1 c20
def s47:SC:=(⟨_,fun a b=>by cbv⟩:{x:SC->SC->SC//∀a b,slW a3J Tryz.f47.body [a,b]=x a b}).1 c20 c6I
theorem f6A:a0q Tryz.f47.body s47=some (unK s47,true):=by kernel_rfl
theorem f6B:a0M a0p Tryz.f47 0=true:=by kernel_rfl
def c21:SC:=(⟨_,by cbv⟩:{x//slB a3J Tryz.f52.body [] 0=x}).1
def s52:SC:=(⟨_,fun a=>by cbv⟩:{x:SC->SC//∀a,slW a3J Tryz.f52.body [a]=x a}).1 c21
theorem f6C:a0q Tryz.f52.body s52=some (unK s52,true):=by kernel_rfl
theorem f6D:a0M a0p Tryz.f52 0=true:=by kernel_rfl
def s59:SC:=(⟨_,by cbv⟩:{x//slW a3J Tryz.f59.body []=x}).1
theorem f6E:a0q Tryz.f59.body s59=some (unK s59,true):=by kernel_rfl
theorem f6F:a0M a0p Tryz.f59 0=true:=by kernel_rfl
def s62:SC:=(⟨_,by cbv⟩:{x//slW a3J Tryz.f62.body []=x}).1
theorem f6G:a0q Tryz.f62.body s62=some (unK s62,true):=by kernel_rfl
theorem f6H:a0M a0p Tryz.f62 0=true:=by kernel_rfl
def s63:SC:=(⟨_,by cbv⟩:{x//slW a3J Tryz.f63.body []=x}).1
theorem f6I:a0q Tryz.f63.body s63=some (unK s63,true):=by kernel_rfl
theorem f6J:a0M a0p Tryz.f63 0=true:=by kernel_rfl
def c22:SC:=(⟨_,by cbv⟩:{x//slB a3J Tryz.f67.body [] 0=x}).1
def s67:SC:=(⟨_,fun a=>by cbv⟩:{x:SC->SC//∀a,slW a3J Tryz.f67.body [a]=x a}).1 c22
theorem f6K:a0q Tryz.f67.body s67=some (unK s67,true):=by kernel_rfl
theorem f6L:a0M a0p Tryz.f67 0=true:=by kernel_rfl
def c6J:SC:=(⟨_,by cbv⟩:{x//slB a3J Tryz.f71.body [] 0=x}).1
def s71:SC:=(⟨_,fun a=>by cbv⟩:{x:SC->SC//∀a,slW a3J Tryz.f71.body [a]=x a}).1 c6J
theorem f6M:a0q Tryz.f71.body s71=some (unK s71,true):=by kernel_rfl
theorem f6N:a0M a0p Tryz.f71 0=true:=by kernel_rfl
def s74:SC:=(⟨_,by cbv⟩:{x//slW a3J Tryz.f74.body []=x}).1
theorem f6O:a0q Tryz.f74.body s74=some (unK s74,true):=by kernel_rfl
theorem f6P:a0M a0p Tryz.f74 0=true:=by kernel_rfl
def c23:SC:=(⟨_,by cbv⟩:{x//slB a3J Tryz.f78.body [] 0=x}).1
def s78:SC:=(⟨_,fun a=>by cbv⟩:{x:SC->SC//∀a,slW a3J Tryz.f78.body [a]=x a}).1 c23
theorem f6Q:a0q Tryz.f78.body s78=some (unK s78,true):=by kernel_rfl
theorem f6R:a0M a0p Tryz.f78 0=true:=by kernel_rfl
def c24:SC:=(⟨_,by cbv⟩:{x//slB a3J Tryz.f79.body [] 0=x}).1
def s79:SC:=(⟨_,fun a=>by cbv⟩:{x:SC->SC//∀a,slW a3J Tryz.f79.body [a]=x a}).1 c24
theorem f6S:a0q Tryz.f79.body s79=some (unK s79,true):=by kernel_rfl
theorem f6T:a0M a0p Tryz.f79 0=true:=by kernel_rfl
def c25:SC:=(⟨_,by cbv⟩:{x//slB a3J Tryz.f81.body [] 0=x}).1
def s81:SC:=(⟨_,fun a=>by cbv⟩:{x:SC->SC//∀a,slW a3J Tryz.f81.body [a]=x a}).1 c25
theorem f6U:a0q Tryz.f81.body s81=some (unK s81,true):=by kernel_rfl
theorem f6V:a0M a0p Tryz.f81 0=true:=by kernel_rfl
def s82:SC:=(⟨_,by cbv⟩:{x//slW a3J Tryz.f82.body []=x}).1
theorem f6W:a0q Tryz.f82.body s82=some (unK s82,true):=by kernel_rfl
theorem f6X:a0M a0p Tryz.f82 0=true:=by kernel_rfl
def s83:SC:=(⟨_,by cbv⟩:{x//slW a3J Tryz.f83.body []=x}).1
theorem f6Y:a0q Tryz.f83.body s83=some (unK s83,true):=by kernel_rfl
theorem f6Z:a0M a0p Tryz.f83 0=true:=by kernel_rfl
def s84:SC:=(⟨_,by cbv⟩:{x//slW a3J Tryz.f84.body []=x}).1
theorem f7a:a0q Tryz.f84.body s84=some (unK s84,true):=by kernel_rfl
theorem f7b:a0M a0p Tryz.f84 0=true:=by kernel_rfl
def s85:SC:=(⟨_,by cbv⟩:{x//slW a3J Tryz.f85.body []=x}).1
theorem f7c:a0q Tryz.f85.body s85=some (unK s85,true):=by kernel_rfl
theorem f7d:a0M a0p Tryz.f85 0=true:=by kernel_rfl
def s86:SC:=(⟨_,by cbv⟩:{x//slW a3J Tryz.f86.body []=x}).1
theorem f7e:a0q Tryz.f86.body s86=some (unK s86,true):=by kernel_rfl
theorem f7f:a0M a0p Tryz.f86 0=true:=by kernel_rfl
def s91:SC:=(⟨_,by cbv⟩:{x//slW a3J Tryz.f91.body []=x}).1
theorem f7g:a0q Tryz.f91.body s91=some (unK s91,true):=by kernel_rfl
theorem f7h:a0M a0p Tryz.f91 0=true:=by kernel_rfl
def b5H:SC:=(⟨_,by cbv⟩:{x//slB a3J Tryz.f93.body [] 0=x}).1
def s93:SC:=(⟨_,fun a=>by cbv⟩:{x:SC->SC//∀a,slW a3J Tryz.f93.body [a]=x a}).1 b5H
theorem f7i:a0q Tryz.f93.body s93=some (unK s93,true):=by kernel_rfl
theorem f7j:a0M a0p Tryz.f93 0=true:=by kernel_rfl
def b2v:SC:=(⟨_,by cbv⟩:{x//slB a3J Tryz.f96.body [] 0=x}).1
def b5I:SC:=(⟨_,fun a=>by cbv⟩:{x:SC->SC//∀a,slB a3J Tryz.f96.body [a] 1=x a}).1 b2v
def s96:SC:=(⟨_,fun a b=>by cbv⟩:{x:SC->SC->SC//∀a b,slW a3J Tryz.f96.body [a,b]=x a b}).1 b2v b5I
theorem f7k:a0q Tryz.f96.body s96=some (unK s96,true):=by kernel_rfl
theorem f7l:a0M a0p Tryz.f96 0=true:=by kernel_rfl
def b5J:SC:=(⟨_,by cbv⟩:{x//slB a3J Tryz.f111.body [] 0=x}).1
def e6t:SC:=(⟨_,fun a=>by cbv⟩:{x:SC->SC//∀a,slW a3J Tryz.f111.body [a]=x a}).1 b5J
theorem e6u:a0q Tryz.f111.body e6t=some (unK e6t,true):=by kernel_rfl
theorem e6v:a0M a0p Tryz.f111 0=true:=by kernel_rfl
def c26:SC:=(⟨_,by cbv⟩:{x//slB a3J Tryz.f115.body [] 0=x}).1
def e6w:SC:=(⟨_,fun a=>by cbv⟩:{x:SC->SC//∀a,slW a3J Tryz.f115.body [a]=x a}).1 c26
theorem e6x:a0q Tryz.f115.body e6w=some (unK e6w,true):=by kernel_rfl
theorem e6y:a0M a0p Tryz.f115 0=true:=by kernel_rfl
def c27:SC:=(⟨_,by cbv⟩:{x//slB a3J Tryz.f116.body [] 0=x}).1
def e6z:SC:=(⟨_,fun a=>by cbv⟩:{x:SC->SC//∀a,slW a3J Tryz.f116.body [a]=x a}).1 c27
theorem e6A:a0q Tryz.f116.body e6z=some (unK e6z,true):=by kernel_rfl
theorem e6B:a0M a0p Tryz.f116 0=true:=by kernel_rfl
def e6C:SC:=(⟨_,by cbv⟩:{x//slW a3J Tryz.f126.body []=x}).1
theorem e6D:a0q Tryz.f126.body e6C=some (unK e6C,true):=by kernel_rfl
theorem e6E:a0M a0p Tryz.f126 0=true:=by kernel_rfl
def e6F:SC:=(⟨_,by cbv⟩:{x//slW a3J Tryz.f127.body []=x}).1
theorem e6G:a0q Tryz.f127.body e6F=some (unK e6F,true):=by kernel_rfl
theorem e6H:a0M a0p Tryz.f127 0=true:=by kernel_rfl
def e6I:SC:=(⟨_,by cbv⟩:{x//slW a3J Tryz.f128.body []=x}).1
theorem e6J:a0q Tryz.f128.body e6I=some (unK e6I,true):=by kernel_rfl
theorem e6K:a0M a0p Tryz.f128 0=true:=by kernel_rfl
def e6L:SC:=(⟨_,by cbv⟩:{x//slW a3J Tryz.f129.body []=x}).1
theorem e6M:a0q Tryz.f129.body e6L=some (unK e6L,true):=by kernel_rfl
theorem e6N:a0M a0p Tryz.f129 0=true:=by kernel_rfl
def d5r:SC:=(⟨_,by cbv⟩:{x//slW a3J Tryz.f136.body []=x}).1
theorem e6O:a0q Tryz.f136.body d5r=some (unK d5r,true):=by kernel_rfl
theorem e6P:a0M a0p Tryz.f136 0=true:=by kernel_rfl
def e6Q:SC:=(⟨_,by cbv⟩:{x//slW a3J Tryz.f137.body []=x}).1
theorem e6R:a0q Tryz.f137.body e6Q=some (unK e6Q,true):=by kernel_rfl
theorem e6S:a0M a0p Tryz.f137 0=true:=by kernel_rfl
def e6T:SC:=(⟨_,by cbv⟩:{x//slW a3J Tryz.f139.body []=x}).1
theorem e6U:a0q Tryz.f139.body e6T=some (unK e6T,true):=by kernel_rfl
theorem e6V:a0M a0p Tryz.f139 0=true:=by kernel_rfl
def b90:SC:=(⟨_,by cbv⟩:{x//slB a3J Tryz.f173.body [] 0=x}).1
def e6W:SC:=(⟨_,fun a=>by cbv⟩:{x:SC->SC//∀a,slW a3J Tryz.f173.body [a]=x a}).1 b90
theorem e6X:a0q Tryz.f173.body e6W=some (unK e6W,true):=by kernel_rfl
theorem e6Y:a0M a0p Tryz.f173 0=true:=by kernel_rfl
def b91:SC:=(⟨_,by cbv⟩:{x//slB a3J Tryz.f174.body [] 0=x}).1
def e6Z:SC:=(⟨_,fun a=>by cbv⟩:{x:SC->SC//∀a,slW a3J Tryz.f174.body [a]=x a}).1 b91
theorem e60:a0q Tryz.f174.body e6Z=some (unK e6Z,true):=by kernel_rfl
theorem e61:a0M a0p Tryz.f174 0=true:=by kernel_rfl
def e62:SC:=(⟨_,by cbv⟩:{x//slW a3J Tryz.f178.body []=x}).1
theorem e63:a0q Tryz.f178.body e62=some (unK e62,true):=by kernel_rfl
theorem e64:a0M a0p Tryz.f178 0=true:=by kernel_rfl
attribute [simp] Tryz.results34 Tryz.results36 Tryz.results37 Tryz.results38 Tryz.results40 Tryz.results43 Tryz.results47 Tryz.results52 Tryz.results59 Tryz.results62 Tryz.results63 Tryz.results67 Tryz.results71 Tryz.results74 Tryz.results78 Tryz.results79 Tryz.results81 Tryz.results82 Tryz.results83 Tryz.results84 Tryz.results85 Tryz.results86 Tryz.results91 Tryz.results93 Tryz.results96 Tryz.results111 Tryz.results115 Tryz.results116 Tryz.results126 Tryz.results127 Tryz.results128 Tryz.results129 Tryz.results136 Tryz.results137 Tryz.results139 Tryz.results173 Tryz.results174 Tryz.results178
open Go
variable {P:Program} {F:CT} {d:Bool} {dst:Option Nat} {st:St} {K:St->Prop}
def wd {α:Type} (x:α):α:=x
@[simp] theorem f7m {α:Type} {x:α}:wd x=x:=(rfl)
def onV (v:AV) (k:AV->Prop):Prop:=k v
@[simp] theorem f4f {v:AV} {k:AV->Prop}:onV v k=k v:=(rfl)
@[congr] theorem f4g {v v':AV} {k:AV->Prop} (h:v=v'):onV v k=onV v' k:=by rw [h]
def onN (H:Heap) (T:Nat) (rows:List (List AC)) (c:AC) (k:Heap->Nat->List (List AC)->AC->Prop):Prop:=k H T rows c
@[simp] theorem f4h {H:Heap} {T:Nat} {rows:List (List AC)} {c:AC} {k:Heap->Nat->List (List AC)->AC->Prop}:onN H T rows c k=k H T rows c:=(rfl)
@[congr] theorem f4i {H H':Heap} {T T':Nat} {rows rows':List (List AC)} {c c':AC} {k:Heap->Nat->List (List AC)->AC->Prop} (h1:H=H') (h2:T=T') (h3:rows=rows') (h4:c=c'):onN H T rows c k=onN H' T' rows' c' k:=by rw [h1,h2,h3,h4]
def onA (H:Heap) (v:AV) (k:Heap->AV->Prop):Prop:=k H v
@[simp] theorem f4j {H:Heap} {v:AV} {k:Heap->AV->Prop}:onA H v k=k H v:=(rfl)
@[congr] theorem f4k {H H':Heap} {v v':AV} {k:Heap->AV->Prop} (h1:H=H') (h2:v=v'):onA H v k=onA H' v' k:=by rw [h1,h2]
theorem a0R {dr:Bool} {st:St} {dst:Option Nat} {f:FuncId} {args args':List AV} {ret:AV} {K:St->Prop} (hp:PEv P f args' ret) (hv:a4B st.H args=some args')
  (hun:a6Q (a2n st dst) st.H 0 ret.flat) (hdr:dr=true->ret.flat.length<=1024/\dst.isSome=true) (hk:onA (wd (adH (a2n st dst) 0 ret.flat st.H)) (ret.ad (a2n st dst)) fun H v=>K ((st.hto H).put dst v)):a7i P dr st dst f args K:=.inl ⟨false,args',ret,hv,hp,hun,hdr,hk⟩
theorem a1x {dr:Bool} {st:St} {dst:Option Nat} {f:FuncId} {args args':List AV} {ret:AV} {K:St->Prop} (hv:a4B st.H args=some args') (hp:PEv P f (b7c true args args') ret)
  (hun:a6Q (a2n st dst) st.H 0 ret.flat) (hdr:dr=true->ret.flat.length<=1024/\dst.isSome=true) (hk:onA (wd (adH (a2n st dst) 0 ret.flat st.H)) (ret.ad (a2n st dst)) fun H v=>K ((st.hto H).put dst v)):a7i P dr st dst f args K:=.inl ⟨true,args',ret,hv,hp,hun,hdr,hk⟩
theorem c1i (st:St) (d e sz:Nat) (rows:List (List AC)) (v:Id->AC) (K:St->Prop) :
  newObj st (some d) e sz rows v K=onN (wd st.H) st.T rows (v (st.T,d)) fun H T rows c=>H (T,d)=.a0g/\K ((st.hto (hset H (T,d) (.arr e sz false rows))).put (some d) (.c c)):=(rfl)
theorem c95 {x:Operand}:stepS P F d dst (.move x) st K=onV (st.eval x) fun v=>K (st.put dst v):=(rfl)
theorem c28 {x:Operand}:stepS P F d dst (.assign x) st K=onV (st.eval x) fun v=>K (st.put dst v):=(rfl)
def onB (v:AV) (k:Bool->Prop):Prop:=
 match v with
 |.c (.raw (.bool q))=>k q
 |_=>False
def onP {α:Type} (o:Option (Prop×α)) (k:α->Prop):Prop:=
 match o with
 |some (C,v)=>C/\k v
 |none=>False
@[simp] theorem f4l {q:Bool} {k:Bool->Prop}:onB (.c (.raw (.bool q))) k=k q:=(rfl)
@[simp] theorem b1f {α:Type} {C:Prop} {v:α} {k:α->Prop}:onP (some (C,v)) k=(C/\k v):=(rfl)
@[simp] theorem e1M {α:Type} {k:α->Prop}:onP none k=False:=(rfl)
@[congr] theorem f4m {v v':AV} {k:Bool->Prop} (h:v=v'):onB v k=onB v' k:=by rw [h]
@[congr] theorem f4n {α:Type} {o o':Option (Prop×α)} {k:α->Prop} (h:o=o'):onP o k=onP o' k:=by rw [h]
def c8H (b:Bool) (y n:Prop):Prop:=(b=true->y)/\(b=false->n)
def d2i (b:Bool) (y n:Prop):Prop:=(b=false->y)/\(b=true->n)
@[simp high,simp ↓] theorem d5s {y n:Prop}:c8H true y n=y:=by simp [c8H]
@[simp high,simp ↓] theorem d2j {y n:Prop}:c8H false y n=n:=by simp [c8H]
@[simp high,simp ↓] theorem d5t {y n:Prop}:d2i true y n=n:=by simp [d2i]
@[simp high,simp ↓] theorem d2k {y n:Prop}:d2i false y n=y:=by simp [d2i]
@[simp low] theorem e65 {b:Bool} {y n:Prop}:c8H b y n=((b=true->y)/\(b=false->n)):=(rfl)
@[simp low] theorem e66 {b:Bool} {y n:Prop}:d2i b y n=((b=false->y)/\(b=true->n)):=(rfl)
theorem c96 {c a b:Operand}:stepS P F d dst (.pick c a b) st K=onB (st.eval c) fun q=>c8H q (onV (st.eval a) fun v=>K (st.put dst v)) (onV (st.eval b) fun v=>K (st.put dst v)):=(rfl)
theorem d5u {t:TypeId} {x:Operand}:stepS P F d dst (.unOp .not t x) st K=onB (st.eval x) fun q=>K (st.put dst (.c (.raw (.bool (!q))))):=(rfl)
theorem c97 {c:Operand} {x y:SC} {Q:AEx->St->Prop}:a2S P F (.cond c x y) Q st=onB (st.eval c) fun b=>c8H b (a2S P F x Q st) (a2S P F y Q st):=(rfl)
theorem c6K {e:TypeId}:stepS P F d dst (.alloc e) st K=((tyI P e).ok=true/\newObj st dst e (tyI P e).sz [(tyI P e).zero.map a4l] (fun id=>.pt id 0 0) K):=(rfl)
def d5v (ti:TyI) (H:Heap) (v:AV):Option (Prop×List (List AC)):=
 match v.cells with
 |some cs=>some (ti.ok=true/\cs.length=ti.sz/\cs.all (AC.one H)=true,[cs])
 |none=>none
theorem d5w {e:TypeId} {x:Operand}:stepS P F d dst (.box e x) st K=onP (d5v (tyI P e) st.H (st.eval x)) fun rows=>newObj st dst e (tyI P e).sz rows (fun id=>.pt id 0 0) K:=by
 simp only [stepS,aop,d5v]
 cases (st.eval x).cells with
 |none=>rfl
 |some cs=>simp only [b1f,and_assoc]
def c29 (ti:TyI) (o:Option (List AC)):Option (Prop×AV):=o.map fun cs=>(ti.ok=true/\ti.bld=true,.g cs)
theorem c6L {t:TypeId} {parts:Array (Nat×Operand)}:stepS P F d dst (.build t parts) st K=onP (c29 (tyI P t) (a9s st.H (tyI P t).a3t ((tyI P t).zero.map a4l) (parts.toList.map fun q=>(q.1,st.eval q.2)))) fun v=>K (st.put dst v):=by
 simp only [stepS,aop,c29]
 split
 ·rename_i h;rw [h];rfl
 ·rename_i h;rw [h];rfl
def c98 (ti te:TyI) (len:Nat) (o:Option (List (List AC))):Option (Prop×List (List AC)):=o.map fun rows=>(ti.form=2/\te.ok=true/\rows.length=len/\len*te.sz<=16777216/\0<te.sz,rows)
theorem b2w {t:TypeId} {len:Nat} {parts:Array (Nat×Operand)}:stepS P F d dst (.buildSlice t len parts) st K=onP (c98 (tyI P t) (tyI P (tyI P t).elem) len (a9t st.H (tyI P (tyI P t).elem).sz 0 (parts.toList.map fun q=>(q.1,st.eval q.2)))) fun rows=>newObj st dst (tyI P t).elem (tyI P (tyI P t).elem).sz rows (fun id=>.so id 0 len) K:=by
 simp only [stepS,aop,c98]
 split
 ·rename_i h;rw [h];rfl
 ·rename_i h;rw [h];rfl
def b7u (ti:TyI) (row:Option (List AC)) (j:Nat):Option (Prop×AV):=
 match row with
 |some row=>(a6D ti.ag ti.sz row j).map fun v=>(ti.ok=true,v)
 |none=>none
def d2l (H:Heap) (id:Id) (i:Nat):Option (List AC):=
 match H id with
 |.arr _ _ _ rows=>rows[i]?
 |_=>none
def c3a (ti:TyI) (H:Heap) (v:AV):Option (Prop×AV):=
 match v with
 |.c (.pt id i j)=>b7u ti (d2l H id i) j
 |.c (.pv _ row j)=>b7u ti (some row) j
 |_=>none
theorem c99 {t:TypeId} {x:Operand}:stepS P F d dst (.load t x) st K=onP (c3a (tyI P t) st.H (st.eval x)) fun v=>K (st.put dst v):=by
 simp only [stepS,aop]
 generalize st.eval x=v
 cases v with
 |c y=>
  cases y with
  |pt id i j=>
   simp only [c3a,b7u,d2l]
   cases st.H id with
   |arr e sz frz rows=>
    simp only
    cases rows[i]? with
    |none=>rfl
    |some row=>
     simp only
     cases a6D (tyI P t).ag (tyI P t).sz row j<;>rfl
   |_=>rfl
  |pv tg row j=>
   simp only [c3a,b7u]
   cases a6D (tyI P t).ag (tyI P t).sz row j<;>rfl
  |_=>rfl
 |_=>rfl
def b92 (ti:TyI) (H:Heap) (x v:AV):Option (Prop×Heap):=
 match x,v.cells with
 |.c (.pt id i j),some cs=>match H id with
  |.arr e sz false rows=>match rows[i]? with
   |some row=>some (ti.ok=true/\cs.length=ti.sz/\cs.all (AC.one H)=true/\j+cs.length<=row.length,hset H id (.arr e sz false (rows.set i (lay row j cs))))
   |none=>none
  |_=>none
 |_,_=>none
theorem c6M {t:TypeId} {x v:Operand}:stepS P F d dst (.store t x v) st K=onP (b92 (tyI P t) st.H (st.eval x) (st.eval v)) fun H=>K ((st.hto H).put dst (.c (.raw undef))):=by
 simp only [stepS,aop]
 generalize st.eval x=u
 generalize st.eval v=q
 unfold b92
 cases q.cells with
 |none=>cases u with
  |c y=>cases y<;>rfl
  |_=>rfl
 |some cs=>cases u with
  |c y=>cases y with
   |pt id i j=>
    simp only
    cases st.H id with
    |arr e sz frz rows=>
     cases frz with
     |true=>rfl
     |false=>
      simp only
      cases rows[i]?<;>rfl
    |_=>rfl
   |_=>rfl
  |_=>rfl
def f4o (H:Heap) (v:AV):Option (Prop×AV):=
 match v with
 |.c (.pt id i j)=>some ((H id).live=true,.c (.pt id i j))
 |_=>none
theorem b7v {x:Operand}:stepS P F d dst (.nilCheck x) st K=onP (f4o st.H (st.eval x)) fun v=>K (st.put dst v):=by
 simp only [stepS,aop]
 generalize st.eval x=v
 cases v with
 |c y=>cases y<;>rfl
 |_=>rfl
theorem b2x {op:BinOp} {t t':TypeId} {x y:Operand} (hy:c2S y=false):stepS P F d dst (.binOp op t x y t') st K=onP (a4m (tyI P t) op (st.eval x) (st.eval y)) fun c=>K (st.put dst (.c c)):=by
 simp only [stepS,hy,Bool.false_eq_true,if_false,aop]
 cases a4m (tyI P t) op (st.eval x) (st.eval y)<;>rfl
theorem c6N {op:BinOp} {t t':TypeId} {x:Operand} {y:Nat}:stepS P F d dst (.binOp op t x (.tmp y) t') st K=onP (a4m (tyI P t) op (st.eval x) (st.eval (.tmp y))) fun c=>K (st.put dst (.c c)):=b2x rfl
theorem c6O {op:BinOp} {t t':TypeId} {x:Operand} {k:IntKind} {n:Int}:stepS P F d dst (.binOp op t x (.const (.int k n)) t') st K=onP (a4m (tyI P t) op (st.eval x) (.c (.raw (.int k n)))) fun c=>K (st.put dst (.c c)):=b2x rfl
theorem c6P {op:BinOp} {t t':TypeId} {x:Operand} {s:ByteArray}:stepS P F d dst (.binOp op t x (.const (.string s)) t') st K=onP (a4m (tyI P t) op (st.eval x) (.c (.str s.data.toList))) fun c=>K (st.put dst (.c c)):=b2x rfl
def c3b (ti:TyI) (op:BinOp) (d:Bool) (v:AV) (k:Bool->Prop):Prop:=
 match op,v with
 |.eql,.c (.sl _ _ xs)=>d=false/\ti.form=2/\(xs=[]->k true)/\k false
 |.neq,.c (.sl _ _ xs)=>d=false/\ti.form=2/\(xs=[]->k false)/\k true
 |_,_=>False
@[congr] theorem e1N {ti:TyI} {op:BinOp} {v v':AV} {k:Bool->Prop} (h:v=v'):c3b ti op d v k=c3b ti op d v' k:=by rw [h]
@[simp] theorem d5x {ti:TyI} {t:Tag} {cl:Bool} {xs:List (List AC)} {k:Bool->Prop}:c3b ti .eql d (.c (.sl t cl xs)) k=(d=false/\ti.form=2/\(xs=[]->k true)/\k false):=(rfl)
theorem c1j {op:BinOp} {t t':TypeId} {x:Operand}:stepS P F d dst (.binOp op t x (.const (.slice none 0 0)) t') st K=c3b (tyI P t) op d (st.eval x) fun q=>K (st.put dst (.c (.raw (.bool q)))):=by
 simp only [stepS,c2S,if_true,b9Y,a4l]
 generalize st.eval x=v
 unfold c8G c3b
 cases op<;>(try (simp;done))
 all_goals
  cases v with
  |c y=>cases y<;>simp
  |_=>simp
def b5K (ts ti te:TyI) (H:Heap) (v:AV):Option (Prop×AV):=
 match v with
 |.c (.raw (.int _ n))=>ti.kind.map fun k=>(ts.form=3,.c (.raw (.int k (k.wrap n))))
 |.c (.str l)=>some (ts.form=1/\ti.form=1,.c (.str l))
 |.c x=>((rowsOf H x).bind a3e).map fun l=>(ts.form=2/\ti.form=1/\te.kind=some .u8,.c (.str l))
 |_=>none
def b5L (ts ti te tf:TyI) (e:Nat) (st:St) (dst:Option Nat) (v:AV) (K:St->Prop):Prop:=
 match v with
 |.c (.str l)=>if ti.form=2 then (ts.form=1/\tf.kind=some .u8/\l.length<=9223372036854775807)/\newObj st dst e 1 (l.map fun b=>[.raw (.int .u8 (b.toNat:Int))]) (fun id=>.so id 0 l.length) K
  else (ts.form=1/\ti.form=1)/\K (st.put dst (.c (.str l)))
 |v=>onP (b5K ts ti te st.H v) fun v=>K (st.put dst v)
theorem c6Q {ts ti te tf:TyI} {e:Nat} {st st':St} {dst:Option Nat} {v v':AV} {K:St->Prop} (hs:st=st') (hv:v=v'):b5L ts ti te tf e st dst v K=b5L ts ti te tf e st' dst v' K:=by rw [hs,hv]
theorem c3c {ts ti te tf:TyI} {e:Nat} {st:St} {dst:Option Nat} {u:Value} {K:St->Prop}:b5L ts ti te tf e st dst (.c (.raw u)) K=onP (b5K ts ti te st.H (.c (.raw u))) fun v=>K (st.put dst v):=(rfl)
theorem c6R {ts ti te tf:TyI} {e:Nat} {st:St} {dst:Option Nat} {id:Id} {off len:Nat} {K:St->Prop}:b5L ts ti te tf e st dst (.c (.so id off len)) K=onP (b5K ts ti te st.H (.c (.so id off len))) fun v=>K (st.put dst v):=(rfl)
theorem c1k {src t:TypeId} {x:Operand}:stepS P F d dst (.convert src t x) st K=b5L (tyI P src) (tyI P t) (tyI P (tyI P src).elem) (tyI P (tyI P t).elem) (tyI P t).elem st dst (st.eval x) K:=by
 simp only [stepS,aop]
 generalize st.eval x=v
 cases v with
 |c y=>
  cases y with
  |str l=>rfl
  |raw u=>
   cases u with
   |int k n=>
    simp only [b5L,b5K]
    cases (tyI P t).kind<;>rfl
   |_=>
    simp only [b5L,b5K]
    generalize (Option.bind (rowsOf st.H _) a3e)=o
    cases o<;>rfl
  |_=>
   simp only [b5L,b5K]
   generalize (Option.bind (rowsOf st.H _) a3e)=o
   cases o<;>rfl
 |_=>rfl
def rFn (first:Array Operand) (f:FuncId) (o:Option (List AC)):Option (Prop×AV):=o.map fun cs=>(first=#[],.c (.fn f cs))
theorem b7w {f:FuncId} {first caps:Array Operand}:stepS P F d dst (.makeFunc (.func f) first caps) st K=onP (rFn first f (a5J st caps.toList)) fun v=>K (st.put dst v):=by
 simp only [stepS,aop,rFn]
 split
 ·rename_i h;rw [h];rfl
 ·rename_i h;rw [h];rfl
def d0a (ti te:TyI) (l c:AV):Option (Prop×Nat):=
 match l,c with
 |.c (.raw (.int .i64 n)),.c (.raw (.int .i64 m))=>some (n=m/\0<=n/\n<=9223372036854775807/\n*te.bytes<=281474976710656/\ti.form=2/\te.ok=true/\0<te.sz,n.toNat)
 |_,_=>none
theorem b5M {t:TypeId} {l c:Operand}:stepS P F d dst (.makeSlice t l c) st K=onP (d0a (tyI P t) (tyI P (tyI P t).elem) (st.eval l) (st.eval c)) fun n=>newObj st dst (tyI P t).elem (tyI P (tyI P t).elem).sz (List.replicate n ((tyI P (tyI P t).elem).zero.map a4l)) (fun id=>.so id 0 n) K:=by
 simp only [stepS,aop]
 generalize st.eval l=v
 generalize st.eval c=u
 unfold d0a
 split
 ·rfl
 ·rename_i n
  split
  ·exact (n _ _ rfl rfl).elim
  ·rfl
def a8b (ti:TyI) (H:Heap) (f:Nat) (v:AV):Option (Prop×AV):=
 match v,ti.a3t[f]? with
 |.c (.pt id i j),some (off,n,_)=>some ((ti.form=5/\0<n)/\(H id).live=true,.c (.pt id i (j+off)))
 |.c (.pv tg row j),some (off,n,_)=>some (ti.form=5/\0<n,.c (.pv tg row (j+off)))
 |_,_=>none
theorem b5N {t:TypeId} {x:Operand} {f:Nat}:stepS P F d dst (.fieldAddr t x f) st K=onP (a8b (tyI P t) st.H f (st.eval x)) fun v=>K (st.put dst v):=by
 simp only [stepS,aop]
 generalize st.eval x=v
 generalize hq:(tyI P t).a3t[f]?=q
 unfold a8b
 rw [hq]
 split
 ·simp only [b1f,and_assoc]
 ·rfl
 ·rename_i n1 n2
  split
  ·exact (n1 _ _ _ _ _ _ rfl rfl).elim
  ·exact (n2 _ _ _ _ _ _ rfl rfl).elim
  ·rfl
def b2y (ti te:TyI) (eid:TypeId) (H:Heap) (x ix:AV):Option (Prop×AV):=
 match x,ix with
 |.c (.sl tg _ xs),.c (.raw (.int _ i))=>some ((ti.form=2/\te.ok=true/\te.sz=(xs.getD i.toNat []).length)/\0<=i/\i<xs.length,.c (.pv tg (xs.getD i.toNat []) 0))
 |.c (.so id off len),.c (.raw (.int _ i))=>some ((ti.form=2/\te.ok=true/\∃frz rows,H id=.arr eid te.sz frz rows)/\0<=i/\i<len,.c (.pt id (off+i.toNat) 0))
 |_,_=>none
theorem b5O {t:TypeId} {x ix:Operand}:stepS P F d dst (.indexAddr t x ix) st K=onP (b2y (tyI P t) (tyI P (tyI P t).elem) (tyI P t).elem st.H (st.eval x) (st.eval ix)) fun v=>K (st.put dst v):=by
 simp only [stepS,aop]
 generalize st.eval x=v
 generalize st.eval ix=u
 unfold b2y
 split
 ·rfl
 ·rfl
 ·rename_i n1 n2
  split
  ·exact (n1 _ _ _ _ _ rfl rfl).elim
  ·exact (n2 _ _ _ _ _ rfl rfl).elim
  ·rfl
def c3d (ti:TyI) (x ix:AV):Option (Prop×AV):=
 match x,ix with
 |.c (.str l),.c (.raw (.int _ i))=>some (ti.form=1/\0<=i/\i<l.length,.c (.raw (.int .u8 (bts l i))))
 |_,_=>none
theorem c6S {t:TypeId} {x ix:Operand}:stepS P F d dst (.index t x ix) st K=onP (c3d (tyI P t) (st.eval x) (st.eval ix)) fun v=>K (st.put dst v):=by
 simp only [stepS,aop]
 generalize st.eval x=v
 generalize st.eval ix=u
 unfold c3d
 split
 ·rfl
 ·rename_i n
  split
  ·exact (n _ _ _ rfl rfl).elim
  ·rfl
def b2z (i:Nat) (v:AV):Option (Prop×AV):=
 match v with
 |.t parts=>match parts[i]? with
  |some (true,cs)=>some (True,.g cs)
  |some (false,[c])=>some (True,.c c)
  |_=>none
 |_=>none
def rMk (o:Option (Nat×AC)):Option (Prop×Nat):=o.map fun q=>(True,q.1)
theorem c1l {t:TypeId} {e:Nat}:stepS P F d (some e) (.makeMap t none) st K=onP (rMk (c00 P t)) fun ag=>onA (wd st.H) (.c (.mr (st.T,e))) fun H v=>H (st.T,e)=.a0g/\K ((st.hto (hset H (st.T,e) (.mp ag []))).put (some e) v):=by
 simp only [stepS,aop,rMk]
 cases c00 P t with
 |none=>rfl
 |some q=>simp [wd,onA]
def c3e (ok:Bool) (ag:Nat) (z:AC) (o:OK) (k:Option (List Int)):Option (Prop×AV):=
 match o,k with
 |.mp ag' es,some ks=>some (ag'=ag,if ok=true then .t [(false,[(b45 es ks).getD z]),(false,[.raw (.bool (b45 es ks).isSome)])] else .c ((b45 es ks).getD z))
 |_,_=>none
def d0b (ok:Bool) (mi:Option (Nat×AC)) (H:Heap) (v k:AV):Option (Prop×AV):=
 match v,mi with
 |.c (.mr id),some (ag,z)=>c3e ok ag z (H id) (keysOf ag k)
 |_,_=>none
theorem c3f {t:TypeId} {x ix:Operand} {ok:Bool}:stepS P F d dst (.lookup t x ix ok) st K=onP (d0b ok (c00 P t) st.H (st.eval x) (st.eval ix)) fun v=>K (st.put dst v):=by
 simp only [stepS,aop]
 generalize st.eval x=v
 generalize c00 P t=mi
 cases v with
 |c y=>cases y with
  |mr id=>cases mi with
   |none=>rfl
   |some q=>
    obtain ⟨ag,z⟩:=q
    simp only [d0b,c3e]
    generalize keysOf ag (st.eval ix)=kk
    cases st.H id<;>cases kk<;>rfl
  |_=>rfl
 |_=>rfl
def c6T (ag:Nat) (H:Heap) (id:Id) (x:AC) (o:OK) (k:Option (List Int)):Option (Prop×Heap):=
 match o,k with
 |.mp ag' es,some ks=>some (ag'=ag/\AC.one H x=true,hset H id (.mp ag (c6f es ks x)))
 |_,_=>none
def e67 (mi:Option (Nat×AC)) (H:Heap) (m k v:AV):Option (Prop×Heap):=
 match m,mi,v with
 |.c (.mr id),some (ag,_),.c x=>c6T ag H id x (H id) (keysOf ag k)
 |_,_,_=>none
theorem b5P {t:TypeId} {m k v:Operand}:stepS P F d dst (.mapUpdate t m k v) st K=onP (e67 (c00 P t) st.H (st.eval m) (st.eval k) (st.eval v)) fun H=>K ((st.hto H).put dst (.c (.raw undef))):=by
 simp only [stepS,aop]
 generalize st.eval m=u
 generalize st.eval v=q
 generalize c00 P t=mi
 cases u with
 |c y=>cases y with
  |mr id=>cases mi with
   |none=>rfl
   |some p=>
    obtain ⟨ag,z⟩:=p
    cases q with
    |c x=>
     simp only [e67,c6T]
     generalize keysOf ag (st.eval k)=kk
     cases st.H id<;>cases kk<;>rfl
    |_=>rfl
  |_=>rfl
 |_=>rfl
section
variable {ag ag':Nat} {z x:AC} {id:Id} {H:Heap} {k:AV} {ok:Bool} {es:List (List Int×AC)} {ks:List Int} {n:Nat} {a:Int} {xs:List AC} {l:List Int}
@[simp] theorem f4p:rMk (some (ag,z))=some (True,ag):=(rfl)
@[simp] theorem e1O:d0b ok (some (ag,z)) H (.c (.mr id)) k=c3e ok ag z (H id) (keysOf ag k):=(rfl)
@[simp] theorem e68:c3e true ag z (.mp ag' es) (some ks)=some (ag'=ag,.t [(false,[(b45 es ks).getD z]),(false,[.raw (.bool (b45 es ks).isSome)])]):=(rfl)
@[simp] theorem e69:c3e false ag z (.mp ag' es) (some ks)=some (ag'=ag,.c ((b45 es ks).getD z)):=(rfl)
@[simp] theorem e7a:e67 (some (ag,z)) H (.c (.mr id)) k (.c x)=c6T ag H id x (H id) (keysOf ag k):=(rfl)
@[simp] theorem e1P:c6T ag H id x (.mp ag' es) (some ks)=some (ag'=ag/\AC.one H x=true,hset H id (.mp ag (c6f es ks x))):=(rfl)
@[simp] theorem e1Q:keysOf 0 (.c (.raw (.int .i64 a)))=some [a]:=(rfl)
def kG (n:Nat) (l:Option (List Int)):Option (List Int):=l.bind fun l=>if l.length=n/\n≠0 then some l else none
@[simp] theorem e1R:keysOf n (.g xs)=kG n (intsOf xs):=by
 cases h:intsOf xs<;>simp [keysOf,kG,h]
@[simp] theorem f7n:kG n (some l)=if l.length=n/\n≠0 then some l else none:=(rfl)
@[simp] theorem e1S:intsOf []=some []:=(rfl)
@[simp] theorem e1T:intsOf (.raw (.int .i64 a)::xs)=(intsOf xs).map fun l=>a::l:=(rfl)
end
theorem c1m {x:Operand} {i:Nat}:stepS P F d dst (.extract x i) st K=onP (b2z i (st.eval x)) fun v=>K (st.put dst v):=by
 simp only [stepS,aop]
 generalize st.eval x=v
 unfold b2z
 cases v with
 |t parts=>
  simp only
  cases parts[i]? with
  |none=>rfl
  |some q=>
   obtain ⟨b,cs⟩:=q
   cases b with
   |true=>simp
   |false=>
    cases cs with
    |nil=>rfl
    |cons c cs=>cases cs<;>simp
 |_=>rfl
def b5Q (ti te:TyI) (eid:TypeId) (H:Heap) (x:AV) (lo hi mx:Option AV):Option (Prop×AV):=
 match x with
 |.c (.str l)=>
  match lo.getD (.c (.raw (.int .i64 0))),hi.getD (.c (.raw (.int .i64 l.length))) with
  |.c (.raw (.int _ i)),.c (.raw (.int _ j))=>some (ti.form=1/\mx.isNone=true/\0<=i/\i<=j/\j<=l.length,.c (.str ((l.take j.toNat).drop i.toNat)))
  |_,_=>none
 |.c (.sl tg _ xs)=>
  match lo.getD (.c (.raw (.int .i64 0))),hi.getD (.c (.raw (.int .i64 xs.length))),mx with
  |.c (.raw (.int _ i)),.c (.raw (.int _ j)),none=>some (ti.form=2/\te.ok=true/\(∀r∈xs,r.length=te.sz)/\0<=i/\i<=j/\j<=xs.length,.c (.sl tg false ((xs.take j.toNat).drop i.toNat)))
  |.c (.raw (.int _ i)),.c (.raw (.int _ j)),some (.c (.raw (.int _ m)))=>some (ti.form=2/\te.ok=true/\(∀r∈xs,r.length=te.sz)/\0<=i/\i<=j/\j=m/\m<=xs.length/\hi.isSome=true,.c (.sl tg true ((xs.take j.toNat).drop i.toNat)))
  |_,_,_=>none
 |.c (.so id off len)=>
  match lo.getD (.c (.raw (.int .i64 0))),hi.getD (.c (.raw (.int .i64 len))),mx with
  |.c (.raw (.int _ i)),.c (.raw (.int _ j)),none=>some (ti.form=2/\te.ok=true/\(∃sz frz rows,H id=.arr eid sz frz rows/\sz=te.sz)/\0<=i/\i<=j/\j<=len,.c (.so id (off+i.toNat) (j.toNat-i.toNat)))
  |_,_,_=>none
 |_=>none
theorem c6U {t:TypeId} {x:Operand} {lo hi mx:Option Operand}:stepS P F d dst (.slice t x lo hi mx) st K=onP (b5Q (tyI P t) (tyI P (tyI P t).elem) (tyI P t).elem st.H (st.eval x) (lo.map st.eval) (hi.map st.eval) (mx.map st.eval)) fun v=>K (st.put dst v):=by
 have e1:(mx.map st.eval).isNone=mx.isNone:=by cases mx<;>rfl
 have e2:(hi.map st.eval).isSome=hi.isSome:=by cases hi<;>rfl
 have e3:mx.map st.eval=none->True:=fun _=>trivial
 simp only [stepS,aop,b5Q,e1,e2]
 generalize st.eval x=v
 generalize lo.map st.eval=l
 generalize hi.map st.eval=h
 generalize mx.map st.eval=m
 cases v with
 |c y=>
  cases y with
  |str s=>
   simp only
   generalize l.getD _=p
   generalize h.getD _=q
   cases p<;>(try rfl)
   rename_i p
   cases p<;>(try rfl)
   rename_i p
   cases p<;>(try rfl)
   cases q<;>(try rfl)
   rename_i q
   cases q<;>(try rfl)
   rename_i q
   cases q<;>rfl
  |sl tg cl xs=>
   simp only
   generalize l.getD _=p
   generalize h.getD _=q
   cases p<;>(try rfl)
   rename_i p
   cases p<;>(try rfl)
   rename_i p
   cases p<;>(try rfl)
   cases q<;>(try rfl)
   rename_i q
   cases q<;>(try rfl)
   rename_i q
   cases q<;>(try rfl)
   cases m<;>(try rfl)
   rename_i m
   cases m<;>(try rfl)
   rename_i m
   cases m<;>(try rfl)
   rename_i m
   cases m<;>rfl
  |so id off len=>
   simp only
   generalize l.getD _=p
   generalize h.getD _=q
   cases p<;>(try rfl)
   rename_i p
   cases p<;>(try rfl)
   rename_i p
   cases p<;>(try rfl)
   cases q<;>(try rfl)
   rename_i q
   cases q<;>(try rfl)
   rename_i q
   cases q<;>(try rfl)
   cases m<;>rfl
  |_=>rfl
 |_=>rfl
def c8I (v:AV) (k:FuncId->List AC->Prop):Prop:=
 match v with
 |.c (.fn g caps)=>k g caps
 |_=>False
@[simp] theorem e7b {g:FuncId} {caps:List AC} {k:FuncId->List AC->Prop}:c8I (.c (.fn g caps)) k=k g caps:=(rfl)
@[congr] theorem e7c {v v':AV} {k:FuncId->List AC->Prop} (h:v=v'):c8I v k=c8I v' k:=by rw [h]
theorem go_call {f:Operand} {args:Array Operand} {ts:Array TypeId}:stepS P F d dst (.call {callee:=.value f,args:=args,argTypes:=ts}) st K=c8I (st.eval f) fun g caps=>a9P P F d st dst g (args.toList.map st.eval++caps.map .c) K:=by
 simp only [stepS]
 generalize st.eval f=v
 cases v with
 |c y=>cases y<;>rfl
 |_=>rfl
theorem c1n {b:Builtin} {l:List Operand} {ts:List TypeId}:stepS P F d dst (.call {callee:=.builtin b,args:=⟨l⟩,argTypes:=⟨ts⟩}) st K=abi P dst b l ts st K:=(rfl)
def d5y (ti:TyI) (H:Heap) (v:AV):Option (Prop×AV):=
 match v with
 |.c (.str l)=>some (ti.form=1,.c (.raw (.int .i64 l.length)))
 |.c (.so id _ len)=>some (ti.form=2/\(H id).live=true,.c (.raw (.int .i64 len)))
 |.c (.sl _ _ xs)=>some (ti.form=2,.c (.raw (.int .i64 xs.length)))
 |.c (.raw (.slice none 0 0))=>some (ti.form=2,.c (.raw (.int .i64 0)))
 |_=>none
theorem d5z {x:Operand} {t:TypeId}:abi P dst .len [x] [t] st K=onP (d5y (tyI P t) st.H (st.eval x)) fun v=>K (st.put dst v):=by
 simp only [abi]
 generalize st.eval x=v
 unfold d5y
 split
 ·rfl
 ·rfl
 ·rfl
 ·rfl
 ·rename_i n1 n2 n3 n4
  split
  ·exact (n1 _ rfl).elim
  ·exact (n2 _ _ _ rfl).elim
  ·exact (n3 _ _ _ rfl).elim
  ·exact (n4 rfl).elim
  ·rfl
def onE (g:Option Ent) (H:Heap) (args:List AV) (fall:Prop) (k:AV->Prop) (m:List (Id×OK)->AV->Prop):Prop:=
 match g with
 |some (.pu h)=>onP ((a4B H args).bind h) k
 |some (.mu h)=>onP (h H args) fun r=>m r.1 r.2
 |none=>fall
@[simp] theorem d5A {H:Heap} {args:List AV} {h:List AV->Option (Prop×AV)} {fall:Prop} {k:AV->Prop} {m:List (Id×OK)->AV->Prop}:onE (some (.pu h)) H args fall k m=onP ((a4B H args).bind h) k:=(rfl)
@[simp] theorem d5B {H:Heap} {args:List AV} {h:MH} {fall:Prop} {k:AV->Prop} {m:List (Id×OK)->AV->Prop}:onE (some (.mu h)) H args fall k m=onP (h H args) fun r=>m r.1 r.2:=(rfl)
@[simp] theorem e1U {H:Heap} {args:List AV} {fall:Prop} {k:AV->Prop} {m:List (Id×OK)->AV->Prop}:onE none H args fall k m=fall:=(rfl)
@[congr] theorem f4q {g g':Option Ent} {H:Heap} {args:List AV} {fall:Prop} {k:AV->Prop} {m:List (Id×OK)->AV->Prop} (h:g=g'):onE g H args fall k m=onE g' H args fall k m:=by rw [h]
theorem c6V {f:FuncId} {args:List AV}:a9P P F d st dst f args K =
  onE (a0c F f) st.H args (a7i P d st dst f args K)
   (fun ret=>a6Q (a2n st dst) st.H 0 ret.flat/\(d=true->ret.flat.length<=1024/\dst.isSome=true)/\onA (wd (adH (a2n st dst) 0 ret.flat st.H)) (ret.ad (a2n st dst)) fun H v=>K ((st.hto H).put dst v))
   fun us ret=>d=false/\a6Q (a2n st dst) st.H 0 ret.flat/\onA (wd (adH (a2n st dst) 0 ret.flat (upH st.H us))) (ret.ad (a2n st dst)) fun H v=>K ((st.hto H).put dst v):=by
 unfold a9P
 cases a0c F f with
 |none=>rfl
 |some e=>
  cases e with
  |pu h=>
   simp only [d5A]
   cases a4B st.H args with
   |none=>rfl
   |some args'=>
    simp only [Option.bind_some]
    cases h args' with
    |none=>rfl
    |some q=>rfl
  |mu h=>
   simp only [d5B]
   cases h st.H args with
   |none=>rfl
   |some q=>rfl
def onD (g:Option Ent) (H:Heap) (args:List AV) (m:List (Id×OK)->AV->Prop):Prop:=
 match g with
 |some (.mu h)=>onP (h H args) fun r=>m r.1 r.2
 |_=>False
@[simp] theorem d5C {H:Heap} {args:List AV} {h:MH} {m:List (Id×OK)->AV->Prop}:onD (some (.mu h)) H args m=onP (h H args) fun r=>m r.1 r.2:=(rfl)
@[congr] theorem f4r {g g':Option Ent} {H:Heap} {args:List AV} {m:List (Id×OK)->AV->Prop} (h:g=g'):onD g H args m=onD g' H args m:=by rw [h]
theorem c6W {f:Operand} {args:Array Operand} {ts:Array TypeId} {K:List Id->St->Prop}:a5E P F ⟨dst,.call {callee:=.value f,args:=args,argTypes:=ts},none⟩ st K =
  c8I (st.eval f) fun g caps=>onD (a0c F g) st.H (args.toList.map st.eval++caps.map .c) fun us ret=>a6Q (a2n st dst) st.H 0 ret.flat/\(ret.flat.length<=1024/\dst.isSome=true)/\
   onA (wd (adH (a2n st dst) 0 ret.flat (upH st.H us))) (ret.ad (a2n st dst)) fun H v=>K (us.map (·.1)) ((st.hto H).put dst v):=by
 unfold a5E c8I
 simp only
 first
 |done
 |generalize st.eval f=v
  cases v with
  |c x=>
   cases x with
   |fn g caps=>
    simp only
    cases a0c F g with
    |none=>rfl
    |some e=>
     cases e with
     |pu h=>rfl
     |mu h=>
      simp only [d5C]
      cases h st.H _ with
      |none=>rfl
      |some q=>rfl
   |_=>rfl
  |_=>rfl
theorem c6X {f:Operand} {args:Array Operand} {ts:Array TypeId} {K:St->Prop}:a5U P F dst (.call {callee:=.value f,args:=args,argTypes:=ts}) st K =
  c8I (st.eval f) fun g caps=>c2T P F st dst g (args.toList.map st.eval++caps.map .c) K:=by
 unfold a5U c8I
 simp only
 first
 |done
 |generalize st.eval f=v
  cases v with
  |c x=>cases x<;>rfl
  |_=>rfl
def d5D (v:AV) (k:Id->Prop):Prop:=
 match v with
 |.c (.pt id _ _)=>k id
 |_=>False
@[simp] theorem e7d {id:Id} {i j:Nat} {k:Id->Prop}:d5D (.c (.pt id i j)) k=k id:=(rfl)
@[congr] theorem e7e {v v':AV} {k:Id->Prop} (h:v=v'):d5D v k=d5D v' k:=by rw [h]
theorem c3g {t:TypeId} {x v:Operand} {K:List Id->St->Prop}:a5E P F ⟨dst,.store t x v,none⟩ st K=d5D (st.eval x) fun id=>stepS P F true dst (.store t x v) st (K [id]):=by
 unfold a5E d5D
 simp only [stepS]
 first
 |done
 |generalize st.eval x=u
  cases u with
  |c c=>cases c<;>rfl
  |_=>rfl
theorem c6Y {js:List Nat} {prs:List (Nat×Nat)} {i:Nat} {W:List (Nat×Id)} {N:List (Nat×AV)} {K:List (Nat×Id)->List (Nat×AV)->St->Prop}:a8S P F js prs [] i W N K st=K W N st:=(rfl)
theorem c3h {js:List Nat} {prs:List (Nat×Nat)} {i:Nat} {W:List (Nat×Id)} {N:List (Nat×AV)} {op:Op} {l:List SO} {K:List (Nat×Id)->List (Nat×AV)->St->Prop}:a8S P F js prs (⟨dst,op,none⟩::l) i W N K st =
  if prs.contains (i,i)=true then a5U P F dst op st (a8S P F js prs l (i+1) W (if prs.any (·.2==i)=true then a3w i op st++N else N) K)
  else if js.contains i=true then a5E P F ⟨dst,op,none⟩ st fun W' st'=>a8S P F js prs l (i+1) (W'.map (fun id=>(i,id))++W) (if prs.any (·.2==i)=true then a3w i op st++N else N) K st'
  else stepS P F true dst op st (a8S P F js prs l (i+1) W (if prs.any (·.2==i)=true then a3w i op st++N else N) K):=(rfl)
theorem c1o {js:List Nat} {prs:List (Nat×Nat)} {i:Nat} {W:List (Nat×Id)} {N:List (Nat×AV)} {op:Op} {l:List SO} {gs:Option Nat} {want:Bool} {K:List (Nat×Id)->List (Nat×AV)->St->Prop}:a8S P F js prs (⟨dst,op,some (gs,want)⟩::l) i W N K st =
  if prs.contains (i,i)=true then agd gs want st (fun st'=>a5U P F dst op st' (a8S P F js prs l (i+1) W (if prs.any (·.2==i)=true then a3w i op st++N else N) K)) (fun st'=>a8S P F js prs l (i+1) W (if prs.any (·.2==i)=true then a3w i op st++N else N) K (st'.put dst (.c (.raw undef))))
  else if js.contains i=true then False
  else agd gs want st (fun st'=>stepS P F true dst op st' (a8S P F js prs l (i+1) W (if prs.any (·.2==i)=true then a3w i op st++N else N) K))
     (fun st'=>a8S P F js prs l (i+1) W (if prs.any (·.2==i)=true then a3w i op st++N else N) K (st'.put dst (.c (.raw undef)))):=by
 rw [a8S]
 by_cases hp:prs.contains (i,i)=true
 ·rw [if_pos hp,if_pos hp]
 rw [if_neg hp,if_neg hp]
 by_cases hj:js.contains i=true
 ·rw [if_pos hj,if_pos hj]
  unfold a5E
  cases op<;>rfl
 ·rw [if_neg hj,if_neg hj]
theorem c6Z {f:FuncId} {args args':List AV} {K:St->Prop} {st st':St} (h:st=st') (ha:args=args'):c2T P F st dst f args K=c2T P F st' dst f args' K:=by rw [h,ha]
attribute [congr] c6Z
attribute [simp ↓] c6X c6W c3g c6Y c3h c1o
attribute [simp] a3w Op.operands
@[simp] theorem f7o {id:Id} {c:AC}:idV id (.c c)↔idC id c:=by simp [idV,AV.flat]
@[simp] theorem f4s {id i:Id} {j k:Nat}:idC id (.pt i j k)↔id=i:=⟨(fun h=>by cases h;rfl),(fun h=>by subst h;constructor)⟩
@[simp] theorem e7f {id:Id} {v:Value}:idC id (.raw v)↔False:=⟨(fun h=>nomatch h),(fun h=>h.elim)⟩
@[simp] theorem e7g {id:Id} {l:List UInt8}:idC id (.str l)↔False:=⟨(fun h=>nomatch h),(fun h=>h.elim)⟩
@[simp] theorem f4t {id:Id} {t:Tag} {cl:Bool} {xs:List (List AC)}:idC id (.sl t cl xs)↔False:=⟨(fun h=>nomatch h),(fun h=>h.elim)⟩
attribute [simp] upH
section
variable {ti te ts:TyI} {H:Heap} {id:Id} {i j off len n eid:Nat} {row cs:List AC} {rows xs:List (List AC)} {tg:Tag} {cl:Bool} {c:AC} {k k' k'':IntKind} {a b m:Int} {l:List UInt8} {v:AV}
@[simp] theorem f4u:d5v ti H (.c c)=some (ti.ok=true/\1=ti.sz/\AC.one H c=true,[[c]]):=by simp [d5v,AV.cells]
@[simp] theorem f4v:d5v ti H (.g cs)=some (ti.ok=true/\cs.length=ti.sz/\cs.all (AC.one H)=true,[cs]):=(rfl)
@[simp] theorem d5E:c29 ti (some cs)=some (ti.ok=true/\ti.bld=true,.g cs):=(rfl)
@[simp] theorem e1V:c98 ti te n (some rows)=some (ti.form=2/\te.ok=true/\rows.length=n/\n*te.sz<=16777216/\0<te.sz,rows):=(rfl)
@[simp] theorem e1W:b7u ti (some row) j=(a6D ti.ag ti.sz row j).map fun v=>(ti.ok=true,v):=(rfl)
@[simp] theorem e1X:c3a ti H (.c (.pt id i j))=b7u ti (d2l H id i) j:=(rfl)
@[simp] theorem e1Y:c3a ti H (.c (.pv tg row j))=b7u ti (some row) j:=(rfl)
def rowAt (o:OK) (i:Nat):Option (List AC):=
 match o with
 |.arr _ _ _ rows=>rows[i]?
 |_=>none
@[simp] theorem e7h:d2l H id i=rowAt (H id) i:=(rfl)
@[simp] theorem e1Z {e sz:Nat} {f:Bool}:rowAt (.arr e sz f rows) i=rows[i]?:=(rfl)
def e7i (ti:TyI) (H:Heap) (id:Id) (i j:Nat) (cs:List AC) (o:OK):Option (Prop×Heap):=
 match o with
 |.arr e sz false rows=>match rows[i]? with
   |some row=>some (ti.ok=true/\cs.length=ti.sz/\cs.all (AC.one H)=true/\j+cs.length<=row.length,hset H id (.arr e sz false (rows.set i (lay row j cs))))
   |none=>none
 |_=>none
def d0c (ti:TyI) (H:Heap) (id:Id) (i j e sz:Nat) (cs:List AC) (rows:List (List AC)) (o:Option (List AC)):Option (Prop×Heap):=
 o.map fun row=>(ti.ok=true/\cs.length=ti.sz/\cs.all (AC.one H)=true/\j+cs.length<=row.length,hset H id (.arr e sz false (rows.set i (lay row j cs))))
@[simp] theorem e11:b92 ti H (.c (.pt id i j)) (.c c)=e7i ti H id i j [c] (H id):=(rfl)
@[simp] theorem e12:b92 ti H (.c (.pt id i j)) (.g cs)=e7i ti H id i j cs (H id):=(rfl)
@[simp] theorem e7j {e sz:Nat}:e7i ti H id i j cs (.arr e sz false rows)=d0c ti H id i j e sz cs rows rows[i]?:=by
 show (match rows[i]? with
   |some row=>some (ti.ok=true/\cs.length=ti.sz/\cs.all (AC.one H)=true/\j+cs.length<=row.length,hset H id (.arr e sz false (rows.set i (lay row j cs))))
   |none=>none)=_
 unfold d0c
 generalize rows[i]?=o
 cases o<;>rfl
@[simp] theorem e13 {e sz:Nat}:d0c ti H id i j e sz cs rows (some row)=some (ti.ok=true/\cs.length=ti.sz/\cs.all (AC.one H)=true/\j+cs.length<=row.length,hset H id (.arr e sz false (rows.set i (lay row j cs)))):=(rfl)
@[simp] theorem e7k:f4o H (.c (.pt id i j))=some ((H id).live=true,.c (.pt id i j)):=(rfl)
@[simp] theorem d5F:b5K ts ti te H (.c (.raw (.int k a)))=ti.kind.map fun k=>(ts.form=3,.c (.raw (.int k (k.wrap a)))):=(rfl)
@[simp] theorem e14:b5K ts ti te H (.c (.so id off len))=((rowsOf H (.so id off len)).bind a3e).map fun l=>(ts.form=2/\ti.form=1/\te.kind=some .u8,.c (.str l)):=(rfl)
@[simp] theorem f4w {first:Array Operand} {f:FuncId}:rFn first f (some cs)=some (first=#[],.c (.fn f cs)):=(rfl)
@[simp] theorem e15:d0a ti te (.c (.raw (.int .i64 a))) (.c (.raw (.int .i64 b)))=some (a=b/\0<=a/\a<=9223372036854775807/\a*te.bytes<=281474976710656/\ti.form=2/\te.ok=true/\0<te.sz,a.toNat):=(rfl)
@[simp] theorem d2m {f:Nat}:a8b ti H f (.c (.pt id i j))=ti.a3t[f]?.map fun q=>((ti.form=5/\0<q.2.1)/\(H id).live=true,.c (.pt id i (j+q.1))):=by
 unfold a8b
 cases ti.a3t[f]?<;>rfl
@[simp] theorem d2n {f:Nat}:a8b ti H f (.c (.pv tg row j))=ti.a3t[f]?.map fun q=>(ti.form=5/\0<q.2.1,.c (.pv tg row (j+q.1))):=by
 unfold a8b
 cases ti.a3t[f]?<;>rfl
@[simp] theorem d2o:b2y ti te eid H (.c (.sl tg cl xs)) (.c (.raw (.int k a)))=some ((ti.form=2/\te.ok=true/\te.sz=(xs.getD a.toNat []).length)/\0<=a/\a<xs.length,.c (.pv tg (xs.getD a.toNat []) 0)):=(rfl)
@[simp] theorem d2p:b2y ti te eid H (.c (.so id off len)) (.c (.raw (.int k a)))=some ((ti.form=2/\te.ok=true/\∃frz rows,H id=.arr eid te.sz frz rows)/\0<=a/\a<len,.c (.pt id (off+a.toNat) 0)):=(rfl)
@[simp] theorem d5G:c3d ti (.c (.str l)) (.c (.raw (.int k a)))=some (ti.form=1/\0<=a/\a<l.length,.c (.raw (.int .u8 (bts l a)))):=(rfl)
def e7l (o:Option (Bool×List AC)):Option (Prop×AV):=
 match o with
 |some (true,cs)=>some (True,.g cs)
 |some (false,[c])=>some (True,.c c)
 |_=>none
@[simp] theorem d0d {ps:List (Bool×List AC)}:b2z i (.t ps)=e7l ps[i]?:=(rfl)
@[simp] theorem f4x:e7l (some (true,cs))=some (True,.g cs):=(rfl)
@[simp] theorem f4y:e7l (some (false,[c]))=some (True,.c c):=(rfl)
@[simp] theorem d2q {lo hi mx:Option AV}:b5Q ti te eid H (.c (.str l)) lo hi mx=(match lo.getD (.c (.raw (.int .i64 0))),hi.getD (.c (.raw (.int .i64 l.length))) with
  |.c (.raw (.int _ i)),.c (.raw (.int _ j))=>some (ti.form=1/\mx.isNone=true/\0<=i/\i<=j/\j<=l.length,.c (.str ((l.take j.toNat).drop i.toNat)))
  |_,_=>none):=(rfl)
@[simp] theorem d5H {lo hi mx:Option AV}:b5Q ti te eid H (.c (.sl tg cl xs)) lo hi mx=(match lo.getD (.c (.raw (.int .i64 0))),hi.getD (.c (.raw (.int .i64 xs.length))),mx with
  |.c (.raw (.int _ i)),.c (.raw (.int _ j)),none=>some (ti.form=2/\te.ok=true/\(∀r∈xs,r.length=te.sz)/\0<=i/\i<=j/\j<=xs.length,.c (.sl tg false ((xs.take j.toNat).drop i.toNat)))
  |.c (.raw (.int _ i)),.c (.raw (.int _ j)),some (.c (.raw (.int _ m)))=>some (ti.form=2/\te.ok=true/\(∀r∈xs,r.length=te.sz)/\0<=i/\i<=j/\j=m/\m<=xs.length/\hi.isSome=true,.c (.sl tg true ((xs.take j.toNat).drop i.toNat)))
  |_,_,_=>none):=(rfl)
@[simp] theorem d5I {lo hi mx:Option AV}:b5Q ti te eid H (.c (.so id off len)) lo hi mx=(match lo.getD (.c (.raw (.int .i64 0))),hi.getD (.c (.raw (.int .i64 len))),mx with
  |.c (.raw (.int _ i)),.c (.raw (.int _ j)),none=>some (ti.form=2/\te.ok=true/\(∃sz frz rows,H id=.arr eid sz frz rows/\sz=te.sz)/\0<=i/\i<=j/\j<=len,.c (.so id (off+i.toNat) (j.toNat-i.toNat)))
  |_,_,_=>none):=(rfl)
@[simp] theorem e16:d5y ti H (.c (.str l))=some (ti.form=1,.c (.raw (.int .i64 l.length))):=(rfl)
@[simp] theorem e7m:d5y ti H (.c (.so id off len))=some (ti.form=2/\(H id).live=true,.c (.raw (.int .i64 len))):=(rfl)
@[simp] theorem e7n:d5y ti H (.c (.sl tg cl xs))=some (ti.form=2,.c (.raw (.int .i64 xs.length))):=(rfl)
end
variable {ti:TyI} {k:IntKind} {a b:Int}
theorem d0e:a4m ti .add (.c (.raw (.int k a))) (.c (.raw (.int k b)))=some (True,.raw (.int k (k.wrap (a+b)))):=by simp [a4m,c0Z]
theorem d0f:a4m ti .sub (.c (.raw (.int k a))) (.c (.raw (.int k b)))=some (True,.raw (.int k (k.wrap (a-b)))):=by simp [a4m,c0Z]
theorem d0g:a4m ti .mul (.c (.raw (.int k a))) (.c (.raw (.int k b)))=some (True,.raw (.int k (k.wrap (a*b)))):=by simp [a4m,c0Z]
theorem d0h:a4m ti .lss (.c (.raw (.int k a))) (.c (.raw (.int k b)))=some (True,.raw (.bool (decide (a<b)))):=by simp [a4m,c0Z]
theorem d0i:a4m ti .leq (.c (.raw (.int k a))) (.c (.raw (.int k b)))=some (True,.raw (.bool (decide (a<=b)))):=by simp [a4m,c0Z]
theorem d0j:a4m ti .gtr (.c (.raw (.int k a))) (.c (.raw (.int k b)))=some (True,.raw (.bool (decide (b<a)))):=by simp [a4m,c0Z]
theorem d0k:a4m ti .geq (.c (.raw (.int k a))) (.c (.raw (.int k b)))=some (True,.raw (.bool (decide (b<=a)))):=by simp [a4m,c0Z]
theorem d0l:a4m ti .eql (.c (.raw (.int k a))) (.c (.raw (.int k b)))=some (True,.raw (.bool (decide (a=b)))):=by simp [a4m,c0Z]
theorem d0m:a4m ti .neq (.c (.raw (.int k a))) (.c (.raw (.int k b)))=some (True,.raw (.bool (!decide (a=b)))):=by simp [a4m,c0Z]
def d5J (k:IntKind) (a b:Int):Int:=k.wrap (BitVec.ofInt k.bits a &&&BitVec.ofInt k.bits b).toNat
def ior (k:IntKind) (a b:Int):Int:=k.wrap (BitVec.ofInt k.bits a |||BitVec.ofInt k.bits b).toNat
theorem d0n:a4m ti .and (.c (.raw (.int k a))) (.c (.raw (.int k b)))=some (True,.raw (.int k (d5J k a b))):=by simp [a4m,c0Z,d5J]
theorem d5K:a4m ti .or (.c (.raw (.int k a))) (.c (.raw (.int k b)))=some (True,.raw (.int k (ior k a b))):=by simp [a4m,c0Z,ior]
theorem d0o {k':IntKind}:a4m ti .shl (.c (.raw (.int k a))) (.c (.raw (.int k' b)))=some (0<=b,.raw (.int k (k.wrap (a*2^(min b.toNat k.bits))))):=by simp [a4m]
theorem d0p {k':IntKind}:a4m ti .shr (.c (.raw (.int k a))) (.c (.raw (.int k' b)))=some (0<=b,.raw (.int k (a.fdiv (2^(min b.toNat k.bits))))):=by simp [a4m]
theorem d0q:a4m ti .quo (.c (.raw (.int k a))) (.c (.raw (.int k b)))=some (b≠0,.raw (.int k (k.wrap (a.tdiv b)))):=by simp [a4m]
theorem d0r:a4m ti .rem (.c (.raw (.int k a))) (.c (.raw (.int k b)))=some (b≠0,.raw (.int k (a.tmod b))):=by simp [a4m]
variable {x y:List UInt8} {p q:Bool} {xs ys:List AC}
theorem c60:a4m ti .add (.c (.str x)) (.c (.str y))=some (x.length+y.length<=9223372036854775807,.str (x++y)):=by simp [a4m]
theorem c61:a4m ti .eql (.c (.str x)) (.c (.str y))=some (True,.raw (.bool (decide (x=y)))):=by simp [a4m]
theorem c62:a4m ti .neq (.c (.str x)) (.c (.str y))=some (True,.raw (.bool (!decide (x=y)))):=by simp [a4m]
theorem c63:a4m ti .neq (.c (.raw (.bool p))) (.c (.raw (.bool q)))=some (ti.form=4,.raw (.bool (p != q))):=by simp [a4m]
theorem e7o {op:BinOp}:a4m ti op (.g xs) (.g ys)=aeq op (a0W ti.eqs xs ys) ti.eqs:=by simp [a4m]
variable {H:Heap} {v v':Value} {l l':List UInt8} {t t':Tag} {cl cl':Bool} {rows rows':List (List AC)} {id:Id} {off len e sz:Nat} {n:Int}
@[simp] theorem d5L:a4l (.int k n)=.raw (.int k n):=(rfl)
@[simp] theorem d2r:a4l (.bool p)=.raw (.bool p):=(rfl)
@[simp] theorem c8J {s:ByteArray}:a4l (.string s)=.str s.data.toList:=(rfl)
@[simp] theorem d0s {x:Option Addr} {i j:Nat}:a4l (.slice x i j)=.raw (.slice x i j):=(rfl)
@[simp] theorem c64 {x:Option Addr}:a4l (.pointer x)=.raw (.pointer x):=(rfl)
@[simp] theorem e17 {f:Bool}:(OK.arr e sz f rows).live=true:=(rfl)
@[simp] theorem e7p {x:AC}:(AV.c x).cells=some [x]:=(rfl)
@[simp] theorem e7q {xs:List AC}:(AV.g xs).cells=some xs:=(rfl)
@[simp] theorem d5M:a5m H []=some []:=(rfl)
@[simp] theorem d2s {c:AC} {r:List AC}:a5m H (c::r)=(match a2c H c,a5m H r with
  |some x,some xs=>some (x::xs)
  |_,_=>none):=(rfl)
@[simp] theorem d5N:a4B H []=some []:=(rfl)
@[simp] theorem d2t {c:AV} {r:List AV}:a4B H (c::r)=(match a4n H c,a4B H r with
  |some x,some xs=>some (x::xs)
  |_,_=>none):=(rfl)
section
variable {nm:Nat->Id} {i:Nat} {r:List AC}
@[simp] theorem f4z {x:AC}:(AV.c x).flat=[x]:=(rfl)
@[simp] theorem f4A {xs:List AC}:(AV.g xs).flat=xs:=(rfl)
@[simp] theorem f4B {xs:List (Bool×List AC)}:(AV.t xs).flat=a3q xs:=(rfl)
@[simp] theorem g0J {x:AC}:(AV.c x).ad nm=.c (adC nm 0 x):=(rfl)
@[simp] theorem g0K {xs:List AC}:(AV.g xs).ad nm=.g (adL nm 0 xs):=(rfl)
@[simp] theorem g0L {xs:List (Bool×List AC)}:(AV.t xs).ad nm=.t (adT nm 0 xs):=(rfl)
@[simp] theorem f4C:adC nm i (.nw e sz rows)=.so (nm i) 0 rows.length:=(rfl)
@[simp] theorem e7r:adC nm i (.raw v)=.raw v:=(rfl)
@[simp] theorem e7s:adC nm i (.str l)=.str l:=(rfl)
@[simp] theorem f4D:adC nm i (.sl t cl rows)=.sl t cl rows:=(rfl)
@[simp] theorem e7t:b7b id (.nw e sz rows) H=hset H id (.arr e sz false rows):=(rfl)
@[simp] theorem e18:b7b id (.raw v) H=H:=(rfl)
@[simp] theorem e19:b7b id (.str l) H=H:=(rfl)
@[simp] theorem e7u:b7b id (.sl t cl rows) H=H:=(rfl)
@[simp] theorem e2a:a6Q nm H i []=True:=(rfl)
@[simp] theorem e7v:a6Q nm H i (.nw e sz rows::r)=(H (nm i)=.a0g/\a6Q nm H (i+1) r):=(rfl)
@[simp] theorem e2b:a6Q nm H i (.raw v::r)=a6Q nm H (i+1) r:=(rfl)
@[simp] theorem e2c:a6Q nm H i (.str l::r)=a6Q nm H (i+1) r:=(rfl)
@[simp] theorem e7w:a6Q nm H i (.sl t cl rows::r)=a6Q nm H (i+1) r:=(rfl)
@[simp] theorem d5O:a2u []=[]:=(rfl)
@[simp] theorem e2d:a2u (.so id off len::r)=id::a2u r:=(rfl)
@[simp] theorem d5P:a2u (.raw v::r)=a2u r:=(rfl)
@[simp] theorem d5Q:a2u (.str l::r)=a2u r:=(rfl)
@[simp] theorem e2e:a2u (.sl t cl rows::r)=a2u r:=(rfl)
end
@[simp] theorem e7x:exL H [] []=True:=(rfl)
@[simp] theorem e2f {c c':AC} {r r':List AC}:exL H (c::r) (c'::r')=(exC H c c'/\exL H r r'):=(rfl)
@[simp] theorem e7y:exT H [] []=True:=(rfl)
@[simp] theorem e2g {b b':Bool} {c c':List AC} {r r':List (Bool×List AC)}:exT H ((b,c)::r) ((b',c')::r')=(b=b'/\exL H c c'/\exT H r r'):=(rfl)
@[simp] theorem d0t:a3e []=some []:=(rfl)
@[simp] theorem c8K {r:List (List AC)}:a3e ([.raw (.int .u8 n)]::r)=(a3e r).map fun l=>UInt8.ofNat n.toNat::l:=(rfl)
@[simp] theorem e7z:exC H (.raw v) (.raw v')=(v=v'):=by unfold exC;split<;>simp_all
@[simp] theorem e7A:exC H (.str l) (.str l')=(l=l'):=(rfl)
@[simp] theorem d5R:exC H (.so id off len) (.nw e sz rows)=(off=0/\H id=.arr e sz false rows/\len=rows.length):=(rfl)
@[simp] theorem d5S:exC H (.so id off len) (.sl t cl rows)=(t≠.brw/\cl=false/\rowsOf H (.so id off len)=some rows):=(rfl)
@[simp] theorem d2u:exC H (.raw (.slice none 0 0)) (.nw e sz rows)=(rows=[]):=(rfl)
@[simp] theorem d2v:exC H (.raw (.slice none 0 0)) (.sl t cl rows)=(rows=[]):=(rfl)
@[simp] theorem d5T:exC H (.sl t cl rows) (.sl t' cl' rows')=(rows=rows'/\(t'=t\/(t=.new/\t'=.old))/\t'≠.brw/\(cl'=true->cl=true)):=(rfl)
@[simp] theorem f7p {x y:AC}:exV H (.c x) (.c y)=exC H x y:=(rfl)
@[simp] theorem f7q {x y:List AC}:exV H (.g x) (.g y)=exL H x y:=(rfl)
@[simp] theorem f7r {x y:List (Bool×List AC)}:exV H (.t x) (.t y)=exT H x y:=(rfl)
@[simp] theorem e2h:b0J (.raw v)=True:=by simp [b0J,a5N]
@[simp] theorem e2i:b0J (.str l)=True:=by simp [b0J,a5O]
@[simp] theorem e7B:b0J (.sl t cl rows)=(t≠.brw/\∀r∈rows,∀c∈r,a1Y c):=by simp [b0J,a4G]
@[simp] theorem e7C:b0J (.nw e sz rows)=(∀r∈rows,∀c∈r,a1Y c):=(rfl)
attribute [simp] a5N a5O a4G
@[simp] theorem e7D:VOK (.raw v)=True:=(rfl)
@[simp] theorem e7E:VOK (.str l)=True:=(rfl)
@[simp] theorem f4E:VOK (.sl t cl rows)=(∀r∈rows,∀c∈r,a6E c):=(rfl)
@[simp] theorem f4F {f:FuncId} {caps:List AC}:VOK (.fn f caps)=(∀c∈caps,c2k c):=(rfl)
@[simp] theorem f4G {row:List AC} {i:Nat}:VOK (.pv t row i)=(∀c∈row,c6m c):=(rfl)
@[simp] theorem e7F {row:List AC} {i:Nat}:c2k (.pv t row i)=(∀c∈row,c6m c):=(rfl)
@[simp] theorem e7G:c6m (.sl t cl rows)=(∀r∈rows,∀c∈r,a6E c):=(rfl)
@[simp] theorem d5U:rowsOf H (.sl t cl rows)=some rows:=(rfl)
def c8L (o:OK) (off len:Nat):Option (List (List AC)):=
 match o with
 |.arr _ _ _ rows=>if off+len<=rows.length then some ((rows.drop off).take len) else none
 |_=>none
@[simp] theorem d5V:rowsOf H (.so id off len)=c8L (H id) off len:=(rfl)
@[simp] theorem d5W {f:Bool}:c8L (.arr e sz f rows) off len=if off+len<=rows.length then some ((rows.drop off).take len) else none:=(rfl)
@[simp] theorem d5X:a2c H (.raw (.slice none 0 0))=some (.sl .brw false []):=(rfl)
@[simp] theorem d5Y:a2c H (.raw (.int k n))=some (.raw (.int k n)):=(rfl)
@[simp] theorem d2w:a2c H (.raw (.bool p))=some (.raw (.bool p)):=(rfl)
@[simp] theorem d5Z:a2c H (.str l)=some (.str l):=(rfl)
@[simp] theorem e2j:a2c H (.sl t cl rows)=some (.sl .brw false rows):=(rfl)
@[simp] theorem e2k:a2c H (.so id off len)=(rowsOf H (.so id off len)).map fun rows=>.sl .brw false rows:=(rfl)
@[simp] theorem e7H:a4n H (.g xs)=(a5m H xs).map .g:=(rfl)
@[simp] theorem e2l {f:FuncId} {caps:List AC}:a4n H (.c (.fn f caps))=(a4I H caps).map fun cs=>.c (.fn f cs):=(rfl)
def viewAt (o:OK) (i j:Nat):Option AC:=
 match o with
 |.arr _ _ _ rows=>match rows[i]? with
   |some row=>(a5m a0s row).map fun cs=>.pv .brw cs j
   |none=>none
 |_=>none
def b7x (o:Option (List AC)) (j:Nat):Option AC:=o.bind fun row=>(a5m a0s row).map fun cs=>.pv .brw cs j
@[simp] theorem d2x {row:List AC} {j:Nat}:b7x (some row) j=(a5m a0s row).map fun cs=>.pv .brw cs j:=(rfl)
@[simp] theorem e2m {i j:Nat}:a6F H (.pt id i j)=viewAt (H id) i j:=(rfl)
@[simp] theorem d6a {f:Bool} {i j:Nat}:viewAt (.arr e sz f rows) i j=b7x rows[i]? j:=by
 show (match rows[i]? with
   |some row=>(a5m a0s row).map fun cs=>AC.pv .brw cs j
   |none=>none)=_
 unfold b7x
 generalize rows[i]?=o
 cases o<;>rfl
@[simp] theorem e2n {row:List AC} {j:Nat}:a6F H (.pv t row j)=(a5m a0s row).map fun cs=>.pv .brw cs j:=(rfl)
@[simp] theorem d2y:a4I H []=some []:=(rfl)
@[simp] theorem d0u {c:AC} {r:List AC}:a4I H (c::r)=(match a6F H c,a4I H r with
  |some x,some xs=>some (x::xs)
  |_,_=>none):=(rfl)
@[simp] theorem e2o {row:List AC} {j:Nat}:a4n H (.c (.pv t row j))=(a6F H (.pv t row j)).map .c:=(rfl)
@[simp] theorem d6b:a4n H (.c (.raw v))=(a2c H (.raw v)).map .c:=(rfl)
@[simp] theorem d6c:a4n H (.c (.str l))=some (.c (.str l)):=(rfl)
@[simp] theorem e2p:a4n H (.c (.sl t cl rows))=some (.c (.sl .brw false rows)):=(rfl)
@[simp] theorem e2q:a4n H (.c (.so id off len))=(a2c H (.so id off len)).map .c:=(rfl)
@[simp] theorem e7I:AC.one H (.raw v)=v.oneCell':=(rfl)
@[simp] theorem e7J:AC.one H (.str l)=true:=(rfl)
@[simp] theorem f4H:AC.one H (.sl t cl rows)=true:=(rfl)
@[simp] theorem f4I:AC.one H (.so id off len)=(H id).live:=(rfl)
@[simp] theorem e2r {i:Nat}:resV P st (.tmp i)=some (st.s i):=(rfl)
def d6d (ti:TyI) (H:Heap) (v:AV):Option AV:=
 match v with
 |.c (.pt id i j)=>match H id with
   |.arr _ _ _ rows=>match rows[i]? with
    |some row=>if ti.ok=true then a6D ti.ag ti.sz row j else none
    |none=>none
   |_=>none
 |_=>none
def c3i (ti:TyI) (j:Nat) (o:Option (List AC)):Option AV:=o.bind fun row=>if ti.ok=true then a6D ti.ag ti.sz row j else none
@[simp] theorem d6e {ti:TyI} {j:Nat} {row:List AC}:c3i ti j (some row)=if ti.ok=true then a6D ti.ag ti.sz row j else none:=(rfl)
@[simp] theorem d6f {x:Nat} {ty:TypeId}:resV P st (.cell x ty)=d6d (tyI P ty) st.H (st.s x):=(rfl)
@[simp] theorem e2s {ti:TyI} {i j:Nat}:d6d ti H (.c (.pt id i j))=c3i ti j (d2l H id i):=by
 show (match H id with
   |.arr _ _ _ rows=>match rows[i]? with
    |some row=>if ti.ok=true then a6D ti.ag ti.sz row j else none
    |none=>none
   |_=>none)=_
 unfold c3i d2l
 generalize H id=o
 cases o with
 |arr e sz f rows=>
  simp only
  generalize rows[i]?=q
  cases q<;>rfl
 |_=>rfl
@[simp] theorem f4J {x:AC}:(AV.c x).part=some (false,[x]):=(rfl)
@[simp] theorem f4K {xs:List AC}:(AV.g xs).part=some (true,xs):=(rfl)
@[simp] theorem e2t:c2A P st []=some []:=(rfl)
@[simp] theorem d6g {r:ResultVar} {rs:List ResultVar}:c2A P st (r::rs)=(match (resV P st r).bind AV.part,c2A P st rs with
  |some p,some ps=>some (p::ps)
  |_,_=>none):=by rfl
@[simp] theorem d0v:(Value.int k n).oneCell'=true:=(rfl)
@[simp] theorem c8M:(Value.bool p).oneCell'=true:=(rfl)
@[simp] theorem d0w:(Value.slice none 0 0).oneCell'=true:=(rfl)
def onG (v:AV) (want:Bool) (y n1 n2:Prop):Prop:=
 match v with
 |.c (.raw (.bool b))=>(b=want->y)/\(b=!want->n1)
 |.c (.raw (.tuple _))=>n2
 |_=>False
@[simp] theorem d6h {y n1 n2:Prop}:onG (.c (.raw (.bool p))) true y n1 n2=c8H p y n1:=(rfl)
@[simp] theorem d6i {y n1 n2:Prop}:onG (.c (.raw (.bool p))) false y n1 n2=d2i p y n1:=(rfl)
@[simp] theorem d6j {want:Bool} {y n1 n2:Prop} {vs:Array Value}:onG (.c (.raw (.tuple vs))) want y n1 n2=n2:=(rfl)
@[congr] theorem f4L {v v':AV} {want:Bool} {y n1 n2:Prop} (h:v=v'):onG v want y n1 n2=onG v' want y n1 n2:=by rw [h]
theorem d6k {j:Nat} {want:Bool} {y n:St->Prop}:agd (some j) want st y n=onG (st.s j) want (y (st.put (some j) (.c (.raw (.bool want))))) (n (st.put (some j) (.c (.raw (.bool (!want)))))) (n st):=by
 unfold agd
 simp only
 generalize st.s j=v
 cases v with
 |c c=>cases c with
  |raw u=>cases u<;>rfl
  |_=>rfl
 |_=>rfl
@[simp] theorem e2u:undef=Value.tuple #[]:=(rfl)
attribute [congr] c6Q
attribute [simp ↓] c1i d6k c6U c95 c28 c96 c6K d5w c6L b2w c99 c6M b7v c6N c6O c6P c1j d5u c1k c3c c6R b7w b5M b5N b5O c6S c1l c3f b5P c1m go_call c6V c97 c1n d5z
attribute [simp] d0e d0f d0g d0h d0i d0j d0k d0l d0m d0n d5K d0o d0p d0q d0r c60 c61 c62 c63 e7o
end Go.AE
