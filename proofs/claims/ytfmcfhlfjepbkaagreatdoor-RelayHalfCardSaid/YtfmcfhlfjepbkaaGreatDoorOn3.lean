/- The abstract machine: how a walk goes: each operation's own equation. -/
import Derived.Test.YtfmcfhlfjepbkaaGreatDoorOn2
import Derived.Test.YtfmcfhlfjepbkaaGreatDoorProg
import Derived.KernelRfl
set_option linter.unusedVariables false
set_option linter.unusedSimpArgs false
set_option maxRecDepth 100000
set_option maxHeartbeats 4000000
namespace Go.AE
open Go
variable {P:Program}
def a7L (l:List Oper) (i:Nat):Option Nat:=(l[i]?).bind (·.dst)
def tr:Nat->Bool:=fun _=>true
theorem a1r {dst:Nat->Option Nat} {E:Nat->Eff} {A:St}:∀i,replay dst E A tr (i+1)=replay (fun i=>dst (i+1)) (fun i=>E (i+1)) ((E 0).app (dst 0) A) tr i
 |0=>rfl
 |i+1=>by
  rw [replay,a1r i,replay]
  rfl
theorem b9a {ops:Array Oper} {K:St->Prop}:∀(l:List Oper) (A:St),a3X P true ops l K A->
  ∃E:Nat->Eff,(∀i o,l[i]?=some o->a9x P ops false false [] o (replay (a7L l) E A tr i) (E i))/\K (replay (a7L l) E A tr l.length)
 |[],A,h=>⟨fun _=>a9r (.c .a29),fun i o h=>by simp at h,h⟩
 |o::l,A,h=>by
  rw [b48] at h
  obtain ⟨e,he,h⟩:=b5a h
  obtain ⟨E',h1,h2⟩:=b9a l _ h
  refine ⟨fun i=>match i with|0=>e|i+1=>E' i,fun i o' hi=>?_,?_⟩
  ·cases i with
   |zero=>
    rw [List.getElem?_cons_zero] at hi
    cases hi
    exact he
   |succ i=>
    rw [List.getElem?_cons_succ] at hi
    rw [a1r]
    exact h1 i o' hi
  ·rw [List.length_cons,a1r]
   exact h2
def d9M (W:List (Nat×Id)) (i:Nat):List Id:=(W.filter (·.1==i)).map (·.2)
theorem a8V {W:List (Nat×Id)} {i:Nat} {id:Id}:id∈d9M W i↔(i,id)∈W:=by
 unfold d9M
 simp only [List.mem_map,List.mem_filter,beq_iff_eq]
 constructor
 ·rintro ⟨⟨a,b⟩,⟨h1,h2⟩,h3⟩
  simp only at h2 h3
  subst h2 h3
  exact h1
 ·intro h
  exact ⟨(i,id),⟨h,rfl⟩,rfl⟩
theorem a7i {ops:Array Oper} {js:List Nat} {prs:List (Nat×Nat)} {K:List (Nat×Id)->List (Nat×AV)->St->Prop}:∀(l:List Oper) (i0:Nat) (W0:List (Nat×Id)) (N0:List (Nat×AV)) (A:St),c1H P ops js prs l i0 W0 N0 K A->
  ∃(E:Nat->Eff) (W:List (Nat×Id)) (N:List (Nat×AV)),(∀i o,l[i]?=some o->a9x P ops (prs.contains (i0+i,i0+i)) (js.contains (i0+i)) (d9M W (i0+i)) o (replay (a7L l) E A tr i) (E i))/\
   (∀i o,l[i]?=some o->prs.any (·.2==i0+i)=true->∀x∈o.op.operands.toList,(i0+i,(replay (a7L l) E A tr i).eval x)∈N)/\
   (∀x∈W0,x∈W)/\(∀x∈N0,x∈N)/\(∀x∈W,x∈W0\/js.contains x.1=true)/\K W N (replay (a7L l) E A tr l.length)
 |[],i0,W0,N0,A,h=>⟨fun _=>a9r (.c .a29),W0,N0,fun i o h=>by simp at h,fun i o h=>by simp at h,fun _ h=>h,fun _ h=>h,fun _ h=>.inl h,h⟩
 |o::l,i0,W0,N0,A,h=>by
  unfold c1H at h
  have hN:∀(N1:List (Nat×AV)),(∀x∈(if prs.any (·.2==i0)=true then a3q i0 o.op A++N0 else N0),x∈N1)->(prs.any (·.2==i0)=true->∀x∈o.op.operands.toList,(i0,A.eval x)∈N1)/\∀x∈N0,x∈N1:=fun N1 hs=>by
   refine ⟨fun hc x hx=>hs _ ?_,fun x hx=>hs x ?_⟩
   ·rw [if_pos hc]
    exact List.mem_append.2 (.inl (List.mem_map.2 ⟨x,hx,rfl⟩))
   ·split
    ·exact List.mem_append.2 (.inr hx)
    ·exact hx
  by_cases hp:prs.contains (i0,i0)=true
  ·rw [if_pos hp] at h
   obtain ⟨e,he,h⟩:=c1W (ops:=ops) (dc:=js.contains i0) (W:=[]) h
   obtain ⟨E',W,N,h1,h2,h3,h4,h7,h5⟩:=a7i l _ _ _ _ h
   obtain ⟨n1,n2⟩:=hN _ h4
   refine ⟨fun i=>match i with|0=>e|i+1=>E' i,W,N,fun i o' hi=>?_,fun i o' hi hc=>?_,h3,n2,h7,?_⟩
   ·cases i with
    |zero=>
     rw [List.getElem?_cons_zero] at hi
     cases hi
     rw [Nat.add_zero,hp]
     exact he.mono (by simp)
    |succ i=>
     rw [List.getElem?_cons_succ] at hi
     rw [a1r,show i0+(i+1)=i0+1+i by omega]
     exact h1 i o' hi
   ·cases i with
    |zero=>
     rw [List.getElem?_cons_zero] at hi
     cases hi
     exact n1 hc
    |succ i=>
     rw [List.getElem?_cons_succ] at hi
     rw [a1r]
     rw [show i0+(i+1)=i0+1+i by omega] at hc ⊢
     exact h2 i o' hi hc
   ·rw [List.length_cons,a1r]
    exact h5
  rw [if_neg hp] at h
  by_cases hj:js.contains i0=true
  ·rw [if_pos hj] at h
   obtain ⟨e,W',he,h⟩:=c1X (ops:=ops) h
   obtain ⟨E',W,N,h1,h2,h3,h4,h7,h5⟩:=a7i l _ _ _ _ h
   obtain ⟨n1,n2⟩:=hN _ h4
   refine ⟨fun i=>match i with|0=>e|i+1=>E' i,W,N,fun i o' hi=>?_,fun i o' hi hc=>?_,fun x hx=>h3 x (List.mem_append.2 (.inr hx)),n2,fun x hx=>?_,?_⟩
   ·cases i with
    |zero=>
     rw [List.getElem?_cons_zero] at hi
     cases hi
     rw [Nat.add_zero,show prs.contains (i0,i0)=false by simpa using hp,hj]
     exact he.mono fun id hid=>a8V.2 (h3 _ (List.mem_append.2 (.inl (List.mem_map.2 ⟨id,hid,rfl⟩))))
    |succ i=>
     rw [List.getElem?_cons_succ] at hi
     rw [a1r,show i0+(i+1)=i0+1+i by omega]
     exact h1 i o' hi
   ·cases i with
    |zero=>
     rw [List.getElem?_cons_zero] at hi
     cases hi
     exact n1 hc
    |succ i=>
     rw [List.getElem?_cons_succ] at hi
     rw [a1r]
     rw [show i0+(i+1)=i0+1+i by omega] at hc ⊢
     exact h2 i o' hi hc
   ·rcases h7 x hx with h|h
    ·rw [List.mem_append] at h
     rcases h with h|h
     ·rw [List.mem_map] at h
      obtain ⟨id,_,rfl⟩:=h
      exact .inr hj
     ·exact .inl h
    ·exact .inr h
   ·rw [List.length_cons,a1r]
    exact h5
  ·rw [if_neg hj] at h
   obtain ⟨e,he,h⟩:=b5a h
   obtain ⟨E',W,N,h1,h2,h3,h4,h7,h5⟩:=a7i l _ _ _ _ h
   obtain ⟨n1,n2⟩:=hN _ h4
   refine ⟨fun i=>match i with|0=>e|i+1=>E' i,W,N,fun i o' hi=>?_,fun i o' hi hc=>?_,h3,n2,h7,?_⟩
   ·cases i with
    |zero=>
     rw [List.getElem?_cons_zero] at hi
     cases hi
     rw [Nat.add_zero,show prs.contains (i0,i0)=false by simpa using hp,show js.contains i0=false by simpa using hj]
     exact he.mono (by simp)
    |succ i=>
     rw [List.getElem?_cons_succ] at hi
     rw [a1r,show i0+(i+1)=i0+1+i by omega]
     exact h1 i o' hi
   ·cases i with
    |zero=>
     rw [List.getElem?_cons_zero] at hi
     cases hi
     exact n1 hc
    |succ i=>
     rw [List.getElem?_cons_succ] at hi
     rw [a1r]
     rw [show i0+(i+1)=i0+1+i by omega] at hc ⊢
     exact h2 i o' hi hc
   ·rw [List.length_cons,a1r]
    exact h5
theorem c12 {A B:St} {x:Operand} (h:∀t,x=.tmp t->B.s t=A.s t):B.eval x=A.eval x:=by
 cases x<;>first|exact h _ rfl|rfl
theorem b5c {α:Type} {p q:α->Bool} {i:α}:∀{l:List α},i∈l->(∀j,p j=true->q j=true)->q i=true->p i=false->l.countP p<l.countP q
 |[],h,_,_,_=>by simp at h
 |x::l,h,hpq,h1,h2=>by
  have hle:l.countP p<=l.countP q:=List.countP_mono_left fun j _ hj=>hpq j hj
  by_cases e:i=x
  ·subst e
   rw [List.countP_cons_of_pos h1,List.countP_cons_of_neg (by simp [h2])]
   omega
  ·have hm:i∈l:=by
    rcases List.mem_cons.1 h with h|h
    ·exact (e h).elim
    ·exact h
   have ih:=b5c hm hpq h1 h2
   by_cases hp:p x=true
   ·rw [List.countP_cons_of_pos hp,List.countP_cons_of_pos (hpq x hp)];omega
   ·rw [List.countP_cons_of_neg hp]
    by_cases hq:q x=true
    ·rw [List.countP_cons_of_pos hq];omega
    ·rw [List.countP_cons_of_neg hq];omega
theorem c5D {ops:Array Oper} {n:Nat} {C:Ctx P} {K:St->Prop} {Q:Exit->Act->World->Prop} {st:St} (hc:c8R ops) (hd:a8y n ops.toList=true)
  (hQ:∀a w,a2a C n K a w->Q .normal a w) {E:Nat->Eff} {js:List Nat} {Wf:Nat->List Id} {os:Nat->Bool}
  (hO:∀i k,i<ops.size->k<ops.size->os i=true->k≠i->Anc ops i k\/Anc ops k i)
  (hE:∀i o,ops[i]?=some o->a9x P ops (os i) (js.contains i) (Wf i) o (replay (a7L ops.toList) E st tr i) (E i))
  (hH:∀(j k:Nat) (o o':Oper),ops[j]?=some o->ops[k]?=some o'->j≠k->js.contains j=false->writer o.op=true->hfree o'.op=false->Anc ops j k\/Anc ops k j)
  (hD:∀(j k:Nat) (o o':Oper),ops[j]?=some o->ops[k]?=some o'->j≠k->hfree o'.op=false->∀id∈Wf j,(∀x∈o'.op.operands.toList,¬idV id ((replay (a7L ops.toList) E st tr k).eval x))\/Anc ops j k\/Anc ops k j)
  (hW:∀j,∀id∈Wf j,id.1≠st.T) (hK:K (replay (a7L ops.toList) E st tr ops.size)) :
  ∀(fuel:Nat) (listed:Array Bool) (ρ:Lies) (a:Act) (w:World),listed.size=ops.size->((List.range ops.size).countP fun j=>!listed.getD j false)<=fuel->Closed ops (fun j=>listed.getD j false)->a.tmps.size=n->
   Rel C ρ (replay (a7L ops.toList) E st (fun j=>listed.getD j false) ops.size) a w->wpAny P .any ops Q fuel listed a w:=by
 have dstE:∀j o,ops[j]?=some o->a7L ops.toList j=o.dst:=fun j o h=>by simp [a7L,h]
 have e4g:∀j d,a7L ops.toList j=some d->∃o,ops[j]?=some o/\o.dst=some d:=fun j d h=>by
  unfold a7L at h
  cases ho:ops[j]? with
  |none=>simp [ho] at h
  |some o=>exact ⟨o,rfl,by simpa [ho] using h⟩
 have done:∀(listed:Array Bool) (ρ:Lies) (a:Act) (w:World),(∀j,j<ops.size->listed.getD j false=true)->a.tmps.size=n->Rel C ρ (replay (a7L ops.toList) E st (fun j=>listed.getD j false) ops.size) a w->Q .normal a w:=fun listed ρ a w hall ha hr=>by
  refine hQ a w ⟨ha,ρ,_,hr,?_⟩
  rw [a3h (S':=tr) fun j hj=>hall j hj]
  exact hK
 have c1s:∀(listed:Array Bool),listed.size=ops.size->Region.ready .any ops listed=[]->∀j,j<ops.size->listed.getD j false=true:=fun listed hsz hr j=>by
  induction j using Nat.strongRecOn with
  |_ j ih=>
   intro hj
   cases h:listed.getD j false with
   |true=>rfl
   |false=>
    have hm:j∈Region.ready .any ops listed:=by
     rw [mem_ready]
     have hjl:j<listed.size:=by omega
     refine ⟨?_,ops[j],by simp [hj],fun e he hb=>?_⟩
     ·rw [Array.getD_eq_getD_getElem?] at h ⊢
      rw [Array.getElem?_eq_getElem hjl] at h ⊢
      exact h
     ·have hlt:=hc.lt j ops[j] e (by simp [hj]) he hb
      exact ih e.on hlt (by omega)
    rw [hr] at hm
    cases hm
 intro fuel
 induction fuel with
 |zero=>
  intro listed ρ a w hsz hcnt hcl ha hr
  have hall:∀j,j<ops.size->listed.getD j false=true:=fun j hj=>by
   have:(List.range ops.size).countP (fun j=>!listed.getD j false)=0:=by omega
   rw [List.countP_eq_zero] at this
   have:=this j (by simpa using hj)
   simpa using this
  refine ⟨?_,done listed ρ a w hall ha hr⟩
  cases hrd:Region.ready .any ops listed with
  |nil=>rfl
  |cons i r=>
   have hm:i∈Region.ready .any ops listed:=by rw [hrd];simp
   rw [mem_ready] at hm
   obtain ⟨h1,o,ho,_⟩:=hm
   have hi:i<ops.size:=(Array.getElem?_eq_some_iff.1 ho).1
   have:=hall i hi
   rw [Array.getD_eq_getD_getElem?,Array.getElem?_eq_getElem (by omega)] at h1 this
   simp only [Option.getD_some] at h1 this
   rw [h1] at this
   cases this
 |succ fuel ih=>
  intro listed ρ a w hsz hcnt hcl ha hr
  refine ⟨fun hrd=>done listed ρ a w (c1s listed hsz hrd) ha hr,fun i hi=>?_⟩
  rw [mem_ready] at hi
  obtain ⟨hi0,o,ho,c43⟩:=hi
  have hin:i<ops.size:=(Array.getElem?_eq_some_iff.1 ho).1
  have hil:i<listed.size:=by omega
  have hiF:listed.getD i false=false:=by
   rw [Array.getD_eq_getD_getElem?,Array.getElem?_eq_getElem hil] at hi0 ⊢
   exact hi0
  have e4h:∀k,Anc ops i k->listed.getD k false=true:=fun k hk=>hk.mem hcl fun o' e ho' he hb=>by
   rw [ho] at ho';cases ho'
   exact c43 e he hb
  have d9G:∀k,Anc ops k i->listed.getD k false=false:=fun k hk=>by
   cases h:listed.getD k false with
   |false=>rfl
   |true=>
    have:=hk.mem hcl fun o' e ho' he hb=>hcl k o' e h ho' he hb
    rw [hiF] at this
    cases this
  have hei:=hE i o ho
  have hDi:=fun (j:Nat) (o':Oper) (ho':ops[j]?=some o')=>hD j i o' o ho' ho
  have f1k:∀{d:Option Nat} {id:Id},b6Q d st.T id->id.1=st.T:=fun ⟨_,_,h,_⟩=>h
  generalize hA:replay (a7L ops.toList) E st tr i=Ai at hei hDi
  generalize hB:replay (a7L ops.toList) E st (fun j=>listed.getD j false) ops.size=B at hr
  have hAi:Ai=replay (a7L ops.toList) E st (fun j=>decide (j<i)) ops.size:=by
   rw [<-hA]
   have:∀m,i<=m->replay (a7L ops.toList) E st (fun j=>decide (j<i)) m=replay (a7L ops.toList) E st tr i:=fun m hm=>by
    induction m with
    |zero=>
     have:i=0:=by omega
     subst this;rfl
    |succ m ihm=>
     by_cases e:i=m+1
     ·rw [e]
      refine a3h fun j hj=>?_
      simp [tr,hj]
     ·have hm':i<=m:=by omega
      rw [replay,if_neg (by simpa using hm')]
      exact ihm hm'
   exact (this ops.size (by omega)).symm
  have hEs:∀j,j<ops.size->∃o',ops[j]?=some o':=fun j hj=>⟨ops[j],by simp [hj]⟩
  have f7y:∀j,j<ops.size->∀id ob,(E j).N id=some ob->ob≠.a0h:=fun j hj id ob h=>by
   obtain ⟨o',ho'⟩:=hEs j hj
   exact ((hE j o' ho').own id ob h).1
  have unb:∀(S:Nat->Bool) (m:Nat),m<=ops.size->∀id,(replay (a7L ops.toList) E st S m).H id=.a0h->st.H id=.a0h/\∀j,j<m->S j=true->(E j).N id=none:=fun S m=>by
   induction m with
   |zero=>intro _ id h;exact ⟨h,fun j hj=>by omega⟩
   |succ m ihm=>
    intro hm id h
    unfold replay at h
    split at h
    ·rename_i hs
     rw [c1Y] at h
     cases hn:(E m).N id with
     |some ob=>rw [hn] at h;exact (f7y m (by omega) id ob hn h).elim
     |none=>
      rw [hn] at h
      obtain ⟨h1,h2⟩:=ihm (by omega) id h
      refine ⟨h1,fun j hj hsj=>?_⟩
      by_cases e:j=m
      ·subst e;exact hn
      ·exact h2 j (by omega) hsj
    ·rename_i hs
     obtain ⟨h1,h2⟩:=ihm (by omega) id h
     refine ⟨h1,fun j hj hsj=>?_⟩
     by_cases e:j=m
     ·subst e;exact (hs hsj).elim
     ·exact h2 j (by omega) hsj
  have b8U:∀j o',ops[j]?=some o'->∀id,(E j).N id≠none->hfree o'.op=false:=fun j o' ho' id h=>by
   cases hf:hfree o'.op with
   |false=>rfl
   |true=>exact (h ((hE j o' ho').free hf id)).elim
  have T0:∀m,(replay (a7L ops.toList) E st tr m).T=st.T:=fun m=>a7f tr m
  have b6v:∀(j k:Nat) (o' o'':Oper) (id:Id),ops[j]?=some o'->ops[k]?=some o''->b6Q o'.dst st.T id->b6Q o''.dst st.T id->j=k:=fun j k o' o'' id hj hk h1 h2=>by
   by_cases e:j=k
   ·exact e
   ·have:=c5C h1 h2 (fun n hn=>hc.small j o' n hj hn) (fun n hn=>hc.small k o'' n hk hn)
    obtain ⟨d,hd1,_⟩:=h2
    exact (hc.dst j k o' o'' d hj hk e hd1 (this.trans hd1)).elim
  have apart:∀k,i<k->listed.getD k false=true->∀id,(E i).N id≠none->(E k).N id=none:=fun k hik hk id hni=>by
   cases hnk:(E k).N id with
   |none=>rfl
   |some ob=>
    have hkn:k<ops.size:=by
     rcases Nat.lt_or_ge k ops.size with h|h
     ·exact h
     ·rw [Array.getD_eq_getD_getElem?,Array.getElem?_eq_none (by omega)] at hk
      cases hk
    obtain ⟨o',ho'⟩:=hEs k hkn
    obtain ⟨ob',f7z⟩:=Option.ne_none_iff_exists'.1 hni
    have f1:=b8U i o ho id hni
    have f2:=b8U k o' ho' id (by rw [hnk];simp)
    have cmp:(Anc ops i k\/Anc ops k i)->False:=fun h=>by
     rcases h with h|h
     ·have:=h.lt hc;omega
     ·have:=d9G k h
      rw [hk] at this
      cases this
    have hne:i≠k:=by omega
    have hAT:Ai.T=st.T:=by rw [<-hA];exact T0 i
    rcases (hei.own id ob' f7z).2 with ⟨q1,_⟩|⟨⟨qd,q1⟩|⟨q1,_⟩,_⟩
    ·rw [hAT] at q1
     rcases ((hE k o' ho').own id ob hnk).2 with ⟨r1,_⟩|⟨⟨rd,r1⟩|⟨r1,_⟩,_⟩
     ·rw [T0 k] at r1
      exact (hne (b6v i k o o' id ho ho' q1 r1)).elim
     ·exact (cmp ((hH k i o' o ho' ho (fun e=>hne e.symm) rd r1 f1).symm)).elim
     ·exact (hW k id r1 (f1k q1)).elim
    ·exact (cmp (hH i k o o' ho ho' hne qd q1 f2)).elim
    ·rcases ((hE k o' ho').own id ob hnk).2 with ⟨r1,_⟩|⟨⟨rd,r1⟩|⟨r1,x,hx,hi⟩,_⟩
     ·rw [T0 k] at r1
      exact (hW i id q1 (f1k r1)).elim
     ·exact (cmp ((hH k i o' o ho' ho (fun e=>hne e.symm) rd r1 f1).symm)).elim
     ·rcases hD i k o o' ho ho' hne f2 id q1 with h|h
      ·exact (h x hx hi).elim
      ·exact (cmp h).elim
  have hnext:replay (a7L ops.toList) E st (fun j=>(listed.setIfInBounds i true).getD j false) ops.size=(E i).app o.dst B:=by
   rw [<-hB,<-dstE i o ho]
   refine a7g hiF (fun j=>?_) (fun k t hk hdi hdk=>?_) apart hin
   ·simp only [Array.getD_eq_getD_getElem?,Array.getElem?_setIfInBounds]
    by_cases e:j=i
    ·subst e;simp [hil]
    ·have e':¬i=j:=fun h=>e h.symm
     simp [e,e']
   ·obtain ⟨o1,ho1,hd1⟩:=e4g i t hdi
    obtain ⟨o2,ho2,hd2⟩:=e4g k t hdk
    exact hc.dst k i o2 o1 t ho2 ho1 hk hd1 hd2
  have slots:∀t,t∈o.looksAt ops->B.s t=Ai.s t:=fun t ht=>by
   rw [<-hB,hAi]
   by_cases hex:∃k,k<ops.size/\k≠i/\a7L ops.toList k=some t
   ·obtain ⟨k,hk,hki,hdk⟩:=hex
    obtain ⟨o',ho',hd'⟩:=e4g k t hdk
    have uniq:∀m,m<ops.size->m≠k->a7L ops.toList m≠some t:=fun m hm hmk hdm=>by
     obtain ⟨o'',d9H,hd''⟩:=e4g m t hdm
     exact hc.dst m k o'' o' t d9H ho' hmk hd' hd''
    rcases hc.look i k o o' t ho ho' (fun e=>hki e.symm) hd' ht with h|h
    ·have h1:=h.lt hc
     rw [a56 (j:=k) hk (e4h k h) hdk uniq,a56 (j:=k) hk (by simp [h1]) hdk uniq]
    ·have h1:=h.lt hc
     have h2:=d9G k h
     rw [a3C fun j hj hs hdj=>?_,a3C fun j hj hs hdj=>?_]
     ·by_cases e:j=k
      ·subst e
       have:j<i:=by simpa using hs
       omega
      ·exact uniq j hj e hdj
     ·by_cases e:j=k
      ·subst e
       rw [h2] at hs;cases hs
      ·exact uniq j hj e hdj
   ·rw [a3C fun j hj hs hdj=>?_,a3C fun j hj hs hdj=>?_]
    ·by_cases e:j=i
     ·subst e
      have:j<j:=by simp at hs
      omega
     ·exact hex ⟨j,hj,e,hdj⟩
    ·by_cases e:j=i
     ·subst e
      rw [hiF] at hs;cases hs
     ·exact hex ⟨j,hj,e,hdj⟩
  have hBT:B.T=Ai.T:=by rw [<-hB,<-hA,a7f,a7f]
  have evs:∀x∈o.op.operands.toList,B.eval x=Ai.eval x:=fun x hx=>c12 fun t e=>slots t (c11 (by rw [<-e];exact hx))
  have alike:Alike o.op Ai B:=by
   refine ⟨hBT,evs,fun hf x hx id hid hu=>?_⟩
   have hbB:B.H id≠.a0h:=(hr.eval x).born (by rw [evs x hx];exact hid)
   rw [<-hB] at hbB ⊢
   rw [hAi] at hu ⊢
   refine a9y fun j hj hn=>?_
   by_cases e:j=i
   ·subst e
    rw [hiF];simp
   ·obtain ⟨o',ho'⟩:=hEs j hj
    have hf':=b8U j o' ho' id hn
    obtain ⟨ob,hob⟩:=Option.ne_none_iff_exists'.1 hn
    rcases ((hE j o' ho').own id ob hob).2 with ⟨q1,q2⟩|⟨⟨qd,q1⟩|⟨q1,_⟩,q2⟩
    ·rw [T0 j] at q1
     obtain ⟨u1,u2⟩:=unb tr j (by omega) id q2
     have hji:j<i:=by
      rcases Nat.lt_or_ge j i with h|h
      ·exact h
      ·exfalso
       apply hu
       rw [a1R fun k hk hs=>u2 k (by have:k<i:=(by simpa using hs);omega) rfl]
       exact u1
     have hjS:listed.getD j false=true:=by
      by_cases hex:∃k,k<ops.size/\listed.getD k false=true/\(E k).N id≠none
      ·obtain ⟨k,hk,hks,hkn⟩:=hex
       by_cases ekj:k=j
       ·rw [<-ekj];exact hks
       ·obtain ⟨o'',d9H⟩:=hEs k hk
        obtain ⟨ob2,f7A⟩:=Option.ne_none_iff_exists'.1 hkn
        rcases ((hE k o'' d9H).own id ob2 f7A).2 with ⟨r1,_⟩|⟨⟨rd,r1⟩|⟨r1,_⟩,r2⟩
        ·rw [T0 k] at r1
         exact (ekj (b6v k j o'' o' id d9H ho' r1 q1)).elim
        ·rcases hH k j o'' o' d9H ho' ekj rd r1 hf' with h|h
         ·exact h.mem hcl fun o3 e3 ho3 he3 hb3=>hcl k o3 e3 hks ho3 he3 hb3
         ·have hkj:=h.lt hc
          exfalso
          apply r2
          rw [a1R fun m hm hs=>u2 m (by omega) rfl]
          exact u1
        ·exact (hW k id r1 (f1k q1)).elim
      ·exfalso
       apply hbB
       rw [a1R fun m hm hs=>?_]
       ·exact u1
       ·by_cases hnn:(E m).N id=none
        ·exact hnn
        ·exact (hex ⟨m,hm,hs,hnn⟩).elim
     rw [hjS];simp [hji]
    ·rcases hH j i o' o ho' ho e qd q1 hf with h|h
     ·have:=h.lt hc
      rw [d9G j h]
      have:¬j<i:=by omega
      simp [this]
     ·have:=h.lt hc
      rw [e4h j h];simp [this]
    ·rcases hDi j o' ho' e hf id q1 with h|h|h
     ·exact (h x hx hid).elim
     ·have:=h.lt hc
      rw [d9G j h]
      have:¬j<i:=by omega
      simp [this]
     ·have:=h.lt hc
      rw [e4h j h];simp [this]
  have fresh:∀id,(E i).N id≠none->Ai.H id=.a0h->B.H id=.a0h:=fun id hn hu=>by
   rw [<-hA] at hu
   obtain ⟨u1,u2⟩:=unb tr i (by omega) id hu
   rw [<-hB,a1R fun k hk hs=>?_]
   ·exact u1
   ·rcases Nat.lt_or_ge k i with h|h
    ·exact u2 k h rfl
    ·by_cases e:k=i
     ·subst e;rw [hiF] at hs;cases hs
     ·exact apart k (by omega) hs id hn
  have f1l:os i=true->B=Ai:=fun hos=>by
   rw [<-hB,hAi]
   refine a3h fun j hj=>?_
   by_cases e:j=i
   ·subst e;rw [hiF];simp
   ·rcases hO i j hin hj hos e with h|h
    ·have:=h.lt hc
     rw [e4h j h];simp [this]
    ·have:=h.lt hc
     rw [d9G j h]
     have:¬j<i:=by omega
     simp [this]
  have hgo:=hei.go B f1l alike (fun j want d hg hd=>slots d (b60 hg hd)) fresh
  have hdd:∀d,o.dst=some d->d<a.tmps.size:=fun d hd'=>by
   have:=List.all_eq_true.1 hd o (by simpa using Array.mem_of_getElem? ho)
   rw [hd'] at this
   rw [ha]
   simpa using this
  refine wpOp_mono (fun a' w' h=>?_) (b49 ho hr hdd hgo)
  obtain ⟨g1,ρ',st',g2,g3⟩:=h
  subst g3
  rw [<-hnext] at g2
  refine ih _ ρ' a' w' (by simpa using hsz) ?_ ?_ (g1.trans ha) g2
  ·have hlt:(List.range ops.size).countP (fun j=>!(listed.setIfInBounds i true).getD j false)<(List.range ops.size).countP (fun j=>!listed.getD j false):=by
    refine b5c (i:=i) (by simpa using hin) (fun j hj=>?_) (by simp only [hiF,Bool.not_false]) ?_
    ·simp only [Array.getD_eq_getD_getElem?,Array.getElem?_setIfInBounds] at hj ⊢
     by_cases e:i=j
     ·subst e;simp [hil] at hj
     ·rw [if_neg e] at hj;exact hj
    ·simp [hil]
   omega
  ·intro j o' e hj ho' he hb
   simp only at hj ⊢
   have get:∀k,(listed.setIfInBounds i true).getD k false=(listed.getD k false||decide (k=i)):=fun k=>by
    simp only [Array.getD_eq_getD_getElem?,Array.getElem?_setIfInBounds]
    by_cases e:k=i
    ·subst e;simp [hil]
    ·have e':¬i=k:=fun h=>e h.symm
     simp [e,e']
   rw [get] at hj ⊢
   rw [Bool.or_eq_true] at hj ⊢
   rcases hj with hj|hj
   ·exact .inl (hcl j o' e hj ho' he hb)
   ·have:j=i:=by simpa using hj
    subst this
    rw [ho] at ho';cases ho'
    exact .inl (c43 e he hb)
theorem a2v.draw {C:Ctx P} {H:Heap} {ρ:Lies} {w:World} (h:a2v C H ρ w):a2v C H ρ {w with drawn:=w.drawn+1}:=by
 have hk:a1T w {w with drawn:=w.drawn+1} (Fr C H ρ) (Fr C H ρ) H H ρ ρ:=⟨Nat.le_refl _,fun _ _ h _=>⟨h,rfl⟩,fun _ h=>⟨h,fun l=>⟨l,rfl⟩⟩⟩
 refine ⟨h.below.drew,fun id e sz frz rows hi=>?_,h.inj,h.fin,h.maps.keep (ρ':=ρ) ⟨Nat.le_refl _,fun _ _ hf _=>⟨hf,rfl⟩,fun _ hi=>⟨hi,fun l=>⟨l,rfl⟩⟩⟩ (fun id ag es q=>⟨q,rfl,fun _ _ _ _=>rfl⟩) (fun id b c s q l=>by rw [q] at l;cases l) fun _ _=>rfl⟩
 obtain ⟨r1,r2⟩:=h.row id e sz frz rows hi
 refine ⟨r1,r2.imp_right fun ⟨b,cap,cur,q1,q2,q3,q4,q5,q6,q7⟩=>⟨b,cap,cur,q1,q2,q3,q4,q5,q6,fun i j r c hr hc=>?_⟩⟩
 obtain ⟨v,v1,v2,v3⟩:=q7 i j r c hr hc
 exact ⟨v,v1,v2,v3.keep hk⟩
theorem Rel.draw {C:Ctx P} {ρ:Lies} {st:St} {a:Act} {w:World} (h:Rel C ρ st a w):Rel C ρ st a {w with drawn:=w.drawn+1}:=by
 have hk:a1T w {w with drawn:=w.drawn+1} (Fr C st.H ρ) (Fr C st.H ρ) st.H st.H ρ ρ:=⟨Nat.le_refl _,fun _ _ h _=>⟨h,rfl⟩,fun _ h=>⟨h,fun l=>⟨l,rfl⟩⟩⟩
 exact ⟨h.heap.draw,fun t=>(h.slot t).keep hk,h.a7K,C.b4B hk h.ghost,h.nf⟩
theorem c13 {ops:Array Oper} {js:List Nat} {prs:List (Nat×Nat)} (h:dOK ops js prs=true):∀(j k:Nat) (o o':Oper),ops[j]?=some o->ops[k]?=some o'->j≠k->js.contains j=true\/writer o.op=true->hfree o'.op=false->
  (js.contains j=true/\(j,k)∈prs)\/Anc ops j k\/Anc ops k j:=by
 unfold dOK at h
 simp only at h
 intro j k o o' hj hk hne hw hf
 have c8F:=a7h (ops:=ops) ops.toList [] (fun j k h=>by simp at h) (fun i=>by simp)
 have h1:=List.all_eq_true.1 h (o,j) (by rw [List.mem_zipIdx_iff_getElem?];simpa using hj)
 rw [Bool.and_eq_true] at h1
 have h2:=h1.2
 have hw':(js.contains j||writer o.op)=true:=by rcases hw with e|e<;>rw [e]<;>simp
 simp only [hw',Bool.not_true,Bool.false_or] at h2
 have h3:=List.all_eq_true.1 h2 (o',k) (by rw [List.mem_zipIdx_iff_getElem?];simpa using hk)
 simp only [Bool.or_eq_true,beq_iff_eq,hf,Bool.false_eq_true,or_false,Bool.and_eq_true] at h3
 rcases h3 with (h|h|h)|h
 ·exact (hne h).elim
 ·exact .inr (.inl (c8F _ _ h))
 ·exact .inr (.inr (c8F _ _ h))
 ·exact .inl ⟨h.1,by simpa using h.2⟩
theorem c8T {ops:Array Oper} {js:List Nat} {prs:List (Nat×Nat)} (h:dOK ops js prs=true) (i k:Nat) (hi:i<ops.size) (hk:k<ops.size) (hp:prs.contains (i,i)=true) (hne:k≠i):Anc ops i k\/Anc ops k i:=by
 unfold dOK at h
 simp only at h
 have c8F:=a7h (ops:=ops) ops.toList [] (fun j k h=>by simp at h) (fun i=>by simp)
 have h1:=List.all_eq_true.1 h (ops[i],i) (by rw [List.mem_zipIdx_iff_getElem?];simp [hi])
 rw [Bool.and_eq_true,Bool.and_eq_true] at h1
 have h2:=h1.1.2
 simp only [hp,Bool.not_true,Bool.false_or] at h2
 have h3:=List.all_eq_true.1 h2 (ops[k],k) (by rw [List.mem_zipIdx_iff_getElem?];simp [hk])
 simp only [Bool.or_eq_true,beq_iff_eq] at h3
 rcases h3 with h|h|h
 ·exact (hne h.symm).elim
 ·exact .inl (c8F _ _ h)
 ·exact .inr (c8F _ _ h)
theorem a9z (hm:P.follows .mixedOrders=true):c1O P a0m:=by
 intro C n ops id K Q ρ st a w hcalm hd ha hr hQ hp hk
 have hc:=c8S hcalm
 have core:∀{E:Nat->Eff} {js:List Nat} {Wf:Nat->List Id} {os:Nat->Bool},
   (∀i k,i<ops.size->k<ops.size->os i=true->k≠i->Anc ops i k\/Anc ops k i)->
   (∀i o,ops[i]?=some o->a9x P ops (os i) (js.contains i) (Wf i) o (replay (a7L ops.toList) E st tr i) (E i))->
   (∀(j k:Nat) (o o':Oper),ops[j]?=some o->ops[k]?=some o'->j≠k->js.contains j=false->writer o.op=true->hfree o'.op=false->Anc ops j k\/Anc ops k j)->
   (∀(j k:Nat) (o o':Oper),ops[j]?=some o->ops[k]?=some o'->j≠k->hfree o'.op=false->∀id∈Wf j,(∀x∈o'.op.operands.toList,¬idV id ((replay (a7L ops.toList) E st tr k).eval x))\/Anc ops j k\/Anc ops k j)->
   (∀j,∀id∈Wf j,id.1≠st.T)->
   K (replay (a7L ops.toList) E st tr ops.size)->(Code.region id ops true).wp P Q a w:=fun {E js Wf os} hO hE hH hD hW h2=>by
  refine wp_region_any hm (c5D hc hd hQ hO hE hH hD hW h2 ops.size _ ρ a _ (by simp) ?_ ?_ ha ?_)
  ·exact Nat.le_trans List.countP_le_length (by simp)
  ·intro j o e hj ho he hb
   simp only [Array.getD_eq_getD_getElem?,Array.getElem?_replicate] at hj
   split at hj<;>cases hj
  ·rw [a3h (S':=fun _=>false) fun j hj=>by simp [Array.getD_eq_getD_getElem?,Array.getElem?_replicate,hj]]
   have:∀m,replay (a7L ops.toList) E st (fun _=>false) m=st:=fun m=>by
    induction m with
    |zero=>rfl
    |succ m ih=>rw [replay];simpa using ih
   rw [this]
   exact hr.draw
 rcases hk with ⟨hk,hh⟩|⟨_,js,prs,hdk,hk⟩
 ·obtain ⟨E,h1,h2⟩:=b9a ops.toList st hk
  refine core (js:=[]) (Wf:=fun _=>[]) (os:=fun _=>false) (fun _ _ _ _ h=>by cases h) (fun i o ho=>?_) (fun j k o o' hj hk' hne _ hw hf=>?_) (fun j k o o' _ _ _ _ id h=>by simp at h) (fun j id h=>by simp at h) (by simpa using h2)
  ·exact h1 i o (by simpa using ho)
  ·rcases c13 (hh rfl) j k o o' hj hk' hne (.inr hw) hf with h|h
   ·simp at h
   ·exact h
 ·obtain ⟨E,W,N,h1,h2,_,_,h7,h5,h6⟩:=a7i ops.toList 0 [] [] st hk
  refine core (js:=js) (Wf:=d9M W) (os:=fun i=>prs.contains (i,i)) (fun i k hi hk hp hne=>c8T hdk i k hi hk hp hne) (fun i o ho=>?_) (fun j k o o' hj hk' hne hjs hw hf=>?_) (fun j k o o' hj hk' hne hf id hid=>?_) (fun j id hid=>(h5 _ (a8V.1 hid)).1) (by simpa using h6)
  ·have:=h1 i o (by simpa using ho)
   rw [Nat.zero_add] at this
   exact this
  ·rcases c13 hdk j k o o' hj hk' hne (.inr hw) hf with h|h
   ·rw [hjs] at h;cases h.1
   ·exact h
  ·have hn:=fun x hx hp=>h2 k o' (by simpa using hk') (by rw [Nat.zero_add];exact hp) x hx
   by_cases hjs:js.contains j=true
   ·rcases c13 hdk j k o o' hj hk' hne (.inl hjs) hf with h|h
    ·left
     intro x hx hi
     have hp:prs.any (·.2==k)=true:=List.any_eq_true.2 ⟨(j,k),h.2,by simp⟩
     have:=hn x hx hp
     rw [Nat.zero_add] at this
     exact (h5 _ (a8V.1 hid)).2 _ this h.2 hi
    ·exact .inr h
   ·exact (hjs ((h7 _ (a8V.1 hid)).resolve_left (by simp))).elim
open Go
variable {P:Program}
structure SO where
 dst:Option Nat
 op:Op
 g:Option (Option Nat×Bool)
inductive SC where
 |skip
 |region (id:Nat) (ops:List SO) (draw:Bool)
 |seq (x y:SC)
 |cond (c:Operand) (x y:SC)
 |block (id:Nat) (x:SC)
 |loop (x:SC)
 |exit (id:Nat)
 |ret
 |no
 |a4k (id:Nat) (ops:List SO) (js:List Nat) (prs:List (Nat×Nat))
def a6M (ops:Array Oper) (l:List Oper):List SO:=l.map fun o=>⟨o.dst,o.op,o.guard.map fun q=>(a9n ops q.1,q.2)⟩
def b6x:Code->SC
 |.skip=>.skip
 |.region id ops draw=>.region id (a6M ops ops.toList) draw
 |.seq x y=>.seq (b6x x) (b6x y)
 |.cond c x y=>.cond c (b6x x) (b6x y)
 |.block id x=>.block id (b6x x)
 |.loop x=>.loop (b6x x)
 |.exit id=>.exit id
 |.ret=>.ret
 |_=>.no
def unK:SC->SC
 |.a4k id ops _ _=>.region id ops true
 |.seq x y=>.seq (unK x) (unK y)
 |.cond c x y=>.cond c (unK x) (unK y)
 |.block id x=>.block id (unK x)
 |.loop x=>.loop (unK x)
 |s=>s
def kOK:Code->SC->Bool
 |.region _ ops d,.a4k _ _ js prs=>d&&dOK ops js prs
 |.region _ ops d,.region ..=>!d||d3w ops
 |.seq x y,.seq x' y'=>kOK x x'&&kOK y y'
 |.cond _ x y,.cond _ x' y'=>kOK x x'&&kOK y y'
 |.block _ x,.block _ x'=>kOK x x'
 |.loop x,.loop x'=>kOK x x'
 |_,.a4k ..=>false
 |_,_=>true
def a0o (b:Option Code) (s:SC):Option (SC×Bool):=b.map fun c=>(b6x c,kOK c s)
inductive Ent where
 |pu (h:List AV->Option (Prop×AV))
 |mu (h:MH)
abbrev CT:=List (FuncId×Ent)
def a0b:CT->FuncId->Option Ent
 |[],_=>none
 |(g,h)::r,f=>if f=g then some h else a0b r f
def c14 (P:Program) (f:FuncId) (h:List AV->Option (Prop×AV)):Prop:=∀args C ret,h args=some (C,ret)->C->PEv P f args ret
def d3B (P:Program) (f:FuncId):Ent->Prop
 |.pu h=>c14 P f h
 |.mu h=>a5r P f h
def a1k (P:Program):CT->Prop
 |[]=>True
 |(f,h)::r=>d3B P f h/\a1k P r
theorem a8W:∀{F:CT} {f:FuncId} {h},a1k P F->a0b F f=some h->d3B P f h
 |[],_,_,_,h=>by simp [a0b] at h
 |(g,h')::r,f,h,hF,hg=>by
  unfold a0b at hg
  split at hg
  ·rename_i e;subst e;cases hg;exact hF.1
  ·exact a8W hF.2 hg
def a9A (P:Program) (F:CT) (dr:Bool) (st:St) (dst:Option Nat) (f:FuncId) (args:List AV) (K:St->Prop):Prop:=
 match a0b F f with
 |some (.pu h)=>match a4m st.H args with
  |some args'=>match h args' with
   |some (C,ret)=>C/\a6K (a2k st dst) st.H 0 ret.flat/\(dr=true->ret.flat.length<=1024/\dst.isSome=true)/\K (c5t st dst ret)
   |none=>False
  |none=>False
 |some (.mu h)=>match h st.H args with
  |some (C,us,ret)=>C/\dr=false/\a6K (a2k st dst) st.H 0 ret.flat/\K (b4V st dst us ret)
  |none=>False
 |none=>a7b P dr st dst f args K
def c15:Operand->Bool
 |.const (.slice none 0 0)=>true
 |_=>false
def stepS (P:Program) (F:CT) (dr:Bool) (dst:Option Nat) (op:Op) (st:St) (K:St->Prop):Prop:=
 match op with
 |.call c=>
  match c.callee with
  |.builtin b=>abi P dst b c.args.toList c.argTypes.toList st K
  |.value f=>match st.eval f with
   |.c (.fn g caps)=>a9A P F dr st dst g (c.args.toList.map st.eval++caps.map .c) K
   |_=>False
  |.invoke _ _=>False
 |.binOp op t x y t'=>if c15 y=true then dr=false/\c7C P dst op t (st.eval x) (st.eval y) st K else aop P dst (.binOp op t x y t') st K
 |op=>aop P dst op st K
def b5d (P:Program) (F:CT) (dr:Bool):List SO->(St->Prop)->St->Prop
 |[],K,st=>K st
 |o::rest,K,st=>
  match o.g with
  |none=>stepS P F dr o.dst o.op st (b5d P F dr rest K)
  |some (gs,want)=>agd gs want st (fun st=>stepS P F dr o.dst o.op st (b5d P F dr rest K)) (fun st=>b5d P F dr rest K (st.put o.dst (.c (.raw undef))))
def St.tick (st:St):St:={st with T:=st.T+1}
def a5t (P:Program) (F:CT) (o:SO) (st:St) (K:List Id->St->Prop):Prop:=
 match o.g,o.op with
 |none,.call c=>
  match c.callee with
  |.value f=>match st.eval f with
   |.c (.fn g caps)=>match a0b F g with
    |some (.mu h)=>match h st.H (c.args.toList.map st.eval++caps.map .c) with
     |some (C,us,ret)=>C/\a6K (a2k st o.dst) st.H 0 ret.flat/\(ret.flat.length<=1024/\o.dst.isSome=true)/\K (us.map (·.1)) (b4V st o.dst us ret)
     |none=>False
    |_=>False
   |_=>False
  |_=>False
 |none,.store t x v=>
  match st.eval x with
  |.c (.pt id _ _)=>aop P o.dst (.store t x v) st (K [id])
  |_=>False
 |_,_=>False
def c16 (P:Program) (F:CT) (st:St) (dst:Option Nat) (f:FuncId) (args:List AV) (K:St->Prop):Prop:=∃v,a9A P F false st dst f args (·=st.put dst v)/\K (st.put dst v)
def a5I (P:Program) (F:CT) (dst:Option Nat) (op:Op) (st:St) (K:St->Prop):Prop:=
 match op with
 |.call c=>
  match c.callee with
  |.value f=>match st.eval f with
   |.c (.fn g caps)=>c16 P F st dst g (c.args.toList.map st.eval++caps.map .c) K
   |_=>False
  |_=>False
 |_=>False
def a8D (P:Program) (F:CT) (js:List Nat) (prs:List (Nat×Nat)):List SO->Nat->List (Nat×Id)->List (Nat×AV)->(List (Nat×Id)->List (Nat×AV)->St->Prop)->St->Prop
 |[],_,W,N,K,st=>K W N st
 |o::rest,i,W,N,K,st=>
  if prs.contains (i,i)=true then
   match o.g with
   |none=>a5I P F o.dst o.op st (a8D P F js prs rest (i+1) W (if prs.any (·.2==i)=true then a3q i o.op st++N else N) K)
   |some (gs,want)=>agd gs want st (fun st'=>a5I P F o.dst o.op st' (a8D P F js prs rest (i+1) W (if prs.any (·.2==i)=true then a3q i o.op st++N else N) K)) (fun st'=>a8D P F js prs rest (i+1) W (if prs.any (·.2==i)=true then a3q i o.op st++N else N) K (st'.put o.dst (.c (.raw undef))))
  else if js.contains i=true then a5t P F o st fun W' st'=>a8D P F js prs rest (i+1) (W'.map (fun id=>(i,id))++W) (if prs.any (·.2==i)=true then a3q i o.op st++N else N) K st'
  else
   match o.g with
   |none=>stepS P F true o.dst o.op st (a8D P F js prs rest (i+1) W (if prs.any (·.2==i)=true then a3q i o.op st++N else N) K)
   |some (gs,want)=>agd gs want st (fun st'=>stepS P F true o.dst o.op st' (a8D P F js prs rest (i+1) W (if prs.any (·.2==i)=true then a3q i o.op st++N else N) K))
     (fun st'=>a8D P F js prs rest (i+1) W (if prs.any (·.2==i)=true then a3q i o.op st++N else N) K (st'.put o.dst (.c (.raw undef))))
def a6v (P:Program) (F:CT):SC->(AEx->St->Prop)->St->Prop
 |.skip,Q,st=>Q .normal st
 |.region _ ops draw,Q,st=>b5d P F draw ops (fun st=>Q .normal st.tick) st
 |.seq x y,Q,st=>a6v P F x (a4n (fun st'=>∃vs,a8T P vs st'/\a6v P F y Q vs) Q) st
 |.cond c x y,Q,st=>
  match st.eval c with
  |.c (.raw (.bool b))=>(b=true->a6v P F x Q st)/\(b=false->a6v P F y Q st)
  |_=>False
 |.block id x,Q,st=>a6v P F x (a4f id Q) st
 |.loop x,Q,st=>∃(ι:Type) (v:ι->St) (μ:ι->Nat) (i:ι),a8T P (v i) st/\∀i,a6v P F x (a4n (fun st'=>∃j,μ j<μ i/\a8T P (v j) st') Q) (v i)
 |.exit id,Q,st=>Q (.exit id) st
 |.ret,Q,st=>Q .ret st
 |.no,_,_=>False
 |.a4k _ ops js prs,Q,st=>a8D P F js prs ops 0 [] [] (fun W N st'=>(∀x∈W,x.2.1≠st.T/\∀y∈N,(x.1,y.1)∈prs->¬idV x.2 y.2)/\Q .normal st'.tick) st
def a2K (P:Program) (F:CT):SC->(AEx->St->Prop)->St->Prop
 |.skip,Q,st=>Q .normal st
 |.region _ ops draw,Q,st=>b5d P F draw ops (fun st=>Q .normal st.tick) st
 |.seq x y,Q,st=>a2K P F x (a4n (a2K P F y Q) Q) st
 |.cond c x y,Q,st=>
  match st.eval c with
  |.c (.raw (.bool b))=>(b=true->a2K P F x Q st)/\(b=false->a2K P F y Q st)
  |_=>False
 |.block id x,Q,st=>a2K P F x (a4f id Q) st
 |.loop x,Q,st=>a6v P F (.loop x) Q st
 |.exit id,Q,st=>Q (.exit id) st
 |.ret,Q,st=>Q .ret st
 |.no,_,_=>False
 |.a4k _ ops js prs,Q,st=>a8D P F js prs ops 0 [] [] (fun W N st'=>(∀x∈W,x.2.1≠st.T/\∀y∈N,(x.1,y.1)∈prs->¬idV x.2 y.2)/\Q .normal st'.tick) st
theorem a9B {F:CT} (hF:a1k P F) {dr:Bool} {st:St} {dst:Option Nat} {f:FuncId} {args:List AV} {K:St->Prop} (h:a9A P F dr st dst f args K):a7b P dr st dst f args K:=by
 unfold a9A at h
 split at h
 ·rename_i g hg
  split at h
  ·rename_i args' ha
   split at h
   ·rename_i D ret hr
    obtain ⟨h1,h2,h3,h4⟩:=h
    exact .inl ⟨false,args',ret,ha,a8W hF hg args' D ret hr h1,h2,h3,h4⟩
   ·exact h.elim
  ·exact h.elim
 ·rename_i g hg
  split at h
  ·rename_i D us ret hr
   obtain ⟨h1,h2,h3,h4⟩:=h
   have ck:=(a8W hF hg).go (dst:=dst) hr h1 h3
   refine .inr ⟨h2,ck.1,fun C ρ a w vs q1 q2 q3=>(ck.2 C ρ a w vs q1 q2 q3).mono fun e w' ⟨v,e1,ρ',r,H',T',g1,g2,g3,g4,g5⟩=>⟨v,e1,ρ',r,H',T',g1,g2,?_⟩⟩
   subst g3 g4 g5
   exact h4
  ·exact h.elim
 ·exact h
theorem b0X {dr:Bool} {st:St} {dst:Option Nat} {f:FuncId} {args:List AV} {K K':St->Prop} (hk:∀st,K st->K' st) (h:a7b P dr st dst f args K):a7b P dr st dst f args K':=by
 rcases h with ⟨m,args',ret,h1,h2,h3,h4,h5⟩|⟨h1,h2,h3⟩
 ·exact .inl ⟨m,args',ret,h1,h2,h3,h4,hk _ h5⟩
 ·refine .inr ⟨h1,h2,fun C ρ a w vs hr hs hv=>Calls.mono (h3 C ρ a w vs hr hs hv) fun e w' ⟨v,e1,ρ',ret,H',T',q1,q2,q3⟩=>⟨v,e1,ρ',ret,H',T',q1,q2,hk _ q3⟩⟩
theorem a5f {F:CT} (hF:a1k P F) {dr:Bool} {dst:Option Nat} {op:Op} {st:St} {K:St->Prop} (h:stepS P F dr dst op st K):a06 P dr dst op st K:=by
 cases op with
 |call c=>
  simp only [stepS] at h
  simp only [a06]
  split
  ·rename_i b hb
   rw [hb] at h
   exact h
  ·rename_i f hf
   rw [hf] at h
   simp only at h
   split at h
   ·rename_i g caps hfe
    rw [hfe]
    exact a9B hF h
   ·exact h.elim
  ·rename_i r m hr
   rw [hr] at h
   exact h.elim
 |binOp op t x y t'=>
  simp only [stepS] at h
  simp only [a06]
  split at h
  ·exact .inr h
  ·exact .inl h
 |_=>exact h
theorem a3D {st:St} {dst:Option Nat} {e sz:Nat} {rows:List (List AC)} {v:Id->AC} {K K':St->Prop} (hk:∀st,K st->K' st) (h:newObj st dst e sz rows v K):newObj st dst e sz rows v K':=by
 cases dst with
 |none=>exact h
 |some d=>exact ⟨h.1,hk _ h.2⟩
theorem a34 {gs:Option Nat} {want:Bool} {st:St} {y n y' n':St->Prop} (hy:∀st,y st->y' st) (hn:∀st,n st->n' st) (h:agd gs want st y n):agd gs want st y' n':=by
 unfold agd at *
 split at h
 ·split at h
  ·exact ⟨fun e=>hy _ (h.1 e),fun e=>hn _ (h.2 e)⟩
  ·exact hn _ h
  ·exact h
 ·exact h
theorem a5g {dst:Option Nat} {op:Op} {st:St} {K K':St->Prop} (hk:∀st,K st->K' st) (h:aop P dst op st K):aop P dst op st K':=by
 cases op
 case unOp o t x=>
  cases o<;>simp only [aop] at h ⊢
  repeat' split at h
  all_goals first
   |exact hk _ h
   |exact h.elim
 case makeMap t r=>
  cases r<;>simp only [aop] at h ⊢
  repeat' split at h
  all_goals first
   |exact ⟨h.1,hk _ h.2⟩
   |exact h.elim
 case lookup t x ix ok=>
  simp only [aop] at h ⊢
  split at h
  ·split at h
   ·exact ⟨h.1,hk _ h.2⟩
   ·exact h.elim
  ·exact h.elim
 case makeFunc f a b=>
  cases f<;>simp only [aop] at h ⊢
  repeat' split at h
  all_goals first
   |exact ⟨h.1,hk _ h.2⟩
   |exact h.elim
 all_goals simp only [aop] at h ⊢
 all_goals repeat' split at h
 all_goals first
  |exact hk _ h
  |exact h.elim
  |exact ⟨fun e=>hk _ (h.1 e),fun e=>hk _ (h.2 e)⟩
  |exact ⟨h.1,hk _ h.2⟩
  |exact ⟨h.1,a3D hk h.2⟩
  |(rename_i hf;simp only [if_pos hf];exact ⟨h.1,a3D hk h.2⟩)
  |(rename_i hf;simp only [if_neg hf];exact ⟨h.1,hk _ h.2⟩)
  |exact ⟨h.1,h.2.1,a3D hk h.2.2⟩
  |exact ⟨h.1,h.2.1,hk _ h.2.2⟩
theorem b9b {dst:Option Nat} {b:Builtin} {args:List Operand} {ts:List TypeId} {st:St} {K K':St->Prop} (hk:∀st,K st->K' st) (h:abi P dst b args ts st K):abi P dst b args ts st K':=by
 unfold abi at h
 split at h
 ·simp only [abi]
  split at h<;>first|exact ⟨h.1,hk _ h.2⟩|exact h.elim
 ·simp only [abi]
  split at h<;>first|exact ⟨h.1,hk _ h.2⟩|exact h.elim
 ·simp only [abi]
  split at h<;>first|exact ⟨h.1,hk _ h.2⟩|exact h.elim
 ·simp only [abi]
  split at h
  ·exact ⟨h.1,a3D hk h.2⟩
  ·exact ⟨h.1,a3D hk h.2⟩
  ·split at h
   ·exact ⟨h.1,a3D hk h.2⟩
   ·exact h.elim
  ·exact h.elim
 ·simp only [abi]
  split at h
  ·split at h
   ·exact ⟨h.1,hk _ h.2⟩
   ·exact h.elim
  ·exact h.elim
 ·exact h.elim
theorem b5e {dst:Option Nat} {op:BinOp} {t:TypeId} {x y:AV} {st:St} {K K':St->Prop} (hk:∀st,K st->K' st) (h:c7C P dst op t x y st K):c7C P dst op t x y st K':=by
 unfold c7C at *
 split at h
 ·exact ⟨h.1,fun e=>hk _ (h.2.1 e),hk _ h.2.2⟩
 ·exact ⟨h.1,fun e=>hk _ (h.2.1 e),hk _ h.2.2⟩
 ·exact h
theorem a3i {dr:Bool} {dst:Option Nat} {op:Op} {st:St} {K K':St->Prop} (hk:∀st,K st->K' st) (h:a06 P dr dst op st K):a06 P dr dst op st K':=by
 cases op
 case call c=>
  simp only [a06] at h ⊢
  split at h
  ·exact b9b hk h
  ·split at h
   ·exact b0X hk h
   ·exact h.elim
  ·exact h.elim
 case binOp op t x y t'=>
  simp only [a06] at h ⊢
  exact h.imp (a5g hk) fun q=>⟨q.1,b5e hk q.2⟩
 all_goals (simp only [a06] at h ⊢;exact a5g hk h)
theorem a57 {F:CT} (hF:a1k P F) {dr:Bool} {ops:Array Oper}:∀{l:List Oper} {K:St->Prop} {st:St},b5d P F dr (a6M ops l) K st->a3X P dr ops l K st
 |[],K,st,h=>h
 |o::l,K,st,h=>by
  unfold a6M at h
  rw [List.map_cons] at h
  unfold b5d at h
  unfold a3X
  simp only at h
  cases hg:o.guard with
  |none=>
   rw [hg] at h
   exact a3i (fun st h=>a57 hF h) (a5f hF h)
  |some q=>
   obtain ⟨j,want⟩:=q
   rw [hg] at h
   exact a34 (fun st h=>a3i (fun st h=>a57 hF h) (a5f hF h)) (fun st h=>a57 hF h) h
theorem a5h {dr:Bool} {ops:Array Oper}:∀{l:List Oper} {K K':St->Prop} {st:St},(∀st,K st->K' st)->a3X P dr ops l K st->a3X P dr ops l K' st
 |[],K,K',st,hk,h=>hk _ h
 |o::l,K,K',st,hk,h=>by
  unfold a3X at h ⊢
  split at h
  ·exact a3i (fun st h=>a5h hk h) h
  ·exact a34 (fun st h=>a3i (fun st h=>a5h hk h) h) (fun st h=>a5h hk h) h
theorem c0m {o:Oper} {st:St} {K K':List Id->St->Prop} (hk:∀W st,K W st->K' W st) (h:a7S P o st K):a7S P o st K':=by
 unfold a7S at h ⊢
 split at h
 ·split at h
  ·split at h
   ·obtain ⟨hh,C,us,ret,m1,m2,m3,m4,m5,m6⟩:=h
    exact ⟨hh,C,us,ret,m1,m2,m3,m4,m5,hk _ _ m6⟩
   ·exact h.elim
  ·exact h.elim
 ·split at h
  ·exact a5g (fun st h=>hk _ _ h) h
  ·exact h.elim
 ·exact h.elim
theorem c0n {ops:Array Oper} {o:Oper} {st:St} {K K':St->Prop} (hk:∀st,K st->K' st) (h:a6L P ops o st K):a6L P ops o st K':=by
 unfold a6L at h ⊢
 split
 ·rename_i hg
  rw [hg] at h
  exact h.imp fun v q=>⟨q.1,hk _ q.2⟩
 ·rename_i j want hg
  rw [hg] at h
  exact a34 (fun st h=>h.imp fun v q=>⟨q.1,hk _ q.2⟩) (fun st h=>hk _ h) h
theorem a4S {ops:Array Oper} {js:List Nat} {prs:List (Nat×Nat)}:∀{l:List Oper} {i:Nat} {W:List (Nat×Id)} {N:List (Nat×AV)} {K K':List (Nat×Id)->List (Nat×AV)->St->Prop} {st:St},(∀W N st,K W N st->K' W N st)->
  c1H P ops js prs l i W N K st->c1H P ops js prs l i W N K' st
 |[],i,W,N,K,K',st,hk,h=>hk _ _ _ h
 |o::l,i,W,N,K,K',st,hk,h=>by
  unfold c1H at h ⊢
  by_cases hp:prs.contains (i,i)=true
  ·rw [if_pos hp] at h ⊢
   exact c0n (fun st h=>a4S hk h) h
  rw [if_neg hp] at h ⊢
  by_cases hj:js.contains i=true
  ·rw [if_pos hj] at h ⊢
   exact c0m (fun W st h=>a4S hk h) h
  ·rw [if_neg hj] at h ⊢
   unfold a7c at h ⊢
   split
   ·rename_i hg
    rw [hg] at h
    exact a3i (fun st h=>a4S hk h) h
   ·rename_i j want hg
    rw [hg] at h
    exact a34 (fun st h=>a3i (fun st h=>a4S hk h) h) (fun st h=>a4S hk h) h
theorem b61 {dr:Bool} {ops:Array Oper} {K K':St->Prop} {st:St} (hk:∀st,K st->K' st) (h:b4W P dr ops K st):b4W P dr ops K' st:=by
 rcases h with h|⟨h1,js,prs,h2,h3⟩
 ·exact .inl ⟨a5h hk h.1,h.2⟩
 ·exact .inr ⟨h1,js,prs,h2,a4S (fun W N st h=>⟨h.1,hk _ h.2⟩) h3⟩
section
variable {F:CT} {st:St}
theorem c0o {dr:Bool} {dst:Option Nat} {f:FuncId} {args:List AV} {K K':St->Prop} (hk:∀st,K st->K' st) (h:a9A P F dr st dst f args K):a9A P F dr st dst f args K':=by
 unfold a9A at *
 split at h
 ·split at h
  ·split at h
   ·exact ⟨h.1,h.2.1,h.2.2.1,hk _ h.2.2.2⟩
   ·exact h
  ·exact h
 ·split at h
  ·exact ⟨h.1,h.2.1,h.2.2.1,hk _ h.2.2.2⟩
  ·exact h
 ·exact b0X hk h
theorem b62 {o:SO} {st:St} {K K':List Id->St->Prop} (hk:∀W st,K W st->K' W st) (h:a5t P F o st K):a5t P F o st K':=by
 unfold a5t at h ⊢
 split at h
 ·split at h
  ·split at h
   ·split at h
    ·split at h
     ·exact ⟨h.1,h.2.1,h.2.2.1,hk _ _ h.2.2.2⟩
     ·exact h
    ·exact h
   ·exact h
  ·exact h
 ·split at h
  ·exact a5g (fun st h=>hk _ _ h) h
  ·exact h
 ·exact h
theorem a6a {dr:Bool} {dst:Option Nat} {op:Op} {K K':St->Prop} (hk:∀st,K st->K' st) (h:stepS P F dr dst op st K):stepS P F dr dst op st K':=by
 cases op
 case call c=>
  simp only [stepS] at h ⊢
  split at h
  ·exact b9b hk h
  ·split at h
   ·exact c0o hk h
   ·exact h.elim
  ·exact h.elim
 case binOp op t x y t'=>
  simp only [stepS] at h ⊢
  split at h
  ·rename_i e;rw [if_pos e];exact ⟨h.1,b5e hk h.2⟩
  ·rename_i e;rw [if_neg e];exact a5g hk h
 all_goals (simp only [stepS] at h ⊢;exact a5g hk h)
theorem a5J {dr:Bool}:∀{l:List SO} {K K':St->Prop} {st:St},(∀st,K st->K' st)->b5d P F dr l K st->b5d P F dr l K' st
 |[],K,K',st,hk,h=>hk _ h
 |o::l,K,K',st,hk,h=>by
  unfold b5d at h ⊢
  split at h
  ·exact a6a (fun st h=>a5J hk h) h
  ·exact a34 (fun st h=>a6a (fun st h=>a5J hk h) h) (fun st h=>a5J hk h) h
theorem a9C {dst:Option Nat} {op:Op} {st:St} {K K':St->Prop} (hk:∀st,K st->K' st) (h:a5I P F dst op st K):a5I P F dst op st K':=by
 unfold a5I at h ⊢
 split at h
 ·split at h
  ·split at h
   ·exact h.imp fun v q=>⟨q.1,hk _ q.2⟩
   ·exact h
  ·exact h
 ·exact h
theorem a3r {js:List Nat} {prs:List (Nat×Nat)}:∀{l:List SO} {i:Nat} {W:List (Nat×Id)} {N:List (Nat×AV)} {K K':List (Nat×Id)->List (Nat×AV)->St->Prop} {st:St},(∀W N st,K W N st->K' W N st)->a8D P F js prs l i W N K st->a8D P F js prs l i W N K' st
 |[],i,W,N,K,K',st,hk,h=>hk _ _ _ h
 |o::l,i,W,N,K,K',st,hk,h=>by
  unfold a8D at h ⊢
  by_cases hp:prs.contains (i,i)=true
  ·rw [if_pos hp] at h ⊢
   split at h
   ·exact a9C (fun st h=>a3r hk h) h
   ·exact a34 (fun st h=>a9C (fun st h=>a3r hk h) h) (fun st h=>a3r hk h) h
  rw [if_neg hp] at h ⊢
  split
  ·rename_i hj
   rw [if_pos hj] at h
   exact b62 (fun W st h=>a3r hk h) h
  ·rename_i hj
   rw [if_neg hj] at h
   split at h
   ·exact a6a (fun st h=>a3r hk h) h
   ·exact a34 (fun st h=>a6a (fun st h=>a3r hk h) h) (fun st h=>a3r hk h) h
theorem a2y:∀{c:SC} {Q Q':AEx->St->Prop} {st:St},(∀e st,Q e st->Q' e st)->a6v P F c Q st->a6v P F c Q' st
 |.skip,Q,Q',st,hq,h=>hq _ _ h
 |.region id ops d,Q,Q',st,hq,h=>a5J (fun st h=>hq _ _ h) h
 |.seq x y,Q,Q',st,hq,h=>a2y (c:=x) (fun e st h=>by cases e<;>first|exact h.imp fun vs g=>⟨g.1,a2y (c:=y) hq g.2⟩|exact hq _ _ h) h
 |.cond c x y,Q,Q',st,hq,h=>by
  unfold a6v at h ⊢
  split at h
  ·exact ⟨fun e=>a2y (c:=x) hq (h.1 e),fun e=>a2y (c:=y) hq (h.2 e)⟩
  ·exact h
 |.block id x,Q,Q',st,hq,h=>a2y (c:=x) (fun e st h=>by
   cases e with
   |exit j=>
    simp only [a4f] at h ⊢
    split
    ·rename_i hj;rw [if_pos hj] at h;exact hq _ _ h
    ·rename_i hj;rw [if_neg hj] at h;exact hq _ _ h
   |_=>exact hq _ _ h) h
 |.loop x,Q,Q',st,hq,h=>by
  obtain ⟨ι,v,μ,i,h1,h2⟩:=h
  exact ⟨ι,v,μ,i,h1,fun i=>a2y (c:=x) (fun e st h=>by cases e<;>first|exact h|exact hq _ _ h) (h2 i)⟩
 |.exit id,Q,Q',st,hq,h=>hq _ _ h
 |.ret,Q,Q',st,hq,h=>hq _ _ h
 |.no,_,_,_,_,h=>h.elim
 |.a4k id ops js prs,Q,Q',st,hq,h=>a3r (fun W N st h=>⟨h.1,hq _ _ h.2⟩) h
theorem a3s:∀{c:SC} {Q Q':AEx->St->Prop} {st:St},(∀e st,Q e st->Q' e st)->a2K P F c Q st->a2K P F c Q' st
 |.skip,Q,Q',st,hq,h=>hq _ _ h
 |.region id ops d,Q,Q',st,hq,h=>a5J (fun st h=>hq _ _ h) h
 |.seq x y,Q,Q',st,hq,h=>a3s (c:=x) (fun e st h=>by cases e<;>first|exact a3s (c:=y) hq h|exact hq _ _ h) h
 |.cond c x y,Q,Q',st,hq,h=>by
  unfold a2K at h ⊢
  split at h
  ·exact ⟨fun e=>a3s (c:=x) hq (h.1 e),fun e=>a3s (c:=y) hq (h.2 e)⟩
  ·exact h
 |.block id x,Q,Q',st,hq,h=>a3s (c:=x) (fun e st h=>by
   cases e with
   |exit j=>
    simp only [a4f] at h ⊢
    split
    ·rename_i hj;rw [if_pos hj] at h;exact hq _ _ h
    ·rename_i hj;rw [if_neg hj] at h;exact hq _ _ h
   |_=>exact hq _ _ h) h
 |.loop x,Q,Q',st,hq,h=>a2y (c:=.loop x) hq h
 |.exit id,Q,Q',st,hq,h=>hq _ _ h
 |.ret,Q,Q',st,hq,h=>hq _ _ h
 |.no,_,_,_,_,h=>h.elim
 |.a4k id ops js prs,Q,Q',st,hq,h=>a3r (fun W N st h=>⟨h.1,hq _ _ h.2⟩) h
end
theorem a1t {F:CT}:∀{c:SC} {Q:AEx->St->Prop} {st:St},a2K P F c Q st->a6v P F c Q st
 |.skip,_,_,h|.region ..,_,_,h|.exit _,_,_,h|.ret,_,_,h|.no,_,_,h|.a4k ..,_,_,h|.loop _,_,_,h=>h
 |.seq x y,Q,st,h=>a2y (c:=x) (fun e st h=>by cases e<;>first|exact ⟨_,.refl _,a1t (c:=y) h⟩|exact h) (a1t (c:=x) h)
 |.cond c x y,Q,st,h=>by
  unfold a2K at h
  unfold a6v
  split at h
  ·exact ⟨fun e=>a1t (c:=x) (h.1 e),fun e=>a1t (c:=y) (h.2 e)⟩
  ·exact h
 |.block id x,Q,st,h=>a1t (c:=x) h
theorem a4v:∀{c:Code} {Q Q':AEx->St->Prop} {st:St},(∀e st,Q e st->Q' e st)->awp P c Q st->awp P c Q' st
 |.skip,Q,Q',st,hq,h=>hq _ _ h
 |.region id ops d,Q,Q',st,hq,h=>b61 (fun st h=>hq _ _ h) h
 |.seq x y,Q,Q',st,hq,h=>a4v (c:=x) (fun e st h=>by cases e<;>first|exact h.imp fun vs g=>⟨g.1,a4v (c:=y) hq g.2⟩|exact hq _ _ h) h
 |.cond c x y,Q,Q',st,hq,h=>by
  unfold awp at h ⊢
  split at h
  ·exact ⟨fun e=>a4v (c:=x) hq (h.1 e),fun e=>a4v (c:=y) hq (h.2 e)⟩
  ·exact h
 |.block id x,Q,Q',st,hq,h=>a4v (c:=x) (fun e st h=>by
   cases e with
   |exit j=>
    simp only [a4f] at h ⊢
    split
    ·rename_i hj;rw [if_pos hj] at h;exact hq _ _ h
    ·rename_i hj;rw [if_neg hj] at h;exact hq _ _ h
   |_=>exact hq _ _ h) h
 |.loop x,Q,Q',st,hq,h=>by
  obtain ⟨ι,v,μ,i,h1,h2⟩:=h
  exact ⟨ι,v,μ,i,h1,fun i=>a4v (c:=x) (fun e st h=>by cases e<;>first|exact h|exact hq _ _ h) (h2 i)⟩
 |.exit id,Q,Q',st,hq,h=>hq _ _ h
 |.ret,Q,Q',st,hq,h=>hq _ _ h
 |.scope _,_,_,_,_,h=>h.elim
theorem b5f {F:CT} (hF:a1k P F) {o:Oper} {so:SO} (hd:so.dst=o.dst) (hop:so.op=o.op) (hg:so.g=none->o.guard=none) {st:St} {K K':List Id->St->Prop} (hk:∀W st,K W st->K' W st) (h:a5t P F so st K):a7S P o st K':=by
 unfold a5t at h
 split at h
 ·rename_i c h1 h2
  split at h
  ·rename_i f hf
   split at h
   ·rename_i g caps hv
    split at h
    ·rename_i hh hget
     split at h
     ·rename_i D us ret hr
      obtain ⟨q1,q2,q3,q4⟩:=h
      unfold a7S
      rw [hg h1,<-hop,h2]
      simp only [hf,hv]
      rw [hd] at q2 q3 q4
      exact ⟨hh,D,us,ret,a8W hF hget,hr,q1,q2,q3,hk _ _ q4⟩
     ·exact h.elim
    ·exact h.elim
   ·exact h.elim
  ·exact h.elim
 ·rename_i t x v h1 h2
  unfold a7S
  rw [hg h1,<-hop,h2]
  simp only
  split at h
  ·rename_i id i j hx
   rw [hx]
   rw [hd] at h
   exact a5g (fun st h=>hk _ _ h) h
  ·exact h.elim
 ·exact h.elim
theorem a8E {F:CT} (hF:a1k P F) {dst:Option Nat} {op:Op} {st:St} {K K':St->Prop} (hk:∀st,K st->K' st) (h:a5I P F dst op st K):∃v,a06 P false dst op st (·=st.put dst v)/\K' (st.put dst v):=by
 unfold a5I at h
 split at h
 ·rename_i c
  split at h
  ·rename_i f hf
   split at h
   ·rename_i g caps hv
    obtain ⟨v,h1,h2⟩:=h
    refine ⟨v,?_,hk _ h2⟩
    simp only [a06]
    rw [hf]
    simp only
    rw [hv]
    exact a9B hF h1
   ·exact h.elim
  ·exact h.elim
 ·exact h.elim
theorem a3j {F:CT} (hF:a1k P F) {ops:Array Oper} {js:List Nat} {prs:List (Nat×Nat)}:∀{l:List Oper} {i:Nat} {W:List (Nat×Id)} {N:List (Nat×AV)} {K:List (Nat×Id)->List (Nat×AV)->St->Prop} {st:St},
  a8D P F js prs (a6M ops l) i W N K st->c1H P ops js prs l i W N K st
 |[],i,W,N,K,st,h=>h
 |o::l,i,W,N,K,st,h=>by
  unfold a6M at h
  rw [List.map_cons] at h
  unfold a8D at h
  unfold c1H
  by_cases hp:prs.contains (i,i)=true
  ·rw [if_pos hp] at h ⊢
   simp only at h
   unfold a6L
   cases hg:o.guard with
   |none=>
    rw [hg] at h
    exact a8E hF (fun st h=>a3j hF h) h
   |some q=>
    obtain ⟨j,want⟩:=q
    rw [hg] at h
    exact a34 (fun st h=>a8E hF (fun st h=>a3j hF h) h) (fun st h=>a3j hF h) h
  rw [if_neg hp] at h ⊢
  by_cases hj:js.contains i=true
  ·rw [if_pos hj] at h ⊢
   exact b5f hF (so:=⟨o.dst,o.op,o.guard.map fun q=>(a9n ops q.1,q.2)⟩) rfl rfl (fun h=>by simpa using h) (fun W st h=>a3j hF h) h
  ·rw [if_neg hj] at h ⊢
   simp only at h
   unfold a7c
   cases hg:o.guard with
   |none=>
    rw [hg] at h
    exact a3i (fun st h=>a3j hF h) (a5f hF h)
   |some q=>
    obtain ⟨j,want⟩:=q
    rw [hg] at h
    exact a34 (fun st h=>a3i (fun st h=>a3j hF h) (a5f hF h)) (fun st h=>a3j hF h) h
theorem a2m {F:CT} (hF:a1k P F):∀{c:Code} {s:SC} {Q:AEx->St->Prop} {st:St},b6x c=unK s->kOK c s=true->a6v P F s Q st->awp P c Q st
 |.skip,s,Q,st,hs,hk,h=>by cases s<;>first|exact h|cases hs
 |.region id ops d,s,Q,st,hs,hk,h=>by
  cases s with
  |region id' ops' d'=>
   simp only [b6x,unK,SC.region.injEq] at hs
   obtain ⟨rfl,rfl,rfl⟩:=hs
   simp only [kOK] at hk
   exact .inl ⟨a57 hF h,fun hd=>by rw [hd] at hk;simpa using hk⟩
  |a4k id' ops' js prs=>
   simp only [b6x,unK,SC.region.injEq] at hs
   obtain ⟨rfl,rfl,rfl⟩:=hs
   simp only [kOK,Bool.true_and] at hk
   exact .inr ⟨rfl,js,prs,hk,a3j hF h⟩
  |_=>cases hs
 |.seq x y,s,Q,st,hs,hk,h=>by
  cases s with
  |seq x' y'=>
   simp only [b6x,unK,SC.seq.injEq] at hs
   simp only [kOK,Bool.and_eq_true] at hk
   exact a4v (c:=x) (fun e st h=>by cases e<;>first|exact h.imp fun vs g=>⟨g.1,a2m hF (c:=y) hs.2 hk.2 g.2⟩|exact h) (a2m hF (c:=x) hs.1 hk.1 h)
  |_=>cases hs
 |.cond c x y,s,Q,st,hs,hk,h=>by
  cases s with
  |cond c' x' y'=>
   simp only [b6x,unK,SC.cond.injEq] at hs
   obtain ⟨rfl,hs1,hs2⟩:=hs
   simp only [kOK,Bool.and_eq_true] at hk
   unfold a6v at h
   unfold awp
   split at h
   ·rename_i b hb
    rw [hb]
    exact ⟨fun e=>a2m hF (c:=x) hs1 hk.1 (h.1 e),fun e=>a2m hF (c:=y) hs2 hk.2 (h.2 e)⟩
   ·exact h.elim
  |_=>cases hs
 |.block id x,s,Q,st,hs,hk,h=>by
  cases s with
  |block id' x'=>
   simp only [b6x,unK,SC.block.injEq] at hs
   obtain ⟨rfl,hs⟩:=hs
   exact a2m hF (c:=x) hs hk h
  |_=>cases hs
 |.loop x,s,Q,st,hs,hk,h=>by
  cases s with
  |loop x'=>
   simp only [b6x,unK,SC.loop.injEq] at hs
   obtain ⟨ι,v,μ,i,h1,h2⟩:=h
   exact ⟨ι,v,μ,i,h1,fun i=>a2m hF (c:=x) hs hk (h2 i)⟩
  |_=>cases hs
 |.exit id,s,Q,st,hs,hk,h=>by
  cases s with
  |exit id'=>
   simp only [b6x,unK,SC.exit.injEq] at hs
   subst hs
   exact h
  |_=>cases hs
 |.ret,s,Q,st,hs,hk,h=>by cases s<;>first|exact h|cases hs
 |.scope _,s,_,_,hs,_,h=>by cases s<;>first|exact h.elim|cases hs
 |.label _,s,_,_,hs,_,h=>by cases s<;>first|exact h.elim|cases hs
 |.goto _,s,_,_,hs,_,h=>by cases s<;>first|exact h.elim|cases hs
 |.rangeFunc ..,s,_,_,hs,_,h=>by cases s<;>first|exact h.elim|cases hs
 |.refuse _,s,_,_,hs,_,h=>by cases s<;>first|exact h.elim|cases hs
theorem b0Y {F:CT} (hF:a1k P F) {c:Code} {s:SC} {Q:AEx->St->Prop} {st:St} (hs:b6x c=unK s) (hk:kOK c s=true) (h:a2K P F s Q st):awp P c Q st:=a2m hF hs hk (a1t h)
theorem c17 (hm:P.follows .mixedOrders=true) {F:CT} (hF:a1k P F) {f:FuncId} {fn:Func} {s:SC} {args:List AV} {ret:AV} (hf:P.funcs[f]?=some fn) (hs:a0o fn.body s=some (unK s,true))
  (hok:a0I a0m fn 0=true) (hle:Nat.ble args.length fn.ntmps=true) (hret:∀c∈ret.flat,b0r c) (harg:∀x∈args,∀c∈x.flat,VOK c) (h:a6v P F s (c1N P fn ret) (a7U args)):PEv P f args ret:=by
 cases hb:fn.body with
 |none=>rw [hb] at hs;cases hs
 |some c=>
  rw [hb] at hs
  simp only [a0o,Option.map_some,Option.some.injEq,Prod.mk.injEq] at hs
  refine d3z (a9z hm) hf hb ?_ hret harg (a2m hF hs.1 hs.2 h)
  simp only [a0I,hb,Bool.and_eq_true] at hok ⊢
  exact ⟨hok.1,by simpa using Nat.le_of_ble_eq_true hle⟩
theorem a0e (hm:P.follows .mixedOrders=true) {F:CT} (hF:a1k P F) {f:FuncId} {fn:Func} {s:SC} {args:List AV} {ret:AV} (hf:P.funcs[f]?=some fn) (hs:a0o fn.body s=some (unK s,true))
  (hok:a0I a0m fn 0=true) (hle:Nat.ble args.length fn.ntmps=true) (hret:∀c∈ret.flat,b0r c) (harg:∀x∈args,∀c∈x.flat,VOK c) (h:a2K P F s (c1N P fn ret) (a7U args)):PEv P f args ret:=
 c17 hm hF hf hs hok hle hret harg (a1t h)
def St.hto (st:St) (H:Heap):St:={st with H:=H}
theorem d3C (st:St) (k:Nat):st.eval (.tmp k)=st.s k:=(rfl)
theorem b9c (st:St) (v:Value):st.eval (.const v)=.c (a4d v):=(rfl)
theorem c8U (st:St) (f:FuncId):st.eval (.func f)=.c (.fn f []):=(rfl)
theorem c5E (st:St) (v:AV):st.put none v=st:=(rfl)
theorem c5F (st:St) (d:Nat) (v:AV):(st.put (some d) v).s d=v:=by simp [St.put,upd]
theorem d3D (st:St) (d k:Nat) (v:AV) (h:(k=d)=False):(st.put (some d) v).s k=st.s k:=by simp [St.put,upd,h]
theorem e4n (st:St) (d:Option Nat) (v:AV):(st.put d v).H=st.H:=by cases d<;>rfl
theorem e4o (st:St) (d:Option Nat) (v:AV):(st.put d v).T=st.T:=by cases d<;>rfl
theorem d3E (st:St):st.tick.s=st.s:=(rfl)
theorem d3F (st:St):st.tick.H=st.H:=(rfl)
theorem d3G (st:St):st.tick.T=st.T+1:=(rfl)
theorem e4p (st:St) (H:Heap):(st.hto H).s=st.s:=(rfl)
theorem e4q (st:St) (H:Heap):(st.hto H).H=H:=(rfl)
theorem e4r (st:St) (H:Heap):(st.hto H).T=st.T:=(rfl)
theorem c8V (args:List AV) (k:Nat):(a7U args).s k=args.getD k (.c (.raw undef)):=(rfl)
theorem c8W (args:List AV):(a7U args).H=a0t:=(rfl)
theorem c8X (args:List AV):(a7U args).T=0:=(rfl)
theorem d3H (st:St) (H:Heap):St.mk st.s H st.T st.n=st.hto H:=(rfl)
theorem c18 (id:Id):a0t id=.a0h:=(rfl)
theorem c19 {F:CT} {Q:AEx->St->Prop} {st:St}:a2K P F .skip Q st=Q .normal st:=(rfl)
theorem c5G {F:CT} {id:Nat} {ops:List SO} {d:Bool} {Q:AEx->St->Prop} {st:St}:a2K P F (.region id ops d) Q st=b5d P F d ops (fun st=>Q .normal st.tick) st:=(rfl)
theorem c5H {F:CT} {x y:SC} {Q:AEx->St->Prop} {st:St}:a2K P F (.seq x y) Q st=a2K P F x (a4n (a2K P F y Q) Q) st:=(rfl)
theorem c0p {F:CT} {id:Nat} {x:SC} {Q:AEx->St->Prop} {st:St}:a2K P F (.block id x) Q st=a2K P F x (a4f id Q) st:=(rfl)
theorem c2a {F:CT} {id:Nat} {Q:AEx->St->Prop} {st:St}:a2K P F (.exit id) Q st=Q (.exit id) st:=(rfl)
theorem c5I {F:CT} {Q:AEx->St->Prop} {st:St}:a2K P F .ret Q st=Q .ret st:=(rfl)
theorem c5J {F:CT} {d:Bool} {K:St->Prop} {st:St}:b5d P F d [] K st=K st:=(rfl)
theorem c2b {F:CT} {d:Bool} {dst:Option Nat} {op:Op} {l:List SO} {K:St->Prop} {st:St}:b5d P F d (⟨dst,op,none⟩::l) K st=stepS P F d dst op st (b5d P F d l K):=(rfl)
theorem c0q {F:CT} {d:Bool} {dst:Option Nat} {op:Op} {gs:Option Nat} {want:Bool} {l:List SO} {K:St->Prop} {st:St}:b5d P F d (⟨dst,op,some (gs,want)⟩::l) K st =
  agd gs want st (fun st=>stepS P F d dst op st (b5d P F d l K)) (fun st=>b5d P F d l K (st.put dst (.c (.raw undef)))):=(rfl)
theorem c2c {F:CT} {id:Nat} {ops:List SO} {js:List Nat} {prs:List (Nat×Nat)} {Q:AEx->St->Prop} {st:St}:a2K P F (.a4k id ops js prs) Q st =
  a8D P F js prs ops 0 [] [] (fun W N st'=>(∀x∈W,x.2.1≠st.T/\∀y∈N,(x.1,y.1)∈prs->¬idV x.2 y.2)/\Q .normal st'.tick) st:=(rfl)
theorem c8Y {next:St->Prop} {Q:AEx->St->Prop} {st:St}:a4n next Q .normal st=next st:=(rfl)
theorem c8Z {next:St->Prop} {Q:AEx->St->Prop} {st:St} {id:Nat}:a4n next Q (.exit id) st=Q (.exit id) st:=(rfl)
theorem c80 {next:St->Prop} {Q:AEx->St->Prop} {st:St}:a4n next Q .ret st=Q .ret st:=(rfl)
theorem c5K {id:Nat} {Q:AEx->St->Prop} {st:St}:a4f id Q .normal st=Q .normal st:=(rfl)
theorem c5L {id:Nat} {Q:AEx->St->Prop} {st:St}:a4f id Q .ret st=Q .ret st:=(rfl)
theorem b9d {id j:Nat} {Q:AEx->St->Prop} {st:St}:a4f id Q (.exit j) st=if j=id then Q .normal st else Q (.exit j) st:=(rfl)
theorem c81 {F:CT} {c:SC} {Q:AEx->St->Prop} {st st':St} (h:st=st'):a2K P F c Q st=a2K P F c Q st':=by rw [h]
theorem c5M {F:CT} {d:Bool} {dst:Option Nat} {op:Op} {K:St->Prop} {st st':St} (h:st=st'):stepS P F d dst op st K=stepS P F d dst op st' K:=by rw [h]
theorem c5N {d:Bool} {dst:Option Nat} {f:FuncId} {args args':List AV} {K:St->Prop} {st st':St} (h:st=st') (ha:args=args'):a7b P d st dst f args K=a7b P d st' dst f args' K:=by rw [h,ha]
attribute [congr] c81 c5M c5N
attribute [simp] d3C b9c c8U c5E c5F d3D e4n e4o d3E d3F d3G e4p e4q e4r c8V c8W c8X c18 a0b c1N hset a6r lay a9b a9c c0h a3M a2k adL adT adH a9l a9m a5c a5x
attribute [simp ↓] d3H c19 c5G c2c c5H c0p c2a c5I c5J c2b c0q c8Y c8Z c80 c5K c5L b9d
open Go
def isO (KF:List Nat):Op->Bool
 |.call c=>match c.callee with
  |.value (.func f)=>KF.contains (f+1000000)
  |_=>false
 |_=>false
def f1w (KF:List Nat):Op->Bool
 |.call c=>match c.callee with
  |.value (.func f)=>KF.contains f
  |_=>false
 |_=>false
def mkJ (KF:List Nat) (ops:Array Oper):List (Nat×List Nat):=
 let tab:=b6M [] ops.toList
 let l:=ops.toList.zipIdx
 ((l.filter fun x=>isO KF x.1.op).map fun x=>(x.2,[x.2]))++(l.filter fun x=>f1w KF x.1.op||writer x.1.op).filterMap fun x=>
  let u:=(l.filter fun y=>x.2 != y.2&&!hfree y.1.op&&!((tab.getD x.2 0).testBit y.2||(tab.getD y.2 0).testBit x.2)).map (·.2)
  if f1w KF x.1.op||!u.isEmpty then some (x.2,u) else none
def slR (id:Nat) (so:List SO):List (Nat×List Nat)->SC
 |[]=>.region id so true
 |J=>.a4k id so ((J.filter fun q=>q.2 != [q.1]).map (·.1)) (J.flatMap fun q=>q.2.map fun y=>(q.1,y))
def slN (KF:List Nat) (L:List SC):Code->List SC->SC×List SC
 |.skip,b=>(.skip,b)
 |.region id ops d,b=>(if d then slR id (a6M ops ops.toList) (mkJ KF ops) else .region id (a6M ops ops.toList) false,b)
 |.seq x y,b=>let r:=slN KF L x b;let q:=slN KF L y r.2;(.seq r.1 q.1,q.2)
 |.cond c x y,b=>let r:=slN KF L x b;let q:=slN KF L y r.2;(.cond c r.1 q.1,q.2)
 |.block id x,b=>let r:=slN KF L x b;(.block id r.1,r.2)
 |.loop x,b=>let r:=slN KF L x b;(.loop (L.getD r.2.length .no),r.2++[r.1])
 |.exit id,b=>(.exit id,b)
 |.ret,b=>(.ret,b)
 |_,b=>(.no,b)
def slB (KF:List Nat) (b:Option Code) (L:List SC) (k:Nat):SC:=match b with
 |some c=>(slN KF L c []).2.getD k .no
 |none=>.no
def slW (KF:List Nat) (b:Option Code) (L:List SC):SC:=match b with
 |some c=>(slN KF L c []).1
 |none=>.no
open Go Go.Proofs
@[simp] theorem ty0:tyI Tryz.prog 0={ok:=false,sz:=1,ag:=false,bytes:=0,zero:=[Value.tuple {toList:=[]}],a22:=[],elem:=0,kind:=none,form:=0,eqs:=[],bld:=false}:=by kernel_rfl
@[simp] theorem ty3:tyI Tryz.prog 3={ok:=true,sz:=1,ag:=false,bytes:=8,zero:=[Value.int IntKind.i64 (0)],a22:=[],elem:=0,kind:=some IntKind.i64,form:=3,eqs:=[],bld:=false}:=by kernel_rfl
@[simp] theorem ty4:tyI Tryz.prog 4={ok:=true,sz:=1,ag:=false,bytes:=1,zero:=[Value.bool false],a22:=[],elem:=0,kind:=none,form:=4,eqs:=[],bld:=false}:=by kernel_rfl
@[simp] theorem ty5:tyI Tryz.prog 5={ok:=true,sz:=1,ag:=false,bytes:=1,zero:=[Value.int IntKind.u8 (0)],a22:=[],elem:=0,kind:=some IntKind.u8,form:=3,eqs:=[],bld:=false}:=by kernel_rfl
@[simp] theorem ty9:tyI Tryz.prog 9={ok:=true,sz:=1,ag:=false,bytes:=16,zero:=[Value.string ⟨#[]⟩],a22:=[],elem:=0,kind:=none,form:=1,eqs:=[],bld:=false}:=by kernel_rfl
@[simp] theorem f7L:tyI Tryz.prog 21={ok:=true,sz:=1,ag:=false,bytes:=4,zero:=[Value.int IntKind.i32 (0)],a22:=[],elem:=0,kind:=some IntKind.i32,form:=3,eqs:=[],bld:=false}:=by kernel_rfl
@[simp] theorem c49:tyI Tryz.prog 22={ok:=true,sz:=1,ag:=false,bytes:=24,zero:=[Value.slice none 0 0],a22:=[],elem:=9,kind:=none,form:=2,eqs:=[],bld:=false}:=by kernel_rfl
@[simp] theorem c5a:tyI Tryz.prog 23={ok:=true,sz:=1,ag:=false,bytes:=24,zero:=[Value.slice none 0 0],a22:=[],elem:=125,kind:=none,form:=2,eqs:=[],bld:=false}:=by kernel_rfl
@[simp] theorem f1x:tyI Tryz.prog 25={ok:=true,sz:=2,ag:=true,bytes:=48,zero:=[Value.slice none 0 0,Value.slice none 0 0],a22:=[(0,1,false),(1,1,false)],elem:=0,kind:=none,form:=5,eqs:=[],bld:=true}:=by kernel_rfl
@[simp] theorem f7M:tyI Tryz.prog 26={ok:=true,sz:=1,ag:=false,bytes:=24,zero:=[Value.slice none 0 0],a22:=[],elem:=53,kind:=none,form:=2,eqs:=[],bld:=false}:=by kernel_rfl
@[simp] theorem d3I:tyI Tryz.prog 27={ok:=true,sz:=1,ag:=false,bytes:=24,zero:=[Value.slice none 0 0],a22:=[],elem:=3,kind:=none,form:=2,eqs:=[],bld:=false}:=by kernel_rfl
@[simp] theorem f7N:tyI Tryz.prog 29={ok:=true,sz:=4,ag:=true,bytes:=96,zero:=[Value.slice none 0 0,Value.slice none 0 0,Value.slice none 0 0,Value.slice none 0 0],a22:=[(0,2,true),(2,1,false),(3,1,false)],elem:=0,kind:=none,form:=5,eqs:=[],bld:=true}:=by kernel_rfl
@[simp] theorem f7O:tyI Tryz.prog 30={ok:=true,sz:=1,ag:=false,bytes:=24,zero:=[Value.slice none 0 0],a22:=[],elem:=42,kind:=none,form:=2,eqs:=[],bld:=false}:=by kernel_rfl
@[simp] theorem f7P:tyI Tryz.prog 32={ok:=true,sz:=6,ag:=true,bytes:=128,zero:=[Value.slice none 0 0,Value.slice none 0 0,Value.slice none 0 0,Value.slice none 0 0,Value.int IntKind.i64 (0),Value.slice none 0 0],a22:=[(0,4,true),(4,1,false),(5,1,false)],elem:=0,kind:=none,form:=5,eqs:=[],bld:=true}:=by kernel_rfl
@[simp] theorem f7Q:tyI Tryz.prog 36={ok:=true,sz:=1,ag:=false,bytes:=8,zero:=[Value.int IntKind.i64 (0)],a22:=[],elem:=0,kind:=some IntKind.i64,form:=3,eqs:=[],bld:=false}:=by kernel_rfl
@[simp] theorem f7R:tyI Tryz.prog 38={ok:=true,sz:=7,ag:=true,bytes:=72,zero:=[Value.int IntKind.i64 (0),Value.int IntKind.i64 (0),Value.int IntKind.i64 (0),Value.int IntKind.i64 (0),Value.int IntKind.i64 (0),Value.int IntKind.i64 (0),Value.slice none 0 0],a22:=[(0,1,false),(1,1,false),(2,1,false),(3,1,false),(4,1,false),(5,1,false),(6,1,false)],elem:=0,kind:=none,form:=5,eqs:=[],bld:=true}:=by kernel_rfl
@[simp] theorem f7S:tyI Tryz.prog 42={ok:=true,sz:=9,ag:=true,bytes:=104,zero:=[Value.int IntKind.i64 (0),Value.int IntKind.i64 (0),Value.int IntKind.i64 (0),Value.int IntKind.i64 (0),Value.int IntKind.i64 (0),Value.int IntKind.i64 (0),Value.int IntKind.i64 (0),Value.slice none 0 0,Value.slice none 0 0],a22:=[(0,1,false),(1,7,true),(8,1,false)],elem:=0,kind:=none,form:=5,eqs:=[],bld:=true}:=by kernel_rfl
@[simp] theorem f7T:tyI Tryz.prog 50={ok:=true,sz:=3,ag:=true,bytes:=24,zero:=[Value.int IntKind.i64 (0),Value.int IntKind.i64 (0),Value.int IntKind.i64 (0)],a22:=[(0,1,false),(1,1,false),(2,1,false)],elem:=0,kind:=none,form:=5,eqs:=[3,3,3],bld:=true}:=by kernel_rfl
@[simp] theorem f7U:tyI Tryz.prog 51={ok:=true,sz:=1,ag:=false,bytes:=24,zero:=[Value.slice none 0 0],a22:=[],elem:=50,kind:=none,form:=2,eqs:=[],bld:=false}:=by kernel_rfl
@[simp] theorem f7V:tyI Tryz.prog 53={ok:=true,sz:=11,ag:=true,bytes:=112,zero:=[Value.int IntKind.i64 (0),Value.int IntKind.i64 (0),Value.int IntKind.i64 (0),Value.int IntKind.i64 (0),Value.int IntKind.i64 (0),Value.int IntKind.i64 (0),Value.string ⟨#[]⟩,Value.slice none 0 0,Value.int IntKind.i64 (0),Value.int IntKind.i64 (0),Value.int IntKind.i64 (0)],a22:=[(0,1,false),(1,1,false),(2,1,false),(3,3,true),(6,1,false),(7,1,false),(8,1,false),(9,1,false),(10,1,false)],elem:=0,kind:=none,form:=5,eqs:=[],bld:=true}:=by kernel_rfl
@[simp] theorem f7W:tyI Tryz.prog 65={ok:=true,sz:=1,ag:=false,bytes:=24,zero:=[Value.slice none 0 0],a22:=[],elem:=5,kind:=none,form:=2,eqs:=[],bld:=false}:=by kernel_rfl
@[simp] theorem f7X:tyI Tryz.prog 72={ok:=true,sz:=1,ag:=false,bytes:=24,zero:=[Value.slice none 0 0],a22:=[],elem:=27,kind:=none,form:=2,eqs:=[],bld:=false}:=by kernel_rfl
@[simp] theorem f7Y:tyI Tryz.prog 76={ok:=true,sz:=3,ag:=true,bytes:=72,zero:=[Value.slice none 0 0,Value.slice none 0 0,Value.slice none 0 0],a22:=[(0,1,false),(1,1,false),(2,1,false)],elem:=0,kind:=none,form:=5,eqs:=[],bld:=true}:=by kernel_rfl
@[simp] theorem f7Z:tyI Tryz.prog 77={ok:=true,sz:=1,ag:=false,bytes:=24,zero:=[Value.slice none 0 0],a22:=[],elem:=38,kind:=none,form:=2,eqs:=[],bld:=false}:=by kernel_rfl
@[simp] theorem f8a:tyI Tryz.prog 79={ok:=true,sz:=5,ag:=true,bytes:=120,zero:=[Value.slice none 0 0,Value.slice none 0 0,Value.slice none 0 0,Value.slice none 0 0,Value.slice none 0 0],a22:=[(0,3,true),(3,1,false),(4,1,false)],elem:=0,kind:=none,form:=5,eqs:=[],bld:=true}:=by kernel_rfl
@[simp] theorem f8b:tyI Tryz.prog 87={ok:=true,sz:=1,ag:=false,bytes:=24,zero:=[Value.slice none 0 0],a22:=[],elem:=97,kind:=none,form:=2,eqs:=[],bld:=false}:=by kernel_rfl
@[simp] theorem f8c:tyI Tryz.prog 97={ok:=true,sz:=13,ag:=true,bytes:=128,zero:=[Value.bool false,Value.int IntKind.i64 (0),Value.int IntKind.i64 (0),Value.int IntKind.i64 (0),Value.int IntKind.i64 (0),Value.int IntKind.i64 (0),Value.int IntKind.i64 (0),Value.int IntKind.i64 (0),Value.string ⟨#[]⟩,Value.slice none 0 0,Value.int IntKind.i64 (0),Value.int IntKind.i64 (0),Value.int IntKind.i64 (0)],a22:=[(0,1,false),(1,1,false),(2,11,true)],elem:=0,kind:=none,form:=5,eqs:=[],bld:=true}:=by kernel_rfl
@[simp] theorem b0x:tyI Tryz.prog 125={ok:=true,sz:=2,ag:=true,bytes:=24,zero:=[Value.int IntKind.i64 (0),Value.string ⟨#[]⟩],a22:=[(0,1,false),(1,1,false)],elem:=0,kind:=none,form:=5,eqs:=[3,1],bld:=true}:=by kernel_rfl
@[simp] theorem f3A:tyI Tryz.prog 152={ok:=true,sz:=1,ag:=false,bytes:=24,zero:=[Value.slice none 0 0],a22:=[],elem:=21,kind:=none,form:=2,eqs:=[],bld:=false}:=by kernel_rfl
@[simp] theorem f3B:tyI Tryz.prog 168={ok:=true,sz:=1,ag:=false,bytes:=8,zero:=[Value.int IntKind.u64 (0)],a22:=[],elem:=0,kind:=some IntKind.u64,form:=3,eqs:=[],bld:=false}:=by kernel_rfl
@[simp] theorem f3C:tyI Tryz.prog 188={ok:=true,sz:=1,ag:=false,bytes:=8,zero:=[Value.pointer none],a22:=[],elem:=0,kind:=none,form:=0,eqs:=[],bld:=false}:=by kernel_rfl
@[simp] theorem f3D:tyI Tryz.prog 189={ok:=true,sz:=1,ag:=false,bytes:=8,zero:=[Value.map none],a22:=[],elem:=0,kind:=none,form:=0,eqs:=[],bld:=false}:=by kernel_rfl
@[simp] theorem f3E:tyI Tryz.prog 190={ok:=true,sz:=1,ag:=false,bytes:=8,zero:=[Value.map none],a22:=[],elem:=0,kind:=none,form:=0,eqs:=[],bld:=false}:=by kernel_rfl
@[simp] theorem f3F:tyI Tryz.prog 192={ok:=true,sz:=3,ag:=true,bytes:=24,zero:=[Value.map none,Value.map none,Value.int IntKind.i64 (0)],a22:=[(0,1,false),(1,1,false),(2,1,false)],elem:=0,kind:=none,form:=5,eqs:=[],bld:=true}:=by kernel_rfl
@[simp] theorem f3G:tyI Tryz.prog 201={ok:=true,sz:=1,ag:=false,bytes:=4,zero:=[Value.int IntKind.u32 (0)],a22:=[],elem:=0,kind:=some IntKind.u32,form:=3,eqs:=[],bld:=false}:=by kernel_rfl
@[simp] theorem f3H:tyI Tryz.prog 204={ok:=true,sz:=1,ag:=false,bytes:=8,zero:=[Value.int IntKind.u64 (0)],a22:=[],elem:=0,kind:=some IntKind.u64,form:=3,eqs:=[],bld:=false}:=by kernel_rfl
@[simp] theorem f3I:tyI Tryz.prog 220={ok:=true,sz:=2,ag:=true,bytes:=24,zero:=[Value.string ⟨#[]⟩,Value.bool false],a22:=[(0,1,false),(1,1,false)],elem:=0,kind:=none,form:=5,eqs:=[1,4],bld:=true}:=by kernel_rfl
@[simp] theorem f3J:tyI Tryz.prog 228={ok:=true,sz:=2,ag:=true,bytes:=16,zero:=[Value.int IntKind.i64 (0),Value.int IntKind.i64 (0)],a22:=[(0,1,false),(1,1,false)],elem:=0,kind:=none,form:=5,eqs:=[3,3],bld:=true}:=by kernel_rfl
@[simp] theorem f3K:tyI Tryz.prog 253={ok:=true,sz:=2,ag:=true,bytes:=24,zero:=[Value.string ⟨#[]⟩,Value.bool false],a22:=[(0,1,false),(1,1,false)],elem:=0,kind:=none,form:=5,eqs:=[1,4],bld:=true}:=by kernel_rfl
@[simp] theorem f1y:b99 Tryz.prog 189=some (2,AC.raw (Value.int IntKind.i64 (0))):=by kernel_rfl
@[simp] theorem f1z:b99 Tryz.prog 190=some (0,AC.raw (Value.int IntKind.i64 (0))):=by kernel_rfl
theorem mixed:Tryz.prog.follows .mixedOrders=true:=by kernel_rfl
open Go Go.Proofs
def a3E:List Nat:=[]
def s34:SC:=(⟨_,by cbv⟩:{x//slW a3E Tryz.f34.body []=x}).1
theorem sl34:a0o Tryz.f34.body s34=some (unK s34,true):=by kernel_rfl
theorem f3L:a0I a0m Tryz.f34 0=true:=by kernel_rfl
def s36:SC:=(⟨_,by cbv⟩:{x//slW a3E Tryz.f36.body []=x}).1
theorem sl36:a0o Tryz.f36.body s36=some (unK s36,true):=by kernel_rfl
theorem f3M:a0I a0m Tryz.f36 0=true:=by kernel_rfl
def s37:SC:=(⟨_,by cbv⟩:{x//slW a3E Tryz.f37.body []=x}).1
theorem f3N:a0o Tryz.f37.body s37=some (unK s37,true):=by kernel_rfl
theorem f3O:a0I a0m Tryz.f37 0=true:=by kernel_rfl
def s38:SC:=(⟨_,by cbv⟩:{x//slW a3E Tryz.f38.body []=x}).1
theorem f3P:a0o Tryz.f38.body s38=some (unK s38,true):=by kernel_rfl
theorem f3Q:a0I a0m Tryz.f38 0=true:=by kernel_rfl
def b5g:SC:=(⟨_,by cbv⟩:{x//slB a3E Tryz.f40.body [] 0=x}).1
def s40:SC:=(⟨_,fun a=>by cbv⟩:{x:SC->SC//∀a,slW a3E Tryz.f40.body [a]=x a}).1 b5g
theorem f3R:a0o Tryz.f40.body s40=some (unK s40,true):=by kernel_rfl
theorem f3S:a0I a0m Tryz.f40 0=true:=by kernel_rfl
def s43:SC:=(⟨_,by cbv⟩:{x//slW a3E Tryz.f43.body []=x}).1
theorem f3T:a0o Tryz.f43.body s43=some (unK s43,true):=by kernel_rfl
theorem f3U:a0I a0m Tryz.f43 0=true:=by kernel_rfl
def c2d:SC:=(⟨_,by cbv⟩:{x//slB a3E Tryz.f47.body [] 0=x}).1
def c5O:SC:=(⟨_,fun a=>by cbv⟩:{x:SC->SC//∀a,slB a3E Tryz.f47.body [a] 1=x a}).1 c2d
def s47:SC:=(⟨_,fun a b=>by cbv⟩:{x:SC->SC->SC//∀a b,slW a3E Tryz.f47.body [a,b]=x a b}).1 c2d c5O
theorem f3V:a0o Tryz.f47.body s47=some (unK s47,true):=by kernel_rfl
theorem f3W:a0I a0m Tryz.f47 0=true:=by kernel_rfl
def c2e:SC:=(⟨_,by cbv⟩:{x//slB a3E Tryz.f52.body [] 0=x}).1
def s52:SC:=(⟨_,fun a=>by cbv⟩:{x:SC->SC//∀a,slW a3E Tryz.f52.body [a]=x a}).1 c2e
theorem f3X:a0o Tryz.f52.body s52=some (unK s52,true):=by kernel_rfl
theorem f3Y:a0I a0m Tryz.f52 0=true:=by kernel_rfl
def s59:SC:=(⟨_,by cbv⟩:{x//slW a3E Tryz.f59.body []=x}).1
theorem f3Z:a0o Tryz.f59.body s59=some (unK s59,true):=by kernel_rfl
theorem f4a:a0I a0m Tryz.f59 0=true:=by kernel_rfl
def s62:SC:=(⟨_,by cbv⟩:{x//slW a3E Tryz.f62.body []=x}).1
theorem f4b:a0o Tryz.f62.body s62=some (unK s62,true):=by kernel_rfl
theorem f4c:a0I a0m Tryz.f62 0=true:=by kernel_rfl
def s63:SC:=(⟨_,by cbv⟩:{x//slW a3E Tryz.f63.body []=x}).1
theorem f4d:a0o Tryz.f63.body s63=some (unK s63,true):=by kernel_rfl
theorem f4e:a0I a0m Tryz.f63 0=true:=by kernel_rfl
def c2f:SC:=(⟨_,by cbv⟩:{x//slB a3E Tryz.f67.body [] 0=x}).1
def s67:SC:=(⟨_,fun a=>by cbv⟩:{x:SC->SC//∀a,slW a3E Tryz.f67.body [a]=x a}).1 c2f
theorem f4f:a0o Tryz.f67.body s67=some (unK s67,true):=by kernel_rfl
theorem f4g:a0I a0m Tryz.f67 0=true:=by kernel_rfl
def c5P:SC:=(⟨_,by cbv⟩:{x//slB a3E Tryz.f71.body [] 0=x}).1
def s71:SC:=(⟨_,fun a=>by cbv⟩:{x:SC->SC//∀a,slW a3E Tryz.f71.body [a]=x a}).1 c5P
theorem f4h:a0o Tryz.f71.body s71=some (unK s71,true):=by kernel_rfl
theorem f4i:a0I a0m Tryz.f71 0=true:=by kernel_rfl
def s74:SC:=(⟨_,by cbv⟩:{x//slW a3E Tryz.f74.body []=x}).1
theorem f4j:a0o Tryz.f74.body s74=some (unK s74,true):=by kernel_rfl
theorem f4k:a0I a0m Tryz.f74 0=true:=by kernel_rfl
def c2g:SC:=(⟨_,by cbv⟩:{x//slB a3E Tryz.f78.body [] 0=x}).1
def s78:SC:=(⟨_,fun a=>by cbv⟩:{x:SC->SC//∀a,slW a3E Tryz.f78.body [a]=x a}).1 c2g
theorem f4l:a0o Tryz.f78.body s78=some (unK s78,true):=by kernel_rfl
theorem f4m:a0I a0m Tryz.f78 0=true:=by kernel_rfl
def c2h:SC:=(⟨_,by cbv⟩:{x//slB a3E Tryz.f79.body [] 0=x}).1
def s79:SC:=(⟨_,fun a=>by cbv⟩:{x:SC->SC//∀a,slW a3E Tryz.f79.body [a]=x a}).1 c2h
theorem f4n:a0o Tryz.f79.body s79=some (unK s79,true):=by kernel_rfl
theorem f4o:a0I a0m Tryz.f79 0=true:=by kernel_rfl
def c2i:SC:=(⟨_,by cbv⟩:{x//slB a3E Tryz.f81.body [] 0=x}).1
def s81:SC:=(⟨_,fun a=>by cbv⟩:{x:SC->SC//∀a,slW a3E Tryz.f81.body [a]=x a}).1 c2i
theorem f4p:a0o Tryz.f81.body s81=some (unK s81,true):=by kernel_rfl
theorem f4q:a0I a0m Tryz.f81 0=true:=by kernel_rfl
def s82:SC:=(⟨_,by cbv⟩:{x//slW a3E Tryz.f82.body []=x}).1
theorem f4r:a0o Tryz.f82.body s82=some (unK s82,true):=by kernel_rfl
theorem f4s:a0I a0m Tryz.f82 0=true:=by kernel_rfl
def s83:SC:=(⟨_,by cbv⟩:{x//slW a3E Tryz.f83.body []=x}).1
theorem f4t:a0o Tryz.f83.body s83=some (unK s83,true):=by kernel_rfl
theorem f4u:a0I a0m Tryz.f83 0=true:=by kernel_rfl
def s84:SC:=(⟨_,by cbv⟩:{x//slW a3E Tryz.f84.body []=x}).1
theorem f4v:a0o Tryz.f84.body s84=some (unK s84,true):=by kernel_rfl
theorem f4w:a0I a0m Tryz.f84 0=true:=by kernel_rfl
def s85:SC:=(⟨_,by cbv⟩:{x//slW a3E Tryz.f85.body []=x}).1
theorem f4x:a0o Tryz.f85.body s85=some (unK s85,true):=by kernel_rfl
theorem f4y:a0I a0m Tryz.f85 0=true:=by kernel_rfl
def s86:SC:=(⟨_,by cbv⟩:{x//slW a3E Tryz.f86.body []=x}).1
theorem f4z:a0o Tryz.f86.body s86=some (unK s86,true):=by kernel_rfl
theorem f4A:a0I a0m Tryz.f86 0=true:=by kernel_rfl
def s91:SC:=(⟨_,by cbv⟩:{x//slW a3E Tryz.f91.body []=x}).1
theorem f4B:a0o Tryz.f91.body s91=some (unK s91,true):=by kernel_rfl
theorem f4C:a0I a0m Tryz.f91 0=true:=by kernel_rfl
def b5h:SC:=(⟨_,by cbv⟩:{x//slB a3E Tryz.f93.body [] 0=x}).1
def s93:SC:=(⟨_,fun a=>by cbv⟩:{x:SC->SC//∀a,slW a3E Tryz.f93.body [a]=x a}).1 b5h
theorem f4D:a0o Tryz.f93.body s93=some (unK s93,true):=by kernel_rfl
theorem f4E:a0I a0m Tryz.f93 0=true:=by kernel_rfl
def b19:SC:=(⟨_,by cbv⟩:{x//slB a3E Tryz.f96.body [] 0=x}).1
def b5i:SC:=(⟨_,fun a=>by cbv⟩:{x:SC->SC//∀a,slB a3E Tryz.f96.body [a] 1=x a}).1 b19
def s96:SC:=(⟨_,fun a b=>by cbv⟩:{x:SC->SC->SC//∀a b,slW a3E Tryz.f96.body [a,b]=x a b}).1 b19 b5i
theorem f4F:a0o Tryz.f96.body s96=some (unK s96,true):=by kernel_rfl
theorem f4G:a0I a0m Tryz.f96 0=true:=by kernel_rfl
def b5j:SC:=(⟨_,by cbv⟩:{x//slB a3E Tryz.f111.body [] 0=x}).1
def e4s:SC:=(⟨_,fun a=>by cbv⟩:{x:SC->SC//∀a,slW a3E Tryz.f111.body [a]=x a}).1 b5j
theorem e4t:a0o Tryz.f111.body e4s=some (unK e4s,true):=by kernel_rfl
theorem e4u:a0I a0m Tryz.f111 0=true:=by kernel_rfl
def c2j:SC:=(⟨_,by cbv⟩:{x//slB a3E Tryz.f115.body [] 0=x}).1
def e4v:SC:=(⟨_,fun a=>by cbv⟩:{x:SC->SC//∀a,slW a3E Tryz.f115.body [a]=x a}).1 c2j
theorem e4w:a0o Tryz.f115.body e4v=some (unK e4v,true):=by kernel_rfl
theorem e4x:a0I a0m Tryz.f115 0=true:=by kernel_rfl
def c2k:SC:=(⟨_,by cbv⟩:{x//slB a3E Tryz.f116.body [] 0=x}).1
def e4y:SC:=(⟨_,fun a=>by cbv⟩:{x:SC->SC//∀a,slW a3E Tryz.f116.body [a]=x a}).1 c2k
theorem e4z:a0o Tryz.f116.body e4y=some (unK e4y,true):=by kernel_rfl
theorem e4A:a0I a0m Tryz.f116 0=true:=by kernel_rfl
def e4B:SC:=(⟨_,by cbv⟩:{x//slW a3E Tryz.f126.body []=x}).1
theorem e4C:a0o Tryz.f126.body e4B=some (unK e4B,true):=by kernel_rfl
theorem e4D:a0I a0m Tryz.f126 0=true:=by kernel_rfl
def e4E:SC:=(⟨_,by cbv⟩:{x//slW a3E Tryz.f127.body []=x}).1
theorem e4F:a0o Tryz.f127.body e4E=some (unK e4E,true):=by kernel_rfl
theorem e4G:a0I a0m Tryz.f127 0=true:=by kernel_rfl
def e4H:SC:=(⟨_,by cbv⟩:{x//slW a3E Tryz.f128.body []=x}).1
theorem e4I:a0o Tryz.f128.body e4H=some (unK e4H,true):=by kernel_rfl
theorem e4J:a0I a0m Tryz.f128 0=true:=by kernel_rfl
def e4K:SC:=(⟨_,by cbv⟩:{x//slW a3E Tryz.f129.body []=x}).1
theorem e4L:a0o Tryz.f129.body e4K=some (unK e4K,true):=by kernel_rfl
theorem e4M:a0I a0m Tryz.f129 0=true:=by kernel_rfl
def d3J:SC:=(⟨_,by cbv⟩:{x//slW a3E Tryz.f136.body []=x}).1
theorem e4N:a0o Tryz.f136.body d3J=some (unK d3J,true):=by kernel_rfl
theorem e4O:a0I a0m Tryz.f136 0=true:=by kernel_rfl
def e4P:SC:=(⟨_,by cbv⟩:{x//slW a3E Tryz.f137.body []=x}).1
theorem e4Q:a0o Tryz.f137.body e4P=some (unK e4P,true):=by kernel_rfl
theorem e4R:a0I a0m Tryz.f137 0=true:=by kernel_rfl
def e4S:SC:=(⟨_,by cbv⟩:{x//slW a3E Tryz.f139.body []=x}).1
theorem e4T:a0o Tryz.f139.body e4S=some (unK e4S,true):=by kernel_rfl
theorem e4U:a0I a0m Tryz.f139 0=true:=by kernel_rfl
def b9e:SC:=(⟨_,by cbv⟩:{x//slB a3E Tryz.f173.body [] 0=x}).1
def e4V:SC:=(⟨_,fun a=>by cbv⟩:{x:SC->SC//∀a,slW a3E Tryz.f173.body [a]=x a}).1 b9e
theorem e4W:a0o Tryz.f173.body e4V=some (unK e4V,true):=by kernel_rfl
theorem e4X:a0I a0m Tryz.f173 0=true:=by kernel_rfl
def b9f:SC:=(⟨_,by cbv⟩:{x//slB a3E Tryz.f174.body [] 0=x}).1
def e4Y:SC:=(⟨_,fun a=>by cbv⟩:{x:SC->SC//∀a,slW a3E Tryz.f174.body [a]=x a}).1 b9f
theorem e4Z:a0o Tryz.f174.body e4Y=some (unK e4Y,true):=by kernel_rfl
theorem e40:a0I a0m Tryz.f174 0=true:=by kernel_rfl
def e41:SC:=(⟨_,by cbv⟩:{x//slW a3E Tryz.f178.body []=x}).1
theorem e42:a0o Tryz.f178.body e41=some (unK e41,true):=by kernel_rfl
theorem e43:a0I a0m Tryz.f178 0=true:=by kernel_rfl
attribute [simp] Tryz.results34 Tryz.results36 Tryz.results37 Tryz.results38 Tryz.results40 Tryz.results43 Tryz.results47 Tryz.results52 Tryz.results59 Tryz.results62 Tryz.results63 Tryz.results67 Tryz.results71 Tryz.results74 Tryz.results78 Tryz.results79 Tryz.results81 Tryz.results82 Tryz.results83 Tryz.results84 Tryz.results85 Tryz.results86 Tryz.results91 Tryz.results93 Tryz.results96 Tryz.results111 Tryz.results115 Tryz.results116 Tryz.results126 Tryz.results127 Tryz.results128 Tryz.results129 Tryz.results136 Tryz.results137 Tryz.results139 Tryz.results173 Tryz.results174 Tryz.results178
open Go
variable {P:Program} {F:CT} {d:Bool} {dst:Option Nat} {st:St} {K:St->Prop}
def wd {α:Type} (x:α):α:=x
@[simp] theorem f4H {α:Type} {x:α}:wd x=x:=(rfl)
def onV (v:AV) (k:AV->Prop):Prop:=k v
@[simp] theorem f1A {v:AV} {k:AV->Prop}:onV v k=k v:=(rfl)
@[congr] theorem f1B {v v':AV} {k:AV->Prop} (h:v=v'):onV v k=onV v' k:=by rw [h]
def onN (H:Heap) (T:Nat) (rows:List (List AC)) (c:AC) (k:Heap->Nat->List (List AC)->AC->Prop):Prop:=k H T rows c
@[simp] theorem f1C {H:Heap} {T:Nat} {rows:List (List AC)} {c:AC} {k:Heap->Nat->List (List AC)->AC->Prop}:onN H T rows c k=k H T rows c:=(rfl)
@[congr] theorem f1D {H H':Heap} {T T':Nat} {rows rows':List (List AC)} {c c':AC} {k:Heap->Nat->List (List AC)->AC->Prop} (h1:H=H') (h2:T=T') (h3:rows=rows') (h4:c=c'):onN H T rows c k=onN H' T' rows' c' k:=by rw [h1,h2,h3,h4]
def onA (H:Heap) (v:AV) (k:Heap->AV->Prop):Prop:=k H v
@[simp] theorem f1E {H:Heap} {v:AV} {k:Heap->AV->Prop}:onA H v k=k H v:=(rfl)
@[congr] theorem f1F {H H':Heap} {v v':AV} {k:Heap->AV->Prop} (h1:H=H') (h2:v=v'):onA H v k=onA H' v' k:=by rw [h1,h2]
theorem a0T {dr:Bool} {st:St} {dst:Option Nat} {f:FuncId} {args args':List AV} {ret:AV} {K:St->Prop} (hp:PEv P f args' ret) (hv:a4m st.H args=some args')
  (hun:a6K (a2k st dst) st.H 0 ret.flat) (hdr:dr=true->ret.flat.length<=1024/\dst.isSome=true) (hk:onA (wd (adH (a2k st dst) 0 ret.flat st.H)) (ret.ad (a2k st dst)) fun H v=>K ((st.hto H).put dst v)):a7b P dr st dst f args K:=.inl ⟨false,args',ret,hv,hp,hun,hdr,hk⟩
theorem a1f {dr:Bool} {st:St} {dst:Option Nat} {f:FuncId} {args args':List AV} {ret:AV} {K:St->Prop} (hv:a4m st.H args=some args') (hp:PEv P f (b6L true args args') ret)
  (hun:a6K (a2k st dst) st.H 0 ret.flat) (hdr:dr=true->ret.flat.length<=1024/\dst.isSome=true) (hk:onA (wd (adH (a2k st dst) 0 ret.flat st.H)) (ret.ad (a2k st dst)) fun H v=>K ((st.hto H).put dst v)):a7b P dr st dst f args K:=.inl ⟨true,args',ret,hv,hp,hun,hdr,hk⟩
theorem c0r (st:St) (d e sz:Nat) (rows:List (List AC)) (v:Id->AC) (K:St->Prop) :
  newObj st (some d) e sz rows v K=onN (wd st.H) st.T rows (v (st.T,d)) fun H T rows c=>H (T,d)=.a0h/\K ((st.hto (hset H (T,d) (.arr e sz false rows))).put (some d) (.c c)):=(rfl)
theorem c82 {x:Operand}:stepS P F d dst (.move x) st K=onV (st.eval x) fun v=>K (st.put dst v):=(rfl)
theorem c2l {x:Operand}:stepS P F d dst (.assign x) st K=onV (st.eval x) fun v=>K (st.put dst v):=(rfl)
def onB (v:AV) (k:Bool->Prop):Prop:=
 match v with
 |.c (.raw (.bool q))=>k q
 |_=>False
def onP {α:Type} (o:Option (Prop×α)) (k:α->Prop):Prop:=
 match o with
 |some (C,v)=>C/\k v
 |none=>False
@[simp] theorem f1G {q:Bool} {k:Bool->Prop}:onB (.c (.raw (.bool q))) k=k q:=(rfl)
@[simp] theorem b0Z {α:Type} {C:Prop} {v:α} {k:α->Prop}:onP (some (C,v)) k=(C/\k v):=(rfl)
@[simp] theorem d9N {α:Type} {k:α->Prop}:onP none k=False:=(rfl)
@[congr] theorem f1H {v v':AV} {k:Bool->Prop} (h:v=v'):onB v k=onB v' k:=by rw [h]
@[congr] theorem f1I {α:Type} {o o':Option (Prop×α)} {k:α->Prop} (h:o=o'):onP o k=onP o' k:=by rw [h]
def c7D (b:Bool) (y n:Prop):Prop:=(b=true->y)/\(b=false->n)
def d0R (b:Bool) (y n:Prop):Prop:=(b=false->y)/\(b=true->n)
@[simp high,simp ↓] theorem d3K {y n:Prop}:c7D true y n=y:=by simp [c7D]
@[simp high,simp ↓] theorem d0S {y n:Prop}:c7D false y n=n:=by simp [c7D]
@[simp high,simp ↓] theorem d3L {y n:Prop}:d0R true y n=n:=by simp [d0R]
@[simp high,simp ↓] theorem d0T {y n:Prop}:d0R false y n=y:=by simp [d0R]
@[simp low] theorem e44 {b:Bool} {y n:Prop}:c7D b y n=((b=true->y)/\(b=false->n)):=(rfl)
@[simp low] theorem e45 {b:Bool} {y n:Prop}:d0R b y n=((b=false->y)/\(b=true->n)):=(rfl)
theorem c83 {c a b:Operand}:stepS P F d dst (.pick c a b) st K=onB (st.eval c) fun q=>c7D q (onV (st.eval a) fun v=>K (st.put dst v)) (onV (st.eval b) fun v=>K (st.put dst v)):=(rfl)
theorem d3M {t:TypeId} {x:Operand}:stepS P F d dst (.unOp .not t x) st K=onB (st.eval x) fun q=>K (st.put dst (.c (.raw (.bool (!q))))):=(rfl)
theorem c84 {c:Operand} {x y:SC} {Q:AEx->St->Prop}:a2K P F (.cond c x y) Q st=onB (st.eval c) fun b=>c7D b (a2K P F x Q st) (a2K P F y Q st):=(rfl)
theorem c5Q {e:TypeId}:stepS P F d dst (.alloc e) st K=((tyI P e).ok=true/\newObj st dst e (tyI P e).sz [(tyI P e).zero.map a4d] (fun id=>.pt id 0 0) K):=(rfl)
def d3N (ti:TyI) (H:Heap) (v:AV):Option (Prop×List (List AC)):=
 match v.cells with
 |some cs=>some (ti.ok=true/\cs.length=ti.sz/\cs.all (AC.one H)=true,[cs])
 |none=>none
theorem d3O {e:TypeId} {x:Operand}:stepS P F d dst (.box e x) st K=onP (d3N (tyI P e) st.H (st.eval x)) fun rows=>newObj st dst e (tyI P e).sz rows (fun id=>.pt id 0 0) K:=by
 simp only [stepS,aop,d3N]
 cases (st.eval x).cells with
 |none=>rfl
 |some cs=>simp only [b0Z,and_assoc]
def c2m (ti:TyI) (o:Option (List AC)):Option (Prop×AV):=o.map fun cs=>(ti.ok=true/\ti.bld=true,.g cs)
theorem c5R {t:TypeId} {parts:Array (Nat×Operand)}:stepS P F d dst (.build t parts) st K=onP (c2m (tyI P t) (a9b st.H (tyI P t).a22 ((tyI P t).zero.map a4d) (parts.toList.map fun q=>(q.1,st.eval q.2)))) fun v=>K (st.put dst v):=by
 simp only [stepS,aop,c2m]
 split
 ·rename_i h;rw [h];rfl
 ·rename_i h;rw [h];rfl
def c85 (ti te:TyI) (len:Nat) (o:Option (List (List AC))):Option (Prop×List (List AC)):=o.map fun rows=>(ti.form=2/\te.ok=true/\rows.length=len/\len*te.sz<=16777216/\0<te.sz,rows)
theorem b2a {t:TypeId} {len:Nat} {parts:Array (Nat×Operand)}:stepS P F d dst (.buildSlice t len parts) st K=onP (c85 (tyI P t) (tyI P (tyI P t).elem) len (a9c st.H (tyI P (tyI P t).elem).sz 0 (parts.toList.map fun q=>(q.1,st.eval q.2)))) fun rows=>newObj st dst (tyI P t).elem (tyI P (tyI P t).elem).sz rows (fun id=>.so id 0 len) K:=by
 simp only [stepS,aop,c85]
 split
 ·rename_i h;rw [h];rfl
 ·rename_i h;rw [h];rfl
def b63 (ti:TyI) (row:Option (List AC)) (j:Nat):Option (Prop×AV):=
 match row with
 |some row=>(a6r ti.ag ti.sz row j).map fun v=>(ti.ok=true,v)
 |none=>none
def d0U (H:Heap) (id:Id) (i:Nat):Option (List AC):=
 match H id with
 |.arr _ _ _ rows=>rows[i]?
 |_=>none
def c2n (ti:TyI) (H:Heap) (v:AV):Option (Prop×AV):=
 match v with
 |.c (.pt id i j)=>b63 ti (d0U H id i) j
 |.c (.pv _ row j)=>b63 ti (some row) j
 |_=>none
theorem c86 {t:TypeId} {x:Operand}:stepS P F d dst (.load t x) st K=onP (c2n (tyI P t) st.H (st.eval x)) fun v=>K (st.put dst v):=by
 simp only [stepS,aop]
 generalize st.eval x=v
 cases v with
 |c y=>
  cases y with
  |pt id i j=>
   simp only [c2n,b63,d0U]
   cases st.H id with
   |arr e sz frz rows=>
    simp only
    cases rows[i]? with
    |none=>rfl
    |some row=>
     simp only
     cases a6r (tyI P t).ag (tyI P t).sz row j<;>rfl
   |_=>rfl
  |pv tg row j=>
   simp only [c2n,b63]
   cases a6r (tyI P t).ag (tyI P t).sz row j<;>rfl
  |_=>rfl
 |_=>rfl
def b9g (ti:TyI) (H:Heap) (x v:AV):Option (Prop×Heap):=
 match x,v.cells with
 |.c (.pt id i j),some cs=>match H id with
  |.arr e sz false rows=>match rows[i]? with
   |some row=>some (ti.ok=true/\cs.length=ti.sz/\cs.all (AC.one H)=true/\j+cs.length<=row.length,hset H id (.arr e sz false (rows.set i (lay row j cs))))
   |none=>none
  |_=>none
 |_,_=>none
theorem c5S {t:TypeId} {x v:Operand}:stepS P F d dst (.store t x v) st K=onP (b9g (tyI P t) st.H (st.eval x) (st.eval v)) fun H=>K ((st.hto H).put dst (.c (.raw undef))):=by
 simp only [stepS,aop]
 generalize st.eval x=u
 generalize st.eval v=q
 unfold b9g
 cases q.cells with
 |none=>cases u with
  |c y=>cases y<;>rfl
  |_=>rfl
 |some cs=>cases u with
  |c y=>cases y with
   |pt id i j=>
    simp only
    cases st.H id with
    |arr e sz frz rows=>
     cases frz with
     |true=>rfl
     |false=>
      simp only
      cases rows[i]?<;>rfl
    |_=>rfl
   |_=>rfl
  |_=>rfl
def f1J (H:Heap) (v:AV):Option (Prop×AV):=
 match v with
 |.c (.pt id i j)=>some ((H id).live=true,.c (.pt id i j))
 |_=>none
theorem b64 {x:Operand}:stepS P F d dst (.nilCheck x) st K=onP (f1J st.H (st.eval x)) fun v=>K (st.put dst v):=by
 simp only [stepS,aop]
 generalize st.eval x=v
 cases v with
 |c y=>cases y<;>rfl
 |_=>rfl
theorem b2b {op:BinOp} {t t':TypeId} {x y:Operand} (hy:c15 y=false):stepS P F d dst (.binOp op t x y t') st K=onP (a4l (tyI P t) op (st.eval x) (st.eval y)) fun c=>K (st.put dst (.c c)):=by
 simp only [stepS,hy,Bool.false_eq_true,if_false,aop]
 cases a4l (tyI P t) op (st.eval x) (st.eval y)<;>rfl
theorem c5T {op:BinOp} {t t':TypeId} {x:Operand} {y:Nat}:stepS P F d dst (.binOp op t x (.tmp y) t') st K=onP (a4l (tyI P t) op (st.eval x) (st.eval (.tmp y))) fun c=>K (st.put dst (.c c)):=b2b rfl
theorem c5U {op:BinOp} {t t':TypeId} {x:Operand} {k:IntKind} {n:Int}:stepS P F d dst (.binOp op t x (.const (.int k n)) t') st K=onP (a4l (tyI P t) op (st.eval x) (.c (.raw (.int k n)))) fun c=>K (st.put dst (.c c)):=b2b rfl
theorem c5V {op:BinOp} {t t':TypeId} {x:Operand} {s:ByteArray}:stepS P F d dst (.binOp op t x (.const (.string s)) t') st K=onP (a4l (tyI P t) op (st.eval x) (.c (.str s.data.toList))) fun c=>K (st.put dst (.c c)):=b2b rfl
def c2o (ti:TyI) (op:BinOp) (d:Bool) (v:AV) (k:Bool->Prop):Prop:=
 match op,v with
 |.eql,.c (.sl _ _ xs)=>d=false/\ti.form=2/\(xs=[]->k true)/\k false
 |.neq,.c (.sl _ _ xs)=>d=false/\ti.form=2/\(xs=[]->k false)/\k true
 |_,_=>False
@[congr] theorem d9O {ti:TyI} {op:BinOp} {v v':AV} {k:Bool->Prop} (h:v=v'):c2o ti op d v k=c2o ti op d v' k:=by rw [h]
@[simp] theorem d3P {ti:TyI} {t:Tag} {cl:Bool} {xs:List (List AC)} {k:Bool->Prop}:c2o ti .eql d (.c (.sl t cl xs)) k=(d=false/\ti.form=2/\(xs=[]->k true)/\k false):=(rfl)
theorem c0s {op:BinOp} {t t':TypeId} {x:Operand}:stepS P F d dst (.binOp op t x (.const (.slice none 0 0)) t') st K=c2o (tyI P t) op d (st.eval x) fun q=>K (st.put dst (.c (.raw (.bool q)))):=by
 simp only [stepS,c15,if_true,b9c,a4d]
 generalize st.eval x=v
 unfold c7C c2o
 cases op<;>(try (simp;done))
 all_goals
  cases v with
  |c y=>cases y<;>simp
  |_=>simp
def b5k (ts ti te:TyI) (H:Heap) (v:AV):Option (Prop×AV):=
 match v with
 |.c (.raw (.int _ n))=>ti.kind.map fun k=>(ts.form=3,.c (.raw (.int k (k.wrap n))))
 |.c (.str l)=>some (ts.form=1/\ti.form=1,.c (.str l))
 |.c x=>((rowsOf H x).bind a3a).map fun l=>(ts.form=2/\ti.form=1/\te.kind=some .u8,.c (.str l))
 |_=>none
def b5l (ts ti te tf:TyI) (e:Nat) (st:St) (dst:Option Nat) (v:AV) (K:St->Prop):Prop:=
 match v with
 |.c (.str l)=>if ti.form=2 then (ts.form=1/\tf.kind=some .u8/\l.length<=9223372036854775807)/\newObj st dst e 1 (l.map fun b=>[.raw (.int .u8 (b.toNat:Int))]) (fun id=>.so id 0 l.length) K
  else (ts.form=1/\ti.form=1)/\K (st.put dst (.c (.str l)))
 |v=>onP (b5k ts ti te st.H v) fun v=>K (st.put dst v)
theorem c5W {ts ti te tf:TyI} {e:Nat} {st st':St} {dst:Option Nat} {v v':AV} {K:St->Prop} (hs:st=st') (hv:v=v'):b5l ts ti te tf e st dst v K=b5l ts ti te tf e st' dst v' K:=by rw [hs,hv]
theorem c2p {ts ti te tf:TyI} {e:Nat} {st:St} {dst:Option Nat} {u:Value} {K:St->Prop}:b5l ts ti te tf e st dst (.c (.raw u)) K=onP (b5k ts ti te st.H (.c (.raw u))) fun v=>K (st.put dst v):=(rfl)
theorem c5X {ts ti te tf:TyI} {e:Nat} {st:St} {dst:Option Nat} {id:Id} {off len:Nat} {K:St->Prop}:b5l ts ti te tf e st dst (.c (.so id off len)) K=onP (b5k ts ti te st.H (.c (.so id off len))) fun v=>K (st.put dst v):=(rfl)
theorem c0t {src t:TypeId} {x:Operand}:stepS P F d dst (.convert src t x) st K=b5l (tyI P src) (tyI P t) (tyI P (tyI P src).elem) (tyI P (tyI P t).elem) (tyI P t).elem st dst (st.eval x) K:=by
 simp only [stepS,aop]
 generalize st.eval x=v
 cases v with
 |c y=>
  cases y with
  |str l=>rfl
  |raw u=>
   cases u with
   |int k n=>
    simp only [b5l,b5k]
    cases (tyI P t).kind<;>rfl
   |_=>
    simp only [b5l,b5k]
    generalize (Option.bind (rowsOf st.H _) a3a)=o
    cases o<;>rfl
  |_=>
   simp only [b5l,b5k]
   generalize (Option.bind (rowsOf st.H _) a3a)=o
   cases o<;>rfl
 |_=>rfl
def rFn (first:Array Operand) (f:FuncId) (o:Option (List AC)):Option (Prop×AV):=o.map fun cs=>(first=#[],.c (.fn f cs))
theorem b65 {f:FuncId} {first caps:Array Operand}:stepS P F d dst (.makeFunc (.func f) first caps) st K=onP (rFn first f (a5x st caps.toList)) fun v=>K (st.put dst v):=by
 simp only [stepS,aop,rFn]
 split
 ·rename_i h;rw [h];rfl
 ·rename_i h;rw [h];rfl
def c87 (ti te:TyI) (l c:AV):Option (Prop×Nat):=
 match l,c with
 |.c (.raw (.int .i64 n)),.c (.raw (.int .i64 m))=>some (n=m/\0<=n/\n<=9223372036854775807/\n*te.bytes<=281474976710656/\ti.form=2/\te.ok=true/\0<te.sz,n.toNat)
 |_,_=>none
theorem b5m {t:TypeId} {l c:Operand}:stepS P F d dst (.makeSlice t l c) st K=onP (c87 (tyI P t) (tyI P (tyI P t).elem) (st.eval l) (st.eval c)) fun n=>newObj st dst (tyI P t).elem (tyI P (tyI P t).elem).sz (List.replicate n ((tyI P (tyI P t).elem).zero.map a4d)) (fun id=>.so id 0 n) K:=by
 simp only [stepS,aop]
 generalize st.eval l=v
 generalize st.eval c=u
 unfold c87
 split
 ·rfl
 ·rename_i n
  split
  ·exact (n _ _ rfl rfl).elim
  ·rfl
def a7W (ti:TyI) (H:Heap) (f:Nat) (v:AV):Option (Prop×AV):=
 match v,ti.a22[f]? with
 |.c (.pt id i j),some (off,n,_)=>some ((ti.form=5/\0<n)/\(H id).live=true,.c (.pt id i (j+off)))
 |.c (.pv tg row j),some (off,n,_)=>some (ti.form=5/\0<n,.c (.pv tg row (j+off)))
 |_,_=>none
theorem b5n {t:TypeId} {x:Operand} {f:Nat}:stepS P F d dst (.fieldAddr t x f) st K=onP (a7W (tyI P t) st.H f (st.eval x)) fun v=>K (st.put dst v):=by
 simp only [stepS,aop]
 generalize st.eval x=v
 generalize hq:(tyI P t).a22[f]?=q
 unfold a7W
 rw [hq]
 split
 ·simp only [b0Z,and_assoc]
 ·rfl
 ·rename_i n1 n2
  split
  ·exact (n1 _ _ _ _ _ _ rfl rfl).elim
  ·exact (n2 _ _ _ _ _ _ rfl rfl).elim
  ·rfl
def b2c (ti te:TyI) (eid:TypeId) (H:Heap) (x ix:AV):Option (Prop×AV):=
 match x,ix with
 |.c (.sl tg _ xs),.c (.raw (.int _ i))=>some ((ti.form=2/\te.ok=true/\te.sz=(xs.getD i.toNat []).length)/\0<=i/\i<xs.length,.c (.pv tg (xs.getD i.toNat []) 0))
 |.c (.so id off len),.c (.raw (.int _ i))=>some ((ti.form=2/\te.ok=true/\∃frz rows,H id=.arr eid te.sz frz rows)/\0<=i/\i<len,.c (.pt id (off+i.toNat) 0))
 |_,_=>none
theorem b5o {t:TypeId} {x ix:Operand}:stepS P F d dst (.indexAddr t x ix) st K=onP (b2c (tyI P t) (tyI P (tyI P t).elem) (tyI P t).elem st.H (st.eval x) (st.eval ix)) fun v=>K (st.put dst v):=by
 simp only [stepS,aop]
 generalize st.eval x=v
 generalize st.eval ix=u
 unfold b2c
 split
 ·rfl
 ·rfl
 ·rename_i n1 n2
  split
  ·exact (n1 _ _ _ _ _ rfl rfl).elim
  ·exact (n2 _ _ _ _ _ rfl rfl).elim
  ·rfl
def c2q (ti:TyI) (x ix:AV):Option (Prop×AV):=
 match x,ix with
 |.c (.str l),.c (.raw (.int _ i))=>some (ti.form=1/\0<=i/\i<l.length,.c (.raw (.int .u8 (bts l i))))
 |_,_=>none
theorem c5Y {t:TypeId} {x ix:Operand}:stepS P F d dst (.index t x ix) st K=onP (c2q (tyI P t) (st.eval x) (st.eval ix)) fun v=>K (st.put dst v):=by
 simp only [stepS,aop]
 generalize st.eval x=v
 generalize st.eval ix=u
 unfold c2q
 split
 ·rfl
 ·rename_i n
  split
  ·exact (n _ _ _ rfl rfl).elim
  ·rfl
def b2d (i:Nat) (v:AV):Option (Prop×AV):=
 match v with
 |.t parts=>match parts[i]? with
  |some (true,cs)=>some (True,.g cs)
  |some (false,[c])=>some (True,.c c)
  |_=>none
 |_=>none
def rMk (o:Option (Nat×AC)):Option (Prop×Nat):=o.map fun q=>(True,q.1)
theorem c0u {t:TypeId} {e:Nat}:stepS P F d (some e) (.makeMap t none) st K=onP (rMk (b99 P t)) fun ag=>onA (wd st.H) (.c (.mr (st.T,e))) fun H v=>H (st.T,e)=.a0h/\K ((st.hto (hset H (st.T,e) (.mp ag []))).put (some e) v):=by
 simp only [stepS,aop,rMk]
 cases b99 P t with
 |none=>rfl
 |some q=>simp [wd,onA]
def c2r (ok:Bool) (ag:Nat) (z:AC) (o:OK) (k:Option (List Int)):Option (Prop×AV):=
 match o,k with
 |.mp ag' es,some ks=>some (ag'=ag,if ok=true then .t [(false,[(b4E es ks).getD z]),(false,[.raw (.bool (b4E es ks).isSome)])] else .c ((b4E es ks).getD z))
 |_,_=>none
def c88 (ok:Bool) (mi:Option (Nat×AC)) (H:Heap) (v k:AV):Option (Prop×AV):=
 match v,mi with
 |.c (.mr id),some (ag,z)=>c2r ok ag z (H id) (keysOf ag k)
 |_,_=>none
theorem c2s {t:TypeId} {x ix:Operand} {ok:Bool}:stepS P F d dst (.lookup t x ix ok) st K=onP (c88 ok (b99 P t) st.H (st.eval x) (st.eval ix)) fun v=>K (st.put dst v):=by
 simp only [stepS,aop]
 generalize st.eval x=v
 generalize b99 P t=mi
 cases v with
 |c y=>cases y with
  |mr id=>cases mi with
   |none=>rfl
   |some q=>
    obtain ⟨ag,z⟩:=q
    simp only [c88,c2r]
    generalize keysOf ag (st.eval ix)=kk
    cases st.H id<;>cases kk<;>rfl
  |_=>rfl
 |_=>rfl
def c5Z (ag:Nat) (H:Heap) (id:Id) (x:AC) (o:OK) (k:Option (List Int)):Option (Prop×Heap):=
 match o,k with
 |.mp ag' es,some ks=>some (ag'=ag/\AC.one H x=true,hset H id (.mp ag (c5m es ks x)))
 |_,_=>none
def e46 (mi:Option (Nat×AC)) (H:Heap) (m k v:AV):Option (Prop×Heap):=
 match m,mi,v with
 |.c (.mr id),some (ag,_),.c x=>c5Z ag H id x (H id) (keysOf ag k)
 |_,_,_=>none
theorem b5p {t:TypeId} {m k v:Operand}:stepS P F d dst (.mapUpdate t m k v) st K=onP (e46 (b99 P t) st.H (st.eval m) (st.eval k) (st.eval v)) fun H=>K ((st.hto H).put dst (.c (.raw undef))):=by
 simp only [stepS,aop]
 generalize st.eval m=u
 generalize st.eval v=q
 generalize b99 P t=mi
 cases u with
 |c y=>cases y with
  |mr id=>cases mi with
   |none=>rfl
   |some p=>
    obtain ⟨ag,z⟩:=p
    cases q with
    |c x=>
     simp only [e46,c5Z]
     generalize keysOf ag (st.eval k)=kk
     cases st.H id<;>cases kk<;>rfl
    |_=>rfl
  |_=>rfl
 |_=>rfl
section
variable {ag ag':Nat} {z x:AC} {id:Id} {H:Heap} {k:AV} {ok:Bool} {es:List (List Int×AC)} {ks:List Int} {n:Nat} {a:Int} {xs:List AC} {l:List Int}
@[simp] theorem f1K:rMk (some (ag,z))=some (True,ag):=(rfl)
@[simp] theorem d9P:c88 ok (some (ag,z)) H (.c (.mr id)) k=c2r ok ag z (H id) (keysOf ag k):=(rfl)
@[simp] theorem e47:c2r true ag z (.mp ag' es) (some ks)=some (ag'=ag,.t [(false,[(b4E es ks).getD z]),(false,[.raw (.bool (b4E es ks).isSome)])]):=(rfl)
@[simp] theorem e48:c2r false ag z (.mp ag' es) (some ks)=some (ag'=ag,.c ((b4E es ks).getD z)):=(rfl)
@[simp] theorem e49:e46 (some (ag,z)) H (.c (.mr id)) k (.c x)=c5Z ag H id x (H id) (keysOf ag k):=(rfl)
@[simp] theorem d9Q:c5Z ag H id x (.mp ag' es) (some ks)=some (ag'=ag/\AC.one H x=true,hset H id (.mp ag (c5m es ks x))):=(rfl)
@[simp] theorem d9R:keysOf 0 (.c (.raw (.int .i64 a)))=some [a]:=(rfl)
def kG (n:Nat) (l:Option (List Int)):Option (List Int):=l.bind fun l=>if l.length=n/\n≠0 then some l else none
@[simp] theorem d9S:keysOf n (.g xs)=kG n (intsOf xs):=by
 cases h:intsOf xs<;>simp [keysOf,kG,h]
@[simp] theorem f4I:kG n (some l)=if l.length=n/\n≠0 then some l else none:=(rfl)
@[simp] theorem d9T:intsOf []=some []:=(rfl)
@[simp] theorem d9U:intsOf (.raw (.int .i64 a)::xs)=(intsOf xs).map fun l=>a::l:=(rfl)
end
theorem c0v {x:Operand} {i:Nat}:stepS P F d dst (.extract x i) st K=onP (b2d i (st.eval x)) fun v=>K (st.put dst v):=by
 simp only [stepS,aop]
 generalize st.eval x=v
 unfold b2d
 cases v with
 |t parts=>
  simp only
  cases parts[i]? with
  |none=>rfl
  |some q=>
   obtain ⟨b,cs⟩:=q
   cases b with
   |true=>simp
   |false=>
    cases cs with
    |nil=>rfl
    |cons c cs=>cases cs<;>simp
 |_=>rfl
def b5q (ti te:TyI) (eid:TypeId) (H:Heap) (x:AV) (lo hi mx:Option AV):Option (Prop×AV):=
 match x with
 |.c (.str l)=>
  match lo.getD (.c (.raw (.int .i64 0))),hi.getD (.c (.raw (.int .i64 l.length))) with
  |.c (.raw (.int _ i)),.c (.raw (.int _ j))=>some (ti.form=1/\mx.isNone=true/\0<=i/\i<=j/\j<=l.length,.c (.str ((l.take j.toNat).drop i.toNat)))
  |_,_=>none
 |.c (.sl tg _ xs)=>
  match lo.getD (.c (.raw (.int .i64 0))),hi.getD (.c (.raw (.int .i64 xs.length))),mx with
  |.c (.raw (.int _ i)),.c (.raw (.int _ j)),none=>some (ti.form=2/\te.ok=true/\(∀r∈xs,r.length=te.sz)/\0<=i/\i<=j/\j<=xs.length,.c (.sl tg false ((xs.take j.toNat).drop i.toNat)))
  |.c (.raw (.int _ i)),.c (.raw (.int _ j)),some (.c (.raw (.int _ m)))=>some (ti.form=2/\te.ok=true/\(∀r∈xs,r.length=te.sz)/\0<=i/\i<=j/\j=m/\m<=xs.length/\hi.isSome=true,.c (.sl tg true ((xs.take j.toNat).drop i.toNat)))
  |_,_,_=>none
 |.c (.so id off len)=>
  match lo.getD (.c (.raw (.int .i64 0))),hi.getD (.c (.raw (.int .i64 len))),mx with
  |.c (.raw (.int _ i)),.c (.raw (.int _ j)),none=>some (ti.form=2/\te.ok=true/\(∃sz frz rows,H id=.arr eid sz frz rows/\sz=te.sz)/\0<=i/\i<=j/\j<=len,.c (.so id (off+i.toNat) (j.toNat-i.toNat)))
  |_,_,_=>none
 |_=>none
theorem c50 {t:TypeId} {x:Operand} {lo hi mx:Option Operand}:stepS P F d dst (.slice t x lo hi mx) st K=onP (b5q (tyI P t) (tyI P (tyI P t).elem) (tyI P t).elem st.H (st.eval x) (lo.map st.eval) (hi.map st.eval) (mx.map st.eval)) fun v=>K (st.put dst v):=by
 have e1:(mx.map st.eval).isNone=mx.isNone:=by cases mx<;>rfl
 have e2:(hi.map st.eval).isSome=hi.isSome:=by cases hi<;>rfl
 have e3:mx.map st.eval=none->True:=fun _=>trivial
 simp only [stepS,aop,b5q,e1,e2]
 generalize st.eval x=v
 generalize lo.map st.eval=l
 generalize hi.map st.eval=h
 generalize mx.map st.eval=m
 cases v with
 |c y=>
  cases y with
  |str s=>
   simp only
   generalize l.getD _=p
   generalize h.getD _=q
   cases p<;>(try rfl)
   rename_i p
   cases p<;>(try rfl)
   rename_i p
   cases p<;>(try rfl)
   cases q<;>(try rfl)
   rename_i q
   cases q<;>(try rfl)
   rename_i q
   cases q<;>rfl
  |sl tg cl xs=>
   simp only
   generalize l.getD _=p
   generalize h.getD _=q
   cases p<;>(try rfl)
   rename_i p
   cases p<;>(try rfl)
   rename_i p
   cases p<;>(try rfl)
   cases q<;>(try rfl)
   rename_i q
   cases q<;>(try rfl)
   rename_i q
   cases q<;>(try rfl)
   cases m<;>(try rfl)
   rename_i m
   cases m<;>(try rfl)
   rename_i m
   cases m<;>(try rfl)
   rename_i m
   cases m<;>rfl
  |so id off len=>
   simp only
   generalize l.getD _=p
   generalize h.getD _=q
   cases p<;>(try rfl)
   rename_i p
   cases p<;>(try rfl)
   rename_i p
   cases p<;>(try rfl)
   cases q<;>(try rfl)
   rename_i q
   cases q<;>(try rfl)
   rename_i q
   cases q<;>(try rfl)
   cases m<;>rfl
  |_=>rfl
 |_=>rfl
def c7E (v:AV) (k:FuncId->List AC->Prop):Prop:=
 match v with
 |.c (.fn g caps)=>k g caps
 |_=>False
@[simp] theorem e5a {g:FuncId} {caps:List AC} {k:FuncId->List AC->Prop}:c7E (.c (.fn g caps)) k=k g caps:=(rfl)
@[congr] theorem e5b {v v':AV} {k:FuncId->List AC->Prop} (h:v=v'):c7E v k=c7E v' k:=by rw [h]
theorem go_call {f:Operand} {args:Array Operand} {ts:Array TypeId}:stepS P F d dst (.call {callee:=.value f,args:=args,argTypes:=ts}) st K=c7E (st.eval f) fun g caps=>a9A P F d st dst g (args.toList.map st.eval++caps.map .c) K:=by
 simp only [stepS]
 generalize st.eval f=v
 cases v with
 |c y=>cases y<;>rfl
 |_=>rfl
theorem c0w {b:Builtin} {l:List Operand} {ts:List TypeId}:stepS P F d dst (.call {callee:=.builtin b,args:=⟨l⟩,argTypes:=⟨ts⟩}) st K=abi P dst b l ts st K:=(rfl)
def d3Q (ti:TyI) (H:Heap) (v:AV):Option (Prop×AV):=
 match v with
 |.c (.str l)=>some (ti.form=1,.c (.raw (.int .i64 l.length)))
 |.c (.so id _ len)=>some (ti.form=2/\(H id).live=true,.c (.raw (.int .i64 len)))
 |.c (.sl _ _ xs)=>some (ti.form=2,.c (.raw (.int .i64 xs.length)))
 |.c (.raw (.slice none 0 0))=>some (ti.form=2,.c (.raw (.int .i64 0)))
 |_=>none
theorem d3R {x:Operand} {t:TypeId}:abi P dst .len [x] [t] st K=onP (d3Q (tyI P t) st.H (st.eval x)) fun v=>K (st.put dst v):=by
 simp only [abi]
 generalize st.eval x=v
 unfold d3Q
 split
 ·rfl
 ·rfl
 ·rfl
 ·rfl
 ·rename_i n1 n2 n3 n4
  split
  ·exact (n1 _ rfl).elim
  ·exact (n2 _ _ _ rfl).elim
  ·exact (n3 _ _ _ rfl).elim
  ·exact (n4 rfl).elim
  ·rfl
def onE (g:Option Ent) (H:Heap) (args:List AV) (fall:Prop) (k:AV->Prop) (m:List (Id×OK)->AV->Prop):Prop:=
 match g with
 |some (.pu h)=>onP ((a4m H args).bind h) k
 |some (.mu h)=>onP (h H args) fun r=>m r.1 r.2
 |none=>fall
@[simp] theorem d3S {H:Heap} {args:List AV} {h:List AV->Option (Prop×AV)} {fall:Prop} {k:AV->Prop} {m:List (Id×OK)->AV->Prop}:onE (some (.pu h)) H args fall k m=onP ((a4m H args).bind h) k:=(rfl)
@[simp] theorem d3T {H:Heap} {args:List AV} {h:MH} {fall:Prop} {k:AV->Prop} {m:List (Id×OK)->AV->Prop}:onE (some (.mu h)) H args fall k m=onP (h H args) fun r=>m r.1 r.2:=(rfl)
@[simp] theorem d9V {H:Heap} {args:List AV} {fall:Prop} {k:AV->Prop} {m:List (Id×OK)->AV->Prop}:onE none H args fall k m=fall:=(rfl)
@[congr] theorem f1L {g g':Option Ent} {H:Heap} {args:List AV} {fall:Prop} {k:AV->Prop} {m:List (Id×OK)->AV->Prop} (h:g=g'):onE g H args fall k m=onE g' H args fall k m:=by rw [h]
theorem c51 {f:FuncId} {args:List AV}:a9A P F d st dst f args K =
  onE (a0b F f) st.H args (a7b P d st dst f args K)
   (fun ret=>a6K (a2k st dst) st.H 0 ret.flat/\(d=true->ret.flat.length<=1024/\dst.isSome=true)/\onA (wd (adH (a2k st dst) 0 ret.flat st.H)) (ret.ad (a2k st dst)) fun H v=>K ((st.hto H).put dst v))
   fun us ret=>d=false/\a6K (a2k st dst) st.H 0 ret.flat/\onA (wd (adH (a2k st dst) 0 ret.flat (upH st.H us))) (ret.ad (a2k st dst)) fun H v=>K ((st.hto H).put dst v):=by
 unfold a9A
 cases a0b F f with
 |none=>rfl
 |some e=>
  cases e with
  |pu h=>
   simp only [d3S]
   cases a4m st.H args with
   |none=>rfl
   |some args'=>
    simp only [Option.bind_some]
    cases h args' with
    |none=>rfl
    |some q=>rfl
  |mu h=>
   simp only [d3T]
   cases h st.H args with
   |none=>rfl
   |some q=>rfl
def onD (g:Option Ent) (H:Heap) (args:List AV) (m:List (Id×OK)->AV->Prop):Prop:=
 match g with
 |some (.mu h)=>onP (h H args) fun r=>m r.1 r.2
 |_=>False
@[simp] theorem d3U {H:Heap} {args:List AV} {h:MH} {m:List (Id×OK)->AV->Prop}:onD (some (.mu h)) H args m=onP (h H args) fun r=>m r.1 r.2:=(rfl)
@[congr] theorem f1M {g g':Option Ent} {H:Heap} {args:List AV} {m:List (Id×OK)->AV->Prop} (h:g=g'):onD g H args m=onD g' H args m:=by rw [h]
theorem c52 {f:Operand} {args:Array Operand} {ts:Array TypeId} {K:List Id->St->Prop}:a5t P F ⟨dst,.call {callee:=.value f,args:=args,argTypes:=ts},none⟩ st K =
  c7E (st.eval f) fun g caps=>onD (a0b F g) st.H (args.toList.map st.eval++caps.map .c) fun us ret=>a6K (a2k st dst) st.H 0 ret.flat/\(ret.flat.length<=1024/\dst.isSome=true)/\
   onA (wd (adH (a2k st dst) 0 ret.flat (upH st.H us))) (ret.ad (a2k st dst)) fun H v=>K (us.map (·.1)) ((st.hto H).put dst v):=by
 unfold a5t c7E
 simp only
 first
 |done
 |generalize st.eval f=v
  cases v with
  |c x=>
   cases x with
   |fn g caps=>
    simp only
    cases a0b F g with
    |none=>rfl
    |some e=>
     cases e with
     |pu h=>rfl
     |mu h=>
      simp only [d3U]
      cases h st.H _ with
      |none=>rfl
      |some q=>rfl
   |_=>rfl
  |_=>rfl
theorem c53 {f:Operand} {args:Array Operand} {ts:Array TypeId} {K:St->Prop}:a5I P F dst (.call {callee:=.value f,args:=args,argTypes:=ts}) st K =
  c7E (st.eval f) fun g caps=>c16 P F st dst g (args.toList.map st.eval++caps.map .c) K:=by
 unfold a5I c7E
 simp only
 first
 |done
 |generalize st.eval f=v
  cases v with
  |c x=>cases x<;>rfl
  |_=>rfl
def d3V (v:AV) (k:Id->Prop):Prop:=
 match v with
 |.c (.pt id _ _)=>k id
 |_=>False
@[simp] theorem e5c {id:Id} {i j:Nat} {k:Id->Prop}:d3V (.c (.pt id i j)) k=k id:=(rfl)
@[congr] theorem e5d {v v':AV} {k:Id->Prop} (h:v=v'):d3V v k=d3V v' k:=by rw [h]
theorem c2t {t:TypeId} {x v:Operand} {K:List Id->St->Prop}:a5t P F ⟨dst,.store t x v,none⟩ st K=d3V (st.eval x) fun id=>stepS P F true dst (.store t x v) st (K [id]):=by
 unfold a5t d3V
 simp only [stepS]
 first
 |done
 |generalize st.eval x=u
  cases u with
  |c c=>cases c<;>rfl
  |_=>rfl
theorem c54 {js:List Nat} {prs:List (Nat×Nat)} {i:Nat} {W:List (Nat×Id)} {N:List (Nat×AV)} {K:List (Nat×Id)->List (Nat×AV)->St->Prop}:a8D P F js prs [] i W N K st=K W N st:=(rfl)
theorem c2u {js:List Nat} {prs:List (Nat×Nat)} {i:Nat} {W:List (Nat×Id)} {N:List (Nat×AV)} {op:Op} {l:List SO} {K:List (Nat×Id)->List (Nat×AV)->St->Prop}:a8D P F js prs (⟨dst,op,none⟩::l) i W N K st =
  if prs.contains (i,i)=true then a5I P F dst op st (a8D P F js prs l (i+1) W (if prs.any (·.2==i)=true then a3q i op st++N else N) K)
  else if js.contains i=true then a5t P F ⟨dst,op,none⟩ st fun W' st'=>a8D P F js prs l (i+1) (W'.map (fun id=>(i,id))++W) (if prs.any (·.2==i)=true then a3q i op st++N else N) K st'
  else stepS P F true dst op st (a8D P F js prs l (i+1) W (if prs.any (·.2==i)=true then a3q i op st++N else N) K):=(rfl)
theorem c0x {js:List Nat} {prs:List (Nat×Nat)} {i:Nat} {W:List (Nat×Id)} {N:List (Nat×AV)} {op:Op} {l:List SO} {gs:Option Nat} {want:Bool} {K:List (Nat×Id)->List (Nat×AV)->St->Prop}:a8D P F js prs (⟨dst,op,some (gs,want)⟩::l) i W N K st =
  if prs.contains (i,i)=true then agd gs want st (fun st'=>a5I P F dst op st' (a8D P F js prs l (i+1) W (if prs.any (·.2==i)=true then a3q i op st++N else N) K)) (fun st'=>a8D P F js prs l (i+1) W (if prs.any (·.2==i)=true then a3q i op st++N else N) K (st'.put dst (.c (.raw undef))))
  else if js.contains i=true then False
  else agd gs want st (fun st'=>stepS P F true dst op st' (a8D P F js prs l (i+1) W (if prs.any (·.2==i)=true then a3q i op st++N else N) K))
     (fun st'=>a8D P F js prs l (i+1) W (if prs.any (·.2==i)=true then a3q i op st++N else N) K (st'.put dst (.c (.raw undef)))):=by
 rw [a8D]
 by_cases hp:prs.contains (i,i)=true
 ·rw [if_pos hp,if_pos hp]
 rw [if_neg hp,if_neg hp]
 by_cases hj:js.contains i=true
 ·rw [if_pos hj,if_pos hj]
  unfold a5t
  cases op<;>rfl
 ·rw [if_neg hj,if_neg hj]
theorem c55 {f:FuncId} {args args':List AV} {K:St->Prop} {st st':St} (h:st=st') (ha:args=args'):c16 P F st dst f args K=c16 P F st' dst f args' K:=by rw [h,ha]
attribute [congr] c55
attribute [simp ↓] c53 c52 c2t c54 c2u c0x
attribute [simp] a3q Op.operands
@[simp] theorem f4J {id:Id} {c:AC}:idV id (.c c)↔idC id c:=by simp [idV,AV.flat]
@[simp] theorem f1N {id i:Id} {j k:Nat}:idC id (.pt i j k)↔id=i:=⟨(fun h=>by cases h;rfl),(fun h=>by subst h;constructor)⟩
@[simp] theorem e5e {id:Id} {v:Value}:idC id (.raw v)↔False:=⟨(fun h=>nomatch h),(fun h=>h.elim)⟩
@[simp] theorem e5f {id:Id} {l:List UInt8}:idC id (.str l)↔False:=⟨(fun h=>nomatch h),(fun h=>h.elim)⟩
@[simp] theorem f1O {id:Id} {t:Tag} {cl:Bool} {xs:List (List AC)}:idC id (.sl t cl xs)↔False:=⟨(fun h=>nomatch h),(fun h=>h.elim)⟩
attribute [simp] upH
section
variable {ti te ts:TyI} {H:Heap} {id:Id} {i j off len n eid:Nat} {row cs:List AC} {rows xs:List (List AC)} {tg:Tag} {cl:Bool} {c:AC} {k k' k'':IntKind} {a b m:Int} {l:List UInt8} {v:AV}
@[simp] theorem f1P:d3N ti H (.c c)=some (ti.ok=true/\1=ti.sz/\AC.one H c=true,[[c]]):=by simp [d3N,AV.cells]
@[simp] theorem f1Q:d3N ti H (.g cs)=some (ti.ok=true/\cs.length=ti.sz/\cs.all (AC.one H)=true,[cs]):=(rfl)
@[simp] theorem d3W:c2m ti (some cs)=some (ti.ok=true/\ti.bld=true,.g cs):=(rfl)
@[simp] theorem d9W:c85 ti te n (some rows)=some (ti.form=2/\te.ok=true/\rows.length=n/\n*te.sz<=16777216/\0<te.sz,rows):=(rfl)
@[simp] theorem d9X:b63 ti (some row) j=(a6r ti.ag ti.sz row j).map fun v=>(ti.ok=true,v):=(rfl)
@[simp] theorem d9Y:c2n ti H (.c (.pt id i j))=b63 ti (d0U H id i) j:=(rfl)
@[simp] theorem d9Z:c2n ti H (.c (.pv tg row j))=b63 ti (some row) j:=(rfl)
def rowAt (o:OK) (i:Nat):Option (List AC):=
 match o with
 |.arr _ _ _ rows=>rows[i]?
 |_=>none
@[simp] theorem e5g:d0U H id i=rowAt (H id) i:=(rfl)
@[simp] theorem e0a {e sz:Nat} {f:Bool}:rowAt (.arr e sz f rows) i=rows[i]?:=(rfl)
def e5h (ti:TyI) (H:Heap) (id:Id) (i j:Nat) (cs:List AC) (o:OK):Option (Prop×Heap):=
 match o with
 |.arr e sz false rows=>match rows[i]? with
   |some row=>some (ti.ok=true/\cs.length=ti.sz/\cs.all (AC.one H)=true/\j+cs.length<=row.length,hset H id (.arr e sz false (rows.set i (lay row j cs))))
   |none=>none
 |_=>none
def c89 (ti:TyI) (H:Heap) (id:Id) (i j e sz:Nat) (cs:List AC) (rows:List (List AC)) (o:Option (List AC)):Option (Prop×Heap):=
 o.map fun row=>(ti.ok=true/\cs.length=ti.sz/\cs.all (AC.one H)=true/\j+cs.length<=row.length,hset H id (.arr e sz false (rows.set i (lay row j cs))))
@[simp] theorem e0b:b9g ti H (.c (.pt id i j)) (.c c)=e5h ti H id i j [c] (H id):=(rfl)
@[simp] theorem e0c:b9g ti H (.c (.pt id i j)) (.g cs)=e5h ti H id i j cs (H id):=(rfl)
@[simp] theorem e5i {e sz:Nat}:e5h ti H id i j cs (.arr e sz false rows)=c89 ti H id i j e sz cs rows rows[i]?:=by
 show (match rows[i]? with
   |some row=>some (ti.ok=true/\cs.length=ti.sz/\cs.all (AC.one H)=true/\j+cs.length<=row.length,hset H id (.arr e sz false (rows.set i (lay row j cs))))
   |none=>none)=_
 unfold c89
 generalize rows[i]?=o
 cases o<;>rfl
@[simp] theorem e0d {e sz:Nat}:c89 ti H id i j e sz cs rows (some row)=some (ti.ok=true/\cs.length=ti.sz/\cs.all (AC.one H)=true/\j+cs.length<=row.length,hset H id (.arr e sz false (rows.set i (lay row j cs)))):=(rfl)
@[simp] theorem e5j:f1J H (.c (.pt id i j))=some ((H id).live=true,.c (.pt id i j)):=(rfl)
@[simp] theorem d3X:b5k ts ti te H (.c (.raw (.int k a)))=ti.kind.map fun k=>(ts.form=3,.c (.raw (.int k (k.wrap a)))):=(rfl)
@[simp] theorem e0e:b5k ts ti te H (.c (.so id off len))=((rowsOf H (.so id off len)).bind a3a).map fun l=>(ts.form=2/\ti.form=1/\te.kind=some .u8,.c (.str l)):=(rfl)
@[simp] theorem f1R {first:Array Operand} {f:FuncId}:rFn first f (some cs)=some (first=#[],.c (.fn f cs)):=(rfl)
@[simp] theorem e0f:c87 ti te (.c (.raw (.int .i64 a))) (.c (.raw (.int .i64 b)))=some (a=b/\0<=a/\a<=9223372036854775807/\a*te.bytes<=281474976710656/\ti.form=2/\te.ok=true/\0<te.sz,a.toNat):=(rfl)
@[simp] theorem d0V {f:Nat}:a7W ti H f (.c (.pt id i j))=ti.a22[f]?.map fun q=>((ti.form=5/\0<q.2.1)/\(H id).live=true,.c (.pt id i (j+q.1))):=by
 unfold a7W
 cases ti.a22[f]?<;>rfl
@[simp] theorem d0W {f:Nat}:a7W ti H f (.c (.pv tg row j))=ti.a22[f]?.map fun q=>(ti.form=5/\0<q.2.1,.c (.pv tg row (j+q.1))):=by
 unfold a7W
 cases ti.a22[f]?<;>rfl
@[simp] theorem d0X:b2c ti te eid H (.c (.sl tg cl xs)) (.c (.raw (.int k a)))=some ((ti.form=2/\te.ok=true/\te.sz=(xs.getD a.toNat []).length)/\0<=a/\a<xs.length,.c (.pv tg (xs.getD a.toNat []) 0)):=(rfl)
@[simp] theorem d0Y:b2c ti te eid H (.c (.so id off len)) (.c (.raw (.int k a)))=some ((ti.form=2/\te.ok=true/\∃frz rows,H id=.arr eid te.sz frz rows)/\0<=a/\a<len,.c (.pt id (off+a.toNat) 0)):=(rfl)
@[simp] theorem d3Y:c2q ti (.c (.str l)) (.c (.raw (.int k a)))=some (ti.form=1/\0<=a/\a<l.length,.c (.raw (.int .u8 (bts l a)))):=(rfl)
def e5k (o:Option (Bool×List AC)):Option (Prop×AV):=
 match o with
 |some (true,cs)=>some (True,.g cs)
 |some (false,[c])=>some (True,.c c)
 |_=>none
@[simp] theorem c9a {ps:List (Bool×List AC)}:b2d i (.t ps)=e5k ps[i]?:=(rfl)
@[simp] theorem f1S:e5k (some (true,cs))=some (True,.g cs):=(rfl)
@[simp] theorem f1T:e5k (some (false,[c]))=some (True,.c c):=(rfl)
@[simp] theorem d0Z {lo hi mx:Option AV}:b5q ti te eid H (.c (.str l)) lo hi mx=(match lo.getD (.c (.raw (.int .i64 0))),hi.getD (.c (.raw (.int .i64 l.length))) with
  |.c (.raw (.int _ i)),.c (.raw (.int _ j))=>some (ti.form=1/\mx.isNone=true/\0<=i/\i<=j/\j<=l.length,.c (.str ((l.take j.toNat).drop i.toNat)))
  |_,_=>none):=(rfl)
@[simp] theorem d3Z {lo hi mx:Option AV}:b5q ti te eid H (.c (.sl tg cl xs)) lo hi mx=(match lo.getD (.c (.raw (.int .i64 0))),hi.getD (.c (.raw (.int .i64 xs.length))),mx with
  |.c (.raw (.int _ i)),.c (.raw (.int _ j)),none=>some (ti.form=2/\te.ok=true/\(∀r∈xs,r.length=te.sz)/\0<=i/\i<=j/\j<=xs.length,.c (.sl tg false ((xs.take j.toNat).drop i.toNat)))
  |.c (.raw (.int _ i)),.c (.raw (.int _ j)),some (.c (.raw (.int _ m)))=>some (ti.form=2/\te.ok=true/\(∀r∈xs,r.length=te.sz)/\0<=i/\i<=j/\j=m/\m<=xs.length/\hi.isSome=true,.c (.sl tg true ((xs.take j.toNat).drop i.toNat)))
  |_,_,_=>none):=(rfl)
@[simp] theorem d4a {lo hi mx:Option AV}:b5q ti te eid H (.c (.so id off len)) lo hi mx=(match lo.getD (.c (.raw (.int .i64 0))),hi.getD (.c (.raw (.int .i64 len))),mx with
  |.c (.raw (.int _ i)),.c (.raw (.int _ j)),none=>some (ti.form=2/\te.ok=true/\(∃sz frz rows,H id=.arr eid sz frz rows/\sz=te.sz)/\0<=i/\i<=j/\j<=len,.c (.so id (off+i.toNat) (j.toNat-i.toNat)))
  |_,_,_=>none):=(rfl)
@[simp] theorem e0g:d3Q ti H (.c (.str l))=some (ti.form=1,.c (.raw (.int .i64 l.length))):=(rfl)
@[simp] theorem e5l:d3Q ti H (.c (.so id off len))=some (ti.form=2/\(H id).live=true,.c (.raw (.int .i64 len))):=(rfl)
@[simp] theorem e5m:d3Q ti H (.c (.sl tg cl xs))=some (ti.form=2,.c (.raw (.int .i64 xs.length))):=(rfl)
end
variable {ti:TyI} {k:IntKind} {a b:Int}
theorem c9b:a4l ti .add (.c (.raw (.int k a))) (.c (.raw (.int k b)))=some (True,.raw (.int k (k.wrap (a+b)))):=by simp [a4l,b98]
theorem c9c:a4l ti .sub (.c (.raw (.int k a))) (.c (.raw (.int k b)))=some (True,.raw (.int k (k.wrap (a-b)))):=by simp [a4l,b98]
theorem c9d:a4l ti .mul (.c (.raw (.int k a))) (.c (.raw (.int k b)))=some (True,.raw (.int k (k.wrap (a*b)))):=by simp [a4l,b98]
theorem c9e:a4l ti .lss (.c (.raw (.int k a))) (.c (.raw (.int k b)))=some (True,.raw (.bool (decide (a<b)))):=by simp [a4l,b98]
theorem c9f:a4l ti .leq (.c (.raw (.int k a))) (.c (.raw (.int k b)))=some (True,.raw (.bool (decide (a<=b)))):=by simp [a4l,b98]
theorem c9g:a4l ti .gtr (.c (.raw (.int k a))) (.c (.raw (.int k b)))=some (True,.raw (.bool (decide (b<a)))):=by simp [a4l,b98]
theorem c9h:a4l ti .geq (.c (.raw (.int k a))) (.c (.raw (.int k b)))=some (True,.raw (.bool (decide (b<=a)))):=by simp [a4l,b98]
theorem c9i:a4l ti .eql (.c (.raw (.int k a))) (.c (.raw (.int k b)))=some (True,.raw (.bool (decide (a=b)))):=by simp [a4l,b98]
theorem c9j:a4l ti .neq (.c (.raw (.int k a))) (.c (.raw (.int k b)))=some (True,.raw (.bool (!decide (a=b)))):=by simp [a4l,b98]
def d4b (k:IntKind) (a b:Int):Int:=k.wrap (BitVec.ofInt k.bits a &&&BitVec.ofInt k.bits b).toNat
def ior (k:IntKind) (a b:Int):Int:=k.wrap (BitVec.ofInt k.bits a |||BitVec.ofInt k.bits b).toNat
theorem c9k:a4l ti .and (.c (.raw (.int k a))) (.c (.raw (.int k b)))=some (True,.raw (.int k (d4b k a b))):=by simp [a4l,b98,d4b]
theorem d4c:a4l ti .or (.c (.raw (.int k a))) (.c (.raw (.int k b)))=some (True,.raw (.int k (ior k a b))):=by simp [a4l,b98,ior]
theorem c9l {k':IntKind}:a4l ti .shl (.c (.raw (.int k a))) (.c (.raw (.int k' b)))=some (0<=b,.raw (.int k (k.wrap (a*2^(min b.toNat k.bits))))):=by simp [a4l]
theorem c9m {k':IntKind}:a4l ti .shr (.c (.raw (.int k a))) (.c (.raw (.int k' b)))=some (0<=b,.raw (.int k (a.fdiv (2^(min b.toNat k.bits))))):=by simp [a4l]
theorem c9n:a4l ti .quo (.c (.raw (.int k a))) (.c (.raw (.int k b)))=some (b≠0,.raw (.int k (k.wrap (a.tdiv b)))):=by simp [a4l]
theorem c9o:a4l ti .rem (.c (.raw (.int k a))) (.c (.raw (.int k b)))=some (b≠0,.raw (.int k (a.tmod b))):=by simp [a4l]
variable {x y:List UInt8} {p q:Bool} {xs ys:List AC}
theorem c56:a4l ti .add (.c (.str x)) (.c (.str y))=some (x.length+y.length<=9223372036854775807,.str (x++y)):=by simp [a4l]
theorem c57:a4l ti .eql (.c (.str x)) (.c (.str y))=some (True,.raw (.bool (decide (x=y)))):=by simp [a4l]
theorem c58:a4l ti .neq (.c (.str x)) (.c (.str y))=some (True,.raw (.bool (!decide (x=y)))):=by simp [a4l]
theorem e5n {op:BinOp}:a4l ti op (.g xs) (.g ys)=aeq op (a0S ti.eqs xs ys) ti.eqs:=by simp [a4l]
variable {H:Heap} {v v':Value} {l l':List UInt8} {t t':Tag} {cl cl':Bool} {rows rows':List (List AC)} {id:Id} {off len e sz:Nat} {n:Int}
@[simp] theorem d4d:a4d (.int k n)=.raw (.int k n):=(rfl)
@[simp] theorem d00:a4d (.bool p)=.raw (.bool p):=(rfl)
@[simp] theorem c7F {s:ByteArray}:a4d (.string s)=.str s.data.toList:=(rfl)
@[simp] theorem c9p {x:Option Addr} {i j:Nat}:a4d (.slice x i j)=.raw (.slice x i j):=(rfl)
@[simp] theorem c59 {x:Option Addr}:a4d (.pointer x)=.raw (.pointer x):=(rfl)
@[simp] theorem e0h {f:Bool}:(OK.arr e sz f rows).live=true:=(rfl)
@[simp] theorem e5o {x:AC}:(AV.c x).cells=some [x]:=(rfl)
@[simp] theorem e5p {xs:List AC}:(AV.g xs).cells=some xs:=(rfl)
@[simp] theorem d4e:a5d H []=some []:=(rfl)
@[simp] theorem d01 {c:AC} {r:List AC}:a5d H (c::r)=(match a11 H c,a5d H r with
  |some x,some xs=>some (x::xs)
  |_,_=>none):=(rfl)
@[simp] theorem d4f:a4m H []=some []:=(rfl)
@[simp] theorem d02 {c:AV} {r:List AV}:a4m H (c::r)=(match a4e H c,a4m H r with
  |some x,some xs=>some (x::xs)
  |_,_=>none):=(rfl)
section
variable {nm:Nat->Id} {i:Nat} {r:List AC}
@[simp] theorem f1U {x:AC}:(AV.c x).flat=[x]:=(rfl)
@[simp] theorem f1V {xs:List AC}:(AV.g xs).flat=xs:=(rfl)
@[simp] theorem f1W {xs:List (Bool×List AC)}:(AV.t xs).flat=a3M xs:=(rfl)
@[simp] theorem f8d {x:AC}:(AV.c x).ad nm=.c (adC nm 0 x):=(rfl)
@[simp] theorem f8e {xs:List AC}:(AV.g xs).ad nm=.g (adL nm 0 xs):=(rfl)
@[simp] theorem f8f {xs:List (Bool×List AC)}:(AV.t xs).ad nm=.t (adT nm 0 xs):=(rfl)
@[simp] theorem f1X:adC nm i (.nw e sz rows)=.so (nm i) 0 rows.length:=(rfl)
@[simp] theorem e5q:adC nm i (.raw v)=.raw v:=(rfl)
@[simp] theorem e5r:adC nm i (.str l)=.str l:=(rfl)
@[simp] theorem f1Y:adC nm i (.sl t cl rows)=.sl t cl rows:=(rfl)
@[simp] theorem e5s:c1w id (.nw e sz rows) H=hset H id (.arr e sz false rows):=(rfl)
@[simp] theorem e0i:c1w id (.raw v) H=H:=(rfl)
@[simp] theorem e0j:c1w id (.str l) H=H:=(rfl)
@[simp] theorem e5t:c1w id (.sl t cl rows) H=H:=(rfl)
@[simp] theorem e0k:a6K nm H i []=True:=(rfl)
@[simp] theorem e5u:a6K nm H i (.nw e sz rows::r)=(H (nm i)=.a0h/\a6K nm H (i+1) r):=(rfl)
@[simp] theorem e0l:a6K nm H i (.raw v::r)=a6K nm H (i+1) r:=(rfl)
@[simp] theorem e0m:a6K nm H i (.str l::r)=a6K nm H (i+1) r:=(rfl)
@[simp] theorem e5v:a6K nm H i (.sl t cl rows::r)=a6K nm H (i+1) r:=(rfl)
@[simp] theorem d4g:a2p []=[]:=(rfl)
@[simp] theorem e0n:a2p (.so id off len::r)=id::a2p r:=(rfl)
@[simp] theorem d4h:a2p (.raw v::r)=a2p r:=(rfl)
@[simp] theorem d4i:a2p (.str l::r)=a2p r:=(rfl)
@[simp] theorem e0o:a2p (.sl t cl rows::r)=a2p r:=(rfl)
end
@[simp] theorem e5w:exL H [] []=True:=(rfl)
@[simp] theorem e0p {c c':AC} {r r':List AC}:exL H (c::r) (c'::r')=(exC H c c'/\exL H r r'):=(rfl)
@[simp] theorem e5x:exT H [] []=True:=(rfl)
@[simp] theorem e0q {b b':Bool} {c c':List AC} {r r':List (Bool×List AC)}:exT H ((b,c)::r) ((b',c')::r')=(b=b'/\exL H c c'/\exT H r r'):=(rfl)
@[simp] theorem c9q:a3a []=some []:=(rfl)
@[simp] theorem c7G {r:List (List AC)}:a3a ([.raw (.int .u8 n)]::r)=(a3a r).map fun l=>UInt8.ofNat n.toNat::l:=(rfl)
@[simp] theorem e5y:exC H (.raw v) (.raw v')=(v=v'):=by unfold exC;split<;>simp_all
@[simp] theorem e5z:exC H (.str l) (.str l')=(l=l'):=(rfl)
@[simp] theorem d4j:exC H (.so id off len) (.nw e sz rows)=(off=0/\H id=.arr e sz false rows/\len=rows.length):=(rfl)
@[simp] theorem d4k:exC H (.so id off len) (.sl t cl rows)=(t≠.brw/\cl=false/\rowsOf H (.so id off len)=some rows):=(rfl)
@[simp] theorem d03:exC H (.raw (.slice none 0 0)) (.nw e sz rows)=(rows=[]):=(rfl)
@[simp] theorem d04:exC H (.raw (.slice none 0 0)) (.sl t cl rows)=(rows=[]):=(rfl)
@[simp] theorem d4l:exC H (.sl t cl rows) (.sl t' cl' rows')=(rows=rows'/\(t'=t\/(t=.new/\t'=.old))/\t'≠.brw/\(cl'=true->cl=true)):=(rfl)
@[simp] theorem f4K {x y:AC}:exV H (.c x) (.c y)=exC H x y:=(rfl)
@[simp] theorem f4L {x y:List AC}:exV H (.g x) (.g y)=exL H x y:=(rfl)
@[simp] theorem f4M {x y:List (Bool×List AC)}:exV H (.t x) (.t y)=exT H x y:=(rfl)
@[simp] theorem e0r:b0r (.raw v)=True:=by simp [b0r,a5B]
@[simp] theorem e0s:b0r (.str l)=True:=by simp [b0r,a5C]
@[simp] theorem e5A:b0r (.sl t cl rows)=(t≠.brw/\∀r∈rows,∀c∈r,a2f c):=by simp [b0r,a30]
@[simp] theorem e5B:b0r (.nw e sz rows)=(∀r∈rows,∀c∈r,a2f c):=(rfl)
attribute [simp] a5B a5C a30
@[simp] theorem e5C:VOK (.raw v)=True:=(rfl)
@[simp] theorem e5D:VOK (.str l)=True:=(rfl)
@[simp] theorem f1Z:VOK (.sl t cl rows)=(∀r∈rows,∀c∈r,a6J c):=(rfl)
@[simp] theorem f2a {f:FuncId} {caps:List AC}:VOK (.fn f caps)=(∀c∈caps,b6K c):=(rfl)
@[simp] theorem f2b {row:List AC} {i:Nat}:VOK (.pv t row i)=(∀c∈row,c1v c):=(rfl)
@[simp] theorem e5E {row:List AC} {i:Nat}:b6K (.pv t row i)=(∀c∈row,c1v c):=(rfl)
@[simp] theorem e5F:c1v (.sl t cl rows)=(∀r∈rows,∀c∈r,a6J c):=(rfl)
@[simp] theorem d4m:rowsOf H (.sl t cl rows)=some rows:=(rfl)
def c7H (o:OK) (off len:Nat):Option (List (List AC)):=
 match o with
 |.arr _ _ _ rows=>if off+len<=rows.length then some ((rows.drop off).take len) else none
 |_=>none
@[simp] theorem d4n:rowsOf H (.so id off len)=c7H (H id) off len:=(rfl)
@[simp] theorem d4o {f:Bool}:c7H (.arr e sz f rows) off len=if off+len<=rows.length then some ((rows.drop off).take len) else none:=(rfl)
@[simp] theorem d4p:a11 H (.raw (.slice none 0 0))=some (.sl .brw false []):=(rfl)
@[simp] theorem d4q:a11 H (.raw (.int k n))=some (.raw (.int k n)):=(rfl)
@[simp] theorem d05:a11 H (.raw (.bool p))=some (.raw (.bool p)):=(rfl)
@[simp] theorem d4r:a11 H (.str l)=some (.str l):=(rfl)
@[simp] theorem e0t:a11 H (.sl t cl rows)=some (.sl .brw false rows):=(rfl)
@[simp] theorem e0u:a11 H (.so id off len)=(rowsOf H (.so id off len)).map fun rows=>.sl .brw false rows:=(rfl)
@[simp] theorem e5G:a4e H (.g xs)=(a5d H xs).map .g:=(rfl)
@[simp] theorem e0v {f:FuncId} {caps:List AC}:a4e H (.c (.fn f caps))=(a4t H caps).map fun cs=>.c (.fn f cs):=(rfl)
def viewAt (o:OK) (i j:Nat):Option AC:=
 match o with
 |.arr _ _ _ rows=>match rows[i]? with
   |some row=>(a5d a0t row).map fun cs=>.pv .brw cs j
   |none=>none
 |_=>none
def b66 (o:Option (List AC)) (j:Nat):Option AC:=o.bind fun row=>(a5d a0t row).map fun cs=>.pv .brw cs j
@[simp] theorem d06 {row:List AC} {j:Nat}:b66 (some row) j=(a5d a0t row).map fun cs=>.pv .brw cs j:=(rfl)
@[simp] theorem e0w {i j:Nat}:a6s H (.pt id i j)=viewAt (H id) i j:=(rfl)
@[simp] theorem d4s {f:Bool} {i j:Nat}:viewAt (.arr e sz f rows) i j=b66 rows[i]? j:=by
 show (match rows[i]? with
   |some row=>(a5d a0t row).map fun cs=>AC.pv .brw cs j
   |none=>none)=_
 unfold b66
 generalize rows[i]?=o
 cases o<;>rfl
@[simp] theorem e0x {row:List AC} {j:Nat}:a6s H (.pv t row j)=(a5d a0t row).map fun cs=>.pv .brw cs j:=(rfl)
@[simp] theorem d07:a4t H []=some []:=(rfl)
@[simp] theorem c9r {c:AC} {r:List AC}:a4t H (c::r)=(match a6s H c,a4t H r with
  |some x,some xs=>some (x::xs)
  |_,_=>none):=(rfl)
@[simp] theorem e0y {row:List AC} {j:Nat}:a4e H (.c (.pv t row j))=(a6s H (.pv t row j)).map .c:=(rfl)
@[simp] theorem d4t:a4e H (.c (.raw v))=(a11 H (.raw v)).map .c:=(rfl)
@[simp] theorem d4u:a4e H (.c (.str l))=some (.c (.str l)):=(rfl)
@[simp] theorem e0z:a4e H (.c (.sl t cl rows))=some (.c (.sl .brw false rows)):=(rfl)
@[simp] theorem e0A:a4e H (.c (.so id off len))=(a11 H (.so id off len)).map .c:=(rfl)
@[simp] theorem e5H:AC.one H (.raw v)=v.oneCell':=(rfl)
@[simp] theorem e5I:AC.one H (.str l)=true:=(rfl)
@[simp] theorem f2c:AC.one H (.sl t cl rows)=true:=(rfl)
@[simp] theorem f2d:AC.one H (.so id off len)=(H id).live:=(rfl)
@[simp] theorem e0B {i:Nat}:resV P st (.tmp i)=some (st.s i):=(rfl)
def d4v (ti:TyI) (H:Heap) (v:AV):Option AV:=
 match v with
 |.c (.pt id i j)=>match H id with
   |.arr _ _ _ rows=>match rows[i]? with
    |some row=>if ti.ok=true then a6r ti.ag ti.sz row j else none
    |none=>none
   |_=>none
 |_=>none
def c2v (ti:TyI) (j:Nat) (o:Option (List AC)):Option AV:=o.bind fun row=>if ti.ok=true then a6r ti.ag ti.sz row j else none
@[simp] theorem d4w {ti:TyI} {j:Nat} {row:List AC}:c2v ti j (some row)=if ti.ok=true then a6r ti.ag ti.sz row j else none:=(rfl)
@[simp] theorem d4x {x:Nat} {ty:TypeId}:resV P st (.cell x ty)=d4v (tyI P ty) st.H (st.s x):=(rfl)
@[simp] theorem e0C {ti:TyI} {i j:Nat}:d4v ti H (.c (.pt id i j))=c2v ti j (d0U H id i):=by
 show (match H id with
   |.arr _ _ _ rows=>match rows[i]? with
    |some row=>if ti.ok=true then a6r ti.ag ti.sz row j else none
    |none=>none
   |_=>none)=_
 unfold c2v d0U
 generalize H id=o
 cases o with
 |arr e sz f rows=>
  simp only
  generalize rows[i]?=q
  cases q<;>rfl
 |_=>rfl
@[simp] theorem f2e {x:AC}:(AV.c x).part=some (false,[x]):=(rfl)
@[simp] theorem f2f {xs:List AC}:(AV.g xs).part=some (true,xs):=(rfl)
@[simp] theorem e0D:c1M P st []=some []:=(rfl)
@[simp] theorem d4y {r:ResultVar} {rs:List ResultVar}:c1M P st (r::rs)=(match (resV P st r).bind AV.part,c1M P st rs with
  |some p,some ps=>some (p::ps)
  |_,_=>none):=by rfl
@[simp] theorem c9s:(Value.int k n).oneCell'=true:=(rfl)
@[simp] theorem c7I:(Value.bool p).oneCell'=true:=(rfl)
@[simp] theorem c9t:(Value.slice none 0 0).oneCell'=true:=(rfl)
def onG (v:AV) (want:Bool) (y n1 n2:Prop):Prop:=
 match v with
 |.c (.raw (.bool b))=>(b=want->y)/\(b=!want->n1)
 |.c (.raw (.tuple _))=>n2
 |_=>False
@[simp] theorem d4z {y n1 n2:Prop}:onG (.c (.raw (.bool p))) true y n1 n2=c7D p y n1:=(rfl)
@[simp] theorem d4A {y n1 n2:Prop}:onG (.c (.raw (.bool p))) false y n1 n2=d0R p y n1:=(rfl)
@[simp] theorem d4B {want:Bool} {y n1 n2:Prop} {vs:Array Value}:onG (.c (.raw (.tuple vs))) want y n1 n2=n2:=(rfl)
@[congr] theorem f2g {v v':AV} {want:Bool} {y n1 n2:Prop} (h:v=v'):onG v want y n1 n2=onG v' want y n1 n2:=by rw [h]
theorem d4C {j:Nat} {want:Bool} {y n:St->Prop}:agd (some j) want st y n=onG (st.s j) want (y (st.put (some j) (.c (.raw (.bool want))))) (n (st.put (some j) (.c (.raw (.bool (!want)))))) (n st):=by
 unfold agd
 simp only
 generalize st.s j=v
 cases v with
 |c c=>cases c with
  |raw u=>cases u<;>rfl
  |_=>rfl
 |_=>rfl
@[simp] theorem e0E:undef=Value.tuple #[]:=(rfl)
attribute [congr] c5W
attribute [simp ↓] c0r d4C c50 c82 c2l c83 c5Q d3O c5R b2a c86 c5S b64 c5T c5U c5V c0s d3M c0t c2p c5X b65 b5m b5n b5o c5Y c0u c2s b5p c0v go_call c51 c84 c0w d3R
attribute [simp] c9b c9c c9d c9e c9f c9g c9h c9i c9j c9k d4c c9l c9m c9n c9o c56 c57 c58 e5n
end Go.AE
