/- The abstract machine: a region that draws its order: the check, and the law. -/
import Derived.Test.YtnodicdkejklmaaGreatDoorKe1
import Derived.MapKept
import Derived.WideKeyRuns
import Derived.Carry
set_option linter.unusedVariables false
set_option linter.unusedSimpArgs false
namespace Go.AE
open Go
variable {P:Program} {C:Ctx P} {ρ:Lies} {st:St} {a:Act} {w:World} {K:St->Prop} {Q:Exit->Act->World->Prop} {o:Oper}
theorem a9r:∀{xs:List AC} {l:List Int},intsOf xs=some l->xs=l.map fun n=>AC.raw (.int .i64 n)
 |[],l,h=>by cases h;rfl
 |x::r,l,h=>by
  unfold intsOf at h
  split at h
  ·rename_i he;cases he
  ·rename_i n r' he
   cases he
   rw [Option.map_eq_some_iff] at h
   obtain ⟨l',h1,rfl⟩:=h
   rw [a9r h1];rfl
  ·cases h
theorem a7y {F:Tag->Nat->Prop} {H:Heap} {n:Nat} {v:AV} {ks:List Int} {u:Value} (hk:keysOf n v=some ks) (h:a2f w F H ρ v u):u=a3G n ks/\ks.length=a7h n:=by
 unfold keysOf at hk
 split at hk
 ·split at hk
  ·rename_i hn
   cases hk
   subst hn
   exact ⟨by rw [a0p (a0m h)];rfl,rfl⟩
  ·cases hk
 ·rename_i xs
  split at hk
  ·rename_i l hl
   split at hk
   ·rename_i hn
    cases hk
    have hx:=a9r hl
    subst hx
    cases h with
    |g _ vs hs hv=>
     refine ⟨?_,by simp [a7h,hn.2,hn.1]⟩
     simp only [a3G,if_neg hn.2]
     congr 1
     refine Array.ext (by simpa using hs) fun i h1 h2=>?_
     have hi:i<ks.length:=by simpa using h2
     have:=a0p (hv i (.raw (.int .i64 ks[i])) (by simp [hi]))
     rw [Array.getD_eq_getD_getElem?,Array.getElem?_eq_getElem h1] at this
     simpa using this
   ·cases hk
  ·cases hk
 ·cases hk
theorem a5H:∀(es:List Nat) (x y:List Int),es.all (·==3)=true->x.length=es.length->y.length=es.length->
  a0x es (x.map fun n=>AC.raw (.int .i64 n)) (y.map fun n=>AC.raw (.int .i64 n))=some (decide (x=y))
 |[],[],[],_,_,_=>by simp [a0x]
 |[],_::_,_,_,h,_=>by cases h
 |[],[],_::_,_,_,h=>by cases h
 |e::es,[],_,_,h,_=>by cases h
 |e::es,_::_,[],_,_,h=>by cases h
 |e::es,p::x,q::y,he,hx,hy=>by
  simp only [List.all_cons,Bool.and_eq_true,beq_iff_eq] at he
  obtain ⟨rfl,he⟩:=he
  simp only [List.map_cons,a0x,if_true]
  rw [a5H es x y he (by simpa using hx) (by simpa using hy)]
  simp
theorem a4C {k:TypeId} {n:Nat} (h:b7c P k=some n) (hn:n≠0):(tyI P k).eqs.length=n/\(tyI P k).eqs.all (·==3)=true/\∃e r,(tyI P k).eqs=e::r:=by
 unfold b7c at h
 split at h
 ·cases h;exact (hn rfl).elim
 ·split at h
  ·rename_i h1
   cases h
   refine ⟨rfl,h1.2.2,?_⟩
   cases hq:(tyI P k).eqs with
   |nil=>exact (h1.2.1 hq).elim
   |cons e r=>exact ⟨e,r,rfl⟩
  ·cases h
theorem b2z {k:TypeId} (h:b7c P k=some 0):(tyI P k).form=3:=by
 unfold b7c at h
 split at h
 ·assumption
 ·split at h
  ·rename_i h1
   have:(tyI P k).eqs.length=0:=Option.some.inj h
   exact (h1.2.1 (List.eq_nil_of_length_eq_zero this)).elim
  ·cases h
theorem b4J {k:TypeId} {n:Nat} (h:b7c P k=some n) (hn:n≠0) {x y:List Int} (hx:x.length=n) (hy:y.length=n):(Op.equal k (a3G n x) (a3G n y)).run P w=.ok (decide (x=y)) w:=by
 obtain ⟨h1,h2,e,r,h3⟩:=a4C h hn
 obtain ⟨fs,hu,hgt,hst,hfs⟩:=a6o h3
 have hfo:P.fieldsOf k=fs:=by simp [Program.fieldsOf,hu]
 have hc:=a5H _ x y h2 (by omega) (by omega)
 rw [h3] at hc
 have cell:∀(l:List Int) (q:Nat) c,(l.map fun n=>AC.raw (.int .i64 n))[q]?=some c->∃v,(l.map fun n=>Value.int .i64 n).toArray[0+q]?=some v/\a0C w (fun _ _=>True) (fun _=>.a0b) (fun _=>none) c v:=fun l q c hq=>by
  rw [List.getElem?_map,Option.map_eq_some_iff] at hq
  obtain ⟨z,hz,rfl⟩:=hq
  exact ⟨.int .i64 z,by simp [hz],.raw _⟩
 have hrun:=a1U (P:=P) (w:=w) 9998 _ _ fs.toList 0 _ _ _ _ hfs hc (cell x) (cell y)
 simp only [a3G,if_neg hn,Op.equal,Op.maxDepth]
 rw [run_equalIn_struct w 9999 k _ _ (by rw [hfo];exact hu) hst,hfo]
 exact hrun
theorem a5I {k:TypeId} {n:Nat} (h:b7c P k=some n) {x:List Int} (hx:x.length=a7h n) (em:Bool):(Instr.checkKey em 10000 k (a3G n x)).run P w=.ok () w:=by
 by_cases hn:n=0
 ·subst hn
  obtain ⟨q,hu⟩:=b0B (b2z h)
  rw [show (10000:Nat)=9999+1 from rfl,Instr.checkKey]
  simp [a3G,run_underlying hu]
 ·obtain ⟨h1,h2,e,r,h3⟩:=a4C h hn
  obtain ⟨fs,hu,hgt,hst,hfs⟩:=a6o h3
  rw [<-h3] at hfs
  have hx':x.length=n:=by simpa [a7h,hn] using hx
  simp only [a3G,if_neg hn]
  rw [show (10000:Nat)=9999+1 from rfl,Instr.checkKey]
  simp only [Sem.run_bind,run_underlying hu,Result.andThen_ok]
  rw [<-Array.forIn_toList]
  have go:∀(L:List Field) (off:Nat) (ks:List Nat),b7b P off L=some ks->ks.all (·==3)=true->off+ks.length=x.length->
    (forIn (m:=Sem) L PUnit.unit fun f (_:PUnit)=>do
     if f.name≠ "_" then do
      Instr.checkKey em 9999 f.type (<-part f.type (x.map fun n=>Value.int .i64 n).toArray f.offset)
      pure (ForInStep.yield PUnit.unit)
     else pure (ForInStep.yield PUnit.unit)).run P w=.ok PUnit.unit w:=fun L=>by
   induction L with
   |nil=>intro off ks _ _ _;simp
   |cons f L ih=>
    intro off ks he h3 hl
    simp only [b7b] at he
    split at he
    ·cases he
    rename_i hno
    have hname:¬f.name= "_":=fun e=>hno (.inl e)
    have hoff:f.offset=off:=Classical.byContradiction fun e=>hno (.inr e)
    split at he
    ·rename_i k0 l hu' hl'
     cases he
     simp only [List.all_cons,Bool.and_eq_true] at h3
     simp only [List.length_cons] at hl
     have hlt:off<x.length:=by omega
     have hpart:(part f.type (x.map fun n=>Value.int .i64 n).toArray f.offset).run P w=.ok (.int .i64 x[off]) w:=by
      have hag:(isAgg f.type).run P w=.ok false w:=by rw [a3N hu'];rfl
      simp [part,Sem.run_bind,hag,hoff,hlt]
     have hck:(Instr.checkKey em 9999 f.type (.int .i64 x[off])).run P w=.ok () w:=by
      rw [show (9999:Nat)=9998+1 from rfl,Instr.checkKey]
      simp [run_underlying hu']
     simp only [List.forIn_cons,Sem.run_bind,hname,ne_eq,not_false_eq_true,if_true,Result.andThen_ok,hpart,hck,Sem.run_pure]
     exact ih (off+1) l hl' h3.2 (by omega)
    ·cases he;simp at h3
    ·cases he;simp at h3
    ·cases he
  rw [go fs.toList 0 _ hfs h2 (by omega)];rfl
def fnd:List (List Int×AC)->List MapEntry->List Int->Nat->Option (Nat×Value)
 |q::M,e::L,ks,i=>if ks=q.1 then some (i,e.val) else fnd M L ks (i+1)
 |_,_,_,_=>none
theorem b2A {k:TypeId} {n:Nat} (h:b7c P k=some n) {ks:List Int} (hk:ks.length=a7h n) (M:List (List Int×AC)) (L:List MapEntry) (hl:L.length=M.length)
  (hm:∀(i:Nat) q,M[i]?=some q->∃m:MapEntry,L[i]?=some m/\m.key=a3G n q.1/\q.1.length=a7h n):(Instr.findKey k (a3G n ks) L).run P w=.ok (fnd M L ks 0) w:=by
 by_cases hn:n=0
 ·subst hn
  obtain ⟨q,hu⟩:=b0B (b2z h)
  have one:∀l:List Int,l.length=a7h 0->∃z,l=[z]:=fun l hl=>by
   match l,hl with
   |[z],_=>exact ⟨z,rfl⟩
  obtain ⟨z,rfl⟩:=one ks hk
  have go:∀(M:List (List Int×AC)) (L:List MapEntry) (i:Nat),L.length=M.length->(∀(i:Nat) q,M[i]?=some q->∃m:MapEntry,L[i]?=some m/\m.key=a3G 0 q.1/\q.1.length=a7h 0)->
    Instr.findNow (.int q) (a3G 0 [z]) L i=some (fnd M L [z] i):=fun M=>by
   induction M with
   |nil=>
    intro L i hl _
    have:L=[]:=List.eq_nil_of_length_eq_zero hl
    subst this;rfl
   |cons p M ih=>
    intro L i hl hm
    cases L with
    |nil=>cases hl
    |cons e L=>
     obtain ⟨m,m1,m2,m3⟩:=hm 0 p rfl
     simp at m1
     subst m1
     obtain ⟨y,hy⟩:=one p.1 m3
     have ih':=ih L (i+1) (by simpa using hl) fun j q hj=>by simpa using hm (j+1) q (by simpa using hj)
     unfold Instr.findNow fnd
     rw [m2,hy]
     simp only [a3G,if_true,List.headD_cons,Instr.sameNow,List.cons.injEq,and_true]
     by_cases hzy:z=y
     ·simp [hzy]
     ·have:(z==y)=false:=by simpa using hzy
      simp only [this,if_neg hzy]
      exact ih'
  simp [Instr.findKey,run_underlying hu,go M L 0 hl hm]
 ·have hwide:(match P.underlying k with|some (.array _ _)|some (.struct _)=>true|_=>false)=true:=by
   obtain ⟨h1,h2,e,r,h3⟩:=a4C h hn
   obtain ⟨fs,hu,_⟩:=a6o h3
   rw [hu]
  rw [run_findKey_eq w hwide]
  have go:∀(M:List (List Int×AC)) (L:List MapEntry) (i:Nat),L.length=M.length->(∀(i:Nat) q,M[i]?=some q->∃m:MapEntry,L[i]?=some m/\m.key=a3G n q.1/\q.1.length=a7h n)->
    (Instr.findAsking k (a3G n ks) L i).run P w=.ok (fnd M L ks i) w:=fun M=>by
   induction M with
   |nil=>
    intro L i hl _
    have:L=[]:=List.eq_nil_of_length_eq_zero hl
    subst this;rfl
   |cons p M ih=>
    intro L i hl hm
    cases L with
    |nil=>cases hl
    |cons e L=>
     obtain ⟨m,m1,m2,m3⟩:=hm 0 p rfl
     simp at m1
     subst m1
     have ih':=ih L (i+1) (by simpa using hl) fun j q hj=>by simpa using hm (j+1) q (by simpa using hj)
     have heq:=b4J (w:=w) h hn (x:=ks) (y:=p.1) (by simpa [a7h,hn] using hk) (by simpa [a7h,hn] using m3)
     unfold Instr.findAsking fnd
     rw [m2]
     simp only [Sem.run_bind,heq,Result.andThen_ok]
     by_cases hzy:ks=p.1
     ·simp [hzy]
     ·simp only [hzy,decide_false,if_false,Bool.false_eq_true]
      exact ih'
  exact go M L 0 hl hm
theorem a8l:∀{M:List (List Int×AC)} {L:List MapEntry} {ks:List Int} {i j:Nat} {v:Value},fnd M L ks i=some (j,v)->∃d q e,j=i+d/\M[d]?=some q/\L[d]?=some e/\q.1=ks/\v=e.val/\c1v M ks=some d/\b63 M ks=some q.2
 |[],_,_,_,_,_,h=>by simp [fnd] at h
 |_::_,[],_,_,_,_,h=>by simp [fnd] at h
 |q::M,e::L,ks,i,j,v,h=>by
  unfold fnd at h
  split at h
  ·rename_i hq
   cases h
   exact ⟨0,q,e,rfl,rfl,rfl,hq.symm,rfl,by unfold c1v;rw [List.findIdx?_cons];simp [hq],by simp [b63,hq]⟩
  ·rename_i hq
   obtain ⟨d,q',e',h1,h2,h3,h4,h5,h6,h7⟩:=a8l h
   have hb:(q.1==ks)=false:=by simpa using fun e=>hq e.symm
   refine ⟨d+1,q',e',by omega,by simpa using h2,by simpa using h3,h4,h5,?_,?_⟩
   ·unfold c1v at h6 ⊢
    rw [List.findIdx?_cons,hb,h6];rfl
   ·unfold b63 at h7 ⊢
    rw [List.find?_cons_of_neg (by simp [hb])];exact h7
theorem a8m:∀{M:List (List Int×AC)} {L:List MapEntry} {ks:List Int} {i:Nat},L.length=M.length->fnd M L ks i=none->c1v M ks=none/\b63 M ks=none
 |[],_,_,_,_,_=>⟨rfl,rfl⟩
 |_::_,[],_,_,hl,_=>by cases hl
 |q::M,e::L,ks,i,hl,h=>by
  unfold fnd at h
  split at h
  ·cases h
  ·rename_i hq
   obtain ⟨h1,h2⟩:=a8m (by simpa using hl) h
   have hb:(q.1==ks)=false:=by simpa using fun e=>hq e.symm
   constructor
   ·unfold c1v at h1 ⊢
    rw [List.findIdx?_cons,hb,h1];rfl
   ·unfold b63 at h2 ⊢
    rw [List.find?_cons_of_neg (by simp [hb])];exact h2
theorem b2B {t:TypeId} {n:Nat} {z:AC} (h:c2b P t=some (n,z)):∃k e i zv,P.underlying t=some (.map k e)/\b7c P k=some n/\P.info? e=some i/\i.zero=some zv/\zv.oneCell'=true/\z=a2U zv:=by
 unfold c2b at h
 split at h
 ·rename_i k e hu
  split at h
  ·rename_i n' z' h1 h2
   cases h
   unfold zAC at h2
   split at h2
   ·rename_i i hi
    split at h2
    ·rename_i zv hz
     split at h2
     ·rename_i ho
      cases h2
      exact ⟨k,e,i,zv,hu,h1,hi,hz,ho,rfl⟩
     ·cases h2
    ·cases h2
   ·cases h2
  ·cases h
 ·cases h
theorem b7g {e:TypeId} {i:TypeInfo} {zv:Value} (hi:P.info? e=some i) (hz:i.zero=some zv):(zeroValue e).run P w=.ok zv w:=by
 simp only [zeroValue,typeInfo,Sem.run_bind,run_program,Result.andThen_ok,hi,hz,Sem.run_pure]
theorem a8n (h:Rel C ρ st a w) (hd:∀d,o.dst=some d->d<a.tmps.size) {t:TypeId} (ho:o.op=.makeMap t none) (hk:aop P o.dst (.makeMap t none) st K):o.wp P a w (a1o C a.tmps.size K) Q:=by
 simp only [aop] at hk
 split at hk
 ·rename_i n z d hm hdst
  obtain ⟨hun,hk⟩:=hk
  have run_makeMap:(Instr.makeMap t none).run P w=.ok (.map (some w.heap.size)) (w.alloc (.map #[] 0)):=rfl
  have hn:=h.heap.d2v hun n
  refine a9l (w':=w.alloc (.map #[] 0)) (v:=.map (some w.heap.size)) (by simp only [execOp,ho,Sem.run_bind,Option.map_none,run_makeMap,Result.andThen_ok,Sem.run_pure]) ⟨size_put _ _ _,(fun j=>if j=(st.T,d) then some (w.heap.size,0,0) else ρ j),_,?_,hk⟩
  have hh:=h.a4T (T':=st.T) hn.1 hn.2
  exact Rel.put (st:={st with H:=_}) hh (.c _ _ (.mr _ _ (by simp [hset]) fun _=>⟨w.heap.size,0,0,by simp,rfl⟩)) hd
 ·exact hk.elim
theorem b8S (h:Rel C ρ st a w) {x:Operand} {id:Id} (hx:st.eval x=.c (.mr id)) {n:Nat} {es:List (List Int×AC)} (hid:st.H id=.mp n es) :
  ∃b c s E,a.eval x=.map (some b)/\ρ id=some (b,c,s)/\w.heap[b]?=some (.map E es.length)/\E.size=es.length/\
   (∀(i:Nat) k y,es[i]?=some (k,y)->∃m:MapEntry,E[i]?=some m/\(m.key=a3G n k/\m.born=i/\k.length=a7h n)/\m.val.oneCell'=true/\a0C w (Fr C st.H ρ) st.H ρ y m.val)/\
   ∀(i:Nat) q,es[i]?=some q->∃m:MapEntry,E.toList[i]?=some m/\m.key=a3G n q.1/\q.1.length=a7h n:=by
 have hv:=h.eval x
 rw [hx] at hv
 obtain ⟨b,c,s,E,g1,g2,g3,g4,g5⟩:=h.heap.maps.row id n es hid
 cases a0m hv with
 |mr _ _ _ hl=>
  obtain ⟨b',c',s',q1,q2⟩:=hl (by rw [hid];rfl)
  rw [g1] at q1
  cases q1
  refine ⟨b,c,s,E,q2,g1,g3,g4,g5,fun i q hi=>?_⟩
  obtain ⟨m,m1,m2,_⟩:=g5 i q.1 q.2 hi
  exact ⟨m,by simpa using m1,m2.1,m2.2.2⟩
theorem a9s (h:Rel C ρ st a w) (hd:∀d,o.dst=some d->d<a.tmps.size) {t:TypeId} {x ix:Operand} {ok:Bool} (ho:o.op=.lookup t x ix ok) (hk:aop P o.dst (.lookup t x ix ok) st K):o.wp P a w (a1o C a.tmps.size K) Q:=by
 simp only [aop] at hk
 split at hk
 ·rename_i id n z hx hm
  split at hk
  ·rename_i n' es ks hid hks
   obtain ⟨rfl,hk⟩:=hk
   obtain ⟨kt,e,ti,zv,hu,hki,hi,hz,hzo,rfl⟩:=b2B hm
   obtain ⟨b,c,s,E,hv,hρ,hb,hE,hrel,hkeys⟩:=b8S h hx hid
   obtain ⟨hkv,hkl⟩:=a7y hks (h.eval ix)
   have hf:=b2A (w:=w) hki hkl es E.toList (by simpa using hE) hkeys
   have hc:=a5I (w:=w) hki hkl E.isEmpty
   have hrun:∀r,fnd es E.toList ks 0=r->∀v q,(v,q)=(match r with|some p=>(p.2,true)|none=>(zv,false))->
     (execOp a.eval o).run P w=.ok (.value (if ok then .tuple #[v,.bool q] else v)) w:=fun r hr v q hvq=>by
    rw [hr] at hf
    cases r with
    |none=>
     cases hvq
     simp only [execOp,ho,Instr.lookup,Sem.run_bind,run_underlying hu,Result.andThen_ok,hv,MapKept.run_getObj_map hb,hkv,hc,hf,b7g hi hz,Sem.run_pure]
    |some p=>
     cases hvq
     simp only [execOp,ho,Instr.lookup,Sem.run_bind,run_underlying hu,Result.andThen_ok,hv,MapKept.run_getObj_map hb,hkv,hc,hf,Sem.run_pure]
   have fin:∀v q,(execOp a.eval o).run P w=.ok (.value (if ok then .tuple #[v,.bool q] else v)) w->a0C w (Fr C st.H ρ) st.H ρ ((b63 es ks).getD (a2U zv)) v->(b63 es ks).isSome=q->o.wp P a w (a1o C a.tmps.size K) Q:=fun v q hr hR hq=>by
    refine a0k h hd hr ?_ hk
    cases ok with
    |false=>exact .c _ _ hR
    |true=>
     refine .t _ _ rfl fun k b' cs hk'=>?_
     match k,hk' with
     |0,hk'=>cases hk';exact .c _ _ hR
     |1,hk'=>cases hk';rw [hq];exact .c _ _ (.raw _)
   cases hr:fnd es E.toList ks 0 with
   |none=>
    obtain ⟨_,h2⟩:=a8m (by simpa using hE) hr
    exact fin zv false (hrun _ hr _ _ rfl) (by rw [h2];exact a3h zv) (by rw [h2];rfl)
   |some p=>
    obtain ⟨d,q,m,_,h2,h3,h4,h5,_,h7⟩:=a8l (j:=p.1) (v:=p.2) hr
    obtain ⟨m',m1,m2,m3,m4⟩:=hrel d q.1 q.2 h2
    have:m'=m:=by
     rw [Array.getElem?_toList] at h3
     rw [h3] at m1;exact (Option.some.inj m1).symm
    subst this
    exact fin p.2 true (hrun _ hr _ _ rfl) (by rw [h7,h5];exact m4) (by rw [h7];rfl)
  ·exact hk.elim
 ·exact hk.elim
theorem b7h (m n:Nat) (ks:List Int):Instr.sameBits (m+2) (a3G n ks) (a3G n ks)=true:=by
 unfold a3G
 split
 ·simp [Instr.sameBits]
 ·simp only [Instr.sameBits,beq_self_eq_true,Bool.true_and,List.all_eq_true]
  intro q hq
  obtain ⟨i,hi⟩:=List.getElem?_of_mem hq
  rw [List.getElem?_zip_eq_some] at hi
  obtain ⟨h1,h2⟩:=hi
  rw [h1] at h2
  have e:q.1=q.2:=Option.some.inj h2
  simp only [List.getElem?_map] at h1
  rw [Option.map_eq_some_iff] at h1
  obtain ⟨z,_,hz⟩:=h1
  rw [<-e,<-hz]
  simp [Instr.sameBits]
theorem b4K {n:Nat} {ks:List Int} {old:Value} (h:old=a3G n ks):(Instr.keyThatStays old (a3G n ks)).run P w=.ok (a3G n ks) w:=by
 subst h
 unfold Instr.keyThatStays
 rw [show (10000:Nat)=9998+2 from rfl,b7h]
 rfl
theorem b9L {F:Tag->Nat->Prop} {H:Heap} {n i:Nat} {es:List (List Int×AC)} {E:Array MapEntry} (hE:E.size=es.length)
  (hrel:∀(i:Nat) k y,es[i]?=some (k,y)->∃m:MapEntry,E[i]?=some m/\(m.key=a3G n k/\m.born=i/\k.length=a7h n)/\m.val.oneCell'=true/\a0C w F H ρ y m.val)
  {ks:List Int} {x:AC} {v:Value} (hx:v.oneCell'=true) (hR:a0C w F H ρ x v) (f:MapEntry->MapEntry) (hi:i<es.length)
  (hf:∀m,E[i]?=some m->(f m).key=a3G n ks/\(f m).born=m.born/\(f m).val=v) (hk:ks.length=a7h n) :
  (E.modify i f).size=(es.set i (ks,x)).length/\∀(j:Nat) k y,(es.set i (ks,x))[j]?=some (k,y)->∃m:MapEntry,(E.modify i f)[j]?=some m/\(m.key=a3G n k/\m.born=j/\k.length=a7h n)/\m.val.oneCell'=true/\a0C w F H ρ y m.val:=by
 refine ⟨by simpa using hE,fun j k y hj=>?_⟩
 rw [List.getElem?_set] at hj
 rw [Array.getElem?_modify]
 by_cases hij:i=j
 ·subst hij
  rw [if_pos rfl,if_pos hi] at hj
  cases hj
  obtain ⟨m,m1,m2,_⟩:=hrel i _ _ (List.getElem?_eq_getElem hi)
  obtain ⟨f1,f2,f3⟩:=hf m m1
  exact ⟨f m,by rw [if_pos rfl,m1];rfl,⟨f1,by rw [f2];exact m2.2.1,hk⟩,by rw [f3];exact hx,by rw [f3];exact hR⟩
 ·rw [if_neg hij] at hj
  rw [if_neg hij]
  exact hrel j k y hj
theorem b7i {F:Tag->Nat->Prop} {H:Heap} {n:Nat} {es:List (List Int×AC)} {E:Array MapEntry} (hE:E.size=es.length)
  (hrel:∀(i:Nat) k y,es[i]?=some (k,y)->∃m:MapEntry,E[i]?=some m/\(m.key=a3G n k/\m.born=i/\k.length=a7h n)/\m.val.oneCell'=true/\a0C w F H ρ y m.val)
  {ks:List Int} {x:AC} {v:Value} (hx:v.oneCell'=true) (hR:a0C w F H ρ x v) (hk:ks.length=a7h n) :
  (E.push {key:=a3G n ks,val:=v,born:=es.length}).size=(es++[(ks,x)]).length/\∀(j:Nat) k y,(es++[(ks,x)])[j]?=some (k,y)->
   ∃m:MapEntry,(E.push {key:=a3G n ks,val:=v,born:=es.length})[j]?=some m/\(m.key=a3G n k/\m.born=j/\k.length=a7h n)/\m.val.oneCell'=true/\a0C w F H ρ y m.val:=by
 refine ⟨by simp [hE],fun j k y hj=>?_⟩
 rcases Nat.lt_trichotomy j es.length with h|h|h
 ·rw [List.getElem?_append_left h] at hj
  rw [Array.getElem?_push,if_neg (by omega)]
  exact hrel j k y hj
 ·subst h
  simp at hj
  obtain ⟨rfl,rfl⟩:=hj
  exact ⟨_,by rw [Array.getElem?_push,if_pos hE.symm],⟨rfl,rfl,hk⟩,hx,hR⟩
 ·rw [List.getElem?_eq_none (by simp;omega)] at hj
  cases hj
theorem a6u (h:Rel C ρ st a w) (hd:∀d,o.dst=some d->d<a.tmps.size) {t:TypeId} {x k v:Operand} (ho:o.op=.mapUpdate t x k v) (hk:aop P o.dst (.mapUpdate t x k v) st K):o.wp P a w (a1o C a.tmps.size K) Q:=by
 simp only [aop] at hk
 split at hk
 ·rename_i id n0 z y hx hm hy
  split at hk
  ·rename_i n es ks hid hks
   obtain ⟨⟨rfl,hone⟩,hk⟩:=hk
   obtain ⟨kt,e,ti,zv,hu,hki,hi,hz,hzo,rfl⟩:=b2B hm
   obtain ⟨b,c,s,E,hv,hρ,hb,hE,hrel,hkeys⟩:=b8S h hx hid
   obtain ⟨hkv,hkl⟩:=a7y hks (h.eval k)
   have hf:=b2A (w:=w) hki hkl es E.toList (by simpa using hE) hkeys
   have hc:=a5I (w:=w) hki hkl false
   have hyv:=h.eval v
   rw [hy] at hyv
   have hyr:=a0m hyv
   have hyo:=hyr.one hone
   have fin:∀(E':Array MapEntry) (es':List (List Int×AC)),es'=c2c es ks y->(E'.size=es'.length/\∀(j:Nat) k y,es'[j]?=some (k,y)->∃m:MapEntry,E'[j]?=some m/\(m.key=a3G n k/\m.born=j/\k.length=a7h n)/\m.val.oneCell'=true/\a0C w (Fr C st.H ρ) st.H ρ y m.val)->
     (execOp a.eval o).run P w=.ok .skip {w with heap:=w.heap.setIfInBounds b (.map E' es'.length)}->o.wp P a w (a1o C a.tmps.size K) Q:=fun E' es' he hr' hrun=>by
    have hs:=h.heap.d2x hid hρ hr'.1 hr'.2
    rw [he] at hs
    rw [he] at hrun
    refine b8R hrun ⟨size_put _ _ _,ρ,_,?_,hk⟩
    have hh:=h.a4T (T':=st.T) hs.1 hs.2
    exact Rel.put (st:={st with H:=_}) hh (.c _ _ (.raw undef)) hd
   cases hr:fnd es E.toList ks 0 with
   |none=>
    obtain ⟨h1,_⟩:=a8m (by simpa using hE) hr
    rw [hr] at hf
    refine fin _ (es++[(ks,y)]) (by simp [c2c,h1]) (b7i hE hrel hyo hyr hkl) ?_
    simp only [execOp,ho,Instr.mapUpdate,Sem.run_bind,run_underlying hu,Result.andThen_ok,hv,MapKept.run_getObj_map hb,hkv,hc,hf,MapKept.run_setObj_map _ hb,Sem.run_pure,List.length_append,List.length_singleton]
   |some p=>
    obtain ⟨p1,p2⟩:=p
    obtain ⟨d,q,m,h0,h2,h3,h4,h5,h6,h7⟩:=a8l hr
    rw [hr] at hf
    have hlt:d<es.length:=(List.getElem?_eq_some_iff.1 h2).1
    obtain ⟨m',m1,m2,m3,m4⟩:=hrel d q.1 q.2 h2
    obtain rfl:p1=d:=by omega
    refine fin _ (es.set p1 (ks,y)) (by simp [c2c,h6]) (b9L hE hrel hyo hyr (fun e=>{e with key:=a3G n ks,val:=a.eval v}) hlt (fun m _=>⟨rfl,rfl,rfl⟩) hkl) ?_
    have hst:(Instr.keyThatStays (((E[p1]?).map (·.key)).getD (a3G n ks)) (a3G n ks)).run P w=.ok (a3G n ks) w:=b4K (by rw [m1,<-h4];exact m2.1)
    simp only [execOp,ho,Instr.mapUpdate,Sem.run_bind,run_underlying hu,Result.andThen_ok,hv,MapKept.run_getObj_map hb,hkv,hc,hf,hst,MapKept.run_setObj_map _ hb,Sem.run_pure,List.length_set]
  ·exact hk.elim
 ·exact hk.elim
open Go
inductive a1L:AC->Prop where
 |raw (v:Value):a1L (.raw v)
 |str (l:List UInt8):a1L (.str l)
 |sl (t:Tag) (cl:Bool) (xs:List (List AC)) (ht:t≠.brw) (h:∀r∈xs,∀c∈r,a1L c):a1L (.sl t cl xs)
theorem a3O (v:Value):a1L (.raw v)↔True:=⟨fun _=>trivial,fun _=>.raw v⟩
theorem a3P (l:List UInt8):a1L (.str l)↔True:=⟨fun _=>trivial,fun _=>.str l⟩
theorem a4a (t:Tag) (cl:Bool) (xs:List (List AC)):a1L (.sl t cl xs)↔t≠.brw/\∀r∈xs,∀c∈r,a1L c:=
 ⟨fun h=>by cases h with|sl _ _ _ ht h=>exact ⟨ht,h⟩,fun h=>.sl _ _ _ h.1 h.2⟩
def a6v:AC->Prop
 |.nw _ sz xs=>∀r∈xs,∀c∈r,a1L c
 |c=>a1L c
theorem a0C.b0y {w:World} {F F':Tag->Nat->Prop} {H H':Heap} {ρ ρ':Lies} {c:AC} {v:Value} (h:a0C w F H ρ c v) (hr:a1L c)
  (hF:∀t b,t≠.brw->F t b->F' t b):a0C w F' H' ρ' c v:=by
 induction h with
 |raw v=>exact .raw v
 |str l=>exact .str l
 |a0H t cl v h=>exact .a0H t cl v h
 |sl t cl xs b o cap sz vs hb hf hcap hcl hrow hcell hone hrel ih=>
  cases hr with
  |sl _ _ _ ht hn=>exact .sl t cl xs b o cap sz vs hb (hF t b ht hf) hcap hcl hrow hcell hone fun i j r c hi hj=>ih i j r c hi hj (hn r (List.mem_of_getElem? hi) c (List.mem_of_getElem? hj))
 |_=>cases hr
inductive a4D:AC->Prop where
 |raw (v:Value):a4D (.raw v)
 |str (l:List UInt8):a4D (.str l)
 |sl (cl:Bool) (xs:List (List AC)) (h:∀r∈xs,∀c∈r,a4D c):a4D (.sl .old cl xs)
theorem a6w (v:Value):a4D (.raw v)↔True:=⟨fun _=>trivial,fun _=>.raw v⟩
theorem a6x (l:List UInt8):a4D (.str l)↔True:=⟨fun _=>trivial,fun _=>.str l⟩
theorem a6b (cl:Bool) (xs:List (List AC)):a4D (.sl .old cl xs)↔∀r∈xs,∀c∈r,a4D c:=
 ⟨fun h=>by cases h with|sl _ _ h=>exact h,fun h=>.sl _ _ h⟩
theorem a0C.old {w:World} {F F':Tag->Nat->Prop} {H H':Heap} {ρ ρ':Lies} {c:AC} {v:Value} (h:a0C w F H ρ c v) (hr:a4D c)
  (hF:∀b,F .old b->F' .old b):a0C w F' H' ρ' c v:=by
 induction h with
 |raw v=>exact .raw v
 |str l=>exact .str l
 |a0H t cl v h=>exact .a0H t cl v h
 |sl t cl xs b o cap sz vs hb hf hcap hcl hrow hcell hone hrel ih=>
  cases hr with
  |sl _ _ hn=>exact .sl .old cl xs b o cap sz vs hb (hF b hf) hcap hcl hrow hcell hone fun i j r c hi hj=>ih i j r c hi hj (hn r (List.mem_of_getElem? hi) c (List.mem_of_getElem? hj))
 |_=>cases hr
def b7j:AC->Prop
 |.raw _|.str _=>True
 |.sl _ _ xs=>∀r∈xs,∀c∈r,a4D c
 |_=>False
def b4w:AC->Prop
 |.pv _ row _=>∀c∈row,b7j c
 |c=>b7j c
def VOK:AC->Prop
 |.fn _ caps=>∀c∈caps,b4w c
 |c=>b4w c
def adC (nm:Nat->Id) (k:Nat):AC->AC
 |.nw _ _ xs=>.so (nm k) 0 xs.length
 |c=>c
def adL (nm:Nat->Id):Nat->List AC->List AC
 |_,[]=>[]
 |k,c::r=>adC nm k c::adL nm (k+1) r
def adT (nm:Nat->Id):Nat->List (Bool×List AC)->List (Bool×List AC)
 |_,[]=>[]
 |k,(b,cs)::r=>(b,adL nm k cs)::adT nm (k+cs.length) r
def AV.ad (nm:Nat->Id):AV->AV
 |.c x=>.c (adC nm 0 x)
 |.g xs=>.g (adL nm 0 xs)
 |.t ps=>.t (adT nm 0 ps)
def a2C:List (Bool×List AC)->List AC
 |[]=>[]
 |(_,cs)::r=>cs++a2C r
def AV.flat:AV->List AC
 |.c x=>[x]
 |.g xs=>xs
 |.t ps=>a2C ps
def b4x (i:Id):AC->Heap->Heap
 |.nw e sz xs,H=>hset H i (.arr e sz false xs)
 |_,H=>H
def adH (nm:Nat->Id):Nat->List AC->Heap->Heap
 |_,[],H=>H
 |k,c::r,H=>adH nm (k+1) r (b4x (nm k) c H)
def a4R (nm:Nat->Id) (H:Heap):Nat->List AC->Prop
 |_,[]=>True
 |k,.nw _ _ _::r=>H (nm k)=.a0b/\a4R nm H (k+1) r
 |k,_::r=>a4R nm H (k+1) r
def a0j:Heap:=fun _=>.a0b
def a0t:Lies:=fun _=>none
def a3k (P:Program) (f:FuncId):Bool:=
 match P.funcs[f]? with
 |some fn=>fn.name != "runtime.NumGoroutine"&&fn.body.isSome
 |none=>false
def PEv (P:Program) (f:FuncId) (args:List AV) (ret:AV):Prop:=
 (a3k P f=true/\(∀c∈ret.flat,a6v c)/\∀x∈args,∀c∈x.flat,VOK c)/\
 ∀(w:World) (hI:Inv P w) (G:Tag->Nat->Prop) (vs:Array Value),vs.size=args.length->
  (∀(k:Nat) x,args[k]?=some x->a2f w (Fr (Ctx.of w hI G) a0j a0t) a0j a0t x (vs.getD k undef))->
  ∀nm:Nat->Id,(∀i j,nm i=nm j->i=j)->
  Calls P f vs w fun e w'=>∃v,e=.returned v/\∃ρ,a1A (Ctx.of w hI G) (adH nm 0 ret.flat a0j) ρ w'/\
   a2f w' (Fr (Ctx.of w hI G) (adH nm 0 ret.flat a0j) ρ) (adH nm 0 ret.flat a0j) ρ (ret.ad nm) v
def a1e (H:Heap):AC->Option AC
 |.raw (.slice none 0 0)=>some (.sl .brw false [])
 |.raw v=>some (.raw v)
 |.str l=>some (.str l)
 |.sl _ _ xs=>some (.sl .brw false xs)
 |.so id off len=>(rowsOf H (.so id off len)).map fun rows=>.sl .brw false rows
 |_=>none
def a3t (H:Heap):List AC->Option (List AC)
 |[]=>some []
 |c::r=>match a1e H c,a3t H r with
  |some x,some xs=>some (x::xs)
  |_,_=>none
def a4r (H:Heap):AC->Option AC
 |.pt id i j=>match H id with
  |.arr _ _ _ rows=>match rows[i]? with
   |some row=>(a3t a0j row).map fun cs=>.pv .brw cs j
   |none=>none
  |_=>none
 |.pv _ row j=>(a3t a0j row).map fun cs=>.pv .brw cs j
 |c=>a1e H c
def a2Z (H:Heap):List AC->Option (List AC)
 |[]=>some []
 |c::r=>match a4r H c,a2Z H r with
  |some x,some xs=>some (x::xs)
  |_,_=>none
def a2K (H:Heap):AV->Option AV
 |.c (.fn f caps)=>(a2Z H caps).map fun cs=>.c (.fn f cs)
 |.c x=>(a4r H x).map .c
 |.g xs=>(a3t H xs).map .g
 |.t _=>none
def a3c (H:Heap):List AV->Option (List AV)
 |[]=>some []
 |x::r=>match a2K H x,a3c H r with
  |some y,some ys=>some (y::ys)
  |_,_=>none
def St.back (st:St) (H:Heap) (T:Nat):St:={st with H:=H,T:=T}
def b3t (P:Program) (st:St) (f:FuncId) (args:List AV) (R:AV->Heap->Nat->Prop):Prop:=
 a3k P f=true/\∀(C:Ctx P) ρ a w (vs:Array Value),Rel C ρ st a w->vs.size=args.length->(∀(k:Nat) x,args[k]?=some x->a2f w (Fr C st.H ρ) st.H ρ x (vs.getD k undef))->
  Calls P f vs w fun e w'=>∃v,e=.returned v/\∃ρ' ret H' T',Rel C ρ' (st.back H' T') a w'/\a2f w' (Fr C H' ρ') H' ρ' ret v/\R ret H' T'
def a1P (st:St) (dst:Option Nat):Nat->Id:=fun k=>(st.T,dst.getD 999*1024+1024+k)
def b7k (st:St) (dst:Option Nat) (ret:AV):St:={st with H:=adH (a1P st dst) 0 ret.flat st.H}.put dst (ret.ad (a1P st dst))
def a5o:AC->AC->AC
 |.sl .old _ xs,_=>.sl .old false xs
 |.sl .new _ xs,_=>.sl .old false xs
 |.raw (.slice none 0 0),_=>.sl .old false []
 |_,c=>c
def a9t:AV->AV->AV
 |.c x,.c y=>.c (a5o x y)
 |.g xs,.g ys=>.g (List.zipWith a5o xs ys)
 |_,y=>y
def b3u (m:Bool) (xs ys:List AV):List AV:=if m=true then List.zipWith a9t xs ys else ys
def a6y (P:Program) (drawn:Bool) (st:St) (dst:Option Nat) (f:FuncId) (args:List AV) (K:St->Prop):Prop:=
 (∃m args' ret,a3c st.H args=some args'/\PEv P f (b3u m args args') ret/\a4R (a1P st dst) st.H 0 ret.flat/\(drawn=true->ret.flat.length<=1024/\dst.isSome=true)/\K (b7k st dst ret))\/
 (drawn=false/\b3t P st f args fun ret H' T'=>K ((st.back H' T').put dst ret))
def c1w (id:Id):AC->Prop
 |.so i _ _=>i=id
 |.pt i _ _=>i=id
 |_=>False
inductive idC (id:Id):AC->Prop where
 |so (off len:Nat):idC id (.so id off len)
 |pt (i j:Nat):idC id (.pt id i j)
 |mr:idC id (.mr id)
 |fn (f:FuncId) (caps:List AC) (c:AC) (hc:c∈caps) (h:idC id c):idC id (.fn f caps)
def idV (id:Id) (v:AV):Prop:=∃c∈v.flat,idC id c
def upH (H:Heap):List (Id×OK)->Heap
 |[]=>H
 |(i,o)::r=>upH (hset H i o) r
abbrev MH:=Heap->List AV->Option (Prop×List (Id×OK)×AV)
structure a5J (P:Program) (f:FuncId) (h:MH):Prop where
 loc:∀{H H':Heap} {args:List AV} {r},h H args=some r->(∀id,(∃v∈args,idV id v)->H id≠.a0b->H' id=H id)->h H' args=some r
 ups:∀{H:Heap} {args:List AV} {C us ret},h H args=some (C,us,ret)->∀q∈us,q.2≠.a0b/\H q.1≠.a0b/\∃v∈args,idV q.1 v
 go:∀{st:St} {dst:Option Nat} {args:List AV} {C us ret},h st.H args=some (C,us,ret)->C->a4R (a1P st dst) st.H 0 ret.flat->
  b3t P st f args fun r H T=>r=ret.ad (a1P st dst)/\H=adH (a1P st dst) 0 ret.flat (upH st.H us)/\T=st.T
def a9u (st:St) (dst:Option Nat) (us:List (Id×OK)) (ret:AV):St:={st with H:=adH (a1P st dst) 0 ret.flat (upH st.H us)}.put dst (ret.ad (a1P st dst))
def c8A (P:Program) (st:St) (dst:Option Nat) (f:FuncId) (args:List AV) (K:List Id->St->Prop):Prop:=
 ∃(h:MH) (C:Prop) (us:List (Id×OK)) (ret:AV),a5J P f h/\h st.H args=some (C,us,ret)/\C/\a4R (a1P st dst) st.H 0 ret.flat/\(ret.flat.length<=1024/\dst.isSome=true)/\K (us.map (·.1)) (a9u st dst us ret)
def b8T (P:Program) (dst:Option Nat) (op:BinOp) (t:TypeId) (x y:AV) (st:St) (K:St->Prop):Prop:=
 match op,x,y with
 |.eql,.c (.sl _ _ xs),.c (.raw (.slice none 0 0))=>(tyI P t).form=2/\(xs=[]->K (st.put dst (.c (.raw (.bool true)))))/\K (st.put dst (.c (.raw (.bool false))))
 |.neq,.c (.sl _ _ xs),.c (.raw (.slice none 0 0))=>(tyI P t).form=2/\(xs=[]->K (st.put dst (.c (.raw (.bool false)))))/\K (st.put dst (.c (.raw (.bool true))))
 |_,_,_=>False
def a0D (P:Program) (drawn:Bool) (dst:Option Nat):Op->St->(St->Prop)->Prop
 |.call c,st,K=>
  match c.callee with
  |.builtin b=>abi P dst b c.args.toList c.argTypes.toList st K
  |.value f=>match st.eval f with
   |.c (.fn g caps)=>a6y P drawn st dst g (c.args.toList.map st.eval++caps.map .c) K
   |_=>False
  |.invoke _ _=>False
 |.binOp op t x y t',st,K=>aop P dst (.binOp op t x y t') st K\/(drawn=false/\b8T P dst op t (st.eval x) (st.eval y) st K)
 |op,st,K=>aop P dst op st K
def agd (gs:Option Nat) (want:Bool) (st:St) (yes no:St->Prop):Prop:=
 match gs with
 |some d=>match st.s d with
  |.c (.raw (.bool b))=>(b=want->yes (st.put (some d) (.c (.raw (.bool want)))))/\(b=!want->no (st.put (some d) (.c (.raw (.bool (!want))))))
  |.c (.raw (.tuple _))=>no st
  |_=>False
 |none=>False
def a6z (ops:Array Oper) (j:Nat):Option Nat:=(ops[j]?).bind (·.dst)
def a2z (P:Program) (drawn:Bool) (ops:Array Oper):List Oper->(St->Prop)->St->Prop
 |[],K,st=>K st
 |o::rest,K,st=>
  match o.guard with
  |none=>a0D P drawn o.dst o.op st (a2z P drawn ops rest K)
  |some (j,want)=>agd (a6z ops j) want st (fun st=>a0D P drawn o.dst o.op st (a2z P drawn ops rest K)) (fun st=>a2z P drawn ops rest K (st.put o.dst (.c (.raw undef))))
def hfree:Op->Bool
 |.move _|.assign _|.pick ..|.binOp ..|.unOp ..|.field ..|.extract ..|.index ..|.makeFunc ..=>true
 |_=>false
def a4b (tab:List Nat):List Edge->Nat
 |[]=>0
 |e::r=>if Region.binds .any e then (1 <<< e.on) |||(tab.getD e.on 0 |||a4b tab r) else a4b tab r
def b0L (tab:List Nat):List Oper->List Nat
 |[]=>tab
 |o::r=>b0L (tab++[a4b tab o.after.toList]) r
def writer:Op->Bool
 |.store ..=>true
 |.mapUpdate ..=>true
 |.call c=>match c.callee with
  |.builtin .append=>true
  |.builtin .copy=>true
  |_=>false
 |_=>false
def dOK (ops:Array Oper) (js:List Nat) (prs:List (Nat×Nat)):Bool:=
 let tab:=b0L [] ops.toList
 let l:=ops.toList.zipIdx
 l.all fun x=>((!js.contains x.2||x.1.guard.isNone)&&
  (!prs.contains (x.2,x.2)||l.all fun y=>x.2==y.2||((tab.getD x.2 0).testBit y.2||(tab.getD y.2 0).testBit x.2)))&&
  (!(js.contains x.2||writer x.1.op)||l.all fun y=>x.2==y.2||hfree y.1.op||((tab.getD x.2 0).testBit y.2||(tab.getD y.2 0).testBit x.2)||(js.contains x.2&&prs.contains (x.2,y.2)))
def c2d (ops:Array Oper):Bool:=dOK ops [] []
def a5p (P:Program) (o:Oper) (st:St) (K:List Id->St->Prop):Prop:=
 match o.guard,o.op with
 |none,.call c=>
  match c.callee with
  |.value f=>match st.eval f with
   |.c (.fn g caps)=>c8A P st o.dst g (c.args.toList.map st.eval++caps.map .c) K
   |_=>False
  |_=>False
 |none,.store t x v=>
  match st.eval x with
  |.c (.pt id _ _)=>aop P o.dst (.store t x v) st (K [id])
  |_=>False
 |_,_=>False
def a2L (i:Nat) (op:Op) (st:St):List (Nat×AV):=op.operands.toList.map fun x=>(i,st.eval x)
def a4W (P:Program) (ops:Array Oper) (o:Oper) (A:St) (K:St->Prop):Prop:=
 match o.guard with
 |none=>a0D P true o.dst o.op A K
 |some (j,want)=>agd (a6z ops j) want A (fun st=>a0D P true o.dst o.op st K) (fun st=>K (st.put o.dst (.c (.raw undef))))
def a4E (P:Program) (ops:Array Oper) (o:Oper) (A:St) (K:St->Prop):Prop:=
 match o.guard with
 |none=>∃v,a0D P false o.dst o.op A (·=A.put o.dst v)/\K (A.put o.dst v)
 |some (j,want)=>agd (a6z ops j) want A (fun st=>∃v,a0D P false o.dst o.op st (·=st.put o.dst v)/\K (st.put o.dst v)) (fun st=>K (st.put o.dst (.c (.raw undef))))
def b4L (P:Program) (ops:Array Oper) (js:List Nat) (prs:List (Nat×Nat)):List Oper->Nat->List (Nat×Id)->List (Nat×AV)->(List (Nat×Id)->List (Nat×AV)->St->Prop)->St->Prop
 |[],_,W,N,K,st=>K W N st
 |o::rest,i,W,N,K,st=>
  if prs.contains (i,i)=true then a4E P ops o st (b4L P ops js prs rest (i+1) W (if prs.any (·.2==i)=true then a2L i o.op st++N else N) K)
  else if js.contains i=true then a5p P o st fun W' st'=>b4L P ops js prs rest (i+1) (W'.map (fun id=>(i,id))++W) (if prs.any (·.2==i)=true then a2L i o.op st++N else N) K st'
  else a4W P ops o st (b4L P ops js prs rest (i+1) W (if prs.any (·.2==i)=true then a2L i o.op st++N else N) K)
def a9v (P:Program) (draw:Bool) (ops:Array Oper) (K:St->Prop) (st:St):Prop:=
 (a2z P draw ops ops.toList K st/\(draw=true->c2d ops=true))\/
 (draw=true/\∃js prs,dOK ops js prs=true/\b4L P ops js prs ops.toList 0 [] [] (fun W N st'=>(∀x∈W,x.2.1≠st.T/\∀y∈N,(x.1,y.1)∈prs->¬idV x.2 y.2)/\K st') st)
inductive AEx where
 |normal
 |exit (id:Nat)
 |ret
def a2V (next:St->Prop) (Q:AEx->St->Prop):AEx->St->Prop
 |.normal,st=>next st
 |e,st=>Q e st
def a2M (id:Nat) (Q:AEx->St->Prop):AEx->St->Prop
 |.exit j,st=>if j=id then Q .normal st else Q (.exit j) st
 |e,st=>Q e st
def a6c (P:Program) (vs st:St):Prop:=vs=st\/(st.n=true/\∀C:Ctx P,C.nice->∀ρ a w,Rel C ρ st a w->∃ρ',Rel C ρ' vs a w)
theorem a6c.refl {P:Program} (st:St):a6c P st st:=.inl rfl
theorem a6c.rel {P:Program} {vs st:St} (h:a6c P vs st) {C:Ctx P} {ρ:Lies} {a:Act} {w:World} (hr:Rel C ρ st a w):∃ρ',Rel C ρ' vs a w:=by
 rcases h with rfl|⟨h1,h2⟩
 ·exact ⟨ρ,hr⟩
 ·exact h2 C (hr.nf h1) ρ a w hr
def awp (P:Program):Code->(AEx->St->Prop)->St->Prop
 |.skip,Q,st=>Q .normal st
 |.region _ ops draw,Q,st=>a9v P draw ops (fun st=>Q .normal {st with T:=st.T+1}) st
 |.seq x y,Q,st=>awp P x (a2V (fun st'=>∃vs,a6c P vs st'/\awp P y Q vs) Q) st
 |.cond c x y,Q,st=>
  match st.eval c with
  |.c (.raw (.bool b))=>(b=true->awp P x Q st)/\(b=false->awp P y Q st)
  |_=>False
 |.block id x,Q,st=>awp P x (a2M id Q) st
 |.loop x,Q,st=>∃(ι:Type) (v:ι->St) (μ:ι->Nat) (i:ι),a6c P (v i) st/\∀i,awp P x (a2V (fun st'=>∃j,μ j<μ i/\a6c P (v j) st') Q) (v i)
 |.exit id,Q,st=>Q (.exit id) st
 |.ret,Q,st=>Q .ret st
 |_,_,_=>False
open Go
variable {P:Program} {C:Ctx P} {ρ:Lies} {st:St} {a:Act} {w:World}
theorem a8o (nm:Nat->Id):∀(cs:List AC) (k:Nat) {H:Heap},(∃N,∀k d,N<=k->H (k,d)=.a0b)->∃N,∀k' d,N<=k'->adH nm k cs H (k',d)=.a0b
 |[],_,_,h=>h
 |c::cs,k,H,h=>by
  simp only [adH]
  refine a8o nm cs (k+1) ?_
  unfold b4x
  split
  ·exact a4A h
  ·exact h
theorem a7z (nm:Nat->Id):∀(cs:List AC) (k:Nat) {H:Heap} {id:Id} {ag:Nat} {es:List (List Int×AC)},adH nm k cs H id=.mp ag es->H id=.mp ag es
 |[],k,H,id,ag,es,h=>h
 |c::cs,k,H,id,ag,es,h=>by
  have h2:=a7z nm cs (k+1) h
  cases c<;>first
   |exact h2
   |(simp only [b4x,hset] at h2;split at h2<;>first|exact h2|cases h2)
theorem a3d (nm:Nat->Id):∀(cs:List AC) (k:Nat) (H:Heap) (id:Id),(∀i j,nm i=nm j->i=j)->
  (∃(j e sz:Nat) (xs:List (List AC)),cs[j]?=some (.nw e sz xs)/\id=nm (k+j)/\adH nm k cs H id=.arr e sz false xs)\/
  ((∀(j e sz:Nat) (xs:List (List AC)),cs[j]?=some (.nw e sz xs)->id≠nm (k+j))/\adH nm k cs H id=H id)
 |[],k,H,id,_=>.inr ⟨fun j e sz xs h=>by simp at h,rfl⟩
 |c::cs,k,H,id,inj=>by
  have ih:=a3d nm cs (k+1) (b4x (nm k) c H) id inj
  simp only [adH]
  rcases ih with ⟨j,e,sz,xs,h1,h2,h3⟩|⟨h1,h2⟩
  ·exact .inl ⟨j+1,e,sz,xs,by simpa using h1,by rw [h2];congr 1;omega,h3⟩
  ·rw [h2]
   have shift:∀(j e sz:Nat) (xs:List (List AC)),cs[j]?=some (.nw e sz xs)->id≠nm (k+(j+1)):=fun j e sz xs hj=>by
    have:=h1 j e sz xs hj
    rwa [show k+1+j=k+(j+1) from by omega] at this
   cases c with
   |nw e sz xs=>
    by_cases hid:id=nm k
    ·exact .inl ⟨0,e,sz,xs,rfl,by simpa using hid,by simp [b4x,hset,hid]⟩
    ·refine .inr ⟨fun j e' sz' xs' hj=>?_,by simp [b4x,hset,hid]⟩
     cases j with
     |zero=>simpa using hid
     |succ j=>exact shift j e' sz' xs' (by simpa using hj)
   |_=>
    refine .inr ⟨fun j e' sz' xs' hj=>?_,rfl⟩
    cases j with
    |zero=>simp at hj
    |succ j=>exact shift j e' sz' xs' (by simpa using hj)
theorem a8p (nm:Nat->Id):∀(cs:List AC) (k:Nat) (H:Heap),a4R nm H k cs->∀(j e sz:Nat) (xs:List (List AC)),cs[j]?=some (.nw e sz xs)->H (nm (k+j))=.a0b
 |[],k,H,_,j,e,sz,xs,hj=>by simp at hj
 |c::cs,k,H,h,j,e,sz,xs,hj=>by
  cases j with
  |zero=>
   simp at hj
   subst hj
   simpa using h.1
  |succ j=>
   have:a4R nm H (k+1) cs:=by cases c<;>first|exact h.2|exact h
   have:=a8p nm cs (k+1) H this j e sz xs (by simpa using hj)
   rwa [show k+1+j=k+(j+1) from by omega] at this
theorem c2e (nm:Nat->Id) (inj:∀i j,nm i=nm j->i=j) (cs:List AC) (H:Heap) (id:Id) :
  (adH nm 0 cs H id=adH nm 0 cs a0j id/\adH nm 0 cs a0j id≠.a0b)\/(adH nm 0 cs a0j id=.a0b/\adH nm 0 cs H id=H id):=by
 rcases a3d nm cs 0 H id inj with ⟨j,e,sz,xs,h1,h2,h3⟩|⟨h1,h2⟩
 ·rcases a3d nm cs 0 a0j id inj with ⟨j',e',sz',xs',g1,g2,g3⟩|⟨g1,g2⟩
  ·have:j=j':=by
    have:=inj _ _ (h2.symm.trans g2)
    omega
   subst this
   rw [h1] at g1
   cases g1
   exact .inl ⟨by rw [h3,g3],by rw [g3];simp⟩
  ·exact (g1 j e sz xs h1 h2).elim
 ·rcases a3d nm cs 0 a0j id inj with ⟨j',e',sz',xs',g1,g2,g3⟩|⟨g1,g2⟩
  ·exact (h1 j' e' sz' xs' g1 g2).elim
  ·exact .inr ⟨g2,h2⟩
theorem a8q (nm:Nat->Id) (inj:∀i j,nm i=nm j->i=j) (cs:List AC) {id:Id} {e sz:Nat} {f:Bool} {rows:List (List AC)} (h:adH nm 0 cs a0j id=.arr e sz f rows) :
  f=false/\∃j,cs[j]?=some (.nw e sz rows)/\id=nm j:=by
 rcases a3d nm cs 0 a0j id inj with ⟨j,e',sz',xs,h1,h2,h3⟩|⟨_,h2⟩
 ·rw [h] at h3
  cases h3
  exact ⟨rfl,j,h1,by simpa using h2⟩
 ·rw [h] at h2;cases h2
theorem a4X {F F':Tag->Nat->Prop} {H:Heap} (hH:a1A C H ρ w) (hF:F=Fr C H ρ) (hF':∀t b,F t b->F' .brw b) (hF2:∀b,F .old b->F' .old b) (hrow:∀b,b<w.heap.size->F' .brw b)
  {c c':AC} {v:Value} (h:a0C w F H ρ c v) (hv:a1e H c=some c') (ok:b7j c'):a0C w F' a0j a0t c' v:=by
 subst hF
 cases h with
 |raw v=>
  unfold a1e at hv
  split at hv
  ·rename_i he;cases he;cases hv;exact .a0H _ _ _ .nil
  ·rename_i he;cases he;cases hv;exact .raw _
  ·rename_i he;cases he
  ·rename_i he;cases he
  ·rename_i he;cases he
  ·cases hv
 |str l=>simp [a1e] at hv;subst hv;exact .str l
 |a0H t cl v hn=>simp [a1e] at hv;subst hv;exact .a0H _ _ _ hn
 |sl t cl xs b o cap sz vs hb hf hcap hcl hr hcell hone hrel=>
  simp [a1e] at hv
  subst hv
  exact .sl _ _ xs b o cap sz vs hb (hF' t b hf) hcap (fun e=>by cases e) hr hcell hone fun i j r c hi hj=>
   (hrel i j r c hi hj).old (ok r (List.mem_of_getElem? hi) c (List.mem_of_getElem? hj)) hF2
 |so id off len v hk hs=>
  simp only [a1e,Option.map_eq_some_iff] at hv
  obtain ⟨rows,hr,rfl⟩:=hv
  rcases a1B hH (.so id off len v hk hs) hr with ⟨hn,rfl⟩|⟨b,o',cap,sz,rfl,g1,g2,g3⟩
  ·exact .a0H _ _ _ hn
  ·
   by_cases hne:rows.length=0
   ·have:rows=[]:=List.eq_nil_of_length_eq_zero hne
    subst this
    have hl:=hs (by
     simp only [rowsOf] at hr
     split at hr
     ·rename_i hid;rw [hid];rfl
     ·cases hr)
    unfold a1p at hl
    have hbl:b0A (.slice (some ⟨b,o',none⟩) 0 cap)\/b<w.heap.size:=by
     simp only [rowsOf] at hr
     split at hr
     ·rename_i e sz' frz rs hid
      rcases (hH.row id e sz' frz rs hid).lies with ⟨q1,_⟩|⟨b',cap',cur,q1,_,q3,_⟩
      ·rw [q1] at hl;exact .inl hl.2.2
      ·rw [q1] at hl
       obtain ⟨o'',he,_⟩:=hl
       cases he
       exact .inr q3.lt
     ·cases hr
    rcases hbl with hn|hbl
    ·exact .a0H _ _ _ hn
    exact .sl _ _ [] b o' cap sz (fun _=>undef) hbl (hrow b hbl) (by simp) (fun e=>by cases e) (by simp) (by simp) (by simp) (by simp)
   ·obtain ⟨news,n1,n2,n3,n4⟩:=a16 g1 g3
    have hbl:∀k,k<rows.length*sz->∃u,w.cell? ⟨b,o'+k,none⟩=some u/\news[k]?=some u:=fun k hk=>by
     have:k<news.length:=by omega
     have h1:=n2 k news[k] (List.getElem?_eq_getElem this)
     rw [Addr.add_lit] at h1
     exact ⟨_,h1,List.getElem?_eq_getElem this⟩
    have hb:b<w.heap.size:=by
     simp only [rowsOf] at hr
     split at hr
     ·rename_i e sz' frz rs hid
      have hl:=hs (by rw [hid];rfl)
      unfold a1p at hl
      rcases (hH.row id e sz' frz rs hid).lies with ⟨q1,q2⟩|⟨b',cap',cur,q1,_,q3,_⟩
      ·subst q2
       split at hr
       ·cases hr;simp at hne
       ·cases hr
      ·rw [q1] at hl
       obtain ⟨o'',he,_⟩:=hl
       cases he
       exact q3.lt
     ·cases hr
    refine .sl _ _ rows b o' cap sz (fun k=>news.getD k undef) hb (hrow b hb) g2 (fun e=>by cases e) (fun i r hi=>g1 r (List.mem_of_getElem? hi)) (fun k hk=>?_) (fun k hk=>?_) (fun i j r c hi hj=>?_)
    ·obtain ⟨u,u1,u2⟩:=hbl k hk
     rw [u1];simp [List.getD,u2]
    ·obtain ⟨u,u1,u2⟩:=hbl k hk
     have:news.getD k undef=u:=by simp [List.getD,u2]
     rw [this];exact n3 u (List.mem_of_getElem? u2)
    ·obtain ⟨u,u1,u2,u3⟩:=n4 i j r c hi hj
     have:news.getD (i*sz+j) undef=u:=by simp [List.getD,u1]
     rw [this]
     exact u3.old (ok r (List.mem_of_getElem? hi) c (List.mem_of_getElem? hj)) hF2
 |_=>simp [a1e] at hv
theorem a3Q {H:Heap}:∀{cs cs':List AC},a3t H cs=some cs'->cs.length=cs'.length/\∀(k:Nat) c',cs'[k]?=some c'->∃c,cs[k]?=some c/\a1e H c=some c'
 |[],cs',h=>by simp [a3t] at h;subst h;simp
 |c::cs,cs',h=>by
  simp only [a3t] at h
  split at h
  ·rename_i x xs h1 h2
   cases h
   obtain ⟨g1,g2⟩:=a3Q h2
   refine ⟨by simp [g1],fun k c' hk=>?_⟩
   cases k with
   |zero=>simp at hk;subst hk;exact ⟨c,rfl,h1⟩
   |succ k=>simpa using g2 k c' (by simpa using hk)
  ·cases h
theorem a7A {H:Heap}:∀{cs cs':List AC},a2Z H cs=some cs'->cs.length=cs'.length/\∀(k:Nat) c',cs'[k]?=some c'->∃c,cs[k]?=some c/\a4r H c=some c'
 |[],cs',h=>by simp [a2Z] at h;subst h;simp
 |c::cs,cs',h=>by
  simp only [a2Z] at h
  split at h
  ·rename_i x xs h1 h2
   cases h
   obtain ⟨g1,g2⟩:=a7A h2
   refine ⟨by simp [g1],fun k c' hk=>?_⟩
   cases k with
   |zero=>simp at hk;subst hk;exact ⟨c,rfl,h1⟩
   |succ k=>simpa using g2 k c' (by simpa using hk)
  ·cases h
theorem b2C {H:Heap} {c r:AC} (h:a1e a0j c=some r):a1e H c=some r:=by
 cases c with
 |so id off len=>simp [a1e,rowsOf,a0j] at h
 |raw v=>rw [<-h];unfold a1e;split<;>first|rfl|(rename_i e;cases e)|(split<;>simp_all)
 |_=>exact h
theorem a9w {F F':Tag->Nat->Prop} {H:Heap} (hH:a1A C H ρ w) (hF:F=Fr C H ρ) (hF':∀t b,F t b->F' .brw b) (hF2:∀b,F .old b->F' .old b) (hrow:∀b,b<w.heap.size->F' .brw b)
  {c c':AC} {v:Value} (h:a0C w F H ρ c v) (hv:a4r H c=some c') (ok:b4w c'):a0C w F' a0j a0t c' v:=by
 unfold a4r at hv
 split at hv
 ·rename_i id i j
  split at hv
  ·rename_i e sz frz rows hid
   split at hv
   ·rename_i row hr
    simp only [Option.map_eq_some_iff] at hv
    obtain ⟨cs,hcs,rfl⟩:=hv
    obtain ⟨g1,g2⟩:=a3Q hcs
    subst hF
    cases h with
    |pt _ _ _ _ hk hp=>
     obtain ⟨b,cap,sz',hρ,rfl⟩:=hp (by rw [hid];rfl)
     rcases (hH.row id e sz frz rows hid).lies with ⟨_,q⟩|⟨b0,cap0,cur,q1,q2,q3,q4,q5,q6,q7⟩
     ·rw [q] at hr;simp at hr
     ·rw [hρ] at q1
      simp only [Option.some.injEq,Prod.mk.injEq] at q1
      obtain ⟨rfl,rfl,rfl⟩:=q1
      have hb:b<w.heap.size:=q3.lt
      have hcell:∀k,k<cs.length->∃u,w.cell? ⟨b,i*sz'+k,none⟩=some u/\∃c0,row[k]?=some c0/\a0C w (Fr C H ρ) H ρ c0 u:=fun k hk=>by
       have hk':k<row.length:=by omega
       obtain ⟨u,u1,u2,u3⟩:=q7 i k row row[k] hr (List.getElem?_eq_getElem hk')
       exact ⟨u,by rw [q3.cell];exact u1,row[k],List.getElem?_eq_getElem hk',u3⟩
      refine .pv .brw cs j b (i*sz') (fun k=>(w.cell? ⟨b,i*sz'+k,none⟩).getD undef) hb (hrow b hb) (fun k hk=>?_) fun k c hc=>?_
      ·obtain ⟨u,u1,_⟩:=hcell k hk
       rw [u1];rfl
      ·have hk:=(List.getElem?_eq_some_iff.1 hc).1
       obtain ⟨u,u1,c0,u2,u3⟩:=hcell k hk
       obtain ⟨c1,hc1,hv1⟩:=g2 k c hc
       rw [u2] at hc1
       cases hc1
       simp only [u1,Option.getD_some]
       exact a4X hH rfl hF' hF2 hrow u3 (b2C hv1) (ok c (List.mem_of_getElem? hc))
   ·cases hv
  ·cases hv
 ·rename_i tg row j
  simp only [Option.map_eq_some_iff] at hv
  obtain ⟨cs,hcs,rfl⟩:=hv
  obtain ⟨g1,g2⟩:=a3Q hcs
  cases h with
  |pv _ _ _ b o vs hb hf hcell hrel=>
   refine .pv .brw cs j b o vs hb (hF' _ _ hf) (fun k hk=>hcell k (by omega)) fun k c hc=>?_
   obtain ⟨c0,hc0,hv0⟩:=g2 k c hc
   exact a4X hH hF hF' hF2 hrow (hrel k c0 hc0) (b2C hv0) (ok c (List.mem_of_getElem? hc))
 ·rename_i n1 n2
  refine a4X hH hF hF' hF2 hrow h hv ?_
  cases c' with
  |pv tg row j=>
   exfalso
   unfold a1e at hv
   split at hv<;>first|(cases hv;done)|(simp at hv)
  |_=>exact ok
theorem a9x {H:Heap}:∀{xs ys:List AV},a3c H xs=some ys->xs.length=ys.length/\∀(k:Nat) y,ys[k]?=some y->∃x,xs[k]?=some x/\a2K H x=some y
 |[],ys,h=>by simp [a3c] at h;subst h;simp
 |x::xs,ys,h=>by
  simp only [a3c] at h
  split at h
  ·rename_i y ys' h1 h2
   cases h
   obtain ⟨g1,g2⟩:=a9x h2
   refine ⟨by simp [g1],fun k c' hk=>?_⟩
   cases k with
   |zero=>simp at hk;subst hk;exact ⟨x,rfl,h1⟩
   |succ k=>simpa using g2 k c' (by simpa using hk)
  ·cases h
theorem b4M {F F':Tag->Nat->Prop} {H:Heap} (hH:a1A C H ρ w) (hF:F=Fr C H ρ) (hF':∀t b,F t b->F' .brw b) (hF2:∀b,F .old b->F' .old b) (hrow:∀b,b<w.heap.size->F' .brw b)
  {x y:AV} {v:Value} (h:a2f w F H ρ x v) (hv:a2K H x=some y) (ok:∀c∈y.flat,VOK c):a2f w F' a0j a0t y v:=by
 have vok:∀c,(∀f caps,c≠.fn f caps)->VOK c->b4w c:=fun c hn h=>by cases c<;>first|exact h|exact (hn _ _ rfl).elim
 have d6e:∀c,(∀t r j,c≠.pv t r j)->b4w c->b7j c:=fun c hn h=>by cases c<;>first|exact h|exact (hn _ _ _ rfl).elim
 have d0R:∀c c',a1e H c=some c'->(∀f caps,c'≠.fn f caps)/\∀t r j,c'≠.pv t r j:=fun c c' hc=>by
  refine ⟨fun f caps he=>?_,fun t r j he=>?_⟩<;>
  ·subst he
   unfold a1e at hc
   split at hc<;>first|(cases hc;done)|(simp at hc)
 have d0S:∀c c',a4r H c=some c'->∀f caps,c'≠.fn f caps:=fun c c' hc f caps he=>by
  subst he
  unfold a4r at hc
  split at hc
  ·split at hc
   ·split at hc
    ·simp at hc
    ·cases hc
   ·cases hc
  ·simp at hc
  ·exact (d0R _ _ hc).1 _ _ rfl
 cases h with
 |c x v h=>
  unfold a2K at hv
  split at hv
  ·rename_i f caps he
   cases he
   simp only [Option.map_eq_some_iff] at hv
   obtain ⟨cs,hcs,rfl⟩:=hv
   cases h with
   |fn _ _ vs hl hr=>
    obtain ⟨g1,g2⟩:=a7A hcs
    refine .c _ _ (.fn f cs vs (by omega) fun k c hc=>?_)
    obtain ⟨c0,hc0,hv0⟩:=g2 k c hc
    have okc:b4w c:=by
     have:=ok (.fn f cs) (by simp [AV.flat])
     exact this c (List.mem_of_getElem? hc)
    exact a9w hH hF hF' hF2 hrow (hr k c0 hc0) hv0 okc
  ·rename_i x hx he
   cases he
   simp only [Option.map_eq_some_iff] at hv
   obtain ⟨c,hc,rfl⟩:=hv
   exact .c _ _ (a9w hH hF hF' hF2 hrow h hc (vok c (d0S _ _ hc) (ok c (by simp [AV.flat]))))
  ·rename_i he;cases he
  ·cases hv
 |g xs vs hl h=>
  unfold a2K at hv
  split at hv
  ·rename_i he;cases he
  ·rename_i he;cases he
  ·rename_i he
   cases he
   simp only [Option.map_eq_some_iff] at hv
   obtain ⟨cs,hcs,rfl⟩:=hv
   obtain ⟨g1,g2⟩:=a3Q hcs
   refine .g cs vs (by omega) fun k c hc=>?_
   obtain ⟨c0,hc0,hv0⟩:=g2 k c hc
   exact a4X hH hF hF' hF2 hrow (h k c0 hc0) hv0 (d6e c (d0R _ _ hv0).2 (vok c (d0R _ _ hv0).1 (ok c (List.mem_of_getElem? hc))))
  ·cases hv
 |t xs vs hl h=>
  simp [a2K] at hv
open Go
variable {P:Program} {C:Ctx P} {ρ:Lies} {st:St} {a:Act} {w:World}
theorem b2D (st:St) (dst:Option Nat):∀i j,a1P st dst i=a1P st dst j->i=j:=fun i j h=>by
 simp only [a1P,Prod.mk.injEq,true_and] at h
 omega
theorem a3R (nm:Nat->Id):∀(cs:List AC) (k:Nat),(adL nm k cs).length=cs.length/\∀(j:Nat),(adL nm k cs)[j]?=(cs[j]?).map (adC nm (k+j))
 |[],k=>by simp [adL]
 |c::cs,k=>by
  obtain ⟨h1,h2⟩:=a3R nm cs (k+1)
  refine ⟨by simp [adL,h1],fun j=>?_⟩
  cases j with
  |zero=>simp [adL]
  |succ j=>simp only [adL,List.getElem?_cons_succ,h2];congr 2;omega
theorem a8r (nm:Nat->Id):∀(ps:List (Bool×List AC)) (k:Nat),(adT nm k ps).length=ps.length/\
  ∀(j:Nat) b cs,(adT nm k ps)[j]?=some (b,cs)->∃k' cs',ps[j]?=some (b,cs')/\cs=adL nm (k+k') cs'/\∀(i:Nat) c,cs'[i]?=some c->(a2C ps)[k'+i]?=some c
 |[],k=>by simp [adT]
 |(b0,cs0)::ps,k=>by
  obtain ⟨h1,h2⟩:=a8r nm ps (k+cs0.length)
  refine ⟨by simp [adT,h1],fun j b cs hj=>?_⟩
  cases j with
  |zero=>
   simp [adT] at hj
   obtain ⟨rfl,rfl⟩:=hj
   exact ⟨0,cs0,rfl,rfl,fun i c hi=>by
    simp only [a2C,Nat.zero_add]
    rw [List.getElem?_append_left (List.getElem?_eq_some_iff.1 hi).1];exact hi⟩
  |succ j=>
   simp only [adT,List.getElem?_cons_succ] at hj
   obtain ⟨k',cs',g1,g2,g3⟩:=h2 j b cs hj
   exact ⟨cs0.length+k',cs',by simpa using g1,by rw [g2,Nat.add_assoc],fun i c hi=>by
    simp only [a2C]
    rw [List.getElem?_append_right (by omega),show cs0.length+k'+i-cs0.length=k'+i from by omega]
    exact g3 i c hi⟩
theorem b9M {t:Tag} {cl:Bool} {xs:List (List AC)} (h:VOK (.sl t cl xs)):∀r∈xs,∀c∈r,a4D c:=h
theorem a9y {v:Value} {y:AC}:(v=.slice none 0 0/\a5o (.raw v) y=.sl .old false [])\/a5o (.raw v) y=y:=by
 unfold a5o
 split<;>simp_all
theorem b2E {x y:AC} (h:∀t cl xs,x=.sl t cl xs->y=.sl .brw false xs) (h2:x=.raw (.slice none 0 0)->y=.sl .brw false []) (ok:VOK (a5o x y)):VOK y:=by
 cases x with
 |sl t cl xs=>
  have:=h t cl xs rfl
  subst this
  cases t<;>exact ok
 |raw v=>
  rcases a9y (v:=v) (y:=y) with ⟨rfl,e⟩|e
  ·rw [h2 rfl]
   intro r hr
   simp at hr
  ·rw [e] at ok;exact ok
 |_=>exact ok
theorem b3v (h:Rel C ρ st a w) {f:FuncId} {args args':List AV} {ret:AV} {dst:Option Nat} {m:Bool} (hv:a3c st.H args=some args') (hp:PEv P f (b3u m args args') ret)
  (hun:a4R (a1P st dst) st.H 0 ret.flat) {vs:Array Value} (hvs:vs.size=args.length)
  (hrel:∀(k:Nat) x,args[k]?=some x->a2f w (Fr C st.H ρ) st.H ρ x (vs.getD k undef)) :
  Calls P f vs w fun e w'=>∃v,e=.returned v/\∃ρ',a1A C (adH (a1P st dst) 0 ret.flat st.H) ρ' w'/\
   a1c w w' (Fr C st.H ρ) (Fr C (adH (a1P st dst) 0 ret.flat st.H) ρ') st.H (adH (a1P st dst) 0 ret.flat st.H) ρ ρ'/\
   a2f w' (Fr C (adH (a1P st dst) 0 ret.flat st.H) ρ') (adH (a1P st dst) 0 ret.flat st.H) ρ' (ret.ad (a1P st dst)) v:=by
 obtain ⟨⟨_,hret,hok⟩,hcall⟩:=hp
 generalize hnm:a1P st dst=nm at *
 have inj:∀i j,nm i=nm j->i=j:=by rw [<-hnm];exact b2D st dst
 let G:Tag->Nat->Prop:=fun t b=>t=.brw\/Fr C st.H ρ .old b\/Fr C st.H ρ .new b
 have d0T:∀b,¬Mut a0j a0t b:=fun b ⟨_,_,_,h,_⟩=>by cases h
 have hle:=h.le
 have hI:Inv P w:=h.heap.inv
 have frG:∀t b,(w.heap.size<=b\/(t≠.new/\G t b))->Fr (Ctx.of w hI G) a0j a0t t b:=fun t b q=>⟨⟨q,fun h=>h⟩,d0T b⟩
 obtain ⟨l1,l2⟩:=a9x hv
 have hargs0:∀(k:Nat) y,args'[k]?=some y->(∀c∈y.flat,VOK c)->a2f w (Fr (Ctx.of w hI G) a0j a0t) a0j a0t y (vs.getD k undef):=fun k y hk b3m=>by
  obtain ⟨x,hx,hvx⟩:=l2 k y hk
  have hxr:=hrel k x hx
  exact b4M (F:=Fr C st.H ρ) h.heap rfl (fun t b hf=>frG _ _ (.inr ⟨by simp,.inl rfl⟩)) (fun b hf=>frG _ _ (.inr ⟨by simp,.inr (.inl hf)⟩)) (fun b hb=>frG _ _ (.inr ⟨by simp,.inl rfl⟩)) hxr hvx b3m
 have c5l:∀(x y:AC) (u:Value),a0C w (Fr C st.H ρ) st.H ρ x u->(VOK y->a0C w (Fr (Ctx.of w hI G) a0j a0t) a0j a0t y u)->VOK (a5o x y)->a0C w (Fr (Ctx.of w hI G) a0j a0t) a0j a0t (a5o x y) u:=fun x y u hx hy ok=>by
  have go:∀(t:Tag) cl xs,x=.sl t cl xs->t=.old\/t=.new->VOK (.sl .old false xs)->a0C w (Fr (Ctx.of w hI G) a0j a0t) a0j a0t (.sl .old false xs) u:=fun t cl xs hxx ht okg=>by
   subst hxx
   cases hx with
   |a0H _ _ _ hn=>exact .a0H _ _ _ hn
   |sl _ _ _ b o cap sz vs hb hf hcap hcl hr hcell hone hrel=>
    refine .sl _ _ xs b o cap sz vs hb ?_ hcap (fun e=>by cases e) hr hcell hone fun i j r c hi hj=>
     (hrel i j r c hi hj).old ((b9M okg) r (List.mem_of_getElem? hi) c (List.mem_of_getElem? hj)) (fun b hf=>frG _ _ (.inr ⟨by simp,.inr (.inl hf)⟩))
    refine frG _ _ (.inr ⟨by simp,.inr ?_⟩)
    rcases ht with rfl|rfl
    ·exact .inl hf
    ·exact .inr hf
  cases x with
  |sl t cl xs=>
   cases t with
   |old=>exact go _ cl xs rfl (.inl rfl) ok
   |new=>exact go _ cl xs rfl (.inr rfl) ok
   |brw=>exact hy ok
  |raw v=>
   rcases a9y (v:=v) (y:=y) with ⟨rfl,e⟩|e
   ·rw [e]
    cases hx
    exact .a0H _ _ _ b0A.nil
   ·rw [e] at ok ⊢;exact hy ok
  |_=>exact hy ok
 have lp:(b3u m args args').length=args'.length:=by
  unfold b3u;split
  ·simp;omega
  ·rfl
 have hargs:∀(k:Nat) x,(b3u m args args')[k]?=some x->a2f w (Fr (Ctx.of w hI G) a0j a0t) a0j a0t x (vs.getD k undef):=fun k y' hk=>by
  have b3m:=hok y' (List.mem_of_getElem? hk)
  unfold b3u at hk
  split at hk
  ·rw [List.getElem?_zipWith] at hk
   cases hx:args[k]? with
   |none=>rw [hx] at hk;simp at hk
   |some x=>
    cases hy:args'[k]? with
    |none=>rw [hx,hy] at hk;simp at hk
    |some y=>
     rw [hx,hy] at hk
     simp only [Option.some.injEq] at hk
     subst hk
     have hxr:=hrel k x hx
     obtain ⟨x',hx',hvx⟩:=l2 k y hy
     rw [hx] at hx'
     cases hx'
     have h0:=hargs0 k y hy
     generalize vs.getD k undef=u at hxr h0
     cases x with
     |t ps=>simp [a2K] at hvx
     |c a=>
      cases y with
      |c b=>
       have okp:VOK (a5o a b):=b3m _ (by simp [a9t,AV.flat])
       have okb:VOK b:=b2E (fun t cl xs e=>by subst e;simpa [a2K,a4r,a1e] using hvx.symm) (fun e=>by subst e;simpa [a2K,a4r,a1e] using hvx.symm) okp
       exact .c _ _ (c5l a b u (a0m hxr) (fun _=>a0m (h0 (by simpa [AV.flat] using okb))) okp)
      |g ys=>simp only [a9t] at b3m ⊢;exact h0 b3m
      |t ps=>simp only [a9t] at b3m ⊢;exact h0 b3m
     |g xs=>
      cases y with
      |c b=>simp only [a9t] at b3m ⊢;exact h0 b3m
      |t ps=>simp only [a9t] at b3m ⊢;exact h0 b3m
      |g ys=>
       simp only [a2K,Option.map_eq_some_iff] at hvx
       obtain ⟨zs,hz,hzy⟩:=hvx
       cases hzy
       obtain ⟨g1,g2⟩:=a3Q hz
       have okz:∀c∈ys,VOK c:=fun c hc=>by
        obtain ⟨q,hq,rfl⟩:=List.getElem_of_mem hc
        obtain ⟨c0,hc0,hv0⟩:=g2 q ys[q] (List.getElem?_eq_getElem hq)
        refine b2E (x:=c0) (fun t cl xs e=>by subst e;simpa [a1e] using hv0.symm) (fun e=>by subst e;simpa [a1e] using hv0.symm) (b3m _ ?_)
        simp only [a9t,AV.flat]
        have:(List.zipWith a5o xs ys)[q]?=some (a5o c0 ys[q]):=by rw [List.getElem?_zipWith,hc0,List.getElem?_eq_getElem hq]
        exact List.mem_of_getElem? this
       have hz0:=h0 okz
       cases hxr with
       |g _ us hl hx0=>
        cases hz0 with
        |g _ _ hl2 hy0=>
         refine .g _ us (by simp;omega) fun q c hq=>?_
         rw [List.getElem?_zipWith] at hq
         cases hxq:xs[q]? with
         |none=>rw [hxq] at hq;simp at hq
         |some a=>
          cases hyq:ys[q]? with
          |none=>rw [hxq,hyq] at hq;simp at hq
          |some b=>
           rw [hxq,hyq] at hq
           simp only [Option.some.injEq] at hq
           subst hq
           refine c5l a b _ (hx0 q a hxq) (fun _=>hy0 q b hyq) (b3m _ ?_)
           simp only [a9t,AV.flat]
           have:(List.zipWith a5o xs ys)[q]?=some (a5o a b):=by rw [List.getElem?_zipWith,hxq,hyq]
           exact List.mem_of_getElem? this
  ·exact hargs0 k y' hk b3m
 refine (hcall w hI G vs (by omega) hargs nm inj).mono ?_
 rintro e w' ⟨v,rfl,ρc,hH,hR⟩
 let Hc:=adH nm 0 ret.flat a0j
 let H':=adH nm 0 ret.flat st.H
 have hor:∀id,(H' id=Hc id/\Hc id≠.a0b)\/(Hc id=.a0b/\H' id=st.H id):=fun id=>c2e nm inj ret.flat st.H id
 have dis:∀id,Hc id≠.a0b->st.H id=.a0b:=fun id hne=>by
  rcases a3d nm ret.flat 0 a0j id inj with ⟨j,e,sz,xs,h1,h2,h3⟩|⟨_,h2⟩
  ·rw [h2];exact a8p nm ret.flat 0 st.H hun j e sz xs h1
  ·exact (hne h2).elim
 have hdec:∀id,Decidable (Hc id=.a0b):=fun id=>Classical.propDecidable _
 let ρ':Lies:=fun id=>if Hc id=.a0b then ρ id else ρc id
 have hB:RowKit.Below w.heap.size w w':=hH.below
 have hsz:w.heap.size<=w'.heap.size:=hB.size
 have hblk:∀b,b<w.heap.size->w'.heap[b]?=w.heap[b]?:=fun b hb=>hB.block b hb
 have d0U:∀b,Mut Hc ρc b->w.heap.size<=b:=fun b m=>(hH.a9k m).1
 have c8v:∀b,Mut H' ρ' b->(Mut Hc ρc b)\/(Mut st.H ρ b):=fun b ⟨id,c,s,hid,hρ⟩=>by
  rcases hor id with ⟨h1,h2⟩|⟨h1,h2⟩
  ·left
   simp only [ρ',if_neg h2] at hρ
   exact ⟨id,c,s,by rw [<-h1];exact hid,hρ⟩
  ·right
   simp only [ρ',if_pos h1] at hρ
   exact ⟨id,c,s,by rw [<-h2];exact hid,hρ⟩
 have hk:a1c w w' (Fr C st.H ρ) (Fr C H' ρ') st.H H' ρ ρ':=a38 hsz (fun b hb _=>hblk b hb) (fun b hb m=>by
   rcases c8v b m with m|m
   ·have:=d0U b m;omega
   ·exact m) (fun id hne=>by
   have hu:Hc id=.a0b:=Classical.byContradiction fun q=>hne (dis id q)
   rcases hor id with ⟨_,h2⟩|⟨_,h2⟩
   ·exact (h2 hu).elim
   ·rw [h2];exact ⟨hne,fun l=>⟨l,by simp only [ρ',if_pos hu]⟩⟩)
 have hF:∀t b,t≠.brw->Fr (Ctx.of w hI G) Hc ρc t b->Fr C H' ρ' t b:=fun t b ht hf=>by
  obtain ⟨⟨h1,_⟩,h2⟩:=hf
  rcases h1 with h1|⟨h1,h3⟩
  ·refine ⟨⟨.inl (Nat.le_trans hle h1),fun hB=>Nat.lt_irrefl _ (Nat.lt_of_lt_of_le (h.heap.maps.there b hB).1 h1)⟩,fun m=>?_⟩
   rcases c8v b m with m|m
   ·exact h2 m
   ·have h5:=(h.heap.a9k m).2
    have h6:w.heap.size<=b:=h1
    omega
  ·rcases h3 with h3|h3|h3
   ·exact (ht h3).elim
   ·have:t=.old:=by cases t<;>first|rfl|exact (h1 rfl).elim|exact (ht rfl).elim
    subst this
    refine ⟨h3.1,fun m=>?_⟩
    rcases c8v b m with m|m
    ·exact h2 m
    ·exact h3.2 m
   ·refine ⟨⟨.inl ?_,h3.1.2⟩,fun m=>?_⟩
    ·rcases h3.1.1 with q|⟨q,_⟩
     ·exact q
     ·exact (q rfl).elim
    ·rcases c8v b m with m|m
     ·exact h2 m
     ·exact h3.2 m
 have d2m:∀j c,ret.flat[j]?=some c->a6v c:=fun j c hj=>hret c (List.mem_of_getElem? hj)
 have d6f:∀id e sz f rows,Hc id=.arr e sz f rows->Row w' (Fr C H' ρ') H' ρ' C.p id e sz rows:=fun id e sz f rows hid=>by
  have hne:Hc id≠.a0b:=by rw [hid];simp
  have hr:=hH.row id e sz f rows hid
  obtain ⟨_,j,hj,_⟩:=a8q nm inj ret.flat hid
  have hrc:=d2m j _ hj
  refine ⟨hr.a2e,?_⟩
  rcases hr.lies with ⟨h1,h2⟩|⟨b,cap,cur,h1,h2,h3,h4,h5,h6,h7⟩
  ·exact .inl ⟨by simp only [ρ',if_neg hne];exact h1,h2⟩
  ·refine .inr ⟨b,cap,cur,by simp only [ρ',if_neg hne];exact h1,Nat.le_trans hle h2,h3,h4,h5,h6,fun i k r c hi hk'=>?_⟩
   obtain ⟨u,u1,u2,u3⟩:=h7 i k r c hi hk'
   exact ⟨u,u1,u2,u3.b0y (hrc r (List.mem_of_getElem? hi) c (List.mem_of_getElem? hk')) hF⟩
 refine ⟨v,rfl,ρ',⟨?_,fun id e sz f rows hid=>?_,?_,a8o nm _ _ h.heap.fin,h.heap.maps.keep hk (fun id ag es q=>by
  rcases hor id with ⟨h1,h2⟩|⟨h1,h2⟩
  ·cases a7z nm _ _ (h1.symm.trans q)
  ·replace q:=h2.symm.trans q
   exact ⟨q,by simp only [ρ',if_pos h1],fun b c s hρ=>hblk b (h.heap.map_lt q hρ)⟩) (fun id b c s hu hl hρ hB=>by
  rcases hor id with ⟨h1,h2⟩|⟨h1,h2⟩
  ·simp only [ρ',if_neg h2] at hρ
   have hl2:(Hc id).live=true:=by rw [<-h1];exact hl
   have hb:=(h.heap.maps.there b hB).1
   cases ho:Hc id with
   |arr e sz f rows=>
    obtain ⟨rfl,_⟩:=a8q nm inj ret.flat ho
    have:=d0U b (a4z ho hρ)
    omega
   |mp ag es=>cases a7z nm _ _ ho
   |_=>rw [ho] at hl2;cases hl2
  ·have hl2:(st.H id).live=true:=by rw [<-h2];exact hl
   rw [hu] at hl2;cases hl2) fun b hB=>hblk b (h.heap.maps.there b hB).1⟩,hk,?_⟩
 ·exact h.heap.below.trans (hB.mono hle)
 ·rcases hor id with ⟨h1,h2⟩|⟨h1,h2⟩
  ·exact d6f id e sz f rows (by rw [<-h1];exact hid)
  ·have b8Q:st.H id=.arr e sz f rows:=by rw [<-h2];exact hid
   refine (h.heap.row id e sz f rows b8Q).keep (C:=C) hk (by simp only [ρ',if_pos h1]) fun b c s hρ=>?_
   refine hblk b ?_
   rcases (h.heap.row id e sz f rows b8Q).lies with ⟨q,_⟩|⟨b',_,_,q,_,q3,_⟩
   ·rw [q] at hρ;cases hρ
   ·rw [q] at hρ;cases hρ
    exact q3.lt
 ·intro i1 i2 e1 s1 r1 e2 s2 f2 r2 b c s c' s' h1 h2 hρ1 hρ2
  have old:∀id e sz f rows c s,st.H id=.arr e sz f rows->ρ id=some (b,c,s)->b<w.heap.size:=fun id e sz f rows c s hid hρ=>by
   rcases (h.heap.row id e sz f rows hid).lies with ⟨q,_⟩|⟨b',_,_,q,_,q3,_⟩
   ·rw [q] at hρ;cases hρ
   ·rw [q] at hρ;cases hρ
    exact q3.lt
  have new:∀id e sz f rows c s,Hc id=.arr e sz f rows->ρc id=some (b,c,s)->w.heap.size<=b:=fun id e sz f rows c s hid hρ=>by
   obtain ⟨rfl,_⟩:=a8q nm inj ret.flat hid
   exact d0U b (a4z hid hρ)
  rcases hor i1 with ⟨p1,p2⟩|⟨p1,p2⟩<;>rcases hor i2 with ⟨q1,q2⟩|⟨q1,q2⟩
  ·simp only [ρ',if_neg p2] at hρ1
   simp only [ρ',if_neg q2] at hρ2
   exact hH.inj i1 i2 e1 s1 r1 e2 s2 f2 r2 b c s c' s' (p1.symm.trans h1) (q1.symm.trans h2) hρ1 hρ2
  ·simp only [ρ',if_neg p2] at hρ1
   simp only [ρ',if_pos q1] at hρ2
   have:=new i1 _ _ _ _ _ _ (p1.symm.trans h1) hρ1
   have:=old i2 _ _ _ _ _ _ (q2.symm.trans h2) hρ2
   omega
  ·simp only [ρ',if_pos p1] at hρ1
   simp only [ρ',if_neg q2] at hρ2
   have:=new i2 _ _ _ _ _ _ (q1.symm.trans h2) hρ2
   have:=old i1 _ _ _ _ _ _ (p2.symm.trans h1) hρ1
   omega
  ·simp only [ρ',if_pos p1] at hρ1
   simp only [ρ',if_pos q1] at hρ2
   exact h.heap.inj i1 i2 e1 s1 r1 e2 s2 f2 r2 b c s c' s' (p2.symm.trans h1) (q2.symm.trans h2) hρ1 hρ2
 ·
  have cell:∀(j:Nat) c u,ret.flat[j]?=some c->a0C w' (Fr (Ctx.of w hI G) Hc ρc) Hc ρc (adC nm j c) u->a0C w' (Fr C H' ρ') H' ρ' (adC nm j c) u:=fun j c u hj hu=>by
   have hrc:=d2m j c hj
   cases c with
   |nw e sz xs=>
    have hne:Hc (nm j)≠.a0b:=by
     rcases a3d nm ret.flat 0 a0j (nm j) inj with ⟨j',e',sz',xs',h1,h2,h3⟩|⟨h1,_⟩
     ·show adH nm 0 ret.flat a0j (nm j)≠.a0b
      rw [h3];simp
     ·exact (h1 j e sz xs hj (by simp)).elim
    simp only [adC] at hu ⊢
    cases hu with
    |so _ _ _ _ _ hs=>
     rcases hor (nm j) with ⟨p1,p2⟩|⟨p1,p2⟩
     ·refine .so _ _ _ _ (by rw [p1];exact p2) fun hl=>?_
      have:=hs (by rw [<-p1];exact hl)
      have he:ρ' (nm j)=ρc (nm j):=by simp only [ρ',if_neg p2]
      unfold a1p at *
      rw [he];exact this
     ·exact (hne p1).elim
   |_=>exact hu.b0y hrc hF
  cases ret with
  |c x=>
   simp only [AV.ad] at hR ⊢
   cases hR with
   |c _ _ hR=>exact .c _ _ (cell 0 x _ rfl hR)
  |g xs=>
   simp only [AV.ad] at hR ⊢
   cases hR with
   |g _ vs hl hR=>
    refine .g _ vs hl fun k c hc=>?_
    have:=hR k c hc
    rw [(a3R nm xs 0).2,Option.map_eq_some_iff] at hc
    obtain ⟨c0,hc0,rfl⟩:=hc
    rw [Nat.zero_add] at this ⊢
    exact cell k c0 _ hc0 this
  |t ps=>
   simp only [AV.ad] at hR ⊢
   cases hR with
   |t _ vs hl hR=>
    refine .t _ vs hl fun k b cs hk'=>?_
    have:=hR k b cs hk'
    obtain ⟨k',cs',g1,rfl,g3⟩:=(a8r nm ps 0).2 k b cs hk'
    generalize vs.getD k undef=u at this
    rw [Nat.zero_add] at this ⊢
    generalize hcs:adL nm k' cs'=l at this
    cases this with
    |c x _ hx=>
     have:=(a3R nm cs' k').2 0
     rw [hcs] at this
     simp only [List.getElem?_cons_zero,Nat.add_zero] at this
     obtain ⟨c0,hc0,he⟩:=Option.map_eq_some_iff.1 this.symm
     refine .c _ _ ?_
     rw [<-he] at hx ⊢
     exact cell k' c0 _ (g3 0 c0 hc0) hx
    |g _ us hl h=>
     refine .g _ us hl fun i c hc=>?_
     have hx:=h i c hc
     rw [<-hcs,(a3R nm cs' k').2,Option.map_eq_some_iff] at hc
     obtain ⟨c0,hc0,rfl⟩:=hc
     exact cell (k'+i) c0 _ (g3 i c0 hc0) hx
open Go
variable {P:Program} {C:Ctx P} {ρ:Lies} {st:St} {a:Act} {w:World} {K:St->Prop} {Q:Exit->Act->World->Prop} {o:Oper}
theorem a9z (h:Rel C ρ st a w) (hd:∀d,o.dst=some d->d<a.tmps.size) (hk:aop P o.dst o.op st K):o.wp P a w (a1o C a.tmps.size K) Q:=by
 generalize ho:o.op=op at hk
 cases op with
 |move x=>exact a7w h hd (.inl ho) hk
 |assign x=>exact a7w h hd (.inr ho) hk
 |pick c x y=>exact b3o h hd ho hk
 |alloc e=>exact b0C h hd ho hk
 |box e x=>exact b4E h hd ho hk
 |build t ps=>exact b0I h hd ho hk
 |buildSlice t n ps=>exact a52 h hd ho hk
 |load t x=>exact b3p h hd ho hk
 |store t x v=>exact b0D h hd ho hk
 |nilCheck x=>exact a7j h hd ho hk
 |binOp op t x y t'=>exact a6p h hd ho hk
 |unOp op t x=>exact b3q h hd ho hk
 |convert s t x=>exact a8j h hd ho hk
 |makeFunc f first caps=>
  cases f with
  |func f=>exact a7k h hd ho hk
  |_=>exact hk.elim
 |makeSlice t x y=>exact a6s h hd ho hk
 |slice t x lo hi mx=>exact b0K h hd ho hk
 |fieldAddr t x f=>exact a6q h hd ho hk
 |field t x f=>exact b0G h hd ho hk
 |indexAddr t x y=>exact a6r h hd ho hk
 |index t x y=>exact b0H h hd ho hk
 |extract x i=>exact a8i h hd ho hk
 |makeMap t r=>
  cases r with
  |none=>exact a8n h hd ho hk
  |some r=>exact hk.elim
 |lookup t x ix ok=>exact a9s h hd ho hk
 |mapUpdate t m k v=>exact a6u h hd ho hk
 |_=>exact hk.elim
theorem b4N (h:Rel C ρ st a w) (hd:∀d,o.dst=some d->d<a.tmps.size) {b:Builtin} {args:Array Operand} {ts:Array TypeId} (ho:o.op=.call {callee:=.builtin b,args:=args,argTypes:=ts})
  (hk:abi P o.dst b args.toList ts.toList st K):o.wp P a w (a1o C a.tmps.size K) Q:=by
 obtain ⟨args⟩:=args
 obtain ⟨ts⟩:=ts
 cases b with
 |len=>
  match args,ts,hk,ho with
  |[x],[t],hk,ho=>exact b4G h hd ho hk
  |[],_,hk,_=>exact hk.elim
  |_::_::_,_,hk,_=>exact hk.elim
  |[_],[],hk,_=>exact hk.elim
  |[_],_::_::_,hk,_=>exact hk.elim
 |min=>
  match args,hk,ho with
  |[x,y],hk,ho=>exact b4H h hd ho hk
  |[],hk,_=>exact hk.elim
  |[_],hk,_=>exact hk.elim
  |_::_::_::_,hk,_=>exact hk.elim
 |max=>
  match args,hk,ho with
  |[x,y],hk,ho=>exact b4I h hd ho hk
  |[],hk,_=>exact hk.elim
  |[_],hk,_=>exact hk.elim
  |_::_::_::_,hk,_=>exact hk.elim
 |append=>
  match args,ts,hk,ho with
  |[x,y],[t,t'],hk,ho=>exact a9p h hd ho hk
  |[],_,hk,_=>exact hk.elim
  |[_],_,hk,_=>exact hk.elim
  |_::_::_::_,_,hk,_=>exact hk.elim
  |[_,_],[],hk,_=>exact hk.elim
  |[_,_],[_],hk,_=>exact hk.elim
  |[_,_],_::_::_::_,hk,_=>exact hk.elim
 |copy=>
  match args,ts,hk,ho with
  |[x,y],[t,t'],hk,ho=>exact b3s h hd ho hk
  |[],_,hk,_=>exact hk.elim
  |[_],_,hk,_=>exact hk.elim
  |_::_::_::_,_,hk,_=>exact hk.elim
  |[_,_],[],hk,_=>exact hk.elim
  |[_,_],[_],hk,_=>exact hk.elim
  |[_,_],_::_::_::_,hk,_=>exact hk.elim
 |_=>exact hk.elim
theorem a5K {f:FuncId} (h:a3k P f=true) (args:Array Value) (w:World):(callFunc f args).run P w=.ok (.enter f args) w:=by
 unfold a3k at h
 split at h
 ·rename_i fn hf
  simp only [Bool.and_eq_true,bne_iff_ne,ne_eq] at h
  have h2:fn.body.isNone=false:=by cases hb:fn.body<;>simp [hb] at h ⊢
  have h3:¬fn.body=none:=by intro e;rw [e] at h2;cases h2
  simp [callFunc,hf,h.1,h3]
 ·cases h
theorem a6A (h:Rel C ρ st a w) (hd:∀d,o.dst=some d->d<a.tmps.size) {dr:Bool} {f:Operand} {g:FuncId} {caps:List AC} {args:Array Operand} {ts:Array TypeId}
  (ho:o.op=.call {callee:=.value f,args:=args,argTypes:=ts}) (hf:st.eval f=.c (.fn g caps))
  (hk:a6y P dr st o.dst g (args.toList.map st.eval++caps.map .c) K):o.wp P a w (a1o C a.tmps.size K) Q:=by
 have hfv:=h.eval f
 rw [hf] at hfv
 generalize hav:a.eval f=av at hfv
 cases hfv with
 |c _ _ hfv=>
  cases hfv with
  |fn _ _ vs hl a7g=>
   let va:Array Value:=args.map a.eval++vs
   have hsz:va.size=(args.toList.map st.eval++caps.map AV.c).length:=by simp [va,hl]
   have hrel:∀(k:Nat) x,(args.toList.map st.eval++caps.map AV.c)[k]?=some x->a2f w (Fr C st.H ρ) st.H ρ x (va.getD k undef):=fun k x hx=>by
    rw [List.getElem?_append] at hx
    split at hx
    ·rename_i hlt
     simp only [List.length_map,Array.length_toList] at hlt
     rw [List.getElem?_map,Option.map_eq_some_iff] at hx
     obtain ⟨y,hy,rfl⟩:=hx
     have:va.getD k undef=a.eval y:=by
      have hy':args[k]?=some y:=by simpa using hy
      have hy2:args[k]=y:=by rw [Array.getElem?_eq_getElem hlt] at hy';exact Option.some.inj hy'
      simp [va,Array.getElem?_append,hlt,hy2]
     rw [this];exact h.eval y
    ·rename_i hge
     simp only [List.length_map,Array.length_toList] at hge hx
     rw [List.getElem?_map,Option.map_eq_some_iff] at hx
     obtain ⟨c,hc,rfl⟩:=hx
     have h1:=a7g _ c hc
     have h2:=(List.getElem?_eq_some_iff.1 hc).1
     have:va.getD k undef=vs.getD (k-args.size) undef:=by
      simp [va,Array.getElem?_append,hge]
     rw [this];exact .c _ _ h1
   have run:a3k P g=true->(execOp a.eval o).run P w=.ok (.enter g va) w:=fun ok=>by
    have:=a5K (P:=P) ok va w
    simp only [execOp,ho,resolve,hav,Deferred.ofValue,Sem.run_bind,Sem.run_pure,Result.andThen_ok,invoke]
    simpa [va] using this
   unfold Oper.wp
   rcases hk with ⟨m,args',ret,h1,h2,h3,_,h4⟩|⟨_,hok,h2⟩
   ·rw [run h2.1.1,Oper.upon_enter]
    refine (b3v (dst:=o.dst) h h1 h2 h3 hsz hrel).mono ?_
    rintro e w' ⟨v,rfl,ρ',g1,g2,g3⟩
    exact ⟨size_put _ _ _,ρ',_,(h.a4T (T':=st.T) g1 g2).put (st:={st with H:=_}) g3 hd,h4⟩
   ·rw [run hok,Oper.upon_enter]
    refine (h2 C ρ a w va h hsz hrel).mono ?_
    rintro e w' ⟨v,rfl,ρ',ret,H',T',g1,g2,g3⟩
    exact ⟨size_put _ _ _,ρ',_,g1.put (st:=st.back H' T') g2 hd,g3⟩
theorem a3l (w:World) (d:Nat) (t e:TypeId) (p:Option Addr) (n c:Nat) (hu:P.underlying t=some (.slice e)) :
  (Op.equalIn (d+1) t (.slice p n c) (.slice none 0 0)).run P w=.ok p.isNone w:=by
 cases p<;>simp [Op.equalIn,run_underlying hu]
theorem b4O (h:Rel C ρ st a w) (hd:∀d,o.dst=some d->d<a.tmps.size) {op:BinOp} {t t':TypeId} {x y:Operand} (ho:o.op=.binOp op t x y t')
  (hk:b8T P o.dst op t (st.eval x) (st.eval y) st K):o.wp P a w (a1o C a.tmps.size K) Q:=by
 have hx:=h.eval x
 have hy:=h.eval y
 unfold b8T at hk
 split at hk
 ·rename_i tg cl xs e1 e2
  obtain ⟨hf,k1,k2⟩:=hk
  rw [e1] at hx
  rw [e2] at hy
  have ht:=a0Y hf
  have v2:=a0p (a0m hy)
  have run:∀p n c,a.eval x=.slice p n c->(execOp a.eval o).run P w=.ok (.value (.bool p.isNone)) w:=fun p n c hv=>by
   have hg:(eqGuard .eql t x y (a.eval x) (a.eval y)).run P w=.ok () w:=by rw [hv,v2];unfold eqGuard;rfl
   have hb:(binOp .eql t (a.eval x) (a.eval y)).run P w=.ok (.bool p.isNone) w:=by
    rw [hv,v2]
    simp only [binOp,Op.equal,Op.maxDepth,Sem.run_bind,a3l w 9999 t _ p n c ht,Result.andThen_ok,Sem.run_pure]
   simp only [execOp,ho,Sem.run_bind,hg,Result.andThen_ok,hb,Sem.run_pure]
  cases hq:a.eval x with
  |slice p n c=>
   have hr:=run p n c hq
   cases p with
   |some p=>exact a0k h hd (v:=.bool false) hr (.c _ _ (.raw _)) k2
   |none=>
    have hxs:xs=[]:=by
     have:=a0m hx
     rw [hq] at this
     cases this with
     |a0H=>rfl
    exact a0k h hd (v:=.bool true) hr (.c _ _ (.raw _)) (k1 hxs)
  |_=>
   exfalso
   have:=a0m hx
   rw [hq] at this
   cases this with
   |a0H _ _ _ hn=>rcases hn with e|⟨_,e⟩<;>cases e
 ·rename_i tg cl xs e1 e2
  obtain ⟨hf,k1,k2⟩:=hk
  rw [e1] at hx
  rw [e2] at hy
  have ht:=a0Y hf
  have v2:=a0p (a0m hy)
  have run:∀p n c,a.eval x=.slice p n c->(execOp a.eval o).run P w=.ok (.value (.bool (!p.isNone))) w:=fun p n c hv=>by
   have hg:(eqGuard .neq t x y (a.eval x) (a.eval y)).run P w=.ok () w:=by rw [hv,v2];unfold eqGuard;rfl
   have hb:(binOp .neq t (a.eval x) (a.eval y)).run P w=.ok (.bool (!p.isNone)) w:=by
    rw [hv,v2]
    simp only [binOp,Op.equal,Op.maxDepth,Sem.run_bind,a3l w 9999 t _ p n c ht,Result.andThen_ok,Sem.run_pure]
   simp only [execOp,ho,Sem.run_bind,hg,Result.andThen_ok,hb,Sem.run_pure]
  cases hq:a.eval x with
  |slice p n c=>
   have hr:=run p n c hq
   cases p with
   |some p=>exact a0k h hd (v:=.bool true) hr (.c _ _ (.raw _)) k2
   |none=>
    have hxs:xs=[]:=by
     have:=a0m hx
     rw [hq] at this
     cases this with
     |a0H=>rfl
    exact a0k h hd (v:=.bool false) hr (.c _ _ (.raw _)) (k1 hxs)
  |_=>
   exfalso
   have:=a0m hx
   rw [hq] at this
   cases this with
   |a0H _ _ _ hn=>rcases hn with e|⟨_,e⟩<;>cases e
 ·exact hk.elim
theorem a2N (h:Rel C ρ st a w) (hd:∀d,o.dst=some d->d<a.tmps.size) {dr:Bool} (hk:a0D P dr o.dst o.op st K):o.wp P a w (a1o C a.tmps.size K) Q:=by
 by_cases hc:∃c,o.op=.call c
 ·obtain ⟨⟨callee,args,ts⟩,ho⟩:=hc
  rw [ho] at hk
  simp only [a0D] at hk
  cases callee with
  |builtin b=>exact b4N h hd ho hk
  |value f=>
   simp only at hk
   split at hk
   ·rename_i g caps hf
    exact a6A h hd ho hf hk
   ·exact hk.elim
  |invoke r m=>exact hk.elim
 ·by_cases hb:∃op t x y t',o.op=.binOp op t x y t'
  ·obtain ⟨op,t,x,y,t',ho⟩:=hb
   rw [ho] at hk
   simp only [a0D] at hk
   rcases hk with hk|⟨_,hk⟩
   ·exact a6p h hd ho hk
   ·exact b4O h hd ho hk
  ·have:a0D P dr o.dst o.op st K=aop P o.dst o.op st K:=by
    cases hq:o.op<;>first|rfl|(exact (hc ⟨_,hq⟩).elim)|(exact (hb ⟨_,_,_,_,_,hq⟩).elim)
   rw [this] at hk
   exact a9z h hd hk
open Go
variable {P:Program} {C:Ctx P} {ρ:Lies} {st:St} {a:Act} {w:World}
def c2f (C:Ctx P) (n:Nat) (Q:AEx->St->Prop):Exit->Act->World->Prop
 |.normal,a,w=>a1o C n (Q .normal) a w
 |.exit id,a,w=>a1o C n (Q (.exit id)) a w
 |.ret,a,w=>a1o C n (Q .ret) a w
 |_,_,_=>False
theorem a1o.mono {n:Nat} {K K':St->Prop} (h:a1o C n K a w) (hk:∀st,K st->K' st):a1o C n K' a w:=by
 obtain ⟨h1,ρ,st,h2,h3⟩:=h
 exact ⟨h1,ρ,st,h2,hk st h3⟩
def a5L (n:Nat) (l:List Oper):Bool:=l.all fun o=>match o.dst with|some d=>decide (d<n)|none=>true
theorem b0M {n:Nat} {o:Oper} {l:List Oper} (h:a5L n (o::l)=true):(∀d,o.dst=some d->d<n)/\a5L n l=true:=by
 simp only [a5L,List.all_cons,Bool.and_eq_true] at h
 refine ⟨fun d hd=>?_,h.2⟩
 have:=h.1
 rw [hd] at this
 simpa using this
theorem a6B {ops:Array Oper} {o:Oper} {j:Nat} {want:Bool} {yes no:St->Prop} (hg:o.guard=some (j,want)) (h:Rel C ρ st a w) (hs:agd (a6z ops j) want st yes no) :
  (Region.wanted o (yielded ops a.tmps)=true/\∃st',Rel C ρ st' a w/\yes st')\/(Region.wanted o (yielded ops a.tmps)=false/\∃st',Rel C ρ st' a w/\no st'):=by
 unfold agd at hs
 split at hs
 ·rename_i d hd
  have hsl:=h.slot d
  have hy:∀v,a.tmps.getD d undef=v->v≠undef->yielded ops a.tmps j=(match v with|.bool b=>some b|_=>none):=fun v hv hne=>by
   have:a.tmps[d]?=some v:=by
    rw [Array.getD_eq_getD_getElem?] at hv
    cases hq:a.tmps[d]? with
    |none=>rw [hq] at hv;exact (hne hv.symm).elim
    |some u=>rw [hq] at hv;simp at hv;rw [hv]
   unfold a6z at hd
   simp only [yielded,hd,Option.bind_some,this]
   cases v<;>rfl
  have keep:∀b:Bool,a.tmps.getD d undef=.bool b->Rel C ρ (st.put (some d) (.c (.raw (.bool b)))) a w:=fun b hb=>by
   refine ⟨h.heap,fun t=>?_,h.a6a,h.ghost,h.nf⟩
   show a2f _ _ _ _ (upd st.s d _ t) _
   unfold upd
   split
   ·rename_i e;subst e;rw [hb];exact .c _ _ (.raw _)
   ·exact h.slot t
  split at hs
  ·rename_i b hb
   rw [hb] at hsl
   have hv:=a0p (a0m hsl)
   have hyd:=hy _ hv (by simp [undef])
   by_cases hw:b=want
   ·left
    subst hw
    refine ⟨?_,_,keep b hv,hs.1 rfl⟩
    simp [Region.wanted,hg,hyd]
   ·right
    have hb':b=!want:=by cases b<;>cases want<;>simp at hw ⊢
    subst hb'
    refine ⟨?_,_,keep _ hv,hs.2 rfl⟩
    simp [Region.wanted,hg,hyd]
  ·rename_i vs hb
   rw [hb] at hsl
   have hv:=a0p (a0m hsl)
   right
   refine ⟨?_,st,h,hs⟩
   have hyd:yielded ops a.tmps j=none:=by
    unfold a6z at hd
    simp only [yielded,hd,Option.bind_some]
    rw [Array.getD_eq_getD_getElem?] at hv
    cases hq:a.tmps[d]? with
    |none=>rfl
    |some u=>rw [hq] at hv;simp at hv;rw [hv]
   simp [Region.wanted,hg,hyd]
  ·exact hs.elim
 ·exact hs.elim
theorem a9A {dr:Bool} {ops:Array Oper} {n:Nat} {K:St->Prop} {Q:Exit->Act->World->Prop} (hQ:∀a w,a1o C n K a w->Q .normal a w) :
  ∀(l:List Oper) (ρ:Lies) (st:St) (a:Act) (w:World),a5L n l=true->a.tmps.size=n->Rel C ρ st a w->a2z P dr ops l K st->wpList P ops Q l a w
 |[],ρ,st,a,w,_,hn,h,hk=>hQ a w ⟨hn,ρ,st,h,hk⟩
 |o::l,ρ,st,a,w,hd,hn,h,hk=>by
  obtain ⟨hd1,hd2⟩:=b0M hd
  subst hn
  have next:∀a' w',a1o C a.tmps.size (a2z P dr ops l K) a' w'->wpList P ops Q l a' w':=fun a' w' ⟨g1,ρ',st',g2,g3⟩=>a9A hQ l ρ' st' a' w' hd2 g1 g2 g3
  have go:∀st',Rel C ρ st' a w->a0D P dr o.dst o.op st' (a2z P dr ops l K)->o.wp P a w (wpList P ops Q l) Q:=fun st' hr hs=>
   Oper.wp_mono (Q:=Q) next (a2N hr hd1 hs)
  simp only [a2z] at hk
  unfold wpList
  split at hk
  ·rename_i hg
   rw [if_pos (by simp [Region.wanted,hg])]
   exact .inl (go st h hk)
  ·rename_i j want hg
   rcases a6B hg h hk with ⟨h1,st',h2,h3⟩|⟨h1,st',h2,h3⟩
   ·rw [if_pos h1];exact .inl (go st' h2 h3)
   ·rw [if_neg (by simp [h1])]
    exact next _ _ ⟨size_put _ _ _,ρ,_,h2.put (.c _ _ (.raw undef)) hd1,h3⟩
theorem b4P {c:Code} {Q:Exit->Act->World->Prop} (I:Nat->Act->World->Prop)
  (round:∀m a w,I m a w->c.wp P (Exit.then (fun a' w'=>∃m',m'<m/\I m' a' w') Q) a w) {m:Nat} (h:I m a w):(Code.loop c).wp P Q a w:=by
 classical
 have least:∀(m:Nat) a w,I m a w->∃k,I k a w/\∀j,I j a w->k<=j:=by
  intro m
  induction m using Nat.strongRecOn with
  |_ m ih=>
   intro a w hm
   by_cases hq:∃j,j<m/\I j a w
   ·obtain ⟨j,hj,hI⟩:=hq
    exact ih j hj a w hI
   ·exact ⟨m,hm,fun j hj=>Nat.le_of_not_lt fun hlt=>hq ⟨j,hlt,hj⟩⟩
 let μ:Act->World->Nat:=fun a w=>if hq:∃m,I m a w then Classical.choose (least (Classical.choose hq) a w (Classical.choose_spec hq)) else 0
 have hμ:∀m a w,I m a w->I (μ a w) a w/\μ a w<=m:=fun m a w hm=>by
  have hq:∃m,I m a w:=⟨m,hm⟩
  have:=Classical.choose_spec (least (Classical.choose hq) a w (Classical.choose_spec hq))
  have e:μ a w=Classical.choose (least (Classical.choose hq) a w (Classical.choose_spec hq)):=by simp only [μ];rw [dif_pos hq]
  rw [e]
  exact ⟨this.1,this.2 m hm⟩
 refine wp_loop (fun a w=>∃m,I m a w) μ ⟨m,h⟩ fun a w ⟨m,hm⟩=>?_
 have h1:=(hμ m a w hm).1
 refine Code.wp_mono (fun e a' w' q=>?_) (round (μ a w) a w h1)
 cases e with
 |normal=>
  obtain ⟨m',hlt,hm'⟩:=q
  exact ⟨⟨m',hm'⟩,Nat.lt_of_le_of_lt (hμ m' a' w' hm').2 hlt⟩
 |_=>exact q
def a3D (calm:Array Oper->Bool) (n:Nat):Code->Bool
 |.region _ ops draw=>a5L n ops.toList&&(!draw||calm ops)
 |.seq x y=>a3D calm n x&&a3D calm n y
 |.cond _ x y=>a3D calm n x&&a3D calm n y
 |.block _ x=>a3D calm n x
 |.loop x=>a3D calm n x
 |.scope x=>a3D calm n x
 |_=>true
theorem a1M (calm:Array Oper->Bool)
  (hcalm:∀(C:Ctx P) (n:Nat) (ops:Array Oper) (id:Nat) (K:St->Prop) (Q:Exit->Act->World->Prop) ρ st a w,calm ops=true->a5L n ops.toList=true->a.tmps.size=n->Rel C ρ st a w->
   (∀a w,a1o C n K a w->Q .normal a w)->(∀c a w,¬Q (.panic c) a w)->a9v P true ops K st->(Code.region id ops true).wp P Q a w) :
  ∀(c:Code) (n:Nat) (Q:AEx->St->Prop) (ρ:Lies) (st:St) (a:Act) (w:World),a3D calm n c=true->a.tmps.size=n->Rel C ρ st a w->awp P c Q st->c.wp P (c2f C n Q) a w
 |.skip,n,Q,ρ,st,a,w,_,hn,h,hk=>wp_skip ⟨hn,ρ,st,h,hk⟩
 |.exit id,n,Q,ρ,st,a,w,_,hn,h,hk=>wp_exit ⟨hn,ρ,st,h,hk⟩
 |.ret,n,Q,ρ,st,a,w,_,hn,h,hk=>wp_ret ⟨hn,ρ,st,h,hk⟩
 |.region id ops draw,n,Q,ρ,st,a,w,hc,hn,h,hk=>by
  simp only [a3D,Bool.and_eq_true] at hc
  have hQ:∀a w,a1o C n (fun st=>Q .normal {st with T:=st.T+1}) a w->c2f C n Q .normal a w:=fun a w ⟨g1,ρ',st',g2,g3⟩=>⟨g1,ρ',_,g2.stamp (st'.T+1),g3⟩
  cases draw with
  |false=>
   rcases hk with ⟨hk,_⟩|⟨hk,_⟩
   ·exact wp_region_list (a9A hQ _ ρ st a w hc.1 hn h hk)
   ·cases hk
  |true=>exact hcalm C n ops id _ _ ρ st a w (by simpa using hc.2) hc.1 hn h hQ (fun _ _ _ q=>q) hk
 |.seq x y,n,Q,ρ,st,a,w,hc,hn,h,hk=>by
  simp only [a3D,Bool.and_eq_true] at hc
  refine wp_seq (Code.wp_mono (fun e a' w' q=>?_) (a1M calm hcalm x n _ ρ st a w hc.1 hn h hk))
  cases e with
  |normal=>
   obtain ⟨g1,ρ',st',g2,vs,g3,g4⟩:=q
   obtain ⟨ρ2,g5⟩:=g3.rel g2
   exact a1M calm hcalm y n Q ρ2 vs a' w' hc.2 g1 g5 g4
  |_=>exact q
 |.cond c x y,n,Q,ρ,st,a,w,hc,hn,h,hk=>by
  simp only [a3D,Bool.and_eq_true] at hc
  simp only [awp] at hk
  split at hk
  ·rename_i b hb
   have hv:=h.eval c
   rw [hb] at hv
   have hv:=a0p (a0m hv)
   cases b with
   |true=>exact wp_cond_true hv (a1M calm hcalm x n Q ρ st a w hc.1 hn h (hk.1 rfl))
   |false=>exact wp_cond_false hv (a1M calm hcalm y n Q ρ st a w hc.2 hn h (hk.2 rfl))
  ·exact hk.elim
 |.block id x,n,Q,ρ,st,a,w,hc,hn,h,hk=>by
  refine wp_block (Code.wp_mono (fun e a' w' q=>?_) (a1M calm hcalm x n _ ρ st a w hc hn h hk))
  cases e with
  |exit j=>
   simp only [Exit.inBlock]
   by_cases hj:j=id
   ·rw [if_pos hj]
    exact a1o.mono q fun st hs=>by simpa [a2M,hj] using hs
   ·rw [if_neg hj]
    exact a1o.mono q fun st hs=>by simpa [a2M,hj] using hs
  |_=>exact q
 |.loop x,n,Q,ρ,st,a,w,hc,hn,h,hk=>by
  obtain ⟨ι,v,μ,i,h0,hr⟩:=hk
  refine b4P (fun m a w=>a.tmps.size=n/\∃ρ i,Rel C ρ (v i) a w/\μ i=m) (fun m a' w' hI=>?_) (m:=μ i) ⟨hn,(h0.rel h).imp fun ρ' g=>⟨i,g,rfl⟩⟩
  obtain ⟨g1,ρ',i',g2,rfl⟩:=hI
  refine Code.wp_mono (fun e a2 w2 q=>?_) (a1M calm hcalm x n _ ρ' (v i') a' w' hc g1 g2 (hr i'))
  cases e with
  |normal=>
   obtain ⟨f1,ρ2,st2,f2,j,f3,f4⟩:=q
   obtain ⟨ρ3,f5⟩:=f4.rel f2
   exact ⟨μ j,f3,f1,ρ3,j,f5,rfl⟩
  |_=>exact q
 |.scope _,_,_,_,_,_,_,_,_,_,hk=>hk.elim
 |.label _,_,_,_,_,_,_,_,_,_,hk=>hk.elim
 |.goto _,_,_,_,_,_,_,_,_,_,hk=>hk.elim
 |.rangeFunc ..,_,_,_,_,_,_,_,_,_,hk=>hk.elim
 |.refuse _,_,_,_,_,_,_,_,_,_,hk=>hk.elim
open Go
variable {P:Program} {C:Ctx P} {ρ:Lies} {st:St} {a:Act} {w:World}
def resV (P:Program) (st:St):ResultVar->Option AV
 |.tmp t=>some (st.s t)
 |.cell x t=>
  match st.s x with
  |.c (.pt id i j)=>match st.H id with
   |.arr _ _ _ rows=>match rows[i]? with
    |some row=>if (tyI P t).ok=true then a4q (tyI P t).ag (tyI P t).sz row j else none
    |none=>none
   |_=>none
  |_=>none
def AV.part:AV->Option (Bool×List AC)
 |.c x=>some (false,[x])
 |.g xs=>some (true,xs)
 |.t _=>none
def b4Q (P:Program) (st:St):List ResultVar->Option (List (Bool×List AC))
 |[]=>some []
 |r::rs=>match (resV P st r).bind AV.part,b4Q P st rs with
  |some p,some ps=>some (p::ps)
  |_,_=>none
def b4y (P:Program) (st:St) (rs:List ResultVar):Option AV:=
 match rs with
 |[r]=>resV P st r
 |rs=>(b4Q P st rs).map .t
def a9B (tmps:Array Value):ResultVar->Sem Value
 |.tmp t=>pure (tmps.getD t undef)
 |.cell b t=>do loadVar t (<-asAddr (tmps.getD b undef))
theorem b3w (fn:Func) (tmps:Array Value):results fn tmps=(fn.results.mapM (a9B tmps) >>= fun vs=>pure (if h:vs.size=1 then vs[0] else .tuple vs)):=by
 unfold results
 congr 1
theorem a7B (h:Rel C ρ st a w) {r:ResultVar} {x:AV} (hx:resV P st r=some x) :
  ∃v,(a9B a.tmps r).run P w=.ok v w/\a2f w (Fr C st.H ρ) st.H ρ x v:=by
 cases r with
 |tmp t=>
  simp only [resV,Option.some.injEq] at hx
  subst hx
  exact ⟨_,rfl,h.slot t⟩
 |cell b t=>
  simp only [resV] at hx
  have hb:=h.slot b
  split at hx
  ·rename_i id i j hq
   rw [hq] at hb
   split at hx
   ·rename_i e sz frz rows hid
    split at hx
    ·rename_i row hrow
     split at hx
     ·rename_i ok
      obtain ⟨bb,cap,hρ,hcells⟩:=a9m h.heap hid hrow
      cases a0m hb with
      |pt _ _ _ _ hne hp=>
       obtain ⟨b',cap',sz',hρ',hval⟩:=hp (by rw [hid];rfl)
       rw [hρ] at hρ'
       simp only [Option.some.injEq,Prod.mk.injEq] at hρ'
       obtain ⟨rfl,rfl,rfl⟩:=hρ'
       obtain ⟨u,hu,hR⟩:=a5m (b:=bb) (o:=i*sz) ok hx hcells
       refine ⟨u,?_,hR⟩
       simp only [Instr.loadAt,Instr.sureAddr,Sem.run_bind,Sem.run_pure,Result.andThen_ok] at hu
       simp only [a9B,hval,asAddr,Sem.run_bind,Sem.run_pure,Result.andThen_ok,hu]
     ·cases hx
    ·cases hx
   ·cases hx
  ·cases hx
theorem a7C (h:Rel C ρ st a w):∀{rs:List ResultVar} {ps:List (Bool×List AC)},b4Q P st rs=some ps->
  ∃vs:List Value,(rs.mapM (a9B a.tmps)).run P w=.ok vs w/\
   vs.length=ps.length/\∀(k:Nat) b cs,ps[k]?=some (b,cs)->∃v,vs[k]?=some v/\b9I w (Fr C st.H ρ) st.H ρ b cs v
 |[],ps,hp=>by
  simp only [b4Q,Option.some.injEq] at hp
  subst hp
  exact ⟨[],by simp,rfl,fun k b cs hk=>by simp at hk⟩
 |r::rs,ps,hp=>by
  simp only [b4Q] at hp
  split at hp
  ·rename_i p ps' h1 h2
   cases hp
   rw [Option.bind_eq_some_iff] at h1
   obtain ⟨x,hx,hp⟩:=h1
   obtain ⟨v,hv,hR⟩:=a7B h hx
   obtain ⟨vs,g1,g2,g3⟩:=a7C h h2
   refine ⟨v::vs,?_,by simp [g2],fun k b cs hk=>?_⟩
   ·simp only [List.mapM_cons,Sem.run_bind,hv,g1,Result.andThen_ok,Sem.run_pure]
   ·cases k with
    |zero=>
     simp at hk
     subst hk
     refine ⟨v,rfl,?_⟩
     cases hR with
     |c y _ hy=>simp only [AV.part,Option.some.injEq,Prod.mk.injEq] at hp;obtain ⟨rfl,rfl⟩:=hp;exact .c _ _ hy
     |g xs us hl hu=>simp only [AV.part,Option.some.injEq,Prod.mk.injEq] at hp;obtain ⟨rfl,rfl⟩:=hp;exact .g _ us hl hu
     |t xs us hl hu=>simp [AV.part] at hp
    |succ k=>simpa using g3 k b cs (by simpa using hk)
  ·cases hp
theorem a4c (h:Rel C ρ st a w) {fn:Func} {x:AV} (hx:b4y P st fn.results.toList=some x):∃v,(results fn a.tmps).run P w=.ok v w/\a2f w (Fr C st.H ρ) st.H ρ x v:=by
 unfold b4y at hx
 have hrun:∀vs:List Value,(fn.results.toList.mapM (a9B a.tmps)).run P w=.ok vs w->
   (results fn a.tmps).run P w=.ok (if h:vs.toArray.size=1 then vs.toArray[0] else .tuple vs.toArray) w:=fun vs hvs=>by
  rw [b3w]
  simp only [Sem.run_bind,Array.mapM_eq_mapM_toList,Sem.run_map]
  rw [hvs]
  simp only [Result.andThen_ok,Sem.run_pure]
 split at hx
 ·rename_i r hr
  obtain ⟨v,hv,hR⟩:=a7B h hx
  refine ⟨v,?_,hR⟩
  have:=hrun [v] (by rw [hr];simp only [List.mapM_cons,List.mapM_nil,Sem.run_bind,hv,Result.andThen_ok,Sem.run_pure])
  simpa using this
 ·rename_i hne
  simp only [Option.map_eq_some_iff] at hx
  obtain ⟨ps,hps,rfl⟩:=hx
  obtain ⟨vs,g1,g2,g3⟩:=a7C h hps
  have hlen:ps.length=fn.results.toList.length:=by
   have:∀(rs:List ResultVar) (ps:List (Bool×List AC)),b4Q P st rs=some ps->ps.length=rs.length:=by
    intro rs
    induction rs with
    |nil=>intro ps hp;simp [b4Q] at hp;subst hp;rfl
    |cons r rs ih=>
     intro ps hp
     simp only [b4Q] at hp
     split at hp
     ·rename_i p ps' h1 h2;cases hp;simp [ih ps' h2]
     ·cases hp
   exact this _ _ hps
  have h1:¬vs.toArray.size=1:=by
   intro he
   simp only [List.size_toArray] at he
   rw [g2,hlen] at he
   match hq:fn.results.toList,he with
   |[r],_=>exact hne r hq
  refine ⟨.tuple vs.toArray,?_,.t ps vs.toArray (by simp [g2]) fun k b cs hk=>?_⟩
  ·rw [hrun vs g1,dif_neg h1]
  ·obtain ⟨v,hv,hR⟩:=g3 k b cs hk
   have:vs.toArray.getD k undef=v:=by simp [Array.getD_eq_getD_getElem?,hv]
   rw [this];exact hR
def exC (H:Heap) (c c':AC):Prop:=
 match c,c' with
 |.so id off len,.nw e sz rows=>off=0/\H id=.arr e sz false rows/\len=rows.length
 |.so id off len,.sl t cl rows=>t≠.brw/\cl=false/\rowsOf H (.so id off len)=some rows
 |.raw (.slice none 0 0),.nw _ _ rows=>rows=[]
 |.raw (.slice none 0 0),.sl _ _ rows=>rows=[]
 |.sl t cl xs,.sl t' cl' xs'=>xs=xs'/\(t'=t\/(t=.new/\t'=.old))/\t'≠.brw/\(cl'=true->cl=true)
 |.raw v,.raw v'=>v=v'
 |.str l,.str l'=>l=l'
 |_,_=>False
def exL (H:Heap):List AC->List AC->Prop
 |[],[]=>True
 |c::cs,d::ds=>exC H c d/\exL H cs ds
 |_,_=>False
def exT (H:Heap):List (Bool×List AC)->List (Bool×List AC)->Prop
 |[],[]=>True
 |(b,cs)::r,(b',cs')::r'=>b=b'/\exL H cs cs'/\exT H r r'
 |_,_=>False
def exV (H:Heap):AV->AV->Prop
 |.c x,.c y=>exC H x y
 |.g xs,.g ys=>exL H xs ys
 |.t xs,.t ys=>exT H xs ys
 |_,_=>False
def a1j:List AC->List Id
 |[]=>[]
 |.so id _ _::r=>id::a1j r
 |_::r=>a1j r
theorem a3S {H:Heap}:∀{cs ds:List AC},exL H cs ds->cs.length=ds.length/\∀(k:Nat) d,ds[k]?=some d->∃c,cs[k]?=some c/\exC H c d
 |[],[],_=>by simp
 |[],_::_,h=>h.elim
 |_::_,[],h=>h.elim
 |c::cs,d::ds,h=>by
  obtain ⟨g1,g2⟩:=a3S h.2
  refine ⟨by simp [g1],fun k d' hk=>?_⟩
  cases k with
  |zero=>simp at hk;subst hk;exact ⟨c,rfl,h.1⟩
  |succ k=>simpa using g2 k d' (by simpa using hk)
theorem a7D {H:Heap}:∀{cs ds cs' ds':List AC},exL H cs ds->exL H cs' ds'->exL H (cs++cs') (ds++ds')
 |[],[],_,_,_,h=>h
 |c::cs,d::ds,_,_,h,h'=>⟨h.1,a7D h.2 h'⟩
 |[],_::_,_,_,h,_=>h.elim
 |_::_,[],_,_,h,_=>h.elim
theorem b2F {H:Heap}:∀{xs ys:List (Bool×List AC)},exT H xs ys->exL H (a2C xs) (a2C ys)
 |[],[],_=>trivial
 |(b,cs)::r,(b',cs')::r',h=>a7D h.2.1 (b2F h.2.2)
 |[],_::_,h=>h.elim
 |_::_,[],h=>h.elim
theorem b2G {H:Heap} {x y:AV} (h:exV H x y):exL H x.flat y.flat:=by
 cases x<;>cases y<;>first|exact h.elim|exact ⟨h,trivial⟩|exact h|exact b2F h
theorem a6C:∀{cs:List AC} {k:Nat} {id:Id} {off len:Nat},cs[k]?=some (.so id off len)->id∈a1j cs
 |[],k,id,off,len,h=>by simp at h
 |c::cs,k,id,off,len,h=>by
  cases k with
  |zero=>simp at h;subst h;simp [a1j]
  |succ k=>
   have:=a6C (cs:=cs) (by simpa using h)
   cases c<;>simp [a1j,this]
theorem a3T:∀{cs:List AC},(a1j cs).Nodup->∀{j k:Nat} {id:Id} {o1 l1 o2 l2:Nat},cs[j]?=some (.so id o1 l1)->cs[k]?=some (.so id o2 l2)->j=k
 |[],_,j,k,id,o1,l1,o2,l2,h1,_=>by simp at h1
 |c::cs,hn,j,k,id,o1,l1,o2,l2,h1,h2=>by
  have hn':(a1j cs).Nodup:=by
   cases c<;>first|exact hn|(simp only [a1j,List.nodup_cons] at hn;exact hn.2)
  cases j with
  |zero=>
   simp at h1
   subst h1
   simp only [a1j,List.nodup_cons] at hn
   cases k with
   |zero=>rfl
   |succ k=>exact (hn.1 (a6C (cs:=cs) (by simpa using h2))).elim
  |succ j=>
   cases k with
   |zero=>
    simp at h2
    subst h2
    simp only [a1j,List.nodup_cons] at hn
    exact (hn.1 (a6C (cs:=cs) (by simpa using h1))).elim
   |succ k=>exact congrArg (·+1) (a3T hn' (by simpa using h1) (by simpa using h2))
open Go
variable {P:Program} {C:Ctx P} {ρ:Lies} {st:St} {a:Act} {w:World}
theorem b0N (nm:Nat->Id) {H:Heap}:∀{ps qs:List (Bool×List AC)} (base:Nat),exT H ps qs->ps.length=qs.length/\∀(j:Nat) b ds,qs[j]?=some (b,ds)->
  ∃cs k',ps[j]?=some (b,cs)/\exL H cs ds/\(∀(i:Nat) c,cs[i]?=some c->(a2C ps)[k'+i]?=some c)/\(∀(i:Nat) d,ds[i]?=some d->(a2C qs)[k'+i]?=some d)/\
   (adT nm base qs)[j]?=some (b,adL nm (base+k') ds)
 |[],[],base,_=>by simp
 |[],_::_,_,h=>h.elim
 |_::_,[],_,h=>h.elim
 |(b0,cs0)::ps,(b1,ds0)::qs,base,h=>by
  obtain ⟨rfl,h1,h2⟩:=h
  obtain ⟨l0,_⟩:=a3S h1
  obtain ⟨g1,g2⟩:=b0N nm (base+ds0.length) h2
  refine ⟨by simp [g1],fun j b ds hj=>?_⟩
  cases j with
  |zero=>
   simp at hj
   obtain ⟨rfl,rfl⟩:=hj
   refine ⟨cs0,0,rfl,h1,fun i c hi=>?_,fun i d hi=>?_,rfl⟩
   ·simp only [a2C,Nat.zero_add]
    rw [List.getElem?_append_left (List.getElem?_eq_some_iff.1 hi).1];exact hi
   ·simp only [a2C,Nat.zero_add]
    rw [List.getElem?_append_left (List.getElem?_eq_some_iff.1 hi).1];exact hi
  |succ j=>
   obtain ⟨cs,k',q1,q2,q3,q4,q5⟩:=g2 j b ds (by simpa using hj)
   refine ⟨cs,ds0.length+k',by simpa using q1,q2,fun i c hi=>?_,fun i d hi=>?_,?_⟩
   ·simp only [a2C]
    rw [List.getElem?_append_right (by omega),show ds0.length+k'+i-cs0.length=k'+i from by omega]
    exact q3 i c hi
   ·simp only [a2C]
    rw [List.getElem?_append_right (by omega),show ds0.length+k'+i-ds0.length=k'+i from by omega]
    exact q4 i d hi
   ·simp only [adT,List.getElem?_cons_succ]
    rw [q5,Nat.add_assoc]
theorem a5q (h:Rel C ρ st a w) {res ret:AV} {v:Value} (hv:a2f w (Fr C st.H ρ) st.H ρ res v) (hret:∀c∈ret.flat,a6v c) (hex:exV st.H res ret) (hnd:(a1j res.flat).Nodup)
  (nm:Nat->Id) (inj:∀i j,nm i=nm j->i=j) :
  ∃ρ',a1A C (adH nm 0 ret.flat a0j) ρ' w/\a2f w (Fr C (adH nm 0 ret.flat a0j) ρ') (adH nm 0 ret.flat a0j) ρ' (ret.ad nm) v:=by
 obtain ⟨hlen,hcell⟩:=a3S (b2G hex)
 let a1i:AC->Option (Nat×Nat×Nat):=fun c=>match c with
  |.so id _ _=>ρ id
  |_=>none
 have hdec:∀i:Id,Decidable (∃k,i=nm k):=fun i=>Classical.propDecidable _
 let ρ':Lies:=fun i=>if hk:∃k,i=nm k then a1i ((res.flat)[Classical.choose hk]?.getD .a4S) else none
 have hρ':∀k,ρ' (nm k)=a1i ((res.flat)[k]?.getD .a4S):=fun k=>by
  have hk:∃k',nm k=nm k':=⟨k,rfl⟩
  have:Classical.choose hk=k:=inj _ _ (Classical.choose_spec hk).symm
  simp only [ρ']
  rw [dif_pos hk,this]
 generalize hHe:adH nm 0 ret.flat a0j=He
 have arr:∀id e sz f rows,He id=.arr e sz f rows->f=false/\∃k,ret.flat[k]?=some (.nw e sz rows)/\id=nm k/\
   ((rows=[]/\ρ' id=none)\/∃id0 n,res.flat[k]?=some (.so id0 0 n)/\st.H id0=.arr e sz false rows/\n=rows.length/\ρ' id=ρ id0):=fun id e sz f rows hid=>by
  subst hHe
  obtain ⟨rfl,k,hk,rfl⟩:=a8q nm inj ret.flat hid
  refine ⟨rfl,k,hk,rfl,?_⟩
  obtain ⟨c,hc,hx⟩:=hcell k _ hk
  have hr:=hρ' k
  rw [hc] at hr
  simp only [Option.getD_some] at hr
  unfold exC at hx
  split at hx
  ·rename_i id0 off len e' sz' rows' heq
   cases heq
   obtain ⟨rfl,h1,h2⟩:=hx
   exact .inr ⟨id0,len,hc,h1,h2,by rw [hr]⟩
  ·rename_i heq;cases heq
  ·rename_i e' sz' rows' heq
   cases heq
   exact .inl ⟨hx,by rw [hr]⟩
  ·rename_i heq;cases heq
  ·rename_i heq;cases heq
  ·rename_i heq;cases heq
  ·rename_i heq;cases heq
  ·exact hx.elim
 have d2n:∀b,Mut He ρ' b->∃(k:Nat) (id0:Id) (n e sz:Nat) (rows:List (List AC)) (cap s:Nat),res.flat[k]?=some (.so id0 0 n)/\ret.flat[k]?=some (.nw e sz rows)/\st.H id0=.arr e sz false rows/\ρ id0=some (b,cap,s):=fun b m=>by
  rcases a2o m with ⟨id,e,sz,rows,cap,s,hid,hρ⟩|⟨id,ag,es,cap,s,hid,hρ⟩
  rotate_left
  ·rw [<-hHe] at hid;cases a7z nm _ _ hid
  obtain ⟨_,k,hk,rfl,h2⟩:=arr id e sz false rows hid
  rcases h2 with ⟨_,h2⟩|⟨id0,n,h2,h3,h4,h5⟩
  ·rw [h2] at hρ;cases hρ
  ·exact ⟨k,id0,n,e,sz,rows,cap,s,h2,hk,h3,by rw [<-h5];exact hρ⟩
 have c5m:∀b,Mut He ρ' b->Mut st.H ρ b:=fun b m=>by
  obtain ⟨k,id0,n,e,sz,rows,cap,s,_,_,h3,h4⟩:=d2n b m
  exact a4z h3 h4
 have hF:∀t b,t≠.brw->Fr C st.H ρ t b->Fr C He ρ' t b:=fun t b _ hf=>⟨hf.1,fun m=>hf.2 (c5m b m)⟩
 have b6Y:∀id e sz f rows,He id=.arr e sz f rows->Row w (Fr C He ρ') He ρ' C.p id e sz rows:=fun id e sz f rows hid=>by
  obtain ⟨_,k,hk,rfl,h2⟩:=arr id e sz f rows hid
  have hrc:a6v (.nw e sz rows):=hret _ (List.mem_of_getElem? hk)
  rcases h2 with ⟨rfl,h2⟩|⟨id0,n,h2,h3,h4,h5⟩
  ·exact ⟨by simp,.inl ⟨h2,rfl⟩⟩
  ·have hr:=h.heap.row id0 e sz false rows h3
   refine ⟨hr.a2e,?_⟩
   rcases hr.lies with ⟨q1,q2⟩|⟨b,cap,cur,q1,q2,q3,q4,q5,q6,q7⟩
   ·exact .inl ⟨by rw [h5];exact q1,q2⟩
   ·refine .inr ⟨b,cap,cur,by rw [h5];exact q1,q2,q3,q4,q5,q6,fun i j r c hi hj=>?_⟩
    obtain ⟨u,u1,u2,u3⟩:=q7 i j r c hi hj
    exact ⟨u,u1,u2,u3.b0y (hrc r (List.mem_of_getElem? hi) c (List.mem_of_getElem? hj)) hF⟩
 have a9h:∀(k:Nat) d c u,ret.flat[k]?=some d->res.flat[k]?=some c->exC st.H c d->a0C w (Fr C st.H ρ) st.H ρ c u->a0C w (Fr C He ρ') He ρ' (adC nm k d) u:=fun k d c u hk hc hx hu=>by
  have hrc:=hret d (List.mem_of_getElem? hk)
  have hr:=hρ' k
  rw [hc] at hr
  simp only [Option.getD_some] at hr
  have hun:∀e sz rows,d=.nw e sz rows->He (nm k)≠.a0b:=fun e sz rows hd=>by
   rw [<-hHe]
   rcases a3d nm ret.flat 0 a0j (nm k) inj with ⟨j',e',sz',xs',h1,h2,h3⟩|⟨h1,_⟩
   ·rw [h3];simp
   ·exact (h1 k e sz rows (by rw [hk,hd]) (by simp)).elim
  unfold exC at hx
  split at hx
  ·rename_i id off len e sz rows
   obtain ⟨rfl,h1,h2⟩:=hx
   simp only [adC]
   cases hu with
   |so _ _ _ _ hne hs=>
    have hs:=hs (by rw [h1];rfl)
    refine .so _ _ _ _ (hun _ _ _ rfl) fun _=>?_
    unfold a1p at *
    rw [hr]
    subst h2
    exact hs
  ·rename_i id off len t cl rows
   obtain ⟨ht,rfl,hrows⟩:=hx
   simp only [adC]
   have live:∃e sz f rs,st.H id=.arr e sz f rs:=by
    simp only [rowsOf] at hrows
    split at hrows
    ·rename_i e sz f rs hid;exact ⟨e,sz,f,rs,hid⟩
    ·cases hrows
   obtain ⟨e0,sz0,f0,rs0,a7t⟩:=live
   rcases a1B h.heap hu hrows with ⟨hn,rfl⟩|⟨b,o',cap,sz,rfl,g1,g2,g3⟩
   ·exact .a0H _ _ _ hn
   ·have hz:(rows=[]/\b0A (.slice (some ⟨b,o',none⟩) rows.length cap))\/ρ id≠none:=by
     by_cases hz:ρ id=none
     ·left
      rcases (h.heap.row id e0 sz0 f0 rs0 a7t).lies with ⟨q1,q2⟩|⟨b',cap',cur,q1,q2,q3,_⟩
      ·subst q2
       cases hu with
       |so _ _ _ _ hne hs=>
        have hs:=hs (by rw [a7t];rfl)
        unfold a1p at hs
        rw [q1] at hs
        refine ⟨?_,hs.2.2⟩
        simp only [rowsOf,a7t] at hrows
        split at hrows
        ·cases hrows;simp
        ·cases hrows
      ·rw [hz] at q1;cases q1
     ·exact .inr hz
    rcases hz with ⟨rfl,hz⟩|hz
    ·exact .a0H _ _ _ hz
    have hbl:b<w.heap.size/\C.p<=b/\∃c s,ρ id=some (b,c,s):=by
     cases hu with
     |so _ _ _ _ hne hs=>
      have hs:=hs (by rw [a7t];rfl)
      unfold a1p at hs
      rcases (h.heap.row id e0 sz0 f0 rs0 a7t).lies with ⟨q1,_⟩|⟨b',cap',cur,q1,q2,q3,_⟩
      ·exact (hz q1).elim
      ·rw [q1] at hs
       obtain ⟨o'',he,_⟩:=hs
       cases he
       exact ⟨q3.lt,q2,_,_,q1⟩
    obtain ⟨hb,hp,cc,ss,c1r⟩:=hbl
    have hFb:Fr C He ρ' t b:=by
     refine ⟨⟨.inl hp,h.heap.maps.not id b cc ss (by rw [a7t];rfl) c1r⟩,fun m=>?_⟩
     obtain ⟨k2,id2,n2,e2,sz2,b6W,cap2,s2,m1,m2,m3,m4⟩:=d2n b m
     have:id2=id:=h.heap.inj id2 id e2 sz2 b6W e0 sz0 f0 rs0 b cap2 s2 cc ss m3 a7t m4 c1r
     subst this
     have:=a3T hnd m1 hc
     subst this
     rw [hk] at m2;cases m2
    obtain ⟨news,n1,n2,n3,n4⟩:=a16 g1 g3
    have hget:∀q,q<rows.length*sz->∃u,news[q]?=some u/\w.cell? ⟨b,o'+q,none⟩=some u:=fun q hq=>by
     have hlt:q<news.length:=by omega
     have:=n2 q news[q] (List.getElem?_eq_getElem hlt)
     rw [Addr.add_lit] at this
     exact ⟨_,List.getElem?_eq_getElem hlt,this⟩
    refine .sl t false rows b o' cap sz (fun q=>news.getD q undef) hb hFb g2 (fun e=>by cases e) (fun i r hi=>g1 r (List.mem_of_getElem? hi)) (fun q hq=>?_) (fun q hq=>?_) (fun i j r c hi hj=>?_)
    ·obtain ⟨u,u1,u2⟩:=hget q hq
     simp [List.getD,u1,u2]
    ·obtain ⟨u,u1,u2⟩:=hget q hq
     have:news.getD q undef=u:=by simp [List.getD,u1]
     rw [this];exact n3 u (List.mem_of_getElem? u1)
    ·obtain ⟨u,u1,u2,u3⟩:=n4 i j r c hi hj
     have:news.getD (i*sz+j) undef=u:=by simp [List.getD,u1]
     rw [this]
     cases hrc with
     |sl _ _ _ _ hn=>exact u3.b0y (hn r (List.mem_of_getElem? hi) c (List.mem_of_getElem? hj)) hF
  ·rename_i e sz rows
   subst hx
   simp only [adC]
   have:=a0p hu
   subst this
   refine .so _ _ _ _ (hun _ _ _ rfl) fun _=>?_
   unfold a1p
   rw [hr]
   exact ⟨rfl,rfl,.nil⟩
  ·rename_i t cl rows
   subst hx
   have:=a0p hu
   subst this
   exact .a0H _ _ _ .nil
  ·rename_i t cl xs t' cl' xs'
   obtain ⟨rfl,ht,hb,hcl⟩:=hx
   simp only [adC]
   cases hu with
   |a0H _ _ _ hn=>exact .a0H _ _ _ hn
   |sl _ _ _ b o cap sz vs hb' hf hcap d0V hrow hcell hone hrel=>
    have hf':Fr C He ρ' t' b:=by
     rcases ht with rfl|⟨rfl,rfl⟩
     ·exact hF _ b hb hf
     ·refine ⟨⟨?_,hf.1.2⟩,fun m=>hf.2 (c5m b m)⟩
      rcases hf.1.1 with q|⟨q,_⟩
      ·exact .inl q
      ·exact (q rfl).elim
    cases hrc with
    |sl _ _ _ _ hn=>
     exact .sl t' cl' xs b o cap sz vs hb' hf' hcap (fun e=>d0V (hcl e)) hrow hcell hone fun i j r c hi hj=>(hrel i j r c hi hj).b0y (hn r (List.mem_of_getElem? hi) c (List.mem_of_getElem? hj)) hF
  ·subst hx
   exact hu.b0y (.raw _) hF
  ·subst hx
   exact hu.b0y (.str _) hF
  ·exact hx.elim
 refine ⟨ρ',⟨h.heap.below,b6Y,?_,by rw [<-hHe];exact a8o nm _ _ (H:=a0j) ⟨0,fun _ _ _=>rfl⟩,.none (fun id ag es q=>by rw [<-hHe] at q;cases a7z nm _ _ q) h.heap.maps.there fun id b c s hl hr=>by
  cases ho:He id with
  |arr e sz f rows=>
   obtain ⟨_,k,hk,rfl,h2⟩:=arr id e sz f rows ho
   rcases h2 with ⟨_,h2⟩|⟨id0,n,h2,h3,h4,h5⟩
   ·rw [h2] at hr;cases hr
   ·exact h.heap.maps.not id0 b c s (by rw [h3];rfl) (by rw [<-h5];exact hr)
  |mp ag es=>rw [<-hHe] at ho;cases a7z nm _ _ ho
  |_=>rw [ho] at hl;cases hl⟩,?_⟩
 ·intro i1 i2 e1 s1 r1 e2 s2 f2 r2 b c s c' s' h1 h2 hρ1 hρ2
  obtain ⟨_,k1,a1,rfl,b1⟩:=arr i1 e1 s1 false r1 h1
  obtain ⟨_,k2,a2,rfl,b2⟩:=arr i2 e2 s2 f2 r2 h2
  rcases b1 with ⟨_,b1⟩|⟨id1,n1,p1,p2,p3,p4⟩
  ·rw [b1] at hρ1;cases hρ1
  ·rcases b2 with ⟨_,b2⟩|⟨id2,n2,q1,q2,q3,q4⟩
   ·rw [b2] at hρ2;cases hρ2
   ·rw [p4] at hρ1
    rw [q4] at hρ2
    have:=h.heap.inj id1 id2 e1 s1 r1 e2 s2 false r2 b c s c' s' p2 q2 hρ1 hρ2
    subst this
    rw [a3T hnd p1 q1]
 ·cases res with
  |c x=>
   cases ret with
   |c y=>
    cases hv with
    |c _ _ hx=>exact .c _ _ (a9h 0 y x _ rfl rfl hex hx)
   |_=>exact hex.elim
  |g xs=>
   cases ret with
   |g ys=>
    cases hv with
    |g _ vs hl hx=>
     obtain ⟨g1,g2⟩:=a3S (H:=st.H) (cs:=xs) (ds:=ys) hex
     refine .g _ vs (by rw [(a3R nm ys 0).1];omega) fun k c hc=>?_
     rw [(a3R nm ys 0).2,Option.map_eq_some_iff] at hc
     obtain ⟨d,hd,rfl⟩:=hc
     obtain ⟨c0,hc0,hx0⟩:=g2 k d hd
     rw [Nat.zero_add]
     exact a9h k d c0 _ hd hc0 hx0 (hx k c0 hc0)
   |_=>exact hex.elim
  |t ps=>
   cases ret with
   |t qs=>
    cases hv with
    |t _ vs hl hx=>
     obtain ⟨g1,g2⟩:=b0N nm (H:=st.H) (ps:=ps) (qs:=qs) 0 hex
     refine .t _ vs (by rw [(a8r nm qs 0).1];omega) fun k b cs hk=>?_
     obtain ⟨k',ds,q1,rfl,_⟩:=(a8r nm qs 0).2 k b cs hk
     obtain ⟨cs',k2,p1,p2,p3,p4,p5⟩:=g2 k b ds q1
     rw [p5] at hk
     simp only [Option.some.injEq,Prod.mk.injEq,true_and] at hk
     rw [<-hk,Nat.zero_add]
     have hxk:=hx k b cs' p1
     obtain ⟨l1,l2⟩:=a3S p2
     generalize vs.getD k undef=u at hxk
     cases hxk with
     |c x _ hxx=>
      match ds,l1,l2,p4,p2 with
      |[d],_,_,p4,p2=>
       simp only [adL]
       exact .c _ _ (a9h k2 d x _ (p4 0 d rfl) (p3 0 x rfl) p2.1 hxx)
     |g _ us hl hxx=>
      refine .g _ us (by rw [(a3R nm ds k2).1];omega) fun i c hc=>?_
      rw [(a3R nm ds k2).2,Option.map_eq_some_iff] at hc
      obtain ⟨d,hd,rfl⟩:=hc
      obtain ⟨c0,hc0,hx0⟩:=l2 i d hd
      exact a9h (k2+i) d c0 _ (p4 i d hd) (p3 i c0 hc0) hx0 (hxx i c0 hc0)
   |_=>exact hex.elim
open Go
variable {P:Program}
def a4Y (args:List AV):St:={s:=fun t=>args.getD t (.c (.raw undef)),H:=a0j,T:=0,n:=true}
def b8U (P:Program) (fn:Func) (ret:AV) (e:AEx) (st:St):Prop:=
 (match e with|.normal|.ret=>True|_=>False)/\∃res,b4y P st fn.results.toList=some res/\exV st.H res ret/\(a1j res.flat).Nodup
def b2H (P:Program) (calm:Array Oper->Bool):Prop:=
 ∀(C:Ctx P) (n:Nat) (ops:Array Oper) (id:Nat) (K:St->Prop) (Q:Exit->Act->World->Prop) ρ st a w,calm ops=true->a5L n ops.toList=true->a.tmps.size=n->Rel C ρ st a w->
   (∀a w,a1o C n K a w->Q .normal a w)->(∀c a w,¬Q (.panic c) a w)->a9v P true ops K st->(Code.region id ops true).wp P Q a w
def a0R (calm:Array Oper->Bool) (fn:Func) (k:Nat):Bool:=
 fn.name != "runtime.NumGoroutine"&&(match fn.body with|some c=>a3D calm fn.ntmps c|none=>false)&&decide (k<=fn.ntmps)
theorem b0O {w:World} {hI:Inv P w} {G:Tag->Nat->Prop} {args:List AV} {vs:Array Value} {n:Nat} (hsz:vs.size=args.length)
  (hargs:∀(k:Nat) x,args[k]?=some x->a2f w (Fr (Ctx.of w hI G) a0j a0t) a0j a0t x (vs.getD k undef)) :
  Rel (Ctx.of w hI G) a0t (a4Y args) {tmps:=vs++Array.replicate n undef,defers:=[]} w:=by
 refine ⟨⟨RowKit.Below.refl _ _,(fun id e sz f rows h=>by cases h),(fun id id' e sz rows e' sz' f' rows' b c s c' s' h=>by cases h),⟨0,fun _ _ _=>rfl⟩,.none (fun _ _ _ h=>by cases h) (fun _ h=>h.elim) (fun _ _ _ _ _ _ h=>h)⟩,fun t=>?_,rfl,trivial,fun _ _ _ _ _ _ _ _ _ _ _=>trivial⟩
 simp only [a4Y]
 by_cases ht:t<args.length
 ·have h1:args[t]?=some (args.getD t (.c (.raw undef))):=by simp [ht]
  have h2:(vs++Array.replicate n undef).getD t undef=vs.getD t undef:=by
   simp [Array.getD_eq_getD_getElem?,Array.getElem?_append,show t<vs.size by omega]
  rw [h2];exact hargs t _ h1
 ·have h1:args.getD t (.c (.raw undef))=.c (.raw undef):=by simp [List.getD,List.getElem?_eq_none (Nat.le_of_not_lt ht)]
  have h2:(vs++Array.replicate n undef).getD t undef=undef:=by
   simp only [Array.getD_eq_getD_getElem?,Array.getElem?_append,show ¬t<vs.size by omega,if_false,Array.getElem?_replicate]
   split<;>rfl
  rw [h1,h2];exact .c _ _ (.raw _)
theorem c2g {calm:Array Oper->Bool} (hcalm:b2H P calm) {f:FuncId} {fn:Func} {c:Code} {args:List AV} {ret:AV} (hf:P.funcs[f]?=some fn) (hb:fn.body=some c)
  (hok:a0R calm fn args.length=true) (hret:∀c∈ret.flat,a6v c) (harg:∀x∈args,∀c∈x.flat,VOK c) (h:awp P c (b8U P fn ret) (a4Y args)):PEv P f args ret:=by
 simp only [a0R,hb,Bool.and_eq_true,decide_eq_true_eq,bne_iff_ne,ne_eq] at hok
 obtain ⟨⟨hname,hcode⟩,hle⟩:=hok
 refine ⟨⟨by simp [a3k,hf,hb,hname],hret,harg⟩,fun w hI G vs hsz hargs nm inj=>?_⟩
 refine calls_of_wp hf hb (Code.wp_mono (fun e a w' q=>?_) (a1M calm hcalm c fn.ntmps _ a0t (a4Y args) _ w hcode (by simp;omega) (b0O hsz hargs) h))
 have fin:a1o (Ctx.of w hI G) fn.ntmps (fun st=>∃res,b4y P st fn.results.toList=some res/\exV st.H res ret/\(a1j res.flat).Nodup) a w'->
   a.defers=[]/\∃v,(results fn a.tmps).run P w'=.ok v w'/\(∃v',Ending.returned v=.returned v'/\∃ρ,a1A (Ctx.of w hI G) (adH nm 0 ret.flat a0j) ρ w'/\
    a2f w' (Fr (Ctx.of w hI G) (adH nm 0 ret.flat a0j) ρ) (adH nm 0 ret.flat a0j) ρ (ret.ad nm) v'):=fun ⟨_,ρ,st,hr,res,g1,g2,g3⟩=>by
  obtain ⟨v,h1,h2⟩:=a4c hr g1
  obtain ⟨ρ',h3,h4⟩:=a5q hr h2 hret g2 g3 nm inj
  exact ⟨hr.a6a,v,h1,v,rfl,ρ',h3,h4⟩
 cases e with
 |normal=>exact fin (a1o.mono q fun st hs=>hs.2)
 |ret=>exact fin (a1o.mono q fun st hs=>hs.2)
 |exit id=>
  obtain ⟨_,_,_,_,hs⟩:=q
  exact hs.1.elim
 |_=>exact q.elim
open Go
variable {P:Program}
structure Eff where
 v:AV
 N:Id->Option OK
def Eff.app (e:Eff) (dst:Option Nat) (A:St):St:={s:=(A.put dst e.v).s,H:=fun id=>(e.N id).getD (A.H id),T:=A.T,n:=A.n}
def a6D (v:AV):Eff:=⟨v,fun _=>none⟩
def a2p (v:AV) (id:Id) (ob:OK):Eff:=⟨v,fun j=>if j=id then some ob else none⟩
theorem a2q (v:AV) (dst:Option Nat) (A:St):(a6D v).app dst A=A.put dst v:=by cases dst<;>rfl
theorem a04 (v:AV) (id:Id) (ob:OK) (dst:Option Nat) (A:St):(a2p v id ob).app dst A={A with H:=hset A.H id ob}.put dst v:=by
 have:(fun j=>((a2p v id ob).N j).getD (A.H j))=hset A.H id ob:=by
  funext j
  unfold hset a2p
  by_cases h:j=id<;>simp [h]
 unfold Eff.app
 rw [this]
 cases dst<;>rfl
def Alike (op:Op) (A B:St):Prop:=
 B.T=A.T/\(∀x∈op.operands.toList,B.eval x=A.eval x)/\
 (hfree op=false->∀x∈op.operands.toList,∀id,idV id (A.eval x)->A.H id≠.a0b->B.H id=A.H id)
def b0P (dst:Option Nat) (T:Nat) (id:Id):Prop:=∃d,dst=some d/\id.1=T/\(id.2=d\/∃k,k<1024/\id.2=d*1024+1024+k)
def a0T (P:Program) (dst:Option Nat) (op:Op) (A:St) (K:St->Prop):Prop:=
 ∃e:Eff,K (e.app dst A)/\(hfree op=true->∀id,e.N id=none)/\
  (∀id ob,e.N id=some ob->ob≠.a0b/\((b0P dst A.T id/\A.H id=.a0b)\/(writer op=true/\A.H id≠.a0b/\∃x∈op.operands.toList,idV id (A.eval x))))/\
  ∀B,Alike op A B->(∀id,e.N id≠none->A.H id=.a0b->B.H id=.a0b)->a0D P true dst op B (·=e.app dst B)
theorem a0T.pure {dst:Option Nat} {op:Op} {A:St} {K:St->Prop} (v:AV) (hk:K (A.put dst v)) (hB:∀B,Alike op A B->a0D P true dst op B (·=B.put dst v)):a0T P dst op A K:=
 ⟨a6D v,by rw [a2q];exact hk,fun _ _=>rfl,fun id ob h=>by simp [a6D] at h,fun B hb _=>by rw [a2q];exact hB B hb⟩
theorem a0T.new {d:Nat} {op:Op} {A:St} {K:St->Prop} {e sz:Nat} {rows:List (List AC)} {v:Id->AC} (hf:hfree op=false) (hk:newObj A (some d) e sz rows v K)
  (hB:∀B,Alike op A B->B.H (B.T,d)=.a0b->∀K',newObj B (some d) e sz rows v K'->a0D P true (some d) op B K'):a0T P (some d) op A K:=by
 refine ⟨a2p (.c (v (A.T,d))) (A.T,d) (.arr e sz false rows),by rw [a04];exact hk.2,fun h=>(by rw [hf] at h;cases h),fun id ob h=>?_,fun B hb hun=>?_⟩
 ·simp only [a2p] at h
  split at h
  ·rename_i hid
   cases h
   subst hid
   exact ⟨by simp,.inl ⟨⟨d,rfl,rfl,.inl rfl⟩,hk.1⟩⟩
  ·cases h
 ·have hT:B.T=A.T:=hb.1
  have h1:B.H (B.T,d)=.a0b:=by rw [hT];exact hun _ (by simp [a2p]) hk.1
  refine hB B hb h1 _ ⟨h1,?_⟩
  rw [a04,hT]
theorem a9C {H H':Heap} {c:AC} (h:AC.one H c=true) (hH:∀id,idC id c->H id≠.a0b->H' id=H id):AC.one H' c=true:=by
 cases c<;>first
  |(simp only [AC.one] at h ⊢;rw [hH _ (by constructor) (by intro e;rw [e] at h;cases h)];exact h)
  |exact h
theorem a3m {H H':Heap} {cs:List AC} (h:cs.all (AC.one H)=true) (hH:∀id,(∃c∈cs,idC id c)->H id≠.a0b->H' id=H id):cs.all (AC.one H')=true:=by
 rw [List.all_eq_true] at *
 exact fun c hc=>a9C (h c hc) fun id hi hu=>hH id ⟨c,hc,hi⟩ hu
theorem a5M {H H':Heap} {c:AC} {r:List (List AC)} (h:rowsOf H c=some r) (hH:∀id,c1w id c->H id≠.a0b->H' id=H id):rowsOf H' c=some r:=by
 cases c with
 |so id off len=>
  simp only [rowsOf] at *
  rw [hH id rfl (by intro e;rw [e] at h;cases h)]
  exact h
 |raw v=>rw [<-h];unfold rowsOf;split<;>first|rfl|(split<;>simp_all)
 |_=>exact h
theorem a8s {id:Id} {c:AC} (h:c1w id c):idC id c:=by
 cases c with
 |so i o l=>cases h;constructor
 |pt i o l=>cases h;constructor
 |_=>exact h.elim
theorem a3n {v:AV} {cs:List AC} (h:v.cells=some cs):v.flat=cs:=by
 cases v<;>simp only [AV.cells,Option.some.injEq,reduceCtorEq] at h<;>exact h
theorem a6E {H H':Heap} {a2m:List (Nat×Nat×Bool)}:∀{ps:List (Nat×AV)} {cs r:List AC},a6l H a2m cs ps=some r->
  (∀q∈ps,∀id,idV id q.2->H id≠.a0b->H' id=H id)->a6l H' a2m cs ps=some r
 |[],_,_,h,_=>h
 |(i,v)::ps,cs,r,h,hH=>by
  unfold a6l at h
  unfold a6l
  split at h
  ·rename_i off n b xs h1 h2
   split at h
   ·rename_i hc
    obtain ⟨c1,c2,c3,c4⟩:=hc
    rw [if_pos ⟨c1,c2,c3,a3m c4 fun id hi hu=>hH (i,v) (by simp) id (by obtain ⟨c,hc,hi⟩:=hi;exact ⟨c,by rw [a3n h2];exact hc,hi⟩) hu⟩]
    exact a6E h fun q hq=>hH q (by simp [hq])
   ·cases h
  ·cases h
theorem a6F {H H':Heap} {sz:Nat}:∀{ps:List (Nat×AV)} {k:Nat} {r:List (List AC)},a6m H sz k ps=some r->
  (∀q∈ps,∀id,idV id q.2->H id≠.a0b->H' id=H id)->a6m H' sz k ps=some r
 |[],_,_,h,_=>h
 |(i,v)::ps,k,r,h,hH=>by
  unfold a6m at h
  unfold a6m
  split at h
  ·rename_i xs rs h1 h2
   rw [h1,a6F h2 fun q hq=>hH q (by simp [hq])]
   simp only
   split at h
   ·rename_i hc
    obtain ⟨c1,c2,c3⟩:=hc
    rw [if_pos ⟨c1,c2,a3m c3 fun id hi hu=>hH (i,v) (by simp) id (by obtain ⟨c,hc,hi⟩:=hi;exact ⟨c,by rw [a3n h1];exact hc,hi⟩) hu⟩]
    exact h
   ·cases h
  ·cases h
theorem a1k {H H':Heap} {c r:AC} (h:a1e H c=some r) (hH:∀id,c1w id c->H id≠.a0b->H' id=H id):a1e H' c=some r:=by
 cases c with
 |so id off len=>
  simp only [a1e,Option.map_eq_some_iff] at *
  obtain ⟨rows,h1,h2⟩:=h
  exact ⟨rows,a5M h1 hH,h2⟩
 |raw v=>rw [<-h];unfold a1e;split<;>first|rfl|(rename_i e;cases e)|(split<;>simp_all)
 |_=>exact h
theorem a6G {H H':Heap}:∀{cs r:List AC},a3t H cs=some r->(∀id,(∃c∈cs,c1w id c)->H id≠.a0b->H' id=H id)->a3t H' cs=some r
 |[],_,h,_=>h
 |c::cs,r,h,hH=>by
  unfold a3t at *
  split at h
  ·rename_i x xs h1 h2
   rw [a1k h1 fun id hi hu=>hH id ⟨c,by simp,hi⟩ hu,a6G h2 fun id ⟨c',hc,hi⟩ hu=>hH id ⟨c',by simp [hc],hi⟩ hu]
   exact h
  ·cases h
theorem a6H {H H':Heap} {c r:AC} (h:a4r H c=some r) (hH:∀id,c1w id c->H id≠.a0b->H' id=H id):a4r H' c=some r:=by
 cases c with
 |pt id i j=>
  simp only [a4r] at *
  rw [hH id rfl (by intro e;rw [e] at h;cases h)]
  exact h
 |pv t row j=>exact h
 |raw v=>
  have h':a1e H (.raw v)=some r:=h
  exact a1k h' hH
 |str l=>
  have h':a1e H (.str l)=some r:=h
  exact a1k h' hH
 |sl t cl xs=>
  have h':a1e H (.sl t cl xs)=some r:=h
  exact a1k h' hH
 |so id off len=>
  have h':a1e H (.so id off len)=some r:=h
  exact a1k h' hH
 |fn f caps=>
  have h':a1e H (.fn f caps)=some r:=h
  exact a1k h' hH
 |nw e sz xs=>
  have h':a1e H (.nw e sz xs)=some r:=h
  exact a1k h' hH
 |mr id=>
  have h':a1e H (.mr id)=some r:=h
  exact a1k h' hH
 |a4S=>
  have h':a1e H (.a4S)=some r:=h
  exact a1k h' hH
theorem a5N {H H':Heap}:∀{cs r:List AC},a2Z H cs=some r->(∀id,(∃c∈cs,c1w id c)->H id≠.a0b->H' id=H id)->a2Z H' cs=some r
 |[],_,h,_=>h
 |c::cs,r,h,hH=>by
  unfold a2Z at *
  split at h
  ·rename_i x xs h1 h2
   rw [a6H h1 fun id hi hu=>hH id ⟨c,by simp,hi⟩ hu,a5N h2 fun id ⟨c',hc,hi⟩ hu=>hH id ⟨c',by simp [hc],hi⟩ hu]
   exact h
  ·cases h
theorem b0Q {H H':Heap} {v r:AV} (h:a2K H v=some r) (hH:∀id,idV id v->H id≠.a0b->H' id=H id):a2K H' v=some r:=by
 cases v with
 |c x=>
  cases x with
  |fn f caps=>
   simp only [a2K,Option.map_eq_some_iff] at *
   obtain ⟨cs,h1,h2⟩:=h
   exact ⟨cs,a5N h1 fun id ⟨c,hc,hi⟩ hu=>hH id ⟨.fn f caps,by simp [AV.flat],.fn f caps c hc (a8s hi)⟩ hu,h2⟩
  |_=>
   simp only [a2K,Option.map_eq_some_iff] at *
   obtain ⟨c,h1,h2⟩:=h
   exact ⟨c,a6H h1 fun id hi hu=>hH id ⟨_,by simp only [AV.flat,List.mem_singleton],a8s hi⟩ hu,h2⟩
 |g xs=>
  simp only [a2K,Option.map_eq_some_iff] at *
  obtain ⟨cs,h1,h2⟩:=h
  exact ⟨cs,a6G h1 fun id ⟨c,hc,hi⟩ hu=>hH id ⟨c,by simp only [AV.flat];exact hc,a8s hi⟩ hu,h2⟩
 |t _=>exact h
theorem a6I {H H':Heap}:∀{vs r:List AV},a3c H vs=some r->(∀v∈vs,∀id,idV id v->H id≠.a0b->H' id=H id)->a3c H' vs=some r
 |[],_,h,_=>h
 |v::vs,r,h,hH=>by
  unfold a3c at *
  split at h
  ·rename_i x xs h1 h2
   rw [b0Q h1 (hH v (by simp)),a6I h2 fun u hu=>hH u (by simp [hu])]
   exact h
  ·cases h
open Go
variable {P:Program} {dst:Option Nat} {A:St} {K:St->Prop}
theorem Alike.ev {op:Op} {A B:St} (h:Alike op A B) {x:Operand} (hx:x∈op.operands.toList):B.eval x=A.eval x:=h.2.1 x hx
theorem Alike.hp {op:Op} {A B:St} (h:Alike op A B) (hf:hfree op=false) {x:Operand} (hx:x∈op.operands.toList) {c:AC} (hv:A.eval x=.c c) {id:Id} (hi:idC id c) (hu:A.H id≠.a0b):B.H id=A.H id:=
 h.2.2 hf x hx id ⟨c,by rw [hv];simp [AV.flat],hi⟩ hu
theorem b7l {x:Operand} (hk:K (A.put dst (A.eval x))):a0T P dst (.move x) A K:=
 .pure _ hk fun B hb=>by show B.put dst (B.eval x)=_;rw [hb.ev (by simp [Op.operands])]
theorem b3x {x:Operand} (hk:K (A.put dst (A.eval x))):a0T P dst (.assign x) A K:=
 .pure _ hk fun B hb=>by show B.put dst (B.eval x)=_;rw [hb.ev (by simp [Op.operands])]
theorem b7m {c x y:Operand} (hk:aop P dst (.pick c x y) A K):a0T P dst (.pick c x y) A K:=by
 simp only [aop] at hk
 split at hk
 ·rename_i q hq
  cases q with
  |true=>
   refine .pure _ (hk.1 rfl) fun B hb=>?_
   simp only [a0D,aop]
   rw [hb.ev (x:=c) (by simp [Op.operands]),hb.ev (x:=x) (by simp [Op.operands]),hq]
   simp
  |false=>
   refine .pure _ (hk.2 rfl) fun B hb=>?_
   simp only [a0D,aop]
   rw [hb.ev (x:=c) (by simp [Op.operands]),hb.ev (x:=y) (by simp [Op.operands]),hq]
   simp
 ·exact hk.elim
theorem b4R {e:TypeId} (hk:aop P dst (.alloc e) A K):a0T P dst (.alloc e) A K:=by
 obtain ⟨h1,h2⟩:=hk
 cases dst with
 |none=>exact h2.elim
 |some d=>exact .new rfl h2 fun B hb _ K' h'=>⟨h1,h'⟩
theorem b9N {e:TypeId} {x:Operand} (hk:aop P dst (.box e x) A K):a0T P dst (.box e x) A K:=by
 simp only [aop] at hk
 split at hk
 ·rename_i cs hcs
  obtain ⟨h1,h2,h3⟩:=hk
  cases dst with
  |none=>exact h3.elim
  |some d=>
   refine .new rfl h3 fun B hb _ K' h'=>?_
   simp only [a0D,aop]
   rw [hb.ev (x:=x) (by simp [Op.operands]),hcs]
   refine ⟨h1,⟨h2.1,a3m h2.2 fun id ⟨c,hc,hi⟩ hu=>?_⟩,h'⟩
   exact hb.2.2 rfl x (by simp [Op.operands]) id ⟨c,by rw [a3n hcs];exact hc,hi⟩ hu
 ·exact hk.elim
theorem b2I {op:Op} {ps:Array (Nat×Operand)} (hop:op.operands=(ps.toList.map (·.2)).toArray) {B:St} (hb:Alike op A B) :
  (ps.toList.map fun q=>(q.1,B.eval q.2))=ps.toList.map fun q=>(q.1,A.eval q.2):=by
 apply List.map_congr_left
 intro q hq
 rw [hb.ev (x:=q.2) (by rw [hop];simp only [List.mem_map];exact ⟨q,hq,rfl⟩)]
theorem b2J {op:Op} {ps:Array (Nat×Operand)} (hop:op.operands=(ps.toList.map (·.2)).toArray) {B:St} (hb:Alike op A B) (hf:hfree op=false) :
  ∀q∈(ps.toList.map fun q=>(q.1,A.eval q.2)),∀id,idV id q.2->A.H id≠.a0b->B.H id=A.H id:=by
 intro q hq id hi hu
 rw [List.mem_map] at hq
 obtain ⟨p,hp,rfl⟩:=hq
 exact hb.2.2 hf p.2 (by rw [hop];simp only [List.mem_map];exact ⟨p,hp,rfl⟩) id hi hu
theorem b4S {t:TypeId} {ps:Array (Nat×Operand)} (hk:aop P dst (.build t ps) A K):a0T P dst (.build t ps) A K:=by
 simp only [aop] at hk
 split at hk
 ·rename_i cs hcs
  refine .pure _ hk.2 fun B hb=>?_
  simp only [a0D,aop]
  rw [b2I (op:=.build t ps) rfl hb,a6E hcs (b2J rfl hb rfl)]
  exact ⟨hk.1,by first|rfl|trivial⟩
 ·exact hk.elim
theorem a7l {t:TypeId} {n:Nat} {ps:Array (Nat×Operand)} (hk:aop P dst (.buildSlice t n ps) A K):a0T P dst (.buildSlice t n ps) A K:=by
 simp only [aop] at hk
 split at hk
 ·rename_i cs hcs
  obtain ⟨h1,h2⟩:=hk
  cases dst with
  |none=>exact h2.elim
  |some d=>
   refine .new rfl h2 fun B hb _ K' h'=>?_
   simp only [a0D,aop]
   rw [b2I (op:=.buildSlice t n ps) rfl hb,a6F hcs (b2J rfl hb rfl)]
   exact ⟨h1,h'⟩
 ·exact hk.elim
theorem b7n {t:TypeId} {x:Operand} (hk:aop P dst (.load t x) A K):a0T P dst (.load t x) A K:=by
 have hx:x∈(Op.load t x).operands.toList:=by simp [Op.operands]
 simp only [aop] at hk
 split at hk
 ·rename_i id i j h1
  split at hk
  ·rename_i e sz frz rows h2
   split at hk
   ·rename_i row h3
    split at hk
    ·rename_i v h4
     refine .pure _ hk.2 fun B hb=>?_
     simp only [a0D,aop]
     rw [hb.ev hx,h1]
     simp only
     rw [hb.hp rfl hx h1 (id:=id) (by constructor) (by rw [h2];simp),h2]
     simp only [h3,h4]
     exact ⟨hk.1,by first|rfl|trivial⟩
    ·exact hk.elim
   ·exact hk.elim
  ·exact hk.elim
 ·rename_i tg row j h1
  split at hk
  ·rename_i v h4
   refine .pure _ hk.2 fun B hb=>?_
   simp only [a0D,aop]
   rw [hb.ev hx,h1]
   simp only [h4]
   exact ⟨hk.1,by first|rfl|trivial⟩
  ·exact hk.elim
 ·exact hk.elim
theorem b4T {t:TypeId} {x v:Operand} (hk:aop P dst (.store t x v) A K):a0T P dst (.store t x v) A K:=by
 have hx:x∈(Op.store t x v).operands.toList:=by simp [Op.operands]
 have hv:v∈(Op.store t x v).operands.toList:=by simp [Op.operands]
 simp only [aop] at hk
 split at hk
 ·rename_i id i j cs h1 hcs
  split at hk
  ·rename_i e sz rows h2
   split at hk
   ·rename_i row h3
    obtain ⟨⟨g1,g2,g3,g4⟩,hk⟩:=hk
    have hid:idV id (A.eval x):=⟨.pt id i j,by rw [h1];simp [AV.flat],by constructor⟩
    refine ⟨a2p (.c (.raw undef)) id (.arr e sz false (rows.set i (lay row j cs))),by rw [a04];exact hk,fun h=>(by cases h),fun id' ob h=>?_,fun B hb hun=>?_⟩
    ·simp only [a2p] at h
     split at h
     ·rename_i e'
      cases h
      subst e'
      exact ⟨by simp,.inr ⟨rfl,by rw [h2];simp,x,hx,hid⟩⟩
     ·cases h
    ·simp only [a0D,aop]
     rw [hb.ev hx,hb.ev hv,h1,hcs]
     simp only
     rw [hb.hp rfl hx h1 (id:=id) (by constructor) (by rw [h2];simp),h2]
     simp only [h3]
     refine ⟨⟨g1,g2,a3m g3 fun id ⟨c,hc,hi⟩ hu=>hb.2.2 rfl v hv id ⟨c,by rw [a3n hcs];exact hc,hi⟩ hu,g4⟩,?_⟩
     rw [a04]
   ·exact hk.elim
  ·exact hk.elim
 ·exact hk.elim
theorem a9D {x:Operand} (hk:aop P dst (.nilCheck x) A K):a0T P dst (.nilCheck x) A K:=by
 have hx:x∈(Op.nilCheck x).operands.toList:=by simp [Op.operands]
 simp only [aop] at hk
 split at hk
 ·rename_i id i j h1
  refine .pure _ hk.2 fun B hb=>?_
  simp only [a0D,aop]
  rw [hb.ev hx,h1]
  simp only
  rw [hb.hp rfl hx h1 (id:=id) (by constructor) (by intro e;rw [e] at hk;cases hk.1)]
  exact ⟨hk.1,by first|rfl|trivial⟩
 ·exact hk.elim
theorem b4U {op:BinOp} {t t':TypeId} {x y:Operand} (hk:aop P dst (.binOp op t x y t') A K):a0T P dst (.binOp op t x y t') A K:=by
 simp only [aop] at hk
 split at hk
 ·rename_i D c h1
  refine .pure _ hk.2 fun B hb=>?_
  simp only [a0D,aop]
  rw [hb.ev (x:=x) (by simp [Op.operands]),hb.ev (x:=y) (by simp [Op.operands]),h1]
  exact .inl ⟨hk.1,by first|rfl|trivial⟩
 ·exact hk.elim
theorem b7o {op:UnOp} {t:TypeId} {x:Operand} (hk:aop P dst (.unOp op t x) A K):a0T P dst (.unOp op t x) A K:=by
 cases op with
 |not=>
  simp only [aop] at hk
  split at hk
  ·rename_i q h1
   refine .pure _ hk fun B hb=>?_
   simp only [a0D,aop]
   rw [hb.ev (x:=x) (by simp [Op.operands]),h1]
  ·exact hk.elim
 |_=>exact hk.elim
theorem a3u {op:Op} {x:Operand} {c:AC} {B:St} (hb:Alike op A B) (hf:hfree op=false) (hx:x∈op.operands.toList) (hv:A.eval x=.c c) {r:List (List AC)} (h:rowsOf A.H c=some r) :
  rowsOf B.H c=some r:=a5M h fun id hi hu=>hb.hp hf hx hv (a8s hi) hu
theorem b0R {s t:TypeId} {x:Operand} (hk:aop P dst (.convert s t x) A K):a0T P dst (.convert s t x) A K:=by
 have hx:x∈(Op.convert s t x).operands.toList:=by simp [Op.operands]
 simp only [aop] at hk
 split at hk
 ·rename_i k n h1
  split at hk
  ·rename_i k' h2
   refine .pure _ hk.2 fun B hb=>?_
   simp only [a0D,aop]
   rw [hb.ev hx,h1]
   simp only [h2]
   exact ⟨hk.1,by first|rfl|trivial⟩
  ·exact hk.elim
 ·rename_i l h1
  split at hk
  ·rename_i hf2
   obtain ⟨h3,h4⟩:=hk
   cases dst with
   |none=>exact h4.elim
   |some d=>
    refine .new rfl h4 fun B hb _ K' h'=>?_
    simp only [a0D,aop]
    rw [hb.ev hx,h1]
    simp only [if_pos hf2]
    exact ⟨h3,h'⟩
  ·rename_i hf2
   refine .pure _ hk.2 fun B hb=>?_
   simp only [a0D,aop]
   rw [hb.ev hx,h1]
   simp only [if_neg hf2]
   exact ⟨hk.1,by first|rfl|trivial⟩
 ·rename_i c n1 n2 h1
  split at hk
  ·rename_i l h2
   refine .pure _ hk.2 fun B hb=>?_
   obtain ⟨r,h3,h4⟩:=Option.bind_eq_some_iff.1 h2
   have h5:=a3u hb rfl hx h1 h3
   simp only [a0D,aop]
   rw [hb.ev hx,h1]
   split
   ·rename_i e;cases e;exact (n1 _ _ rfl).elim
   ·rename_i e;cases e;exact (n2 _ rfl).elim
   ·rename_i e
    cases e
    rw [h5]
    simp only [Option.bind_some,h4]
    exact ⟨hk.1,by first|rfl|trivial⟩
   ·rename_i e1 e2 e3
    exact (e3 _ rfl).elim
  ·exact hk.elim
 ·exact hk.elim
theorem a5O {B:St}:∀{l:List Operand} {cs:List AC},a3K A l=some cs->(∀x∈l,B.eval x=A.eval x)->a3K B l=some cs
 |[],_,h,_=>h
 |x::l,cs,h,hb=>by
  unfold a3K at h
  unfold a3K
  split at h
  ·rename_i c cs' h1 h2
   rw [hb x (by simp),h1,a5O h2 fun y hy=>hb y (by simp [hy])]
   exact h
  ·cases h
theorem a9E {f:Operand} {first caps:Array Operand} {g:FuncId} (hk:aop P dst (.makeFunc (.func g) first caps) A K):a0T P dst (.makeFunc (.func g) first caps) A K:=by
 simp only [aop] at hk
 split at hk
 ·rename_i cs h1
  refine .pure _ hk.2 fun B hb=>?_
  simp only [a0D,aop]
  rw [a5O h1 fun x hx=>hb.ev (by simp [Op.operands];exact .inr (by simpa using hx))]
  exact ⟨hk.1,by first|rfl|trivial⟩
 ·exact hk.elim
theorem a8t {t:TypeId} {x y:Operand} (hk:aop P dst (.makeSlice t x y) A K):a0T P dst (.makeSlice t x y) A K:=by
 simp only [aop] at hk
 split at hk
 ·rename_i n m h1 h2
  obtain ⟨h3,h4⟩:=hk
  cases dst with
  |none=>exact h4.elim
  |some d=>
   refine .new rfl h4 fun B hb _ K' h'=>?_
   simp only [a0D,aop]
   rw [hb.ev (x:=x) (by simp [Op.operands]),hb.ev (x:=y) (by simp [Op.operands]),h1,h2]
   exact ⟨h3,h'⟩
 ·exact hk.elim
theorem a8u {t:TypeId} {x:Operand} {f:Nat} (hk:aop P dst (.fieldAddr t x f) A K):a0T P dst (.fieldAddr t x f) A K:=by
 have hx:x∈(Op.fieldAddr t x f).operands.toList:=by simp [Op.operands]
 simp only [aop] at hk
 split at hk
 ·rename_i id i j off n b h1 h2
  refine .pure _ hk.2.2 fun B hb=>?_
  simp only [a0D,aop]
  rw [hb.ev hx,h1,h2]
  simp only
  rw [hb.hp rfl hx h1 (id:=id) (by constructor) (by intro e;rw [e] at hk;cases hk.2.1)]
  exact ⟨hk.1,hk.2.1,by first|rfl|trivial⟩
 ·rename_i tg row j off n b h1 h2
  refine .pure _ hk.2 fun B hb=>?_
  simp only [a0D,aop]
  rw [hb.ev hx,h1,h2]
  exact ⟨hk.1,by first|rfl|trivial⟩
 ·exact hk.elim
theorem b4V {t:TypeId} {x:Operand} {f:Nat} (hk:aop P dst (.field t x f) A K):a0T P dst (.field t x f) A K:=by
 simp only [aop] at hk
 split at hk
 ·rename_i xs off n ag h1 h2
  split at hk
  ·rename_i v h3
   refine .pure _ hk.2 fun B hb=>?_
   simp only [a0D,aop]
   rw [hb.ev (x:=x) (by simp [Op.operands]),h1,h2]
   simp only [h3]
   exact ⟨hk.1,by first|rfl|trivial⟩
  ·exact hk.elim
 ·exact hk.elim
theorem a8v {t:TypeId} {x y:Operand} (hk:aop P dst (.indexAddr t x y) A K):a0T P dst (.indexAddr t x y) A K:=by
 have hx:x∈(Op.indexAddr t x y).operands.toList:=by simp [Op.operands]
 have hy:y∈(Op.indexAddr t x y).operands.toList:=by simp [Op.operands]
 simp only [aop] at hk
 split at hk
 ·rename_i tg cl xs k i h1 h2
  refine .pure _ hk.2 fun B hb=>?_
  simp only [a0D,aop]
  rw [hb.ev hx,hb.ev hy,h1,h2]
  exact ⟨hk.1,by first|rfl|trivial⟩
 ·rename_i id off len k i h1 h2
  refine .pure _ hk.2 fun B hb=>?_
  simp only [a0D,aop]
  rw [hb.ev hx,hb.ev hy,h1,h2]
  simp only
  obtain ⟨⟨g1,g2,frz,rows,g3⟩,g4⟩:=hk.1
  exact ⟨⟨⟨g1,g2,frz,rows,by rw [hb.hp rfl hx h1 (id:=id) (by constructor) (by rw [g3];simp)];exact g3⟩,g4⟩,by first|rfl|trivial⟩
 ·exact hk.elim
theorem b4W {t:TypeId} {x y:Operand} (hk:aop P dst (.index t x y) A K):a0T P dst (.index t x y) A K:=by
 simp only [aop] at hk
 split at hk
 ·rename_i l k i h1 h2
  refine .pure _ hk.2 fun B hb=>?_
  simp only [a0D,aop]
  rw [hb.ev (x:=x) (by simp [Op.operands]),hb.ev (x:=y) (by simp [Op.operands]),h1,h2]
  exact ⟨hk.1,by first|rfl|trivial⟩
 ·exact hk.elim
theorem b0S {x:Operand} {i:Nat} (hk:aop P dst (.extract x i) A K):a0T P dst (.extract x i) A K:=by
 simp only [aop] at hk
 split at hk
 ·rename_i parts h1
  split at hk
  ·rename_i cs h2
   refine .pure _ hk fun B hb=>?_
   simp only [a0D,aop]
   rw [hb.ev (x:=x) (by simp [Op.operands]),h1]
   simp only [h2]
  ·rename_i c h2
   refine .pure _ hk fun B hb=>?_
   simp only [a0D,aop]
   rw [hb.ev (x:=x) (by simp [Op.operands]),h1]
   simp only [h2]
  ·exact hk.elim
 ·exact hk.elim
open Go
variable {P:Program} {dst:Option Nat} {A:St} {K:St->Prop}
theorem b4X {t:TypeId} {x:Operand} {lo hi mx:Option Operand} (hk:aop P dst (.slice t x lo hi mx) A K):a0T P dst (.slice t x lo hi mx) A K:=by
 have hx:x∈(Op.slice t x lo hi mx).operands.toList:=by simp [Op.operands]
 have ho:∀B,Alike (.slice t x lo hi mx) A B->lo.map B.eval=lo.map A.eval/\hi.map B.eval=hi.map A.eval/\mx.map B.eval=mx.map A.eval:=fun B hb=>by
  refine ⟨?_,?_,?_⟩
  ·cases lo with
   |none=>rfl
   |some y=>simp only [Option.map_some];rw [hb.ev (x:=y) (by simp [Op.operands])]
  ·cases hi with
   |none=>rfl
   |some y=>simp only [Option.map_some];rw [hb.ev (x:=y) (by simp [Op.operands])]
  ·cases mx with
   |none=>rfl
   |some y=>simp only [Option.map_some];rw [hb.ev (x:=y) (by simp [Op.operands])]
 simp only [aop] at hk
 split at hk
 ·rename_i l h1
  split at hk
  ·rename_i k i k' j h2 h3
   refine .pure _ hk.2 fun B hb=>?_
   obtain ⟨o1,o2,o3⟩:=ho B hb
   simp only [a0D,aop]
   rw [hb.ev hx,h1,o1,o2]
   simp only [h2,h3]
   exact ⟨hk.1,by first|rfl|trivial⟩
  ·exact hk.elim
 ·rename_i tg cl xs h1
  split at hk
  ·rename_i k i k' j h2 h3 h4
   refine .pure _ hk.2 fun B hb=>?_
   obtain ⟨o1,o2,o3⟩:=ho B hb
   simp only [a0D,aop]
   rw [hb.ev hx,h1,o1,o2,o3]
   simp only [h2,h3,h4]
   exact ⟨hk.1,by first|rfl|trivial⟩
  ·rename_i k i k' j k'' m h2 h3 h4
   refine .pure _ hk.2 fun B hb=>?_
   obtain ⟨o1,o2,o3⟩:=ho B hb
   simp only [a0D,aop]
   rw [hb.ev hx,h1,o1,o2,o3]
   simp only [h2,h3,h4]
   exact ⟨hk.1,by first|rfl|trivial⟩
  ·exact hk.elim
 ·rename_i id off len h1
  split at hk
  ·rename_i k i k' j h2 h3 h4
   refine .pure _ hk.2 fun B hb=>?_
   obtain ⟨o1,o2,o3⟩:=ho B hb
   simp only [a0D,aop]
   rw [hb.ev hx,h1,o1,o2,o3]
   simp only [h2,h3,h4]
   obtain ⟨⟨g1,g2,⟨sz,frz,rows,g3,g3'⟩,g4⟩,_⟩:=hk
   exact ⟨⟨g1,g2,⟨sz,frz,rows,by rw [hb.hp rfl hx h1 (id:=id) (by constructor) (by rw [g3];simp)];exact g3,g3'⟩,g4⟩,by first|rfl|trivial⟩
  ·exact hk.elim
 ·exact hk.elim
theorem a0Z {b:Builtin} {args:Array Operand} {ts:Array TypeId}:(Op.call {callee:=.builtin b,args:=args,argTypes:=ts}).operands.toList=args.toList:=by
 simp [Op.operands,Call.operands]
theorem b9O {x:Operand} {t:TypeId} {args:Array Operand} {ts:Array TypeId} (ha:args.toList=[x]) (ht:ts.toList=[t]) (hk:abi P dst .len [x] [t] A K):a0T P dst (.call {callee:=.builtin .len,args:=args,argTypes:=ts}) A K:=by
 have hx:x∈(Op.call {callee:=.builtin .len,args:=args,argTypes:=ts}).operands.toList:=by rw [a0Z,ha];simp
 simp only [abi] at hk
 split at hk
 ·rename_i l h1
  refine .pure _ hk.2 fun B hb=>?_
  simp only [a0D,ha,ht,abi]
  rw [hb.ev hx,h1]
  exact ⟨hk.1,by first|rfl|trivial⟩
 ·rename_i id off len h1
  refine .pure _ hk.2 fun B hb=>?_
  simp only [a0D,ha,ht,abi]
  rw [hb.ev hx,h1]
  simp only
  rw [hb.hp rfl hx h1 (id:=id) (by constructor) (by intro e;rw [e] at hk;cases hk.1.2)]
  exact ⟨hk.1,by first|rfl|trivial⟩
 ·rename_i tg cl xs h1
  refine .pure _ hk.2 fun B hb=>?_
  simp only [a0D,ha,ht,abi]
  rw [hb.ev hx,h1]
  exact ⟨hk.1,by first|rfl|trivial⟩
 ·rename_i h1
  refine .pure _ hk.2 fun B hb=>?_
  simp only [a0D,ha,ht,abi]
  rw [hb.ev hx,h1]
  exact ⟨hk.1,by first|rfl|trivial⟩
 ·exact hk.elim
theorem b9P {x y:Operand} {args:Array Operand} {ts:Array TypeId} (ha:args.toList=[x,y]) (hk:abi P dst .min [x,y] ts.toList A K):a0T P dst (.call {callee:=.builtin .min,args:=args,argTypes:=ts}) A K:=by
 have hx:x∈(Op.call {callee:=.builtin .min,args:=args,argTypes:=ts}).operands.toList:=by rw [a0Z,ha];simp
 have hy:y∈(Op.call {callee:=.builtin .min,args:=args,argTypes:=ts}).operands.toList:=by rw [a0Z,ha];simp
 simp only [abi] at hk
 split at hk
 ·rename_i k a k' b h1 h2
  refine .pure _ hk.2 fun B hb=>?_
  simp only [a0D,ha,abi]
  rw [hb.ev hx,hb.ev hy,h1,h2]
  exact ⟨hk.1,by first|rfl|trivial⟩
 ·exact hk.elim
theorem b9Q {x y:Operand} {args:Array Operand} {ts:Array TypeId} (ha:args.toList=[x,y]) (hk:abi P dst .max [x,y] ts.toList A K):a0T P dst (.call {callee:=.builtin .max,args:=args,argTypes:=ts}) A K:=by
 have hx:x∈(Op.call {callee:=.builtin .max,args:=args,argTypes:=ts}).operands.toList:=by rw [a0Z,ha];simp
 have hy:y∈(Op.call {callee:=.builtin .max,args:=args,argTypes:=ts}).operands.toList:=by rw [a0Z,ha];simp
 simp only [abi] at hk
 split at hk
 ·rename_i k a k' b h1 h2
  refine .pure _ hk.2 fun B hb=>?_
  simp only [a0D,ha,abi]
  rw [hb.ev hx,hb.ev hy,h1,h2]
  exact ⟨hk.1,by first|rfl|trivial⟩
 ·exact hk.elim
theorem b3y {x y:Operand} {t t':TypeId} {args:Array Operand} {ts:Array TypeId} (ha:args.toList=[x,y]) (ht:ts.toList=[t,t']) (hk:abi P dst .append [x,y] [t,t'] A K):a0T P dst (.call {callee:=.builtin .append,args:=args,argTypes:=ts}) A K:=by
 have hx:x∈(Op.call {callee:=.builtin .append,args:=args,argTypes:=ts}).operands.toList:=by rw [a0Z,ha];simp
 have hy:y∈(Op.call {callee:=.builtin .append,args:=args,argTypes:=ts}).operands.toList:=by rw [a0Z,ha];simp
 have hrows:∀{B:St} {ys},Alike (.call {callee:=.builtin .append,args:=args,argTypes:=ts}) A B->(match A.eval y with|.c c=>rowsOf A.H c|_=>none)=some ys->∃c,A.eval y=.c c/\B.eval y=.c c/\rowsOf B.H c=some ys:=fun {B ys} hb h=>by
  obtain ⟨c,h1,h2⟩:=a3i h
  exact ⟨c,h1,by rw [hb.ev hy,h1],a3u hb rfl hy h1 h2⟩
 simp only [abi] at hk
 split at hk
 ·rename_i ys d h1 h2
  refine .new rfl hk.2 fun B hb _ K' h'=>?_
  obtain ⟨c,h3,h4,h5⟩:=hrows hb h2
  simp only [a0D,ha,ht,abi]
  rw [h4,hb.ev hx,h1]
  simp only [h5]
  exact ⟨hk.1,h'⟩
 ·rename_i tg xs ys d h1 h2
  refine .new rfl hk.2 fun B hb _ K' h'=>?_
  obtain ⟨c,h3,h4,h5⟩:=hrows hb h2
  simp only [a0D,ha,ht,abi]
  rw [h4,hb.ev hx,h1]
  simp only [h5]
  exact ⟨hk.1,h'⟩
 ·rename_i id n ys d h1 h2
  split at hk
  ·rename_i e sz xs h3
   obtain ⟨hc,hun,hk⟩:=hk
   have hne:(A.T,d)≠id:=by
    intro e'
    rw [<-e'] at h3
    simp only [hset] at hun
    split at hun
    ·cases hun
    ·rename_i e'';exact e'' e'
   have d2o:A.H (A.T,d)=.a0b:=by
    simp only [hset,if_neg hne] at hun
    exact hun
   refine ⟨⟨.c (.so (A.T,d) 0 ((a1u n xs).length+ys.length)),fun j=>if j=(A.T,d) then some (.arr e sz false (a1u n xs++ys)) else if j=id then some .dead else none⟩,?_,fun h=>(by cases h),fun id' ob h=>?_,fun B hb d6g=>?_⟩
   ·have:(⟨.c (.so (A.T,d) 0 ((a1u n xs).length+ys.length)),fun j=>if j=(A.T,d) then some (.arr e sz false (a1u n xs++ys)) else if j=id then some .dead else none⟩:Eff).app (some d) A =
      {A with H:=hset (hset A.H id .dead) (A.T,d) (.arr e sz false (a1u n xs++ys))}.put (some d) (.c (.so (A.T,d) 0 ((a1u n xs).length+ys.length))):=by
     simp only [Eff.app,St.put]
     congr 1
     funext j
     unfold hset
     by_cases e1:j=(A.T,d)
     ·simp [e1]
     ·by_cases e2:j=id
      ·rw [if_neg e1,if_pos e2,if_neg e1,if_pos e2];rfl
      ·rw [if_neg e1,if_neg e2,if_neg e1,if_neg e2];rfl
    rw [this]
    exact hk
   ·simp only at h
    split at h
    ·rename_i e'
     cases h
     subst e'
     exact ⟨by simp,.inl ⟨⟨d,rfl,rfl,.inl rfl⟩,d2o⟩⟩
    ·split at h
     ·rename_i e' e''
      cases h
      subst e''
      exact ⟨by simp,.inr ⟨rfl,by rw [h3];simp,x,hx,.so id' 0 n,by rw [h1];simp [AV.flat],by constructor⟩⟩
     ·cases h
   ·obtain ⟨c,h3',h4,h5⟩:=hrows hb h2
    have hT:B.T=A.T:=hb.1
    have d6h:B.H id=.arr e sz false xs:=by rw [hb.hp rfl hx h1 (id:=id) (by constructor) (by rw [h3];simp)];exact h3
    have d6i:B.H (B.T,d)=.a0b:=by rw [hT];exact d6g _ (by simp) d2o
    simp only [a0D,ha,ht,abi]
    rw [h4,hb.ev hx,h1]
    simp only [h5,d6h]
    refine ⟨?_,?_,?_⟩
    ·rw [h3'] at hc;exact hc
    ·show hset B.H id .dead (B.T,d)=_
     rw [hT]
     simp only [hset,if_neg hne]
     rw [<-hT];exact d6i
    ·simp only [Eff.app,St.put,hT]
     congr 1
     funext j
     unfold hset
     by_cases e1:j=(A.T,d)
     ·simp [e1]
     ·by_cases e2:j=id
      ·rw [if_neg e1,if_pos e2,if_neg e1,if_pos e2];rfl
      ·rw [if_neg e1,if_neg e2,if_neg e1,if_neg e2];rfl
  ·exact hk.elim
 ·exact hk.elim
theorem b7p {x y:Operand} {t t':TypeId} {args:Array Operand} {ts:Array TypeId} (ha:args.toList=[x,y]) (ht:ts.toList=[t,t']) (hk:abi P dst .copy [x,y] [t,t'] A K):a0T P dst (.call {callee:=.builtin .copy,args:=args,argTypes:=ts}) A K:=by
 have hx:x∈(Op.call {callee:=.builtin .copy,args:=args,argTypes:=ts}).operands.toList:=by rw [a0Z,ha];simp
 have hy:y∈(Op.call {callee:=.builtin .copy,args:=args,argTypes:=ts}).operands.toList:=by rw [a0Z,ha];simp
 simp only [abi] at hk
 split at hk
 ·rename_i id off len ys h1 h2
  split at hk
  ·rename_i e sz rows h3
   obtain ⟨hc,hk⟩:=hk
   have hid:idV id (A.eval x):=⟨.so id off len,by rw [h1];simp [AV.flat],by constructor⟩
   refine ⟨a2p (.c (.raw (.int .i64 ((min len ys.length:Nat):Int)))) id (.arr e sz false (rows.take off++ys.take len++rows.drop (off+min len ys.length))),by rw [a04];exact hk,fun h=>(by cases h),fun id' ob h=>?_,fun B hb hun=>?_⟩
   ·simp only [a2p] at h
    split at h
    ·rename_i e'
     cases h
     subst e'
     exact ⟨by simp,.inr ⟨rfl,by rw [h3];simp,x,hx,hid⟩⟩
    ·cases h
   ·obtain ⟨c,e1,e2⟩:=a3i h2
    have e3:B.eval y=.c c:=by rw [hb.ev hy,e1]
    have e4:rowsOf B.H c=some ys:=a3u hb rfl hy e1 e2
    simp only [a0D,ha,ht,abi]
    rw [e3,hb.ev hx,h1]
    simp only [e4]
    rw [hb.hp rfl hx h1 (id:=id) (by constructor) (by rw [h3];simp),h3]
    refine ⟨hc,?_⟩
    rw [a04]
  ·exact hk.elim
 ·exact hk.elim
def adN (nm:Nat->Id):Nat->List AC->Id->Option OK
 |_,[],_=>none
 |k,c::r,id=>match adN nm (k+1) r id with
  |some ob=>some ob
  |none=>match c with
   |.nw e sz xs=>if id=nm k then some (.arr e sz false xs) else none
   |_=>none
theorem b0T (nm:Nat->Id):∀(k:Nat) (l:List AC) (H:Heap),adH nm k l H=fun id=>(adN nm k l id).getD (H id)
 |_,[],H=>by funext id;rfl
 |k,c::r,H=>by
  rw [adH,b0T nm (k+1) r]
  funext id
  simp only [adN]
  cases h:adN nm (k+1) r id with
  |some ob=>rfl
  |none=>
   simp only [Option.getD_none]
   cases c<;>simp only [b4x,Option.getD_none]
   unfold hset
   by_cases e:id=nm k<;>simp [e]
theorem a8w {nm:Nat->Id}:∀{k:Nat} {l:List AC} {id:Id} {ob:OK},adN nm k l id=some ob->ob≠.a0b/\∃i,k<=i/\i<k+l.length/\id=nm i
 |_,[],_,_,h=>by simp [adN] at h
 |k,c::r,id,ob,h=>by
  simp only [adN] at h
  split at h
  ·rename_i ob' h'
   cases h
   obtain ⟨h1,i,h2,h3,h4⟩:=a8w h'
   exact ⟨h1,i,by omega,by simp only [List.length_cons];omega,h4⟩
  ·split at h
   ·split at h
    ·rename_i e
     cases h
     exact ⟨by simp,k,Nat.le_refl _,by simp,e⟩
    ·cases h
   ·cases h
theorem a4Z {nm:Nat->Id} {H:Heap}:∀{k:Nat} {l:List AC},a4R nm H k l->∀{id ob},adN nm k l id=some ob->H id=.a0b
 |_,[],_,_,_,h=>by simp [adN] at h
 |k,c::r,hu,id,ob,h=>by
  have hr:a4R nm H (k+1) r:=by
   cases c<;>first|exact hu|exact hu.2
  simp only [adN] at h
  split at h
  ·rename_i ob' h'
   exact a4Z hr h'
  ·split at h
   ·split at h
    ·rename_i e
     subst e
     exact hu.1
    ·cases h
   ·cases h
theorem b0U {nm:Nat->Id} {H:Heap}:∀{k:Nat} {l:List AC},(∀id,adN nm k l id≠none->H id=.a0b)->a4R nm H k l
 |_,[],_=>trivial
 |k,c::r,h=>by
  have hr:a4R nm H (k+1) r:=b0U fun id hid=>h id (by
   simp only [adN]
   cases h':adN nm (k+1) r id with
   |none=>exact (hid h').elim
   |some ob=>simp)
  cases c<;>first|exact hr|skip
  refine ⟨h _ ?_,hr⟩
  simp only [adN]
  cases h':adN nm (k+1) r (nm k)<;>simp
theorem a9F {st:St} {dst:Option Nat} {ret:AV}:b7k st dst ret=(⟨ret.ad (a1P st dst),adN (a1P st dst) 0 ret.flat⟩:Eff).app dst st:=by
 unfold b7k Eff.app
 rw [b0T]
 cases dst<;>rfl
theorem b7q {f:Operand} {g:FuncId} {caps:List AC} {args:Array Operand} {ts:Array TypeId} (hf:A.eval f=.c (.fn g caps))
  (hk:a6y P true A dst g (args.toList.map A.eval++caps.map .c) K):a0T P dst (.call {callee:=.value f,args:=args,argTypes:=ts}) A K:=by
 rcases hk with ⟨m,args',ret,h1,h2,h3,h4,h5⟩|⟨h,_⟩
 ·have hops:(Op.call {callee:=.value f,args:=args,argTypes:=ts}).operands.toList=f::args.toList:=by simp [Op.operands,Call.operands]
  obtain ⟨h6,h7⟩:=h4 rfl
  obtain ⟨d,hd⟩:=Option.isSome_iff_exists.1 h7
  subst hd
  refine ⟨⟨ret.ad (a1P A (some d)),adN (a1P A (some d)) 0 ret.flat⟩,by rw [<-a9F];exact h5,fun h=>(by cases h),fun id ob h=>?_,fun B hb hun=>?_⟩
  ·obtain ⟨g1,i,g2,g3,g4⟩:=a8w h
   refine ⟨g1,.inl ⟨⟨d,rfl,by rw [g4];rfl,.inr ⟨i,by omega,by rw [g4];rfl⟩⟩,a4Z h3 h⟩⟩
  ·have hT:B.T=A.T:=hb.1
   have hnm:a1P B (some d)=a1P A (some d):=by unfold a1P;rw [hT]
   simp only [a0D]
   rw [hb.ev (x:=f) (by rw [hops];simp),hf]
   have hmap:args.toList.map B.eval=args.toList.map A.eval:=List.map_congr_left fun y hy=>hb.ev (by rw [hops];simp [hy])
   rw [hmap]
   refine .inl ⟨m,args',ret,?_,h2,?_,fun _=>⟨h6,rfl⟩,?_⟩
   ·refine a6I h1 fun v hv id hi hu=>?_
    rw [List.mem_append] at hv
    rcases hv with hv|hv
    ·rw [List.mem_map] at hv
     obtain ⟨y,hy,rfl⟩:=hv
     exact hb.2.2 rfl y (by rw [hops];simp [hy]) id hi hu
    ·rw [List.mem_map] at hv
     obtain ⟨c,hc,rfl⟩:=hv
     obtain ⟨c',hc',hi⟩:=hi
     simp only [AV.flat,List.mem_singleton] at hc'
     subst hc'
     exact hb.2.2 rfl f (by rw [hops];simp) id ⟨.fn g caps,by rw [hf];simp [AV.flat],.fn g caps _ hc hi⟩ hu
   ·rw [hnm]
    exact b0U fun id hid=>hun id hid (by
     cases h:adN (a1P A (some d)) 0 ret.flat id with
     |none=>exact (hid h).elim
     |some ob=>exact a4Z h3 h)
   ·rw [a9F,hnm]
 ·cases h
theorem b0V {t:TypeId} (hk:aop P dst (.makeMap t none) A K):a0T P dst (.makeMap t none) A K:=by
 simp only [aop] at hk
 split at hk
 ·rename_i n z d hm
  obtain ⟨hun,hk⟩:=hk
  refine ⟨a2p (.c (.mr (A.T,d))) (A.T,d) (.mp n []),by rw [a04];exact hk,fun h=>(by cases h),fun id ob h=>?_,fun B hb hf=>?_⟩
  ·simp only [a2p] at h
   split at h
   ·rename_i hid
    cases h
    subst hid
    exact ⟨by simp,.inl ⟨⟨d,rfl,rfl,.inl rfl⟩,hun⟩⟩
   ·cases h
  ·simp only [a0D,aop,hm]
   rw [hb.1]
   refine ⟨hf _ (by simp [a2p]) hun,?_⟩
   rw [a04,<-hb.1]
 ·exact hk.elim
theorem b3z {t:TypeId} {x ix:Operand} {ok:Bool} (hk:aop P dst (.lookup t x ix ok) A K):a0T P dst (.lookup t x ix ok) A K:=by
 have hx:x∈(Op.lookup t x ix ok).operands.toList:=by simp [Op.operands]
 have hi:ix∈(Op.lookup t x ix ok).operands.toList:=by simp [Op.operands]
 simp only [aop] at hk
 split at hk
 ·rename_i id n0 z h1 hm
  split at hk
  ·rename_i n es ks h2 h3
   obtain ⟨rfl,hk⟩:=hk
   refine .pure _ hk fun B hb=>?_
   have e1:B.eval x=.c (.mr id):=by rw [hb.2.1 x hx];exact h1
   have e2:B.eval ix=A.eval ix:=hb.2.1 ix hi
   have e3:B.H id=.mp n es:=by rw [hb.2.2 rfl x hx id ⟨.mr id,by rw [h1];simp [AV.flat],by constructor⟩ (by rw [h2];simp)];exact h2
   simp only [a0D,aop]
   rw [e1,hm]
   simp only
   rw [e3,e2,h3]
   exact ⟨rfl,rfl⟩
  ·exact hk.elim
 ·exact hk.elim
theorem a8x {t:TypeId} {m k v:Operand} (hk:aop P dst (.mapUpdate t m k v) A K):a0T P dst (.mapUpdate t m k v) A K:=by
 have hm:m∈(Op.mapUpdate t m k v).operands.toList:=by simp [Op.operands]
 have hkk:k∈(Op.mapUpdate t m k v).operands.toList:=by simp [Op.operands]
 have hv:v∈(Op.mapUpdate t m k v).operands.toList:=by simp [Op.operands]
 simp only [aop] at hk
 split at hk
 ·rename_i id n0 z x h1 hi h4
  split at hk
  ·rename_i n es ks h2 h3
   obtain ⟨⟨rfl,hone⟩,hk⟩:=hk
   have hid:idV id (A.eval m):=⟨.mr id,by rw [h1];simp [AV.flat],by constructor⟩
   refine ⟨a2p (.c (.raw undef)) id (.mp n (c2c es ks x)),by rw [a04];exact hk,fun h=>(by cases h),fun id' ob h=>?_,fun B hb _=>?_⟩
   ·simp only [a2p] at h
    split at h
    ·rename_i e
     cases h
     subst e
     exact ⟨by simp,.inr ⟨rfl,by rw [h2];simp,m,hm,hid⟩⟩
    ·cases h
   ·have e1:B.eval m=.c (.mr id):=by rw [hb.2.1 m hm];exact h1
    have e2:B.eval k=A.eval k:=hb.2.1 k hkk
    have e3:B.eval v=.c x:=by rw [hb.2.1 v hv];exact h4
    have e4:B.H id=.mp n es:=by rw [hb.2.2 rfl m hm id hid (by rw [h2];simp)];exact h2
    simp only [a0D,aop]
    rw [e1,hi,e3]
    simp only
    rw [e4,e2,h3]
    simp only
    refine ⟨⟨trivial,a9C hone fun id hc hu=>hb.2.2 rfl v hv id ⟨x,by rw [h4];simp [AV.flat],hc⟩ hu⟩,?_⟩
    rw [a04]
  ·exact hk.elim
 ·exact hk.elim
open Go
variable {P:Program}
theorem a9G {dst:Option Nat} {op:Op} {A:St} {K:St->Prop} (hk:a0D P true dst op A K):a0T P dst op A K:=by
 cases op with
 |call c=>
  obtain ⟨callee,args,ts⟩:=c
  simp only [a0D] at hk
  cases callee with
  |builtin b=>
   simp only at hk
   obtain ⟨args⟩:=args
   obtain ⟨ts⟩:=ts
   simp only at hk
   cases b with
   |len=>
    match args,ts,hk with
    |[x],[t],hk=>exact b9O rfl rfl hk
    |[],_,hk=>exact hk.elim
    |_::_::_,_,hk=>exact hk.elim
    |[_],[],hk=>exact hk.elim
    |[_],_::_::_,hk=>exact hk.elim
   |min=>
    match args,hk with
    |[x,y],hk=>exact b9P rfl hk
    |[],hk=>exact hk.elim
    |[_],hk=>exact hk.elim
    |_::_::_::_,hk=>exact hk.elim
   |max=>
    match args,hk with
    |[x,y],hk=>exact b9Q rfl hk
    |[],hk=>exact hk.elim
    |[_],hk=>exact hk.elim
    |_::_::_::_,hk=>exact hk.elim
   |append=>
    match args,ts,hk with
    |[x,y],[t,t'],hk=>exact b3y rfl rfl hk
    |[],_,hk=>exact hk.elim
    |[_],_,hk=>exact hk.elim
    |_::_::_::_,_,hk=>exact hk.elim
    |[_,_],[],hk=>exact hk.elim
    |[_,_],[_],hk=>exact hk.elim
    |[_,_],_::_::_::_,hk=>exact hk.elim
   |copy=>
    match args,ts,hk with
    |[x,y],[t,t'],hk=>exact b7p rfl rfl hk
    |[],_,hk=>exact hk.elim
    |[_],_,hk=>exact hk.elim
    |_::_::_::_,_,hk=>exact hk.elim
    |[_,_],[],hk=>exact hk.elim
    |[_,_],[_],hk=>exact hk.elim
    |[_,_],_::_::_::_,hk=>exact hk.elim
   |_=>exact hk.elim
  |value f=>
   simp only at hk
   split at hk
   ·rename_i g caps hf
    exact b7q hf hk
   ·exact hk.elim
  |invoke _ _=>exact hk.elim
 |move x=>exact b7l hk
 |assign x=>exact b3x hk
 |pick c x y=>exact b7m hk
 |alloc e=>exact b4R hk
 |box e x=>exact b9N hk
 |build t ps=>exact b4S hk
 |buildSlice t n ps=>exact a7l hk
 |load t x=>exact b7n hk
 |store t x v=>exact b4T hk
 |nilCheck x=>exact a9D hk
 |binOp op t x y t'=>
  simp only [a0D] at hk
  rcases hk with hk|⟨e,_⟩
  ·exact b4U hk
  ·cases e
 |unOp op t x=>exact b7o hk
 |convert s t x=>exact b0R hk
 |makeFunc f first caps=>
  cases f with
  |func f=>exact a9E hk (f:=.func f)
  |_=>exact hk.elim
 |makeSlice t x y=>exact a8t hk
 |slice t x lo hi mx=>exact b4X hk
 |fieldAddr t x f=>exact a8u hk
 |field t x f=>exact b4V hk
 |indexAddr t x y=>exact a8v hk
 |index t x y=>exact b4W hk
 |extract x i=>exact b0S hk
 |makeMap t r=>
  cases r with
  |none=>exact b0V hk
  |some r=>exact hk.elim
 |lookup t x ix ok=>exact b3z hk
 |mapUpdate t m k v=>exact a8x hk
 |_=>exact hk.elim
theorem a9H {ops:Array Oper} {o:Oper} {l:List Oper} {K:St->Prop} {A:St}:a2z P true ops (o::l) K A=a4W P ops o A (a2z P true ops l K):=rfl
theorem a22 {A:St} {d:Nat} {v:AV} (h:A.s d=v):A.put (some d) v=A:=by
 cases A with
 |mk s H T=>
  simp only [St.put,St.mk.injEq,and_self,and_true]
  funext t
  unfold upd
  split
  ·rename_i e;subst e;exact h.symm
  ·rfl
theorem b0W {C:Ctx P} {ρ:Lies} {A:St} {a:Act} {w:World} {ops:Array Oper} {i:Nat} {o:Oper} {K:St->Prop} {Q:Exit->Act->World->Prop} (ho:ops[i]?=some o) (h:Rel C ρ A a w)
  (hd:∀d,o.dst=some d->d<a.tmps.size) (hk:a4W P ops o A K):wpOp P ops Q i (a1o C a.tmps.size K) a w:=by
 unfold wpOp
 rw [ho]
 simp only
 unfold a4W at hk
 split at hk
 ·rename_i hg
  rw [if_pos (by simp [Region.wanted,hg])]
  exact .inl (a2N h hd hk)
 ·rename_i j want hg
  rcases a6B hg h hk with ⟨h1,st',h2,h3⟩|⟨h1,st',h2,h3⟩
  ·rw [if_pos h1];exact .inl (a2N h2 hd h3)
  ·rw [if_neg (by simp [h1])]
   exact ⟨size_put _ _ _,ρ,_,h2.put (.c _ _ (.raw undef)) hd,h3⟩
theorem b0X {C:Ctx P} {ρ:Lies} {A:St} {a:Act} {w:World} {ops:Array Oper} {i:Nat} {o:Oper} {K:St->Prop} {Q:Exit->Act->World->Prop} (ho:ops[i]?=some o) (h:Rel C ρ A a w)
  (hd:∀d,o.dst=some d->d<a.tmps.size) (hk:a4E P ops o A K):wpOp P ops Q i (a1o C a.tmps.size K) a w:=by
 unfold wpOp
 rw [ho]
 simp only
 unfold a4E at hk
 split at hk
 ·rename_i hg
  obtain ⟨v,h1,h2⟩:=hk
  rw [if_pos (by simp [Region.wanted,hg])]
  exact .inl (Oper.wp_mono (Q:=Q) (fun a' w' q=>a1o.mono q fun st' (g3:st'=_)=>by rw [g3];exact h2) (a2N h hd h1))
 ·rename_i j want hg
  rcases a6B hg h hk with ⟨h1,st',h2,v,h3,h4⟩|⟨h1,st',h2,h3⟩
  ·rw [if_pos h1]
   exact .inl (Oper.wp_mono (Q:=Q) (fun a' w' q=>a1o.mono q fun st' (g3:st'=_)=>by rw [g3];exact h4) (a2N h2 hd h3))
  ·rw [if_neg (by simp [h1])]
   exact ⟨size_put _ _ _,ρ,_,h2.put (.c _ _ (.raw undef)) hd,h3⟩
def a5P (P:Program) (ops:Array Oper) (oc dc:Bool) (o:Oper) (A:St) (K:St->Prop):Prop:=if oc=true then a4E P ops o A K else if dc=true then a5p P o A (fun _ st=>K st) else a4W P ops o A K
theorem a9I {C:Ctx P} {ρ:Lies} {A:St} {a:Act} {w:World} {ops:Array Oper} {i:Nat} {o:Oper} {K:St->Prop} {Q:Exit->Act->World->Prop} {oc dc:Bool} (ho:ops[i]?=some o) (h:Rel C ρ A a w)
  (hd:∀d,o.dst=some d->d<a.tmps.size) (hk:a5P P ops oc dc o A K):wpOp P ops Q i (a1o C a.tmps.size K) a w:=by
 unfold a5P at hk
 split at hk
 ·exact b0X ho h hd hk
 split at hk
 ·unfold a5p at hk
  split at hk
  ·rename_i c hg hop
   split at hk
   ·rename_i f hf
    split at hk
    ·rename_i g caps hv
     obtain ⟨hh,C',us,ret,m1,m2,m3,m4,m5,m6⟩:=hk
     unfold wpOp
     rw [ho]
     simp only
     rw [if_pos (by simp [Region.wanted,hg])]
     obtain ⟨callee,args,ts⟩:=c
     simp only at hf
     subst hf
     refine .inl (a6A (dr:=false) h hd hop hv (.inr ⟨rfl,?_⟩))
     have ck:=m1.go (dst:=o.dst) m2 m3 m4
     refine ⟨ck.1,fun C ρ a w vs q1 q2 q3=>(ck.2 C ρ a w vs q1 q2 q3).mono fun e w' ⟨v,e1,ρ',r,H',T',g1,g2,g3,g4,g5⟩=>⟨v,e1,ρ',r,H',T',g1,g2,?_⟩⟩
     subst g3 g4 g5
     exact m6
    ·exact hk.elim
   ·exact hk.elim
  ·rename_i t x v hg hop
   split at hk
   ·unfold wpOp
    rw [ho]
    simp only
    rw [if_pos (by simp [Region.wanted,hg])]
    exact .inl (a9z h hd (by rw [hop];exact hk))
   ·exact hk.elim
  ·exact hk.elim
 ·exact b0W ho h hd hk
structure a6J (P:Program) (ops:Array Oper) (oc dc:Bool) (W:List Id) (o:Oper) (A:St) (e:Eff):Prop where
 free:hfree o.op=true->∀id,e.N id=none
 own:∀id ob,e.N id=some ob->ob≠.a0b/\((b0P o.dst A.T id/\A.H id=.a0b)\/(((dc=false/\writer o.op=true)\/(id∈W/\∃x∈o.op.operands.toList,idV id (A.eval x)))/\A.H id≠.a0b))
 go:∀B,(oc=true->B=A)->Alike o.op A B->(∀j want d,o.guard=some (j,want)->a6z ops j=some d->B.s d=A.s d)->(∀id,e.N id≠none->A.H id=.a0b->B.H id=.a0b)->a5P P ops oc dc o B (·=e.app o.dst B)
theorem a6J.mono {ops:Array Oper} {oc dc:Bool} {W W':List Id} {o:Oper} {A:St} {e:Eff} (h:a6J P ops oc dc W o A e) (hW:∀id∈W,id∈W'):a6J P ops oc dc W' o A e:=
 ⟨h.free,fun id ob hn=>⟨(h.own id ob hn).1,(h.own id ob hn).2.imp_right fun q=>⟨q.1.imp_right fun r=>⟨hW id r.1,r.2⟩,q.2⟩⟩,h.go⟩
theorem a6d {ops:Array Oper} {o:Oper} {A:St} {K:St->Prop}:a5P P ops false false o A K=a4W P ops o A K:=by simp [a5P]
theorem b4Y {ops:Array Oper} {o:Oper} {A:St} {dc:Bool} {W:List Id} {K:St->Prop} (hk:a4E P ops o A K):∃e,a6J P ops true dc W o A e/\K (e.app o.dst A):=by
 have fin:∀v:AV,a4E P ops o A (·=A.put o.dst v)->K (A.put o.dst v)->∃e,a6J P ops true dc W o A e/\K (e.app o.dst A):=fun v h1 h2=>
  ⟨a6D v,⟨fun _ _=>rfl,fun id ob h=>by simp [a6D] at h,fun B hB _ _ _=>by
   rw [hB rfl,a2q]
   simpa [a5P] using h1⟩,by rw [a2q];exact h2⟩
 have hk0:=hk
 unfold a4E at hk
 split at hk
 ·rename_i hg
  obtain ⟨v,h1,h2⟩:=hk
  exact fin v (by unfold a4E;rw [hg];exact ⟨v,h1,rfl⟩) h2
 ·rename_i j want hg
  unfold agd at hk
  split at hk
  ·rename_i d hd
   split at hk
   ·rename_i b hb
    by_cases hw:b=want
    ·subst hw
     have:=hk.1 rfl
     rw [a22 hb] at this
     obtain ⟨v,h1,h2⟩:=this
     refine fin v ?_ h2
     unfold a4E
     rw [hg]
     simp only
     unfold agd
     rw [hd]
     simp only
     rw [hb]
     simp only
     refine ⟨fun _=>?_,fun e=>by cases b<;>cases e⟩
     rw [a22 hb]
     exact ⟨v,h1,rfl⟩
    ·have hb':b=!want:=by cases b<;>cases want<;>simp at hw ⊢
     have:=hk.2 hb'
     rw [a22 (by rw [hb,hb'])] at this
     refine fin (.c (.raw undef)) ?_ this
     unfold a4E
     rw [hg]
     simp only
     unfold agd
     rw [hd]
     simp only
     rw [hb]
     simp only
     refine ⟨fun e=>(hw e).elim,fun _=>?_⟩
     rw [a22 (by rw [hb,hb'])]
   ·rename_i vs hb
    refine fin (.c (.raw undef)) ?_ hk
    unfold a4E
    rw [hg]
    simp only
    unfold agd
    rw [hd]
    simp only
    rw [hb]
    exact True.intro
   ·exact hk.elim
  ·exact hk.elim
def upN:List (Id×OK)->Id->Option OK
 |[],_=>none
 |(i,o)::r,id=>match upN r id with
  |some ob=>some ob
  |none=>if id=i then some o else none
theorem b0Y:∀(us:List (Id×OK)) (H:Heap),upH H us=fun id=>(upN us id).getD (H id)
 |[],H=>rfl
 |(i,o)::r,H=>by
  funext id
  rw [upH,b0Y r]
  simp only [upN]
  cases upN r id with
  |some ob=>rfl
  |none=>
   by_cases e:id=i
   ·simp [hset,e]
   ·simp [hset,e]
theorem a5r:∀{us:List (Id×OK)} {id:Id} {ob:OK},upN us id=some ob->(id,ob)∈us
 |(i,o)::r,id,ob,h=>by
  simp only [upN] at h
  cases hr:upN r id with
  |some ob'=>
   rw [hr] at h
   cases h
   exact List.mem_cons_of_mem _ (a5r hr)
  |none=>
   rw [hr] at h
   simp only at h
   split at h
   ·rename_i e
    cases h
    rw [e]
    exact List.mem_cons_self
   ·cases h
theorem b4Z {ops:Array Oper} {o:Oper} {A:St} {K:List Id->St->Prop} (hk:a5p P o A K):∃e W,a6J P ops false true W o A e/\K W (e.app o.dst A):=by
 have hk0:=hk
 unfold a5p at hk
 split at hk
 ·rename_i c hg hop
  split at hk
  ·rename_i f hf
   split at hk
   ·rename_i g caps hv
    obtain ⟨hh,C',us,ret,m1,m2,m3,m4,⟨m5,m6⟩,m7⟩:=hk
    obtain ⟨callee,args,ts⟩:=c
    simp only at hf
    subst hf
    have hops:o.op.operands.toList=f::args.toList:=by rw [hop];simp [Op.operands,Call.operands]
    obtain ⟨d,hd⟩:=Option.isSome_iff_exists.1 m6
    have named:∀id,(∃v∈(args.toList.map A.eval++caps.map .c),idV id v)->∃x∈o.op.operands.toList,idV id (A.eval x):=fun id ⟨v,hv',hi⟩=>by
     rw [List.mem_append] at hv'
     rcases hv' with hv'|hv'
     ·rw [List.mem_map] at hv'
      obtain ⟨y,hy,rfl⟩:=hv'
      exact ⟨y,by rw [hops];simp [hy],hi⟩
     ·rw [List.mem_map] at hv'
      obtain ⟨c,hc,rfl⟩:=hv'
      obtain ⟨c',hc',hi⟩:=hi
      simp only [AV.flat,List.mem_singleton] at hc'
      subst hc'
      exact ⟨f,by rw [hops];simp,.fn g caps,by rw [hv];simp [AV.flat],.fn g caps _ hc hi⟩
    have happ:∀(B:St),B.T=A.T->(⟨ret.ad (a1P A o.dst),fun id=>match adN (a1P A o.dst) 0 ret.flat id with|some ob=>some ob|none=>upN us id⟩:Eff).app o.dst B=a9u B o.dst us ret:=fun B hT=>by
     have hnm:a1P B o.dst=a1P A o.dst:=by unfold a1P;rw [hT]
     unfold a9u
     rw [hnm]
     simp only [Eff.app]
     rw [hd]
     simp only [St.put,St.mk.injEq,true_and,and_true]
     funext id
     rw [b0T,b0Y]
     show _=(adN (a1P A (some d)) 0 ret.flat id).getD ((upN us id).getD (B.H id))
     cases adN (a1P A (some d)) 0 ret.flat id<;>rfl
    refine ⟨_,us.map (·.1),⟨(fun h=>by rw [hop] at h;cases h),(fun id ob h=>?_),(fun B _ hb _ hun=>?_)⟩,by rw [happ A rfl];exact m7⟩
    ·simp only at h
     cases h1:adN (a1P A o.dst) 0 ret.flat id with
     |some ob'=>
      rw [h1] at h
      cases h
      obtain ⟨g1,i,g2,g3,g4⟩:=a8w h1
      exact ⟨g1,.inl ⟨⟨d,hd,by rw [g4];rfl,.inr ⟨i,by omega,by rw [g4];simp [a1P,hd]⟩⟩,a4Z m4 h1⟩⟩
     |none=>
      rw [h1] at h
      have hm:=a5r h
      obtain ⟨u1,u2,u3⟩:=m1.ups m2 _ hm
      exact ⟨u1,.inr ⟨.inr ⟨List.mem_map.2 ⟨_,hm,rfl⟩,named id u3⟩,u2⟩⟩
    ·have hT:B.T=A.T:=hb.1
     have hnm:a1P B o.dst=a1P A o.dst:=by unfold a1P;rw [hT]
     have hmap:args.toList.map B.eval=args.toList.map A.eval:=List.map_congr_left fun y hy=>hb.2.1 y (by rw [hops];simp [hy])
     have hfB:B.eval f=.c (.fn g caps):=by rw [hb.2.1 f (by rw [hops];simp)];exact hv
     have hl:hh B.H (args.toList.map A.eval++caps.map .c)=some (C',us,ret):=m1.loc m2 fun id hid hu=>by
      obtain ⟨x,hx,hi⟩:=named id hid
      exact hb.2.2 (by rw [hop];rfl) x hx id hi hu
     unfold a5P
     rw [if_neg (by simp),if_pos rfl]
     unfold a5p
     rw [hg,hop]
     simp only
     rw [hfB]
     simp only
     rw [hmap]
     refine ⟨hh,C',us,ret,m1,hl,m3,?_,⟨m5,m6⟩,?_⟩
     ·rw [hnm]
      exact b0U fun id hid=>hun id (by
       simp only
       cases h:adN (a1P A o.dst) 0 ret.flat id with
       |none=>exact (hid h).elim
       |some ob=>simp) (by
       cases h:adN (a1P A o.dst) 0 ret.flat id with
       |none=>exact (hid h).elim
       |some ob=>exact a4Z m4 h)
     ·exact (happ B hT).symm
   ·exact hk.elim
  ·exact hk.elim
 ·rename_i t x v hg hop
  split at hk
  ·rename_i id i j h1
   have hx:x∈o.op.operands.toList:=by rw [hop];simp [Op.operands]
   have hv:v∈o.op.operands.toList:=by rw [hop];simp [Op.operands]
   simp only [aop,h1] at hk
   split at hk
   ·rename_i id' i' j' cs heq hcs
    cases heq
    split at hk
    ·rename_i e sz rows h2
     split at hk
     ·rename_i row h3
      obtain ⟨⟨g1,g2,g3,g4⟩,hk⟩:=hk
      have hid:idV id (A.eval x):=⟨.pt id i j,by rw [h1];simp [AV.flat],by constructor⟩
      refine ⟨a2p (.c (.raw undef)) id (.arr e sz false (rows.set i (lay row j cs))),[id],⟨(fun h=>by rw [hop] at h;cases h),(fun id' ob h=>?_),(fun B _ hb _ hun=>?_)⟩,by rw [a04];exact hk⟩
      ·simp only [a2p] at h
       split at h
       ·rename_i e'
        cases h
        subst e'
        exact ⟨by simp,.inr ⟨.inr ⟨by simp,x,hx,hid⟩,by rw [h2];simp⟩⟩
       ·cases h
      ·have e1:B.eval x=.c (.pt id i j):=by rw [hb.2.1 x hx];exact h1
       have e2:B.eval v=A.eval v:=hb.2.1 v hv
       have e3:B.H id=.arr e sz false rows:=by rw [hb.2.2 (by rw [hop];rfl) x hx id hid (by rw [h2];simp)];exact h2
       unfold a5P
       rw [if_neg (by simp),if_pos rfl]
       unfold a5p
       rw [hg,hop]
       simp only
       rw [e1]
       simp only [aop]
       rw [e1,e2,hcs]
       simp only
       rw [e3]
       simp only [h3]
       refine ⟨⟨g1,g2,a3m g3 fun id ⟨c,hc,hi⟩ hu=>hb.2.2 (by rw [hop];rfl) v hv id ⟨c,by rw [a3n hcs];exact hc,hi⟩ hu,g4⟩,?_⟩
       rw [a04]
     ·exact hk.elim
    ·exact hk.elim
   ·exact hk.elim
  ·exact hk.elim
 ·exact hk.elim
theorem a9J {ops:Array Oper} {o:Oper} {A:St} {K:St->Prop} (hk:a4W P ops o A K):∃e,a6J P ops false false [] o A e/\K (e.app o.dst A):=by
 unfold a4W at hk
 split at hk
 ·rename_i hg
  obtain ⟨e,h1,h2,h3,h4⟩:=a9G hk
  exact ⟨e,⟨h2,fun id ob h=>⟨(h3 id ob h).1,(h3 id ob h).2.imp_right fun q=>⟨.inl ⟨rfl,q.1⟩,q.2.1⟩⟩,fun B _ hb _ hf=>by rw [a6d];unfold a4W;rw [hg];exact h4 B hb hf⟩,h1⟩
 ·rename_i j want hg
  unfold agd at hk
  split at hk
  ·rename_i d hd
   split at hk
   ·rename_i b hb
    by_cases hw:b=want
    ·subst hw
     have:=hk.1 rfl
     rw [a22 hb] at this
     obtain ⟨e,h1,h2,h3,h4⟩:=a9G this
     refine ⟨e,⟨h2,fun id ob h=>⟨(h3 id ob h).1,(h3 id ob h).2.imp_right fun q=>⟨.inl ⟨rfl,q.1⟩,q.2.1⟩⟩,fun B _ hb' hgs hf=>?_⟩,h1⟩
     have hB:=(hgs j b d hg hd).trans hb
     rw [a6d]
     unfold a4W
     rw [hg]
     simp only
     unfold agd
     rw [hd]
     simp only
     rw [hB]
     simp only
     refine ⟨fun _=>?_,fun e=>by cases b<;>cases e⟩
     rw [a22 hB]
     exact h4 B hb' hf
    ·have hb':b=!want:=by cases b<;>cases want<;>simp at hw ⊢
     have:=hk.2 hb'
     rw [a22 (by rw [hb,hb'])] at this
     refine ⟨a6D (.c (.raw undef)),⟨fun _ _=>rfl,fun id ob h=>by simp [a6D] at h,fun B _ _ hgs _=>?_⟩,by rw [a2q];exact this⟩
     have hB:=(hgs j want d hg hd).trans hb
     rw [a6d]
     unfold a4W
     rw [hg]
     simp only
     unfold agd
     rw [hd]
     simp only
     rw [hB]
     simp only
     refine ⟨fun e=>(hw e).elim,fun _=>?_⟩
     rw [a22 (by rw [hB,hb']),a2q]
   ·rename_i vs hb
    refine ⟨a6D (.c (.raw undef)),⟨fun _ _=>rfl,fun id ob h=>by simp [a6D] at h,fun B _ _ hgs _=>?_⟩,by rw [a2q];exact hk⟩
    have hB:=(hgs j want d hg hd).trans hb
    rw [a6d]
    unfold a4W
    rw [hg]
    simp only
    unfold agd
    rw [hd]
    simp only
    rw [hB]
    simp only
    rw [a2q]
   ·exact hk.elim
  ·exact hk.elim
section
variable (dst:Nat->Option Nat) (E:Nat->Eff) (st:St)
def replay (S:Nat->Bool):Nat->St
 |0=>st
 |j+1=>if S j=true then (E j).app (dst j) (replay S j) else replay S j
variable {dst E st}
theorem c8B (e:Eff) (d:Option Nat) (A:St):(e.app d A).T=A.T:=rfl
theorem b40 (e:Eff) (d:Option Nat) (A:St) (id:Id):(e.app d A).H id=(e.N id).getD (A.H id):=rfl
theorem b7r (e:Eff) (d:Option Nat) (A:St) (t:Nat):(e.app d A).s t=if d=some t then e.v else A.s t:=by
 cases d with
 |none=>simp [Eff.app,St.put]
 |some d=>
  simp only [Eff.app,St.put,upd,Option.some.injEq]
  by_cases h:t=d
  ·subst h;simp
  ·have h':¬d=t:=fun e=>h e.symm
   simp [h,h']
theorem a42 (S:Nat->Bool):∀m,(replay dst E st S m).T=st.T
 |0=>rfl
 |m+1=>by
  unfold replay
  split
  ·rw [c8B];exact a42 S m
  ·exact a42 S m
theorem a2j {S:Nat->Bool} {t:Nat}:∀{m},(∀j,j<m->S j=true->dst j≠some t)->(replay dst E st S m).s t=st.s t
 |0,_=>rfl
 |m+1,h=>by
  unfold replay
  split
  ·rename_i hs
   rw [b7r,if_neg (h m (Nat.lt_succ_self m) hs)]
   exact a2j fun j hj=>h j (by omega)
  ·exact a2j fun j hj=>h j (by omega)
theorem a4d {S:Nat->Bool} {t j:Nat}:∀{m},j<m->S j=true->dst j=some t->(∀k,k<m->k≠j->dst k≠some t)->(replay dst E st S m).s t=(E j).v
 |0,h,_,_,_=>by omega
 |m+1,h,hs,hd,hu=>by
  unfold replay
  by_cases hm:j=m
  ·subst hm
   rw [if_pos hs,b7r,if_pos hd]
  ·have hlt:j<m:=by omega
   split
   ·rw [b7r,if_neg (hu m (Nat.lt_succ_self m) (fun e=>hm e.symm))]
    exact a4d hlt hs hd fun k hk=>hu k (by omega)
   ·exact a4d hlt hs hd fun k hk=>hu k (by omega)
theorem a6K {S S':Nat->Bool} {id:Id}:∀{m},(∀j,j<m->(E j).N id≠none->S j=S' j)->(replay dst E st S m).H id=(replay dst E st S' m).H id
 |0,_=>rfl
 |m+1,h=>by
  have ih:=a6K (m:=m) fun j hj=>h j (by omega)
  by_cases hn:(E m).N id=none
  ·unfold replay
   split<;>split<;>(try simp only [b40,hn,Option.getD_none])<;>exact ih
  ·unfold replay
   rw [h m (Nat.lt_succ_self m) hn]
   split
   ·simp only [b40,ih]
   ·exact ih
theorem a05 {S:Nat->Bool} {id:Id}:∀{m},(∀j,j<m->S j=true->(E j).N id=none)->(replay dst E st S m).H id=st.H id
 |0,_=>rfl
 |m+1,h=>by
  unfold replay
  split
  ·rename_i hs
   rw [b40,h m (Nat.lt_succ_self m) hs]
   exact a05 fun j hj=>h j (by omega)
  ·exact a05 fun j hj=>h j (by omega)
theorem a1W {S S':Nat->Bool}:∀{m},(∀j,j<m->S j=S' j)->replay dst E st S m=replay dst E st S' m
 |0,_=>rfl
 |m+1,h=>by
  unfold replay
  rw [h m (Nat.lt_succ_self m),a1W fun j hj=>h j (by omega)]
theorem c2h {A B:St} (h1:∀t,A.s t=B.s t) (h2:∀id,A.H id=B.H id) (h3:A.T=B.T) (h4:A.n=B.n:=by rfl):A=B:=by
 cases A;cases B
 simp only [St.mk.injEq]
 exact ⟨funext h1,funext h2,h3,h4⟩
theorem b7s {e f:Eff} {d d':Option Nat} {A:St} (hd:∀t,d=some t->d'≠some t) (hN:∀id,e.N id≠none->f.N id=none):f.app d' (e.app d A)=e.app d (f.app d' A):=by
 refine c2h (fun t=>?_) (fun id=>?_) rfl
 ·simp only [b7r]
  by_cases h:d=some t
  ·rw [if_neg (hd t h),if_pos h,if_pos h]
  ·simp only [if_neg h]
 ·simp only [b40]
  cases h:e.N id with
  |none=>rfl
  |some ob=>rw [hN id (by rw [h];simp)];rfl
theorem a43 {S S':Nat->Bool} {i:Nat} (hi:S i=false) (hS':∀j,S' j=(S j||decide (j=i))) (hd:∀k t,k≠i->dst i=some t->dst k≠some t)
  (hN:∀k,i<k->S k=true->∀id,(E i).N id≠none->(E k).N id=none):∀{m},i<m->replay dst E st S' m=(E i).app (dst i) (replay dst E st S m)
 |0,h=>by omega
 |m+1,h=>by
  by_cases hm:i=m
  ·subst hm
   have h1:S' i=true:=by rw [hS'];simp
   unfold replay
   rw [if_pos h1,hi]
   simp only [Bool.false_eq_true,if_false]
   rw [a1W (S:=S') (S':=S)]
   intro j hj
   rw [hS']
   have:¬j=i:=by omega
   simp [this]
  ·have hlt:i<m:=by omega
   have ih:=a43 hi hS' hd hN hlt
   have h1:S' m=S m:=by
    rw [hS']
    have:¬m=i:=fun e=>hm e.symm
    simp [this]
   unfold replay
   rw [h1,ih]
   split
   ·rename_i hs
    exact b7s (fun t=>hd m t (fun e=>hm e.symm)) (hN m hlt hs)
   ·rfl
end
open Go
variable {P:Program}
inductive Anc (ops:Array Oper):Nat->Nat->Prop where
 |one {j:Nat} {o:Oper} {e:Edge} (ho:ops[j]?=some o) (he:e∈o.after) (hb:Region.binds .any e=true):Anc ops j e.on
 |more {j k:Nat} {o:Oper} {e:Edge} (ho:ops[j]?=some o) (he:e∈o.after) (hb:Region.binds .any e=true) (h:Anc ops e.on k):Anc ops j k
theorem a3U {ops:Array Oper} {tab:List Nat} (ht:∀j k,(tab.getD j 0).testBit k=true->Anc ops j k) {j:Nat} {o:Oper} (ho:ops[j]?=some o) :
  ∀(l:List Edge),(∀e∈l,e∈o.after)->∀k,(a4b tab l).testBit k=true->Anc ops j k
 |[],_,k,h=>by simp [a4b] at h
 |e::r,hl,k,h=>by
  unfold a4b at h
  split at h
  ·rename_i hb
   rw [Nat.testBit_or,Nat.testBit_or,Bool.or_eq_true,Bool.or_eq_true] at h
   rcases h with h|h|h
   ·rw [Nat.one_shiftLeft,Nat.testBit_two_pow] at h
    have:e.on=k:=by simpa using h
    subst this
    exact .one ho (hl e (by simp)) hb
   ·exact .more ho (hl e (by simp)) hb (ht _ _ h)
   ·exact a3U ht ho r (fun e he=>hl e (by simp [he])) k h
  ·exact a3U ht ho r (fun e he=>hl e (by simp [he])) k h
theorem a45 {ops:Array Oper}:∀(l:List Oper) (tab:List Nat),(∀j k,(tab.getD j 0).testBit k=true->Anc ops j k)->(∀i,l[i]?=ops[tab.length+i]?)->
  ∀j k,((b0L tab l).getD j 0).testBit k=true->Anc ops j k
 |[],tab,ht,_,j,k,h=>ht j k h
 |o::r,tab,ht,hl,j,k,h=>by
  refine a45 r _ (fun j k h=>?_) (fun i=>?_) j k h
  ·rw [List.getD_eq_getElem?_getD,List.getElem?_append] at h
   split at h
   ·exact ht j k (by rw [List.getD_eq_getElem?_getD];exact h)
   ·rename_i hj
    have h0:=hl 0
    rw [List.getElem?_cons_zero] at h0
    by_cases e:j=tab.length
    ·subst e
     simp only [Nat.sub_self,List.getElem?_cons_zero,Option.getD_some] at h
     exact a3U ht (by simpa using h0.symm) _ (fun e he=>by simpa using he) k h
    ·rw [List.getElem?_eq_none (by simp only [List.length_cons,List.length_nil];omega)] at h
     simp at h
  ·have:=hl (i+1)
   rw [List.getElem?_cons_succ] at this
   rw [this,List.length_append]
   simp only [List.length_cons,List.length_nil]
   congr 1
   omega
structure OpI where
 dst:Option Nat
 looks:List Nat
def opI (ops:Array Oper) (o:Oper):OpI:=⟨o.dst,o.looksAt ops⟩
def b2K (tab:List Nat) (x:OpI×Nat) (y:OpI×Nat):Bool:=
 x.2==y.2||
 (match y.1.dst with
  |some d=>x.1.dst != some d&&(!(x.1.looks.contains d)||(tab.getD x.2 0).testBit y.2||(tab.getD y.2 0).testBit x.2)
  |none=>true)
def b41 (ops:Array Oper):Bool:=ops.toList.zipIdx.all fun q=>q.1.after.toList.all fun e=>!Region.binds .any e||decide (e.on<q.2)
def a0q (ops:Array Oper):Bool:=
 b41 ops&&ops.toList.all (fun o=>match o.dst with|some d=>decide (d<1024)|none=>true)&&
 (let tab:=b0L [] ops.toList;let l:=(ops.toList.map (opI ops)).zipIdx;l.all fun x=>l.all fun y=>b2K tab x y)
structure b9R (ops:Array Oper):Prop where
 lt:∀(j:Nat) (o:Oper) (e:Edge),ops[j]?=some o->e∈o.after->Region.binds .any e=true->e.on<j
 small:∀(j:Nat) (o:Oper) (d:Nat),ops[j]?=some o->o.dst=some d->d<1024
 dst:∀(j k:Nat) (o o':Oper) (d:Nat),ops[j]?=some o->ops[k]?=some o'->j≠k->o'.dst=some d->o.dst≠some d
 look:∀(j k:Nat) (o o':Oper) (d:Nat),ops[j]?=some o->ops[k]?=some o'->j≠k->o'.dst=some d->d∈o.looksAt ops->Anc ops j k\/Anc ops k j
theorem b9S {ops:Array Oper} (h:a0q ops=true):b9R ops:=by
 unfold a0q at h
 rw [Bool.and_eq_true,Bool.and_eq_true] at h
 obtain ⟨⟨h1,h2⟩,h3⟩:=h
 have b9E:∀j k,((b0L [] ops.toList).getD j 0).testBit k=true->Anc ops j k:=a45 ops.toList [] (fun j k h=>by simp at h) (fun i=>by simp)
 have hp:∀j k o o',ops[j]?=some o->ops[k]?=some o'->b2K (b0L [] ops.toList) (opI ops o,j) (opI ops o',k)=true:=fun j k o o' hj hk=>by
  simp only [List.all_eq_true] at h3
  refine h3 _ ?_ _ ?_
  ·rw [List.mem_zipIdx_iff_getElem?];simp [hj]
  ·rw [List.mem_zipIdx_iff_getElem?];simp [hk]
 refine ⟨fun j o e hj he hb=>?_,fun j o d hj hd=>?_,fun j k o o' d hj hk hne hd=>?_,fun j k o o' d hj hk hne hd hl=>?_⟩
 ·unfold b41 at h1
  rw [List.all_eq_true] at h1
  have:=h1 (o,j) (by rw [List.mem_zipIdx_iff_getElem?];simpa using hj)
  rw [List.all_eq_true] at this
  have:=this e (by simpa using he)
  simpa [hb] using this
 ·rw [List.all_eq_true] at h2
  have:=h2 o (by simpa using Array.mem_of_getElem? hj)
  simpa [hd] using this
 ·have:=hp j k o o' hj hk
  unfold b2K at this
  simp only [opI,hd,Bool.or_eq_true,beq_iff_eq,Bool.and_eq_true,bne_iff_ne] at this
  rcases this with h|h
  ·exact (hne h).elim
  ·exact h.1
 ·have:=hp j k o o' hj hk
  unfold b2K at this
  simp only [opI,hd,Bool.or_eq_true,beq_iff_eq,Bool.and_eq_true,bne_iff_ne] at this
  rcases this with h|h
  ·exact (hne h).elim
  ·rcases h.2 with (h|h)|h
   ·simp [hl] at h
   ·exact .inl (b9E _ _ h)
   ·exact .inr (b9E _ _ h)
theorem Anc.lt {ops:Array Oper} (hc:b9R ops) {j k:Nat} (h:Anc ops j k):k<j:=by
 induction h with
 |one ho he hb=>exact hc.lt _ _ _ ho he hb
 |more ho he hb _ ih=>exact Nat.lt_trans ih (hc.lt _ _ _ ho he hb)
def Closed (ops:Array Oper) (S:Nat->Bool):Prop:=∀j o e,S j=true->ops[j]?=some o->e∈o.after->Region.binds .any e=true->S e.on=true
theorem Anc.mem {ops:Array Oper} {S:Nat->Bool} (hc:Closed ops S) {j k:Nat} (h:Anc ops j k) (hj:∀o e,ops[j]?=some o->e∈o.after->Region.binds .any e=true->S e.on=true):S k=true:=by
 induction h with
 |one ho he hb=>exact hj _ _ ho he hb
 |more ho he hb _ ih=>exact ih fun o' e' ho' he' hb'=>hc _ _ _ (hj _ _ ho he hb) ho' he' hb'
theorem a0C.born {w:World} {F:Tag->Nat->Prop} {H:Heap} {ρ:Lies} {c:AC} {v:Value} (h:a0C w F H ρ c v) {id:Id} (hi:idC id c):H id≠.a0b:=by
 induction hi generalizing v with
 |so off len=>cases h with|so _ _ _ _ hk _=>exact hk
 |pt i j=>cases h with|pt _ _ _ _ hk _=>exact hk
 |mr=>cases h with|mr _ _ hk _=>exact hk
 |fn f caps c hc _ ih=>
  cases h with
  |fn _ _ vs hl h=>
   obtain ⟨k,hk⟩:=List.getElem?_of_mem hc
   exact ih (h k c hk)
theorem a9K {c:AC}:∀{l:List (Bool×List AC)},c∈a2C l->∃b cs,(b,cs)∈l/\c∈cs
 |[],h=>by simp [a2C] at h
 |(b,cs)::r,h=>by
  simp only [a2C,List.mem_append] at h
  rcases h with h|h
  ·exact ⟨b,cs,by simp,h⟩
  ·obtain ⟨b',cs',h1,h2⟩:=a9K h
   exact ⟨b',cs',by simp [h1],h2⟩
theorem a2f.born {w:World} {F:Tag->Nat->Prop} {H:Heap} {ρ:Lies} {x:AV} {v:Value} (h:a2f w F H ρ x v) {id:Id} (hi:idV id x):H id≠.a0b:=by
 obtain ⟨c,hc,hi⟩:=hi
 cases h with
 |c y v h=>simp only [AV.flat,List.mem_singleton] at hc;subst hc;exact h.born hi
 |g xs vs hl h=>
  obtain ⟨k,hk⟩:=List.getElem?_of_mem hc
  exact (h k c hk).born hi
 |t xs vs hl h=>
  obtain ⟨b,cs,h1,h2⟩:=a9K hc
  obtain ⟨k,hk⟩:=List.getElem?_of_mem h1
  have hp:=h k b cs hk
  generalize vs.getD k undef=u at hp
  cases hp with
  |c y v h=>simp only [List.mem_singleton] at h2;subst h2;exact h.born hi
  |g xs vs hl h=>
   obtain ⟨k,hk⟩:=List.getElem?_of_mem h2
   exact (h k c hk).born hi
theorem b42 {ops:Array Oper} {o:Oper} {t:Nat} (h:Operand.tmp t∈o.op.operands.toList):t∈o.looksAt ops:=by
 unfold Oper.looksAt
 rw [List.mem_append]
 left
 rw [List.mem_filterMap]
 exact ⟨.tmp t,h,rfl⟩
theorem b0Z {ops:Array Oper} {o:Oper} {j d:Nat} {want:Bool} (hg:o.guard=some (j,want)) (hd:a6z ops j=some d):d∈o.looksAt ops:=by
 unfold Oper.looksAt
 rw [List.mem_append]
 right
 rw [hg]
 unfold a6z at hd
 simp [hd]
theorem b7t {d d':Option Nat} {T:Nat} {id:Id} (h:b0P d T id) (h':b0P d' T id) (hs:∀n,d=some n->n<1024) (hs':∀n,d'=some n->n<1024):d=d':=by
 obtain ⟨n,h1,_,h2⟩:=h
 obtain ⟨n',h1',_,h2'⟩:=h'
 have:=hs n h1
 have:=hs' n' h1'
 subst h1 h1'
 congr 1
 rcases h2 with h2|⟨k,hk,h2⟩<;>rcases h2' with h2'|⟨k',hk',h2'⟩<;>omega
end Go.AE
