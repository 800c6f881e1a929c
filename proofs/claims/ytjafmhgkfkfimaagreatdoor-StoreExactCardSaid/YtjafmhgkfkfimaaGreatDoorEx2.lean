/- Slim code computed from the program's own. -/
import Derived.Test.YtjafmhgkfkfimaaGreatDoorEx1
set_option linter.unusedVariables false
set_option linter.unusedSimpArgs false
namespace Go.AE
open Go
variable {P:Program} {C:Ctx P} {ρ:Lies} {st:St} {a:Act} {w:World}
theorem nmOf_inj (st:St) (dst:Option Nat):∀i j,nmOf st dst i=nmOf st dst j→i=j:=fun i j h=>by
 simp only [nmOf,Prod.mk.injEq,true_and] at h
 omega
theorem adL_get (nm:Nat→Id):∀(cs:List AC) (k:Nat),(adL nm k cs).length=cs.length∧∀(j:Nat),(adL nm k cs)[j]?=(cs[j]?).map (adC nm (k+j))
 |[],k=>by simp [adL]
 |c::cs,k=>by
  obtain ⟨h1,h2⟩:=adL_get nm cs (k+1)
  refine ⟨by simp [adL,h1],fun j=>?_⟩
  cases j with
  |zero=>simp [adL]
  |succ j=>simp only [adL,List.getElem?_cons_succ,h2];congr 2;omega
theorem adT_get (nm:Nat→Id):∀(ps:List (Bool×List AC)) (k:Nat),(adT nm k ps).length=ps.length∧
  ∀(j:Nat) b cs,(adT nm k ps)[j]?=some (b,cs)→∃k' cs',ps[j]?=some (b,cs')∧cs=adL nm (k+k') cs'∧∀(i:Nat) c,cs'[i]?=some c→(flatT ps)[k'+i]?=some c
 |[],k=>by simp [adT]
 |(b0,cs0)::ps,k=>by
  obtain ⟨h1,h2⟩:=adT_get nm ps (k+cs0.length)
  refine ⟨by simp [adT,h1],fun j b cs hj=>?_⟩
  cases j with
  |zero=>
   simp [adT] at hj
   obtain ⟨rfl,rfl⟩:=hj
   exact ⟨0,cs0,rfl,rfl,fun i c hi=>by
    simp only [flatT,Nat.zero_add]
    rw [List.getElem?_append_left (List.getElem?_eq_some_iff.1 hi).1];exact hi⟩
  |succ j=>
   simp only [adT,List.getElem?_cons_succ] at hj
   obtain ⟨k',cs',g1,g2,g3⟩:=h2 j b cs hj
   exact ⟨cs0.length+k',cs',by simpa using g1,by rw [g2,Nat.add_assoc],fun i c hi=>by
    simp only [flatT]
    rw [List.getElem?_append_right (by omega),show cs0.length+k'+i-cs0.length=k'+i from by omega]
    exact g3 i c hi⟩
theorem vok_sl' {t:Tag} {cl:Bool} {xs:List (List AC)} (h:VOK (.sl t cl xs)):∀r∈xs,∀c∈r,OldOK c:=h
theorem promC_ok {x y:AC} (h:∀t cl xs,x=.sl t cl xs→y=.sl .brw false xs) (ok:VOK (promC x y)):VOK y:=by
 cases x with
 |sl t cl xs=>
  have:=h t cl xs rfl
  subst this
  cases t<;>exact ok
 |_=>exact ok
theorem pure_sound (h:Rel C ρ st a w) {f:FuncId} {args args':List AV} {ret:AV} {dst:Option Nat} {m:Bool} (hv:viewA st.H args=some args') (hp:PEv P f (promA m args args') ret)
  (hun:adUn (nmOf st dst) st.H 0 ret.flat) {vs:Array Value} (hvs:vs.size=args.length)
  (hrel:∀(k:Nat) x,args[k]?=some x→RelV w (Fr C st.H ρ) st.H ρ x (vs.getD k undef)) :
  Calls P f vs w fun e w'=>∃v,e=.returned v∧∃ρ',RelH C (adH (nmOf st dst) 0 ret.flat st.H) ρ' w'∧
   Keeps w w' (Fr C st.H ρ) (Fr C (adH (nmOf st dst) 0 ret.flat st.H) ρ') st.H (adH (nmOf st dst) 0 ret.flat st.H) ρ ρ'∧
   RelV w' (Fr C (adH (nmOf st dst) 0 ret.flat st.H) ρ') (adH (nmOf st dst) 0 ret.flat st.H) ρ' (ret.ad (nmOf st dst)) v:=by
 obtain ⟨⟨_,hret,hok⟩,hcall⟩:=hp
 generalize hnm:nmOf st dst=nm at *
 have inj:∀i j,nm i=nm j→i=j:=by rw [←hnm];exact nmOf_inj st dst
 let G:Tag→Nat→Prop:=fun t b=>t=.brw∨Fr C st.H ρ .old b∨Fr C st.H ρ .new b
 have nomut:∀b,¬Mut noHeap noLies b:=fun b ⟨_,_,_,_,_,_,h,_⟩=>by cases h
 have hle:=h.le
 have hI:Inv P w:=h.heap.inv
 have frG:∀t b,(w.heap.size≤b∨(t≠.new∧G t b))→Fr (Ctx.of w hI G) noHeap noLies t b:=fun t b q=>⟨q,nomut b⟩
 obtain ⟨l1,l2⟩:=viewA_get hv
 have hargs0:∀(k:Nat) y,args'[k]?=some y→(∀c∈y.flat,VOK c)→RelV w (Fr (Ctx.of w hI G) noHeap noLies) noHeap noLies y (vs.getD k undef):=fun k y hk hoky=>by
  obtain ⟨x,hx,hvx⟩:=l2 k y hk
  have hxr:=hrel k x hx
  exact viewV_rel (F:=Fr C st.H ρ) h.heap rfl (fun t b hf=>frG _ _ (.inr ⟨by simp,.inl rfl⟩)) (fun b hf=>frG _ _ (.inr ⟨by simp,.inr (.inl hf)⟩)) (fun b hb=>frG _ _ (.inr ⟨by simp,.inl rfl⟩)) hxr hvx hoky
 have promR:∀(x y:AC) (u:Value),RelC w (Fr C st.H ρ) st.H ρ x u→(VOK y→RelC w (Fr (Ctx.of w hI G) noHeap noLies) noHeap noLies y u)→VOK (promC x y)→RelC w (Fr (Ctx.of w hI G) noHeap noLies) noHeap noLies (promC x y) u:=fun x y u hx hy ok=>by
  have go:∀(t:Tag) cl xs,x=.sl t cl xs→t=.old∨t=.new→VOK (.sl .old false xs)→RelC w (Fr (Ctx.of w hI G) noHeap noLies) noHeap noLies (.sl .old false xs) u:=fun t cl xs hxx ht okg=>by
   subst hxx
   cases hx with
   |slNil _ _ _ hn=>exact .slNil _ _ _ hn
   |sl _ _ _ b o cap sz vs hb hf hcap hcl hr hcell hone hrel=>
    refine .sl _ _ xs b o cap sz vs hb ?_ hcap (fun e=>by cases e) hr hcell hone fun i j r c hi hj=>
     (hrel i j r c hi hj).old ((vok_sl' okg) r (List.mem_of_getElem? hi) c (List.mem_of_getElem? hj)) (fun b hf=>frG _ _ (.inr ⟨by simp,.inr (.inl hf)⟩))
    refine frG _ _ (.inr ⟨by simp,.inr ?_⟩)
    rcases ht with rfl|rfl
    ·exact .inl hf
    ·exact .inr hf
  cases x with
  |sl t cl xs=>
   cases t with
   |old=>exact go _ cl xs rfl (.inl rfl) ok
   |new=>exact go _ cl xs rfl (.inr rfl) ok
   |brw=>exact hy ok
  |_=>exact hy ok
 have lp:(promA m args args').length=args'.length:=by
  unfold promA;split
  ·simp;omega
  ·rfl
 have hargs:∀(k:Nat) x,(promA m args args')[k]?=some x→RelV w (Fr (Ctx.of w hI G) noHeap noLies) noHeap noLies x (vs.getD k undef):=fun k y' hk=>by
  have hoky:=hok y' (List.mem_of_getElem? hk)
  unfold promA at hk
  split at hk
  ·rw [List.getElem?_zipWith] at hk
   cases hx:args[k]? with
   |none=>rw [hx] at hk;simp at hk
   |some x=>
    cases hy:args'[k]? with
    |none=>rw [hx,hy] at hk;simp at hk
    |some y=>
     rw [hx,hy] at hk
     simp only [Option.some.injEq] at hk
     subst hk
     have hxr:=hrel k x hx
     obtain ⟨x',hx',hvx⟩:=l2 k y hy
     rw [hx] at hx'
     cases hx'
     have h0:=hargs0 k y hy
     generalize vs.getD k undef=u at hxr h0
     cases x with
     |t ps=>simp [viewV] at hvx
     |c a=>
      cases y with
      |c b=>
       have okp:VOK (promC a b):=hoky _ (by simp [promV,AV.flat])
       have okb:VOK b:=promC_ok (fun t cl xs e=>by subst e;simpa [viewV,viewP,viewC] using hvx.symm) okp
       exact .c _ _ (promR a b u (relV_c hxr) (fun _=>relV_c (h0 (by simpa [AV.flat] using okb))) okp)
      |g ys=>simp only [promV] at hoky ⊢;exact h0 hoky
      |t ps=>simp only [promV] at hoky ⊢;exact h0 hoky
     |g xs=>
      cases y with
      |c b=>simp only [promV] at hoky ⊢;exact h0 hoky
      |t ps=>simp only [promV] at hoky ⊢;exact h0 hoky
      |g ys=>
       simp only [viewV,Option.map_eq_some_iff] at hvx
       obtain ⟨zs,hz,hzy⟩:=hvx
       cases hzy
       obtain ⟨g1,g2⟩:=viewL_get hz
       have okz:∀c∈ys,VOK c:=fun c hc=>by
        obtain ⟨q,hq,rfl⟩:=List.getElem_of_mem hc
        obtain ⟨c0,hc0,hv0⟩:=g2 q ys[q] (List.getElem?_eq_getElem hq)
        refine promC_ok (x:=c0) (fun t cl xs e=>by subst e;simpa [viewC] using hv0.symm) (hoky _ ?_)
        simp only [promV,AV.flat]
        have:(List.zipWith promC xs ys)[q]?=some (promC c0 ys[q]):=by rw [List.getElem?_zipWith,hc0,List.getElem?_eq_getElem hq]
        exact List.mem_of_getElem? this
       have hz0:=h0 okz
       cases hxr with
       |g _ us hl hx0=>
        cases hz0 with
        |g _ _ hl2 hy0=>
         refine .g _ us (by simp;omega) fun q c hq=>?_
         rw [List.getElem?_zipWith] at hq
         cases hxq:xs[q]? with
         |none=>rw [hxq] at hq;simp at hq
         |some a=>
          cases hyq:ys[q]? with
          |none=>rw [hxq,hyq] at hq;simp at hq
          |some b=>
           rw [hxq,hyq] at hq
           simp only [Option.some.injEq] at hq
           subst hq
           refine promR a b _ (hx0 q a hxq) (fun _=>hy0 q b hyq) (hoky _ ?_)
           simp only [promV,AV.flat]
           have:(List.zipWith promC xs ys)[q]?=some (promC a b):=by rw [List.getElem?_zipWith,hxq,hyq]
           exact List.mem_of_getElem? this
  ·exact hargs0 k y' hk hoky
 refine (hcall w hI G vs (by omega) hargs nm inj).mono ?_
 rintro e w' ⟨v,rfl,ρc,hH,hR⟩
 let Hc:=adH nm 0 ret.flat noHeap
 let H':=adH nm 0 ret.flat st.H
 have hor:∀id,(H' id=Hc id∧Hc id≠.unborn)∨(Hc id=.unborn∧H' id=st.H id):=fun id=>adH_or nm inj ret.flat st.H id
 have dis:∀id,Hc id≠.unborn→st.H id=.unborn:=fun id hne=>by
  rcases adH_get nm ret.flat 0 noHeap id inj with ⟨j,e,sz,xs,h1,h2,h3⟩|⟨_,h2⟩
  ·rw [h2];exact adUn_get nm ret.flat 0 st.H hun j e sz xs h1
  ·exact (hne h2).elim
 have hdec:∀id,Decidable (Hc id=.unborn):=fun id=>Classical.propDecidable _
 let ρ':Lies:=fun id=>if Hc id=.unborn then ρ id else ρc id
 have hB:RowKit.Below w.heap.size w w':=hH.below
 have hsz:w.heap.size≤w'.heap.size:=hB.size
 have hblk:∀b,b<w.heap.size→w'.heap[b]?=w.heap[b]?:=fun b hb=>hB.block b hb
 have mutc:∀b,Mut Hc ρc b→w.heap.size≤b:=fun b m=>(hH.mut_ge m).1
 have mut':∀b,Mut H' ρ' b→(Mut Hc ρc b)∨(Mut st.H ρ b):=fun b ⟨id,e,sz,rows,c,s,hid,hρ⟩=>by
  rcases hor id with ⟨h1,h2⟩|⟨h1,h2⟩
  ·left
   simp only [ρ',if_neg h2] at hρ
   exact ⟨id,e,sz,rows,c,s,by rw [←h1];exact hid,hρ⟩
  ·right
   simp only [ρ',if_pos h1] at hρ
   exact ⟨id,e,sz,rows,c,s,by rw [←h2];exact hid,hρ⟩
 have hk:Keeps w w' (Fr C st.H ρ) (Fr C H' ρ') st.H H' ρ ρ':=keeps_of hsz (fun b hb _=>hblk b hb) (fun b hb m=>by
   rcases mut' b m with m|m
   ·have:=mutc b m;omega
   ·exact m) (fun id hne=>by
   have hu:Hc id=.unborn:=Classical.byContradiction fun q=>hne (dis id q)
   rcases hor id with ⟨_,h2⟩|⟨_,h2⟩
   ·exact (h2 hu).elim
   ·rw [h2];exact ⟨hne,fun l=>⟨l,by simp only [ρ',if_pos hu]⟩⟩)
 have hF:∀t b,t≠.brw→Fr (Ctx.of w hI G) Hc ρc t b→Fr C H' ρ' t b:=fun t b ht hf=>by
  obtain ⟨h1,h2⟩:=hf
  have nm':∀m:Mut H' ρ' b,Mut st.H ρ b→False→False:=fun _ _ q=>q
  rcases h1 with h1|⟨h1,h3⟩
  ·refine ⟨.inl (Nat.le_trans hle h1),fun m=>?_⟩
   rcases mut' b m with m|m
   ·exact h2 m
   ·have h5:=(h.heap.mut_ge m).2
    have h6:w.heap.size≤b:=h1
    omega
  ·rcases h3 with h3|h3|h3
   ·exact (ht h3).elim
   ·have:t=.old:=by cases t<;>first|rfl|exact (h1 rfl).elim|exact (ht rfl).elim
    subst this
    refine ⟨h3.1,fun m=>?_⟩
    rcases mut' b m with m|m
    ·exact h2 m
    ·exact h3.2 m
   ·refine ⟨.inl ?_,fun m=>?_⟩
    ·rcases h3.1 with q|⟨q,_⟩
     ·exact q
     ·exact (q rfl).elim
    ·rcases mut' b m with m|m
     ·exact h2 m
     ·exact h3.2 m
 have retc:∀j c,ret.flat[j]?=some c→RetC c:=fun j c hj=>hret c (List.mem_of_getElem? hj)
 have rowc:∀id e sz f rows,Hc id=.arr e sz f rows→Row w' (Fr C H' ρ') H' ρ' C.p id e sz rows:=fun id e sz f rows hid=>by
  have hne:Hc id≠.unborn:=by rw [hid];simp
  have hr:=hH.row id e sz f rows hid
  obtain ⟨_,j,hj,_⟩:=adH_arr nm inj ret.flat hid
  have hrc:=retc j _ hj
  refine ⟨hr.rowlen,?_⟩
  rcases hr.lies with ⟨h1,h2⟩|⟨b,cap,cur,h1,h2,h3,h4,h5,h6,h7⟩
  ·exact .inl ⟨by simp only [ρ',if_neg hne];exact h1,h2⟩
  ·refine .inr ⟨b,cap,cur,by simp only [ρ',if_neg hne];exact h1,Nat.le_trans hle h2,h3,h4,h5,h6,fun i k r c hi hk'=>?_⟩
   obtain ⟨u,u1,u2,u3⟩:=h7 i k r c hi hk'
   exact ⟨u,u1,u2,u3.noid (hrc r (List.mem_of_getElem? hi) c (List.mem_of_getElem? hk')) hF⟩
 refine ⟨v,rfl,ρ',⟨?_,fun id e sz f rows hid=>?_,?_,fin_adH nm _ _ h.heap.fin⟩,hk,?_⟩
 ·exact h.heap.below.trans (hB.mono hle)
 ·rcases hor id with ⟨h1,h2⟩|⟨h1,h2⟩
  ·exact rowc id e sz f rows (by rw [←h1];exact hid)
  ·have hid':st.H id=.arr e sz f rows:=by rw [←h2];exact hid
   refine (h.heap.row id e sz f rows hid').keep (C:=C) hk (by simp only [ρ',if_pos h1]) fun b c s hρ=>?_
   refine hblk b ?_
   rcases (h.heap.row id e sz f rows hid').lies with ⟨q,_⟩|⟨b',_,_,q,_,q3,_⟩
   ·rw [q] at hρ;cases hρ
   ·rw [q] at hρ;cases hρ
    exact q3.lt
 ·intro i1 i2 e1 s1 r1 e2 s2 f2 r2 b c s c' s' h1 h2 hρ1 hρ2
  have old:∀id e sz f rows c s,st.H id=.arr e sz f rows→ρ id=some (b,c,s)→b<w.heap.size:=fun id e sz f rows c s hid hρ=>by
   rcases (h.heap.row id e sz f rows hid).lies with ⟨q,_⟩|⟨b',_,_,q,_,q3,_⟩
   ·rw [q] at hρ;cases hρ
   ·rw [q] at hρ;cases hρ
    exact q3.lt
  have new:∀id e sz f rows c s,Hc id=.arr e sz f rows→ρc id=some (b,c,s)→w.heap.size≤b:=fun id e sz f rows c s hid hρ=>by
   obtain ⟨rfl,_⟩:=adH_arr nm inj ret.flat hid
   exact mutc b ⟨id,e,sz,rows,c,s,hid,hρ⟩
  rcases hor i1 with ⟨p1,p2⟩|⟨p1,p2⟩<;>rcases hor i2 with ⟨q1,q2⟩|⟨q1,q2⟩
  ·simp only [ρ',if_neg p2] at hρ1
   simp only [ρ',if_neg q2] at hρ2
   exact hH.inj i1 i2 e1 s1 r1 e2 s2 f2 r2 b c s c' s' (p1.symm.trans h1) (q1.symm.trans h2) hρ1 hρ2
  ·simp only [ρ',if_neg p2] at hρ1
   simp only [ρ',if_pos q1] at hρ2
   have:=new i1 _ _ _ _ _ _ (p1.symm.trans h1) hρ1
   have:=old i2 _ _ _ _ _ _ (q2.symm.trans h2) hρ2
   omega
  ·simp only [ρ',if_pos p1] at hρ1
   simp only [ρ',if_neg q2] at hρ2
   have:=new i2 _ _ _ _ _ _ (q1.symm.trans h2) hρ2
   have:=old i1 _ _ _ _ _ _ (p2.symm.trans h1) hρ1
   omega
  ·simp only [ρ',if_pos p1] at hρ1
   simp only [ρ',if_pos q1] at hρ2
   exact h.heap.inj i1 i2 e1 s1 r1 e2 s2 f2 r2 b c s c' s' (p2.symm.trans h1) (q2.symm.trans h2) hρ1 hρ2
 ·
  have cell:∀(j:Nat) c u,ret.flat[j]?=some c→RelC w' (Fr (Ctx.of w hI G) Hc ρc) Hc ρc (adC nm j c) u→RelC w' (Fr C H' ρ') H' ρ' (adC nm j c) u:=fun j c u hj hu=>by
   have hrc:=retc j c hj
   cases c with
   |nw e sz xs=>
    have hne:Hc (nm j)≠.unborn:=by
     rcases adH_get nm ret.flat 0 noHeap (nm j) inj with ⟨j',e',sz',xs',h1,h2,h3⟩|⟨h1,_⟩
     ·show adH nm 0 ret.flat noHeap (nm j)≠.unborn
      rw [h3];simp
     ·exact (h1 j e sz xs hj (by simp)).elim
    simp only [adC] at hu ⊢
    cases hu with
    |so _ _ _ _ _ hs=>
     rcases hor (nm j) with ⟨p1,p2⟩|⟨p1,p2⟩
     ·refine .so _ _ _ _ (by rw [p1];exact p2) fun hl=>?_
      have:=hs (by rw [←p1];exact hl)
      have he:ρ' (nm j)=ρc (nm j):=by simp only [ρ',if_neg p2]
      unfold SoVal at *
      rw [he];exact this
     ·exact (hne p1).elim
   |_=>exact hu.noid hrc hF
  cases ret with
  |c x=>
   simp only [AV.ad] at hR ⊢
   cases hR with
   |c _ _ hR=>exact .c _ _ (cell 0 x _ rfl hR)
  |g xs=>
   simp only [AV.ad] at hR ⊢
   cases hR with
   |g _ vs hl hR=>
    refine .g _ vs hl fun k c hc=>?_
    have:=hR k c hc
    rw [(adL_get nm xs 0).2,Option.map_eq_some_iff] at hc
    obtain ⟨c0,hc0,rfl⟩:=hc
    rw [Nat.zero_add] at this ⊢
    exact cell k c0 _ hc0 this
  |t ps=>
   simp only [AV.ad] at hR ⊢
   cases hR with
   |t _ vs hl hR=>
    refine .t _ vs hl fun k b cs hk'=>?_
    have:=hR k b cs hk'
    obtain ⟨k',cs',g1,rfl,g3⟩:=(adT_get nm ps 0).2 k b cs hk'
    generalize vs.getD k undef=u at this
    rw [Nat.zero_add] at this ⊢
    generalize hcs:adL nm k' cs'=l at this
    cases this with
    |c x _ hx=>
     have:=(adL_get nm cs' k').2 0
     rw [hcs] at this
     simp only [List.getElem?_cons_zero,Nat.add_zero] at this
     obtain ⟨c0,hc0,he⟩:=Option.map_eq_some_iff.1 this.symm
     refine .c _ _ ?_
     rw [←he] at hx ⊢
     exact cell k' c0 _ (g3 0 c0 hc0) hx
    |g _ us hl h=>
     refine .g _ us hl fun i c hc=>?_
     have hx:=h i c hc
     rw [←hcs,(adL_get nm cs' k').2,Option.map_eq_some_iff] at hc
     obtain ⟨c0,hc0,rfl⟩:=hc
     exact cell (k'+i) c0 _ (g3 i c0 hc0) hx
end Go.AE
set_option linter.unusedVariables false
set_option linter.unusedSimpArgs false
namespace Go.AE
open Go
variable {P:Program} {C:Ctx P} {ρ:Lies} {st:St} {a:Act} {w:World} {K:St→Prop} {Q:Exit→Act→World→Prop} {o:Oper}
theorem aop_sound (h:Rel C ρ st a w) (hd:∀d,o.dst=some d→d<a.tmps.size) (hk:aop P o.dst o.op st K):o.wp P a w (SemK C a.tmps.size K) Q:=by
 generalize ho:o.op=op at hk
 cases op with
 |move x=>exact sound_move h hd (.inl ho) hk
 |assign x=>exact sound_move h hd (.inr ho) hk
 |pick c x y=>exact sound_pick h hd ho hk
 |alloc e=>exact sound_alloc h hd ho hk
 |box e x=>exact sound_box h hd ho hk
 |build t ps=>exact sound_build h hd ho hk
 |buildSlice t n ps=>exact sound_buildSlice h hd ho hk
 |load t x=>exact sound_load h hd ho hk
 |store t x v=>exact sound_store h hd ho hk
 |nilCheck x=>exact sound_nilCheck h hd ho hk
 |binOp op t x y t'=>exact sound_binOp h hd ho hk
 |unOp op t x=>exact sound_unOp h hd ho hk
 |convert s t x=>exact sound_convert h hd ho hk
 |makeFunc f first caps=>
  cases f with
  |func f=>exact sound_makeFunc h hd ho hk
  |_=>exact hk.elim
 |makeSlice t x y=>exact sound_makeSlice h hd ho hk
 |slice t x lo hi mx=>exact sound_slice h hd ho hk
 |fieldAddr t x f=>exact sound_fieldAddr h hd ho hk
 |field t x f=>exact sound_field h hd ho hk
 |indexAddr t x y=>exact sound_indexAddr h hd ho hk
 |index t x y=>exact sound_index h hd ho hk
 |extract x i=>exact sound_extract h hd ho hk
 |_=>exact hk.elim
theorem abi_sound (h:Rel C ρ st a w) (hd:∀d,o.dst=some d→d<a.tmps.size) {b:Builtin} {args:Array Operand} {ts:Array TypeId} (ho:o.op=.call {callee:=.builtin b,args:=args,argTypes:=ts})
  (hk:abi P o.dst b args.toList ts.toList st K):o.wp P a w (SemK C a.tmps.size K) Q:=by
 obtain ⟨args⟩:=args
 obtain ⟨ts⟩:=ts
 cases b with
 |len=>
  match args,ts,hk,ho with
  |[x],[t],hk,ho=>exact sound_len h hd ho hk
  |[],_,hk,_=>exact hk.elim
  |_::_::_,_,hk,_=>exact hk.elim
  |[_],[],hk,_=>exact hk.elim
  |[_],_::_::_,hk,_=>exact hk.elim
 |min=>
  match args,hk,ho with
  |[x,y],hk,ho=>exact sound_min h hd ho hk
  |[],hk,_=>exact hk.elim
  |[_],hk,_=>exact hk.elim
  |_::_::_::_,hk,_=>exact hk.elim
 |max=>
  match args,hk,ho with
  |[x,y],hk,ho=>exact sound_max h hd ho hk
  |[],hk,_=>exact hk.elim
  |[_],hk,_=>exact hk.elim
  |_::_::_::_,hk,_=>exact hk.elim
 |append=>
  match args,ts,hk,ho with
  |[x,y],[t,t'],hk,ho=>exact sound_append h hd ho hk
  |[],_,hk,_=>exact hk.elim
  |[_],_,hk,_=>exact hk.elim
  |_::_::_::_,_,hk,_=>exact hk.elim
  |[_,_],[],hk,_=>exact hk.elim
  |[_,_],[_],hk,_=>exact hk.elim
  |[_,_],_::_::_::_,hk,_=>exact hk.elim
 |copy=>
  match args,ts,hk,ho with
  |[x,y],[t,t'],hk,ho=>exact sound_copy h hd ho hk
  |[],_,hk,_=>exact hk.elim
  |[_],_,hk,_=>exact hk.elim
  |_::_::_::_,_,hk,_=>exact hk.elim
  |[_,_],[],hk,_=>exact hk.elim
  |[_,_],[_],hk,_=>exact hk.elim
  |[_,_],_::_::_::_,hk,_=>exact hk.elim
 |_=>exact hk.elim
theorem callFunc_run {f:FuncId} (h:okCall P f=true) (args:Array Value) (w:World):(callFunc f args).run P w=.ok (.enter f args) w:=by
 unfold okCall at h
 split at h
 ·rename_i fn hf
  simp only [Bool.and_eq_true,bne_iff_ne,ne_eq] at h
  have h2:fn.body.isNone=false:=by cases hb:fn.body<;>simp [hb] at h ⊢
  have h3:¬fn.body=none:=by intro e;rw [e] at h2;cases h2
  simp [callFunc,hf,h.1,h3]
 ·cases h
theorem acall_sound (h:Rel C ρ st a w) (hd:∀d,o.dst=some d→d<a.tmps.size) {dr:Bool} {f:Operand} {g:FuncId} {caps:List AC} {args:Array Operand} {ts:Array TypeId}
  (ho:o.op=.call {callee:=.value f,args:=args,argTypes:=ts}) (hf:st.eval f=.c (.fn g caps))
  (hk:ACall P dr st o.dst g (args.toList.map st.eval++caps.map .c) K):o.wp P a w (SemK C a.tmps.size K) Q:=by
 have hfv:=h.eval f
 rw [hf] at hfv
 generalize hav:a.eval f=av at hfv
 cases hfv with
 |c _ _ hfv=>
  cases hfv with
  |fn _ _ vs hl hcaps=>
   let va:Array Value:=args.map a.eval++vs
   have hsz:va.size=(args.toList.map st.eval++caps.map AV.c).length:=by simp [va,hl]
   have hrel:∀(k:Nat) x,(args.toList.map st.eval++caps.map AV.c)[k]?=some x→RelV w (Fr C st.H ρ) st.H ρ x (va.getD k undef):=fun k x hx=>by
    rw [List.getElem?_append] at hx
    split at hx
    ·rename_i hlt
     simp only [List.length_map,Array.length_toList] at hlt
     rw [List.getElem?_map,Option.map_eq_some_iff] at hx
     obtain ⟨y,hy,rfl⟩:=hx
     have:va.getD k undef=a.eval y:=by
      have hy':args[k]?=some y:=by simpa using hy
      have hy2:args[k]=y:=by rw [Array.getElem?_eq_getElem hlt] at hy';exact Option.some.inj hy'
      simp [va,Array.getElem?_append,hlt,hy2]
     rw [this];exact h.eval y
    ·rename_i hge
     simp only [List.length_map,Array.length_toList] at hge hx
     rw [List.getElem?_map,Option.map_eq_some_iff] at hx
     obtain ⟨c,hc,rfl⟩:=hx
     have h1:=hcaps _ c hc
     have h2:=(List.getElem?_eq_some_iff.1 hc).1
     have:va.getD k undef=vs.getD (k-args.size) undef:=by
      simp [va,Array.getElem?_append,hge]
     rw [this];exact .c _ _ h1
   have run:okCall P g=true→(execOp a.eval o).run P w=.ok (.enter g va) w:=fun ok=>by
    have:=callFunc_run (P:=P) ok va w
    simp only [execOp,ho,resolve,hav,Deferred.ofValue,Sem.run_bind,Sem.run_pure,Result.andThen_ok,invoke]
    simpa [va] using this
   unfold Oper.wp
   rcases hk with ⟨m,args',ret,h1,h2,h3,_,h4⟩|⟨_,hok,h2⟩
   ·rw [run h2.1.1,Oper.upon_enter]
    refine (pure_sound (dst:=o.dst) h h1 h2 h3 hsz hrel).mono ?_
    rintro e w' ⟨v,rfl,ρ',g1,g2,g3⟩
    exact ⟨size_put _ _ _,ρ',_,(h.heapTo (T':=st.T) g1 g2).put (st:={st with H:=_}) g3 hd,h4⟩
   ·rw [run hok,Oper.upon_enter]
    refine (h2 C ρ a w va h hsz hrel).mono ?_
    rintro e w' ⟨v,rfl,ρ',ret,H',T',g1,g2,g3⟩
    exact ⟨size_put _ _ _,ρ',_,g1.put (st:=st.back H' T') g2 hd,g3⟩
theorem run_equalIn_slnil (w:World) (d:Nat) (t e:TypeId) (p:Option Addr) (n c:Nat) (hu:P.underlying t=some (.slice e)) :
  (Op.equalIn (d+1) t (.slice p n c) (.slice none 0 0)).run P w=.ok p.isNone w:=by
 cases p<;>simp [Op.equalIn,run_underlying hu]
theorem sound_nil (h:Rel C ρ st a w) (hd:∀d,o.dst=some d→d<a.tmps.size) {op:BinOp} {t t':TypeId} {x y:Operand} (ho:o.op=.binOp op t x y t')
  (hk:aNil P o.dst op t (st.eval x) (st.eval y) st K):o.wp P a w (SemK C a.tmps.size K) Q:=by
 have hx:=h.eval x
 have hy:=h.eval y
 unfold aNil at hk
 split at hk
 ·rename_i tg cl xs e1 e2
  obtain ⟨hf,k1,k2⟩:=hk
  rw [e1] at hx
  rw [e2] at hy
  have ht:=tyI_slice hf
  have v2:=relC_raw (relV_c hy)
  have run:∀p n c,a.eval x=.slice p n c→(execOp a.eval o).run P w=.ok (.value (.bool p.isNone)) w:=fun p n c hv=>by
   have hg:(eqGuard .eql t x y (a.eval x) (a.eval y)).run P w=.ok () w:=by rw [hv,v2];unfold eqGuard;rfl
   have hb:(binOp .eql t (a.eval x) (a.eval y)).run P w=.ok (.bool p.isNone) w:=by
    rw [hv,v2]
    simp only [binOp,Op.equal,Op.maxDepth,Sem.run_bind,run_equalIn_slnil w 9999 t _ p n c ht,Result.andThen_ok,Sem.run_pure]
   simp only [execOp,ho,Sem.run_bind,hg,Result.andThen_ok,hb,Sem.run_pure]
  cases hq:a.eval x with
  |slice p n c=>
   have hr:=run p n c hq
   cases p with
   |some p=>exact sem_still h hd (v:=.bool false) hr (.c _ _ (.raw _)) k2
   |none=>
    have hxs:xs=[]:=by
     have:=relV_c hx
     rw [hq] at this
     cases this with
     |slNil=>rfl
    exact sem_still h hd (v:=.bool true) hr (.c _ _ (.raw _)) (k1 hxs)
  |_=>
   exfalso
   have:=relV_c hx
   rw [hq] at this
   cases this with
   |slNil _ _ _ hn=>rcases hn with e|⟨_,e⟩<;>cases e
 ·rename_i tg cl xs e1 e2
  obtain ⟨hf,k1,k2⟩:=hk
  rw [e1] at hx
  rw [e2] at hy
  have ht:=tyI_slice hf
  have v2:=relC_raw (relV_c hy)
  have run:∀p n c,a.eval x=.slice p n c→(execOp a.eval o).run P w=.ok (.value (.bool (!p.isNone))) w:=fun p n c hv=>by
   have hg:(eqGuard .neq t x y (a.eval x) (a.eval y)).run P w=.ok () w:=by rw [hv,v2];unfold eqGuard;rfl
   have hb:(binOp .neq t (a.eval x) (a.eval y)).run P w=.ok (.bool (!p.isNone)) w:=by
    rw [hv,v2]
    simp only [binOp,Op.equal,Op.maxDepth,Sem.run_bind,run_equalIn_slnil w 9999 t _ p n c ht,Result.andThen_ok,Sem.run_pure]
   simp only [execOp,ho,Sem.run_bind,hg,Result.andThen_ok,hb,Sem.run_pure]
  cases hq:a.eval x with
  |slice p n c=>
   have hr:=run p n c hq
   cases p with
   |some p=>exact sem_still h hd (v:=.bool true) hr (.c _ _ (.raw _)) k2
   |none=>
    have hxs:xs=[]:=by
     have:=relV_c hx
     rw [hq] at this
     cases this with
     |slNil=>rfl
    exact sem_still h hd (v:=.bool false) hr (.c _ _ (.raw _)) (k1 hxs)
  |_=>
   exfalso
   have:=relV_c hx
   rw [hq] at this
   cases this with
   |slNil _ _ _ hn=>rcases hn with e|⟨_,e⟩<;>cases e
 ·exact hk.elim
theorem astep_sound (h:Rel C ρ st a w) (hd:∀d,o.dst=some d→d<a.tmps.size) {dr:Bool} (hk:astep P dr o.dst o.op st K):o.wp P a w (SemK C a.tmps.size K) Q:=by
 by_cases hc:∃c,o.op=.call c
 ·obtain ⟨⟨callee,args,ts⟩,ho⟩:=hc
  rw [ho] at hk
  simp only [astep] at hk
  cases callee with
  |builtin b=>exact abi_sound h hd ho hk
  |value f=>
   simp only at hk
   split at hk
   ·rename_i g caps hf
    exact acall_sound h hd ho hf hk
   ·exact hk.elim
  |invoke r m=>exact hk.elim
 ·by_cases hb:∃op t x y t',o.op=.binOp op t x y t'
  ·obtain ⟨op,t,x,y,t',ho⟩:=hb
   rw [ho] at hk
   simp only [astep] at hk
   rcases hk with hk|⟨_,hk⟩
   ·exact sound_binOp h hd ho hk
   ·exact sound_nil h hd ho hk
  ·have:astep P dr o.dst o.op st K=aop P o.dst o.op st K:=by
    cases hq:o.op<;>first|rfl|(exact (hc ⟨_,hq⟩).elim)|(exact (hb ⟨_,_,_,_,_,hq⟩).elim)
   rw [this] at hk
   exact aop_sound h hd hk
end Go.AE
set_option linter.unusedVariables false
set_option linter.unusedSimpArgs false
namespace Go.AE
open Go
variable {P:Program} {C:Ctx P} {ρ:Lies} {st:St} {a:Act} {w:World}
def liftQ (C:Ctx P) (n:Nat) (Q:AEx→St→Prop):Exit→Act→World→Prop
 |.normal,a,w=>SemK C n (Q .normal) a w
 |.exit id,a,w=>SemK C n (Q (.exit id)) a w
 |.ret,a,w=>SemK C n (Q .ret) a w
 |_,_,_=>False
theorem SemK.mono {n:Nat} {K K':St→Prop} (h:SemK C n K a w) (hk:∀st,K st→K' st):SemK C n K' a w:=by
 obtain ⟨h1,ρ,st,h2,h3⟩:=h
 exact ⟨h1,ρ,st,h2,hk st h3⟩
def dstsOK (n:Nat) (l:List Oper):Bool:=l.all fun o=>match o.dst with|some d=>decide (d<n)|none=>true
theorem dstsOK_cons {n:Nat} {o:Oper} {l:List Oper} (h:dstsOK n (o::l)=true):(∀d,o.dst=some d→d<n)∧dstsOK n l=true:=by
 simp only [dstsOK,List.all_cons,Bool.and_eq_true] at h
 refine ⟨fun d hd=>?_,h.2⟩
 have:=h.1
 rw [hd] at this
 simpa using this
theorem agd_sound {ops:Array Oper} {o:Oper} {j:Nat} {want:Bool} {yes no:St→Prop} (hg:o.guard=some (j,want)) (h:Rel C ρ st a w) (hs:agd (gslot ops j) want st yes no) :
  (Region.wanted o (yielded ops a.tmps)=true∧∃st',Rel C ρ st' a w∧yes st')∨(Region.wanted o (yielded ops a.tmps)=false∧∃st',Rel C ρ st' a w∧no st'):=by
 unfold agd at hs
 split at hs
 ·rename_i d hd
  have hsl:=h.slot d
  have hy:∀v,a.tmps.getD d undef=v→v≠undef→yielded ops a.tmps j=(match v with|.bool b=>some b|_=>none):=fun v hv hne=>by
   have:a.tmps[d]?=some v:=by
    rw [Array.getD_eq_getD_getElem?] at hv
    cases hq:a.tmps[d]? with
    |none=>rw [hq] at hv;exact (hne hv.symm).elim
    |some u=>rw [hq] at hv;simp at hv;rw [hv]
   unfold gslot at hd
   simp only [yielded,hd,Option.bind_some,this]
   cases v<;>rfl
  have keep:∀b:Bool,a.tmps.getD d undef=.bool b→Rel C ρ (st.put (some d) (.c (.raw (.bool b)))) a w:=fun b hb=>by
   refine ⟨h.heap,fun t=>?_,h.nodef,h.ghost⟩
   show RelV _ _ _ _ (upd st.s d _ t) _
   unfold upd
   split
   ·rename_i e;subst e;rw [hb];exact .c _ _ (.raw _)
   ·exact h.slot t
  split at hs
  ·rename_i b hb
   rw [hb] at hsl
   have hv:=relC_raw (relV_c hsl)
   have hyd:=hy _ hv (by simp [undef])
   by_cases hw:b=want
   ·left
    subst hw
    refine ⟨?_,_,keep b hv,hs.1 rfl⟩
    simp [Region.wanted,hg,hyd]
   ·right
    have hb':b=!want:=by cases b<;>cases want<;>simp at hw ⊢
    subst hb'
    refine ⟨?_,_,keep _ hv,hs.2 rfl⟩
    simp [Region.wanted,hg,hyd]
  ·rename_i vs hb
   rw [hb] at hsl
   have hv:=relC_raw (relV_c hsl)
   right
   refine ⟨?_,st,h,hs⟩
   have hyd:yielded ops a.tmps j=none:=by
    unfold gslot at hd
    simp only [yielded,hd,Option.bind_some]
    rw [Array.getD_eq_getD_getElem?] at hv
    cases hq:a.tmps[d]? with
    |none=>rfl
    |some u=>rw [hq] at hv;simp at hv;rw [hv]
   simp [Region.wanted,hg,hyd]
  ·exact hs.elim
 ·exact hs.elim
theorem ops_sound {dr:Bool} {ops:Array Oper} {n:Nat} {K:St→Prop} {Q:Exit→Act→World→Prop} (hQ:∀a w,SemK C n K a w→Q .normal a w) :
  ∀(l:List Oper) (ρ:Lies) (st:St) (a:Act) (w:World),dstsOK n l=true→a.tmps.size=n→Rel C ρ st a w→awpOps P dr ops l K st→wpList P ops Q l a w
 |[],ρ,st,a,w,_,hn,h,hk=>hQ a w ⟨hn,ρ,st,h,hk⟩
 |o::l,ρ,st,a,w,hd,hn,h,hk=>by
  obtain ⟨hd1,hd2⟩:=dstsOK_cons hd
  subst hn
  have next:∀a' w',SemK C a.tmps.size (awpOps P dr ops l K) a' w'→wpList P ops Q l a' w':=fun a' w' ⟨g1,ρ',st',g2,g3⟩=>ops_sound hQ l ρ' st' a' w' hd2 g1 g2 g3
  have go:∀st',Rel C ρ st' a w→astep P dr o.dst o.op st' (awpOps P dr ops l K)→o.wp P a w (wpList P ops Q l) Q:=fun st' hr hs=>
   Oper.wp_mono (Q:=Q) next (astep_sound hr hd1 hs)
  simp only [awpOps] at hk
  unfold wpList
  split at hk
  ·rename_i hg
   rw [if_pos (by simp [Region.wanted,hg])]
   exact .inl (go st h hk)
  ·rename_i j want hg
   rcases agd_sound hg h hk with ⟨h1,st',h2,h3⟩|⟨h1,st',h2,h3⟩
   ·rw [if_pos h1];exact .inl (go st' h2 h3)
   ·rw [if_neg (by simp [h1])]
    exact next _ _ ⟨size_put _ _ _,ρ,_,h2.put (.c _ _ (.raw undef)) hd1,h3⟩
theorem wp_loop_n {c:Code} {Q:Exit→Act→World→Prop} (I:Nat→Act→World→Prop)
  (round:∀m a w,I m a w→c.wp P (Exit.then (fun a' w'=>∃m',m'<m∧I m' a' w') Q) a w) {m:Nat} (h:I m a w):(Code.loop c).wp P Q a w:=by
 classical
 have least:∀(m:Nat) a w,I m a w→∃k,I k a w∧∀j,I j a w→k≤j:=by
  intro m
  induction m using Nat.strongRecOn with
  |_ m ih=>
   intro a w hm
   by_cases hq:∃j,j<m∧I j a w
   ·obtain ⟨j,hj,hI⟩:=hq
    exact ih j hj a w hI
   ·exact ⟨m,hm,fun j hj=>Nat.le_of_not_lt fun hlt=>hq ⟨j,hlt,hj⟩⟩
 let μ:Act→World→Nat:=fun a w=>if hq:∃m,I m a w then Classical.choose (least (Classical.choose hq) a w (Classical.choose_spec hq)) else 0
 have hμ:∀m a w,I m a w→I (μ a w) a w∧μ a w≤m:=fun m a w hm=>by
  have hq:∃m,I m a w:=⟨m,hm⟩
  have:=Classical.choose_spec (least (Classical.choose hq) a w (Classical.choose_spec hq))
  have e:μ a w=Classical.choose (least (Classical.choose hq) a w (Classical.choose_spec hq)):=by simp only [μ];rw [dif_pos hq]
  rw [e]
  exact ⟨this.1,this.2 m hm⟩
 refine wp_loop (fun a w=>∃m,I m a w) μ ⟨m,h⟩ fun a w ⟨m,hm⟩=>?_
 have h1:=(hμ m a w hm).1
 refine Code.wp_mono (fun e a' w' q=>?_) (round (μ a w) a w h1)
 cases e with
 |normal=>
  obtain ⟨m',hlt,hm'⟩:=q
  exact ⟨⟨m',hm'⟩,Nat.lt_of_le_of_lt (hμ m' a' w' hm').2 hlt⟩
 |_=>exact q
def codeOK (calm:Array Oper→Bool) (n:Nat):Code→Bool
 |.region _ ops draw=>dstsOK n ops.toList&&(!draw||calm ops)
 |.seq x y=>codeOK calm n x&&codeOK calm n y
 |.cond _ x y=>codeOK calm n x&&codeOK calm n y
 |.block _ x=>codeOK calm n x
 |.loop x=>codeOK calm n x
 |.scope x=>codeOK calm n x
 |_=>true
theorem awp_sound (calm:Array Oper→Bool)
  (hcalm:∀(C:Ctx P) (n:Nat) (ops:Array Oper) (id:Nat) (K:St→Prop) (Q:Exit→Act→World→Prop) ρ st a w,calm ops=true→dstsOK n ops.toList=true→a.tmps.size=n→Rel C ρ st a w→
   (∀a w,SemK C n K a w→Q .normal a w)→(∀c a w,¬Q (.panic c) a w)→drawnK P true ops K st→(Code.region id ops true).wp P Q a w) :
  ∀(c:Code) (n:Nat) (Q:AEx→St→Prop) (ρ:Lies) (st:St) (a:Act) (w:World),codeOK calm n c=true→a.tmps.size=n→Rel C ρ st a w→awp P c Q st→c.wp P (liftQ C n Q) a w
 |.skip,n,Q,ρ,st,a,w,_,hn,h,hk=>wp_skip ⟨hn,ρ,st,h,hk⟩
 |.exit id,n,Q,ρ,st,a,w,_,hn,h,hk=>wp_exit ⟨hn,ρ,st,h,hk⟩
 |.ret,n,Q,ρ,st,a,w,_,hn,h,hk=>wp_ret ⟨hn,ρ,st,h,hk⟩
 |.region id ops draw,n,Q,ρ,st,a,w,hc,hn,h,hk=>by
  simp only [codeOK,Bool.and_eq_true] at hc
  have hQ:∀a w,SemK C n (fun st=>Q .normal {st with T:=st.T+1}) a w→liftQ C n Q .normal a w:=fun a w ⟨g1,ρ',st',g2,g3⟩=>⟨g1,ρ',_,g2.stamp (st'.T+1),g3⟩
  cases draw with
  |false=>
   rcases hk with ⟨hk,_⟩|⟨hk,_⟩
   ·exact wp_region_list (ops_sound hQ _ ρ st a w hc.1 hn h hk)
   ·cases hk
  |true=>exact hcalm C n ops id _ _ ρ st a w (by simpa using hc.2) hc.1 hn h hQ (fun _ _ _ q=>q) hk
 |.seq x y,n,Q,ρ,st,a,w,hc,hn,h,hk=>by
  simp only [codeOK,Bool.and_eq_true] at hc
  refine wp_seq (Code.wp_mono (fun e a' w' q=>?_) (awp_sound calm hcalm x n _ ρ st a w hc.1 hn h hk))
  cases e with
  |normal=>
   obtain ⟨g1,ρ',st',g2,g3⟩:=q
   exact awp_sound calm hcalm y n Q ρ' st' a' w' hc.2 g1 g2 g3
  |_=>exact q
 |.cond c x y,n,Q,ρ,st,a,w,hc,hn,h,hk=>by
  simp only [codeOK,Bool.and_eq_true] at hc
  simp only [awp] at hk
  split at hk
  ·rename_i b hb
   have hv:=h.eval c
   rw [hb] at hv
   have hv:=relC_raw (relV_c hv)
   cases b with
   |true=>exact wp_cond_true hv (awp_sound calm hcalm x n Q ρ st a w hc.1 hn h (hk.1 rfl))
   |false=>exact wp_cond_false hv (awp_sound calm hcalm y n Q ρ st a w hc.2 hn h (hk.2 rfl))
  ·exact hk.elim
 |.block id x,n,Q,ρ,st,a,w,hc,hn,h,hk=>by
  refine wp_block (Code.wp_mono (fun e a' w' q=>?_) (awp_sound calm hcalm x n _ ρ st a w hc hn h hk))
  cases e with
  |exit j=>
   simp only [Exit.inBlock]
   by_cases hj:j=id
   ·rw [if_pos hj]
    exact SemK.mono q fun st hs=>by simpa [ablock,hj] using hs
   ·rw [if_neg hj]
    exact SemK.mono q fun st hs=>by simpa [ablock,hj] using hs
  |_=>exact q
 |.loop x,n,Q,ρ,st,a,w,hc,hn,h,hk=>by
  obtain ⟨I,μ,h0,hr⟩:=hk
  refine wp_loop_n (fun m a w=>SemK C n (fun st=>I st∧μ st=m) a w) (fun m a' w' hI=>?_) (m:=μ st) ⟨hn,ρ,st,h,h0,rfl⟩
  obtain ⟨g1,ρ',st',g2,g3,g4⟩:=hI
  refine Code.wp_mono (fun e a2 w2 q=>?_) (awp_sound calm hcalm x n _ ρ' st' a' w' hc g1 g2 (hr st' g3))
  cases e with
  |normal=>
   obtain ⟨f1,ρ2,st2,f2,f3,f4⟩:=q
   exact ⟨μ st2,by omega,f1,ρ2,st2,f2,f3,rfl⟩
  |_=>exact q
 |.scope _,_,_,_,_,_,_,_,_,_,hk=>hk.elim
 |.label _,_,_,_,_,_,_,_,_,_,hk=>hk.elim
 |.goto _,_,_,_,_,_,_,_,_,_,hk=>hk.elim
 |.rangeFunc ..,_,_,_,_,_,_,_,_,_,hk=>hk.elim
 |.refuse _,_,_,_,_,_,_,_,_,_,hk=>hk.elim
end Go.AE
set_option linter.unusedVariables false
set_option linter.unusedSimpArgs false
namespace Go.AE
open Go
variable {P:Program} {C:Ctx P} {ρ:Lies} {st:St} {a:Act} {w:World}
def resV (P:Program) (st:St):ResultVar→Option AV
 |.tmp t=>some (st.s t)
 |.cell x t=>
  match st.s x with
  |.c (.pt id i j)=>match st.H id with
   |.arr _ _ _ rows=>match rows[i]? with
    |some row=>if (tyI P t).ok=true then rdRow (tyI P t).ag (tyI P t).sz row j else none
    |none=>none
   |_=>none
  |_=>none
def AV.part:AV→Option (Bool×List AC)
 |.c x=>some (false,[x])
 |.g xs=>some (true,xs)
 |.t _=>none
def resL (P:Program) (st:St):List ResultVar→Option (List (Bool×List AC))
 |[]=>some []
 |r::rs=>match (resV P st r).bind AV.part,resL P st rs with
  |some p,some ps=>some (p::ps)
  |_,_=>none
def resA (P:Program) (st:St) (rs:List ResultVar):Option AV:=
 match rs with
 |[r]=>resV P st r
 |rs=>(resL P st rs).map .t
def resSem (tmps:Array Value):ResultVar→Sem Value
 |.tmp t=>pure (tmps.getD t undef)
 |.cell b t=>do loadVar t (←asAddr (tmps.getD b undef))
theorem results_eq (fn:Func) (tmps:Array Value):results fn tmps=(fn.results.mapM (resSem tmps) >>= fun vs=>pure (if h:vs.size=1 then vs[0] else .tuple vs)):=by
 unfold results
 congr 1
theorem resV_sound (h:Rel C ρ st a w) {r:ResultVar} {x:AV} (hx:resV P st r=some x) :
  ∃v,(resSem a.tmps r).run P w=.ok v w∧RelV w (Fr C st.H ρ) st.H ρ x v:=by
 cases r with
 |tmp t=>
  simp only [resV,Option.some.injEq] at hx
  subst hx
  exact ⟨_,rfl,h.slot t⟩
 |cell b t=>
  simp only [resV] at hx
  have hb:=h.slot b
  split at hx
  ·rename_i id i j hq
   rw [hq] at hb
   split at hx
   ·rename_i e sz frz rows hid
    split at hx
    ·rename_i row hrow
     split at hx
     ·rename_i ok
      obtain ⟨bb,cap,hρ,hcells⟩:=own_cells h.heap hid hrow
      cases relV_c hb with
      |pt _ _ _ _ hne hp=>
       obtain ⟨b',cap',sz',hρ',hval⟩:=hp (by rw [hid];rfl)
       rw [hρ] at hρ'
       simp only [Option.some.injEq,Prod.mk.injEq] at hρ'
       obtain ⟨rfl,rfl,rfl⟩:=hρ'
       obtain ⟨u,hu,hR⟩:=load_sound (b:=bb) (o:=i*sz) ok hx hcells
       refine ⟨u,?_,hR⟩
       simp only [Instr.loadAt,Instr.sureAddr,Sem.run_bind,Sem.run_pure,Result.andThen_ok] at hu
       simp only [resSem,hval,asAddr,Sem.run_bind,Sem.run_pure,Result.andThen_ok,hu]
     ·cases hx
    ·cases hx
   ·cases hx
  ·cases hx
theorem resL_sound (h:Rel C ρ st a w):∀{rs:List ResultVar} {ps:List (Bool×List AC)},resL P st rs=some ps→
  ∃vs:List Value,(rs.mapM (resSem a.tmps)).run P w=.ok vs w∧
   vs.length=ps.length∧∀(k:Nat) b cs,ps[k]?=some (b,cs)→∃v,vs[k]?=some v∧RelP w (Fr C st.H ρ) st.H ρ b cs v
 |[],ps,hp=>by
  simp only [resL,Option.some.injEq] at hp
  subst hp
  exact ⟨[],by simp,rfl,fun k b cs hk=>by simp at hk⟩
 |r::rs,ps,hp=>by
  simp only [resL] at hp
  split at hp
  ·rename_i p ps' h1 h2
   cases hp
   rw [Option.bind_eq_some_iff] at h1
   obtain ⟨x,hx,hp⟩:=h1
   obtain ⟨v,hv,hR⟩:=resV_sound h hx
   obtain ⟨vs,g1,g2,g3⟩:=resL_sound h h2
   refine ⟨v::vs,?_,by simp [g2],fun k b cs hk=>?_⟩
   ·simp only [List.mapM_cons,Sem.run_bind,hv,g1,Result.andThen_ok,Sem.run_pure]
   ·cases k with
    |zero=>
     simp at hk
     subst hk
     refine ⟨v,rfl,?_⟩
     cases hR with
     |c y _ hy=>simp only [AV.part,Option.some.injEq,Prod.mk.injEq] at hp;obtain ⟨rfl,rfl⟩:=hp;exact .c _ _ hy
     |g xs us hl hu=>simp only [AV.part,Option.some.injEq,Prod.mk.injEq] at hp;obtain ⟨rfl,rfl⟩:=hp;exact .g _ us hl hu
     |t xs us hl hu=>simp [AV.part] at hp
    |succ k=>simpa using g3 k b cs (by simpa using hk)
  ·cases hp
theorem resA_sound (h:Rel C ρ st a w) {fn:Func} {x:AV} (hx:resA P st fn.results.toList=some x):∃v,(results fn a.tmps).run P w=.ok v w∧RelV w (Fr C st.H ρ) st.H ρ x v:=by
 unfold resA at hx
 have hrun:∀vs:List Value,(fn.results.toList.mapM (resSem a.tmps)).run P w=.ok vs w→
   (results fn a.tmps).run P w=.ok (if h:vs.toArray.size=1 then vs.toArray[0] else .tuple vs.toArray) w:=fun vs hvs=>by
  rw [results_eq]
  simp only [Sem.run_bind,Array.mapM_eq_mapM_toList,Sem.run_map]
  rw [hvs]
  simp only [Result.andThen_ok,Sem.run_pure]
 split at hx
 ·rename_i r hr
  obtain ⟨v,hv,hR⟩:=resV_sound h hx
  refine ⟨v,?_,hR⟩
  have:=hrun [v] (by rw [hr];simp only [List.mapM_cons,List.mapM_nil,Sem.run_bind,hv,Result.andThen_ok,Sem.run_pure])
  simpa using this
 ·rename_i hne
  simp only [Option.map_eq_some_iff] at hx
  obtain ⟨ps,hps,rfl⟩:=hx
  obtain ⟨vs,g1,g2,g3⟩:=resL_sound h hps
  have hlen:ps.length=fn.results.toList.length:=by
   have:∀(rs:List ResultVar) (ps:List (Bool×List AC)),resL P st rs=some ps→ps.length=rs.length:=by
    intro rs
    induction rs with
    |nil=>intro ps hp;simp [resL] at hp;subst hp;rfl
    |cons r rs ih=>
     intro ps hp
     simp only [resL] at hp
     split at hp
     ·rename_i p ps' h1 h2;cases hp;simp [ih ps' h2]
     ·cases hp
   exact this _ _ hps
  have h1:¬vs.toArray.size=1:=by
   intro he
   simp only [List.size_toArray] at he
   rw [g2,hlen] at he
   match hq:fn.results.toList,he with
   |[r],_=>exact hne r hq
  refine ⟨.tuple vs.toArray,?_,.t ps vs.toArray (by simp [g2]) fun k b cs hk=>?_⟩
  ·rw [hrun vs g1,dif_neg h1]
  ·obtain ⟨v,hv,hR⟩:=g3 k b cs hk
   have:vs.toArray.getD k undef=v:=by simp [Array.getD_eq_getD_getElem?,hv]
   rw [this];exact hR
def exC (H:Heap) (c c':AC):Prop:=
 match c,c' with
 |.so id off len,.nw e sz rows=>off=0∧H id=.arr e sz false rows∧len=rows.length
 |.so id off len,.sl t cl rows=>t≠.brw∧cl=false∧rowsOf H (.so id off len)=some rows
 |.raw (.slice none 0 0),.nw _ _ rows=>rows=[]
 |.raw (.slice none 0 0),.sl _ _ rows=>rows=[]
 |.sl t cl xs,.sl t' cl' xs'=>xs=xs'∧(t'=t∨(t=.new∧t'=.old))∧t'≠.brw∧(cl'=true→cl=true)
 |.raw v,.raw v'=>v=v'
 |.str l,.str l'=>l=l'
 |_,_=>False
def exL (H:Heap):List AC→List AC→Prop
 |[],[]=>True
 |c::cs,d::ds=>exC H c d∧exL H cs ds
 |_,_=>False
def exT (H:Heap):List (Bool×List AC)→List (Bool×List AC)→Prop
 |[],[]=>True
 |(b,cs)::r,(b',cs')::r'=>b=b'∧exL H cs cs'∧exT H r r'
 |_,_=>False
def exV (H:Heap):AV→AV→Prop
 |.c x,.c y=>exC H x y
 |.g xs,.g ys=>exL H xs ys
 |.t xs,.t ys=>exT H xs ys
 |_,_=>False
def soIds:List AC→List Id
 |[]=>[]
 |.so id _ _::r=>id::soIds r
 |_::r=>soIds r
theorem exL_get {H:Heap}:∀{cs ds:List AC},exL H cs ds→cs.length=ds.length∧∀(k:Nat) d,ds[k]?=some d→∃c,cs[k]?=some c∧exC H c d
 |[],[],_=>by simp
 |[],_::_,h=>h.elim
 |_::_,[],h=>h.elim
 |c::cs,d::ds,h=>by
  obtain ⟨g1,g2⟩:=exL_get h.2
  refine ⟨by simp [g1],fun k d' hk=>?_⟩
  cases k with
  |zero=>simp at hk;subst hk;exact ⟨c,rfl,h.1⟩
  |succ k=>simpa using g2 k d' (by simpa using hk)
theorem exL_append {H:Heap}:∀{cs ds cs' ds':List AC},exL H cs ds→exL H cs' ds'→exL H (cs++cs') (ds++ds')
 |[],[],_,_,_,h=>h
 |c::cs,d::ds,_,_,h,h'=>⟨h.1,exL_append h.2 h'⟩
 |[],_::_,_,_,h,_=>h.elim
 |_::_,[],_,_,h,_=>h.elim
theorem exT_flat {H:Heap}:∀{xs ys:List (Bool×List AC)},exT H xs ys→exL H (flatT xs) (flatT ys)
 |[],[],_=>trivial
 |(b,cs)::r,(b',cs')::r',h=>exL_append h.2.1 (exT_flat h.2.2)
 |[],_::_,h=>h.elim
 |_::_,[],h=>h.elim
theorem exV_flat {H:Heap} {x y:AV} (h:exV H x y):exL H x.flat y.flat:=by
 cases x<;>cases y<;>first|exact h.elim|exact ⟨h,trivial⟩|exact h|exact exT_flat h
theorem soIds_mem:∀{cs:List AC} {k:Nat} {id:Id} {off len:Nat},cs[k]?=some (.so id off len)→id∈soIds cs
 |[],k,id,off,len,h=>by simp at h
 |c::cs,k,id,off,len,h=>by
  cases k with
  |zero=>simp at h;subst h;simp [soIds]
  |succ k=>
   have:=soIds_mem (cs:=cs) (by simpa using h)
   cases c<;>simp [soIds,this]
theorem soIds_inj:∀{cs:List AC},(soIds cs).Nodup→∀{j k:Nat} {id:Id} {o1 l1 o2 l2:Nat},cs[j]?=some (.so id o1 l1)→cs[k]?=some (.so id o2 l2)→j=k
 |[],_,j,k,id,o1,l1,o2,l2,h1,_=>by simp at h1
 |c::cs,hn,j,k,id,o1,l1,o2,l2,h1,h2=>by
  have hn':(soIds cs).Nodup:=by
   cases c<;>first|exact hn|(simp only [soIds,List.nodup_cons] at hn;exact hn.2)
  cases j with
  |zero=>
   simp at h1
   subst h1
   simp only [soIds,List.nodup_cons] at hn
   cases k with
   |zero=>rfl
   |succ k=>exact (hn.1 (soIds_mem (cs:=cs) (by simpa using h2))).elim
  |succ j=>
   cases k with
   |zero=>
    simp at h2
    subst h2
    simp only [soIds,List.nodup_cons] at hn
    exact (hn.1 (soIds_mem (cs:=cs) (by simpa using h1))).elim
   |succ k=>exact congrArg (·+1) (soIds_inj hn' (by simpa using h1) (by simpa using h2))
end Go.AE
set_option linter.unusedVariables false
set_option linter.unusedSimpArgs false
namespace Go.AE
open Go
variable {P:Program} {C:Ctx P} {ρ:Lies} {st:St} {a:Act} {w:World}
theorem exT_get (nm:Nat→Id) {H:Heap}:∀{ps qs:List (Bool×List AC)} (base:Nat),exT H ps qs→ps.length=qs.length∧∀(j:Nat) b ds,qs[j]?=some (b,ds)→
  ∃cs k',ps[j]?=some (b,cs)∧exL H cs ds∧(∀(i:Nat) c,cs[i]?=some c→(flatT ps)[k'+i]?=some c)∧(∀(i:Nat) d,ds[i]?=some d→(flatT qs)[k'+i]?=some d)∧
   (adT nm base qs)[j]?=some (b,adL nm (base+k') ds)
 |[],[],base,_=>by simp
 |[],_::_,_,h=>h.elim
 |_::_,[],_,h=>h.elim
 |(b0,cs0)::ps,(b1,ds0)::qs,base,h=>by
  obtain ⟨rfl,h1,h2⟩:=h
  obtain ⟨l0,_⟩:=exL_get h1
  obtain ⟨g1,g2⟩:=exT_get nm (base+ds0.length) h2
  refine ⟨by simp [g1],fun j b ds hj=>?_⟩
  cases j with
  |zero=>
   simp at hj
   obtain ⟨rfl,rfl⟩:=hj
   refine ⟨cs0,0,rfl,h1,fun i c hi=>?_,fun i d hi=>?_,rfl⟩
   ·simp only [flatT,Nat.zero_add]
    rw [List.getElem?_append_left (List.getElem?_eq_some_iff.1 hi).1];exact hi
   ·simp only [flatT,Nat.zero_add]
    rw [List.getElem?_append_left (List.getElem?_eq_some_iff.1 hi).1];exact hi
  |succ j=>
   obtain ⟨cs,k',q1,q2,q3,q4,q5⟩:=g2 j b ds (by simpa using hj)
   refine ⟨cs,ds0.length+k',by simpa using q1,q2,fun i c hi=>?_,fun i d hi=>?_,?_⟩
   ·simp only [flatT]
    rw [List.getElem?_append_right (by omega),show ds0.length+k'+i-cs0.length=k'+i from by omega]
    exact q3 i c hi
   ·simp only [flatT]
    rw [List.getElem?_append_right (by omega),show ds0.length+k'+i-ds0.length=k'+i from by omega]
    exact q4 i d hi
   ·simp only [adT,List.getElem?_cons_succ]
    rw [q5,Nat.add_assoc]
theorem export_rel (h:Rel C ρ st a w) {res ret:AV} {v:Value} (hv:RelV w (Fr C st.H ρ) st.H ρ res v) (hret:∀c∈ret.flat,RetC c) (hex:exV st.H res ret) (hnd:(soIds res.flat).Nodup)
  (nm:Nat→Id) (inj:∀i j,nm i=nm j→i=j) :
  ∃ρ',RelH C (adH nm 0 ret.flat noHeap) ρ' w∧RelV w (Fr C (adH nm 0 ret.flat noHeap) ρ') (adH nm 0 ret.flat noHeap) ρ' (ret.ad nm) v:=by
 obtain ⟨hlen,hcell⟩:=exL_get (exV_flat hex)
 let lieOf:AC→Option (Nat×Nat×Nat):=fun c=>match c with
  |.so id _ _=>ρ id
  |_=>none
 have hdec:∀i:Id,Decidable (∃k,i=nm k):=fun i=>Classical.propDecidable _
 let ρ':Lies:=fun i=>if hk:∃k,i=nm k then lieOf ((res.flat)[Classical.choose hk]?.getD .junk) else none
 have hρ':∀k,ρ' (nm k)=lieOf ((res.flat)[k]?.getD .junk):=fun k=>by
  have hk:∃k',nm k=nm k':=⟨k,rfl⟩
  have:Classical.choose hk=k:=inj _ _ (Classical.choose_spec hk).symm
  simp only [ρ']
  rw [dif_pos hk,this]
 generalize hHe:adH nm 0 ret.flat noHeap=He
 have arr:∀id e sz f rows,He id=.arr e sz f rows→f=false∧∃k,ret.flat[k]?=some (.nw e sz rows)∧id=nm k∧
   ((rows=[]∧ρ' id=none)∨∃id0 n,res.flat[k]?=some (.so id0 0 n)∧st.H id0=.arr e sz false rows∧n=rows.length∧ρ' id=ρ id0):=fun id e sz f rows hid=>by
  subst hHe
  obtain ⟨rfl,k,hk,rfl⟩:=adH_arr nm inj ret.flat hid
  refine ⟨rfl,k,hk,rfl,?_⟩
  obtain ⟨c,hc,hx⟩:=hcell k _ hk
  have hr:=hρ' k
  rw [hc] at hr
  simp only [Option.getD_some] at hr
  unfold exC at hx
  split at hx
  ·rename_i id0 off len e' sz' rows' heq
   cases heq
   obtain ⟨rfl,h1,h2⟩:=hx
   exact .inr ⟨id0,len,hc,h1,h2,by rw [hr]⟩
  ·rename_i heq;cases heq
  ·rename_i e' sz' rows' heq
   cases heq
   exact .inl ⟨hx,by rw [hr]⟩
  ·rename_i heq;cases heq
  ·rename_i heq;cases heq
  ·rename_i heq;cases heq
  ·rename_i heq;cases heq
  ·exact hx.elim
 have mutE:∀b,Mut He ρ' b→∃(k:Nat) (id0:Id) (n e sz:Nat) (rows:List (List AC)) (cap s:Nat),res.flat[k]?=some (.so id0 0 n)∧ret.flat[k]?=some (.nw e sz rows)∧st.H id0=.arr e sz false rows∧ρ id0=some (b,cap,s):=fun b ⟨id,e,sz,rows,cap,s,hid,hρ⟩=>by
  obtain ⟨_,k,hk,rfl,h2⟩:=arr id e sz false rows hid
  rcases h2 with ⟨_,h2⟩|⟨id0,n,h2,h3,h4,h5⟩
  ·rw [h2] at hρ;cases hρ
  ·exact ⟨k,id0,n,e,sz,rows,cap,s,h2,hk,h3,by rw [←h5];exact hρ⟩
 have mut2:∀b,Mut He ρ' b→Mut st.H ρ b:=fun b m=>by
  obtain ⟨k,id0,n,e,sz,rows,cap,s,_,_,h3,h4⟩:=mutE b m
  exact ⟨id0,e,sz,rows,cap,s,h3,h4⟩
 have hF:∀t b,t≠.brw→Fr C st.H ρ t b→Fr C He ρ' t b:=fun t b _ hf=>⟨hf.1,fun m=>hf.2 (mut2 b m)⟩
 have hrowOf:∀id e sz f rows,He id=.arr e sz f rows→Row w (Fr C He ρ') He ρ' C.p id e sz rows:=fun id e sz f rows hid=>by
  obtain ⟨_,k,hk,rfl,h2⟩:=arr id e sz f rows hid
  have hrc:RetC (.nw e sz rows):=hret _ (List.mem_of_getElem? hk)
  rcases h2 with ⟨rfl,h2⟩|⟨id0,n,h2,h3,h4,h5⟩
  ·exact ⟨by simp,.inl ⟨h2,rfl⟩⟩
  ·have hr:=h.heap.row id0 e sz false rows h3
   refine ⟨hr.rowlen,?_⟩
   rcases hr.lies with ⟨q1,q2⟩|⟨b,cap,cur,q1,q2,q3,q4,q5,q6,q7⟩
   ·exact .inl ⟨by rw [h5];exact q1,q2⟩
   ·refine .inr ⟨b,cap,cur,by rw [h5];exact q1,q2,q3,q4,q5,q6,fun i j r c hi hj=>?_⟩
    obtain ⟨u,u1,u2,u3⟩:=q7 i j r c hi hj
    exact ⟨u,u1,u2,u3.noid (hrc r (List.mem_of_getElem? hi) c (List.mem_of_getElem? hj)) hF⟩
 have cellR:∀(k:Nat) d c u,ret.flat[k]?=some d→res.flat[k]?=some c→exC st.H c d→RelC w (Fr C st.H ρ) st.H ρ c u→RelC w (Fr C He ρ') He ρ' (adC nm k d) u:=fun k d c u hk hc hx hu=>by
  have hrc:=hret d (List.mem_of_getElem? hk)
  have hr:=hρ' k
  rw [hc] at hr
  simp only [Option.getD_some] at hr
  have hun:∀e sz rows,d=.nw e sz rows→He (nm k)≠.unborn:=fun e sz rows hd=>by
   rw [←hHe]
   rcases adH_get nm ret.flat 0 noHeap (nm k) inj with ⟨j',e',sz',xs',h1,h2,h3⟩|⟨h1,_⟩
   ·rw [h3];simp
   ·exact (h1 k e sz rows (by rw [hk,hd]) (by simp)).elim
  unfold exC at hx
  split at hx
  ·rename_i id off len e sz rows
   obtain ⟨rfl,h1,h2⟩:=hx
   simp only [adC]
   cases hu with
   |so _ _ _ _ hne hs=>
    have hs:=hs (by rw [h1];rfl)
    refine .so _ _ _ _ (hun _ _ _ rfl) fun _=>?_
    unfold SoVal at *
    rw [hr]
    subst h2
    exact hs
  ·rename_i id off len t cl rows
   obtain ⟨ht,rfl,hrows⟩:=hx
   simp only [adC]
   have live:∃e sz f rs,st.H id=.arr e sz f rs:=by
    simp only [rowsOf] at hrows
    split at hrows
    ·rename_i e sz f rs hid;exact ⟨e,sz,f,rs,hid⟩
    ·cases hrows
   obtain ⟨e0,sz0,f0,rs0,hid0⟩:=live
   rcases rows_rel h.heap hu hrows with ⟨hn,rfl⟩|⟨b,o',cap,sz,rfl,g1,g2,g3⟩
   ·exact .slNil _ _ _ hn
   ·have hz:(rows=[]∧Nil0 (.slice (some ⟨b,o',none⟩) rows.length cap))∨ρ id≠none:=by
     by_cases hz:ρ id=none
     ·left
      rcases (h.heap.row id e0 sz0 f0 rs0 hid0).lies with ⟨q1,q2⟩|⟨b',cap',cur,q1,q2,q3,_⟩
      ·subst q2
       cases hu with
       |so _ _ _ _ hne hs=>
        have hs:=hs (by rw [hid0];rfl)
        unfold SoVal at hs
        rw [q1] at hs
        refine ⟨?_,hs.2.2⟩
        simp only [rowsOf,hid0] at hrows
        split at hrows
        ·cases hrows;simp
        ·cases hrows
      ·rw [hz] at q1;cases q1
     ·exact .inr hz
    rcases hz with ⟨rfl,hz⟩|hz
    ·exact .slNil _ _ _ hz
    have hbl:b<w.heap.size∧C.p≤b∧∃c s,ρ id=some (b,c,s):=by
     cases hu with
     |so _ _ _ _ hne hs=>
      have hs:=hs (by rw [hid0];rfl)
      unfold SoVal at hs
      rcases (h.heap.row id e0 sz0 f0 rs0 hid0).lies with ⟨q1,_⟩|⟨b',cap',cur,q1,q2,q3,_⟩
      ·exact (hz q1).elim
      ·rw [q1] at hs
       obtain ⟨o'',he,_⟩:=hs
       cases he
       exact ⟨q3.lt,q2,_,_,q1⟩
    obtain ⟨hb,hp,cc,ss,hρid⟩:=hbl
    have hFb:Fr C He ρ' t b:=by
     refine ⟨.inl hp,fun m=>?_⟩
     obtain ⟨k2,id2,n2,e2,sz2,rows2,cap2,s2,m1,m2,m3,m4⟩:=mutE b m
     have:id2=id:=h.heap.inj id2 id e2 sz2 rows2 e0 sz0 f0 rs0 b cap2 s2 cc ss m3 hid0 m4 hρid
     subst this
     have:=soIds_inj hnd m1 hc
     subst this
     rw [hk] at m2;cases m2
    obtain ⟨news,n1,n2,n3,n4⟩:=app_vals g1 g3
    have hget:∀q,q<rows.length*sz→∃u,news[q]?=some u∧w.cell? ⟨b,o'+q,none⟩=some u:=fun q hq=>by
     have hlt:q<news.length:=by omega
     have:=n2 q news[q] (List.getElem?_eq_getElem hlt)
     rw [Addr.add_lit] at this
     exact ⟨_,List.getElem?_eq_getElem hlt,this⟩
    refine .sl t false rows b o' cap sz (fun q=>news.getD q undef) hb hFb g2 (fun e=>by cases e) (fun i r hi=>g1 r (List.mem_of_getElem? hi)) (fun q hq=>?_) (fun q hq=>?_) (fun i j r c hi hj=>?_)
    ·obtain ⟨u,u1,u2⟩:=hget q hq
     simp [List.getD,u1,u2]
    ·obtain ⟨u,u1,u2⟩:=hget q hq
     have:news.getD q undef=u:=by simp [List.getD,u1]
     rw [this];exact n3 u (List.mem_of_getElem? u1)
    ·obtain ⟨u,u1,u2,u3⟩:=n4 i j r c hi hj
     have:news.getD (i*sz+j) undef=u:=by simp [List.getD,u1]
     rw [this]
     cases hrc with
     |sl _ _ _ _ hn=>exact u3.noid (hn r (List.mem_of_getElem? hi) c (List.mem_of_getElem? hj)) hF
  ·rename_i e sz rows
   subst hx
   simp only [adC]
   have:=relC_raw hu
   subst this
   refine .so _ _ _ _ (hun _ _ _ rfl) fun _=>?_
   unfold SoVal
   rw [hr]
   exact ⟨rfl,rfl,.nil⟩
  ·rename_i t cl rows
   subst hx
   have:=relC_raw hu
   subst this
   exact .slNil _ _ _ .nil
  ·rename_i t cl xs t' cl' xs'
   obtain ⟨rfl,ht,hb,hcl⟩:=hx
   simp only [adC]
   cases hu with
   |slNil _ _ _ hn=>exact .slNil _ _ _ hn
   |sl _ _ _ b o cap sz vs hb' hf hcap hcl2 hrow hcell hone hrel=>
    have hf':Fr C He ρ' t' b:=by
     rcases ht with rfl|⟨rfl,rfl⟩
     ·exact hF _ b hb hf
     ·refine ⟨?_,fun m=>hf.2 (mut2 b m)⟩
      rcases hf.1 with q|⟨q,_⟩
      ·exact .inl q
      ·exact (q rfl).elim
    cases hrc with
    |sl _ _ _ _ hn=>
     exact .sl t' cl' xs b o cap sz vs hb' hf' hcap (fun e=>hcl2 (hcl e)) hrow hcell hone fun i j r c hi hj=>(hrel i j r c hi hj).noid (hn r (List.mem_of_getElem? hi) c (List.mem_of_getElem? hj)) hF
  ·subst hx
   exact hu.noid (.raw _) hF
  ·subst hx
   exact hu.noid (.str _) hF
  ·exact hx.elim
 refine ⟨ρ',⟨h.heap.below,hrowOf,?_,by rw [←hHe];exact fin_adH nm _ _ (H:=noHeap) ⟨0,fun _ _ _=>rfl⟩⟩,?_⟩
 ·intro i1 i2 e1 s1 r1 e2 s2 f2 r2 b c s c' s' h1 h2 hρ1 hρ2
  obtain ⟨_,k1,a1,rfl,b1⟩:=arr i1 e1 s1 false r1 h1
  obtain ⟨_,k2,a2,rfl,b2⟩:=arr i2 e2 s2 f2 r2 h2
  rcases b1 with ⟨_,b1⟩|⟨id1,n1,p1,p2,p3,p4⟩
  ·rw [b1] at hρ1;cases hρ1
  ·rcases b2 with ⟨_,b2⟩|⟨id2,n2,q1,q2,q3,q4⟩
   ·rw [b2] at hρ2;cases hρ2
   ·rw [p4] at hρ1
    rw [q4] at hρ2
    have:=h.heap.inj id1 id2 e1 s1 r1 e2 s2 false r2 b c s c' s' p2 q2 hρ1 hρ2
    subst this
    rw [soIds_inj hnd p1 q1]
 ·cases res with
  |c x=>
   cases ret with
   |c y=>
    cases hv with
    |c _ _ hx=>exact .c _ _ (cellR 0 y x _ rfl rfl hex hx)
   |_=>exact hex.elim
  |g xs=>
   cases ret with
   |g ys=>
    cases hv with
    |g _ vs hl hx=>
     obtain ⟨g1,g2⟩:=exL_get (H:=st.H) (cs:=xs) (ds:=ys) hex
     refine .g _ vs (by rw [(adL_get nm ys 0).1];omega) fun k c hc=>?_
     rw [(adL_get nm ys 0).2,Option.map_eq_some_iff] at hc
     obtain ⟨d,hd,rfl⟩:=hc
     obtain ⟨c0,hc0,hx0⟩:=g2 k d hd
     rw [Nat.zero_add]
     exact cellR k d c0 _ hd hc0 hx0 (hx k c0 hc0)
   |_=>exact hex.elim
  |t ps=>
   cases ret with
   |t qs=>
    cases hv with
    |t _ vs hl hx=>
     obtain ⟨g1,g2⟩:=exT_get nm (H:=st.H) (ps:=ps) (qs:=qs) 0 hex
     refine .t _ vs (by rw [(adT_get nm qs 0).1];omega) fun k b cs hk=>?_
     obtain ⟨k',ds,q1,rfl,_⟩:=(adT_get nm qs 0).2 k b cs hk
     obtain ⟨cs',k2,p1,p2,p3,p4,p5⟩:=g2 k b ds q1
     rw [p5] at hk
     simp only [Option.some.injEq,Prod.mk.injEq,true_and] at hk
     rw [←hk,Nat.zero_add]
     have hxk:=hx k b cs' p1
     obtain ⟨l1,l2⟩:=exL_get p2
     generalize vs.getD k undef=u at hxk
     cases hxk with
     |c x _ hxx=>
      match ds,l1,l2,p4,p2 with
      |[d],_,_,p4,p2=>
       simp only [adL]
       exact .c _ _ (cellR k2 d x _ (p4 0 d rfl) (p3 0 x rfl) p2.1 hxx)
     |g _ us hl hxx=>
      refine .g _ us (by rw [(adL_get nm ds k2).1];omega) fun i c hc=>?_
      rw [(adL_get nm ds k2).2,Option.map_eq_some_iff] at hc
      obtain ⟨d,hd,rfl⟩:=hc
      obtain ⟨c0,hc0,hx0⟩:=l2 i d hd
      exact cellR (k2+i) d c0 _ (p4 i d hd) (p3 i c0 hc0) hx0 (hxx i c0 hc0)
   |_=>exact hex.elim
end Go.AE
set_option linter.unusedVariables false
set_option linter.unusedSimpArgs false
namespace Go.AE
open Go
variable {P:Program}
def initS (args:List AV):St:={s:=fun t=>args.getD t (.c (.raw undef)),H:=noHeap,T:=0}
def finK (P:Program) (fn:Func) (ret:AV) (e:AEx) (st:St):Prop:=
 (match e with|.normal|.ret=>True|_=>False)∧∃res,resA P st fn.results.toList=some res∧exV st.H res ret∧(soIds res.flat).Nodup
def CalmOK (P:Program) (calm:Array Oper→Bool):Prop:=
 ∀(C:Ctx P) (n:Nat) (ops:Array Oper) (id:Nat) (K:St→Prop) (Q:Exit→Act→World→Prop) ρ st a w,calm ops=true→dstsOK n ops.toList=true→a.tmps.size=n→Rel C ρ st a w→
   (∀a w,SemK C n K a w→Q .normal a w)→(∀c a w,¬Q (.panic c) a w)→drawnK P true ops K st→(Code.region id ops true).wp P Q a w
def fnOK (calm:Array Oper→Bool) (fn:Func) (k:Nat):Bool:=
 fn.name != "runtime.NumGoroutine"&&(match fn.body with|some c=>codeOK calm fn.ntmps c|none=>false)&&decide (k≤fn.ntmps)
theorem initRel {w:World} {hI:Inv P w} {G:Tag→Nat→Prop} {args:List AV} {vs:Array Value} {n:Nat} (hsz:vs.size=args.length)
  (hargs:∀(k:Nat) x,args[k]?=some x→RelV w (Fr (Ctx.of w hI G) noHeap noLies) noHeap noLies x (vs.getD k undef)) :
  Rel (Ctx.of w hI G) noLies (initS args) {tmps:=vs++Array.replicate n undef,defers:=[]} w:=by
 refine ⟨⟨RowKit.Below.refl _ _,(fun id e sz f rows h=>by cases h),(fun id id' e sz rows e' sz' f' rows' b c s c' s' h=>by cases h),⟨0,fun _ _ _=>rfl⟩⟩,fun t=>?_,rfl,trivial⟩
 simp only [initS]
 by_cases ht:t<args.length
 ·have h1:args[t]?=some (args.getD t (.c (.raw undef))):=by simp [ht]
  have h2:(vs++Array.replicate n undef).getD t undef=vs.getD t undef:=by
   simp [Array.getD_eq_getD_getElem?,Array.getElem?_append,show t<vs.size by omega]
  rw [h2];exact hargs t _ h1
 ·have h1:args.getD t (.c (.raw undef))=.c (.raw undef):=by simp [List.getD,List.getElem?_eq_none (Nat.le_of_not_lt ht)]
  have h2:(vs++Array.replicate n undef).getD t undef=undef:=by
   simp only [Array.getD_eq_getD_getElem?,Array.getElem?_append,show ¬t<vs.size by omega,if_false,Array.getElem?_replicate]
   split<;>rfl
  rw [h1,h2];exact .c _ _ (.raw _)
theorem pev_of {calm:Array Oper→Bool} (hcalm:CalmOK P calm) {f:FuncId} {fn:Func} {c:Code} {args:List AV} {ret:AV} (hf:P.funcs[f]?=some fn) (hb:fn.body=some c)
  (hok:fnOK calm fn args.length=true) (hret:∀c∈ret.flat,RetC c) (harg:∀x∈args,∀c∈x.flat,VOK c) (h:awp P c (finK P fn ret) (initS args)):PEv P f args ret:=by
 simp only [fnOK,hb,Bool.and_eq_true,decide_eq_true_eq,bne_iff_ne,ne_eq] at hok
 obtain ⟨⟨hname,hcode⟩,hle⟩:=hok
 refine ⟨⟨by simp [okCall,hf,hb,hname],hret,harg⟩,fun w hI G vs hsz hargs nm inj=>?_⟩
 refine calls_of_wp hf hb (Code.wp_mono (fun e a w' q=>?_) (awp_sound calm hcalm c fn.ntmps _ noLies (initS args) _ w hcode (by simp;omega) (initRel hsz hargs) h))
 have fin:SemK (Ctx.of w hI G) fn.ntmps (fun st=>∃res,resA P st fn.results.toList=some res∧exV st.H res ret∧(soIds res.flat).Nodup) a w'→
   a.defers=[]∧∃v,(results fn a.tmps).run P w'=.ok v w'∧(∃v',Ending.returned v=.returned v'∧∃ρ,RelH (Ctx.of w hI G) (adH nm 0 ret.flat noHeap) ρ w'∧
    RelV w' (Fr (Ctx.of w hI G) (adH nm 0 ret.flat noHeap) ρ) (adH nm 0 ret.flat noHeap) ρ (ret.ad nm) v'):=fun ⟨_,ρ,st,hr,res,g1,g2,g3⟩=>by
  obtain ⟨v,h1,h2⟩:=resA_sound hr g1
  obtain ⟨ρ',h3,h4⟩:=export_rel hr h2 hret g2 g3 nm inj
  exact ⟨hr.nodef,v,h1,v,rfl,ρ',h3,h4⟩
 cases e with
 |normal=>exact fin (SemK.mono q fun st hs=>hs.2)
 |ret=>exact fin (SemK.mono q fun st hs=>hs.2)
 |exit id=>
  obtain ⟨_,_,_,_,hs⟩:=q
  exact hs.1.elim
 |_=>exact q.elim
theorem acall_pure0 {dr:Bool} {st:St} {dst:Option Nat} {f:FuncId} {args args':List AV} {ret:AV} {K:St→Prop} (hp:PEv P f args' ret) (hv:viewA st.H args=some args')
  (hun:adUn (nmOf st dst) st.H 0 ret.flat) (hdr:dr=true→ret.flat.length≤1024∧dst.isSome=true) (hk:K (adopt st dst ret)):ACall P dr st dst f args K:=.inl ⟨false,args',ret,hv,hp,hun,hdr,hk⟩
theorem awp_skip {Q:AEx→St→Prop} {st:St}:awp P .skip Q st=Q .normal st:=rfl
theorem awp_region {id:Nat} {ops:Array Oper} {d:Bool} {Q:AEx→St→Prop} {st:St}:awp P (.region id ops d) Q st=drawnK P d ops (fun st=>Q .normal {st with T:=st.T+1}) st:=rfl
theorem awp_seq {x y:Code} {Q:AEx→St→Prop} {st:St}:awp P (.seq x y) Q st=awp P x (athen (awp P y Q) Q) st:=rfl
theorem awp_cond {c:Operand} {x y:Code} {Q:AEx→St→Prop} {st:St}:awp P (.cond c x y) Q st=(match st.eval c with
  |.c (.raw (.bool b))=>(b=true→awp P x Q st)∧(b=false→awp P y Q st)
  |_=>False):=rfl
theorem awp_block {id:Nat} {x:Code} {Q:AEx→St→Prop} {st:St}:awp P (.block id x) Q st=awp P x (ablock id Q) st:=rfl
theorem awp_exit {id:Nat} {Q:AEx→St→Prop} {st:St}:awp P (.exit id) Q st=Q (.exit id) st:=rfl
theorem awp_ret {Q:AEx→St→Prop} {st:St}:awp P .ret Q st=Q .ret st:=rfl
end Go.AE
set_option linter.unusedVariables false
set_option linter.unusedSimpArgs false
namespace Go.AE
open Go
variable {P:Program}
structure Eff where
 v:AV
 N:Id→Option OK
def Eff.app (e:Eff) (dst:Option Nat) (A:St):St:={s:=(A.put dst e.v).s,H:=fun id=>(e.N id).getD (A.H id),T:=A.T}
def noEff (v:AV):Eff:=⟨v,fun _=>none⟩
def oneEff (v:AV) (id:Id) (ob:OK):Eff:=⟨v,fun j=>if j=id then some ob else none⟩
theorem noEff_app (v:AV) (dst:Option Nat) (A:St):(noEff v).app dst A=A.put dst v:=by cases dst<;>rfl
theorem oneEff_app (v:AV) (id:Id) (ob:OK) (dst:Option Nat) (A:St):(oneEff v id ob).app dst A={A with H:=hset A.H id ob}.put dst v:=by
 have:(fun j=>((oneEff v id ob).N j).getD (A.H j))=hset A.H id ob:=by
  funext j
  unfold hset oneEff
  by_cases h:j=id<;>simp [h]
 unfold Eff.app
 rw [this]
 cases dst<;>rfl
def Alike (op:Op) (A B:St):Prop:=
 B.T=A.T∧(∀x∈op.operands.toList,B.eval x=A.eval x)∧
 (hfree op=false→∀x∈op.operands.toList,∀id,idV id (A.eval x)→A.H id≠.unborn→B.H id=A.H id)
def ownId (dst:Option Nat) (T:Nat) (id:Id):Prop:=∃d,dst=some d∧id.1=T∧(id.2=d∨∃k,k<1024∧id.2=d*1024+1024+k)
def HasEff (P:Program) (dst:Option Nat) (op:Op) (A:St) (K:St→Prop):Prop:=
 ∃e:Eff,K (e.app dst A)∧(hfree op=true→∀id,e.N id=none)∧
  (∀id ob,e.N id=some ob→ob≠.unborn∧((ownId dst A.T id∧A.H id=.unborn)∨(writer op=true∧A.H id≠.unborn∧∃x∈op.operands.toList,idV id (A.eval x))))∧
  ∀B,Alike op A B→(∀id,e.N id≠none→A.H id=.unborn→B.H id=.unborn)→astep P true dst op B (·=e.app dst B)
theorem HasEff.pure {dst:Option Nat} {op:Op} {A:St} {K:St→Prop} (v:AV) (hk:K (A.put dst v)) (hB:∀B,Alike op A B→astep P true dst op B (·=B.put dst v)):HasEff P dst op A K:=
 ⟨noEff v,by rw [noEff_app];exact hk,fun _ _=>rfl,fun id ob h=>by simp [noEff] at h,fun B hb _=>by rw [noEff_app];exact hB B hb⟩
theorem HasEff.new {d:Nat} {op:Op} {A:St} {K:St→Prop} {e sz:Nat} {rows:List (List AC)} {v:Id→AC} (hf:hfree op=false) (hk:newObj A (some d) e sz rows v K)
  (hB:∀B,Alike op A B→B.H (B.T,d)=.unborn→∀K',newObj B (some d) e sz rows v K'→astep P true (some d) op B K'):HasEff P (some d) op A K:=by
 refine ⟨oneEff (.c (v (A.T,d))) (A.T,d) (.arr e sz false rows),by rw [oneEff_app];exact hk.2,fun h=>(by rw [hf] at h;cases h),fun id ob h=>?_,fun B hb hun=>?_⟩
 ·simp only [oneEff] at h
  split at h
  ·rename_i hid
   cases h
   subst hid
   exact ⟨by simp,.inl ⟨⟨d,rfl,rfl,.inl rfl⟩,hk.1⟩⟩
  ·cases h
 ·have hT:B.T=A.T:=hb.1
  have h1:B.H (B.T,d)=.unborn:=by rw [hT];exact hun _ (by simp [oneEff]) hk.1
  refine hB B hb h1 _ ⟨h1,?_⟩
  rw [oneEff_app,hT]
theorem one_alike {H H':Heap} {c:AC} (h:AC.one H c=true) (hH:∀id,idC id c→H id≠.unborn→H' id=H id):AC.one H' c=true:=by
 cases c<;>first
  |(simp only [AC.one] at h ⊢;rw [hH _ (by constructor) (by intro e;rw [e] at h;cases h)];exact h)
  |exact h
theorem ones_alike {H H':Heap} {cs:List AC} (h:cs.all (AC.one H)=true) (hH:∀id,(∃c∈cs,idC id c)→H id≠.unborn→H' id=H id):cs.all (AC.one H')=true:=by
 rw [List.all_eq_true] at *
 exact fun c hc=>one_alike (h c hc) fun id hi hu=>hH id ⟨c,hc,hi⟩ hu
theorem rowsOf_alike {H H':Heap} {c:AC} {r:List (List AC)} (h:rowsOf H c=some r) (hH:∀id,idC0 id c→H id≠.unborn→H' id=H id):rowsOf H' c=some r:=by
 cases c with
 |so id off len=>
  simp only [rowsOf] at *
  rw [hH id rfl (by intro e;rw [e] at h;cases h)]
  exact h
 |raw v=>rw [←h];unfold rowsOf;split<;>first|rfl|(split<;>simp_all)
 |_=>exact h
theorem idC_of0 {id:Id} {c:AC} (h:idC0 id c):idC id c:=by
 cases c with
 |so i o l=>cases h;constructor
 |pt i o l=>cases h;constructor
 |_=>exact h.elim
theorem cells_flat {v:AV} {cs:List AC} (h:v.cells=some cs):v.flat=cs:=by
 cases v<;>simp only [AV.cells,Option.some.injEq,reduceCtorEq] at h<;>exact h
theorem fillP_alike {H H':Heap} {offs:List (Nat×Nat×Bool)}:∀{ps:List (Nat×AV)} {cs r:List AC},fillP H offs cs ps=some r→
  (∀q∈ps,∀id,idV id q.2→H id≠.unborn→H' id=H id)→fillP H' offs cs ps=some r
 |[],_,_,h,_=>h
 |(i,v)::ps,cs,r,h,hH=>by
  unfold fillP at h
  unfold fillP
  split at h
  ·rename_i off n b xs h1 h2
   split at h
   ·rename_i hc
    obtain ⟨c1,c2,c3,c4⟩:=hc
    rw [if_pos ⟨c1,c2,c3,ones_alike c4 fun id hi hu=>hH (i,v) (by simp) id (by obtain ⟨c,hc,hi⟩:=hi;exact ⟨c,by rw [cells_flat h2];exact hc,hi⟩) hu⟩]
    exact fillP_alike h fun q hq=>hH q (by simp [hq])
   ·cases h
  ·cases h
theorem rowsP_alike {H H':Heap} {sz:Nat}:∀{ps:List (Nat×AV)} {k:Nat} {r:List (List AC)},rowsP H sz k ps=some r→
  (∀q∈ps,∀id,idV id q.2→H id≠.unborn→H' id=H id)→rowsP H' sz k ps=some r
 |[],_,_,h,_=>h
 |(i,v)::ps,k,r,h,hH=>by
  unfold rowsP at h
  unfold rowsP
  split at h
  ·rename_i xs rs h1 h2
   rw [h1,rowsP_alike h2 fun q hq=>hH q (by simp [hq])]
   simp only
   split at h
   ·rename_i hc
    obtain ⟨c1,c2,c3⟩:=hc
    rw [if_pos ⟨c1,c2,ones_alike c3 fun id hi hu=>hH (i,v) (by simp) id (by obtain ⟨c,hc,hi⟩:=hi;exact ⟨c,by rw [cells_flat h1];exact hc,hi⟩) hu⟩]
    exact h
   ·cases h
  ·cases h
theorem viewC_alike {H H':Heap} {c r:AC} (h:viewC H c=some r) (hH:∀id,idC0 id c→H id≠.unborn→H' id=H id):viewC H' c=some r:=by
 cases c with
 |so id off len=>
  simp only [viewC,Option.map_eq_some_iff] at *
  obtain ⟨rows,h1,h2⟩:=h
  exact ⟨rows,rowsOf_alike h1 hH,h2⟩
 |raw v=>rw [←h];unfold viewC;split<;>first|rfl|(rename_i e;cases e)|(split<;>simp_all)
 |_=>exact h
theorem viewL_alike {H H':Heap}:∀{cs r:List AC},viewL H cs=some r→(∀id,(∃c∈cs,idC0 id c)→H id≠.unborn→H' id=H id)→viewL H' cs=some r
 |[],_,h,_=>h
 |c::cs,r,h,hH=>by
  unfold viewL at *
  split at h
  ·rename_i x xs h1 h2
   rw [viewC_alike h1 fun id hi hu=>hH id ⟨c,by simp,hi⟩ hu,viewL_alike h2 fun id ⟨c',hc,hi⟩ hu=>hH id ⟨c',by simp [hc],hi⟩ hu]
   exact h
  ·cases h
theorem viewP_alike {H H':Heap} {c r:AC} (h:viewP H c=some r) (hH:∀id,idC0 id c→H id≠.unborn→H' id=H id):viewP H' c=some r:=by
 cases c with
 |pt id i j=>
  simp only [viewP] at *
  rw [hH id rfl (by intro e;rw [e] at h;cases h)]
  exact h
 |pv t row j=>exact h
 |raw v=>
  have h':viewC H (.raw v)=some r:=h
  exact viewC_alike h' hH
 |str l=>
  have h':viewC H (.str l)=some r:=h
  exact viewC_alike h' hH
 |sl t cl xs=>
  have h':viewC H (.sl t cl xs)=some r:=h
  exact viewC_alike h' hH
 |so id off len=>
  have h':viewC H (.so id off len)=some r:=h
  exact viewC_alike h' hH
 |fn f caps=>
  have h':viewC H (.fn f caps)=some r:=h
  exact viewC_alike h' hH
 |nw e sz xs=>
  have h':viewC H (.nw e sz xs)=some r:=h
  exact viewC_alike h' hH
 |junk=>
  have h':viewC H (.junk)=some r:=h
  exact viewC_alike h' hH
theorem viewPL_alike {H H':Heap}:∀{cs r:List AC},viewPL H cs=some r→(∀id,(∃c∈cs,idC0 id c)→H id≠.unborn→H' id=H id)→viewPL H' cs=some r
 |[],_,h,_=>h
 |c::cs,r,h,hH=>by
  unfold viewPL at *
  split at h
  ·rename_i x xs h1 h2
   rw [viewP_alike h1 fun id hi hu=>hH id ⟨c,by simp,hi⟩ hu,viewPL_alike h2 fun id ⟨c',hc,hi⟩ hu=>hH id ⟨c',by simp [hc],hi⟩ hu]
   exact h
  ·cases h
theorem viewV_alike {H H':Heap} {v r:AV} (h:viewV H v=some r) (hH:∀id,idV id v→H id≠.unborn→H' id=H id):viewV H' v=some r:=by
 cases v with
 |c x=>
  cases x with
  |fn f caps=>
   simp only [viewV,Option.map_eq_some_iff] at *
   obtain ⟨cs,h1,h2⟩:=h
   exact ⟨cs,viewPL_alike h1 fun id ⟨c,hc,hi⟩ hu=>hH id ⟨.fn f caps,by simp [AV.flat],.fn f caps c hc (idC_of0 hi)⟩ hu,h2⟩
  |_=>
   simp only [viewV,Option.map_eq_some_iff] at *
   obtain ⟨c,h1,h2⟩:=h
   exact ⟨c,viewP_alike h1 fun id hi hu=>hH id ⟨_,by simp only [AV.flat,List.mem_singleton],idC_of0 hi⟩ hu,h2⟩
 |g xs=>
  simp only [viewV,Option.map_eq_some_iff] at *
  obtain ⟨cs,h1,h2⟩:=h
  exact ⟨cs,viewL_alike h1 fun id ⟨c,hc,hi⟩ hu=>hH id ⟨c,by simp only [AV.flat];exact hc,idC_of0 hi⟩ hu,h2⟩
 |t _=>exact h
theorem viewA_alike {H H':Heap}:∀{vs r:List AV},viewA H vs=some r→(∀v∈vs,∀id,idV id v→H id≠.unborn→H' id=H id)→viewA H' vs=some r
 |[],_,h,_=>h
 |v::vs,r,h,hH=>by
  unfold viewA at *
  split at h
  ·rename_i x xs h1 h2
   rw [viewV_alike h1 (hH v (by simp)),viewA_alike h2 fun u hu=>hH u (by simp [hu])]
   exact h
  ·cases h
end Go.AE
set_option linter.unusedVariables false
set_option linter.unusedSimpArgs false
namespace Go.AE
open Go
variable {P:Program} {dst:Option Nat} {A:St} {K:St→Prop}
theorem Alike.ev {op:Op} {A B:St} (h:Alike op A B) {x:Operand} (hx:x∈op.operands.toList):B.eval x=A.eval x:=h.2.1 x hx
theorem Alike.hp {op:Op} {A B:St} (h:Alike op A B) (hf:hfree op=false) {x:Operand} (hx:x∈op.operands.toList) {c:AC} (hv:A.eval x=.c c) {id:Id} (hi:idC id c) (hu:A.H id≠.unborn):B.H id=A.H id:=
 h.2.2 hf x hx id ⟨c,by rw [hv];simp [AV.flat],hi⟩ hu
theorem eff_move {x:Operand} (hk:K (A.put dst (A.eval x))):HasEff P dst (.move x) A K:=
 .pure _ hk fun B hb=>by show B.put dst (B.eval x)=_;rw [hb.ev (by simp [Op.operands])]
theorem eff_assign {x:Operand} (hk:K (A.put dst (A.eval x))):HasEff P dst (.assign x) A K:=
 .pure _ hk fun B hb=>by show B.put dst (B.eval x)=_;rw [hb.ev (by simp [Op.operands])]
theorem eff_pick {c x y:Operand} (hk:aop P dst (.pick c x y) A K):HasEff P dst (.pick c x y) A K:=by
 simp only [aop] at hk
 split at hk
 ·rename_i q hq
  cases q with
  |true=>
   refine .pure _ (hk.1 rfl) fun B hb=>?_
   simp only [astep,aop]
   rw [hb.ev (x:=c) (by simp [Op.operands]),hb.ev (x:=x) (by simp [Op.operands]),hq]
   simp
  |false=>
   refine .pure _ (hk.2 rfl) fun B hb=>?_
   simp only [astep,aop]
   rw [hb.ev (x:=c) (by simp [Op.operands]),hb.ev (x:=y) (by simp [Op.operands]),hq]
   simp
 ·exact hk.elim
theorem eff_alloc {e:TypeId} (hk:aop P dst (.alloc e) A K):HasEff P dst (.alloc e) A K:=by
 obtain ⟨h1,h2⟩:=hk
 cases dst with
 |none=>exact h2.elim
 |some d=>exact .new rfl h2 fun B hb _ K' h'=>⟨h1,h'⟩
theorem eff_box {e:TypeId} {x:Operand} (hk:aop P dst (.box e x) A K):HasEff P dst (.box e x) A K:=by
 simp only [aop] at hk
 split at hk
 ·rename_i cs hcs
  obtain ⟨h1,h2,h3⟩:=hk
  cases dst with
  |none=>exact h3.elim
  |some d=>
   refine .new rfl h3 fun B hb _ K' h'=>?_
   simp only [astep,aop]
   rw [hb.ev (x:=x) (by simp [Op.operands]),hcs]
   refine ⟨h1,⟨h2.1,ones_alike h2.2 fun id ⟨c,hc,hi⟩ hu=>?_⟩,h'⟩
   exact hb.2.2 rfl x (by simp [Op.operands]) id ⟨c,by rw [cells_flat hcs];exact hc,hi⟩ hu
 ·exact hk.elim
theorem parts_ev {op:Op} {ps:Array (Nat×Operand)} (hop:op.operands=(ps.toList.map (·.2)).toArray) {B:St} (hb:Alike op A B) :
  (ps.toList.map fun q=>(q.1,B.eval q.2))=ps.toList.map fun q=>(q.1,A.eval q.2):=by
 apply List.map_congr_left
 intro q hq
 rw [hb.ev (x:=q.2) (by rw [hop];simp only [List.mem_map];exact ⟨q,hq,rfl⟩)]
theorem parts_id {op:Op} {ps:Array (Nat×Operand)} (hop:op.operands=(ps.toList.map (·.2)).toArray) {B:St} (hb:Alike op A B) (hf:hfree op=false) :
  ∀q∈(ps.toList.map fun q=>(q.1,A.eval q.2)),∀id,idV id q.2→A.H id≠.unborn→B.H id=A.H id:=by
 intro q hq id hi hu
 rw [List.mem_map] at hq
 obtain ⟨p,hp,rfl⟩:=hq
 exact hb.2.2 hf p.2 (by rw [hop];simp only [List.mem_map];exact ⟨p,hp,rfl⟩) id hi hu
theorem eff_build {t:TypeId} {ps:Array (Nat×Operand)} (hk:aop P dst (.build t ps) A K):HasEff P dst (.build t ps) A K:=by
 simp only [aop] at hk
 split at hk
 ·rename_i cs hcs
  refine .pure _ hk.2 fun B hb=>?_
  simp only [astep,aop]
  rw [parts_ev (op:=.build t ps) rfl hb,fillP_alike hcs (parts_id rfl hb rfl)]
  exact ⟨hk.1,by first|rfl|trivial⟩
 ·exact hk.elim
theorem eff_buildSlice {t:TypeId} {n:Nat} {ps:Array (Nat×Operand)} (hk:aop P dst (.buildSlice t n ps) A K):HasEff P dst (.buildSlice t n ps) A K:=by
 simp only [aop] at hk
 split at hk
 ·rename_i cs hcs
  obtain ⟨h1,h2⟩:=hk
  cases dst with
  |none=>exact h2.elim
  |some d=>
   refine .new rfl h2 fun B hb _ K' h'=>?_
   simp only [astep,aop]
   rw [parts_ev (op:=.buildSlice t n ps) rfl hb,rowsP_alike hcs (parts_id rfl hb rfl)]
   exact ⟨h1,h'⟩
 ·exact hk.elim
theorem eff_load {t:TypeId} {x:Operand} (hk:aop P dst (.load t x) A K):HasEff P dst (.load t x) A K:=by
 have hx:x∈(Op.load t x).operands.toList:=by simp [Op.operands]
 simp only [aop] at hk
 split at hk
 ·rename_i id i j h1
  split at hk
  ·rename_i e sz frz rows h2
   split at hk
   ·rename_i row h3
    split at hk
    ·rename_i v h4
     refine .pure _ hk.2 fun B hb=>?_
     simp only [astep,aop]
     rw [hb.ev hx,h1]
     simp only
     rw [hb.hp rfl hx h1 (id:=id) (by constructor) (by rw [h2];simp),h2]
     simp only [h3,h4]
     exact ⟨hk.1,by first|rfl|trivial⟩
    ·exact hk.elim
   ·exact hk.elim
  ·exact hk.elim
 ·rename_i tg row j h1
  split at hk
  ·rename_i v h4
   refine .pure _ hk.2 fun B hb=>?_
   simp only [astep,aop]
   rw [hb.ev hx,h1]
   simp only [h4]
   exact ⟨hk.1,by first|rfl|trivial⟩
  ·exact hk.elim
 ·exact hk.elim
theorem eff_store {t:TypeId} {x v:Operand} (hk:aop P dst (.store t x v) A K):HasEff P dst (.store t x v) A K:=by
 have hx:x∈(Op.store t x v).operands.toList:=by simp [Op.operands]
 have hv:v∈(Op.store t x v).operands.toList:=by simp [Op.operands]
 simp only [aop] at hk
 split at hk
 ·rename_i id i j cs h1 hcs
  split at hk
  ·rename_i e sz rows h2
   split at hk
   ·rename_i row h3
    obtain ⟨⟨g1,g2,g3,g4⟩,hk⟩:=hk
    have hid:idV id (A.eval x):=⟨.pt id i j,by rw [h1];simp [AV.flat],by constructor⟩
    refine ⟨oneEff (.c (.raw undef)) id (.arr e sz false (rows.set i (lay row j cs))),by rw [oneEff_app];exact hk,fun h=>(by cases h),fun id' ob h=>?_,fun B hb hun=>?_⟩
    ·simp only [oneEff] at h
     split at h
     ·rename_i e'
      cases h
      subst e'
      exact ⟨by simp,.inr ⟨rfl,by rw [h2];simp,x,hx,hid⟩⟩
     ·cases h
    ·simp only [astep,aop]
     rw [hb.ev hx,hb.ev hv,h1,hcs]
     simp only
     rw [hb.hp rfl hx h1 (id:=id) (by constructor) (by rw [h2];simp),h2]
     simp only [h3]
     refine ⟨⟨g1,g2,ones_alike g3 fun id ⟨c,hc,hi⟩ hu=>hb.2.2 rfl v hv id ⟨c,by rw [cells_flat hcs];exact hc,hi⟩ hu,g4⟩,?_⟩
     rw [oneEff_app]
   ·exact hk.elim
  ·exact hk.elim
 ·exact hk.elim
theorem eff_nilCheck {x:Operand} (hk:aop P dst (.nilCheck x) A K):HasEff P dst (.nilCheck x) A K:=by
 have hx:x∈(Op.nilCheck x).operands.toList:=by simp [Op.operands]
 simp only [aop] at hk
 split at hk
 ·rename_i id i j h1
  refine .pure _ hk.2 fun B hb=>?_
  simp only [astep,aop]
  rw [hb.ev hx,h1]
  simp only
  rw [hb.hp rfl hx h1 (id:=id) (by constructor) (by intro e;rw [e] at hk;cases hk.1)]
  exact ⟨hk.1,by first|rfl|trivial⟩
 ·exact hk.elim
theorem eff_binOp {op:BinOp} {t t':TypeId} {x y:Operand} (hk:aop P dst (.binOp op t x y t') A K):HasEff P dst (.binOp op t x y t') A K:=by
 simp only [aop] at hk
 split at hk
 ·rename_i D c h1
  refine .pure _ hk.2 fun B hb=>?_
  simp only [astep,aop]
  rw [hb.ev (x:=x) (by simp [Op.operands]),hb.ev (x:=y) (by simp [Op.operands]),h1]
  exact .inl ⟨hk.1,by first|rfl|trivial⟩
 ·exact hk.elim
theorem eff_unOp {op:UnOp} {t:TypeId} {x:Operand} (hk:aop P dst (.unOp op t x) A K):HasEff P dst (.unOp op t x) A K:=by
 cases op with
 |not=>
  simp only [aop] at hk
  split at hk
  ·rename_i q h1
   refine .pure _ hk fun B hb=>?_
   simp only [astep,aop]
   rw [hb.ev (x:=x) (by simp [Op.operands]),h1]
  ·exact hk.elim
 |_=>exact hk.elim
theorem rows_op_alike {op:Op} {x:Operand} {c:AC} {B:St} (hb:Alike op A B) (hf:hfree op=false) (hx:x∈op.operands.toList) (hv:A.eval x=.c c) {r:List (List AC)} (h:rowsOf A.H c=some r) :
  rowsOf B.H c=some r:=rowsOf_alike h fun id hi hu=>hb.hp hf hx hv (idC_of0 hi) hu
theorem eff_convert {s t:TypeId} {x:Operand} (hk:aop P dst (.convert s t x) A K):HasEff P dst (.convert s t x) A K:=by
 have hx:x∈(Op.convert s t x).operands.toList:=by simp [Op.operands]
 simp only [aop] at hk
 split at hk
 ·rename_i k n h1
  split at hk
  ·rename_i k' h2
   refine .pure _ hk.2 fun B hb=>?_
   simp only [astep,aop]
   rw [hb.ev hx,h1]
   simp only [h2]
   exact ⟨hk.1,by first|rfl|trivial⟩
  ·exact hk.elim
 ·rename_i l h1
  split at hk
  ·rename_i hf2
   obtain ⟨h3,h4⟩:=hk
   cases dst with
   |none=>exact h4.elim
   |some d=>
    refine .new rfl h4 fun B hb _ K' h'=>?_
    simp only [astep,aop]
    rw [hb.ev hx,h1]
    simp only [if_pos hf2]
    exact ⟨h3,h'⟩
  ·rename_i hf2
   refine .pure _ hk.2 fun B hb=>?_
   simp only [astep,aop]
   rw [hb.ev hx,h1]
   simp only [if_neg hf2]
   exact ⟨hk.1,by first|rfl|trivial⟩
 ·rename_i c n1 n2 h1
  split at hk
  ·rename_i l h2
   refine .pure _ hk.2 fun B hb=>?_
   obtain ⟨r,h3,h4⟩:=Option.bind_eq_some_iff.1 h2
   have h5:=rows_op_alike hb rfl hx h1 h3
   simp only [astep,aop]
   rw [hb.ev hx,h1]
   split
   ·rename_i e;cases e;exact (n1 _ _ rfl).elim
   ·rename_i e;cases e;exact (n2 _ rfl).elim
   ·rename_i e
    cases e
    rw [h5]
    simp only [Option.bind_some,h4]
    exact ⟨hk.1,by first|rfl|trivial⟩
   ·rename_i e1 e2 e3
    exact (e3 _ rfl).elim
  ·exact hk.elim
 ·exact hk.elim
theorem capsOf_alike {B:St}:∀{l:List Operand} {cs:List AC},capsOf A l=some cs→(∀x∈l,B.eval x=A.eval x)→capsOf B l=some cs
 |[],_,h,_=>h
 |x::l,cs,h,hb=>by
  unfold capsOf at h
  unfold capsOf
  split at h
  ·rename_i c cs' h1 h2
   rw [hb x (by simp),h1,capsOf_alike h2 fun y hy=>hb y (by simp [hy])]
   exact h
  ·cases h
theorem eff_makeFunc {f:Operand} {first caps:Array Operand} {g:FuncId} (hk:aop P dst (.makeFunc (.func g) first caps) A K):HasEff P dst (.makeFunc (.func g) first caps) A K:=by
 simp only [aop] at hk
 split at hk
 ·rename_i cs h1
  refine .pure _ hk.2 fun B hb=>?_
  simp only [astep,aop]
  rw [capsOf_alike h1 fun x hx=>hb.ev (by simp [Op.operands];exact .inr (by simpa using hx))]
  exact ⟨hk.1,by first|rfl|trivial⟩
 ·exact hk.elim
theorem eff_makeSlice {t:TypeId} {x y:Operand} (hk:aop P dst (.makeSlice t x y) A K):HasEff P dst (.makeSlice t x y) A K:=by
 simp only [aop] at hk
 split at hk
 ·rename_i n m h1 h2
  obtain ⟨h3,h4⟩:=hk
  cases dst with
  |none=>exact h4.elim
  |some d=>
   refine .new rfl h4 fun B hb _ K' h'=>?_
   simp only [astep,aop]
   rw [hb.ev (x:=x) (by simp [Op.operands]),hb.ev (x:=y) (by simp [Op.operands]),h1,h2]
   exact ⟨h3,h'⟩
 ·exact hk.elim
theorem eff_fieldAddr {t:TypeId} {x:Operand} {f:Nat} (hk:aop P dst (.fieldAddr t x f) A K):HasEff P dst (.fieldAddr t x f) A K:=by
 have hx:x∈(Op.fieldAddr t x f).operands.toList:=by simp [Op.operands]
 simp only [aop] at hk
 split at hk
 ·rename_i id i j off n b h1 h2
  refine .pure _ hk.2.2 fun B hb=>?_
  simp only [astep,aop]
  rw [hb.ev hx,h1,h2]
  simp only
  rw [hb.hp rfl hx h1 (id:=id) (by constructor) (by intro e;rw [e] at hk;cases hk.2.1)]
  exact ⟨hk.1,hk.2.1,by first|rfl|trivial⟩
 ·rename_i tg row j off n b h1 h2
  refine .pure _ hk.2 fun B hb=>?_
  simp only [astep,aop]
  rw [hb.ev hx,h1,h2]
  exact ⟨hk.1,by first|rfl|trivial⟩
 ·exact hk.elim
theorem eff_field {t:TypeId} {x:Operand} {f:Nat} (hk:aop P dst (.field t x f) A K):HasEff P dst (.field t x f) A K:=by
 simp only [aop] at hk
 split at hk
 ·rename_i xs off n ag h1 h2
  split at hk
  ·rename_i v h3
   refine .pure _ hk.2 fun B hb=>?_
   simp only [astep,aop]
   rw [hb.ev (x:=x) (by simp [Op.operands]),h1,h2]
   simp only [h3]
   exact ⟨hk.1,by first|rfl|trivial⟩
  ·exact hk.elim
 ·exact hk.elim
theorem eff_indexAddr {t:TypeId} {x y:Operand} (hk:aop P dst (.indexAddr t x y) A K):HasEff P dst (.indexAddr t x y) A K:=by
 have hx:x∈(Op.indexAddr t x y).operands.toList:=by simp [Op.operands]
 have hy:y∈(Op.indexAddr t x y).operands.toList:=by simp [Op.operands]
 simp only [aop] at hk
 split at hk
 ·rename_i tg cl xs k i h1 h2
  refine .pure _ hk.2 fun B hb=>?_
  simp only [astep,aop]
  rw [hb.ev hx,hb.ev hy,h1,h2]
  exact ⟨hk.1,by first|rfl|trivial⟩
 ·rename_i id off len k i h1 h2
  refine .pure _ hk.2 fun B hb=>?_
  simp only [astep,aop]
  rw [hb.ev hx,hb.ev hy,h1,h2]
  simp only
  obtain ⟨⟨g1,g2,frz,rows,g3⟩,g4⟩:=hk.1
  exact ⟨⟨⟨g1,g2,frz,rows,by rw [hb.hp rfl hx h1 (id:=id) (by constructor) (by rw [g3];simp)];exact g3⟩,g4⟩,by first|rfl|trivial⟩
 ·exact hk.elim
theorem eff_index {t:TypeId} {x y:Operand} (hk:aop P dst (.index t x y) A K):HasEff P dst (.index t x y) A K:=by
 simp only [aop] at hk
 split at hk
 ·rename_i l k i h1 h2
  refine .pure _ hk.2 fun B hb=>?_
  simp only [astep,aop]
  rw [hb.ev (x:=x) (by simp [Op.operands]),hb.ev (x:=y) (by simp [Op.operands]),h1,h2]
  exact ⟨hk.1,by first|rfl|trivial⟩
 ·exact hk.elim
theorem eff_extract {x:Operand} {i:Nat} (hk:aop P dst (.extract x i) A K):HasEff P dst (.extract x i) A K:=by
 simp only [aop] at hk
 split at hk
 ·rename_i parts h1
  split at hk
  ·rename_i cs h2
   refine .pure _ hk fun B hb=>?_
   simp only [astep,aop]
   rw [hb.ev (x:=x) (by simp [Op.operands]),h1]
   simp only [h2]
  ·rename_i c h2
   refine .pure _ hk fun B hb=>?_
   simp only [astep,aop]
   rw [hb.ev (x:=x) (by simp [Op.operands]),h1]
   simp only [h2]
  ·exact hk.elim
 ·exact hk.elim
end Go.AE
set_option linter.unusedVariables false
set_option linter.unusedSimpArgs false
namespace Go.AE
open Go
variable {P:Program} {dst:Option Nat} {A:St} {K:St→Prop}
theorem eff_slice {t:TypeId} {x:Operand} {lo hi mx:Option Operand} (hk:aop P dst (.slice t x lo hi mx) A K):HasEff P dst (.slice t x lo hi mx) A K:=by
 have hx:x∈(Op.slice t x lo hi mx).operands.toList:=by simp [Op.operands]
 have ho:∀B,Alike (.slice t x lo hi mx) A B→lo.map B.eval=lo.map A.eval∧hi.map B.eval=hi.map A.eval∧mx.map B.eval=mx.map A.eval:=fun B hb=>by
  refine ⟨?_,?_,?_⟩
  ·cases lo with
   |none=>rfl
   |some y=>simp only [Option.map_some];rw [hb.ev (x:=y) (by simp [Op.operands])]
  ·cases hi with
   |none=>rfl
   |some y=>simp only [Option.map_some];rw [hb.ev (x:=y) (by simp [Op.operands])]
  ·cases mx with
   |none=>rfl
   |some y=>simp only [Option.map_some];rw [hb.ev (x:=y) (by simp [Op.operands])]
 simp only [aop] at hk
 split at hk
 ·rename_i l h1
  split at hk
  ·rename_i k i k' j h2 h3
   refine .pure _ hk.2 fun B hb=>?_
   obtain ⟨o1,o2,o3⟩:=ho B hb
   simp only [astep,aop]
   rw [hb.ev hx,h1,o1,o2]
   simp only [h2,h3]
   exact ⟨hk.1,by first|rfl|trivial⟩
  ·exact hk.elim
 ·rename_i tg cl xs h1
  split at hk
  ·rename_i k i k' j h2 h3 h4
   refine .pure _ hk.2 fun B hb=>?_
   obtain ⟨o1,o2,o3⟩:=ho B hb
   simp only [astep,aop]
   rw [hb.ev hx,h1,o1,o2,o3]
   simp only [h2,h3,h4]
   exact ⟨hk.1,by first|rfl|trivial⟩
  ·rename_i k i k' j k'' m h2 h3 h4
   refine .pure _ hk.2 fun B hb=>?_
   obtain ⟨o1,o2,o3⟩:=ho B hb
   simp only [astep,aop]
   rw [hb.ev hx,h1,o1,o2,o3]
   simp only [h2,h3,h4]
   exact ⟨hk.1,by first|rfl|trivial⟩
  ·exact hk.elim
 ·rename_i id off len h1
  split at hk
  ·rename_i k i k' j h2 h3 h4
   refine .pure _ hk.2 fun B hb=>?_
   obtain ⟨o1,o2,o3⟩:=ho B hb
   simp only [astep,aop]
   rw [hb.ev hx,h1,o1,o2,o3]
   simp only [h2,h3,h4]
   obtain ⟨⟨g1,g2,⟨sz,frz,rows,g3,g3'⟩,g4⟩,_⟩:=hk
   exact ⟨⟨g1,g2,⟨sz,frz,rows,by rw [hb.hp rfl hx h1 (id:=id) (by constructor) (by rw [g3];simp)];exact g3,g3'⟩,g4⟩,by first|rfl|trivial⟩
  ·exact hk.elim
 ·exact hk.elim
theorem call_operands {b:Builtin} {args:Array Operand} {ts:Array TypeId}:(Op.call {callee:=.builtin b,args:=args,argTypes:=ts}).operands.toList=args.toList:=by
 simp [Op.operands,Call.operands]
theorem eff_len {x:Operand} {t:TypeId} {args:Array Operand} {ts:Array TypeId} (ha:args.toList=[x]) (ht:ts.toList=[t]) (hk:abi P dst .len [x] [t] A K):HasEff P dst (.call {callee:=.builtin .len,args:=args,argTypes:=ts}) A K:=by
 have hx:x∈(Op.call {callee:=.builtin .len,args:=args,argTypes:=ts}).operands.toList:=by rw [call_operands,ha];simp
 simp only [abi] at hk
 split at hk
 ·rename_i l h1
  refine .pure _ hk.2 fun B hb=>?_
  simp only [astep,ha,ht,abi]
  rw [hb.ev hx,h1]
  exact ⟨hk.1,by first|rfl|trivial⟩
 ·rename_i id off len h1
  refine .pure _ hk.2 fun B hb=>?_
  simp only [astep,ha,ht,abi]
  rw [hb.ev hx,h1]
  simp only
  rw [hb.hp rfl hx h1 (id:=id) (by constructor) (by intro e;rw [e] at hk;cases hk.1.2)]
  exact ⟨hk.1,by first|rfl|trivial⟩
 ·rename_i tg cl xs h1
  refine .pure _ hk.2 fun B hb=>?_
  simp only [astep,ha,ht,abi]
  rw [hb.ev hx,h1]
  exact ⟨hk.1,by first|rfl|trivial⟩
 ·rename_i h1
  refine .pure _ hk.2 fun B hb=>?_
  simp only [astep,ha,ht,abi]
  rw [hb.ev hx,h1]
  exact ⟨hk.1,by first|rfl|trivial⟩
 ·exact hk.elim
theorem eff_min {x y:Operand} {args:Array Operand} {ts:Array TypeId} (ha:args.toList=[x,y]) (hk:abi P dst .min [x,y] ts.toList A K):HasEff P dst (.call {callee:=.builtin .min,args:=args,argTypes:=ts}) A K:=by
 have hx:x∈(Op.call {callee:=.builtin .min,args:=args,argTypes:=ts}).operands.toList:=by rw [call_operands,ha];simp
 have hy:y∈(Op.call {callee:=.builtin .min,args:=args,argTypes:=ts}).operands.toList:=by rw [call_operands,ha];simp
 simp only [abi] at hk
 split at hk
 ·rename_i k a k' b h1 h2
  refine .pure _ hk.2 fun B hb=>?_
  simp only [astep,ha,abi]
  rw [hb.ev hx,hb.ev hy,h1,h2]
  exact ⟨hk.1,by first|rfl|trivial⟩
 ·exact hk.elim
theorem eff_max {x y:Operand} {args:Array Operand} {ts:Array TypeId} (ha:args.toList=[x,y]) (hk:abi P dst .max [x,y] ts.toList A K):HasEff P dst (.call {callee:=.builtin .max,args:=args,argTypes:=ts}) A K:=by
 have hx:x∈(Op.call {callee:=.builtin .max,args:=args,argTypes:=ts}).operands.toList:=by rw [call_operands,ha];simp
 have hy:y∈(Op.call {callee:=.builtin .max,args:=args,argTypes:=ts}).operands.toList:=by rw [call_operands,ha];simp
 simp only [abi] at hk
 split at hk
 ·rename_i k a k' b h1 h2
  refine .pure _ hk.2 fun B hb=>?_
  simp only [astep,ha,abi]
  rw [hb.ev hx,hb.ev hy,h1,h2]
  exact ⟨hk.1,by first|rfl|trivial⟩
 ·exact hk.elim
theorem eff_append {x y:Operand} {t t':TypeId} {args:Array Operand} {ts:Array TypeId} (ha:args.toList=[x,y]) (ht:ts.toList=[t,t']) (hk:abi P dst .append [x,y] [t,t'] A K):HasEff P dst (.call {callee:=.builtin .append,args:=args,argTypes:=ts}) A K:=by
 have hx:x∈(Op.call {callee:=.builtin .append,args:=args,argTypes:=ts}).operands.toList:=by rw [call_operands,ha];simp
 have hy:y∈(Op.call {callee:=.builtin .append,args:=args,argTypes:=ts}).operands.toList:=by rw [call_operands,ha];simp
 have hrows:∀{B:St} {ys},Alike (.call {callee:=.builtin .append,args:=args,argTypes:=ts}) A B→(match A.eval y with|.c c=>rowsOf A.H c|_=>none)=some ys→∃c,A.eval y=.c c∧B.eval y=.c c∧rowsOf B.H c=some ys:=fun {B ys} hb h=>by
  obtain ⟨c,h1,h2⟩:=eval_rows h
  exact ⟨c,h1,by rw [hb.ev hy,h1],rows_op_alike hb rfl hy h1 h2⟩
 simp only [abi] at hk
 split at hk
 ·rename_i ys d h1 h2
  refine .new rfl hk.2 fun B hb _ K' h'=>?_
  obtain ⟨c,h3,h4,h5⟩:=hrows hb h2
  simp only [astep,ha,ht,abi]
  rw [h4,hb.ev hx,h1]
  simp only [h5]
  exact ⟨hk.1,h'⟩
 ·rename_i tg xs ys d h1 h2
  refine .new rfl hk.2 fun B hb _ K' h'=>?_
  obtain ⟨c,h3,h4,h5⟩:=hrows hb h2
  simp only [astep,ha,ht,abi]
  rw [h4,hb.ev hx,h1]
  simp only [h5]
  exact ⟨hk.1,h'⟩
 ·rename_i id n ys d h1 h2
  split at hk
  ·rename_i e sz xs h3
   obtain ⟨hc,hun,hk⟩:=hk
   have hne:(A.T,d)≠id:=by
    intro e'
    rw [←e'] at h3
    simp only [hset] at hun
    split at hun
    ·cases hun
    ·rename_i e'';exact e'' e'
   have hunA:A.H (A.T,d)=.unborn:=by
    simp only [hset,if_neg hne] at hun
    exact hun
   refine ⟨⟨.c (.so (A.T,d) 0 ((cutTo n xs).length+ys.length)),fun j=>if j=(A.T,d) then some (.arr e sz false (cutTo n xs++ys)) else if j=id then some .dead else none⟩,?_,fun h=>(by cases h),fun id' ob h=>?_,fun B hb hunB=>?_⟩
   ·have:(⟨.c (.so (A.T,d) 0 ((cutTo n xs).length+ys.length)),fun j=>if j=(A.T,d) then some (.arr e sz false (cutTo n xs++ys)) else if j=id then some .dead else none⟩:Eff).app (some d) A =
      {A with H:=hset (hset A.H id .dead) (A.T,d) (.arr e sz false (cutTo n xs++ys))}.put (some d) (.c (.so (A.T,d) 0 ((cutTo n xs).length+ys.length))):=by
     simp only [Eff.app,St.put]
     congr 1
     funext j
     unfold hset
     by_cases e1:j=(A.T,d)
     ·simp [e1]
     ·by_cases e2:j=id
      ·rw [if_neg e1,if_pos e2,if_neg e1,if_pos e2];rfl
      ·rw [if_neg e1,if_neg e2,if_neg e1,if_neg e2];rfl
    rw [this]
    exact hk
   ·simp only at h
    split at h
    ·rename_i e'
     cases h
     subst e'
     exact ⟨by simp,.inl ⟨⟨d,rfl,rfl,.inl rfl⟩,hunA⟩⟩
    ·split at h
     ·rename_i e' e''
      cases h
      subst e''
      exact ⟨by simp,.inr ⟨rfl,by rw [h3];simp,x,hx,.so id' 0 n,by rw [h1];simp [AV.flat],by constructor⟩⟩
     ·cases h
   ·obtain ⟨c,h3',h4,h5⟩:=hrows hb h2
    have hT:B.T=A.T:=hb.1
    have hBid:B.H id=.arr e sz false xs:=by rw [hb.hp rfl hx h1 (id:=id) (by constructor) (by rw [h3];simp)];exact h3
    have hBun:B.H (B.T,d)=.unborn:=by rw [hT];exact hunB _ (by simp) hunA
    simp only [astep,ha,ht,abi]
    rw [h4,hb.ev hx,h1]
    simp only [h5,hBid]
    refine ⟨?_,?_,?_⟩
    ·rw [h3'] at hc;exact hc
    ·show hset B.H id .dead (B.T,d)=_
     rw [hT]
     simp only [hset,if_neg hne]
     rw [←hT];exact hBun
    ·simp only [Eff.app,St.put,hT]
     congr 1
     funext j
     unfold hset
     by_cases e1:j=(A.T,d)
     ·simp [e1]
     ·by_cases e2:j=id
      ·rw [if_neg e1,if_pos e2,if_neg e1,if_pos e2];rfl
      ·rw [if_neg e1,if_neg e2,if_neg e1,if_neg e2];rfl
  ·exact hk.elim
 ·exact hk.elim
theorem eff_copy {x y:Operand} {t t':TypeId} {args:Array Operand} {ts:Array TypeId} (ha:args.toList=[x,y]) (ht:ts.toList=[t,t']) (hk:abi P dst .copy [x,y] [t,t'] A K):HasEff P dst (.call {callee:=.builtin .copy,args:=args,argTypes:=ts}) A K:=by
 have hx:x∈(Op.call {callee:=.builtin .copy,args:=args,argTypes:=ts}).operands.toList:=by rw [call_operands,ha];simp
 have hy:y∈(Op.call {callee:=.builtin .copy,args:=args,argTypes:=ts}).operands.toList:=by rw [call_operands,ha];simp
 simp only [abi] at hk
 split at hk
 ·rename_i id off len ys h1 h2
  split at hk
  ·rename_i e sz rows h3
   obtain ⟨hc,hk⟩:=hk
   have hid:idV id (A.eval x):=⟨.so id off len,by rw [h1];simp [AV.flat],by constructor⟩
   refine ⟨oneEff (.c (.raw (.int .i64 ((min len ys.length:Nat):Int)))) id (.arr e sz false (rows.take off++ys.take len++rows.drop (off+min len ys.length))),by rw [oneEff_app];exact hk,fun h=>(by cases h),fun id' ob h=>?_,fun B hb hun=>?_⟩
   ·simp only [oneEff] at h
    split at h
    ·rename_i e'
     cases h
     subst e'
     exact ⟨by simp,.inr ⟨rfl,by rw [h3];simp,x,hx,hid⟩⟩
    ·cases h
   ·obtain ⟨c,e1,e2⟩:=eval_rows h2
    have e3:B.eval y=.c c:=by rw [hb.ev hy,e1]
    have e4:rowsOf B.H c=some ys:=rows_op_alike hb rfl hy e1 e2
    simp only [astep,ha,ht,abi]
    rw [e3,hb.ev hx,h1]
    simp only [e4]
    rw [hb.hp rfl hx h1 (id:=id) (by constructor) (by rw [h3];simp),h3]
    refine ⟨hc,?_⟩
    rw [oneEff_app]
  ·exact hk.elim
 ·exact hk.elim
def adN (nm:Nat→Id):Nat→List AC→Id→Option OK
 |_,[],_=>none
 |k,c::r,id=>match adN nm (k+1) r id with
  |some ob=>some ob
  |none=>match c with
   |.nw e sz xs=>if id=nm k then some (.arr e sz false xs) else none
   |_=>none
theorem adH_adN (nm:Nat→Id):∀(k:Nat) (l:List AC) (H:Heap),adH nm k l H=fun id=>(adN nm k l id).getD (H id)
 |_,[],H=>by funext id;rfl
 |k,c::r,H=>by
  rw [adH,adH_adN nm (k+1) r]
  funext id
  simp only [adN]
  cases h:adN nm (k+1) r id with
  |some ob=>rfl
  |none=>
   simp only [Option.getD_none]
   cases c<;>simp only [adH1,Option.getD_none]
   unfold hset
   by_cases e:id=nm k<;>simp [e]
theorem adN_some {nm:Nat→Id}:∀{k:Nat} {l:List AC} {id:Id} {ob:OK},adN nm k l id=some ob→ob≠.unborn∧∃i,k≤i∧i<k+l.length∧id=nm i
 |_,[],_,_,h=>by simp [adN] at h
 |k,c::r,id,ob,h=>by
  simp only [adN] at h
  split at h
  ·rename_i ob' h'
   cases h
   obtain ⟨h1,i,h2,h3,h4⟩:=adN_some h'
   exact ⟨h1,i,by omega,by simp only [List.length_cons];omega,h4⟩
  ·split at h
   ·split at h
    ·rename_i e
     cases h
     exact ⟨by simp,k,Nat.le_refl _,by simp,e⟩
    ·cases h
   ·cases h
theorem adUn_adN {nm:Nat→Id} {H:Heap}:∀{k:Nat} {l:List AC},adUn nm H k l→∀{id ob},adN nm k l id=some ob→H id=.unborn
 |_,[],_,_,_,h=>by simp [adN] at h
 |k,c::r,hu,id,ob,h=>by
  have hr:adUn nm H (k+1) r:=by
   cases c<;>first|exact hu|exact hu.2
  simp only [adN] at h
  split at h
  ·rename_i ob' h'
   exact adUn_adN hr h'
  ·split at h
   ·split at h
    ·rename_i e
     subst e
     exact hu.1
    ·cases h
   ·cases h
theorem adUn_of {nm:Nat→Id} {H:Heap}:∀{k:Nat} {l:List AC},(∀id,adN nm k l id≠none→H id=.unborn)→adUn nm H k l
 |_,[],_=>trivial
 |k,c::r,h=>by
  have hr:adUn nm H (k+1) r:=adUn_of fun id hid=>h id (by
   simp only [adN]
   cases h':adN nm (k+1) r id with
   |none=>exact (hid h').elim
   |some ob=>simp)
  cases c<;>first|exact hr|skip
  refine ⟨h _ ?_,hr⟩
  simp only [adN]
  cases h':adN nm (k+1) r (nm k)<;>simp
theorem adopt_app {st:St} {dst:Option Nat} {ret:AV}:adopt st dst ret=(⟨ret.ad (nmOf st dst),adN (nmOf st dst) 0 ret.flat⟩:Eff).app dst st:=by
 unfold adopt Eff.app
 rw [adH_adN]
 cases dst<;>rfl
theorem eff_call {f:Operand} {g:FuncId} {caps:List AC} {args:Array Operand} {ts:Array TypeId} (hf:A.eval f=.c (.fn g caps))
  (hk:ACall P true A dst g (args.toList.map A.eval++caps.map .c) K):HasEff P dst (.call {callee:=.value f,args:=args,argTypes:=ts}) A K:=by
 rcases hk with ⟨m,args',ret,h1,h2,h3,h4,h5⟩|⟨h,_⟩
 ·have hops:(Op.call {callee:=.value f,args:=args,argTypes:=ts}).operands.toList=f::args.toList:=by simp [Op.operands,Call.operands]
  obtain ⟨h6,h7⟩:=h4 rfl
  obtain ⟨d,hd⟩:=Option.isSome_iff_exists.1 h7
  subst hd
  refine ⟨⟨ret.ad (nmOf A (some d)),adN (nmOf A (some d)) 0 ret.flat⟩,by rw [←adopt_app];exact h5,fun h=>(by cases h),fun id ob h=>?_,fun B hb hun=>?_⟩
  ·obtain ⟨g1,i,g2,g3,g4⟩:=adN_some h
   refine ⟨g1,.inl ⟨⟨d,rfl,by rw [g4];rfl,.inr ⟨i,by omega,by rw [g4];rfl⟩⟩,adUn_adN h3 h⟩⟩
  ·have hT:B.T=A.T:=hb.1
   have hnm:nmOf B (some d)=nmOf A (some d):=by unfold nmOf;rw [hT]
   simp only [astep]
   rw [hb.ev (x:=f) (by rw [hops];simp),hf]
   have hmap:args.toList.map B.eval=args.toList.map A.eval:=List.map_congr_left fun y hy=>hb.ev (by rw [hops];simp [hy])
   rw [hmap]
   refine .inl ⟨m,args',ret,?_,h2,?_,fun _=>⟨h6,rfl⟩,?_⟩
   ·refine viewA_alike h1 fun v hv id hi hu=>?_
    rw [List.mem_append] at hv
    rcases hv with hv|hv
    ·rw [List.mem_map] at hv
     obtain ⟨y,hy,rfl⟩:=hv
     exact hb.2.2 rfl y (by rw [hops];simp [hy]) id hi hu
    ·rw [List.mem_map] at hv
     obtain ⟨c,hc,rfl⟩:=hv
     obtain ⟨c',hc',hi⟩:=hi
     simp only [AV.flat,List.mem_singleton] at hc'
     subst hc'
     exact hb.2.2 rfl f (by rw [hops];simp) id ⟨.fn g caps,by rw [hf];simp [AV.flat],.fn g caps _ hc hi⟩ hu
   ·rw [hnm]
    exact adUn_of fun id hid=>hun id hid (by
     cases h:adN (nmOf A (some d)) 0 ret.flat id with
     |none=>exact (hid h).elim
     |some ob=>exact adUn_adN h3 h)
   ·rw [adopt_app,hnm]
 ·cases h
end Go.AE
set_option linter.unusedVariables false
set_option linter.unusedSimpArgs false
namespace Go.AE
open Go
variable {P:Program}
theorem astep_eff {dst:Option Nat} {op:Op} {A:St} {K:St→Prop} (hk:astep P true dst op A K):HasEff P dst op A K:=by
 cases op with
 |call c=>
  obtain ⟨callee,args,ts⟩:=c
  simp only [astep] at hk
  cases callee with
  |builtin b=>
   simp only at hk
   obtain ⟨args⟩:=args
   obtain ⟨ts⟩:=ts
   simp only at hk
   cases b with
   |len=>
    match args,ts,hk with
    |[x],[t],hk=>exact eff_len rfl rfl hk
    |[],_,hk=>exact hk.elim
    |_::_::_,_,hk=>exact hk.elim
    |[_],[],hk=>exact hk.elim
    |[_],_::_::_,hk=>exact hk.elim
   |min=>
    match args,hk with
    |[x,y],hk=>exact eff_min rfl hk
    |[],hk=>exact hk.elim
    |[_],hk=>exact hk.elim
    |_::_::_::_,hk=>exact hk.elim
   |max=>
    match args,hk with
    |[x,y],hk=>exact eff_max rfl hk
    |[],hk=>exact hk.elim
    |[_],hk=>exact hk.elim
    |_::_::_::_,hk=>exact hk.elim
   |append=>
    match args,ts,hk with
    |[x,y],[t,t'],hk=>exact eff_append rfl rfl hk
    |[],_,hk=>exact hk.elim
    |[_],_,hk=>exact hk.elim
    |_::_::_::_,_,hk=>exact hk.elim
    |[_,_],[],hk=>exact hk.elim
    |[_,_],[_],hk=>exact hk.elim
    |[_,_],_::_::_::_,hk=>exact hk.elim
   |copy=>
    match args,ts,hk with
    |[x,y],[t,t'],hk=>exact eff_copy rfl rfl hk
    |[],_,hk=>exact hk.elim
    |[_],_,hk=>exact hk.elim
    |_::_::_::_,_,hk=>exact hk.elim
    |[_,_],[],hk=>exact hk.elim
    |[_,_],[_],hk=>exact hk.elim
    |[_,_],_::_::_::_,hk=>exact hk.elim
   |_=>exact hk.elim
  |value f=>
   simp only at hk
   split at hk
   ·rename_i g caps hf
    exact eff_call hf hk
   ·exact hk.elim
  |invoke _ _=>exact hk.elim
 |move x=>exact eff_move hk
 |assign x=>exact eff_assign hk
 |pick c x y=>exact eff_pick hk
 |alloc e=>exact eff_alloc hk
 |box e x=>exact eff_box hk
 |build t ps=>exact eff_build hk
 |buildSlice t n ps=>exact eff_buildSlice hk
 |load t x=>exact eff_load hk
 |store t x v=>exact eff_store hk
 |nilCheck x=>exact eff_nilCheck hk
 |binOp op t x y t'=>
  simp only [astep] at hk
  rcases hk with hk|⟨e,_⟩
  ·exact eff_binOp hk
  ·cases e
 |unOp op t x=>exact eff_unOp hk
 |convert s t x=>exact eff_convert hk
 |makeFunc f first caps=>
  cases f with
  |func f=>exact eff_makeFunc hk (f:=.func f)
  |_=>exact hk.elim
 |makeSlice t x y=>exact eff_makeSlice hk
 |slice t x lo hi mx=>exact eff_slice hk
 |fieldAddr t x f=>exact eff_fieldAddr hk
 |field t x f=>exact eff_field hk
 |indexAddr t x y=>exact eff_indexAddr hk
 |index t x y=>exact eff_index hk
 |extract x i=>exact eff_extract hk
 |_=>exact hk.elim
theorem awpOps_gstep {ops:Array Oper} {o:Oper} {l:List Oper} {K:St→Prop} {A:St}:awpOps P true ops (o::l) K A=gstep P ops o A (awpOps P true ops l K):=rfl
theorem put_self {A:St} {d:Nat} {v:AV} (h:A.s d=v):A.put (some d) v=A:=by
 cases A with
 |mk s H T=>
  simp only [St.put,St.mk.injEq,and_self,and_true]
  funext t
  unfold upd
  split
  ·rename_i e;subst e;exact h.symm
  ·rfl
theorem gstep_sound {C:Ctx P} {ρ:Lies} {A:St} {a:Act} {w:World} {ops:Array Oper} {i:Nat} {o:Oper} {K:St→Prop} {Q:Exit→Act→World→Prop} (ho:ops[i]?=some o) (h:Rel C ρ A a w)
  (hd:∀d,o.dst=some d→d<a.tmps.size) (hk:gstep P ops o A K):wpOp P ops Q i (SemK C a.tmps.size K) a w:=by
 unfold wpOp
 rw [ho]
 simp only
 unfold gstep at hk
 split at hk
 ·rename_i hg
  rw [if_pos (by simp [Region.wanted,hg])]
  exact .inl (astep_sound h hd hk)
 ·rename_i j want hg
  rcases agd_sound hg h hk with ⟨h1,st',h2,h3⟩|⟨h1,st',h2,h3⟩
  ·rw [if_pos h1];exact .inl (astep_sound h2 hd h3)
  ·rw [if_neg (by simp [h1])]
   exact ⟨size_put _ _ _,ρ,_,h2.put (.c _ _ (.raw undef)) hd,h3⟩
def gstepX (P:Program) (ops:Array Oper) (dc:Bool) (o:Oper) (A:St) (K:St→Prop):Prop:=if dc=true then dstep P o A (fun _ st=>K st) else gstep P ops o A K
theorem gstepX_sound {C:Ctx P} {ρ:Lies} {A:St} {a:Act} {w:World} {ops:Array Oper} {i:Nat} {o:Oper} {K:St→Prop} {Q:Exit→Act→World→Prop} {dc:Bool} (ho:ops[i]?=some o) (h:Rel C ρ A a w)
  (hd:∀d,o.dst=some d→d<a.tmps.size) (hk:gstepX P ops dc o A K):wpOp P ops Q i (SemK C a.tmps.size K) a w:=by
 unfold gstepX at hk
 split at hk
 ·unfold dstep at hk
  split at hk
  ·rename_i c hg hop
   split at hk
   ·rename_i f hf
    split at hk
    ·rename_i g caps hv
     obtain ⟨hh,C',us,ret,m1,m2,m3,m4,m5,m6⟩:=hk
     unfold wpOp
     rw [ho]
     simp only
     rw [if_pos (by simp [Region.wanted,hg])]
     obtain ⟨callee,args,ts⟩:=c
     simp only at hf
     subst hf
     refine .inl (acall_sound (dr:=false) h hd hop hv (.inr ⟨rfl,?_⟩))
     have ck:=m1.go (dst:=o.dst) m2 m3 m4
     refine ⟨ck.1,fun C ρ a w vs q1 q2 q3=>(ck.2 C ρ a w vs q1 q2 q3).mono fun e w' ⟨v,e1,ρ',r,H',T',g1,g2,g3,g4,g5⟩=>⟨v,e1,ρ',r,H',T',g1,g2,?_⟩⟩
     subst g3 g4 g5
     exact m6
    ·exact hk.elim
   ·exact hk.elim
  ·rename_i t x v hg hop
   split at hk
   ·unfold wpOp
    rw [ho]
    simp only
    rw [if_pos (by simp [Region.wanted,hg])]
    exact .inl (aop_sound h hd (by rw [hop];exact hk))
   ·exact hk.elim
  ·exact hk.elim
 ·exact gstep_sound ho h hd hk
structure EffAt (P:Program) (ops:Array Oper) (dc:Bool) (W:List Id) (o:Oper) (A:St) (e:Eff):Prop where
 free:hfree o.op=true→∀id,e.N id=none
 own:∀id ob,e.N id=some ob→ob≠.unborn∧((ownId o.dst A.T id∧A.H id=.unborn)∨(((dc=false∧writer o.op=true)∨(id∈W∧∃x∈o.op.operands.toList,idV id (A.eval x)))∧A.H id≠.unborn))
 go:∀B,Alike o.op A B→(∀j want d,o.guard=some (j,want)→gslot ops j=some d→B.s d=A.s d)→(∀id,e.N id≠none→A.H id=.unborn→B.H id=.unborn)→gstepX P ops dc o B (·=e.app o.dst B)
theorem EffAt.mono {ops:Array Oper} {dc:Bool} {W W':List Id} {o:Oper} {A:St} {e:Eff} (h:EffAt P ops dc W o A e) (hW:∀id∈W,id∈W'):EffAt P ops dc W' o A e:=
 ⟨h.free,fun id ob hn=>⟨(h.own id ob hn).1,(h.own id ob hn).2.imp_right fun q=>⟨q.1.imp_right fun r=>⟨hW id r.1,r.2⟩,q.2⟩⟩,h.go⟩
theorem gstepX_f {ops:Array Oper} {o:Oper} {A:St} {K:St→Prop}:gstepX P ops false o A K=gstep P ops o A K:=by simp [gstepX]
def upN:List (Id×OK)→Id→Option OK
 |[],_=>none
 |(i,o)::r,id=>match upN r id with
  |some ob=>some ob
  |none=>if id=i then some o else none
theorem upH_upN:∀(us:List (Id×OK)) (H:Heap),upH H us=fun id=>(upN us id).getD (H id)
 |[],H=>rfl
 |(i,o)::r,H=>by
  funext id
  rw [upH,upH_upN r]
  simp only [upN]
  cases upN r id with
  |some ob=>rfl
  |none=>
   by_cases e:id=i
   ·simp [hset,e]
   ·simp [hset,e]
theorem upN_mem:∀{us:List (Id×OK)} {id:Id} {ob:OK},upN us id=some ob→(id,ob)∈us
 |(i,o)::r,id,ob,h=>by
  simp only [upN] at h
  cases hr:upN r id with
  |some ob'=>
   rw [hr] at h
   cases h
   exact List.mem_cons_of_mem _ (upN_mem hr)
  |none=>
   rw [hr] at h
   simp only at h
   split at h
   ·rename_i e
    cases h
    rw [e]
    exact List.mem_cons_self
   ·cases h
theorem dstep_eff {ops:Array Oper} {o:Oper} {A:St} {K:List Id→St→Prop} (hk:dstep P o A K):∃e W,EffAt P ops true W o A e∧K W (e.app o.dst A):=by
 have hk0:=hk
 unfold dstep at hk
 split at hk
 ·rename_i c hg hop
  split at hk
  ·rename_i f hf
   split at hk
   ·rename_i g caps hv
    obtain ⟨hh,C',us,ret,m1,m2,m3,m4,⟨m5,m6⟩,m7⟩:=hk
    obtain ⟨callee,args,ts⟩:=c
    simp only at hf
    subst hf
    have hops:o.op.operands.toList=f::args.toList:=by rw [hop];simp [Op.operands,Call.operands]
    obtain ⟨d,hd⟩:=Option.isSome_iff_exists.1 m6
    have named:∀id,(∃v∈(args.toList.map A.eval++caps.map .c),idV id v)→∃x∈o.op.operands.toList,idV id (A.eval x):=fun id ⟨v,hv',hi⟩=>by
     rw [List.mem_append] at hv'
     rcases hv' with hv'|hv'
     ·rw [List.mem_map] at hv'
      obtain ⟨y,hy,rfl⟩:=hv'
      exact ⟨y,by rw [hops];simp [hy],hi⟩
     ·rw [List.mem_map] at hv'
      obtain ⟨c,hc,rfl⟩:=hv'
      obtain ⟨c',hc',hi⟩:=hi
      simp only [AV.flat,List.mem_singleton] at hc'
      subst hc'
      exact ⟨f,by rw [hops];simp,.fn g caps,by rw [hv];simp [AV.flat],.fn g caps _ hc hi⟩
    have happ:∀(B:St),B.T=A.T→(⟨ret.ad (nmOf A o.dst),fun id=>match adN (nmOf A o.dst) 0 ret.flat id with|some ob=>some ob|none=>upN us id⟩:Eff).app o.dst B=adoptM B o.dst us ret:=fun B hT=>by
     have hnm:nmOf B o.dst=nmOf A o.dst:=by unfold nmOf;rw [hT]
     unfold adoptM
     rw [hnm]
     simp only [Eff.app]
     rw [hd]
     simp only [St.put,St.mk.injEq,true_and,and_true]
     funext id
     rw [adH_adN,upH_upN]
     show _=(adN (nmOf A (some d)) 0 ret.flat id).getD ((upN us id).getD (B.H id))
     cases adN (nmOf A (some d)) 0 ret.flat id<;>rfl
    refine ⟨_,us.map (·.1),⟨(fun h=>by rw [hop] at h;cases h),(fun id ob h=>?_),(fun B hb _ hun=>?_)⟩,by rw [happ A rfl];exact m7⟩
    ·simp only at h
     cases h1:adN (nmOf A o.dst) 0 ret.flat id with
     |some ob'=>
      rw [h1] at h
      cases h
      obtain ⟨g1,i,g2,g3,g4⟩:=adN_some h1
      exact ⟨g1,.inl ⟨⟨d,hd,by rw [g4];rfl,.inr ⟨i,by omega,by rw [g4];simp [nmOf,hd]⟩⟩,adUn_adN m4 h1⟩⟩
     |none=>
      rw [h1] at h
      have hm:=upN_mem h
      obtain ⟨u1,u2,u3⟩:=m1.ups m2 _ hm
      exact ⟨u1,.inr ⟨.inr ⟨List.mem_map.2 ⟨_,hm,rfl⟩,named id u3⟩,u2⟩⟩
    ·have hT:B.T=A.T:=hb.1
     have hnm:nmOf B o.dst=nmOf A o.dst:=by unfold nmOf;rw [hT]
     have hmap:args.toList.map B.eval=args.toList.map A.eval:=List.map_congr_left fun y hy=>hb.2.1 y (by rw [hops];simp [hy])
     have hfB:B.eval f=.c (.fn g caps):=by rw [hb.2.1 f (by rw [hops];simp)];exact hv
     have hl:hh B.H (args.toList.map A.eval++caps.map .c)=some (C',us,ret):=m1.loc m2 fun id hid hu=>by
      obtain ⟨x,hx,hi⟩:=named id hid
      exact hb.2.2 (by rw [hop];rfl) x hx id hi hu
     unfold gstepX
     rw [if_pos rfl]
     unfold dstep
     rw [hg,hop]
     simp only
     rw [hfB]
     simp only
     rw [hmap]
     refine ⟨hh,C',us,ret,m1,hl,m3,?_,⟨m5,m6⟩,?_⟩
     ·rw [hnm]
      exact adUn_of fun id hid=>hun id (by
       simp only
       cases h:adN (nmOf A o.dst) 0 ret.flat id with
       |none=>exact (hid h).elim
       |some ob=>simp) (by
       cases h:adN (nmOf A o.dst) 0 ret.flat id with
       |none=>exact (hid h).elim
       |some ob=>exact adUn_adN m4 h)
     ·exact (happ B hT).symm
   ·exact hk.elim
  ·exact hk.elim
 ·rename_i t x v hg hop
  split at hk
  ·rename_i id i j h1
   have hx:x∈o.op.operands.toList:=by rw [hop];simp [Op.operands]
   have hv:v∈o.op.operands.toList:=by rw [hop];simp [Op.operands]
   simp only [aop,h1] at hk
   split at hk
   ·rename_i id' i' j' cs heq hcs
    cases heq
    split at hk
    ·rename_i e sz rows h2
     split at hk
     ·rename_i row h3
      obtain ⟨⟨g1,g2,g3,g4⟩,hk⟩:=hk
      have hid:idV id (A.eval x):=⟨.pt id i j,by rw [h1];simp [AV.flat],by constructor⟩
      refine ⟨oneEff (.c (.raw undef)) id (.arr e sz false (rows.set i (lay row j cs))),[id],⟨(fun h=>by rw [hop] at h;cases h),(fun id' ob h=>?_),(fun B hb _ hun=>?_)⟩,by rw [oneEff_app];exact hk⟩
      ·simp only [oneEff] at h
       split at h
       ·rename_i e'
        cases h
        subst e'
        exact ⟨by simp,.inr ⟨.inr ⟨by simp,x,hx,hid⟩,by rw [h2];simp⟩⟩
       ·cases h
      ·have e1:B.eval x=.c (.pt id i j):=by rw [hb.2.1 x hx];exact h1
       have e2:B.eval v=A.eval v:=hb.2.1 v hv
       have e3:B.H id=.arr e sz false rows:=by rw [hb.2.2 (by rw [hop];rfl) x hx id hid (by rw [h2];simp)];exact h2
       unfold gstepX
       rw [if_pos rfl]
       unfold dstep
       rw [hg,hop]
       simp only
       rw [e1]
       simp only [aop]
       rw [e1,e2,hcs]
       simp only
       rw [e3]
       simp only [h3]
       refine ⟨⟨g1,g2,ones_alike g3 fun id ⟨c,hc,hi⟩ hu=>hb.2.2 (by rw [hop];rfl) v hv id ⟨c,by rw [cells_flat hcs];exact hc,hi⟩ hu,g4⟩,?_⟩
       rw [oneEff_app]
     ·exact hk.elim
    ·exact hk.elim
   ·exact hk.elim
  ·exact hk.elim
 ·exact hk.elim
theorem gstep_eff {ops:Array Oper} {o:Oper} {A:St} {K:St→Prop} (hk:gstep P ops o A K):∃e,EffAt P ops false [] o A e∧K (e.app o.dst A):=by
 unfold gstep at hk
 split at hk
 ·rename_i hg
  obtain ⟨e,h1,h2,h3,h4⟩:=astep_eff hk
  exact ⟨e,⟨h2,fun id ob h=>⟨(h3 id ob h).1,(h3 id ob h).2.imp_right fun q=>⟨.inl ⟨rfl,q.1⟩,q.2.1⟩⟩,fun B hb _ hf=>by rw [gstepX_f];unfold gstep;rw [hg];exact h4 B hb hf⟩,h1⟩
 ·rename_i j want hg
  unfold agd at hk
  split at hk
  ·rename_i d hd
   split at hk
   ·rename_i b hb
    by_cases hw:b=want
    ·subst hw
     have:=hk.1 rfl
     rw [put_self hb] at this
     obtain ⟨e,h1,h2,h3,h4⟩:=astep_eff this
     refine ⟨e,⟨h2,fun id ob h=>⟨(h3 id ob h).1,(h3 id ob h).2.imp_right fun q=>⟨.inl ⟨rfl,q.1⟩,q.2.1⟩⟩,fun B hb' hgs hf=>?_⟩,h1⟩
     have hB:=(hgs j b d hg hd).trans hb
     rw [gstepX_f]
     unfold gstep
     rw [hg]
     simp only
     unfold agd
     rw [hd]
     simp only
     rw [hB]
     simp only
     refine ⟨fun _=>?_,fun e=>by cases b<;>cases e⟩
     rw [put_self hB]
     exact h4 B hb' hf
    ·have hb':b=!want:=by cases b<;>cases want<;>simp at hw ⊢
     have:=hk.2 hb'
     rw [put_self (by rw [hb,hb'])] at this
     refine ⟨noEff (.c (.raw undef)),⟨fun _ _=>rfl,fun id ob h=>by simp [noEff] at h,fun B _ hgs _=>?_⟩,by rw [noEff_app];exact this⟩
     have hB:=(hgs j want d hg hd).trans hb
     rw [gstepX_f]
     unfold gstep
     rw [hg]
     simp only
     unfold agd
     rw [hd]
     simp only
     rw [hB]
     simp only
     refine ⟨fun e=>(hw e).elim,fun _=>?_⟩
     rw [put_self (by rw [hB,hb']),noEff_app]
   ·rename_i vs hb
    refine ⟨noEff (.c (.raw undef)),⟨fun _ _=>rfl,fun id ob h=>by simp [noEff] at h,fun B _ hgs _=>?_⟩,by rw [noEff_app];exact hk⟩
    have hB:=(hgs j want d hg hd).trans hb
    rw [gstepX_f]
    unfold gstep
    rw [hg]
    simp only
    unfold agd
    rw [hd]
    simp only
    rw [hB]
    simp only
    rw [noEff_app]
   ·exact hk.elim
  ·exact hk.elim
section
variable (dst:Nat→Option Nat) (E:Nat→Eff) (st:St)
def replay (S:Nat→Bool):Nat→St
 |0=>st
 |j+1=>if S j=true then (E j).app (dst j) (replay S j) else replay S j
variable {dst E st}
theorem app_T (e:Eff) (d:Option Nat) (A:St):(e.app d A).T=A.T:=rfl
theorem app_H (e:Eff) (d:Option Nat) (A:St) (id:Id):(e.app d A).H id=(e.N id).getD (A.H id):=rfl
theorem app_s (e:Eff) (d:Option Nat) (A:St) (t:Nat):(e.app d A).s t=if d=some t then e.v else A.s t:=by
 cases d with
 |none=>simp [Eff.app,St.put]
 |some d=>
  simp only [Eff.app,St.put,upd,Option.some.injEq]
  by_cases h:t=d
  ·subst h;simp
  ·have h':¬d=t:=fun e=>h e.symm
   simp [h,h']
theorem replay_T (S:Nat→Bool):∀m,(replay dst E st S m).T=st.T
 |0=>rfl
 |m+1=>by
  unfold replay
  split
  ·rw [app_T];exact replay_T S m
  ·exact replay_T S m
theorem replay_miss {S:Nat→Bool} {t:Nat}:∀{m},(∀j,j<m→S j=true→dst j≠some t)→(replay dst E st S m).s t=st.s t
 |0,_=>rfl
 |m+1,h=>by
  unfold replay
  split
  ·rename_i hs
   rw [app_s,if_neg (h m (Nat.lt_succ_self m) hs)]
   exact replay_miss fun j hj=>h j (by omega)
  ·exact replay_miss fun j hj=>h j (by omega)
theorem replay_hit {S:Nat→Bool} {t j:Nat}:∀{m},j<m→S j=true→dst j=some t→(∀k,k<m→k≠j→dst k≠some t)→(replay dst E st S m).s t=(E j).v
 |0,h,_,_,_=>by omega
 |m+1,h,hs,hd,hu=>by
  unfold replay
  by_cases hm:j=m
  ·subst hm
   rw [if_pos hs,app_s,if_pos hd]
  ·have hlt:j<m:=by omega
   split
   ·rw [app_s,if_neg (hu m (Nat.lt_succ_self m) (fun e=>hm e.symm))]
    exact replay_hit hlt hs hd fun k hk=>hu k (by omega)
   ·exact replay_hit hlt hs hd fun k hk=>hu k (by omega)
theorem replay_heap {S S':Nat→Bool} {id:Id}:∀{m},(∀j,j<m→(E j).N id≠none→S j=S' j)→(replay dst E st S m).H id=(replay dst E st S' m).H id
 |0,_=>rfl
 |m+1,h=>by
  have ih:=replay_heap (m:=m) fun j hj=>h j (by omega)
  by_cases hn:(E m).N id=none
  ·unfold replay
   split<;>split<;>(try simp only [app_H,hn,Option.getD_none])<;>exact ih
  ·unfold replay
   rw [h m (Nat.lt_succ_self m) hn]
   split
   ·simp only [app_H,ih]
   ·exact ih
theorem replay_heap_miss {S:Nat→Bool} {id:Id}:∀{m},(∀j,j<m→S j=true→(E j).N id=none)→(replay dst E st S m).H id=st.H id
 |0,_=>rfl
 |m+1,h=>by
  unfold replay
  split
  ·rename_i hs
   rw [app_H,h m (Nat.lt_succ_self m) hs]
   exact replay_heap_miss fun j hj=>h j (by omega)
  ·exact replay_heap_miss fun j hj=>h j (by omega)
theorem replay_unborn {S:Nat→Bool} {id:Id} (hE:∀j ob,(E j).N id=some ob→ob≠.unborn):∀{m},(replay dst E st S m).H id=.unborn→st.H id=.unborn∧∀j,j<m→S j=true→(E j).N id=none
 |0,h=>⟨h,fun j hj=>by omega⟩
 |m+1,h=>by
  unfold replay at h
  split at h
  ·rename_i hs
   rw [app_H] at h
   cases hn:(E m).N id with
   |some ob=>rw [hn] at h;exact (hE m ob hn h).elim
   |none=>
    rw [hn] at h
    obtain ⟨h1,h2⟩:=replay_unborn hE h
    refine ⟨h1,fun j hj hsj=>?_⟩
    by_cases e:j=m
    ·subst e;exact hn
    ·exact h2 j (by omega) hsj
  ·rename_i hs
   obtain ⟨h1,h2⟩:=replay_unborn hE h
   refine ⟨h1,fun j hj hsj=>?_⟩
   by_cases e:j=m
   ·subst e;exact (hs hsj).elim
   ·exact h2 j (by omega) hsj
theorem replay_congr {S S':Nat→Bool}:∀{m},(∀j,j<m→S j=S' j)→replay dst E st S m=replay dst E st S' m
 |0,_=>rfl
 |m+1,h=>by
  unfold replay
  rw [h m (Nat.lt_succ_self m),replay_congr fun j hj=>h j (by omega)]
theorem st_ext {A B:St} (h1:∀t,A.s t=B.s t) (h2:∀id,A.H id=B.H id) (h3:A.T=B.T):A=B:=by
 cases A;cases B
 simp only [St.mk.injEq]
 exact ⟨funext h1,funext h2,h3⟩
theorem app_comm {e f:Eff} {d d':Option Nat} {A:St} (hd:∀t,d=some t→d'≠some t) (hN:∀id,e.N id≠none→f.N id=none):f.app d' (e.app d A)=e.app d (f.app d' A):=by
 refine st_ext (fun t=>?_) (fun id=>?_) rfl
 ·simp only [app_s]
  by_cases h:d=some t
  ·rw [if_neg (hd t h),if_pos h,if_pos h]
  ·simp only [if_neg h]
 ·simp only [app_H]
  cases h:e.N id with
  |none=>rfl
  |some ob=>rw [hN id (by rw [h];simp)];rfl
theorem replay_insert {S S':Nat→Bool} {i:Nat} (hi:S i=false) (hS':∀j,S' j=(S j||decide (j=i))) (hd:∀k t,k≠i→dst i=some t→dst k≠some t)
  (hN:∀k,i<k→S k=true→∀id,(E i).N id≠none→(E k).N id=none):∀{m},i<m→replay dst E st S' m=(E i).app (dst i) (replay dst E st S m)
 |0,h=>by omega
 |m+1,h=>by
  by_cases hm:i=m
  ·subst hm
   have h1:S' i=true:=by rw [hS'];simp
   unfold replay
   rw [if_pos h1,hi]
   simp only [Bool.false_eq_true,if_false]
   rw [replay_congr (S:=S') (S':=S)]
   intro j hj
   rw [hS']
   have:¬j=i:=by omega
   simp [this]
  ·have hlt:i<m:=by omega
   have ih:=replay_insert hi hS' hd hN hlt
   have h1:S' m=S m:=by
    rw [hS']
    have:¬m=i:=fun e=>hm e.symm
    simp [this]
   unfold replay
   rw [h1,ih]
   split
   ·rename_i hs
    exact app_comm (fun t=>hd m t (fun e=>hm e.symm)) (hN m hlt hs)
   ·rfl
end
end Go.AE
set_option linter.unusedVariables false
set_option linter.unusedSimpArgs false
namespace Go.AE
open Go
variable {P:Program}
inductive Anc (ops:Array Oper):Nat→Nat→Prop where
 |one {j:Nat} {o:Oper} {e:Edge} (ho:ops[j]?=some o) (he:e∈o.after) (hb:Region.binds .any e=true):Anc ops j e.on
 |more {j k:Nat} {o:Oper} {e:Edge} (ho:ops[j]?=some o) (he:e∈o.after) (hb:Region.binds .any e=true) (h:Anc ops e.on k):Anc ops j k
theorem edgeMask_anc {ops:Array Oper} {tab:List Nat} (ht:∀j k,(tab.getD j 0).testBit k=true→Anc ops j k) {j:Nat} {o:Oper} (ho:ops[j]?=some o) :
  ∀(l:List Edge),(∀e∈l,e∈o.after)→∀k,(edgeMask tab l).testBit k=true→Anc ops j k
 |[],_,k,h=>by simp [edgeMask] at h
 |e::r,hl,k,h=>by
  unfold edgeMask at h
  split at h
  ·rename_i hb
   rw [Nat.testBit_or,Nat.testBit_or,Bool.or_eq_true,Bool.or_eq_true] at h
   rcases h with h|h|h
   ·rw [Nat.one_shiftLeft,Nat.testBit_two_pow] at h
    have:e.on=k:=by simpa using h
    subst this
    exact .one ho (hl e (by simp)) hb
   ·exact .more ho (hl e (by simp)) hb (ht _ _ h)
   ·exact edgeMask_anc ht ho r (fun e he=>hl e (by simp [he])) k h
  ·exact edgeMask_anc ht ho r (fun e he=>hl e (by simp [he])) k h
theorem upTab_anc {ops:Array Oper}:∀(l:List Oper) (tab:List Nat),(∀j k,(tab.getD j 0).testBit k=true→Anc ops j k)→(∀i,l[i]?=ops[tab.length+i]?)→
  ∀j k,((upTab tab l).getD j 0).testBit k=true→Anc ops j k
 |[],tab,ht,_,j,k,h=>ht j k h
 |o::r,tab,ht,hl,j,k,h=>by
  refine upTab_anc r _ (fun j k h=>?_) (fun i=>?_) j k h
  ·rw [List.getD_eq_getElem?_getD,List.getElem?_append] at h
   split at h
   ·exact ht j k (by rw [List.getD_eq_getElem?_getD];exact h)
   ·rename_i hj
    have h0:=hl 0
    rw [List.getElem?_cons_zero] at h0
    by_cases e:j=tab.length
    ·subst e
     simp only [Nat.sub_self,List.getElem?_cons_zero,Option.getD_some] at h
     exact edgeMask_anc ht (by simpa using h0.symm) _ (fun e he=>by simpa using he) k h
    ·rw [List.getElem?_eq_none (by simp only [List.length_cons,List.length_nil];omega)] at h
     simp at h
  ·have:=hl (i+1)
   rw [List.getElem?_cons_succ] at this
   rw [this,List.length_append]
   simp only [List.length_cons,List.length_nil]
   congr 1
   omega
structure OpI where
 dst:Option Nat
 looks:List Nat
def opI (ops:Array Oper) (o:Oper):OpI:=⟨o.dst,o.looksAt ops⟩
def pairOK (tab:List Nat) (x:OpI×Nat) (y:OpI×Nat):Bool:=
 x.2==y.2||
 (match y.1.dst with
  |some d=>x.1.dst != some d&&(!(x.1.looks.contains d)||(tab.getD x.2 0).testBit y.2||(tab.getD y.2 0).testBit x.2)
  |none=>true)
def edgesOK (ops:Array Oper):Bool:=ops.toList.zipIdx.all fun q=>q.1.after.toList.all fun e=>!Region.binds .any e||decide (e.on<q.2)
def calmB (ops:Array Oper):Bool:=
 edgesOK ops&&ops.toList.all (fun o=>match o.dst with|some d=>decide (d<1024)|none=>true)&&
 (let tab:=upTab [] ops.toList;let l:=(ops.toList.map (opI ops)).zipIdx;l.all fun x=>l.all fun y=>pairOK tab x y)
structure CalmR (ops:Array Oper):Prop where
 lt:∀(j:Nat) (o:Oper) (e:Edge),ops[j]?=some o→e∈o.after→Region.binds .any e=true→e.on<j
 small:∀(j:Nat) (o:Oper) (d:Nat),ops[j]?=some o→o.dst=some d→d<1024
 dst:∀(j k:Nat) (o o':Oper) (d:Nat),ops[j]?=some o→ops[k]?=some o'→j≠k→o'.dst=some d→o.dst≠some d
 look:∀(j k:Nat) (o o':Oper) (d:Nat),ops[j]?=some o→ops[k]?=some o'→j≠k→o'.dst=some d→d∈o.looksAt ops→Anc ops j k∨Anc ops k j
theorem calm_of {ops:Array Oper} (h:calmB ops=true):CalmR ops:=by
 unfold calmB at h
 rw [Bool.and_eq_true,Bool.and_eq_true] at h
 obtain ⟨⟨h1,h2⟩,h3⟩:=h
 have hanc:∀j k,((upTab [] ops.toList).getD j 0).testBit k=true→Anc ops j k:=upTab_anc ops.toList [] (fun j k h=>by simp at h) (fun i=>by simp)
 have hp:∀j k o o',ops[j]?=some o→ops[k]?=some o'→pairOK (upTab [] ops.toList) (opI ops o,j) (opI ops o',k)=true:=fun j k o o' hj hk=>by
  simp only [List.all_eq_true] at h3
  refine h3 _ ?_ _ ?_
  ·rw [List.mem_zipIdx_iff_getElem?];simp [hj]
  ·rw [List.mem_zipIdx_iff_getElem?];simp [hk]
 refine ⟨fun j o e hj he hb=>?_,fun j o d hj hd=>?_,fun j k o o' d hj hk hne hd=>?_,fun j k o o' d hj hk hne hd hl=>?_⟩
 ·unfold edgesOK at h1
  rw [List.all_eq_true] at h1
  have:=h1 (o,j) (by rw [List.mem_zipIdx_iff_getElem?];simpa using hj)
  rw [List.all_eq_true] at this
  have:=this e (by simpa using he)
  simpa [hb] using this
 ·rw [List.all_eq_true] at h2
  have:=h2 o (by simpa using Array.mem_of_getElem? hj)
  simpa [hd] using this
 ·have:=hp j k o o' hj hk
  unfold pairOK at this
  simp only [opI,hd,Bool.or_eq_true,beq_iff_eq,Bool.and_eq_true,bne_iff_ne] at this
  rcases this with h|h
  ·exact (hne h).elim
  ·exact h.1
 ·have:=hp j k o o' hj hk
  unfold pairOK at this
  simp only [opI,hd,Bool.or_eq_true,beq_iff_eq,Bool.and_eq_true,bne_iff_ne] at this
  rcases this with h|h
  ·exact (hne h).elim
  ·rcases h.2 with (h|h)|h
   ·simp [hl] at h
   ·exact .inl (hanc _ _ h)
   ·exact .inr (hanc _ _ h)
theorem Anc.lt {ops:Array Oper} (hc:CalmR ops) {j k:Nat} (h:Anc ops j k):k<j:=by
 induction h with
 |one ho he hb=>exact hc.lt _ _ _ ho he hb
 |more ho he hb _ ih=>exact Nat.lt_trans ih (hc.lt _ _ _ ho he hb)
def Closed (ops:Array Oper) (S:Nat→Bool):Prop:=∀j o e,S j=true→ops[j]?=some o→e∈o.after→Region.binds .any e=true→S e.on=true
theorem Anc.mem {ops:Array Oper} {S:Nat→Bool} (hc:Closed ops S) {j k:Nat} (h:Anc ops j k) (hj:∀o e,ops[j]?=some o→e∈o.after→Region.binds .any e=true→S e.on=true):S k=true:=by
 induction h with
 |one ho he hb=>exact hj _ _ ho he hb
 |more ho he hb _ ih=>exact ih fun o' e' ho' he' hb'=>hc _ _ _ (hj _ _ ho he hb) ho' he' hb'
theorem RelC.born {w:World} {F:Tag→Nat→Prop} {H:Heap} {ρ:Lies} {c:AC} {v:Value} (h:RelC w F H ρ c v) {id:Id} (hi:idC id c):H id≠.unborn:=by
 induction hi generalizing v with
 |so off len=>cases h with|so _ _ _ _ hk _=>exact hk
 |pt i j=>cases h with|pt _ _ _ _ hk _=>exact hk
 |fn f caps c hc _ ih=>
  cases h with
  |fn _ _ vs hl h=>
   obtain ⟨k,hk⟩:=List.getElem?_of_mem hc
   exact ih (h k c hk)
theorem flatT_mem {c:AC}:∀{l:List (Bool×List AC)},c∈flatT l→∃b cs,(b,cs)∈l∧c∈cs
 |[],h=>by simp [flatT] at h
 |(b,cs)::r,h=>by
  simp only [flatT,List.mem_append] at h
  rcases h with h|h
  ·exact ⟨b,cs,by simp,h⟩
  ·obtain ⟨b',cs',h1,h2⟩:=flatT_mem h
   exact ⟨b',cs',by simp [h1],h2⟩
theorem RelV.born {w:World} {F:Tag→Nat→Prop} {H:Heap} {ρ:Lies} {x:AV} {v:Value} (h:RelV w F H ρ x v) {id:Id} (hi:idV id x):H id≠.unborn:=by
 obtain ⟨c,hc,hi⟩:=hi
 cases h with
 |c y v h=>simp only [AV.flat,List.mem_singleton] at hc;subst hc;exact h.born hi
 |g xs vs hl h=>
  obtain ⟨k,hk⟩:=List.getElem?_of_mem hc
  exact (h k c hk).born hi
 |t xs vs hl h=>
  obtain ⟨b,cs,h1,h2⟩:=flatT_mem hc
  obtain ⟨k,hk⟩:=List.getElem?_of_mem h1
  have hp:=h k b cs hk
  generalize vs.getD k undef=u at hp
  cases hp with
  |c y v h=>simp only [List.mem_singleton] at h2;subst h2;exact h.born hi
  |g xs vs hl h=>
   obtain ⟨k,hk⟩:=List.getElem?_of_mem h2
   exact (h k c hk).born hi
theorem looks_mem {ops:Array Oper} {o:Oper} {t:Nat} (h:Operand.tmp t∈o.op.operands.toList):t∈o.looksAt ops:=by
 unfold Oper.looksAt
 rw [List.mem_append]
 left
 rw [List.mem_filterMap]
 exact ⟨.tmp t,h,rfl⟩
theorem looks_guard {ops:Array Oper} {o:Oper} {j d:Nat} {want:Bool} (hg:o.guard=some (j,want)) (hd:gslot ops j=some d):d∈o.looksAt ops:=by
 unfold Oper.looksAt
 rw [List.mem_append]
 right
 rw [hg]
 unfold gslot at hd
 simp [hd]
theorem ownId_eq {d d':Option Nat} {T:Nat} {id:Id} (h:ownId d T id) (h':ownId d' T id) (hs:∀n,d=some n→n<1024) (hs':∀n,d'=some n→n<1024):d=d':=by
 obtain ⟨n,h1,_,h2⟩:=h
 obtain ⟨n',h1',_,h2'⟩:=h'
 have:=hs n h1
 have:=hs' n' h1'
 subst h1 h1'
 congr 1
 rcases h2 with h2|⟨k,hk,h2⟩<;>rcases h2' with h2'|⟨k',hk',h2'⟩<;>omega
end Go.AE
set_option linter.unusedVariables false
set_option linter.unusedSimpArgs false
namespace Go.AE
open Go
variable {P:Program}
def dstL (l:List Oper) (i:Nat):Option Nat:=(l[i]?).bind (·.dst)
def tr:Nat→Bool:=fun _=>true
theorem replay_shift {dst:Nat→Option Nat} {E:Nat→Eff} {A:St}:∀i,replay dst E A tr (i+1)=replay (fun i=>dst (i+1)) (fun i=>E (i+1)) ((E 0).app (dst 0) A) tr i
 |0=>rfl
 |i+1=>by
  rw [replay,replay_shift i,replay]
  rfl
theorem run_effs {ops:Array Oper} {K:St→Prop}:∀(l:List Oper) (A:St),awpOps P true ops l K A→
  ∃E:Nat→Eff,(∀i o,l[i]?=some o→EffAt P ops false [] o (replay (dstL l) E A tr i) (E i))∧K (replay (dstL l) E A tr l.length)
 |[],A,h=>⟨fun _=>noEff (.c .junk),fun i o h=>by simp at h,h⟩
 |o::l,A,h=>by
  rw [awpOps_gstep] at h
  obtain ⟨e,he,h⟩:=gstep_eff h
  obtain ⟨E',h1,h2⟩:=run_effs l _ h
  refine ⟨fun i=>match i with|0=>e|i+1=>E' i,fun i o' hi=>?_,?_⟩
  ·cases i with
   |zero=>
    rw [List.getElem?_cons_zero] at hi
    cases hi
    exact he
   |succ i=>
    rw [List.getElem?_cons_succ] at hi
    rw [replay_shift]
    exact h1 i o' hi
  ·rw [List.length_cons,replay_shift]
   exact h2
def tagW (W:List (Nat×Id)) (i:Nat):List Id:=(W.filter (·.1==i)).map (·.2)
theorem tagW_mem {W:List (Nat×Id)} {i:Nat} {id:Id}:id∈tagW W i↔(i,id)∈W:=by
 unfold tagW
 simp only [List.mem_map,List.mem_filter,beq_iff_eq]
 constructor
 ·rintro ⟨⟨a,b⟩,⟨h1,h2⟩,h3⟩
  simp only at h2 h3
  subst h2 h3
  exact h1
 ·intro h
  exact ⟨(i,id),⟨h,rfl⟩,rfl⟩
theorem run_effsD {ops:Array Oper} {js:List Nat} {prs:List (Nat×Nat)} {K:List (Nat×Id)→List (Nat×AV)→St→Prop}:∀(l:List Oper) (i0:Nat) (W0:List (Nat×Id)) (N0:List (Nat×AV)) (A:St),dOps P ops js prs l i0 W0 N0 K A→
  ∃(E:Nat→Eff) (W:List (Nat×Id)) (N:List (Nat×AV)),(∀i o,l[i]?=some o→EffAt P ops (js.contains (i0+i)) (tagW W (i0+i)) o (replay (dstL l) E A tr i) (E i))∧
   (∀i o,l[i]?=some o→prs.any (·.2==i0+i)=true→∀x∈o.op.operands.toList,(i0+i,(replay (dstL l) E A tr i).eval x)∈N)∧
   (∀x∈W0,x∈W)∧(∀x∈N0,x∈N)∧(∀x∈W,x∈W0∨js.contains x.1=true)∧K W N (replay (dstL l) E A tr l.length)
 |[],i0,W0,N0,A,h=>⟨fun _=>noEff (.c .junk),W0,N0,fun i o h=>by simp at h,fun i o h=>by simp at h,fun _ h=>h,fun _ h=>h,fun _ h=>.inl h,h⟩
 |o::l,i0,W0,N0,A,h=>by
  unfold dOps at h
  have hN:∀(N1:List (Nat×AV)),(∀x∈(if prs.any (·.2==i0)=true then namedL i0 o.op A++N0 else N0),x∈N1)→(prs.any (·.2==i0)=true→∀x∈o.op.operands.toList,(i0,A.eval x)∈N1)∧∀x∈N0,x∈N1:=fun N1 hs=>by
   refine ⟨fun hc x hx=>hs _ ?_,fun x hx=>hs x ?_⟩
   ·rw [if_pos hc]
    exact List.mem_append.2 (.inl (List.mem_map.2 ⟨x,hx,rfl⟩))
   ·split
    ·exact List.mem_append.2 (.inr hx)
    ·exact hx
  by_cases hj:js.contains i0=true
  ·rw [if_pos hj] at h
   obtain ⟨e,W',he,h⟩:=dstep_eff (ops:=ops) h
   obtain ⟨E',W,N,h1,h2,h3,h4,h7,h5⟩:=run_effsD l _ _ _ _ h
   obtain ⟨n1,n2⟩:=hN _ h4
   refine ⟨fun i=>match i with|0=>e|i+1=>E' i,W,N,fun i o' hi=>?_,fun i o' hi hc=>?_,fun x hx=>h3 x (List.mem_append.2 (.inr hx)),n2,fun x hx=>?_,?_⟩
   ·cases i with
    |zero=>
     rw [List.getElem?_cons_zero] at hi
     cases hi
     rw [Nat.add_zero,hj]
     exact he.mono fun id hid=>tagW_mem.2 (h3 _ (List.mem_append.2 (.inl (List.mem_map.2 ⟨id,hid,rfl⟩))))
    |succ i=>
     rw [List.getElem?_cons_succ] at hi
     rw [replay_shift,show i0+(i+1)=i0+1+i by omega]
     exact h1 i o' hi
   ·cases i with
    |zero=>
     rw [List.getElem?_cons_zero] at hi
     cases hi
     exact n1 hc
    |succ i=>
     rw [List.getElem?_cons_succ] at hi
     rw [replay_shift]
     rw [show i0+(i+1)=i0+1+i by omega] at hc ⊢
     exact h2 i o' hi hc
   ·rcases h7 x hx with h|h
    ·rw [List.mem_append] at h
     rcases h with h|h
     ·rw [List.mem_map] at h
      obtain ⟨id,_,rfl⟩:=h
      exact .inr hj
     ·exact .inl h
    ·exact .inr h
   ·rw [List.length_cons,replay_shift]
    exact h5
  ·rw [if_neg hj] at h
   obtain ⟨e,he,h⟩:=gstep_eff h
   obtain ⟨E',W,N,h1,h2,h3,h4,h7,h5⟩:=run_effsD l _ _ _ _ h
   obtain ⟨n1,n2⟩:=hN _ h4
   refine ⟨fun i=>match i with|0=>e|i+1=>E' i,W,N,fun i o' hi=>?_,fun i o' hi hc=>?_,h3,n2,h7,?_⟩
   ·cases i with
    |zero=>
     rw [List.getElem?_cons_zero] at hi
     cases hi
     rw [Nat.add_zero,show js.contains i0=false by simpa using hj]
     exact he.mono (by simp)
    |succ i=>
     rw [List.getElem?_cons_succ] at hi
     rw [replay_shift,show i0+(i+1)=i0+1+i by omega]
     exact h1 i o' hi
   ·cases i with
    |zero=>
     rw [List.getElem?_cons_zero] at hi
     cases hi
     exact n1 hc
    |succ i=>
     rw [List.getElem?_cons_succ] at hi
     rw [replay_shift]
     rw [show i0+(i+1)=i0+1+i by omega] at hc ⊢
     exact h2 i o' hi hc
   ·rw [List.length_cons,replay_shift]
    exact h5
theorem eval_same {A B:St} {x:Operand} (h:∀t,x=.tmp t→B.s t=A.s t):B.eval x=A.eval x:=by
 cases x<;>first|exact h _ rfl|rfl
theorem countP_lt {α:Type} {p q:α→Bool} {i:α}:∀{l:List α},i∈l→(∀j,p j=true→q j=true)→q i=true→p i=false→l.countP p<l.countP q
 |[],h,_,_,_=>by simp at h
 |x::l,h,hpq,h1,h2=>by
  have hle:l.countP p≤l.countP q:=List.countP_mono_left fun j _ hj=>hpq j hj
  by_cases e:i=x
  ·subst e
   rw [List.countP_cons_of_pos h1,List.countP_cons_of_neg (by simp [h2])]
   omega
  ·have hm:i∈l:=by
    rcases List.mem_cons.1 h with h|h
    ·exact (e h).elim
    ·exact h
   have ih:=countP_lt hm hpq h1 h2
   by_cases hp:p x=true
   ·rw [List.countP_cons_of_pos hp,List.countP_cons_of_pos (hpq x hp)];omega
   ·rw [List.countP_cons_of_neg hp]
    by_cases hq:q x=true
    ·rw [List.countP_cons_of_pos hq];omega
    ·rw [List.countP_cons_of_neg hq];omega
theorem calm_any {ops:Array Oper} {n:Nat} {C:Ctx P} {K:St→Prop} {Q:Exit→Act→World→Prop} {st:St} (hc:CalmR ops) (hd:dstsOK n ops.toList=true)
  (hQ:∀a w,SemK C n K a w→Q .normal a w) {E:Nat→Eff} {js:List Nat} {Wf:Nat→List Id}
  (hE:∀i o,ops[i]?=some o→EffAt P ops (js.contains i) (Wf i) o (replay (dstL ops.toList) E st tr i) (E i))
  (hH:∀(j k:Nat) (o o':Oper),ops[j]?=some o→ops[k]?=some o'→j≠k→js.contains j=false→writer o.op=true→hfree o'.op=false→Anc ops j k∨Anc ops k j)
  (hD:∀(j k:Nat) (o o':Oper),ops[j]?=some o→ops[k]?=some o'→j≠k→hfree o'.op=false→∀id∈Wf j,(∀x∈o'.op.operands.toList,¬idV id ((replay (dstL ops.toList) E st tr k).eval x))∨Anc ops j k∨Anc ops k j)
  (hW:∀j,∀id∈Wf j,id.1≠st.T) (hK:K (replay (dstL ops.toList) E st tr ops.size)) :
  ∀(fuel:Nat) (listed:Array Bool) (ρ:Lies) (a:Act) (w:World),listed.size=ops.size→((List.range ops.size).countP fun j=>!listed.getD j false)≤fuel→Closed ops (fun j=>listed.getD j false)→a.tmps.size=n→
   Rel C ρ (replay (dstL ops.toList) E st (fun j=>listed.getD j false) ops.size) a w→wpAny P .any ops Q fuel listed a w:=by
 have dstE:∀j o,ops[j]?=some o→dstL ops.toList j=o.dst:=fun j o h=>by simp [dstL,h]
 have dstN:∀j d,dstL ops.toList j=some d→∃o,ops[j]?=some o∧o.dst=some d:=fun j d h=>by
  unfold dstL at h
  cases ho:ops[j]? with
  |none=>simp [ho] at h
  |some o=>exact ⟨o,rfl,by simpa [ho] using h⟩
 have done:∀(listed:Array Bool) (ρ:Lies) (a:Act) (w:World),(∀j,j<ops.size→listed.getD j false=true)→a.tmps.size=n→Rel C ρ (replay (dstL ops.toList) E st (fun j=>listed.getD j false) ops.size) a w→Q .normal a w:=fun listed ρ a w hall ha hr=>by
  refine hQ a w ⟨ha,ρ,_,hr,?_⟩
  rw [replay_congr (S':=tr) fun j hj=>hall j hj]
  exact hK
 have none_ready:∀(listed:Array Bool),listed.size=ops.size→Region.ready .any ops listed=[]→∀j,j<ops.size→listed.getD j false=true:=fun listed hsz hr j=>by
  induction j using Nat.strongRecOn with
  |_ j ih=>
   intro hj
   cases h:listed.getD j false with
   |true=>rfl
   |false=>
    have hm:j∈Region.ready .any ops listed:=by
     rw [mem_ready]
     have hjl:j<listed.size:=by omega
     refine ⟨?_,ops[j],by simp [hj],fun e he hb=>?_⟩
     ·rw [Array.getD_eq_getD_getElem?] at h ⊢
      rw [Array.getElem?_eq_getElem hjl] at h ⊢
      exact h
     ·have hlt:=hc.lt j ops[j] e (by simp [hj]) he hb
      exact ih e.on hlt (by omega)
    rw [hr] at hm
    cases hm
 intro fuel
 induction fuel with
 |zero=>
  intro listed ρ a w hsz hcnt hcl ha hr
  have hall:∀j,j<ops.size→listed.getD j false=true:=fun j hj=>by
   have:(List.range ops.size).countP (fun j=>!listed.getD j false)=0:=by omega
   rw [List.countP_eq_zero] at this
   have:=this j (by simpa using hj)
   simpa using this
  refine ⟨?_,done listed ρ a w hall ha hr⟩
  cases hrd:Region.ready .any ops listed with
  |nil=>rfl
  |cons i r=>
   have hm:i∈Region.ready .any ops listed:=by rw [hrd];simp
   rw [mem_ready] at hm
   obtain ⟨h1,o,ho,_⟩:=hm
   have hi:i<ops.size:=(Array.getElem?_eq_some_iff.1 ho).1
   have:=hall i hi
   rw [Array.getD_eq_getD_getElem?,Array.getElem?_eq_getElem (by omega)] at h1 this
   simp only [Option.getD_some] at h1 this
   rw [h1] at this
   cases this
 |succ fuel ih=>
  intro listed ρ a w hsz hcnt hcl ha hr
  refine ⟨fun hrd=>done listed ρ a w (none_ready listed hsz hrd) ha hr,fun i hi=>?_⟩
  rw [mem_ready] at hi
  obtain ⟨hi0,o,ho,hdirect⟩:=hi
  have hin:i<ops.size:=(Array.getElem?_eq_some_iff.1 ho).1
  have hil:i<listed.size:=by omega
  have hiF:listed.getD i false=false:=by
   rw [Array.getD_eq_getD_getElem?,Array.getElem?_eq_getElem hil] at hi0 ⊢
   exact hi0
  have ancS:∀k,Anc ops i k→listed.getD k false=true:=fun k hk=>hk.mem hcl fun o' e ho' he hb=>by
   rw [ho] at ho';cases ho'
   exact hdirect e he hb
  have ancT:∀k,Anc ops k i→listed.getD k false=false:=fun k hk=>by
   cases h:listed.getD k false with
   |false=>rfl
   |true=>
    have:=hk.mem hcl fun o' e ho' he hb=>hcl k o' e h ho' he hb
    rw [hiF] at this
    cases this
  have hei:=hE i o ho
  have hDi:=fun (j:Nat) (o':Oper) (ho':ops[j]?=some o')=>hD j i o' o ho' ho
  have ownT:∀{d:Option Nat} {id:Id},ownId d st.T id→id.1=st.T:=fun ⟨_,_,h,_⟩=>h
  generalize hA:replay (dstL ops.toList) E st tr i=Ai at hei hDi
  generalize hB:replay (dstL ops.toList) E st (fun j=>listed.getD j false) ops.size=B at hr
  have hAi:Ai=replay (dstL ops.toList) E st (fun j=>decide (j<i)) ops.size:=by
   rw [←hA]
   have:∀m,i≤m→replay (dstL ops.toList) E st (fun j=>decide (j<i)) m=replay (dstL ops.toList) E st tr i:=fun m hm=>by
    induction m with
    |zero=>
     have:i=0:=by omega
     subst this;rfl
    |succ m ihm=>
     by_cases e:i=m+1
     ·rw [e]
      refine replay_congr fun j hj=>?_
      simp [tr,hj]
     ·have hm':i≤m:=by omega
      rw [replay,if_neg (by simpa using hm')]
      exact ihm hm'
   exact (this ops.size (by omega)).symm
  have hEs:∀j,j<ops.size→∃o',ops[j]?=some o':=fun j hj=>⟨ops[j],by simp [hj]⟩
  have notU:∀j,j<ops.size→∀id ob,(E j).N id=some ob→ob≠.unborn:=fun j hj id ob h=>by
   obtain ⟨o',ho'⟩:=hEs j hj
   exact ((hE j o' ho').own id ob h).1
  have unb:∀(S:Nat→Bool) (m:Nat),m≤ops.size→∀id,(replay (dstL ops.toList) E st S m).H id=.unborn→st.H id=.unborn∧∀j,j<m→S j=true→(E j).N id=none:=fun S m=>by
   induction m with
   |zero=>intro _ id h;exact ⟨h,fun j hj=>by omega⟩
   |succ m ihm=>
    intro hm id h
    unfold replay at h
    split at h
    ·rename_i hs
     rw [app_H] at h
     cases hn:(E m).N id with
     |some ob=>rw [hn] at h;exact (notU m (by omega) id ob hn h).elim
     |none=>
      rw [hn] at h
      obtain ⟨h1,h2⟩:=ihm (by omega) id h
      refine ⟨h1,fun j hj hsj=>?_⟩
      by_cases e:j=m
      ·subst e;exact hn
      ·exact h2 j (by omega) hsj
    ·rename_i hs
     obtain ⟨h1,h2⟩:=ihm (by omega) id h
     refine ⟨h1,fun j hj hsj=>?_⟩
     by_cases e:j=m
     ·subst e;exact (hs hsj).elim
     ·exact h2 j (by omega) hsj
  have notfree:∀j o',ops[j]?=some o'→∀id,(E j).N id≠none→hfree o'.op=false:=fun j o' ho' id h=>by
   cases hf:hfree o'.op with
   |false=>rfl
   |true=>exact (h ((hE j o' ho').free hf id)).elim
  have T0:∀m,(replay (dstL ops.toList) E st tr m).T=st.T:=fun m=>replay_T tr m
  have sameOwner:∀(j k:Nat) (o' o'':Oper) (id:Id),ops[j]?=some o'→ops[k]?=some o''→ownId o'.dst st.T id→ownId o''.dst st.T id→j=k:=fun j k o' o'' id hj hk h1 h2=>by
   by_cases e:j=k
   ·exact e
   ·have:=ownId_eq h1 h2 (fun n hn=>hc.small j o' n hj hn) (fun n hn=>hc.small k o'' n hk hn)
    obtain ⟨d,hd1,_⟩:=h2
    exact (hc.dst j k o' o'' d hj hk e hd1 (this.trans hd1)).elim
  have apart:∀k,i<k→listed.getD k false=true→∀id,(E i).N id≠none→(E k).N id=none:=fun k hik hk id hni=>by
   cases hnk:(E k).N id with
   |none=>rfl
   |some ob=>
    have hkn:k<ops.size:=by
     rcases Nat.lt_or_ge k ops.size with h|h
     ·exact h
     ·rw [Array.getD_eq_getD_getElem?,Array.getElem?_eq_none (by omega)] at hk
      cases hk
    obtain ⟨o',ho'⟩:=hEs k hkn
    obtain ⟨ob',hob'⟩:=Option.ne_none_iff_exists'.1 hni
    have f1:=notfree i o ho id hni
    have f2:=notfree k o' ho' id (by rw [hnk];simp)
    have cmp:(Anc ops i k∨Anc ops k i)→False:=fun h=>by
     rcases h with h|h
     ·have:=h.lt hc;omega
     ·have:=ancT k h
      rw [hk] at this
      cases this
    have hne:i≠k:=by omega
    have hAT:Ai.T=st.T:=by rw [←hA];exact T0 i
    rcases (hei.own id ob' hob').2 with ⟨q1,_⟩|⟨⟨qd,q1⟩|⟨q1,_⟩,_⟩
    ·rw [hAT] at q1
     rcases ((hE k o' ho').own id ob hnk).2 with ⟨r1,_⟩|⟨⟨rd,r1⟩|⟨r1,_⟩,_⟩
     ·rw [T0 k] at r1
      exact (hne (sameOwner i k o o' id ho ho' q1 r1)).elim
     ·exact (cmp ((hH k i o' o ho' ho (fun e=>hne e.symm) rd r1 f1).symm)).elim
     ·exact (hW k id r1 (ownT q1)).elim
    ·exact (cmp (hH i k o o' ho ho' hne qd q1 f2)).elim
    ·rcases ((hE k o' ho').own id ob hnk).2 with ⟨r1,_⟩|⟨⟨rd,r1⟩|⟨r1,x,hx,hi⟩,_⟩
     ·rw [T0 k] at r1
      exact (hW i id q1 (ownT r1)).elim
     ·exact (cmp ((hH k i o' o ho' ho (fun e=>hne e.symm) rd r1 f1).symm)).elim
     ·rcases hD i k o o' ho ho' hne f2 id q1 with h|h
      ·exact (h x hx hi).elim
      ·exact (cmp h).elim
  have hnext:replay (dstL ops.toList) E st (fun j=>(listed.setIfInBounds i true).getD j false) ops.size=(E i).app o.dst B:=by
   rw [←hB,←dstE i o ho]
   refine replay_insert hiF (fun j=>?_) (fun k t hk hdi hdk=>?_) apart hin
   ·simp only [Array.getD_eq_getD_getElem?,Array.getElem?_setIfInBounds]
    by_cases e:j=i
    ·subst e;simp [hil]
    ·have e':¬i=j:=fun h=>e h.symm
     simp [e,e']
   ·obtain ⟨o1,ho1,hd1⟩:=dstN i t hdi
    obtain ⟨o2,ho2,hd2⟩:=dstN k t hdk
    exact hc.dst k i o2 o1 t ho2 ho1 hk hd1 hd2
  have slots:∀t,t∈o.looksAt ops→B.s t=Ai.s t:=fun t ht=>by
   rw [←hB,hAi]
   by_cases hex:∃k,k<ops.size∧k≠i∧dstL ops.toList k=some t
   ·obtain ⟨k,hk,hki,hdk⟩:=hex
    obtain ⟨o',ho',hd'⟩:=dstN k t hdk
    have uniq:∀m,m<ops.size→m≠k→dstL ops.toList m≠some t:=fun m hm hmk hdm=>by
     obtain ⟨o'',ho'',hd''⟩:=dstN m t hdm
     exact hc.dst m k o'' o' t ho'' ho' hmk hd' hd''
    rcases hc.look i k o o' t ho ho' (fun e=>hki e.symm) hd' ht with h|h
    ·have h1:=h.lt hc
     rw [replay_hit (j:=k) hk (ancS k h) hdk uniq,replay_hit (j:=k) hk (by simp [h1]) hdk uniq]
    ·have h1:=h.lt hc
     have h2:=ancT k h
     rw [replay_miss fun j hj hs hdj=>?_,replay_miss fun j hj hs hdj=>?_]
     ·by_cases e:j=k
      ·subst e
       have:j<i:=by simpa using hs
       omega
      ·exact uniq j hj e hdj
     ·by_cases e:j=k
      ·subst e
       rw [h2] at hs;cases hs
      ·exact uniq j hj e hdj
   ·rw [replay_miss fun j hj hs hdj=>?_,replay_miss fun j hj hs hdj=>?_]
    ·by_cases e:j=i
     ·subst e
      have:j<j:=by simp at hs
      omega
     ·exact hex ⟨j,hj,e,hdj⟩
    ·by_cases e:j=i
     ·subst e
      rw [hiF] at hs;cases hs
     ·exact hex ⟨j,hj,e,hdj⟩
  have hBT:B.T=Ai.T:=by rw [←hB,←hA,replay_T,replay_T]
  have evs:∀x∈o.op.operands.toList,B.eval x=Ai.eval x:=fun x hx=>eval_same fun t e=>slots t (looks_mem (by rw [←e];exact hx))
  have alike:Alike o.op Ai B:=by
   refine ⟨hBT,evs,fun hf x hx id hid hu=>?_⟩
   have hbB:B.H id≠.unborn:=(hr.eval x).born (by rw [evs x hx];exact hid)
   rw [←hB] at hbB ⊢
   rw [hAi] at hu ⊢
   refine replay_heap fun j hj hn=>?_
   by_cases e:j=i
   ·subst e
    rw [hiF];simp
   ·obtain ⟨o',ho'⟩:=hEs j hj
    have hf':=notfree j o' ho' id hn
    obtain ⟨ob,hob⟩:=Option.ne_none_iff_exists'.1 hn
    rcases ((hE j o' ho').own id ob hob).2 with ⟨q1,q2⟩|⟨⟨qd,q1⟩|⟨q1,_⟩,q2⟩
    ·rw [T0 j] at q1
     obtain ⟨u1,u2⟩:=unb tr j (by omega) id q2
     have hji:j<i:=by
      rcases Nat.lt_or_ge j i with h|h
      ·exact h
      ·exfalso
       apply hu
       rw [replay_heap_miss fun k hk hs=>u2 k (by have:k<i:=(by simpa using hs);omega) rfl]
       exact u1
     have hjS:listed.getD j false=true:=by
      by_cases hex:∃k,k<ops.size∧listed.getD k false=true∧(E k).N id≠none
      ·obtain ⟨k,hk,hks,hkn⟩:=hex
       by_cases ekj:k=j
       ·rw [←ekj];exact hks
       ·obtain ⟨o'',ho''⟩:=hEs k hk
        obtain ⟨ob2,hob2⟩:=Option.ne_none_iff_exists'.1 hkn
        rcases ((hE k o'' ho'').own id ob2 hob2).2 with ⟨r1,_⟩|⟨⟨rd,r1⟩|⟨r1,_⟩,r2⟩
        ·rw [T0 k] at r1
         exact (ekj (sameOwner k j o'' o' id ho'' ho' r1 q1)).elim
        ·rcases hH k j o'' o' ho'' ho' ekj rd r1 hf' with h|h
         ·exact h.mem hcl fun o3 e3 ho3 he3 hb3=>hcl k o3 e3 hks ho3 he3 hb3
         ·have hkj:=h.lt hc
          exfalso
          apply r2
          rw [replay_heap_miss fun m hm hs=>u2 m (by omega) rfl]
          exact u1
        ·exact (hW k id r1 (ownT q1)).elim
      ·exfalso
       apply hbB
       rw [replay_heap_miss fun m hm hs=>?_]
       ·exact u1
       ·by_cases hnn:(E m).N id=none
        ·exact hnn
        ·exact (hex ⟨m,hm,hs,hnn⟩).elim
     rw [hjS];simp [hji]
    ·rcases hH j i o' o ho' ho e qd q1 hf with h|h
     ·have:=h.lt hc
      rw [ancT j h]
      have:¬j<i:=by omega
      simp [this]
     ·have:=h.lt hc
      rw [ancS j h];simp [this]
    ·rcases hDi j o' ho' e hf id q1 with h|h|h
     ·exact (h x hx hid).elim
     ·have:=h.lt hc
      rw [ancT j h]
      have:¬j<i:=by omega
      simp [this]
     ·have:=h.lt hc
      rw [ancS j h];simp [this]
  have fresh:∀id,(E i).N id≠none→Ai.H id=.unborn→B.H id=.unborn:=fun id hn hu=>by
   rw [←hA] at hu
   obtain ⟨u1,u2⟩:=unb tr i (by omega) id hu
   rw [←hB,replay_heap_miss fun k hk hs=>?_]
   ·exact u1
   ·rcases Nat.lt_or_ge k i with h|h
    ·exact u2 k h rfl
    ·by_cases e:k=i
     ·subst e;rw [hiF] at hs;cases hs
     ·exact apart k (by omega) hs id hn
  have hgo:=hei.go B alike (fun j want d hg hd=>slots d (looks_guard hg hd)) fresh
  have hdd:∀d,o.dst=some d→d<a.tmps.size:=fun d hd'=>by
   have:=List.all_eq_true.1 hd o (by simpa using Array.mem_of_getElem? ho)
   rw [hd'] at this
   rw [ha]
   simpa using this
  refine wpOp_mono (fun a' w' h=>?_) (gstepX_sound ho hr hdd hgo)
  obtain ⟨g1,ρ',st',g2,g3⟩:=h
  subst g3
  rw [←hnext] at g2
  refine ih _ ρ' a' w' (by simpa using hsz) ?_ ?_ (g1.trans ha) g2
  ·have hlt:(List.range ops.size).countP (fun j=>!(listed.setIfInBounds i true).getD j false)<(List.range ops.size).countP (fun j=>!listed.getD j false):=by
    refine countP_lt (i:=i) (by simpa using hin) (fun j hj=>?_) (by simp only [hiF,Bool.not_false]) ?_
    ·simp only [Array.getD_eq_getD_getElem?,Array.getElem?_setIfInBounds] at hj ⊢
     by_cases e:i=j
     ·subst e;simp [hil] at hj
     ·rw [if_neg e] at hj;exact hj
    ·simp [hil]
   omega
  ·intro j o' e hj ho' he hb
   simp only at hj ⊢
   have get:∀k,(listed.setIfInBounds i true).getD k false=(listed.getD k false||decide (k=i)):=fun k=>by
    simp only [Array.getD_eq_getD_getElem?,Array.getElem?_setIfInBounds]
    by_cases e:k=i
    ·subst e;simp [hil]
    ·have e':¬i=k:=fun h=>e h.symm
     simp [e,e']
   rw [get] at hj ⊢
   rw [Bool.or_eq_true] at hj ⊢
   rcases hj with hj|hj
   ·exact .inl (hcl j o' e hj ho' he hb)
   ·have:j=i:=by simpa using hj
    subst this
    rw [ho] at ho';cases ho'
    exact .inl (hdirect e he hb)
theorem RelH.draw {C:Ctx P} {H:Heap} {ρ:Lies} {w:World} (h:RelH C H ρ w):RelH C H ρ {w with drawn:=w.drawn+1}:=by
 have hk:Keeps w {w with drawn:=w.drawn+1} (Fr C H ρ) (Fr C H ρ) H H ρ ρ:=⟨Nat.le_refl _,fun _ _ h _=>⟨h,rfl⟩,fun _ h=>⟨h,fun l=>⟨l,rfl⟩⟩⟩
 refine ⟨h.below.drew,fun id e sz frz rows hi=>?_,h.inj,h.fin⟩
 obtain ⟨r1,r2⟩:=h.row id e sz frz rows hi
 refine ⟨r1,r2.imp_right fun ⟨b,cap,cur,q1,q2,q3,q4,q5,q6,q7⟩=>⟨b,cap,cur,q1,q2,q3,q4,q5,q6,fun i j r c hr hc=>?_⟩⟩
 obtain ⟨v,v1,v2,v3⟩:=q7 i j r c hr hc
 exact ⟨v,v1,v2,v3.keep hk⟩
theorem Rel.draw {C:Ctx P} {ρ:Lies} {st:St} {a:Act} {w:World} (h:Rel C ρ st a w):Rel C ρ st a {w with drawn:=w.drawn+1}:=by
 have hk:Keeps w {w with drawn:=w.drawn+1} (Fr C st.H ρ) (Fr C st.H ρ) st.H st.H ρ ρ:=⟨Nat.le_refl _,fun _ _ h _=>⟨h,rfl⟩,fun _ h=>⟨h,fun l=>⟨l,rfl⟩⟩⟩
 exact ⟨h.heap.draw,fun t=>(h.slot t).keep hk,h.nodef,C.keepX hk h.ghost⟩
theorem dOK_of {ops:Array Oper} {js:List Nat} {prs:List (Nat×Nat)} (h:dOK ops js prs=true):∀(j k:Nat) (o o':Oper),ops[j]?=some o→ops[k]?=some o'→j≠k→js.contains j=true∨writer o.op=true→hfree o'.op=false→
  (js.contains j=true∧(j,k)∈prs)∨Anc ops j k∨Anc ops k j:=by
 unfold dOK at h
 simp only at h
 intro j k o o' hj hk hne hw hf
 have hanc:=upTab_anc (ops:=ops) ops.toList [] (fun j k h=>by simp at h) (fun i=>by simp)
 have h1:=List.all_eq_true.1 h (o,j) (by rw [List.mem_zipIdx_iff_getElem?];simpa using hj)
 rw [Bool.and_eq_true] at h1
 have h2:=h1.2
 have hw':(js.contains j||writer o.op)=true:=by rcases hw with e|e<;>rw [e]<;>simp
 simp only [hw',Bool.not_true,Bool.false_or] at h2
 have h3:=List.all_eq_true.1 h2 (o',k) (by rw [List.mem_zipIdx_iff_getElem?];simpa using hk)
 simp only [Bool.or_eq_true,beq_iff_eq,hf,Bool.false_eq_true,or_false,Bool.and_eq_true] at h3
 rcases h3 with (h|h|h)|h
 ·exact (hne h).elim
 ·exact .inr (.inl (hanc _ _ h))
 ·exact .inr (.inr (hanc _ _ h))
 ·exact .inl ⟨h.1,by simpa using h.2⟩
theorem calm_ok (hm:P.follows .mixedOrders=true):CalmOK P calmB:=by
 intro C n ops id K Q ρ st a w hcalm hd ha hr hQ hp hk
 have hc:=calm_of hcalm
 have core:∀{E:Nat→Eff} {js:List Nat} {Wf:Nat→List Id},
   (∀i o,ops[i]?=some o→EffAt P ops (js.contains i) (Wf i) o (replay (dstL ops.toList) E st tr i) (E i))→
   (∀(j k:Nat) (o o':Oper),ops[j]?=some o→ops[k]?=some o'→j≠k→js.contains j=false→writer o.op=true→hfree o'.op=false→Anc ops j k∨Anc ops k j)→
   (∀(j k:Nat) (o o':Oper),ops[j]?=some o→ops[k]?=some o'→j≠k→hfree o'.op=false→∀id∈Wf j,(∀x∈o'.op.operands.toList,¬idV id ((replay (dstL ops.toList) E st tr k).eval x))∨Anc ops j k∨Anc ops k j)→
   (∀j,∀id∈Wf j,id.1≠st.T)→
   K (replay (dstL ops.toList) E st tr ops.size)→(Code.region id ops true).wp P Q a w:=fun {E js Wf} hE hH hD hW h2=>by
  refine wp_region_any hm (calm_any hc hd hQ hE hH hD hW h2 ops.size _ ρ a _ (by simp) ?_ ?_ ha ?_)
  ·exact Nat.le_trans List.countP_le_length (by simp)
  ·intro j o e hj ho he hb
   simp only [Array.getD_eq_getD_getElem?,Array.getElem?_replicate] at hj
   split at hj<;>cases hj
  ·rw [replay_congr (S':=fun _=>false) fun j hj=>by simp [Array.getD_eq_getD_getElem?,Array.getElem?_replicate,hj]]
   have:∀m,replay (dstL ops.toList) E st (fun _=>false) m=st:=fun m=>by
    induction m with
    |zero=>rfl
    |succ m ih=>rw [replay];simpa using ih
   rw [this]
   exact hr.draw
 rcases hk with ⟨hk,hh⟩|⟨_,js,prs,hdk,hk⟩
 ·obtain ⟨E,h1,h2⟩:=run_effs ops.toList st hk
  refine core (js:=[]) (Wf:=fun _=>[]) (fun i o ho=>?_) (fun j k o o' hj hk' hne _ hw hf=>?_) (fun j k o o' _ _ _ _ id h=>by simp at h) (fun j id h=>by simp at h) (by simpa using h2)
  ·exact h1 i o (by simpa using ho)
  ·rcases dOK_of (hh rfl) j k o o' hj hk' hne (.inr hw) hf with h|h
   ·simp at h
   ·exact h
 ·obtain ⟨E,W,N,h1,h2,_,_,h7,h5,h6⟩:=run_effsD ops.toList 0 [] [] st hk
  refine core (js:=js) (Wf:=tagW W) (fun i o ho=>?_) (fun j k o o' hj hk' hne hjs hw hf=>?_) (fun j k o o' hj hk' hne hf id hid=>?_) (fun j id hid=>(h5 _ (tagW_mem.1 hid)).1) (by simpa using h6)
  ·have:=h1 i o (by simpa using ho)
   rw [Nat.zero_add] at this
   exact this
  ·rcases dOK_of hdk j k o o' hj hk' hne (.inr hw) hf with h|h
   ·rw [hjs] at h;cases h.1
   ·exact h
  ·have hn:=fun x hx hp=>h2 k o' (by simpa using hk') (by rw [Nat.zero_add];exact hp) x hx
   by_cases hjs:js.contains j=true
   ·rcases dOK_of hdk j k o o' hj hk' hne (.inl hjs) hf with h|h
    ·left
     intro x hx hi
     have hp:prs.any (·.2==k)=true:=List.any_eq_true.2 ⟨(j,k),h.2,by simp⟩
     have:=hn x hx hp
     rw [Nat.zero_add] at this
     exact (h5 _ (tagW_mem.1 hid)).2 _ this h.2 hi
    ·exact .inr h
   ·exact (hjs ((h7 _ (tagW_mem.1 hid)).resolve_left (by simp))).elim
end Go.AE
set_option linter.unusedVariables false
set_option linter.unusedSimpArgs false
namespace Go.AE
open Go
variable {P:Program}
structure SO where
 dst:Option Nat
 op:Op
 g:Option (Option Nat×Bool)
inductive SC where
 |skip
 |region (id:Nat) (ops:List SO) (draw:Bool)
 |seq (x y:SC)
 |cond (c:Operand) (x y:SC)
 |block (id:Nat) (x:SC)
 |loop (x:SC)
 |exit (id:Nat)
 |ret
 |no
 |regionK (id:Nat) (ops:List SO) (js:List Nat) (prs:List (Nat×Nat))
def slimOps (ops:Array Oper) (l:List Oper):List SO:=l.map fun o=>⟨o.dst,o.op,o.guard.map fun q=>(gslot ops q.1,q.2)⟩
def slim:Code→SC
 |.skip=>.skip
 |.region id ops draw=>.region id (slimOps ops ops.toList) draw
 |.seq x y=>.seq (slim x) (slim y)
 |.cond c x y=>.cond c (slim x) (slim y)
 |.block id x=>.block id (slim x)
 |.loop x=>.loop (slim x)
 |.exit id=>.exit id
 |.ret=>.ret
 |_=>.no
def unK:SC→SC
 |.regionK id ops _ _=>.region id ops true
 |.seq x y=>.seq (unK x) (unK y)
 |.cond c x y=>.cond c (unK x) (unK y)
 |.block id x=>.block id (unK x)
 |.loop x=>.loop (unK x)
 |s=>s
def kOK:Code→SC→Bool
 |.region _ ops d,.regionK _ _ js prs=>d&&dOK ops js prs
 |.region _ ops d,.region ..=>!d||heapB ops
 |.seq x y,.seq x' y'=>kOK x x'&&kOK y y'
 |.cond _ x y,.cond _ x' y'=>kOK x x'&&kOK y y'
 |.block _ x,.block _ x'=>kOK x x'
 |.loop x,.loop x'=>kOK x x'
 |_,.regionK ..=>false
 |_,_=>true
def slimK (b:Option Code) (s:SC):Option (SC×Bool):=b.map fun c=>(slim c,kOK c s)
inductive Ent where
 |pu (h:List AV→Option (Prop×AV))
 |mu (h:MH)
abbrev CT:=List (FuncId×Ent)
def ctGet:CT→FuncId→Option Ent
 |[],_=>none
 |(g,h)::r,f=>if f=g then some h else ctGet r f
def Tells (P:Program) (f:FuncId) (h:List AV→Option (Prop×AV)):Prop:=∀args C ret,h args=some (C,ret)→C→PEv P f args ret
def EntOk (P:Program) (f:FuncId):Ent→Prop
 |.pu h=>Tells P f h
 |.mu h=>MTells P f h
def CTok (P:Program):CT→Prop
 |[]=>True
 |(f,h)::r=>EntOk P f h∧CTok P r
theorem ctGet_ok:∀{F:CT} {f:FuncId} {h},CTok P F→ctGet F f=some h→EntOk P f h
 |[],_,_,_,h=>by simp [ctGet] at h
 |(g,h')::r,f,h,hF,hg=>by
  unfold ctGet at hg
  split at hg
  ·rename_i e;subst e;cases hg;exact hF.1
  ·exact ctGet_ok hF.2 hg
def CallS (P:Program) (F:CT) (dr:Bool) (st:St) (dst:Option Nat) (f:FuncId) (args:List AV) (K:St→Prop):Prop:=
 match ctGet F f with
 |some (.pu h)=>match viewA st.H args with
  |some args'=>match h args' with
   |some (C,ret)=>C∧adUn (nmOf st dst) st.H 0 ret.flat∧(dr=true→ret.flat.length≤1024∧dst.isSome=true)∧K (adopt st dst ret)
   |none=>False
  |none=>False
 |some (.mu h)=>match h st.H args with
  |some (C,us,ret)=>C∧dr=false∧adUn (nmOf st dst) st.H 0 ret.flat∧K (adoptM st dst us ret)
  |none=>False
 |none=>ACall P dr st dst f args K
def isNilC:Operand→Bool
 |.const (.slice none 0 0)=>true
 |_=>false
def stepS (P:Program) (F:CT) (dr:Bool) (dst:Option Nat) (op:Op) (st:St) (K:St→Prop):Prop:=
 match op with
 |.call c=>
  match c.callee with
  |.builtin b=>abi P dst b c.args.toList c.argTypes.toList st K
  |.value f=>match st.eval f with
   |.c (.fn g caps)=>CallS P F dr st dst g (c.args.toList.map st.eval++caps.map .c) K
   |_=>False
  |.invoke _ _=>False
 |.binOp op t x y t'=>if isNilC y=true then dr=false∧aNil P dst op t (st.eval x) (st.eval y) st K else aop P dst (.binOp op t x y t') st K
 |op=>aop P dst op st K
def opsS (P:Program) (F:CT) (dr:Bool):List SO→(St→Prop)→St→Prop
 |[],K,st=>K st
 |o::rest,K,st=>
  match o.g with
  |none=>stepS P F dr o.dst o.op st (opsS P F dr rest K)
  |some (gs,want)=>agd gs want st (fun st=>stepS P F dr o.dst o.op st (opsS P F dr rest K)) (fun st=>opsS P F dr rest K (st.put o.dst (.c (.raw undef))))
def St.tick (st:St):St:={st with T:=st.T+1}
def dstepS (P:Program) (F:CT) (o:SO) (st:St) (K:List Id→St→Prop):Prop:=
 match o.g,o.op with
 |none,.call c=>
  match c.callee with
  |.value f=>match st.eval f with
   |.c (.fn g caps)=>match ctGet F g with
    |some (.mu h)=>match h st.H (c.args.toList.map st.eval++caps.map .c) with
     |some (C,us,ret)=>C∧adUn (nmOf st o.dst) st.H 0 ret.flat∧(ret.flat.length≤1024∧o.dst.isSome=true)∧K (us.map (·.1)) (adoptM st o.dst us ret)
     |none=>False
    |_=>False
   |_=>False
  |_=>False
 |none,.store t x v=>
  match st.eval x with
  |.c (.pt id _ _)=>aop P o.dst (.store t x v) st (K [id])
  |_=>False
 |_,_=>False
def opsD (P:Program) (F:CT) (js:List Nat) (prs:List (Nat×Nat)):List SO→Nat→List (Nat×Id)→List (Nat×AV)→(List (Nat×Id)→List (Nat×AV)→St→Prop)→St→Prop
 |[],_,W,N,K,st=>K W N st
 |o::rest,i,W,N,K,st=>
  if js.contains i=true then dstepS P F o st fun W' st'=>opsD P F js prs rest (i+1) (W'.map (fun id=>(i,id))++W) (if prs.any (·.2==i)=true then namedL i o.op st++N else N) K st'
  else
   match o.g with
   |none=>stepS P F true o.dst o.op st (opsD P F js prs rest (i+1) W (if prs.any (·.2==i)=true then namedL i o.op st++N else N) K)
   |some (gs,want)=>agd gs want st (fun st'=>stepS P F true o.dst o.op st' (opsD P F js prs rest (i+1) W (if prs.any (·.2==i)=true then namedL i o.op st++N else N) K))
     (fun st'=>opsD P F js prs rest (i+1) W (if prs.any (·.2==i)=true then namedL i o.op st++N else N) K (st'.put o.dst (.c (.raw undef))))
def awpS (P:Program) (F:CT):SC→(AEx→St→Prop)→St→Prop
 |.skip,Q,st=>Q .normal st
 |.region _ ops draw,Q,st=>opsS P F draw ops (fun st=>Q .normal st.tick) st
 |.seq x y,Q,st=>awpS P F x (athen (awpS P F y Q) Q) st
 |.cond c x y,Q,st=>
  match st.eval c with
  |.c (.raw (.bool b))=>(b=true→awpS P F x Q st)∧(b=false→awpS P F y Q st)
  |_=>False
 |.block id x,Q,st=>awpS P F x (ablock id Q) st
 |.loop x,Q,st=>∃(I:St→Prop) (μ:St→Nat),I st∧∀st',I st'→awpS P F x (athen (fun st''=>I st''∧μ st''<μ st') Q) st'
 |.exit id,Q,st=>Q (.exit id) st
 |.ret,Q,st=>Q .ret st
 |.no,_,_=>False
 |.regionK _ ops js prs,Q,st=>opsD P F js prs ops 0 [] [] (fun W N st'=>(∀x∈W,x.2.1≠st.T∧∀y∈N,(x.1,y.1)∈prs→¬idV x.2 y.2)∧Q .normal st'.tick) st
theorem callS_sound {F:CT} (hF:CTok P F) {dr:Bool} {st:St} {dst:Option Nat} {f:FuncId} {args:List AV} {K:St→Prop} (h:CallS P F dr st dst f args K):ACall P dr st dst f args K:=by
 unfold CallS at h
 split at h
 ·rename_i g hg
  split at h
  ·rename_i args' ha
   split at h
   ·rename_i D ret hr
    obtain ⟨h1,h2,h3,h4⟩:=h
    exact .inl ⟨false,args',ret,ha,ctGet_ok hF hg args' D ret hr h1,h2,h3,h4⟩
   ·exact h.elim
  ·exact h.elim
 ·rename_i g hg
  split at h
  ·rename_i D us ret hr
   obtain ⟨h1,h2,h3,h4⟩:=h
   have ck:=(ctGet_ok hF hg).go (dst:=dst) hr h1 h3
   refine .inr ⟨h2,ck.1,fun C ρ a w vs q1 q2 q3=>(ck.2 C ρ a w vs q1 q2 q3).mono fun e w' ⟨v,e1,ρ',r,H',T',g1,g2,g3,g4,g5⟩=>⟨v,e1,ρ',r,H',T',g1,g2,?_⟩⟩
   subst g3 g4 g5
   exact h4
  ·exact h.elim
 ·exact h
theorem acall_mono {dr:Bool} {st:St} {dst:Option Nat} {f:FuncId} {args:List AV} {K K':St→Prop} (hk:∀st,K st→K' st) (h:ACall P dr st dst f args K):ACall P dr st dst f args K':=by
 rcases h with ⟨m,args',ret,h1,h2,h3,h4,h5⟩|⟨h1,h2,h3⟩
 ·exact .inl ⟨m,args',ret,h1,h2,h3,h4,hk _ h5⟩
 ·refine .inr ⟨h1,h2,fun C ρ a w vs hr hs hv=>Calls.mono (h3 C ρ a w vs hr hs hv) fun e w' ⟨v,e1,ρ',ret,H',T',q1,q2,q3⟩=>⟨v,e1,ρ',ret,H',T',q1,q2,hk _ q3⟩⟩
theorem stepS_sound {F:CT} (hF:CTok P F) {dr:Bool} {dst:Option Nat} {op:Op} {st:St} {K:St→Prop} (h:stepS P F dr dst op st K):astep P dr dst op st K:=by
 cases op with
 |call c=>
  simp only [stepS] at h
  simp only [astep]
  split
  ·rename_i b hb
   rw [hb] at h
   exact h
  ·rename_i f hf
   rw [hf] at h
   simp only at h
   split at h
   ·rename_i g caps hfe
    rw [hfe]
    exact callS_sound hF h
   ·exact h.elim
  ·rename_i r m hr
   rw [hr] at h
   exact h.elim
 |binOp op t x y t'=>
  simp only [stepS] at h
  simp only [astep]
  split at h
  ·exact .inr h
  ·exact .inl h
 |_=>exact h
theorem newObj_mono {st:St} {dst:Option Nat} {e sz:Nat} {rows:List (List AC)} {v:Id→AC} {K K':St→Prop} (hk:∀st,K st→K' st) (h:newObj st dst e sz rows v K):newObj st dst e sz rows v K':=by
 cases dst with
 |none=>exact h
 |some d=>exact ⟨h.1,hk _ h.2⟩
theorem agd_mono {gs:Option Nat} {want:Bool} {st:St} {y n y' n':St→Prop} (hy:∀st,y st→y' st) (hn:∀st,n st→n' st) (h:agd gs want st y n):agd gs want st y' n':=by
 unfold agd at *
 split at h
 ·split at h
  ·exact ⟨fun e=>hy _ (h.1 e),fun e=>hn _ (h.2 e)⟩
  ·exact hn _ h
  ·exact h
 ·exact h
theorem aop_mono {dst:Option Nat} {op:Op} {st:St} {K K':St→Prop} (hk:∀st,K st→K' st) (h:aop P dst op st K):aop P dst op st K':=by
 cases op
 case unOp o t x=>
  cases o<;>simp only [aop] at h ⊢
  repeat' split at h
  all_goals first
   |exact hk _ h
   |exact h.elim
 case makeFunc f a b=>
  cases f<;>simp only [aop] at h ⊢
  repeat' split at h
  all_goals first
   |exact ⟨h.1,hk _ h.2⟩
   |exact h.elim
 all_goals simp only [aop] at h ⊢
 all_goals repeat' split at h
 all_goals first
  |exact hk _ h
  |exact h.elim
  |exact ⟨fun e=>hk _ (h.1 e),fun e=>hk _ (h.2 e)⟩
  |exact ⟨h.1,hk _ h.2⟩
  |exact ⟨h.1,newObj_mono hk h.2⟩
  |(rename_i hf;simp only [if_pos hf];exact ⟨h.1,newObj_mono hk h.2⟩)
  |(rename_i hf;simp only [if_neg hf];exact ⟨h.1,hk _ h.2⟩)
  |exact ⟨h.1,h.2.1,newObj_mono hk h.2.2⟩
  |exact ⟨h.1,h.2.1,hk _ h.2.2⟩
theorem abi_mono {dst:Option Nat} {b:Builtin} {args:List Operand} {ts:List TypeId} {st:St} {K K':St→Prop} (hk:∀st,K st→K' st) (h:abi P dst b args ts st K):abi P dst b args ts st K':=by
 unfold abi at h
 split at h
 ·simp only [abi]
  split at h<;>first|exact ⟨h.1,hk _ h.2⟩|exact h.elim
 ·simp only [abi]
  split at h<;>first|exact ⟨h.1,hk _ h.2⟩|exact h.elim
 ·simp only [abi]
  split at h<;>first|exact ⟨h.1,hk _ h.2⟩|exact h.elim
 ·simp only [abi]
  split at h
  ·exact ⟨h.1,newObj_mono hk h.2⟩
  ·exact ⟨h.1,newObj_mono hk h.2⟩
  ·split at h
   ·exact ⟨h.1,newObj_mono hk h.2⟩
   ·exact h.elim
  ·exact h.elim
 ·simp only [abi]
  split at h
  ·split at h
   ·exact ⟨h.1,hk _ h.2⟩
   ·exact h.elim
  ·exact h.elim
 ·exact h.elim
theorem aNil_mono {dst:Option Nat} {op:BinOp} {t:TypeId} {x y:AV} {st:St} {K K':St→Prop} (hk:∀st,K st→K' st) (h:aNil P dst op t x y st K):aNil P dst op t x y st K':=by
 unfold aNil at *
 split at h
 ·exact ⟨h.1,fun e=>hk _ (h.2.1 e),hk _ h.2.2⟩
 ·exact ⟨h.1,fun e=>hk _ (h.2.1 e),hk _ h.2.2⟩
 ·exact h
theorem astep_mono {dr:Bool} {dst:Option Nat} {op:Op} {st:St} {K K':St→Prop} (hk:∀st,K st→K' st) (h:astep P dr dst op st K):astep P dr dst op st K':=by
 cases op
 case call c=>
  simp only [astep] at h ⊢
  split at h
  ·exact abi_mono hk h
  ·split at h
   ·exact acall_mono hk h
   ·exact h.elim
  ·exact h.elim
 case binOp op t x y t'=>
  simp only [astep] at h ⊢
  exact h.imp (aop_mono hk) fun q=>⟨q.1,aNil_mono hk q.2⟩
 all_goals (simp only [astep] at h ⊢;exact aop_mono hk h)
theorem opsS_sound {F:CT} (hF:CTok P F) {dr:Bool} {ops:Array Oper}:∀{l:List Oper} {K:St→Prop} {st:St},opsS P F dr (slimOps ops l) K st→awpOps P dr ops l K st
 |[],K,st,h=>h
 |o::l,K,st,h=>by
  unfold slimOps at h
  rw [List.map_cons] at h
  unfold opsS at h
  unfold awpOps
  simp only at h
  cases hg:o.guard with
  |none=>
   rw [hg] at h
   exact astep_mono (fun st h=>opsS_sound hF h) (stepS_sound hF h)
  |some q=>
   obtain ⟨j,want⟩:=q
   rw [hg] at h
   exact agd_mono (fun st h=>astep_mono (fun st h=>opsS_sound hF h) (stepS_sound hF h)) (fun st h=>opsS_sound hF h) h
theorem awpOps_mono {dr:Bool} {ops:Array Oper}:∀{l:List Oper} {K K':St→Prop} {st:St},(∀st,K st→K' st)→awpOps P dr ops l K st→awpOps P dr ops l K' st
 |[],K,K',st,hk,h=>hk _ h
 |o::l,K,K',st,hk,h=>by
  unfold awpOps at h ⊢
  split at h
  ·exact astep_mono (fun st h=>awpOps_mono hk h) h
  ·exact agd_mono (fun st h=>astep_mono (fun st h=>awpOps_mono hk h) h) (fun st h=>awpOps_mono hk h) h
theorem dstep_mono {o:Oper} {st:St} {K K':List Id→St→Prop} (hk:∀W st,K W st→K' W st) (h:dstep P o st K):dstep P o st K':=by
 unfold dstep at h ⊢
 split at h
 ·split at h
  ·split at h
   ·obtain ⟨hh,C,us,ret,m1,m2,m3,m4,m5,m6⟩:=h
    exact ⟨hh,C,us,ret,m1,m2,m3,m4,m5,hk _ _ m6⟩
   ·exact h.elim
  ·exact h.elim
 ·split at h
  ·exact aop_mono (fun st h=>hk _ _ h) h
  ·exact h.elim
 ·exact h.elim
theorem dOps_mono {ops:Array Oper} {js:List Nat} {prs:List (Nat×Nat)}:∀{l:List Oper} {i:Nat} {W:List (Nat×Id)} {N:List (Nat×AV)} {K K':List (Nat×Id)→List (Nat×AV)→St→Prop} {st:St},(∀W N st,K W N st→K' W N st)→
  dOps P ops js prs l i W N K st→dOps P ops js prs l i W N K' st
 |[],i,W,N,K,K',st,hk,h=>hk _ _ _ h
 |o::l,i,W,N,K,K',st,hk,h=>by
  unfold dOps at h ⊢
  by_cases hj:js.contains i=true
  ·rw [if_pos hj] at h ⊢
   exact dstep_mono (fun W st h=>dOps_mono hk h) h
  ·rw [if_neg hj] at h ⊢
   unfold gstep at h ⊢
   split
   ·rename_i hg
    rw [hg] at h
    exact astep_mono (fun st h=>dOps_mono hk h) h
   ·rename_i j want hg
    rw [hg] at h
    exact agd_mono (fun st h=>astep_mono (fun st h=>dOps_mono hk h) h) (fun st h=>dOps_mono hk h) h
theorem drawnK_mono {dr:Bool} {ops:Array Oper} {K K':St→Prop} {st:St} (hk:∀st,K st→K' st) (h:drawnK P dr ops K st):drawnK P dr ops K' st:=by
 rcases h with h|⟨h1,js,prs,h2,h3⟩
 ·exact .inl ⟨awpOps_mono hk h.1,h.2⟩
 ·exact .inr ⟨h1,js,prs,h2,dOps_mono (fun W N st h=>⟨h.1,hk _ h.2⟩) h3⟩
theorem awp_mono:∀{c:Code} {Q Q':AEx→St→Prop} {st:St},(∀e st,Q e st→Q' e st)→awp P c Q st→awp P c Q' st
 |.skip,Q,Q',st,hq,h=>hq _ _ h
 |.region id ops d,Q,Q',st,hq,h=>drawnK_mono (fun st h=>hq _ _ h) h
 |.seq x y,Q,Q',st,hq,h=>awp_mono (c:=x) (fun e st h=>by cases e<;>first|exact awp_mono (c:=y) hq h|exact hq _ _ h) h
 |.cond c x y,Q,Q',st,hq,h=>by
  unfold awp at h ⊢
  split at h
  ·exact ⟨fun e=>awp_mono (c:=x) hq (h.1 e),fun e=>awp_mono (c:=y) hq (h.2 e)⟩
  ·exact h
 |.block id x,Q,Q',st,hq,h=>awp_mono (c:=x) (fun e st h=>by
   cases e with
   |exit j=>
    simp only [ablock] at h ⊢
    split
    ·rename_i hj;rw [if_pos hj] at h;exact hq _ _ h
    ·rename_i hj;rw [if_neg hj] at h;exact hq _ _ h
   |_=>exact hq _ _ h) h
 |.loop x,Q,Q',st,hq,h=>by
  obtain ⟨I,μ,h1,h2⟩:=h
  exact ⟨I,μ,h1,fun st' hi=>awp_mono (c:=x) (fun e st h=>by cases e<;>first|exact h|exact hq _ _ h) (h2 st' hi)⟩
 |.exit id,Q,Q',st,hq,h=>hq _ _ h
 |.ret,Q,Q',st,hq,h=>hq _ _ h
 |.scope _,_,_,_,_,h=>h.elim
theorem dstepS_sound {F:CT} (hF:CTok P F) {o:Oper} {so:SO} (hd:so.dst=o.dst) (hop:so.op=o.op) (hg:so.g=none→o.guard=none) {st:St} {K K':List Id→St→Prop} (hk:∀W st,K W st→K' W st) (h:dstepS P F so st K):dstep P o st K':=by
 unfold dstepS at h
 split at h
 ·rename_i c h1 h2
  split at h
  ·rename_i f hf
   split at h
   ·rename_i g caps hv
    split at h
    ·rename_i hh hget
     split at h
     ·rename_i D us ret hr
      obtain ⟨q1,q2,q3,q4⟩:=h
      unfold dstep
      rw [hg h1,←hop,h2]
      simp only [hf,hv]
      rw [hd] at q2 q3 q4
      exact ⟨hh,D,us,ret,ctGet_ok hF hget,hr,q1,q2,q3,hk _ _ q4⟩
     ·exact h.elim
    ·exact h.elim
   ·exact h.elim
  ·exact h.elim
 ·rename_i t x v h1 h2
  unfold dstep
  rw [hg h1,←hop,h2]
  simp only
  split at h
  ·rename_i id i j hx
   rw [hx]
   rw [hd] at h
   exact aop_mono (fun st h=>hk _ _ h) h
  ·exact h.elim
 ·exact h.elim
theorem opsD_sound {F:CT} (hF:CTok P F) {ops:Array Oper} {js:List Nat} {prs:List (Nat×Nat)}:∀{l:List Oper} {i:Nat} {W:List (Nat×Id)} {N:List (Nat×AV)} {K:List (Nat×Id)→List (Nat×AV)→St→Prop} {st:St},
  opsD P F js prs (slimOps ops l) i W N K st→dOps P ops js prs l i W N K st
 |[],i,W,N,K,st,h=>h
 |o::l,i,W,N,K,st,h=>by
  unfold slimOps at h
  rw [List.map_cons] at h
  unfold opsD at h
  unfold dOps
  by_cases hj:js.contains i=true
  ·rw [if_pos hj] at h ⊢
   exact dstepS_sound hF (so:=⟨o.dst,o.op,o.guard.map fun q=>(gslot ops q.1,q.2)⟩) rfl rfl (fun h=>by simpa using h) (fun W st h=>opsD_sound hF h) h
  ·rw [if_neg hj] at h ⊢
   simp only at h
   unfold gstep
   cases hg:o.guard with
   |none=>
    rw [hg] at h
    exact astep_mono (fun st h=>opsD_sound hF h) (stepS_sound hF h)
   |some q=>
    obtain ⟨j,want⟩:=q
    rw [hg] at h
    exact agd_mono (fun st h=>astep_mono (fun st h=>opsD_sound hF h) (stepS_sound hF h)) (fun st h=>opsD_sound hF h) h
theorem awpS_sound {F:CT} (hF:CTok P F):∀{c:Code} {s:SC} {Q:AEx→St→Prop} {st:St},slim c=unK s→kOK c s=true→awpS P F s Q st→awp P c Q st
 |.skip,s,Q,st,hs,hk,h=>by cases s<;>first|exact h|cases hs
 |.region id ops d,s,Q,st,hs,hk,h=>by
  cases s with
  |region id' ops' d'=>
   simp only [slim,unK,SC.region.injEq] at hs
   obtain ⟨rfl,rfl,rfl⟩:=hs
   simp only [kOK] at hk
   exact .inl ⟨opsS_sound hF h,fun hd=>by rw [hd] at hk;simpa using hk⟩
  |regionK id' ops' js prs=>
   simp only [slim,unK,SC.region.injEq] at hs
   obtain ⟨rfl,rfl,rfl⟩:=hs
   simp only [kOK,Bool.true_and] at hk
   exact .inr ⟨rfl,js,prs,hk,opsD_sound hF h⟩
  |_=>cases hs
 |.seq x y,s,Q,st,hs,hk,h=>by
  cases s with
  |seq x' y'=>
   simp only [slim,unK,SC.seq.injEq] at hs
   simp only [kOK,Bool.and_eq_true] at hk
   exact awp_mono (c:=x) (fun e st h=>by cases e<;>first|exact awpS_sound hF (c:=y) hs.2 hk.2 h|exact h) (awpS_sound hF (c:=x) hs.1 hk.1 h)
  |_=>cases hs
 |.cond c x y,s,Q,st,hs,hk,h=>by
  cases s with
  |cond c' x' y'=>
   simp only [slim,unK,SC.cond.injEq] at hs
   obtain ⟨rfl,hs1,hs2⟩:=hs
   simp only [kOK,Bool.and_eq_true] at hk
   unfold awpS at h
   unfold awp
   split at h
   ·rename_i b hb
    rw [hb]
    exact ⟨fun e=>awpS_sound hF (c:=x) hs1 hk.1 (h.1 e),fun e=>awpS_sound hF (c:=y) hs2 hk.2 (h.2 e)⟩
   ·exact h.elim
  |_=>cases hs
 |.block id x,s,Q,st,hs,hk,h=>by
  cases s with
  |block id' x'=>
   simp only [slim,unK,SC.block.injEq] at hs
   obtain ⟨rfl,hs⟩:=hs
   exact awpS_sound hF (c:=x) hs hk h
  |_=>cases hs
 |.loop x,s,Q,st,hs,hk,h=>by
  cases s with
  |loop x'=>
   simp only [slim,unK,SC.loop.injEq] at hs
   obtain ⟨I,μ,h1,h2⟩:=h
   exact ⟨I,μ,h1,fun st' hi=>awpS_sound hF (c:=x) hs hk (h2 st' hi)⟩
  |_=>cases hs
 |.exit id,s,Q,st,hs,hk,h=>by
  cases s with
  |exit id'=>
   simp only [slim,unK,SC.exit.injEq] at hs
   subst hs
   exact h
  |_=>cases hs
 |.ret,s,Q,st,hs,hk,h=>by cases s<;>first|exact h|cases hs
 |.scope _,s,_,_,hs,_,h=>by cases s<;>first|exact h.elim|cases hs
 |.label _,s,_,_,hs,_,h=>by cases s<;>first|exact h.elim|cases hs
 |.goto _,s,_,_,hs,_,h=>by cases s<;>first|exact h.elim|cases hs
 |.rangeFunc ..,s,_,_,hs,_,h=>by cases s<;>first|exact h.elim|cases hs
 |.refuse _,s,_,_,hs,_,h=>by cases s<;>first|exact h.elim|cases hs
theorem tells_of (hm:P.follows .mixedOrders=true) {F:CT} (hF:CTok P F) {f:FuncId} {fn:Func} {s:SC} {args:List AV} {ret:AV} (hf:P.funcs[f]?=some fn) (hs:slimK fn.body s=some (unK s,true))
  (hok:fnOK calmB fn 0=true) (hle:Nat.ble args.length fn.ntmps=true) (hret:∀c∈ret.flat,RetC c) (harg:∀x∈args,∀c∈x.flat,VOK c) (h:awpS P F s (finK P fn ret) (initS args)):PEv P f args ret:=by
 cases hb:fn.body with
 |none=>rw [hb] at hs;cases hs
 |some c=>
  rw [hb] at hs
  simp only [slimK,Option.map_some,Option.some.injEq,Prod.mk.injEq] at hs
  refine pev_of (calm_ok hm) hf hb ?_ hret harg (awpS_sound hF hs.1 hs.2 h)
  simp only [fnOK,hb,Bool.and_eq_true] at hok ⊢
  exact ⟨hok.1,by simpa using Nat.le_of_ble_eq_true hle⟩
def St.hto (st:St) (H:Heap):St:={st with H:=H}
theorem ev_tmp (st:St) (k:Nat):st.eval (.tmp k)=st.s k:=rfl
theorem ev_const (st:St) (v:Value):st.eval (.const v)=.c (ofVal v):=rfl
theorem ev_func (st:St) (f:FuncId):st.eval (.func f)=.c (.fn f []):=rfl
theorem put_none (st:St) (v:AV):st.put none v=st:=rfl
theorem put_same (st:St) (d:Nat) (v:AV):(st.put (some d) v).s d=v:=by simp [St.put,upd]
theorem put_ne (st:St) (d k:Nat) (v:AV) (h:(k=d)=False):(st.put (some d) v).s k=st.s k:=by simp [St.put,upd,h]
theorem put_H (st:St) (d:Option Nat) (v:AV):(st.put d v).H=st.H:=by cases d<;>rfl
theorem put_T (st:St) (d:Option Nat) (v:AV):(st.put d v).T=st.T:=by cases d<;>rfl
theorem tick_s (st:St):st.tick.s=st.s:=rfl
theorem tick_H (st:St):st.tick.H=st.H:=rfl
theorem tick_T (st:St):st.tick.T=st.T+1:=rfl
theorem hto_s (st:St) (H:Heap):(st.hto H).s=st.s:=rfl
theorem hto_H (st:St) (H:Heap):(st.hto H).H=H:=rfl
theorem hto_T (st:St) (H:Heap):(st.hto H).T=st.T:=rfl
theorem initS_s (args:List AV) (k:Nat):(initS args).s k=args.getD k (.c (.raw undef)):=rfl
theorem initS_H (args:List AV):(initS args).H=noHeap:=rfl
theorem initS_T (args:List AV):(initS args).T=0:=rfl
theorem mk_hto (st:St) (H:Heap):St.mk st.s H st.T=st.hto H:=rfl
theorem mk_hto2 (st:St) (H H':Heap):St.mk (st.hto H').s H (st.hto H').T=st.hto H:=rfl
theorem newObj_go (st:St) (d e sz:Nat) (rows:List (List AC)) (v:Id→AC) (K:St→Prop) :
  newObj st (some d) e sz rows v K=(st.H (st.T,d)=.unborn∧K ((st.hto (hset st.H (st.T,d) (.arr e sz false rows))).put (some d) (.c (v (st.T,d))))):=rfl
theorem adopt_go (st:St) (dst:Option Nat) (ret:AV):adopt st dst ret=(st.hto (adH (nmOf st dst) 0 ret.flat st.H)).put dst (ret.ad (nmOf st dst)):=rfl
theorem noHeap_go (id:Id):noHeap id=.unborn:=rfl
theorem awpS_skip {F:CT} {Q:AEx→St→Prop} {st:St}:awpS P F .skip Q st=Q .normal st:=rfl
theorem awpS_reg {F:CT} {id:Nat} {ops:List SO} {d:Bool} {Q:AEx→St→Prop} {st:St}:awpS P F (.region id ops d) Q st=opsS P F d ops (fun st=>Q .normal st.tick) st:=rfl
theorem awpS_seq {F:CT} {x y:SC} {Q:AEx→St→Prop} {st:St}:awpS P F (.seq x y) Q st=awpS P F x (athen (awpS P F y Q) Q) st:=rfl
theorem awpS_cond {F:CT} {c:Operand} {x y:SC} {Q:AEx→St→Prop} {st:St}:awpS P F (.cond c x y) Q st=(match st.eval c with
  |.c (.raw (.bool b))=>(b=true→awpS P F x Q st)∧(b=false→awpS P F y Q st)
  |_=>False):=rfl
theorem awpS_block {F:CT} {id:Nat} {x:SC} {Q:AEx→St→Prop} {st:St}:awpS P F (.block id x) Q st=awpS P F x (ablock id Q) st:=rfl
theorem awpS_exit {F:CT} {id:Nat} {Q:AEx→St→Prop} {st:St}:awpS P F (.exit id) Q st=Q (.exit id) st:=rfl
theorem awpS_ret {F:CT} {Q:AEx→St→Prop} {st:St}:awpS P F .ret Q st=Q .ret st:=rfl
theorem opsS_nil {F:CT} {d:Bool} {K:St→Prop} {st:St}:opsS P F d [] K st=K st:=rfl
theorem opsS_cons {F:CT} {d:Bool} {dst:Option Nat} {op:Op} {l:List SO} {K:St→Prop} {st:St}:opsS P F d (⟨dst,op,none⟩::l) K st=stepS P F d dst op st (opsS P F d l K):=rfl
theorem opsS_guard {F:CT} {d:Bool} {dst:Option Nat} {op:Op} {gs:Option Nat} {want:Bool} {l:List SO} {K:St→Prop} {st:St}:opsS P F d (⟨dst,op,some (gs,want)⟩::l) K st =
  agd gs want st (fun st=>stepS P F d dst op st (opsS P F d l K)) (fun st=>opsS P F d l K (st.put dst (.c (.raw undef)))):=rfl
theorem awpS_regK {F:CT} {id:Nat} {ops:List SO} {js:List Nat} {prs:List (Nat×Nat)} {Q:AEx→St→Prop} {st:St}:awpS P F (.regionK id ops js prs) Q st =
  opsD P F js prs ops 0 [] [] (fun W N st'=>(∀x∈W,x.2.1≠st.T∧∀y∈N,(x.1,y.1)∈prs→¬idV x.2 y.2)∧Q .normal st'.tick) st:=rfl
theorem athen_n {next:St→Prop} {Q:AEx→St→Prop} {st:St}:athen next Q .normal st=next st:=rfl
theorem athen_e {next:St→Prop} {Q:AEx→St→Prop} {st:St} {id:Nat}:athen next Q (.exit id) st=Q (.exit id) st:=rfl
theorem athen_r {next:St→Prop} {Q:AEx→St→Prop} {st:St}:athen next Q .ret st=Q .ret st:=rfl
theorem ablock_n {id:Nat} {Q:AEx→St→Prop} {st:St}:ablock id Q .normal st=Q .normal st:=rfl
theorem ablock_r {id:Nat} {Q:AEx→St→Prop} {st:St}:ablock id Q .ret st=Q .ret st:=rfl
theorem ablock_e {id j:Nat} {Q:AEx→St→Prop} {st:St}:ablock id Q (.exit j) st=if j=id then Q .normal st else Q (.exit j) st:=rfl
theorem awpS_cg {F:CT} {c:SC} {Q:AEx→St→Prop} {st st':St} (h:st=st'):awpS P F c Q st=awpS P F c Q st':=by rw [h]
theorem opsS_cg {F:CT} {d:Bool} {l:List SO} {K:St→Prop} {st st':St} (h:st=st'):opsS P F d l K st=opsS P F d l K st':=by rw [h]
theorem stepS_cg {F:CT} {d:Bool} {dst:Option Nat} {op:Op} {K:St→Prop} {st st':St} (h:st=st'):stepS P F d dst op st K=stepS P F d dst op st' K:=by rw [h]
theorem aop_cg {dst:Option Nat} {op:Op} {K:St→Prop} {st st':St} (h:st=st'):aop P dst op st K=aop P dst op st' K:=by rw [h]
theorem abi_cg {dst:Option Nat} {b:Builtin} {l:List Operand} {ts:List TypeId} {K:St→Prop} {st st':St} (h:st=st'):abi P dst b l ts st K=abi P dst b l ts st' K:=by rw [h]
theorem callS_cg {F:CT} {d:Bool} {dst:Option Nat} {f:FuncId} {args args':List AV} {K:St→Prop} {st st':St} (h:st=st') (ha:args=args'):CallS P F d st dst f args K=CallS P F d st' dst f args' K:=by rw [h,ha]
theorem acall_cg {d:Bool} {dst:Option Nat} {f:FuncId} {args args':List AV} {K:St→Prop} {st st':St} (h:st=st') (ha:args=args'):ACall P d st dst f args K=ACall P d st' dst f args' K:=by rw [h,ha]
theorem newObj_cg {dst:Option Nat} {e sz:Nat} {rows rows':List (List AC)} {v:Id→AC} {K:St→Prop} {st st':St} (h:st=st') (hr:rows=rows'):newObj st dst e sz rows v K=newObj st' dst e sz rows' v K:=by rw [h,hr]
theorem agd_cg {gs:Option Nat} {want:Bool} {y n:St→Prop} {st st':St} (h:st=st'):agd gs want st y n=agd gs want st' y n:=by rw [h]
theorem athen_cg {next:St→Prop} {Q:AEx→St→Prop} {e e':AEx} {st st':St} (h':e=e') (h:st=st'):athen next Q e st=athen next Q e' st':=by rw [h,h']
theorem ablock_cg {id:Nat} {Q:AEx→St→Prop} {e e':AEx} {st st':St} (h':e=e') (h:st=st'):ablock id Q e st=ablock id Q e' st':=by rw [h,h']
attribute [congr] awpS_cg opsS_cg stepS_cg aop_cg abi_cg callS_cg acall_cg newObj_cg agd_cg athen_cg ablock_cg
attribute [simp] ev_tmp ev_const ev_func put_none put_same put_ne put_H put_T tick_s tick_H tick_T hto_s hto_H hto_T initS_s initS_H initS_T adopt_go noHeap_go
 ctGet finK hset rdRow lay fillP rowsP
 resA flatT nmOf adL adT adH
 oldOK_raw oldOK_str oldOK_sl capsOf
attribute [simp ↓] mk_hto mk_hto2 awpS_skip awpS_reg awpS_regK awpS_seq awpS_block awpS_exit awpS_ret opsS_nil opsS_cons opsS_guard athen_n athen_e athen_r ablock_n ablock_r ablock_e
end Go.AE
set_option linter.unusedVariables false
namespace Go.AE
open Go
def isKO (KF:List Nat):Op→Bool
 |.call c=>match c.callee with
  |.value (.func f)=>KF.contains f
  |_=>false
 |_=>false
def mkJ (KF:List Nat) (ops:Array Oper):List (Nat×List Nat):=
 let tab:=upTab [] ops.toList
 let l:=ops.toList.zipIdx
 (l.filter fun x=>isKO KF x.1.op||writer x.1.op).filterMap fun x=>
  let u:=(l.filter fun y=>x.2 != y.2&&!hfree y.1.op&&!((tab.getD x.2 0).testBit y.2||(tab.getD y.2 0).testBit x.2)).map (·.2)
  if isKO KF x.1.op||!u.isEmpty then some (x.2,u) else none
def slR (id:Nat) (so:List SO):List (Nat×List Nat)→SC
 |[]=>.region id so true
 |J=>.regionK id so (J.map (·.1)) (J.flatMap fun q=>q.2.map fun y=>(q.1,y))
def slN (KF:List Nat) (L:List SC):Code→List SC→SC×List SC
 |.skip,b=>(.skip,b)
 |.region id ops d,b=>(if d then slR id (slimOps ops ops.toList) (mkJ KF ops) else .region id (slimOps ops ops.toList) false,b)
 |.seq x y,b=>let r:=slN KF L x b;let q:=slN KF L y r.2;(.seq r.1 q.1,q.2)
 |.cond c x y,b=>let r:=slN KF L x b;let q:=slN KF L y r.2;(.cond c r.1 q.1,q.2)
 |.block id x,b=>let r:=slN KF L x b;(.block id r.1,r.2)
 |.loop x,b=>let r:=slN KF L x b;(.loop (L.getD r.2.length .no),r.2++[r.1])
 |.exit id,b=>(.exit id,b)
 |.ret,b=>(.ret,b)
 |_,b=>(.no,b)
def slB (KF:List Nat) (b:Option Code) (L:List SC) (k:Nat):SC:=match b with
 |some c=>(slN KF L c []).2.getD k .no
 |none=>.no
def slW (KF:List Nat) (b:Option Code) (L:List SC):SC:=match b with
 |some c=>(slN KF L c []).1
 |none=>.no
end Go.AE
