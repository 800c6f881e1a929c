/- disk.Crash, the reference's Crash, Sync, New, Put. -/
import Derived.Test.YtnodicdkejklmaaGreatDoorKe3
import Derived.ChangeArms
import Derived.ChangeSlices
import Derived.SizedLaws
import Derived.Shelf.Strings.Repeat
import Derived.KernelRfl
import Derived.Test.YtnodicdkejklmaaGreatDoorProg
import Derived.WalkKit
import Derived.BigCall
import Derived.Shelf.Strings.FuncGrows
import Derived.Shelf.Utf8.RuneCount
set_option linter.unusedVariables false
set_option linter.unusedSimpArgs false
set_option maxHeartbeats 4000000
set_option maxRecDepth 1000000
namespace Go.AE
open Go
variable {P:Program}
theorem b3t.mono {st:St} {f:FuncId} {args:List AV} {R R':AV->Heap->Nat->Prop} (hr:∀ret H T,R ret H T->R' ret H T) (h:b3t P st f args R):b3t P st f args R':=
 ⟨h.1,fun C ρ a w vs q1 q2 q3=>(h.2 C ρ a w vs q1 q2 q3).mono fun e w' ⟨v,e1,ρ',ret,H',T',g1,g2,g3⟩=>⟨v,e1,ρ',ret,H',T',g1,g2,hr _ _ _ g3⟩⟩
section
variable {st:St} {H H':Heap} {T T':Nat} {args:List AV} {k:Nat}
end
def a0y (S:List Id) (H H':Heap):Prop:=∀i,H i≠.a0b->i ∉ S->H' i=H i
theorem a0y.refl (S:List Id) (H:Heap):a0y S H H:=fun _ _ _=>rfl
theorem a0y.set {S:List Id} {H H':Heap} {i:Id} {o:OK} (h:a0y S H H') (hi:H i=.a0b\/i∈S):a0y S H (hset H' i o):=fun j hj hn=>by
 unfold hset
 rw [if_neg ?_]
 ·exact h j hj hn
 ·rintro rfl
  rcases hi with q|q
  ·exact hj q
  ·exact hn q
theorem a0y.get {S:List Id} {H H':Heap} (h:a0y S H H') {i:Id} {e sz:Nat} {f:Bool} {rows:List (List AC)} (hi:H i=.arr e sz f rows) (hn:i ∉ S):H' i=.arr e sz f rows:=by
 rw [h i (by rw [hi];simp) hn,hi]
theorem a0v.set' {H:Heap} {T:Nat} {i:Id} {o:OK} (h:a0v H T) (hi:i.1<T):a0v (hset H i o) T:=h.set (Nat.le_refl _) hi
theorem a0v.not {H:Heap} {T:Nat} (h:a0v H T) {i:Id} (hi:H i≠.a0b):(∀k d,T<=k->((k,d)=i)=False)/\(∀k d,T<=k->(i=(k,d))=False)/\i.1<T:=
 ⟨fun k d hk=>h.nee hi k d hk,fun k d hk=>h.d3A hi k d hk,h.lt hi⟩
theorem a0v.arr {H:Heap} {T:Nat} (h:a0v H T) {i:Id} {e sz:Nat} {f:Bool} {rows:List (List AC)} (hi:H i=.arr e sz f rows):(∀k d,T<=k->((k,d)=i)=False)/\(∀k d,T<=k->(i=(k,d))=False)/\i.1<T:=
 h.not (by rw [hi];simp)
def a29 (S:List Id) (H0:Heap) (T0:Nat) (H:Heap) (T:Nat):Prop:=a0y S H0 H/\a0v H T/\T0<=T/\a0v H0 T0
theorem a29.refl {S:List Id} {H:Heap} {T:Nat} (h:a0v H T):a29 S H T H T:=⟨a0y.refl S H,h,Nat.le_refl _,h⟩
theorem a29.tick {S:List Id} {H0 H:Heap} {T0 T T':Nat} (h:a29 S H0 T0 H T) (hT:T<=T'):a29 S H0 T0 H T':=⟨h.1,h.2.1.mono hT,Nat.le_trans h.2.2.1 hT,h.2.2.2⟩
theorem a29.new {S:List Id} {H0 H:Heap} {T0 T:Nat} {i:Id} {o:OK} (h:a29 S H0 T0 H T) (h0:T0<=i.1) (h1:i.1<T):a29 S H0 T0 (hset H i o) T:=
 ⟨h.1.set (.inl (h.2.2.2 i.1 i.2 h0)),h.2.1.set' h1,h.2.2.1,h.2.2.2⟩
theorem a29.set {S:List Id} {H0 H:Heap} {T0 T:Nat} {i:Id} {o:OK} (h:a29 S H0 T0 H T) (hi:i∈S) (h1:i.1<T):a29 S H0 T0 (hset H i o) T:=
 ⟨h.1.set (.inr hi),h.2.1.set' h1,h.2.2.1,h.2.2.2⟩
theorem a29.arr {S:List Id} {H0 H:Heap} {T0 T:Nat} (h:a29 S H0 T0 H T) {i:Id} {e sz:Nat} {f:Bool} {rows:List (List AC)} (hi:H0 i=.arr e sz f rows) (hn:i ∉ S):H i=.arr e sz f rows:=h.1.get hi hn
theorem a29.fresh {S:List Id} {H0 H:Heap} {T0 T:Nat} (h:a29 S H0 T0 H T):a0v H T:=h.2.1
def a7i {α:Type} [Enc α] (H:Heap) (e sz T0:Nat) (c:AC) (l:List α):Prop:=(c=.raw (.slice none 0 0)/\l=[])\/∃id,c=.so id 0 l.length/\T0<=id.1/\H id=.arr e sz false (a0a l)
theorem a7i.nil {α:Type} [Enc α] {H:Heap} {e sz T0:Nat}:a7i (α:=α) H e sz T0 (.raw (.slice none 0 0)) []:=.inl ⟨rfl,rfl⟩
theorem a7i.so {α:Type} [Enc α] {H:Heap} {e sz T0 n:Nat} {id:Id} {l:List α} (hn:n=l.length) (h0:T0<=id.1) (h:H id=.arr e sz false (a0a l)):a7i H e sz T0 (.so id 0 n) l:=.inr ⟨id,by rw [hn],h0,h⟩
open Go
variable {P:Program}
theorem b08 {f:FuncId} {args:List AV} {l:List UInt8} (hok:a3k P f=true) (ha:∀x∈args,∀c∈x.flat,VOK c)
  (h:∀(w:World) (hI:Inv P w) (F:Tag->Nat->Prop) (vs:Array Value),vs.size=args.length->(∀(k:Nat) x,args[k]?=some x->a2f w F a0j a0t x (vs.getD k undef))->
   Calls P f vs w fun e w'=>e=.returned (.string ⟨l.toArray⟩)/\RowKit.Below w.heap.size w w'):PEv P f args (.c (.str l)):=by
 refine ⟨⟨hok,by simp,ha⟩,fun w hI G vs hsz hargs nm inj=>?_⟩
 refine (h w hI _ vs hsz hargs).mono ?_
 rintro e w' ⟨rfl,hb⟩
 refine ⟨_,rfl,a0t,⟨hb,(fun id e sz f rows hid=>by cases hid),(fun id id' e sz rows e' sz' f' rows' b c s c' s' hid=>by cases hid),⟨0,fun _ _ _=>rfl⟩,.none (fun _ _ _ h=>by cases h) (fun _ h=>h.elim) (fun _ _ _ _ _ _ h=>h)⟩,?_⟩
 exact .c _ _ (.str l)
theorem b09 {f:FuncId} {args:List AV} {u:Value} (hok:a3k P f=true) (ha:∀x∈args,∀c∈x.flat,VOK c)
  (h:∀(w:World) (hI:Inv P w) (F:Tag->Nat->Prop) (vs:Array Value),vs.size=args.length->(∀(k:Nat) x,args[k]?=some x->a2f w F a0j a0t x (vs.getD k undef))->
   Calls P f vs w fun e w'=>e=.returned u/\RowKit.Below w.heap.size w w'):PEv P f args (.c (.raw u)):=by
 refine ⟨⟨hok,by simp,ha⟩,fun w hI G vs hsz hargs nm inj=>?_⟩
 refine (h w hI _ vs hsz hargs).mono ?_
 rintro e w' ⟨rfl,hb⟩
 refine ⟨_,rfl,a0t,⟨hb,(fun id e sz f rows hid=>by cases hid),(fun id id' e sz rows e' sz' f' rows' b c s c' s' hid=>by cases hid),⟨0,fun _ _ _=>rfl⟩,.none (fun _ _ _ h=>by cases h) (fun _ h=>h.elim) (fun _ _ _ _ _ _ h=>h)⟩,?_⟩
 exact .c _ _ (.raw u)
theorem vs2 {vs:Array Value} {a b:Value} (hs:vs.size=2) (h0:vs.getD 0 undef=a) (h1:vs.getD 1 undef=b):vs=#[a,b]:=by
 obtain ⟨l⟩:=vs
 match l,hs with
 |[x,y],_=>simp [Array.getD] at h0 h1;rw [h0,h1]
theorem vs1 {vs:Array Value} {a:Value} (hs:vs.size=1) (h0:vs.getD 0 undef=a):vs=#[a]:=by
 obtain ⟨l⟩:=vs
 match l,hs with
 |[x],_=>simp [Array.getD] at h0;rw [h0]
open Go Go.ChangeShapes Go.WideShapes
variable {P:Program}
def a9X (α:Type) [Enc α] (P:Program) (t:TypeId) (S:α->Prop):Prop:=
 ∀{H:Type} (enc:TypeId×Value->H) (w:World) (F:Tag->Nat->Prop) (fuel:Nat) (cs:List Value) (x:DataW H×List MemPlace),(∀b,b<w.heap.size->F .old b)->
  DataW.trod enc P w 0 (fun _=>true) true fuel t cs=some x->
  ∃a:α,cs.length=Enc.w α/\(∀v∈cs,v.oneCell'=true)/\(∀(k:Nat) c,(Enc.row a)[k]?=some c->a0C w F a0j a0t c (cs.getD k undef))/\
   ((x.1.weights P t).all (·<=reachBytes)=true->S a)
theorem a5a {t:TypeId} (ht:P.underlying t=some .string):a9X (List UInt8) P t (fun s=>s.length<=reachBytes):=by
 intro H enc w F fuel cs x hF h
 obtain ⟨s,rfl,rfl,hs⟩:=DataW.trod_string ht h
 refine ⟨s.data.toList,rfl,by simp [Value.oneCell'],fun k c hk=>?_,fun hw=>?_⟩
 ·match k,hk with
  |0,hk=>
   simp at hk
   subst hk
   exact .str s.data.toList
 ·simpa [DataW.weights] using hw
theorem a00 {t:TypeId} (ht:P.underlying t=some (.int .i64)):a9X Int P t (fun n=>-9223372036854775808<=n/\n<=9223372036854775807):=by
 intro H enc w F fuel cs x hF h
 obtain ⟨n,rfl,rfl,hn⟩:=DataW.trod_int ht h
 refine ⟨n,rfl,by simp [Value.oneCell'],fun k c hk=>?_,fun _=>?_⟩
 ·match k,hk with
  |0,hk=>
   simp at hk
   subst hk
   exact .raw _
 ·simp only [Lit.wf,Bool.and_eq_true,decide_eq_true_eq] at hn
  have e1:IntKind.min .i64=-9223372036854775808:=rfl
  have e2:IntKind.max .i64=9223372036854775807:=rfl
  omega
def a5S (α:Type) [Enc α] (P:Program) (t:TypeId) (S:List α->Prop):Prop:=
 ∀{H:Type} (enc:TypeId×Value->H) (w:World) (F:Tag->Nat->Prop) (fuel:Nat) (cs:List Value) (x:DataW H×List MemPlace),(∀b,b<w.heap.size->F .old b)->
  DataW.trod enc P w 0 (fun _=>true) true fuel t cs=some x->
  ∃l:List α,cs.length=1/\(∀v∈cs,v.oneCell'=true)/\a0C w F a0j a0t (.sl .old false (a0a l)) (cs.getD 0 undef)/\
   ((x.1.weights P t).all (·<=reachBytes)=true->S l)
theorem weightsAll_mem {H:Type} {e:TypeId}:∀{l:List (DataW H)} {d:DataW H},d∈l->∀n∈d.weights P e,n∈DataW.weightsAll P e l
 |[],_,h,_,_=>by simp at h
 |d::r,_,h,n,hn=>by
  rcases List.mem_cons.1 h with rfl|h
  ·simp [DataW.weightsAll,hn]
  ·simp [DataW.weightsAll,weightsAll_mem h n hn]
theorem a1R {α:Type} [Enc α] {t e:TypeId} {S:α->Prop} (ht:P.underlying t=some (.slice e)) (he:a9X α P e S) (hc:P.cellsOf e=Enc.w α) (hpos:0<Enc.w α) :
  a5S α P t (fun l=>l.length*P.bytesOf e<=reachBytes/\∀a∈l,S a):=by
 intro H enc w F fuel cs x hF h
 rcases DataW.trod_slice ht h with ⟨rfl,rfl⟩|⟨a,len,cap,elems,rest,n,_,rfl,rfl,hb,hl,hm,hlen,hel,hsp,hns⟩
 ·exact ⟨[],rfl,by simp [Value.oneCell'],.a0H _ _ _ .nil,fun _=>by simp [reachBytes]⟩
 ·
  have each:∀i,i<len->∃(y:α) (cells:List Value) (d:DataW H×List MemPlace),elems[i]?=some d/\w.cells? 0 (a.add (i*P.cellsOf e)) (P.cellsOf e)=some cells/\cells.length=Enc.w α/\(∀v∈cells,v.oneCell'=true)/\
    (∀(k:Nat) c,(Enc.row y)[k]?=some c->a0C w F a0j a0t c (cells.getD k undef))/\((d.1.weights P e).all (·<=reachBytes)=true->S y):=fun i hi=>by
   have h1:=hel i hi
   have h2:i<elems.length:=by omega
   rw [List.getElem?_eq_getElem h2,Option.bind_eq_some_iff] at h1
   obtain ⟨cells,hcells,d0Z⟩:=h1
   obtain ⟨y,g1,g2,g3,g4⟩:=he enc w F n cells elems[i] hF d0Z
   exact ⟨y,cells,elems[i],List.getElem?_eq_getElem h2,hcells,g1,g2,g3,g4⟩
  let ys:List α:=(List.range len).attach.map fun i=>Classical.choose (each i.1 (List.mem_range.1 i.2))
  have hys:ys.length=len:=by simp [ys]
  have hyi:∀i (hi:i<len),ys[i]?=some (Classical.choose (each i hi)):=fun i hi=>by
   simp [ys,hi]
  have spec:=fun i (hi:i<len)=>Classical.choose_spec (each i hi)
  have first:∀cells,w.cells? 0 (a.add 0) (P.cellsOf e)=some cells->a.spot=none/\a.block<w.heap.size:=fun cells hcs=>by
   obtain ⟨_,g1,g2⟩:=World.cells?_some hcs
   have g3:=g2 0 (by omega)
   have e0:(a.add 0).add 0=a:=by simp [Addr.add]
   rw [e0,List.getElem?_eq_getElem (by omega)] at g3
   unfold World.cell? at g3
   split at g3
   ·rename_i c _ _ hb
    split at g3
    ·cases g3
    ·rename_i hs
     exact ⟨by simpa using hs,(Array.getElem?_eq_some_iff.1 hb).1⟩
   ·cases g3
  by_cases h0:len=0
  ·have hy0:ys=[]:=List.eq_nil_of_length_eq_zero (by omega)
   have he0:elems=[]:=List.eq_nil_of_length_eq_zero (by omega)
   have rel:a0C w F a0j a0t (.sl .old false (a0a ([]:List α))) ((([Value.slice (some a) len cap]:List Value)).getD 0 undef):=by
    show a0C w F a0j a0t (.sl .old false []) (.slice (some a) len cap)
    by_cases hc0:cap=0
    ·rw [h0,hc0];exact .a0H _ _ _ (.inr ⟨a,rfl⟩)
    ·obtain ⟨r1,r2⟩:=hsp rfl
     have r3:=r2 0 (by omega)
     rw [List.getElem?_eq_getElem (by omega),Option.bind_eq_some_iff] at r3
     obtain ⟨cells,hcells,_⟩:=r3
     rw [h0] at hcells
     simp only [Nat.add_zero,Nat.zero_mul] at hcells
     obtain ⟨f1,f2⟩:=first cells hcells
     have ea:a=⟨a.block,a.off,none⟩:=by cases a;simp at f1;subst f1;rfl
     rw [h0,ea]
     exact .sl _ _ [] a.block a.off cap 0 (fun _=>undef) f2 (hF _ f2) (by simp) (fun q=>by cases q) (by simp) (by simp) (by simp) (by simp)
   exact ⟨[],rfl,by simp [Value.oneCell'],rel,fun _=>by simp [reachBytes]⟩
  ·obtain ⟨_,c5p,_,_,hc0,_⟩:=each 0 (by omega)
   rw [Nat.zero_mul] at hc0
   obtain ⟨f1,f2⟩:=first c5p hc0
   have ea:a=⟨a.block,a.off,none⟩:=by cases a;simp at f1;subst f1;rfl
   generalize hbb:a.block=b at *
   generalize hoo:a.off=o at *
   clear hbb hoo
   subst ea
   have cellAt:∀i (hi:i<len) j,j<Enc.w α->∃u,w.cell? ⟨b,o+(i*Enc.w α+j),none⟩=some u/\u.oneCell'=true/\∀c,(Enc.row (Classical.choose (each i hi)))[j]?=some c->a0C w F a0j a0t c u:=fun i hi j hj=>by
    obtain ⟨cells,d,g1,g2,g3,g4,g5,g6⟩:=spec i hi
    obtain ⟨_,q1,q2⟩:=World.cells?_some g2
    have q3:=q2 j (by omega)
    rw [Addr.add_lit,Addr.add_lit,hc,List.getElem?_eq_getElem (by omega)] at q3
    refine ⟨cells[j],by rw [<-Nat.add_assoc];exact q3,g4 _ (List.getElem_mem _),fun c hcj=>?_⟩
    have:=g5 j c hcj
    rwa [List.getD_eq_getElem?_getD,List.getElem?_eq_getElem (by omega),Option.getD_some] at this
   have hdm:∀k,k<len*Enc.w α->k/Enc.w α<len/\k%Enc.w α<Enc.w α/\k/Enc.w α*Enc.w α+k%Enc.w α=k:=fun k hk=>
    ⟨Nat.div_lt_of_lt_mul (by rw [Nat.mul_comm];exact hk),Nat.mod_lt _ hpos,by rw [Nat.mul_comm];exact Nat.div_add_mod _ _⟩
   refine ⟨ys,rfl,by simp [Value.oneCell'],?_,fun hw=>?_⟩
   ·show a0C w F a0j a0t (.sl .old false (a0a ys)) (.slice (some ⟨b,o,none⟩) len cap)
    have hrl:(a0a ys).length=len:=by simp [hys]
    have:=a0C.sl (w:=w) (F:=F) (H:=a0j) (ρ:=a0t) .old false (a0a ys) b o cap (Enc.w α) (fun k=>(w.cell? ⟨b,o+k,none⟩).getD undef) f2 (hF _ f2) (by omega) (fun q=>by cases q)
     (fun i r hr=>by
      rw [a7I,Option.map_eq_some_iff] at hr
      obtain ⟨y,_,rfl⟩:=hr
      exact Enc.len y)
     (fun k hk=>by
      rw [hrl] at hk
      obtain ⟨d1,d2,d3⟩:=hdm k hk
      obtain ⟨u,u1,_⟩:=cellAt _ d1 _ d2
      rw [d3] at u1
      rw [u1];rfl)
     (fun k hk=>by
      rw [hrl] at hk
      obtain ⟨d1,d2,d3⟩:=hdm k hk
      obtain ⟨u,u1,u2,_⟩:=cellAt _ d1 _ d2
      rw [d3] at u1
      rw [u1];exact u2)
     (fun i j r c hr hcj=>by
      rw [a7I,Option.map_eq_some_iff] at hr
      obtain ⟨y,hy,rfl⟩:=hr
      have hi:i<len:=by have:=(List.getElem?_eq_some_iff.1 hy).1;omega
      rw [hyi i hi] at hy
      cases hy
      have hj:j<Enc.w α:=by have:=(List.getElem?_eq_some_iff.1 hcj).1;rw [Enc.len] at this;exact this
      obtain ⟨u,u1,_,u3⟩:=cellAt i hi j hj
      rw [u1];exact u3 c hcj)
    rwa [hrl] at this
   ·simp only [DataW.weights,ht,List.all_cons,Bool.and_eq_true,decide_eq_true_eq,List.all_append,List.length_map] at hw
    obtain ⟨hw1,hw2,_⟩:=hw
    refine ⟨?_,fun y hy=>?_⟩
    ·rw [hys]
     refine Nat.le_trans (Nat.mul_le_mul_right _ ?_) hw1
     omega
    ·obtain ⟨i,hi,rfl⟩:=List.getElem_of_mem hy
     have hi':i<len:=by omega
     have e1:ys[i]=Classical.choose (each i hi'):=by
      have:=hyi i hi'
      rw [List.getElem?_eq_getElem hi] at this
      exact Option.some.inj this
     rw [e1]
     obtain ⟨cells,d,g1,g2,g3,g4,g5,g6⟩:=spec i hi'
     refine g6 (List.all_eq_true.2 fun n hn=>?_)
     exact List.all_eq_true.1 hw2 n (weightsAll_mem (List.mem_map.2 ⟨d,List.mem_of_getElem? g1,rfl⟩) n hn)
open Go
variable {P:Program}
theorem b3M {f:FuncId} {args:List AV} (hp:PEv P f args (.c (.raw (.bool true)))) {w:World} (hI:Inv P w) {vs:Array Value} (hs:vs.size=args.length)
  (hr:∀(k:Nat) x,args[k]?=some x->a2f w (Fr (Ctx.of w hI fun _ _=>True) a0j a0t) a0j a0t x (vs.getD k undef)) :
  Calls P f vs w fun e w'=>e=.returned (.bool true)/\RowKit.Below w.heap.size w w':=by
 refine (hp.2 w hI (fun _ _=>True) vs hs hr (fun k=>(0,k)) (fun i j h=>by simpa using h)).mono ?_
 rintro e w' ⟨v,rfl,ρ,hH,hR⟩
 have hv:=a0p (a0m hR)
 subst hv
 exact ⟨rfl,hH.below⟩
theorem b81 {w:World} {hI:Inv P w} {t:Tag} {b:Nat} (ht:t≠.new):Fr (Ctx.of w hI fun _ _=>True) a0j a0t t b:=
 ⟨⟨.inr ⟨ht,trivial⟩,fun h=>h⟩,fun ⟨_,_,_,h,_⟩=>by cases h⟩
open Go
variable {P:Program}
theorem b1a {b:Nat}:¬Mut a0j a0t b:=fun ⟨_,_,_,h,_⟩=>by cases h
theorem c3h {C:Ctx P} {H:Heap} {ρ:Lies} {w:World} {id:Id} {v:Value} {e sz:Nat} {xs:List (List AC)} (hH:a1A C H ρ w) (h:a0C w (Fr C H ρ) H ρ (.so id 0 xs.length) v) (hid:H id=.arr e sz false xs)
  (hr:∀r∈xs,∀c∈r,a1L c):a0C w (Fr C a0j a0t) a0j a0t (.sl .new false xs) v:=by
 have hrows:rowsOf H (.so id 0 xs.length)=some xs:=by simp [rowsOf,hid]
 have hin:∀c u,a1L c->a0C w (Fr C H ρ) H ρ c u->a0C w (Fr C a0j a0t) a0j a0t c u:=fun c u hc hu=>hu.b0y hc fun t b _ hb=>⟨hb.1,b1a⟩
 have hs:a1p ρ id 0 xs.length v:=by
  cases h with
  |so _ _ _ _ hk hs=>exact hs (by rw [hid];rfl)
 unfold a1p at hs
 rcases (hH.row id e sz false xs hid).lies with ⟨q1,q2⟩|⟨b',cap',cur,q1,q0,q3,_⟩
 ·rw [q1] at hs;subst q2;exact .a0H _ _ _ hs.2.2
 ·rw [q1] at hs
  obtain ⟨o'',he,_⟩:=hs
  have hb:b'<w.heap.size:=q3.lt
  rcases a1B hH h hrows with ⟨hn,rfl⟩|⟨b,o',cap,sz',rfl,g1,g2,g3⟩
  ·exact .a0H _ _ _ hn
  ·cases he
   obtain ⟨news,n1,n2,n3,n4⟩:=a16 g1 g3
   have hbl:∀k,k<xs.length*sz'->∃u,w.cell? ⟨b',o''+k,none⟩=some u/\news[k]?=some u:=fun k hk=>by
    have:k<news.length:=by omega
    have h1:=n2 k news[k] (List.getElem?_eq_getElem this)
    rw [Addr.add_lit] at h1
    exact ⟨_,h1,List.getElem?_eq_getElem this⟩
   refine .sl _ _ xs b' o'' _ sz' (fun k=>news.getD k undef) hb ⟨⟨.inl q0,hH.maps.not id b' cap' sz (by rw [hid];rfl) q1⟩,b1a⟩ g2 (fun e=>by cases e) (fun i r hi=>g1 r (List.mem_of_getElem? hi)) (fun k hk=>?_) (fun k hk=>?_) (fun i j r c hi hj=>?_)
   ·obtain ⟨u,u1,u2⟩:=hbl k hk
    rw [u1];simp [List.getD,u2]
   ·obtain ⟨u,u1,u2⟩:=hbl k hk
    have:news.getD k undef=u:=by simp [List.getD,u2]
    rw [this];exact n3 u (List.mem_of_getElem? u2)
   ·obtain ⟨u,u1,u2,u3⟩:=n4 i j r c hi hj
    have:news.getD (i*sz'+j) undef=u:=by simp [List.getD,u1]
    rw [this]
    exact hin _ _ (hr r (List.mem_of_getElem? hi) c (List.mem_of_getElem? hj)) u3
def a8F (t:Tag):AC->AC
 |.nw _ _ xs=>.sl t false xs
 |c=>c
def AV.frz (t:Tag):AV->AV
 |.c x=>.c (a8F t x)
 |.g xs=>.g (xs.map (a8F t))
 |.t ps=>.t (ps.map fun q=>(q.1,q.2.map (a8F t)))
@[simp] theorem c9D {t:Tag} {e sz:Nat} {xs:List (List AC)}:a8F t (.nw e sz xs)=.sl t false xs:=rfl
@[simp] theorem c6g {t:Tag} {v:Value}:a8F t (.raw v)=.raw v:=rfl
@[simp] theorem c6h {t:Tag} {l:List UInt8}:a8F t (.str l)=.str l:=rfl
@[simp] theorem c9E {t t':Tag} {cl:Bool} {xs:List (List AC)}:a8F t (.sl t' cl xs)=.sl t' cl xs:=rfl
theorem a9Y {t:Tag}:∀ps:List (Bool×List AC),a2C (ps.map fun q=>(q.1,q.2.map (a8F t)))=(a2C ps).map (a8F t)
 |[]=>rfl
 |(b,cs)::r=>by simp [a2C,a9Y r]
theorem b2S {t:Tag} (v:AV):(v.frz t).flat=v.flat.map (a8F t):=by
 cases v with
 |c x=>rfl
 |g xs=>rfl
 |t ps=>exact a9Y ps
theorem b5t {t:Tag} {nm:Nat->Id} {k:Nat} {c:AC}:adC nm k (a8F t c)=a8F t c:=by cases c<;>rfl
theorem b1b {t:Tag} {nm:Nat->Id}:∀(cs:List AC) (k:Nat),adL nm k (cs.map (a8F t))=cs.map (a8F t)
 |[],_=>rfl
 |c::cs,k=>by simp [adL,b5t,b1b cs]
theorem b5u {t:Tag} {nm:Nat->Id}:∀(ps:List (Bool×List AC)) (k:Nat),adT nm k (ps.map fun q=>(q.1,q.2.map (a8F t)))=ps.map fun q=>(q.1,q.2.map (a8F t))
 |[],_=>rfl
 |(b,cs)::r,k=>by simp [adT,b1b,b5u r]
theorem c3i {t:Tag} {nm:Nat->Id} (v:AV):(v.frz t).ad nm=v.frz t:=by
 cases v with
 |c x=>simp [AV.frz,AV.ad,b5t]
 |g xs=>simp [AV.frz,AV.ad,b1b]
 |t ps=>simp [AV.frz,AV.ad,b5u]
theorem b5v {t:Tag} {nm:Nat->Id} {H:Heap}:∀(cs:List AC) (k:Nat),adH nm k (cs.map (a8F t)) H=H
 |[],_=>rfl
 |c::cs,k=>by
  simp only [List.map_cons,adH]
  have:b4x (nm k) (a8F t c) H=H:=by cases c<;>rfl
  rw [this,b5v cs]
theorem a9Z {nm:Nat->Id}:∀(cs:List AC) (k j:Nat),(adL nm k cs)[j]?=(cs[j]?).map (adC nm (k+j))
 |[],_,_=>by simp [adL]
 |c::cs,k,0=>by simp [adL]
 |c::cs,k,j+1=>by
  simp only [adL,List.getElem?_cons_succ]
  rw [a9Z cs]
  congr 2
  omega
theorem a6O {nm:Nat->Id}:∀(cs:List AC) (k:Nat),(adL nm k cs).length=cs.length
 |[],_=>rfl
 |c::cs,k=>by simp [adL,a6O cs]
theorem PEv.frz {f:FuncId} {args:List AV} {ret:AV} (t:Tag) (ht:t≠.brw) (h:PEv P f args ret):PEv P f args (ret.frz t):=by
 obtain ⟨⟨h1,h2,h3⟩,h4⟩:=h
 refine ⟨⟨h1,?_,h3⟩,fun w hI G vs hs hr nm inj=>(h4 w hI G vs hs hr nm inj).mono ?_⟩
 ·intro c hc
  rw [b2S,List.mem_map] at hc
  obtain ⟨d,hd,rfl⟩:=hc
  have:=h2 d hd
  cases d with
  |nw e sz xs=>exact .sl _ _ _ ht this
  |_=>exact this
 ·rintro e w' ⟨v,rfl,ρ,hH,hR⟩
  refine ⟨v,rfl,a0t,?_⟩
  rw [b2S,b5v,c3i]
  refine ⟨⟨hH.below,(fun id e sz f rows h=>by cases h),(fun id id' e sz rows e' sz' d2l rows' b c s c' s' h=>by cases h),⟨0,fun _ _ _=>rfl⟩,.none (fun _ _ _ h=>by cases h) (fun _ h=>h.elim) (fun _ _ _ _ _ _ h=>h)⟩,?_⟩
  have cell:∀(j:Nat) c u,ret.flat[j]?=some c->a0C w' (Fr (Ctx.of w hI G) (adH nm 0 ret.flat a0j) ρ) (adH nm 0 ret.flat a0j) ρ (adC nm j c) u->a0C w' (Fr (Ctx.of w hI G) a0j a0t) a0j a0t (a8F t c) u:=fun j c u hj hu=>by
   have hc:=h2 c (List.mem_of_getElem? hj)
   have keep:a1L c->a0C w' (Fr (Ctx.of w hI G) (adH nm 0 ret.flat a0j) ρ) (adH nm 0 ret.flat a0j) ρ c u->a0C w' (Fr (Ctx.of w hI G) a0j a0t) a0j a0t c u:=fun hc hu=>
    hu.b0y hc fun t b _ hb=>⟨hb.1,b1a⟩
   cases c with
   |nw e sz xs=>
    have hid:adH nm 0 ret.flat a0j (nm j)=.arr e sz false xs:=by
     rcases a3d nm ret.flat 0 a0j (nm j) inj with ⟨j',e',sz',xs',g1,g2,g3⟩|⟨g1,_⟩
     ·have:=inj _ _ g2
      rw [Nat.zero_add] at this
      subst this
      rw [hj] at g1
      cases g1
      exact g3
     ·exact (g1 j e sz xs hj (by rw [Nat.zero_add])).elim
    have:=c3h hH hu hid hc
    cases this with
    |a0H _ _ _ h=>exact .a0H _ _ _ h
    |sl _ _ _ b o cap sz vs hb hf hcap hcl hr hcell hone hrel=>
     refine .sl t false xs b o cap sz vs hb ⟨⟨?_,hf.1.2⟩,hf.2⟩ hcap (fun e=>by cases e) hr hcell hone hrel
     rcases hf.1.1 with q|⟨q,_⟩
     ·exact .inl q
     ·exact (q rfl).elim
   |_=>exact keep hc hu
  cases ret with
  |c x=>
   cases hR with
   |c _ _ hx=>exact .c _ _ (cell 0 x _ rfl hx)
  |g xs=>
   cases hR with
   |g _ vs hl hx=>
    refine .g _ _ (by rw [a6O] at hl;simpa using hl) fun k c hk=>?_
    rw [List.getElem?_map,Option.map_eq_some_iff] at hk
    obtain ⟨d,hd,rfl⟩:=hk
    exact cell k d _ hd (hx k _ (by rw [a9Z,hd,Nat.zero_add];rfl))
  |t ps=>
   cases hR with
   |t _ vs hl hx=>
    have len:∀(ps:List (Bool×List AC)) (k:Nat),(adT nm k ps).length=ps.length:=fun ps=>by
     induction ps with
     |nil=>intro k;rfl
     |cons q r ih=>intro k;obtain ⟨b,cs⟩:=q;simp [adT,ih]
    have at_:∀(ps:List (Bool×List AC)) (k j:Nat) b cs,ps[j]?=some (b,cs)->∃o,(adT nm k ps)[j]?=some (b,adL nm (k+o) cs)/\∀(i:Nat) c,cs[i]?=some c->(a2C ps)[o+i]?=some c:=fun ps=>by
     induction ps with
     |nil=>intro k j b cs h;simp at h
     |cons q r ih=>
      intro k j b cs h
      obtain ⟨b0,cs0⟩:=q
      cases j with
      |zero=>
       simp at h
       obtain ⟨rfl,rfl⟩:=h
       refine ⟨0,by simp [adT],fun i c hi=>?_⟩
       simp only [a2C,Nat.zero_add]
       rw [List.getElem?_append_left (List.getElem?_eq_some_iff.1 hi).1]
       exact hi
      |succ j=>
       obtain ⟨o,o1,o2⟩:=ih (k+cs0.length) j b cs (by simpa using h)
       refine ⟨cs0.length+o,by simp only [adT,List.getElem?_cons_succ];rw [o1];congr 3;omega,fun i c hi=>?_⟩
       simp only [a2C]
       rw [List.getElem?_append_right (by omega),show cs0.length+o+i-cs0.length=o+i from by omega]
       exact o2 i c hi
    refine .t _ _ (by rw [len] at hl;simpa using hl) fun k b cs hk=>?_
    rw [List.getElem?_map,Option.map_eq_some_iff] at hk
    obtain ⟨⟨b0,cs0⟩,hd,he⟩:=hk
    simp only [Prod.mk.injEq] at he
    obtain ⟨rfl,rfl⟩:=he
    obtain ⟨o,o1,o2⟩:=at_ ps 0 k b0 cs0 hd
    rw [Nat.zero_add] at o1
    have:=hx k b0 _ o1
    generalize hu:vs.getD k undef=u at this
    generalize hcs:adL nm o cs0=cs1 at this
    cases this with
    |c x _ hx=>
     match cs0,hcs with
     |[c0],hcs=>
      simp [adL] at hcs
      subst hcs
      exact .c _ _ (cell o c0 _ (o2 0 c0 rfl) hx)
     |[],hcs=>simp [adL] at hcs
     |_::_::_,hcs=>simp [adL] at hcs
    |g _ us hlu hu=>
     subst hcs
     refine .g _ _ (by rw [a6O] at hlu;simpa using hlu) fun i c hi=>?_
     rw [List.getElem?_map,Option.map_eq_some_iff] at hi
     obtain ⟨d,hd,rfl⟩:=hi
     exact cell (o+i) d _ (o2 i d hd) (hu i _ (by rw [a9Z,hd];rfl))
open Go
variable {P:Program}
inductive idD (id:Id):AC->Prop where
 |so (off len:Nat):idD id (.so id off len)
 |pt (i j:Nat):idD id (.pt id i j)
 |mr:idD id (.mr id)
 |fn (f:FuncId) (caps:List AC) (c:AC) (hc:c∈caps) (h:idD id c):idD id (.fn f caps)
 |sl (t:Tag) (cl:Bool) (xs:List (List AC)) (r:List AC) (c:AC) (hr:r∈xs) (hc:c∈r) (h:idD id c):idD id (.sl t cl xs)
 |pv (t:Tag) (row:List AC) (j:Nat) (c:AC) (hc:c∈row) (h:idD id c):idD id (.pv t row j)
theorem a0C.c3j {w:World} {F:Tag->Nat->Prop} {H:Heap} {ρ:Lies} {c:AC} {v:Value} (h:a0C w F H ρ c v) {id:Id} (hi:idD id c):H id≠.a0b:=by
 induction h with
 |raw v=>cases hi
 |str l=>cases hi
 |a4S v=>cases hi
 |a0H t cl v h=>cases hi with|sl _ _ _ r c hr hc h=>simp at hr
 |sl t cl xs b o cap sz vs hb hF hcap hcl hrow hcell hone hrel ih=>
  cases hi with
  |sl _ _ _ r c hr hc h=>
   obtain ⟨i,hi⟩:=List.getElem?_of_mem hr
   obtain ⟨j,hj⟩:=List.getElem?_of_mem hc
   exact ih i j r c hi hj h
 |so id off len v hk h=>cases hi;exact hk
 |mr id v hk h=>cases hi;exact hk
 |pt id i j v hk h=>cases hi;exact hk
 |pv t row j b o vs hb hF hcell hrel ih=>
  cases hi with
  |pv _ _ _ c hc h=>
   obtain ⟨k,hk⟩:=List.getElem?_of_mem hc
   exact ih k c hk h
 |fn f caps vs hl h ih=>
  cases hi with
  |fn _ _ c hc h=>
   obtain ⟨k,hk⟩:=List.getElem?_of_mem hc
   exact ih k c hk h
theorem a0C.sub {w:World} {F F':Tag->Nat->Prop} {H H':Heap} {ρ ρ':Lies} {c:AC} {v:Value} (h:a0C w F H ρ c v)
  (hid:∀id,idD id c->H' id≠.a0b/\((H' id).live=true->(H id).live=true/\ρ' id=ρ id)) (hF:∀t b,F t b->F' t b):a0C w F' H' ρ' c v:=by
 induction h with
 |raw v=>exact .raw v
 |str l=>exact .str l
 |a4S v=>exact .a4S v
 |a0H t cl v h=>exact .a0H t cl v h
 |sl t cl xs b o cap sz vs hb hf hcap hcl hrow hcell hone hrel ih=>
  exact .sl t cl xs b o cap sz vs hb (hF _ _ hf) hcap hcl hrow hcell hone fun i j r c hi hj=>ih i j r c hi hj fun id h=>hid id (.sl _ _ _ r c (List.mem_of_getElem? hi) (List.mem_of_getElem? hj) h)
 |so id off len v hk h=>
  obtain ⟨h1,h2⟩:=hid id (.so _ _)
  exact .so id off len v h1 fun hl=>by
   obtain ⟨h3,h4⟩:=h2 hl
   have:=h h3
   unfold a1p at *
   rw [h4];exact this
 |pt id i j v hk h=>
  obtain ⟨h1,h2⟩:=hid id (.pt _ _)
  exact .pt id i j v h1 fun hl=>by
   obtain ⟨h3,h4⟩:=h2 hl
   obtain ⟨b,cap,sz,h5,h6⟩:=h h3
   exact ⟨b,cap,sz,by rw [h4];exact h5,h6⟩
 |mr id v hk h=>
  obtain ⟨h1,h2⟩:=hid id .mr
  exact .mr id v h1 fun hl=>by
   obtain ⟨h3,h4⟩:=h2 hl
   obtain ⟨b,cap,sz,h5,h6⟩:=h h3
   exact ⟨b,cap,sz,by rw [h4];exact h5,h6⟩
 |pv t row j b o vs hb hf hcell hrel ih=>
  exact .pv t row j b o vs hb (hF _ _ hf) hcell fun k c hk=>ih k c hk fun id h=>hid id (.pv _ _ _ c (List.mem_of_getElem? hk) h)
 |fn f caps vs hl h ih=>exact .fn f caps vs hl fun k c hk=>ih k c hk fun id h=>hid id (.fn _ _ c (List.mem_of_getElem? hk) h)
theorem a1c.trans {w w' w'':World} {F F' F'':Tag->Nat->Prop} {H H' H'':Heap} {ρ ρ' ρ'':Lies} (h:a1c w w' F F' H H' ρ ρ') (h':a1c w' w'' F' F'' H' H'' ρ' ρ''):a1c w w'' F F'' H H'' ρ ρ'':=by
 refine ⟨Nat.le_trans h.size h'.size,fun t b hf hb=>?_,fun id hi=>?_⟩
 ·obtain ⟨h1,h2⟩:=h.blk t b hf hb
  obtain ⟨h3,h4⟩:=h'.blk t b h1 (Nat.lt_of_lt_of_le hb h.size)
  exact ⟨h3,h4.trans h2⟩
 ·obtain ⟨h1,h2⟩:=h.obj id hi
  obtain ⟨h3,h4⟩:=h'.obj id h1
  exact ⟨h3,fun l=>by
   obtain ⟨h5,h6⟩:=h4 l
   obtain ⟨h7,h8⟩:=h2 h5
   exact ⟨h7,h6.trans h8⟩⟩
theorem a90:∀{cs:List AC} {k:Nat} {id:Id} {off len:Nat},cs[k]?=some (.so id off len)->id∈a1j cs
 |c::cs,0,id,off,len,h=>by simp at h;subst h;simp [a1j]
 |c::cs,k+1,id,off,len,h=>by
  have:=a90 (cs:=cs) (k:=k) (by simpa using h)
  cases c<;>simp [a1j,this]
theorem gc {C:Ctx P} {w0 w:World} {st:St} {a:Act} {ρ0 ρ:Lies} {Hf:Heap} (h0:Rel C ρ0 st a w0) (h1:a1A C Hf ρ w) (k:a1c w0 w (Fr C st.H ρ0) (Fr C Hf ρ) st.H Hf ρ0 ρ)
  {res ret:AV} {v:Value} (hv:a2f w (Fr C Hf ρ) Hf ρ res v) (hret:∀c∈ret.flat,a6v c) (hex:exV Hf res ret) (hnd:(a1j res.flat).Nodup) (hnew:∀id∈a1j res.flat,st.H id=.a0b)
  (nm:Nat->Id) (inj:∀i j,nm i=nm j->i=j) (hun:a4R nm st.H 0 ret.flat) {us:List (Id×OK)} (hus:∀i,st.H i≠.a0b->Hf i=upH st.H us i) (hub:∀q∈us,q.2≠.a0b/\st.H q.1≠.a0b) (hnp:∀q∈us,∀ag es,q.2≠.mp ag es)
  (hcl:∀q∈us,∀e sz f rows,q.2=.arr e sz f rows->∀r∈rows,∀c∈r,∀id,idD id c->st.H id≠.a0b) :
  ∃ρ',Rel C ρ' {st with H:=adH nm 0 ret.flat (upH st.H us)} a w/\a2f w (Fr C (adH nm 0 ret.flat (upH st.H us)) ρ') (adH nm 0 ret.flat (upH st.H us)) ρ' (ret.ad nm) v:=by
 obtain ⟨hlen,hcell⟩:=a3S (b2G hex)
 generalize hHb:upH st.H us=Hb at hus
 have hbN:∀i,Hb i=(upN us i).getD (st.H i):=fun i=>by rw [<-hHb,b0Y]
 have hbb:∀i,Hb i≠.a0b↔st.H i≠.a0b:=fun i=>by
  rw [hbN]
  cases hu:upN us i with
  |none=>simp
  |some ob=>simpa [(hub _ (a5r hu)).1] using (hub _ (a5r hu)).2
 let a1i:AC->Option (Nat×Nat×Nat):=fun c=>match c with
  |.so id _ _=>ρ id
  |_=>none
 have hdec:∀i:Id,Decidable (∃k,i=nm k/\∃e sz xs,ret.flat[k]?=some (.nw e sz xs)):=fun i=>Classical.propDecidable _
 let ρ':Lies:=fun i=>if hk:∃k,i=nm k/\∃e sz xs,ret.flat[k]?=some (.nw e sz xs) then a1i ((res.flat)[Classical.choose hk]?.getD .a4S) else ρ i
 have hρ':∀k e sz xs,ret.flat[k]?=some (.nw e sz xs)->ρ' (nm k)=a1i ((res.flat)[k]?.getD .a4S):=fun k e sz xs hx=>by
  have hk:∃k',nm k=nm k'/\∃e sz xs,ret.flat[k']?=some (.nw e sz xs):=⟨k,rfl,e,sz,xs,hx⟩
  have:Classical.choose hk=k:=inj _ _ (Classical.choose_spec hk).1.symm
  simp only [ρ']
  rw [dif_pos hk,this]
 have hρo:∀i,(∀k e sz xs,ret.flat[k]?=some (.nw e sz xs)->i≠nm k)->ρ' i=ρ i:=fun i hn=>by
  simp only [ρ']
  rw [dif_neg]
  rintro ⟨k,hk,e,sz,xs,hx⟩
  exact hn k e sz xs hx hk
 have nmU:∀k e sz xs,ret.flat[k]?=some (.nw e sz xs)->st.H (nm k)=.a0b:=fun k e sz xs hx=>by
  have:=a8p nm ret.flat 0 st.H hun k e sz xs hx
  rwa [Nat.zero_add] at this
 have old:∀i,st.H i≠.a0b->∀k e sz xs,ret.flat[k]?=some (.nw e sz xs)->i≠nm k:=fun i hi k e sz xs hx he=>hi (by rw [he];exact nmU k e sz xs hx)
 generalize hHD:adH nm 0 ret.flat Hb=HD
 have look:∀id,(∃k e sz xs,ret.flat[k]?=some (.nw e sz xs)/\id=nm k/\HD id=.arr e sz false xs)\/((∀k e sz xs,ret.flat[k]?=some (.nw e sz xs)->id≠nm k)/\HD id=Hb id):=fun id=>by
  rw [<-hHD]
  rcases a3d nm ret.flat 0 Hb id inj with ⟨j,e,sz,xs,q1,q2,q3⟩|⟨q1,q2⟩
  ·exact .inl ⟨j,e,sz,xs,q1,by rwa [Nat.zero_add] at q2,q3⟩
  ·exact .inr ⟨fun k e sz xs hx=>by have:=q1 k e sz xs hx;rwa [Nat.zero_add] at this,q2⟩
 have hold:∀i,st.H i≠.a0b->HD i=Hf i/\ρ' i=ρ i:=fun i hi=>by
  rcases look i with ⟨k,e,sz,xs,q1,q2,_⟩|⟨q1,q2⟩
  ·exact (old i hi k e sz xs q1 q2).elim
  ·exact ⟨by rw [q2];exact (hus i hi).symm,hρo i q1⟩
 have arr:∀id e sz f rows,HD id=.arr e sz f rows->
   (f=false/\∃k,ret.flat[k]?=some (.nw e sz rows)/\id=nm k/\
    ((rows=[]/\ρ' id=none)\/∃id0 n,res.flat[k]?=some (.so id0 0 n)/\Hf id0=.arr e sz false rows/\n=rows.length/\ρ' id=ρ id0))\/
   (st.H id≠.a0b/\Hf id=.arr e sz f rows/\ρ' id=ρ id):=fun id e sz f rows hid=>by
  rcases look id with ⟨k,e',sz',xs',hk,rfl,h3⟩|⟨q1,q2⟩
  ·rw [hid] at h3
   cases h3
   refine .inl ⟨rfl,k,hk,rfl,?_⟩
   obtain ⟨c,hc,hx⟩:=hcell k _ hk
   have hr:=hρ' k _ _ _ hk
   rw [hc] at hr
   simp only [Option.getD_some] at hr
   unfold exC at hx
   split at hx
   ·rename_i id0 off len e' sz' rows' heq
    cases heq
    obtain ⟨rfl,h1,h2⟩:=hx
    exact .inr ⟨id0,len,hc,h1,h2,by rw [hr]⟩
   ·rename_i heq;cases heq
   ·rename_i e' sz' rows' heq
    cases heq
    exact .inl ⟨hx,by rw [hr]⟩
   ·rename_i heq;cases heq
   ·rename_i heq;cases heq
   ·rename_i heq;cases heq
   ·rename_i heq;cases heq
   ·exact hx.elim
  ·have hb:st.H id≠.a0b:=(hbb id).1 (by rw [<-q2,hid];simp)
   obtain ⟨g1,g2⟩:=hold id hb
   exact .inr ⟨hb,by rw [<-g1];exact hid,g2⟩
 have mpo:∀id ag es,HD id=.mp ag es->st.H id≠.a0b/\Hf id=.mp ag es/\ρ' id=ρ id:=fun id ag es hid=>by
  rcases look id with ⟨k,e',sz',xs',hk,rfl,h3⟩|⟨q1,q2⟩
  ·rw [hid] at h3;cases h3
  ·have hb:st.H id≠.a0b:=(hbb id).1 (by rw [<-q2,hid];simp)
   obtain ⟨g1,g2⟩:=hold id hb
   exact ⟨hb,by rw [<-g1];exact hid,g2⟩
 have c5m:∀b,Mut HD ρ' b->Mut Hf ρ b:=fun b m=>by
  rcases a2o m with ⟨id,e,sz,rows,cap,s,hid,hρ⟩|⟨id,ag,es,cap,s,hid,hρ⟩
  rotate_left
  ·obtain ⟨_,g1,g2⟩:=mpo id ag es hid
   exact a9i g1 (by rw [<-g2];exact hρ)
  rcases arr id e sz false rows hid with ⟨_,k,hk,rfl,h2⟩|⟨h2,h3,h4⟩
  ·rcases h2 with ⟨_,h2⟩|⟨id0,n,h2,h3,h4,h5⟩
   ·rw [h2] at hρ;cases hρ
   ·exact a4z h3 (by rw [<-h5];exact hρ)
  ·exact a4z h3 (by rw [<-h4];exact hρ)
 have hF:∀t b,Fr C Hf ρ t b->Fr C HD ρ' t b:=fun t b hf=>⟨hf.1,fun m=>hf.2 (c5m b m)⟩
 have hF':∀t b,t≠.brw->Fr C Hf ρ t b->Fr C HD ρ' t b:=fun t b _ hf=>hF t b hf
 have d2p:∀c u,(∀id,idD id c->st.H id≠.a0b)->a0C w (Fr C Hf ρ) Hf ρ c u->a0C w (Fr C HD ρ') HD ρ' c u:=fun c u hc hu=>
  hu.sub (fun id hi=>by
   obtain ⟨g1,g2⟩:=hold id (hc id hi)
   refine ⟨?_,fun hl=>⟨by rw [<-g1];exact hl,g2⟩⟩
   rw [g1]
   exact (k.obj id (hc id hi)).1) hF
 have b6Y:∀id e sz f rows,HD id=.arr e sz f rows->Row w (Fr C HD ρ') HD ρ' C.p id e sz rows:=fun id e sz f rows hid=>by
  rcases arr id e sz f rows hid with ⟨_,k,hk,rfl,h2⟩|⟨h2,h3,h4⟩
  ·have hrc:a6v (.nw e sz rows):=hret _ (List.mem_of_getElem? hk)
   rcases h2 with ⟨rfl,h2⟩|⟨id0,n,h2,h3,h4,h5⟩
   ·exact ⟨by simp,.inl ⟨h2,rfl⟩⟩
   ·have hr:=h1.row id0 e sz false rows h3
    refine ⟨hr.a2e,?_⟩
    rcases hr.lies with ⟨q1,q2⟩|⟨b,cap,cur,q1,q2,q3,q4,q5,q6,q7⟩
    ·exact .inl ⟨by rw [h5];exact q1,q2⟩
    ·refine .inr ⟨b,cap,cur,by rw [h5];exact q1,q2,q3,q4,q5,q6,fun i j r c hi hj=>?_⟩
     obtain ⟨u,u1,u2,u3⟩:=q7 i j r c hi hj
     exact ⟨u,u1,u2,u3.b0y (hrc r (List.mem_of_getElem? hi) c (List.mem_of_getElem? hj)) hF'⟩
  ·have hr:=h1.row id e sz f rows h3
   refine ⟨hr.a2e,?_⟩
   rcases hr.lies with ⟨q1,q2⟩|⟨b,cap,cur,q1,q2,q3,q4,q5,q6,q7⟩
   ·exact .inl ⟨by rw [h4];exact q1,q2⟩
   ·refine .inr ⟨b,cap,cur,by rw [h4];exact q1,q2,q3,q4,q5,q6,fun i j r c hi hj=>?_⟩
    obtain ⟨u,u1,u2,u3⟩:=q7 i j r c hi hj
    refine ⟨u,u1,u2,d2p c u (fun id' b8Q=>?_) u3⟩
    have b60:Hb id=.arr e sz f rows:=by rw [<-hus id h2];exact h3
    rw [hbN] at b60
    cases hu:upN us id with
    |some ob=>
     rw [hu] at b60
     exact hcl _ (a5r hu) e sz f rows b60 r (List.mem_of_getElem? hi) c (List.mem_of_getElem? hj) id' b8Q
    |none=>
     rw [hu] at b60
     have hr0:=h0.heap.row id e sz f rows b60
     rcases hr0.lies with ⟨_,p2⟩|⟨_,_,_,_,_,_,_,_,_,p7⟩
     ·rw [p2] at hi;simp at hi
     ·obtain ⟨u',_,_,u3'⟩:=p7 i j r c hi hj
      exact u3'.c3j b8Q
 have hk:a1c w0 w (Fr C st.H ρ0) (Fr C HD ρ') st.H HD ρ0 ρ':=by
  refine ⟨k.size,fun t b hf hb=>?_,fun id hi=>?_⟩
  ·obtain ⟨g1,g2⟩:=k.blk t b hf hb
   exact ⟨hF t b g1,g2⟩
  ·obtain ⟨g1,g2⟩:=hold id hi
   obtain ⟨g3,g4⟩:=k.obj id hi
   exact ⟨by rw [g1];exact g3,fun hl=>by
    obtain ⟨g5,g6⟩:=g4 (by rw [<-g1];exact hl)
    exact ⟨g5,g2.trans g6⟩⟩
 have soU:∀(k:Nat) id off len,res.flat[k]?=some (.so id off len)->st.H id=.a0b:=fun k id off len h=>hnew id (a90 h)
 have a9h:∀(k:Nat) d c u,ret.flat[k]?=some d->res.flat[k]?=some c->exC Hf c d->a0C w (Fr C Hf ρ) Hf ρ c u->a0C w (Fr C HD ρ') HD ρ' (adC nm k d) u:=fun k d c u hk hc hx hu=>by
  have hrc:=hret d (List.mem_of_getElem? hk)
  have hr:∀e sz xs,d=.nw e sz xs->ρ' (nm k)=a1i c:=fun e sz xs hd=>by
   have:=hρ' k e sz xs (by rw [hk,hd])
   rw [hc] at this
   exact this
  have hun:∀e sz rows,d=.nw e sz rows->HD (nm k)≠.a0b:=fun e sz rows hd=>by
   rcases look (nm k) with ⟨j',e',sz',xs',h1,h2,h3⟩|⟨h1,_⟩
   ·rw [h3];simp
   ·exact (h1 k e sz rows (by rw [hk,hd]) rfl).elim
  unfold exC at hx
  split at hx
  ·rename_i id off len e sz rows
   obtain ⟨rfl,h1,h2⟩:=hx
   simp only [adC]
   cases hu with
   |so _ _ _ _ hne hs=>
    have hs:=hs (by rw [h1];rfl)
    refine .so _ _ _ _ (hun _ _ _ rfl) fun _=>?_
    unfold a1p at *
    rw [hr _ _ _ rfl]
    subst h2
    exact hs
  ·rename_i id off len t cl rows
   obtain ⟨ht,rfl,hrows⟩:=hx
   simp only [adC]
   have live:∃e sz f rs,Hf id=.arr e sz f rs:=by
    simp only [rowsOf] at hrows
    split at hrows
    ·rename_i e sz f rs hid;exact ⟨e,sz,f,rs,hid⟩
    ·cases hrows
   obtain ⟨e0,sz0,f0,rs0,a7t⟩:=live
   rcases a1B h1 hu hrows with ⟨hn,rfl⟩|⟨b,o',cap,sz,rfl,g1,g2,g3⟩
   ·exact .a0H _ _ _ hn
   ·have hz:(rows=[]/\b0A (.slice (some ⟨b,o',none⟩) rows.length cap))\/ρ id≠none:=by
     by_cases hz:ρ id=none
     ·left
      rcases (h1.row id e0 sz0 f0 rs0 a7t).lies with ⟨q1,q2⟩|⟨b',cap',cur,q1,q2,q3,_⟩
      ·subst q2
       cases hu with
       |so _ _ _ _ hne hs=>
        have hs:=hs (by rw [a7t];rfl)
        unfold a1p at hs
        rw [q1] at hs
        refine ⟨?_,hs.2.2⟩
        simp only [rowsOf,a7t] at hrows
        split at hrows
        ·cases hrows;simp
        ·cases hrows
      ·rw [hz] at q1;cases q1
     ·exact .inr hz
    rcases hz with ⟨rfl,hz⟩|hz
    ·exact .a0H _ _ _ hz
    have hbl:b<w.heap.size/\C.p<=b/\∃c s,ρ id=some (b,c,s):=by
     cases hu with
     |so _ _ _ _ hne hs=>
      have hs:=hs (by rw [a7t];rfl)
      unfold a1p at hs
      rcases (h1.row id e0 sz0 f0 rs0 a7t).lies with ⟨q1,_⟩|⟨b',cap',cur,q1,q2,q3,_⟩
      ·exact (hz q1).elim
      ·rw [q1] at hs
       obtain ⟨o'',he,_⟩:=hs
       cases he
       exact ⟨q3.lt,q2,_,_,q1⟩
    obtain ⟨hb,hp,cc,ss,c1r⟩:=hbl
    have hFb:Fr C HD ρ' t b:=by
     refine ⟨⟨.inl hp,h1.maps.not id b cc ss (by rw [a7t];rfl) c1r⟩,fun m=>?_⟩
     rcases a2o m with ⟨id1,e1,sz1,c1s,cap1,s1,m1,m2⟩|⟨id1,ag,es,cap1,s1,m1,m2⟩
     rotate_left
     ·obtain ⟨_,g2,g3⟩:=mpo id1 ag es m1
      exact h1.apart a7t g2 c1r (by rw [<-g3];exact m2)
     rcases arr id1 e1 sz1 false c1s m1 with ⟨_,k2,hk2,rfl,b2⟩|⟨b2,b3,b4⟩
     ·rcases b2 with ⟨_,b2⟩|⟨id2,n2,p1,p2,p3,p4⟩
      ·rw [b2] at m2;cases m2
      ·rw [p4] at m2
       have:id2=id:=h1.inj id2 id e1 sz1 c1s e0 sz0 f0 rs0 b cap1 s1 cc ss p2 a7t m2 c1r
       subst this
       have:=a3T hnd p1 hc
       subst this
       rw [hk] at hk2;cases hk2
     ·rw [b4] at m2
      have:id1=id:=h1.inj id1 id e1 sz1 c1s e0 sz0 f0 rs0 b cap1 s1 cc ss b3 a7t m2 c1r
      subst this
      exact b2 (soU k id1 off len hc)
    obtain ⟨news,n1,n2,n3,n4⟩:=a16 g1 g3
    have hget:∀q,q<rows.length*sz->∃u,news[q]?=some u/\w.cell? ⟨b,o'+q,none⟩=some u:=fun q hq=>by
     have hlt:q<news.length:=by omega
     have:=n2 q news[q] (List.getElem?_eq_getElem hlt)
     rw [Addr.add_lit] at this
     exact ⟨_,List.getElem?_eq_getElem hlt,this⟩
    refine .sl t false rows b o' cap sz (fun q=>news.getD q undef) hb hFb g2 (fun e=>by cases e) (fun i r hi=>g1 r (List.mem_of_getElem? hi)) (fun q hq=>?_) (fun q hq=>?_) (fun i j r c hi hj=>?_)
    ·obtain ⟨u,u1,u2⟩:=hget q hq
     simp [List.getD,u1,u2]
    ·obtain ⟨u,u1,u2⟩:=hget q hq
     have:news.getD q undef=u:=by simp [List.getD,u1]
     rw [this];exact n3 u (List.mem_of_getElem? u1)
    ·obtain ⟨u,u1,u2,u3⟩:=n4 i j r c hi hj
     have:news.getD (i*sz+j) undef=u:=by simp [List.getD,u1]
     rw [this]
     cases hrc with
     |sl _ _ _ _ hn=>exact u3.b0y (hn r (List.mem_of_getElem? hi) c (List.mem_of_getElem? hj)) hF'
  ·rename_i e sz rows
   subst hx
   simp only [adC]
   have:=a0p hu
   subst this
   refine .so _ _ _ _ (hun _ _ _ rfl) fun _=>?_
   unfold a1p
   rw [hr _ _ _ rfl]
   exact ⟨rfl,rfl,.nil⟩
  ·rename_i t cl rows
   subst hx
   have:=a0p hu
   subst this
   exact .a0H _ _ _ .nil
  ·rename_i t cl xs t' cl' xs'
   obtain ⟨rfl,ht,hb,hcl⟩:=hx
   simp only [adC]
   cases hu with
   |a0H _ _ _ hn=>exact .a0H _ _ _ hn
   |sl _ _ _ b o cap sz vs hb' hf hcap d0V hrow hcell hone hrel=>
    have hf':Fr C HD ρ' t' b:=by
     rcases ht with rfl|⟨rfl,rfl⟩
     ·exact hF _ b hf
     ·refine ⟨⟨?_,hf.1.2⟩,fun m=>hf.2 (c5m b m)⟩
      rcases hf.1.1 with q|⟨q,_⟩
      ·exact .inl q
      ·exact (q rfl).elim
    cases hrc with
    |sl _ _ _ _ hn=>
     exact .sl t' cl' xs b o cap sz vs hb' hf' hcap (fun e=>d0V (hcl e)) hrow hcell hone fun i j r c hi hj=>(hrel i j r c hi hj).b0y (hn r (List.mem_of_getElem? hi) c (List.mem_of_getElem? hj)) hF'
  ·subst hx
   exact hu.b0y (.raw _) hF'
  ·subst hx
   exact hu.b0y (.str _) hF'
  ·exact hx.elim
 refine ⟨ρ',⟨⟨h1.below,b6Y,?_,?_,⟨fun id ag es q=>by
  obtain ⟨g1,g2,g3⟩:=mpo id ag es q
  obtain ⟨b,c,s,E,e1,e2,e3,e4,e5⟩:=h1.maps.row id ag es g2
  refine ⟨b,c,s,E,by rw [g3];exact e1,e2,e3,e4,fun i key x hi=>?_⟩
  obtain ⟨m,m1,m2,m3,m4⟩:=e5 i key x hi
  refine ⟨m,m1,m2,m3,d2p x _ (fun id' b8Q=>?_) m4⟩
  have b60:Hb id=.mp ag es:=by rw [<-hus id g1];exact g2
  rw [hbN] at b60
  cases hu:upN us id with
  |some ob=>rw [hu] at b60;exact (hnp _ (a5r hu) ag es b60).elim
  |none=>
   rw [hu] at b60
   obtain ⟨_,_,_,_,_,_,_,_,p5⟩:=h0.heap.maps.row id ag es b60
   obtain ⟨m',_,_,_,p6⟩:=p5 i key x hi
   exact p6.c3j b8Q,fun i1 i2 a1 e1 a2 e2 b c s c' s' q1 q2 r1 r2=>by
  obtain ⟨_,g2,g3⟩:=mpo i1 a1 e1 q1
  obtain ⟨_,f2,f3⟩:=mpo i2 a2 e2 q2
  exact h1.maps.inj i1 i2 a1 e1 a2 e2 b c s c' s' g2 f2 (by rw [<-g3];exact r1) (by rw [<-f3];exact r2),h1.maps.there,fun id b c s hl hr=>by
  replace hl:(HD id).live=true:=hl
  cases ho:HD id with
  |arr e sz f rows=>
   rcases arr id e sz f rows ho with ⟨_,k,hk,rfl,h2⟩|⟨h2,h3,h4⟩
   ·rcases h2 with ⟨_,h2⟩|⟨id0,n,h2,h3,h4,h5⟩
    ·rw [h2] at hr;cases hr
    ·exact h1.maps.not id0 b c s (by rw [h3];rfl) (by rw [<-h5];exact hr)
   ·exact h1.maps.not id b c s (by rw [h3];rfl) (by rw [<-h4];exact hr)
  |mp ag es=>
   obtain ⟨_,g2,g3⟩:=mpo id ag es ho
   exact h1.maps.not id b c s (by rw [g2];rfl) (by rw [<-g3];exact hr)
  |_=>rw [ho] at hl;cases hl⟩⟩,fun t=>(h0.slot t).keep hk,h0.a6a,C.b0v hk h0.ghost,h0.nf⟩,?_⟩
 ·intro i1 i2 e1 s1 r1 e2 s2 f2 r2 b c s c' s' g1 g2 hρ1 hρ2
  have key:∀i e sz f rows c s,HD i=.arr e sz f rows->ρ' i=some (b,c,s)->∃i0 f',Hf i0=.arr e sz f' rows/\ρ i0=some (b,c,s)/\(f=false->f'=false)/\
    ((st.H i≠.a0b/\i0=i)\/(st.H i0=.a0b/\∃(k:Nat) (n:Nat),i=nm k/\res.flat[k]?=some (.so i0 0 n))):=fun i e sz f rows c s hi hρ=>by
   rcases arr i e sz f rows hi with ⟨rfl,k,hk,rfl,b2⟩|⟨b2,b3,b4⟩
   ·rcases b2 with ⟨_,b2⟩|⟨id2,n2,p1,p2,p3,p4⟩
    ·rw [b2] at hρ;cases hρ
    ·exact ⟨id2,false,p2,by rw [<-p4];exact hρ,fun h=>h,.inr ⟨soU k _ _ _ p1,k,n2,rfl,p1⟩⟩
   ·exact ⟨i,f,b3,by rw [<-b4];exact hρ,fun h=>h,.inl ⟨b2,rfl⟩⟩
  obtain ⟨j1,f1',a1,a2,a3,a4⟩:=key i1 e1 s1 false r1 c s g1 hρ1
  obtain ⟨j2,f2',b1,b2,b3,b4⟩:=key i2 e2 s2 f2 r2 c' s' g2 hρ2
  have a5:=a3 rfl
  subst a5
  have:j1=j2:=h1.inj j1 j2 e1 s1 r1 e2 s2 f2' r2 b c s c' s' a1 b1 a2 b2
  subst this
  rcases a4 with ⟨a4,rfl⟩|⟨a4,k1,n1,rfl,a6⟩
  ·rcases b4 with ⟨b4,rfl⟩|⟨b4,_⟩
   ·rfl
   ·exact (a4 b4).elim
  ·rcases b4 with ⟨b4,rfl⟩|⟨b4,k2,n2,rfl,b6⟩
   ·exact (b4 a4).elim
   ·rw [a3T hnd a6 b6]
 ·rw [<-hHD]
  refine a8o nm _ _ ?_
  obtain ⟨N,hN⟩:=h0.heap.fin
  exact ⟨N,fun k d hk=>by
   have:=hN k d hk
   by_cases e:Hb (k,d)=.a0b
   ·exact e
   ·exact ((hbb (k,d)).1 e this).elim⟩
 ·cases res with
  |c x=>
   cases ret with
   |c y=>
    cases hv with
    |c _ _ hx=>exact .c _ _ (a9h 0 y x _ rfl rfl hex hx)
   |_=>exact hex.elim
  |g xs=>
   cases ret with
   |g ys=>
    cases hv with
    |g _ vs hl hx=>
     obtain ⟨g1,g2⟩:=a3S (H:=Hf) (cs:=xs) (ds:=ys) hex
     refine .g _ vs (by rw [a6O];omega) fun k c hc=>?_
     rw [a9Z,Option.map_eq_some_iff] at hc
     obtain ⟨d,hd,rfl⟩:=hc
     obtain ⟨c0,hc0,hx0⟩:=g2 k d hd
     rw [Nat.zero_add]
     exact a9h k d c0 _ hd hc0 hx0 (hx k c0 hc0)
   |_=>exact hex.elim
  |t ps=>
   cases ret with
   |t qs=>
    cases hv with
    |t _ vs hl hx=>
     obtain ⟨g1,g2⟩:=b0N nm (H:=Hf) 0 (ps:=ps) (qs:=qs) hex
     have hlen2:(adT nm 0 qs).length=qs.length:=by
      have:∀(qs:List (Bool×List AC)) (k:Nat),(adT nm k qs).length=qs.length:=fun qs=>by
       induction qs with
       |nil=>intro k;rfl
       |cons q r ih=>intro k;obtain ⟨b,cs⟩:=q;simp [adT,ih]
      exact this _ _
     refine .t _ vs (by rw [hlen2];omega) fun j b cs hj=>?_
     have hjl:j<qs.length:=by rw [<-hlen2];exact (List.getElem?_eq_some_iff.1 hj).1
     obtain ⟨b0,ds0,hq⟩:∃b0 ds0,qs[j]?=some (b0,ds0):=⟨(qs[j]).1,(qs[j]).2,by simp [hjl]⟩
     obtain ⟨cs0,k',p1,p2,p3,p4,p5⟩:=g2 j b0 ds0 hq
     rw [hj] at p5
     simp only [Option.some.injEq,Prod.mk.injEq] at p5
     obtain ⟨rfl,rfl⟩:=p5
     have hxx:=hx j _ _ p1
     generalize vs.getD j undef=u at hxx
     obtain ⟨l1,l2⟩:=a3S p2
     rw [Nat.zero_add]
     cases hxx with
     |c x _ hx0=>
      match ds0,l1 with
      |[d0],_=>
       obtain ⟨c0,hc0,hx1⟩:=l2 0 d0 rfl
       simp at hc0
       subst hc0
       exact .c _ _ (a9h (k'+0) d0 x _ (p4 0 d0 rfl) (p3 0 x rfl) hx1 hx0)
     |g _ us hl hu=>
      refine .g _ us (by rw [a6O];omega) fun i c hc=>?_
      rw [a9Z,Option.map_eq_some_iff] at hc
      obtain ⟨d,hd,rfl⟩:=hc
      obtain ⟨c0,hc0,hx0⟩:=l2 i d hd
      exact a9h (k'+i) d c0 _ (p4 i d hd) (p3 i c0 hc0) hx0 (hu i c0 hc0)
   |_=>exact hex.elim
open Go
variable {P:Program}
def a5b (H:Heap) (T:Nat) (args:List AV):St:={s:=fun t=>args.getD t (.c (.raw undef)),H:=H,T:=T}
def c3k (P:Program) (fn:Func) (R:AV->Heap->Prop) (e:AEx) (st:St):Prop:=
 (match e with|.normal|.ret=>True|_=>False)/\∃res,b4y P st fn.results.toList=some res/\R res st.H
theorem b76 {calm:Array Oper->Bool} (hcalm:b2H P calm) {f:FuncId} {fn:Func} {c:Code} {st:St} {dst:Option Nat} {args:List AV} {us:List (Id×OK)} {ret:AV} (hf:P.funcs[f]?=some fn) (hb:fn.body=some c)
  (hok:a0R calm fn args.length=true) (hret:∀c∈ret.flat,a6v c) (hun:a4R (a1P st dst) st.H 0 ret.flat) (hub:∀q∈us,q.2≠.a0b/\st.H q.1≠.a0b) (hnp:∀q∈us,∀ag es,q.2≠.mp ag es)
  (hcl:∀q∈us,∀e sz f rows,q.2=.arr e sz f rows->∀r∈rows,∀c∈r,∀id,idD id c->st.H id≠.a0b)
  (h:∀T,a0v st.H T->awp P c (c3k P fn fun res H=>exV H res ret/\(a1j res.flat).Nodup/\(∀id∈a1j res.flat,st.H id=.a0b)/\∀i,st.H i≠.a0b->H i=upH st.H us i) (a5b st.H T args)) :
  b3t P st f args fun r H T=>r=ret.ad (a1P st dst)/\H=adH (a1P st dst) 0 ret.flat (upH st.H us)/\T=st.T:=by
 simp only [a0R,hb,Bool.and_eq_true,decide_eq_true_eq,bne_iff_ne,ne_eq] at hok
 obtain ⟨⟨hname,hcode⟩,hle⟩:=hok
 refine ⟨by simp [a3k,hf,hb,hname],fun C ρ a w vs hr hsz hargs=>?_⟩
 obtain ⟨N,hN⟩:=hr.heap.fin
 let X:World->(Tag->Nat->Prop)->Heap->Lies->Prop:=fun w' F' H' ρ'=>a1c w w' (Fr C st.H ρ) F' st.H H' ρ ρ'
 let C':Ctx P:=⟨C.w0,C.hI,C.G,X,fun k q=>q.trans k,C.B,C.K⟩
 have h0:Rel C' ρ (a5b st.H N args) {tmps:=vs++Array.replicate (fn.ntmps-vs.size) undef,defers:=[]} w:=by
  refine ⟨hr.heap.ctx X _,fun t=>?_,rfl,a1c.refl _ _ _ _,fun h=>by cases h⟩
  simp only [a5b]
  by_cases ht:t<args.length
  ·have h1:args[t]?=some (args.getD t (.c (.raw undef))):=by simp [ht]
   have h2:(vs++Array.replicate (fn.ntmps-vs.size) undef).getD t undef=vs.getD t undef:=by
    simp [Array.getD_eq_getD_getElem?,Array.getElem?_append,show t<vs.size by omega]
   rw [h2];exact hargs t _ h1
  ·have h1:args.getD t (.c (.raw undef))=.c (.raw undef):=by simp [List.getD,List.getElem?_eq_none (Nat.le_of_not_lt ht)]
   have h2:(vs++Array.replicate (fn.ntmps-vs.size) undef).getD t undef=undef:=by
    simp only [Array.getD_eq_getD_getElem?,Array.getElem?_append,show ¬t<vs.size by omega,if_false,Array.getElem?_replicate]
    split<;>rfl
   rw [h1,h2];exact .c _ _ (.raw _)
 refine calls_of_wp hf hb (Code.wp_mono (fun e a' w' q=>?_) (a1M calm hcalm c fn.ntmps _ ρ (a5b st.H N args) _ w hcode (by simp;omega) h0 (h N hN)))
 have fin:a1o C' fn.ntmps (fun st'=>∃res,b4y P st' fn.results.toList=some res/\exV st'.H res ret/\(a1j res.flat).Nodup/\(∀id∈a1j res.flat,st.H id=.a0b)/\∀i,st.H i≠.a0b->st'.H i=upH st.H us i) a' w'->
   a'.defers=[]/\∃v,(results fn a'.tmps).run P w'=.ok v w'/\(∃v',Ending.returned v=.returned v'/\∃ρ' r H' T',Rel C ρ' (st.back H' T') a w'/\a2f w' (Fr C H' ρ') H' ρ' r v'/\
    r=ret.ad (a1P st dst)/\H'=adH (a1P st dst) 0 ret.flat (upH st.H us)/\T'=st.T):=
  fun ⟨_,ρ',st',hr',res,g1,g2,g3,g4,g5⟩=>by
   obtain ⟨v,h1,h2⟩:=a4c hr' g1
   obtain ⟨ρ2,k1,k2⟩:=gc hr (hr'.heap.c9C) hr'.ghost h2 hret g2 g3 g4 (a1P st dst) (b2D st dst) hun g5 hub hnp hcl
   exact ⟨hr'.a6a,v,h1,v,rfl,ρ2,_,_,_,k1,k2,rfl,rfl,rfl⟩
 cases e with
 |normal=>exact fin (a1o.mono q fun st hs=>hs.2)
 |ret=>exact fin (a1o.mono q fun st hs=>hs.2)
 |exit id=>
  obtain ⟨_,_,_,_,hs⟩:=q
  exact hs.1.elim
 |_=>exact q.elim
def mh1 (e sz:Nat) (g:List AC->List AV->Option (Prop×List AC×AV)):MH:=fun H args=>
 match args with
 |.c (.pt id 0 0)::rest=>match H id with
  |.arr e' sz' false [row]=>if e'=e/\sz'=sz then (g row rest).map fun r=>(r.1,[(id,.arr e sz false [r.2.1])],r.2.2) else none
  |_=>none
 |_=>none
def c9F (e sz:Nat) (g:List AC->List AV->Option (Prop×List AC×AV)) (id:Id) (rest:List AV) (o:OK):Option (Prop×List (Id×OK)×AV):=
 match o with
 |.arr e' sz' false [row]=>if e'=e/\sz'=sz then (g row rest).map fun r=>(r.1,[(id,.arr e sz false [r.2.1])],r.2.2) else none
 |_=>none
@[simp] theorem d1K {e sz:Nat} {g:List AC->List AV->Option (Prop×List AC×AV)} {H:Heap} {id:Id} {rest:List AV}:mh1 e sz g H (.c (.pt id 0 0)::rest)=c9F e sz g id rest (H id):=rfl
@[simp] theorem c9G {e sz:Nat} {g:List AC->List AV->Option (Prop×List AC×AV)} {id:Id} {rest:List AV} {row:List AC}:c9F e sz g id rest (.arr e sz false [row])=(g row rest).map fun r=>(r.1,[(id,.arr e sz false [r.2.1])],r.2.2):=by simp [c9F]
theorem b1c {e sz:Nat} {g:List AC->List AV->Option (Prop×List AC×AV)} {H:Heap} {args:List AV} {r} (h:mh1 e sz g H args=some r) :
  ∃id rest row q,args=.c (.pt id 0 0)::rest/\H id=.arr e sz false [row]/\g row rest=some q/\r=(q.1,[(id,.arr e sz false [q.2.1])],q.2.2):=by
 unfold mh1 at h
 split at h
 ·rename_i id rest
  split at h
  ·rename_i e' sz' row hid
   split at h
   ·rename_i he
    obtain ⟨rfl,rfl⟩:=he
    rw [Option.map_eq_some_iff] at h
    obtain ⟨q,hq,rfl⟩:=h
    exact ⟨id,rest,row,q,rfl,hid,hq,rfl⟩
   ·cases h
  ·cases h
 ·cases h
theorem c0z (hm:P.follows .mixedOrders=true) {F:CT} (hF:a07 P F) {f:FuncId} {fn:Func} {s:SC} {e sz:Nat} {g:List AC->List AV->Option (Prop×List AC×AV)} (hf:P.funcs[f]?=some fn) (hs:a0r fn.body s=some (unK s,true))
  (hok:a0R a0q fn 0=true)
  (hlo:∀row rest q,g row rest=some q->Nat.ble (rest.length+1) fn.ntmps=true/\(∀c∈q.2.2.flat,a6v c)/\(∀c∈q.2.1,∀id,¬idD id c))
  (h:∀(H:Heap) (T:Nat) (id:Id) row rest q,H id=.arr e sz false [row]->a0v H T->g row rest=some q->q.1->
   a14 P F s (c3k P fn fun res H'=>exV H' res q.2.2/\(a1j res.flat).Nodup/\(∀i∈a1j res.flat,H i=.a0b)/\a0y [id] H H'/\H' id=.arr e sz false [q.2.1]) (a5b H T (.c (.pt id 0 0)::rest))) :
  a5J P f (mh1 e sz g):=by
 refine ⟨fun {H H' args r} hr hH=>?_,fun {H args C us ret} hr=>?_,fun {st dst args C us ret} hr hC hun=>?_⟩
 ·obtain ⟨id,rest,row,q,rfl,h2,h3,rfl⟩:=b1c hr
  have h4:H' id=.arr e sz false [row]:=by rw [hH id ⟨_,List.mem_cons_self,by simp⟩ (by rw [h2];simp),h2]
  simp [h4,h3]
 ·obtain ⟨id,rest,row,q,rfl,h2,h3,h4⟩:=b1c hr
  simp only [Prod.mk.injEq] at h4
  obtain ⟨_,rfl,_⟩:=h4
  intro p hp
  simp only [List.mem_singleton] at hp
  subst hp
  exact ⟨by simp,by rw [h2];simp,_,List.mem_cons_self,by simp⟩
 ·obtain ⟨id,rest,row,q,rfl,h2,h3,h4⟩:=b1c hr
  simp only [Prod.mk.injEq] at h4
  obtain ⟨rfl,rfl,rfl⟩:=h4
  obtain ⟨l1,l2,l3⟩:=hlo row rest q h3
  cases hb:fn.body with
  |none=>rw [hb] at hs;cases hs
  |some c=>
   rw [hb] at hs
   simp only [a0r,Option.map_some,Option.some.injEq,Prod.mk.injEq] at hs
   refine b76 (a8y hm) hf hb ?_ l2 hun (fun p hp=>?_) (fun p hp ag es=>by simp only [List.mem_singleton] at hp;subst hp;simp) (fun p hp e' sz' f' rows he r hr c hc id' b8Q=>?_) fun T hT=>?_
   ·simp only [a0R,hb,Bool.and_eq_true] at hok ⊢
    exact ⟨hok.1,by simpa using Nat.le_of_ble_eq_true l1⟩
   ·simp only [List.mem_singleton] at hp
    subst hp
    exact ⟨by simp,by rw [h2];simp⟩
   ·simp only [List.mem_singleton] at hp
    subst hp
    cases he
    simp only [List.mem_singleton] at hr
    subst hr
    exact (l3 c hc id' b8Q).elim
   ·refine a25 (fun e st' hq=>?_) (a7G hF hs.1 hs.2 (h st.H T id row rest q h2 hT h3 hC))
    obtain ⟨q1,res,q2,q3,q4,q5,q6,q7⟩:=hq
    refine ⟨q1,res,q2,q3,q4,q5,fun i hi=>?_⟩
    simp only [upH]
    by_cases hid:i=id
    ·subst hid;simp [hset,q7]
    ·simp only [hset,if_neg hid]
     exact q6 i hi (by simpa using hid)
section
variable {st:St} {H:Heap} {T:Nat} {args:List AV} {k:Nat}
@[simp] theorem c6i:(a5b H T args).s k=args.getD k (.c (.raw undef)):=rfl
@[simp] theorem c6j:(a5b H T args).H=H:=rfl
@[simp] theorem c6k:(a5b H T args).T=T:=rfl
@[simp] theorem c6l {fn:Func} {R:AV->Heap->Prop}:c3k P fn R .ret st=∃res,b4y P st fn.results.toList=some res/\R res st.H:=by simp [c3k]
end
@[simp] theorem c9H {id:Id} {v:Value}:idD id (.raw v)↔False:=⟨(fun h=>nomatch h),(fun h=>h.elim)⟩
@[simp] theorem c9I {id:Id} {l:List UInt8}:idD id (.str l)↔False:=⟨(fun h=>nomatch h),(fun h=>h.elim)⟩
theorem a1L.noD {c:AC} (h:a1L c) {id:Id}:¬idD id c:=by
 induction h with
 |raw v=>simp
 |str l=>simp
 |sl t cl xs ht h ih=>
  intro hi
  cases hi with
  |sl _ _ _ r c hr hc hi=>exact ih r hr c hc hi
theorem a0y.ext {S:List Id} {H0 H:Heap} {T0 T:Nat} (h:a29 S H0 T0 H T):a0y S H0 H:=h.1
open Go
def a0E:Nat->Nat->List UInt8
 |0,n=>[UInt8.ofNat n]
 |k+1,n=>if n<128 then [UInt8.ofNat n] else UInt8.ofNat (n%128+128)::a0E k (n/128)
def a0g (n:Nat):List UInt8:=a0E 9 n
def a4s:Nat->Nat->Nat->List UInt8->Option (Nat×List UInt8)
 |0,_,_,_=>none
 |_+1,_,_,[]=>none
 |k+1,m,acc,b::s=>
  if 128<=b.toNat then a4s k (m*128) (acc+(b.toNat%128)*m) s
  else if 268435456<acc+(b.toNat%128)*m\/(1<m/\b.toNat=0) then none else some (acc+(b.toNat%128)*m,s)
def takeN (s:List UInt8):Option (Nat×List UInt8):=a4s 5 1 0 s
def a0S (s:List UInt8):Nat×List UInt8×Int:=match takeN s with|some (n,r)=>(n,r,0)|none=>(0,[],7)
def a0G (s:List UInt8):List UInt8×List UInt8×Int:=
 match takeN s with
 |some (n,r)=>if n<=r.length then (r.take n,r.drop n,0) else ([],[],7)
 |none=>([],[],7)
def ofF:Nat->List UInt8->Nat
 |h,[]=>h
 |h,b::s=>ofF ((h*263+b.toNat+7)%4294967291) s
def ofN (s:List UInt8):Nat:=ofF 1 s
def a08 (h:Nat):List UInt8:=[UInt8.ofNat (h/16777216),UInt8.ofNat (h/65536),UInt8.ofNat (h/256),UInt8.ofNat h]
def a02 (s:List UInt8):List UInt8:=if 700<s.length then [] else a0g s.length++a08 (ofN (a0g s.length++s))++s
def a3H (s:List UInt8):Option (List UInt8×List UInt8):=
 match takeN s with
 |some (n,r)=>if 700<n\/r.length<n+4 then none else
  if r.take 4=a08 (ofN (s.take (s.length-r.length)++(r.take (4+n)).drop 4)) then some ((r.take (4+n)).drop 4,r.drop (4+n)) else none
 |none=>none
instance d3N:Enc UInt8 where
 w:=1
 row b:=[.raw (.int .u8 b.toNat)]
 dec|[.raw (.int .u8 n)]=>if 0<=n/\n<256 then some (UInt8.ofNat n.toNat) else none|_=>none
 a3f a:=by
  have:=a.toNat_lt
  simp
  omega
 a2S {r a} h:=by
  split at h
  ·split at h
   ·rename_i n hn
    cases h
    simp
    omega
   ·cases h
  ·cases h
 len _:=rfl
 old a c hc:=by simp at hc;subst hc;exact .raw _
 ret a c hc:=by simp at hc;subst hc;exact .raw _
@[simp] theorem d1L (b:UInt8):Enc.row b=[AC.raw (.int .u8 b.toNat)]:=rfl
@[simp] theorem d6V:Enc.w UInt8=1:=rfl
theorem a5T:∀(l:List UInt8) (v:Int),a1Q (a0a l++[[.raw (.int .u8 v)]])=some (l++[UInt8.ofNat v.toNat])
 |[],v=>rfl
 |b::l,v=>by
  show ((a1Q (a0a l++[[.raw (.int .u8 v)]])).map fun x=>UInt8.ofNat ((b.toNat:Int)).toNat::x)=_
  rw [a5T l v]
  simp
theorem a6P (l:List UInt8) (v:Int) (h0:0<=v) (h1:v<256):a0a l++[[.raw (.int .u8 v)]]=a0a (l++[UInt8.ofNat v.toNat]):=by
 rw [<-a7J]
 congr 1
 simp
 omega
theorem b3N (v:Int) (h0:0<=v) (h1:v<256):[[AC.raw (.int .u8 v)]]=a0a [UInt8.ofNat v.toNat]:=by
 have:=a6P [] v h0 h1
 simpa using this
attribute [simp] a5T
theorem a8G {n:Int} (h1:0<=n) (h2:n<=255):IntKind.wrap .u8 n=n:=by
 simp [IntKind.wrap,IntKind.bits,IntKind.signed]
 omega
theorem b5w {n:Int} (h1:0<=n):IntKind.wrap .u8 n=n%256:=by
 simp [IntKind.wrap,IntKind.bits,IntKind.signed]
theorem b3O {n:Int}:IntKind.wrap .u32 n=n%4294967296:=by
 simp [IntKind.wrap,IntKind.bits,IntKind.signed]
theorem a3y {n:Int}:IntKind.wrap .u64 n=n%18446744073709551616:=by
 simp [IntKind.wrap,IntKind.bits,IntKind.signed]
open Go Go.Proofs
def kf3:List Nat:=[98,105,106,107]
def c9J:SC:=(⟨_,by cbv⟩:{x//slB kf3 Tryz.f3.body [] 0=x}).1
def d1M:SC:=(⟨_,fun a=>by cbv⟩:{x:SC->SC//∀a,slB kf3 Tryz.f3.body [a] 1=x a}).1 c9J
def s3:SC:=(⟨_,fun a b=>by cbv⟩:{x:SC->SC->SC//∀a b,slW kf3 Tryz.f3.body [a,b]=x a b}).1 c9J d1M
theorem sl3:a0r Tryz.f3.body s3=some (unK s3,true):=by kernel_rfl
theorem ok3:a0R a0q Tryz.f3 0=true:=by kernel_rfl
def c6m:SC:=(⟨_,by cbv⟩:{x//slB kf3 Tryz.f4.body [] 0=x}).1
def s4:SC:=(⟨_,fun a=>by cbv⟩:{x:SC->SC//∀a,slW kf3 Tryz.f4.body [a]=x a}).1 c6m
theorem sl4:a0r Tryz.f4.body s4=some (unK s4,true):=by kernel_rfl
theorem ok4:a0R a0q Tryz.f4 0=true:=by kernel_rfl
def c6n:SC:=(⟨_,by cbv⟩:{x//slB kf3 Tryz.f6.body [] 0=x}).1
def s6:SC:=(⟨_,fun a=>by cbv⟩:{x:SC->SC//∀a,slW kf3 Tryz.f6.body [a]=x a}).1 c6n
theorem sl6:a0r Tryz.f6.body s6=some (unK s6,true):=by kernel_rfl
theorem ok6:a0R a0q Tryz.f6 0=true:=by kernel_rfl
def c1R:SC:=(⟨_,by cbv⟩:{x//slB kf3 Tryz.f7.body [] 0=x}).1
def s7:SC:=(⟨_,fun a=>by cbv⟩:{x:SC->SC//∀a,slW kf3 Tryz.f7.body [a]=x a}).1 c1R
theorem sl7:a0r Tryz.f7.body s7=some (unK s7,true):=by kernel_rfl
theorem ok7:a0R a0q Tryz.f7 0=true:=by kernel_rfl
def s8:SC:=(⟨_,by cbv⟩:{x//slW kf3 Tryz.f8.body []=x}).1
theorem sl8:a0r Tryz.f8.body s8=some (unK s8,true):=by kernel_rfl
theorem ok8:a0R a0q Tryz.f8 0=true:=by kernel_rfl
def b1d:SC:=(⟨_,by cbv⟩:{x//slB kf3 Tryz.f11.body [] 0=x}).1
def s11:SC:=(⟨_,fun a=>by cbv⟩:{x:SC->SC//∀a,slW kf3 Tryz.f11.body [a]=x a}).1 b1d
theorem sl11:a0r Tryz.f11.body s11=some (unK s11,true):=by kernel_rfl
theorem d3O:a0R a0q Tryz.f11 0=true:=by kernel_rfl
def b77:SC:=(⟨_,by cbv⟩:{x//slB kf3 Tryz.f12.body [] 0=x}).1
def s12:SC:=(⟨_,fun a=>by cbv⟩:{x:SC->SC//∀a,slW kf3 Tryz.f12.body [a]=x a}).1 b77
theorem sl12:a0r Tryz.f12.body s12=some (unK s12,true):=by kernel_rfl
theorem d3P:a0R a0q Tryz.f12 0=true:=by kernel_rfl
def a8H:SC:=(⟨_,by cbv⟩:{x//slB kf3 Tryz.f13.body [] 0=x}).1
def s13:SC:=(⟨_,fun a=>by cbv⟩:{x:SC->SC//∀a,slW kf3 Tryz.f13.body [a]=x a}).1 a8H
theorem sl13:a0r Tryz.f13.body s13=some (unK s13,true):=by kernel_rfl
theorem d3Q:a0R a0q Tryz.f13 0=true:=by kernel_rfl
def c3l:SC:=(⟨_,by cbv⟩:{x//slB kf3 Tryz.f14.body [] 0=x}).1
def s14:SC:=(⟨_,fun a=>by cbv⟩:{x:SC->SC//∀a,slW kf3 Tryz.f14.body [a]=x a}).1 c3l
theorem d3R:a0r Tryz.f14.body s14=some (unK s14,true):=by kernel_rfl
theorem d3S:a0R a0q Tryz.f14 0=true:=by kernel_rfl
def s15:SC:=(⟨_,by cbv⟩:{x//slW kf3 Tryz.f15.body []=x}).1
theorem d3T:a0r Tryz.f15.body s15=some (unK s15,true):=by kernel_rfl
theorem d3U:a0R a0q Tryz.f15 0=true:=by kernel_rfl
def s16:SC:=(⟨_,by cbv⟩:{x//slW kf3 Tryz.f16.body []=x}).1
theorem d3V:a0r Tryz.f16.body s16=some (unK s16,true):=by kernel_rfl
theorem ok16:a0R a0q Tryz.f16 0=true:=by kernel_rfl
def s17:SC:=(⟨_,by cbv⟩:{x//slW kf3 Tryz.f17.body []=x}).1
theorem d3W:a0r Tryz.f17.body s17=some (unK s17,true):=by kernel_rfl
theorem d3X:a0R a0q Tryz.f17 0=true:=by kernel_rfl
def b5x:SC:=(⟨_,by cbv⟩:{x//slB kf3 Tryz.f20.body [] 0=x}).1
def s20:SC:=(⟨_,fun a=>by cbv⟩:{x:SC->SC//∀a,slW kf3 Tryz.f20.body [a]=x a}).1 b5x
theorem d3Y:a0r Tryz.f20.body s20=some (unK s20,true):=by kernel_rfl
theorem d3Z:a0R a0q Tryz.f20 0=true:=by kernel_rfl
def s21:SC:=(⟨_,by cbv⟩:{x//slW kf3 Tryz.f21.body []=x}).1
theorem d4a:a0r Tryz.f21.body s21=some (unK s21,true):=by kernel_rfl
theorem d4b:a0R a0q Tryz.f21 0=true:=by kernel_rfl
def s23:SC:=(⟨_,by cbv⟩:{x//slW kf3 Tryz.f23.body []=x}).1
theorem d4c:a0r Tryz.f23.body s23=some (unK s23,true):=by kernel_rfl
theorem d4d:a0R a0q Tryz.f23 0=true:=by kernel_rfl
def s24:SC:=(⟨_,by cbv⟩:{x//slW kf3 Tryz.f24.body []=x}).1
theorem d4e:a0r Tryz.f24.body s24=some (unK s24,true):=by kernel_rfl
theorem d4f:a0R a0q Tryz.f24 0=true:=by kernel_rfl
def s28:SC:=(⟨_,by cbv⟩:{x//slW kf3 Tryz.f28.body []=x}).1
theorem sl28:a0r Tryz.f28.body s28=some (unK s28,true):=by kernel_rfl
theorem d4g:a0R a0q Tryz.f28 0=true:=by kernel_rfl
def s29:SC:=(⟨_,by cbv⟩:{x//slW kf3 Tryz.f29.body []=x}).1
theorem d4h:a0r Tryz.f29.body s29=some (unK s29,true):=by kernel_rfl
theorem d4i:a0R a0q Tryz.f29 0=true:=by kernel_rfl
def s31:SC:=(⟨_,by cbv⟩:{x//slW kf3 Tryz.f31.body []=x}).1
theorem sl31:a0r Tryz.f31.body s31=some (unK s31,true):=by kernel_rfl
theorem d4j:a0R a0q Tryz.f31 0=true:=by kernel_rfl
def s33:SC:=(⟨_,by cbv⟩:{x//slW kf3 Tryz.f33.body []=x}).1
theorem d4k:a0r Tryz.f33.body s33=some (unK s33,true):=by kernel_rfl
theorem d4l:a0R a0q Tryz.f33 0=true:=by kernel_rfl
def b3P:SC:=(⟨_,by cbv⟩:{x//slB kf3 Tryz.f34.body [] 0=x}).1
def s34:SC:=(⟨_,fun a=>by cbv⟩:{x:SC->SC//∀a,slW kf3 Tryz.f34.body [a]=x a}).1 b3P
theorem sl34:a0r Tryz.f34.body s34=some (unK s34,true):=by kernel_rfl
theorem d4m:a0R a0q Tryz.f34 0=true:=by kernel_rfl
def s35:SC:=(⟨_,by cbv⟩:{x//slW kf3 Tryz.f35.body []=x}).1
theorem sl35:a0r Tryz.f35.body s35=some (unK s35,true):=by kernel_rfl
theorem d4n:a0R a0q Tryz.f35 0=true:=by kernel_rfl
def s36:SC:=(⟨_,by cbv⟩:{x//slW kf3 Tryz.f36.body []=x}).1
theorem sl36:a0r Tryz.f36.body s36=some (unK s36,true):=by kernel_rfl
theorem d4o:a0R a0q Tryz.f36 0=true:=by kernel_rfl
def s37:SC:=(⟨_,by cbv⟩:{x//slW kf3 Tryz.f37.body []=x}).1
theorem d4p:a0r Tryz.f37.body s37=some (unK s37,true):=by kernel_rfl
theorem d4q:a0R a0q Tryz.f37 0=true:=by kernel_rfl
def b78:SC:=(⟨_,by cbv⟩:{x//slB kf3 Tryz.f38.body [] 0=x}).1
def s38:SC:=(⟨_,fun a=>by cbv⟩:{x:SC->SC//∀a,slW kf3 Tryz.f38.body [a]=x a}).1 b78
theorem d4r:a0r Tryz.f38.body s38=some (unK s38,true):=by kernel_rfl
theorem d4s:a0R a0q Tryz.f38 0=true:=by kernel_rfl
def s41:SC:=(⟨_,by cbv⟩:{x//slW kf3 Tryz.f41.body []=x}).1
theorem d4t:a0r Tryz.f41.body s41=some (unK s41,true):=by kernel_rfl
theorem d4u:a0R a0q Tryz.f41 0=true:=by kernel_rfl
def b5y:SC:=(⟨_,by cbv⟩:{x//slB kf3 Tryz.f42.body [] 0=x}).1
def s42:SC:=(⟨_,fun a=>by cbv⟩:{x:SC->SC//∀a,slW kf3 Tryz.f42.body [a]=x a}).1 b5y
theorem d4v:a0r Tryz.f42.body s42=some (unK s42,true):=by kernel_rfl
theorem d4w:a0R a0q Tryz.f42 0=true:=by kernel_rfl
def s48:SC:=(⟨_,by cbv⟩:{x//slW kf3 Tryz.f48.body []=x}).1
theorem d4x:a0r Tryz.f48.body s48=some (unK s48,true):=by kernel_rfl
theorem d4y:a0R a0q Tryz.f48 0=true:=by kernel_rfl
def s49:SC:=(⟨_,by cbv⟩:{x//slW kf3 Tryz.f49.body []=x}).1
theorem d4z:a0r Tryz.f49.body s49=some (unK s49,true):=by kernel_rfl
theorem d4A:a0R a0q Tryz.f49 0=true:=by kernel_rfl
def b5z:SC:=(⟨_,by cbv⟩:{x//slB kf3 Tryz.f50.body [] 0=x}).1
def s50:SC:=(⟨_,fun a=>by cbv⟩:{x:SC->SC//∀a,slW kf3 Tryz.f50.body [a]=x a}).1 b5z
theorem d4B:a0r Tryz.f50.body s50=some (unK s50,true):=by kernel_rfl
theorem d4C:a0R a0q Tryz.f50 0=true:=by kernel_rfl
def c0A:SC:=(⟨_,by cbv⟩:{x//slB kf3 Tryz.f51.body [] 0=x}).1
def s51:SC:=(⟨_,fun a=>by cbv⟩:{x:SC->SC//∀a,slW kf3 Tryz.f51.body [a]=x a}).1 c0A
theorem d4D:a0r Tryz.f51.body s51=some (unK s51,true):=by kernel_rfl
theorem d4E:a0R a0q Tryz.f51 0=true:=by kernel_rfl
def s52:SC:=(⟨_,by cbv⟩:{x//slW kf3 Tryz.f52.body []=x}).1
theorem d4F:a0r Tryz.f52.body s52=some (unK s52,true):=by kernel_rfl
theorem d4G:a0R a0q Tryz.f52 0=true:=by kernel_rfl
def s53:SC:=(⟨_,by cbv⟩:{x//slW kf3 Tryz.f53.body []=x}).1
theorem d4H:a0r Tryz.f53.body s53=some (unK s53,true):=by kernel_rfl
theorem d4I:a0R a0q Tryz.f53 0=true:=by kernel_rfl
def s57:SC:=(⟨_,by cbv⟩:{x//slW kf3 Tryz.f57.body []=x}).1
theorem d4J:a0r Tryz.f57.body s57=some (unK s57,true):=by kernel_rfl
theorem d4K:a0R a0q Tryz.f57 0=true:=by kernel_rfl
def s58:SC:=(⟨_,by cbv⟩:{x//slW kf3 Tryz.f58.body []=x}).1
theorem d4L:a0r Tryz.f58.body s58=some (unK s58,true):=by kernel_rfl
theorem d4M:a0R a0q Tryz.f58 0=true:=by kernel_rfl
def s60:SC:=(⟨_,by cbv⟩:{x//slW kf3 Tryz.f60.body []=x}).1
theorem d4N:a0r Tryz.f60.body s60=some (unK s60,true):=by kernel_rfl
theorem d4O:a0R a0q Tryz.f60 0=true:=by kernel_rfl
def s64:SC:=(⟨_,by cbv⟩:{x//slW kf3 Tryz.f64.body []=x}).1
theorem sl64:a0r Tryz.f64.body s64=some (unK s64,true):=by kernel_rfl
theorem d4P:a0R a0q Tryz.f64 0=true:=by kernel_rfl
def s67:SC:=(⟨_,by cbv⟩:{x//slW kf3 Tryz.f67.body []=x}).1
theorem d4Q:a0r Tryz.f67.body s67=some (unK s67,true):=by kernel_rfl
theorem d4R:a0R a0q Tryz.f67 0=true:=by kernel_rfl
def s68:SC:=(⟨_,by cbv⟩:{x//slW kf3 Tryz.f68.body []=x}).1
theorem d4S:a0r Tryz.f68.body s68=some (unK s68,true):=by kernel_rfl
theorem d4T:a0R a0q Tryz.f68 0=true:=by kernel_rfl
def s69:SC:=(⟨_,by cbv⟩:{x//slW kf3 Tryz.f69.body []=x}).1
theorem d4U:a0r Tryz.f69.body s69=some (unK s69,true):=by kernel_rfl
theorem d4V:a0R a0q Tryz.f69 0=true:=by kernel_rfl
def s70:SC:=(⟨_,by cbv⟩:{x//slW kf3 Tryz.f70.body []=x}).1
theorem d4W:a0r Tryz.f70.body s70=some (unK s70,true):=by kernel_rfl
theorem d4X:a0R a0q Tryz.f70 0=true:=by kernel_rfl
def s72:SC:=(⟨_,by cbv⟩:{x//slW kf3 Tryz.f72.body []=x}).1
theorem d4Y:a0r Tryz.f72.body s72=some (unK s72,true):=by kernel_rfl
theorem d4Z:a0R a0q Tryz.f72 0=true:=by kernel_rfl
def s73:SC:=(⟨_,by cbv⟩:{x//slW kf3 Tryz.f73.body []=x}).1
theorem d5a:a0r Tryz.f73.body s73=some (unK s73,true):=by kernel_rfl
theorem d5b:a0R a0q Tryz.f73 0=true:=by kernel_rfl
def s74:SC:=(⟨_,by cbv⟩:{x//slW kf3 Tryz.f74.body []=x}).1
theorem d5c:a0r Tryz.f74.body s74=some (unK s74,true):=by kernel_rfl
theorem d5d:a0R a0q Tryz.f74 0=true:=by kernel_rfl
def c0B:SC:=(⟨_,by cbv⟩:{x//slB kf3 Tryz.f75.body [] 0=x}).1
def s75:SC:=(⟨_,fun a=>by cbv⟩:{x:SC->SC//∀a,slW kf3 Tryz.f75.body [a]=x a}).1 c0B
theorem d5e:a0r Tryz.f75.body s75=some (unK s75,true):=by kernel_rfl
theorem d5f:a0R a0q Tryz.f75 0=true:=by kernel_rfl
def c0C:SC:=(⟨_,by cbv⟩:{x//slB kf3 Tryz.f82.body [] 0=x}).1
def s82:SC:=(⟨_,fun a=>by cbv⟩:{x:SC->SC//∀a,slW kf3 Tryz.f82.body [a]=x a}).1 c0C
theorem d5g:a0r Tryz.f82.body s82=some (unK s82,true):=by kernel_rfl
theorem d5h:a0R a0q Tryz.f82 0=true:=by kernel_rfl
def s83:SC:=(⟨_,by cbv⟩:{x//slW kf3 Tryz.f83.body []=x}).1
theorem d5i:a0r Tryz.f83.body s83=some (unK s83,true):=by kernel_rfl
theorem d5j:a0R a0q Tryz.f83 0=true:=by kernel_rfl
def c0D:SC:=(⟨_,by cbv⟩:{x//slB kf3 Tryz.f85.body [] 0=x}).1
def s85:SC:=(⟨_,fun a=>by cbv⟩:{x:SC->SC//∀a,slW kf3 Tryz.f85.body [a]=x a}).1 c0D
theorem d5k:a0r Tryz.f85.body s85=some (unK s85,true):=by kernel_rfl
theorem d5l:a0R a0q Tryz.f85 0=true:=by kernel_rfl
def c0E:SC:=(⟨_,by cbv⟩:{x//slB kf3 Tryz.f88.body [] 0=x}).1
def s88:SC:=(⟨_,fun a=>by cbv⟩:{x:SC->SC//∀a,slW kf3 Tryz.f88.body [a]=x a}).1 c0E
theorem d5m:a0r Tryz.f88.body s88=some (unK s88,true):=by kernel_rfl
theorem d5n:a0R a0q Tryz.f88 0=true:=by kernel_rfl
def s89:SC:=(⟨_,by cbv⟩:{x//slW kf3 Tryz.f89.body []=x}).1
theorem d5o:a0r Tryz.f89.body s89=some (unK s89,true):=by kernel_rfl
theorem d5p:a0R a0q Tryz.f89 0=true:=by kernel_rfl
def s90:SC:=(⟨_,by cbv⟩:{x//slW kf3 Tryz.f90.body []=x}).1
theorem d5q:a0r Tryz.f90.body s90=some (unK s90,true):=by kernel_rfl
theorem d5r:a0R a0q Tryz.f90 0=true:=by kernel_rfl
def s91:SC:=(⟨_,by cbv⟩:{x//slW kf3 Tryz.f91.body []=x}).1
theorem d5s:a0r Tryz.f91.body s91=some (unK s91,true):=by kernel_rfl
theorem d5t:a0R a0q Tryz.f91 0=true:=by kernel_rfl
def s92:SC:=(⟨_,by cbv⟩:{x//slW kf3 Tryz.f92.body []=x}).1
theorem d5u:a0r Tryz.f92.body s92=some (unK s92,true):=by kernel_rfl
theorem d5v:a0R a0q Tryz.f92 0=true:=by kernel_rfl
def s93:SC:=(⟨_,by cbv⟩:{x//slW kf3 Tryz.f93.body []=x}).1
theorem d5w:a0r Tryz.f93.body s93=some (unK s93,true):=by kernel_rfl
theorem d5x:a0R a0q Tryz.f93 0=true:=by kernel_rfl
def a92:SC:=(⟨_,by cbv⟩:{x//slB kf3 Tryz.f94.body [] 0=x}).1
def s94:SC:=(⟨_,fun a=>by cbv⟩:{x:SC->SC//∀a,slW kf3 Tryz.f94.body [a]=x a}).1 a92
theorem d5y:a0r Tryz.f94.body s94=some (unK s94,true):=by kernel_rfl
theorem d5z:a0R a0q Tryz.f94 0=true:=by kernel_rfl
def s97:SC:=(⟨_,by cbv⟩:{x//slW kf3 Tryz.f97.body []=x}).1
theorem d5A:a0r Tryz.f97.body s97=some (unK s97,true):=by kernel_rfl
theorem d5B:a0R a0q Tryz.f97 0=true:=by kernel_rfl
def a8I:SC:=(⟨_,by cbv⟩:{x//slB kf3 Tryz.f98.body [] 0=x}).1
def s98:SC:=(⟨_,fun a=>by cbv⟩:{x:SC->SC//∀a,slW kf3 Tryz.f98.body [a]=x a}).1 a8I
theorem d5C:a0r Tryz.f98.body s98=some (unK s98,true):=by kernel_rfl
theorem d5D:a0R a0q Tryz.f98 0=true:=by kernel_rfl
def c9K:SC:=(⟨_,by cbv⟩:{x//slW kf3 Tryz.f100.body []=x}).1
theorem c9L:a0r Tryz.f100.body c9K=some (unK c9K,true):=by kernel_rfl
theorem c9M:a0R a0q Tryz.f100 0=true:=by kernel_rfl
def c9N:SC:=(⟨_,by cbv⟩:{x//slW kf3 Tryz.f102.body []=x}).1
theorem c9O:a0r Tryz.f102.body c9N=some (unK c9N,true):=by kernel_rfl
theorem c9P:a0R a0q Tryz.f102 0=true:=by kernel_rfl
def c6o:SC:=(⟨_,by cbv⟩:{x//slW kf3 Tryz.f105.body []=x}).1
theorem c9Q:a0r Tryz.f105.body c6o=some (unK c6o,true):=by kernel_rfl
theorem c9R:a0R a0q Tryz.f105 0=true:=by kernel_rfl
def c9S:SC:=(⟨_,by cbv⟩:{x//slW kf3 Tryz.f106.body []=x}).1
theorem c9T:a0r Tryz.f106.body c9S=some (unK c9S,true):=by kernel_rfl
theorem c9U:a0R a0q Tryz.f106 0=true:=by kernel_rfl
def c6p:SC:=(⟨_,by cbv⟩:{x//slW kf3 Tryz.f107.body []=x}).1
theorem c9V:a0r Tryz.f107.body c6p=some (unK c6p,true):=by kernel_rfl
theorem c9W:a0R a0q Tryz.f107 0=true:=by kernel_rfl
def b64:SC:=(⟨_,by cbv⟩:{x//slW kf3 Tryz.f109.body []=x}).1
theorem c9X:a0r Tryz.f109.body b64=some (unK b64,true):=by kernel_rfl
theorem c9Y:a0R a0q Tryz.f109 0=true:=by kernel_rfl
def c9Z:SC:=(⟨_,by cbv⟩:{x//slW kf3 Tryz.f110.body []=x}).1
theorem c90:a0r Tryz.f110.body c9Z=some (unK c9Z,true):=by kernel_rfl
theorem c91:a0R a0q Tryz.f110 0=true:=by kernel_rfl
def c3m:SC:=(⟨_,by cbv⟩:{x//slW kf3 Tryz.f111.body []=x}).1
theorem c92:a0r Tryz.f111.body c3m=some (unK c3m,true):=by kernel_rfl
theorem c93:a0R a0q Tryz.f111 0=true:=by kernel_rfl
def b2T:SC:=(⟨_,by cbv⟩:{x//slB kf3 Tryz.f113.body [] 0=x}).1
def c94:SC:=(⟨_,fun a=>by cbv⟩:{x:SC->SC//∀a,slW kf3 Tryz.f113.body [a]=x a}).1 b2T
theorem c95:a0r Tryz.f113.body c94=some (unK c94,true):=by kernel_rfl
theorem c96:a0R a0q Tryz.f113 0=true:=by kernel_rfl
def c3n:SC:=(⟨_,by cbv⟩:{x//slW kf3 Tryz.f114.body []=x}).1
theorem c97:a0r Tryz.f114.body c3n=some (unK c3n,true):=by kernel_rfl
theorem c98:a0R a0q Tryz.f114 0=true:=by kernel_rfl
def c99:SC:=(⟨_,by cbv⟩:{x//slW kf3 Tryz.f115.body []=x}).1
theorem d0a:a0r Tryz.f115.body c99=some (unK c99,true):=by kernel_rfl
theorem d0b:a0R a0q Tryz.f115 0=true:=by kernel_rfl
attribute [simp] Tryz.results3 Tryz.results4 Tryz.results6 Tryz.results7 Tryz.results8 Tryz.results11 Tryz.results12 Tryz.results13 Tryz.results14 Tryz.results15 Tryz.results16 Tryz.results17 Tryz.results20 Tryz.results21 Tryz.results23 Tryz.results24 Tryz.results28 Tryz.results29 Tryz.results31 Tryz.results33 Tryz.results34 Tryz.results35 Tryz.results36 Tryz.results37 Tryz.results38 Tryz.results41 Tryz.results42 Tryz.results48 Tryz.results49 Tryz.results50 Tryz.results51 Tryz.results52 Tryz.results53 Tryz.results57 Tryz.results58 Tryz.results60 Tryz.results64 Tryz.results67 Tryz.results68 Tryz.results69 Tryz.results70 Tryz.results72 Tryz.results73 Tryz.results74 Tryz.results75 Tryz.results82 Tryz.results83 Tryz.results85 Tryz.results88 Tryz.results89 Tryz.results90 Tryz.results91 Tryz.results92 Tryz.results93 Tryz.results94 Tryz.results97 Tryz.results98 Tryz.results100 Tryz.results102 Tryz.results105 Tryz.results106 Tryz.results107 Tryz.results109 Tryz.results110 Tryz.results111 Tryz.results113 Tryz.results114 Tryz.results115
open Go Go.Proofs
theorem b79 (n:Int):PEv Tryz.prog 97 [.c (.raw (.int .i64 n))] (.c (.raw (.bool (decide (0<=n/\n<=268435456))))):=by
 refine a0e mixed (F:=[]) trivial Tryz.func97 d5A d5B (by kernel_rfl) (by simp) (by simp) ?_
 by_cases h1:0<=n
 ·by_cases h2:n<=268435456
  ·simp [s97,h1,h2]
  ·simp [s97,h1,h2]
 ·simp [s97,h1]
theorem a6Q {k n:Nat} (h:128<=n):a0E (k+1) n=UInt8.ofNat (n%128+128)::a0E k (n/128):=by
 rw [a0E,if_neg (by omega)]
theorem a6R {k n:Nat} (h:n<128):a0E k n=[UInt8.ofNat n]:=by
 cases k with
 |zero=>rfl
 |succ k=>rw [a0E,if_pos h]
theorem a4H (n:Nat) (hn:n<9223372036854775808):PEv Tryz.prog 50 [.c (.raw (.int .i64 n))] (.c (.str (a0g n))):=by
 refine a0e mixed (F:=[]) trivial Tryz.func50 d4B d4C (by kernel_rfl) (by simp) (by simp) ?_
 simp [s50]
 refine a1x (fun q st=>∃(k m:Nat) (L:List UInt8) (c:AC),q=k/\k<=9/\m<128^k/\L++a0E k m=a0g n/\st.s 0=.c (.raw (.int .i64 m))/\st.s 3=.c c/\a7i st.H 5 1 0 c L/\L.length+k<=9/\a0v st.H st.T) 9
  ⟨9,n,[],.raw (.slice none 0 0),rfl,by omega,by omega,rfl,by simp,by simp,a7i.nil,by simp,by simp;exact a1r.mono (by omega)⟩ ?_
 rintro q st ⟨k,m,L,c,hq,hk,hm,hL,k0,k3,hc,hl,hf⟩
 have hfu:∀k d,st.T<=k->st.H (k,d)=.a0b:=hf
 have hm9:m<9223372036854775808:=Nat.lt_of_lt_of_le hm (Nat.le_trans (Nat.pow_le_pow_right (by omega) hk) (by decide))
 by_cases hlt:128<=m
 ·have hlt':(128:Int)<=m:=by omega
  cases k with
  |zero=>simp at hm;omega
  |succ k=>
   have c1:(m:Int).tmod 128=((m%128:Nat):Int):=by rw [Int.tmod_eq_emod_of_nonneg (by omega)];omega
   have c2:(m:Int).tdiv 128=((m/128:Nat):Int):=by rw [Int.tdiv_eq_ediv_of_nonneg (by omega)];omega
   obtain ⟨r,hr,hr2⟩:∃r:Nat,m%128=r/\r<128:=⟨m%128,rfl,by omega⟩
   obtain ⟨p,hp⟩:∃p:Nat,m/128=p:=⟨m/128,rfl⟩
   rw [hr] at c1
   rw [hp] at c2
   have e1:IntKind.wrap .i64 ((r:Int)+128)=(r:Int)+128:=by rw [a0f]<;>omega
   have e2:IntKind.wrap .u8 ((r:Int)+128)=(r:Int)+128:=a8G (by omega) (by omega)
   have e4:((r:Int)+128).toNat=r+128:=by omega
   have e3:IntKind.wrap .i64 (p:Int)=p:=by rw [a0f]<;>omega
   have hm2:p<128^k:=by rw [Nat.pow_succ] at hm;omega
   have hL2:(L++[UInt8.ofNat (r+128)])++a0E k p=a0g n:=by rw [<-hL,a6Q hlt,hr,hp];simp
   rcases hc with ⟨rfl,rfl⟩|⟨id,rfl,a7t,hid⟩
   ·simp (maxDischargeDepth:=8) [b5z,k0,k3,hlt',hfu,c1,c2,e1,e2,e3,Nat.le_add_right_of_le]
    refine ⟨k,by omega,by omega,p,hm2,[UInt8.ofNat (r+128)],by simpa using hL2,rfl,a7i.so rfl (Nat.zero_le _) ?_,(by have:=hl;simp at this ⊢;omega),?_⟩
    ·simp [b3N ((r:Int)+128) (by omega) (by omega),e4]
    ·repeat' (first|exact hf.mono (by first|omega|(simp<;>omega))|(refine a0v.set' ?_ (by first|omega|(simp<;>omega))))
   ·obtain ⟨f1,f2,f3⟩:=hf.arr hid
    simp (maxDischargeDepth:=8) [b5z,k0,k3,hlt',hfu,c1,c2,e1,e2,e3,f1,f2,hid,Nat.le_add_right_of_le]
    refine ⟨⟨by omega,by omega⟩,k,by omega,by omega,p,hm2,L++[UInt8.ofNat (r+128)],hL2,rfl,a7i.so (by simp) (Nat.zero_le _) ?_,by simp;omega,?_⟩
    ·simp [a6P L ((r:Int)+128) (by omega) (by omega),e4]
    ·repeat' (first|exact hf.mono (by first|omega|(simp<;>omega))|(refine a0v.set' ?_ (by first|omega|(simp<;>omega))))
 ·have hlt':¬(128:Int)<=m:=by omega
  have e2:IntKind.wrap .u8 (m:Int)=m:=a8G (by omega) (by omega)
  rw [a6R (by omega)] at hL
  rcases hc with ⟨rfl,rfl⟩|⟨id,rfl,a7t,hid⟩
  ·simp (maxDischargeDepth:=8) [b5z,k0,k3,hlt',hfu,e2,Nat.le_add_right_of_le]
   simpa using hL
  ·obtain ⟨f1,f2,f3⟩:=hf.arr hid
   simp (maxDischargeDepth:=8) [b5z,k0,k3,hlt',hfu,e2,f1,f2,hid,List.take_of_length_le,hL,Nat.le_add_right_of_le]
   omega
def b1e:List AV->Option (Prop×AV):=t1 (fun _=>True) fun n:Int=>.c (.raw (.bool (decide (0<=n/\n<=268435456))))
@[simp] theorem c6q {l:List AV}:b1e l=(t1 (fun _=>True) fun n:Int=>.c (.raw (.bool (decide (0<=n/\n<=268435456))))) l:=(rfl)
def b1f:List AV->Option (Prop×AV):=t1 (fun n=>0<=n/\n<9223372036854775808) fun n:Int=>.c (.str (a0g n.toNat))
@[simp] theorem c6r {l:List AV}:b1f l=(t1 (fun n=>0<=n/\n<9223372036854775808) fun n:Int=>.c (.str (a0g n.toNat))) l:=(rfl)
def FN0:CT:=(97,.pu b1e)::(50,.pu b1f)::[]
theorem b82:a07 Tryz.prog FN0:=⟨a0o fun n _=>b79 n,
 a0o fun n h=>by have:=a4H n.toNat (by omega);rwa [Int.toNat_of_nonneg h.1] at this,trivial⟩
@[simp] theorem c3o:a0c FN0 97=some (.pu b1e):=(rfl)
@[simp] theorem c3p:a0c FN0 50=some (.pu b1f):=(rfl)
@[simp] theorem c6s {n:Nat} (h:(n==97||n==50)=false):a0c FN0 n=a0c ([]:CT) n:=by
 simp only [Bool.or_eq_false_iff,beq_eq_false_iff_ne,ne_eq] at h
 simp [FN0,a0c,h]
theorem b83 (l:List UInt8) (i:Nat) (h:i<l.length):bts l (i:Int)=(l[i].toNat:Int):=by simp [bts,List.getD,h]
theorem c3q (b:UInt8):c5H .u8 (b.toNat:Int) 127=((b.toNat%128:Nat):Int):=by
 have hb:=b.toNat_lt
 have h1:((BitVec.ofInt 8 (b.toNat:Int)) &&&(BitVec.ofInt 8 127)).toNat=b.toNat%128:=by
  rw [BitVec.toNat_and]
  have e1:(BitVec.ofInt 8 (b.toNat:Int)).toNat=b.toNat:=by simp
  have e2:(BitVec.ofInt 8 127).toNat=2^7-1:=by decide
  rw [e1,e2,Nat.and_two_pow_sub_one_eq_mod]
 show IntKind.wrap .u8 (((BitVec.ofInt 8 (b.toNat:Int)) &&&(BitVec.ofInt 8 127)).toNat:Int)=_
 rw [h1]
 exact a8G (by omega) (by omega)
theorem c3r {acc x i:Nat} (ha:acc<128^i) (hi:i<=4) (hx:x<128):ior .i64 (acc:Int) ((x*128^i:Nat):Int)=((acc+x*128^i:Nat):Int):=by
 have hp:128^i<=128^4:=Nat.pow_le_pow_right (by omega) hi
 have h4:(128:Nat)^4=268435456:=by decide
 have hxi:x*128^i<=127*268435456:=Nat.mul_le_mul (by omega) (by omega)
 have e1:(BitVec.ofInt 64 (acc:Int)).toNat=acc:=by simp;omega
 have e2:(BitVec.ofInt 64 ((x*128^i:Nat):Int)).toNat=x*128^i:=by
  generalize x*128^i=y at hxi
  simp;omega
 have h1:((BitVec.ofInt 64 (acc:Int)) |||(BitVec.ofInt 64 ((x*128^i:Nat):Int))).toNat=acc+x*128^i:=by
  rw [BitVec.toNat_or,e1,e2]
  have h7:(128:Nat)^i=2^(7*i):=by rw [show (128:Nat)=2^7 from rfl,<-Nat.pow_mul]
  rw [h7] at ha ⊢
  rw [Nat.mul_comm x,Nat.or_comm,<-Nat.two_pow_add_eq_or_of_lt ha,Nat.add_comm]
 show IntKind.wrap .i64 (((BitVec.ofInt 64 (acc:Int)) |||(BitVec.ofInt 64 ((x*128^i:Nat):Int))).toNat:Int)=_
 rw [h1]
 exact a0f (by omega) (by omega)
theorem take_at {k m acc:Nat} {s:List UInt8} {i:Nat} (h:i<s.length):a4s (k+1) m acc (s.drop i) =
  if 128<=s[i].toNat then a4s k (m*128) (acc+(s[i].toNat%128)*m) (s.drop (i+1))
  else if 268435456<acc+(s[i].toNat%128)*m\/(1<m/\s[i].toNat=0) then none else some (acc+(s[i].toNat%128)*m,s.drop (i+1)):=by
 rw [List.drop_eq_getElem_cons h,a4s]
def a2g (s:List UInt8):AV:=.t [(false,[.raw (.int .i64 (a0S s).1)]),(false,[.str (a0S s).2.1]),(false,[.raw (.int .i64 (a0S s).2.2)])]
theorem a1y {s r:List UInt8} {n:Nat} (h:some (n,r)=takeN s):a2g s=.t [(false,[.raw (.int .i64 n)]),(false,[.str r]),(false,[.raw (.int .i64 0)])]:=by simp [a2g,a0S,<-h]
theorem a2O {s:List UInt8} (h:none=takeN s):a2g s=.t [(false,[.raw (.int .i64 0)]),(false,[.str []]),(false,[.raw (.int .i64 7)])]:=by simp [a2g,a0S,<-h]
theorem a5t (s:List UInt8) (hs:s.length<4611686018427387904):PEv Tryz.prog 82 [.c (.str s)] (a2g s):=by
 refine a0e mixed b82 Tryz.func82 d5g d5h (by kernel_rfl) (by simp [a2g]) (by simp) ?_
 have hmin:(if (5:Int)<s.length then (5:Int) else s.length)=((min s.length 5:Nat):Int):=by split<;>omega
 simp [s82,hmin]
 refine a1x (fun q st=>∃(i acc:Nat),i<=min s.length 5/\q=5-i/\acc<128^i/\st.s 0=.c (.str s)/\st.s 2=.c (.raw (.int .i64 acc))/\st.s 8=.c (.raw (.int .i64 (min s.length 5:Nat)))/\st.s 9=.c (.raw (.int .i64 i))/\
   a4s (5-i) (128^i) acc (s.drop i)=takeN s/\a0v st.H st.T) 5 ⟨0,0,by omega,rfl,by simp,by simp,by simp,by simp,by simp,rfl,by simp;exact a1r.mono (by omega)⟩ ?_
 rintro q st ⟨i,acc,hi,rfl,hacc,k0,k2,k8,k9,hT,hf⟩
 have hfu:∀k d,st.T<=k->st.H (k,d)=.a0b:=hf
 by_cases hlt:i<min s.length 5
 ·have hlt2:i<s.length:=by omega
  have hlt':((i:Int)<(min s.length 5:Nat)):=by omega
  have hk:5-i=(4-i)+1:=by omega
  rw [hk,take_at hlt2] at hT
  have hb:=s[i].toNat_lt
  obtain ⟨x,hx,hx2⟩:∃x:Nat,s[i].toNat%128=x/\x<128:=⟨_,rfl,by omega⟩
  have c1:=b83 s i hlt2
  have c2:=c3q s[i]
  rw [hx] at c2 hT
  have c3:IntKind.wrap .i64 (x:Int)=x:=by rw [a0f]<;>omega
  have c4:IntKind.wrap .i64 (7*(i:Int))=7*(i:Int):=by rw [a0f]<;>omega
  have h7:(128:Nat)^i=2^(7*i):=by rw [show (128:Nat)=2^7 from rfl,<-Nat.pow_mul]
  have d00:min (7*(i:Int)).toNat (IntKind.bits .i64)=7*i:=by
   have:IntKind.bits .i64=64:=rfl
   omega
  have hp:128^i<=128^4:=Nat.pow_le_pow_right (by omega) (by omega)
  have h4:(128:Nat)^4=268435456:=by decide
  have hxi:x*128^i<=127*268435456:=Nat.mul_le_mul (by omega) (by omega)
  have c5:=c3r hacc (i:=i) (by omega) hx2
  have c6:IntKind.wrap .i64 ((x:Int)*2^(7*i))=((x*128^i:Nat):Int):=by
   rw [h7]
   have:((x:Int)*2^(7*i))=((x*2^(7*i):Nat):Int):=by push_cast;rfl
   rw [this,<-h7]
   exact a0f (by omega) (by omega)
  have e2:IntKind.wrap .i64 ((i:Int)+1)=(i:Int)+1:=by rw [a0f]<;>omega
  obtain ⟨y,hy⟩:∃y,x*128^i=y:=⟨_,rfl⟩
  rw [hy] at c5 c6 hT hxi
  obtain ⟨z,hz⟩:∃z,acc+y=z:=⟨_,rfl⟩
  rw [hz] at c5 hT
  simp [c0C,k0,k2,k8,k9,hlt',hlt2,hfu,c1,c2,c3,c4,d00,c5,c6,e2]
  have hp1:0<i->1<128^i:=fun h=>Nat.one_lt_pow (by omega) (by omega)
  refine ⟨by omega,fun hge=>?_,fun hl3=>?_⟩
  ·rw [if_pos (by omega)] at hT
   refine ⟨5-(i+1),by omega,i+1,by omega,rfl,z,?_,rfl,rfl,?_,hf.mono (by omega)⟩
   ·rw [Nat.pow_succ,<-hz,<-hy]
    have:x*128^i<=127*128^i:=Nat.mul_le_mul_right _ (by omega)
    omega
   ·rw [show 5-(i+1)=4-i by omega,Nat.pow_succ]
    exact hT
  ·rw [if_neg (by omega)] at hT
   refine ⟨fun h1=>⟨fun h2=>⟨fun h3=>?_,fun h3=>⟨by omega,?_⟩⟩,fun h2=>⟨by omega,?_⟩⟩,fun h1=>?_⟩
   ·rw [if_pos (.inr ⟨hp1 h2,h3⟩)] at hT
    rw [a2O hT]
    simp
   ·rw [if_neg (by omega)] at hT
    rw [a1y hT]
    simp
   ·subst h2
    rw [if_neg (by simp;omega)] at hT
    rw [a1y hT]
    simp
   ·rw [if_pos (.inl (by omega))] at hT
    rw [a2O hT]
    simp
 ·have hlt':¬((i:Int)<(min s.length 5:Nat)):=by omega
  have hi2:i=min s.length 5:=by omega
  have hn:none=takeN s:=by
   rw [<-hT]
   by_cases h5:s.length<5
   ·rw [List.drop_eq_nil_of_le (by omega),show 5-i=(4-i)+1 by omega,a4s]
   ·rw [show 5-i=0 by omega,a4s]
  simp [c0C,k0,k2,k8,k9,hlt']
  rw [a2O hn]
  simp
def a1q (s:List UInt8):AV:=.t [(false,[.str (a0G s).1]),(false,[.str (a0G s).2.1]),(false,[.raw (.int .i64 (a0G s).2.2)])]
def b1g:List AV->Option (Prop×AV):=t1 (fun s=>s.length<4611686018427387904) fun s:List UInt8=>a2g s
@[simp] theorem c6t {l:List AV}:b1g l=(t1 (fun s=>s.length<4611686018427387904) fun s:List UInt8=>a2g s) l:=(rfl)
def FN1:CT:=(82,.pu b1g)::FN0
theorem b5A:a07 Tryz.prog FN1:=⟨a0o fun s h=>a5t s h,b82⟩
@[simp] theorem c3s:a0c FN1 82=some (.pu b1g):=(rfl)
@[simp] theorem c6u {n:Nat} (h:(n==82)=false):a0c FN1 n=a0c FN0 n:=by
 simp only [Bool.or_eq_false_iff,beq_eq_false_iff_ne,ne_eq] at h
 simp [FN1,a0c,h]
theorem a2r {s r:List UInt8} {n:Nat} (h:takeN s=some (n,r)):n<=268435456/\r.length<s.length:=by
 have go:∀(k m acc:Nat) (s r:List UInt8) (n:Nat),a4s k m acc s=some (n,r)->n<=268435456/\r.length<s.length:=by
  intro k
  induction k with
  |zero=>intro m acc s r n h;cases h
  |succ k ih=>
   intro m acc s r n h
   cases s with
   |nil=>cases h
   |cons b s=>
    rw [a4s] at h
    split at h
    ·have:=ih _ _ _ _ _ h
     simp;omega
    ·split at h
     ·cases h
     ·cases h
      simp;omega
 exact go _ _ _ _ _ _ h
theorem a4u (s:List UInt8) (hs:s.length<4611686018427387904):PEv Tryz.prog 111 [.c (.str s)] (a1q s):=by
 refine a0e mixed b5A Tryz.func111 c92 c93 (by kernel_rfl) (by simp [a1q]) (by simp) ?_
 cases hn:takeN s with
 |none=>
  simp [c3m,hs,a2O hn.symm]
  simp [a1q,a0G,hn]
 |some q=>
  obtain ⟨n,r⟩:=q
  obtain ⟨h1,h2⟩:=a2r hn
  by_cases hl:n<=r.length
  ·simp [c3m,hs,a1y hn.symm,hl]
   simp [a1q,a0G,hn,hl]
  ·simp [c3m,hs,a1y hn.symm,hl]
   simp [a1q,a0G,hn,hl]
theorem a7M (s:List UInt8) (hs:s.length<140737488355328):PEv Tryz.prog 73 [.c (.str s)] (.c (.str (a0g s.length++s))):=by
 refine a0e mixed b5A Tryz.func73 d5a d5b (by kernel_rfl) (by simp) (by simp) ?_
 have h9:∀(k n:Nat),(a0E k n).length<=k+1:=by
  intro k
  induction k with
  |zero=>intro n;simp [a0E]
  |succ k ih=>
   intro n
   rw [a0E]
   split
   ·simp
   ·have:=ih (n/128);simp;omega
 have:=h9 9 s.length
 simp [s73,show s.length<9223372036854775808 by omega]
 unfold a0g
 omega
open Go Go.Proofs Go.Shelf
def lays105_ren:Go.Shelf.Ren:=⟨fun|105=>61|212=>55|99=>59|165=>79|166=>80|170=>86|169=>81|263=>77|264=>78|206=>84|240=>95|241=>96|276=>103|277=>104|n=>n,fun|9=>9|3=>3|4=>4|20=>20|0=>0|46=>98|109=>99|5=>5|72=>129|76=>133|51=>119|146=>122|53=>124|148=>125|70=>127|37=>113|75=>132|127=>142|164=>153|80=>62|n=>n,fun  |n=>n⟩
theorem lays105:Lays.n105 Tryz.prog lays105_ren where
 mixed:=by kernel_rfl
 f99:=Tryz.func59.trans (congrArg some (by kernel_rfl))
 f105:=Tryz.func61.trans (congrArg some (by kernel_rfl))
 f165:=Tryz.func79.trans (congrArg some (by kernel_rfl))
 f166:=Tryz.func80.trans (congrArg some (by kernel_rfl))
 f169:=Tryz.func81.trans (congrArg some (by kernel_rfl))
 f170:=Tryz.func86.trans (congrArg some (by kernel_rfl))
 f206:=Tryz.func84.trans (congrArg some (by kernel_rfl))
 f212:=Tryz.func55.trans (congrArg some (by kernel_rfl))
 f240:=Tryz.func95.trans (congrArg some (by kernel_rfl))
 f241:=Tryz.func96.trans (congrArg some (by kernel_rfl))
 f263:=Tryz.func77.trans (congrArg some (by kernel_rfl))
 f264:=Tryz.func78.trans (congrArg some (by kernel_rfl))
 f276:=Tryz.func103.trans (congrArg some (by kernel_rfl))
 f277:=Tryz.func104.trans (congrArg some (by kernel_rfl))
 t0:=Tryz.underlying0
 a0:=Tryz.isAgg0
 z0:=Tryz.sizeOf0
 v0:=Tryz.zeroValue0
 t3:=Tryz.underlying3
 a3:=Tryz.isAgg3
 z3:=Tryz.sizeOf3
 v3:=Tryz.zeroValue3
 t4:=Tryz.underlying4
 a4:=Tryz.isAgg4
 z4:=Tryz.sizeOf4
 v4:=Tryz.zeroValue4
 t5:=Tryz.underlying5
 a5:=Tryz.isAgg5
 z5:=Tryz.sizeOf5
 v5:=Tryz.zeroValue5
 t9:=Tryz.underlying9
 a9:=Tryz.isAgg9
 z9:=Tryz.sizeOf9
 v9:=Tryz.zeroValue9
 t20:=Tryz.underlying20
 a20:=Tryz.isAgg20
 z20:=Tryz.sizeOf20
 v20:=Tryz.zeroValue20
 t37:=Tryz.underlying113
 a37:=Tryz.isAgg113
 z37:=Tryz.sizeOf113
 v37:=Tryz.zeroValue113
 t46:=Tryz.underlying98
 a46:=Tryz.isAgg98
 z46:=Tryz.sizeOf98
 v46:=Tryz.zeroValue98
 t51:=Tryz.underlying119
 a51:=Tryz.isAgg119
 z51:=Tryz.sizeOf119
 v51:=Tryz.zeroValue119
 t53:=Tryz.underlying124
 a53:=Tryz.isAgg124
 z53:=Tryz.sizeOf124
 v53:=Tryz.zeroValue124
 t70:=Tryz.underlying127
 a70:=Tryz.isAgg127
 z70:=Tryz.sizeOf127
 v70:=Tryz.zeroValue127
 t72:=Tryz.underlying129
 a72:=Tryz.isAgg129
 z72:=Tryz.sizeOf129
 v72:=Tryz.zeroValue129
 t75:=Tryz.underlying132
 a75:=Tryz.isAgg132
 z75:=Tryz.sizeOf132
 v75:=Tryz.zeroValue132
 t76:=Tryz.underlying133
 a76:=Tryz.isAgg133
 z76:=Tryz.sizeOf133
 v76:=Tryz.zeroValue133
 t109:=Tryz.underlying99
 a109:=Tryz.isAgg99
 z109:=Tryz.sizeOf99
 v109:=Tryz.zeroValue99
 t127:=Tryz.underlying142
 a127:=Tryz.isAgg142
 z127:=Tryz.sizeOf142
 v127:=Tryz.zeroValue142
 t146:=Tryz.underlying122
 a146:=Tryz.isAgg122
 z146:=Tryz.sizeOf122
 v146:=Tryz.zeroValue122
 t148:=Tryz.underlying125
 a148:=Tryz.isAgg125
 z148:=Tryz.sizeOf125
 v148:=Tryz.zeroValue125
 t164:=Tryz.underlying153
 a164:=Tryz.isAgg153
 z164:=Tryz.sizeOf153
 v164:=Tryz.zeroValue153
theorem a8J:Builder.Extra Tryz.prog lays105_ren where
 sizeBuilder:=by kernel_rfl
 liesBuilder:=by kernel_rfl
 t5:=Tryz.underlying5
 a5:=Tryz.isAgg5
 z5:=Tryz.sizeOf5
 v5:=Tryz.zeroValue5
 infoByte:=by kernel_rfl
 cellsByte:=by kernel_rfl
 sizeByte:=by kernel_rfl
 neB5:=by decide
open Go Go.Proofs Go.RowKit
def a1D (l:List Int):List UInt8:=l.flatMap fun n=>a0g n.toNat
theorem a8K {f:FuncId} {args:List AV} {b:List UInt8} (hp:PEv Tryz.prog f args (.c (.str b))) {w:World} (hI:Inv Tryz.prog w) {vs:Array Value} (hs:vs.size=args.length)
  (hr:∀(k:Nat) x,args[k]?=some x->a2f w (Fr (Ctx.of w hI fun _ _=>True) a0j a0t) a0j a0t x (vs.getD k undef)) :
  Calls Tryz.prog f vs w fun e w'=>e=.returned (.string ⟨b.toArray⟩)/\RowKit.Below w.heap.size w w':=by
 refine (hp.2 w hI (fun _ _=>True) vs hs hr (fun k=>(0,k)) (fun i j h=>by simpa using h)).mono ?_
 rintro e w' ⟨v,rfl,ρ,hH,hR⟩
 have hv:=a06 (a0m hR)
 subst hv
 exact ⟨rfl,hH.below⟩
theorem b1h (n:Int) (h0:0<=n) (h1:n<9223372036854775808) {w:World} (hI:Inv Tryz.prog w) :
  Calls Tryz.prog 50 #[.int .i64 n] w fun e w'=>e=.returned (.string ⟨(a0g n.toNat).toArray⟩)/\RowKit.Below w.heap.size w w':=by
 have:=a4H n.toNat (by omega)
 rw [Int.toNat_of_nonneg h0] at this
 refine a8K this hI rfl fun k y hk=>by
  match k,hk with
  |0,hk=>
   simp at hk
   subst hk
   exact .c _ _ (.raw _)
theorem a1l (n:Nat):(a0g n).length<=10:=by
 have h9:∀(k n:Nat),(a0E k n).length<=k+1:=by
  intro k
  induction k with
  |zero=>intro n;simp [a0E]
  |succ k ih=>
   intro n
   rw [a0E]
   split
   ·simp
   ·have:=ih (n/128);simp;omega
 exact h9 9 n
theorem a2s (l:List Int):(a1D l).length<=10*l.length:=by
 induction l with
 |nil=>simp [a1D]
 |cons x l ih=>
  have:=a1l x.toNat
  simp [a1D] at ih ⊢
  omega
theorem a7N {T e:TypeId} {B b:Nat} {p:Value} {bs:List Value} {W W':World} (h:Lib.BuilderAtF T e B b p bs W) (hb:Below W.heap.size W W'):Lib.BuilderAtF T e B b p bs W':=by
 have hlt:b<W.heap.size:=by
  obtain ⟨_,v,hv,_⟩:=h
  exact (Array.getElem?_eq_some_iff.1 hv).1
 obtain ⟨h1,v,hv,hown,hne⟩:=h
 refine ⟨h1,v,by rw [hb.block b hlt];exact hv,?_,hne⟩
 refine hown.kept (row:=none) ⟨hb.os,hb.tape,hb.output,hb.size,fun k hk _=>hb.block k hk⟩ (Classical.em _)
theorem b1i {T e:TypeId} {B b:Nat} {bs:List Value} {W W':World} (h:Lib.IsBuilderF T e B b bs W) (hb:Below W.heap.size W W'):Lib.IsBuilderF T e B b bs W':=
 h.elim (fun x=>.inl (a7N x hb)) (fun x=>.inr (a7N x hb))
theorem a3Y (l:List Int) (hl:l.length<1000000) (h0:∀n∈l,0<=n/\n<9223372036854775808) (w:World) (hI:Inv Tryz.prog w) (v:Value) (a:Option Addr) (c:Nat) (hv:v=.slice a l.length c)
  (ha:∀(i:Nat) (hi:i<l.length),∃b o:Nat,a=some ⟨b,o,none⟩/\b<w.heap.size/\w.cell? ⟨b,o+i,none⟩=some (.int .i64 l[i])) :
  Calls Tryz.prog 71 #[v] w fun e w'=>e=.returned (.string ⟨(a1D l).toArray⟩)/\RowKit.Below w.heap.size w w':=by
 subst hv
 go_enter Tryz.func71,Tryz.ntmps71
 go_wp2
 go_loopw [8] (fun i wr=>∃k:Nat,k<=l.length/\i=.int .i64 k/\Lib.IsBuilderF 129 5 w.heap.size w.heap.size (Lib.byteCells (a1D (l.take k))) wr/\Below w.heap.size w wr) (fun i _=>l.length-(Go.RowKit.intOf i).toNat)
 case atStart=>
  exact ⟨0,Nat.zero_le _,rfl,Lib.IsBuilderF.of (Lib.fresh_isBuilder 129 5 w),(Below.refl _ w).alloc (Nat.le_refl _) _⟩
 case round=>
  obtain ⟨k,hk,rfl,hB,hbw⟩:=hrel
  by_cases hlt:k<l.length
  ·obtain ⟨b,o,rfl,hb,hc⟩:=ha k hlt
   have hc':wr.cell? ⟨b,o+k,none⟩=some (.int .i64 l[k]):=by
    rw [hbw.cell (p:=⟨b,o+k,none⟩) hb];exact hc
   have hm:l[k]∈l:=List.getElem_mem hlt
   obtain ⟨hn0,hn1⟩:=h0 _ hm
   go_wp2_with (go_at_call 50;refine (b1h l[k] hn0 hn1 (hI.keep hbw)).mono ?_)
   rintro e W1 ⟨rfl,b1⟩
   have hlen:=a2s (l.take k)
   rw [List.length_take] at hlen
   have d7d:=a1l l[k].toNat
   have hsz:wr.heap.size<=W1.heap.size:=b1.size
   have hsz0:w.heap.size<=wr.heap.size:=hbw.size
   go_wp2_with (go_at_call 80;refine (Any.Builder_WriteString_f {lays105 with} a8J w.heap.size w.heap.size _ ⟨(a0g l[k].toNat).toArray⟩ W1 (b1i hB b1) (by rw [Lib.byteCells_length];show _+(a0g l[k].toNat).length<=_;omega) (by omega)).mono ?_)
   rintro e W2 ⟨rfl,h2,b2⟩
   go_wp2
   go_roundw
   case rel=>
    refine ⟨_,_,_,_,_,_,_,_,_,?_,rfl⟩
    refine ⟨k+1,by omega,by go_num,?_,(hbw.trans (b1.mono hsz0)).trans b2⟩
    have:a1D (l.take (k+1))=a1D (l.take k)++a0g l[k].toNat:=by
     rw [<-List.take_append_getElem hlt,a1D,List.flatMap_append]
     simp [a1D]
    rw [this,Lib.byteCells_append]
    exact Or.inr h2
   case measure=>
    simp [Go.RowKit.intOf]
    omega
  ·have hke:k=l.length:=by omega
   subst hke
   rw [List.take_length] at hB
   have hsz0:w.heap.size<=wr.heap.size:=hbw.size
   go_wp2_with (go_at_call 81;refine (Any.Builder_String_any_f {lays105 with} a8J w.heap.size w.heap.size _ wr hB hsz0).mono ?_)
   rintro e W1 ⟨rfl,_,b1⟩
   go_wp2
   go_ret
   exact ⟨rfl,hbw.trans b1⟩
theorem b3Q (l:List Int) (hl:l.length<1000000) (h0:∀n∈l,0<=n/\n<9223372036854775808):PEv Tryz.prog 71 [Arg.enc l] (.c (.str (a1D l))):=by
 refine b08 (by kernel_rfl) (by simp) fun w hI F vs hs hr=>?_
 have h1:=a0m (hr 0 _ rfl)
 generalize hv:vs.getD 0 undef=v at h1
 rw [vs1 hs hv]
 generalize hx:a0a l=xs at h1
 cases h1 with
 |a0H _ _ _ hn=>
  cases l with
  |cons=>cases hx
  |nil=>
   rcases hn with rfl|⟨a,rfl⟩
   ·exact a3Y [] hl h0 w hI _ none 0 rfl (fun i hi=>by simp at hi)
   ·exact a3Y [] hl h0 w hI _ (some a) 0 rfl (fun i hi=>by simp at hi)
 |sl _ _ _ b o cap sz us hb hF hcap hcl hrow hcell hone hrel=>
  subst hx
  have hlen:(a0a l).length=l.length:=by simp [a0a]
  refine a3Y l hl h0 w hI _ (some ⟨b,o,none⟩) cap (by rw [hlen]) fun i hi=>⟨b,o,rfl,hb,?_⟩
  have hri:(a0a l)[i]?=some [AC.raw (.int .i64 l[i])]:=by simp [a0a,hi]
  have hsz:1=sz:=hrow i _ hri
  subst hsz
  rw [hcell i (by rw [hlen];omega)]
  have:=a0p (hrel i 0 _ _ hri rfl)
  simp at this
  rw [this]
open Go Go.Proofs
structure W32 where
 n:Nat
instance d1N:Arg W32 where
 enc w:=.c (.raw (.int .u32 w.n))
 dec|.c (.raw (.int .u32 (.ofNat n)))=>some ⟨n⟩|_=>none
 a0X {x a} h:=by split at h<;>simp_all;subst h;rfl
@[simp] theorem d0c (w:W32):Arg.enc w=.c (.raw (.int .u32 w.n)):=rfl
@[simp] theorem d0d (n:Nat):(Arg.dec (.c (.raw (.int .u32 (n:Int)))):Option W32)=some ⟨n⟩:=rfl
theorem b8a {h i:Nat} {s:List UInt8} (hi:i<s.length):ofF h (s.drop i)=ofF ((h*263+s[i].toNat+7)%4294967291) (s.drop (i+1)):=by
 rw [List.drop_eq_getElem_cons hi,ofF]
theorem b84:∀(s:List UInt8) (h:Nat),h<4294967291->ofF h s<4294967291
 |[],h,hh=>hh
 |b::s,h,hh=>b84 s _ (Nat.mod_lt _ (by omega))
theorem b5B (s:List UInt8) (hs:s.length<4611686018427387904):PEv Tryz.prog 75 [.c (.str s)] (.c (.raw (.int .u32 (ofN s)))):=by
 refine a0e mixed (F:=[]) trivial Tryz.func75 d5e d5f (by kernel_rfl) (by simp) (by simp) ?_
 simp [s75]
 refine a1x (fun q st=>∃(i h:Nat),i<=s.length/\q=s.length-i/\h<4294967291/\st.s 0=.c (.str s)/\st.s 3=.c (.raw (.int .u64 h))/\st.s 6=.c (.raw (.int .i64 s.length))/\st.s 7=.c (.raw (.int .i64 i))/\ofF h (s.drop i)=ofN s) s.length
  ⟨0,1,by omega,rfl,by omega,by simp,by simp,by simp,by simp,rfl⟩ ?_
 rintro q st ⟨i,h,hi,rfl,hh,k0,k3,k6,k7,hT⟩
 by_cases hlt:i<s.length
 ·have hlt':(i:Int)<s.length:=by omega
  have hb:=s[i].toNat_lt
  rw [b8a hlt] at hT
  have c1:=b83 s i hlt
  obtain ⟨b,hb2,hb3⟩:∃b:Nat,s[i].toNat=b/\b<256:=⟨_,rfl,hb⟩
  rw [hb2] at c1 hT
  have c2:IntKind.wrap .u64 ((h:Int)*263)=(h:Int)*263:=by rw [a3y];omega
  have c3:IntKind.wrap .u64 (b:Int)=b:=by rw [a3y];omega
  have c4:IntKind.wrap .u64 ((h:Int)*263+b)=(h:Int)*263+b:=by rw [a3y];omega
  have c5:IntKind.wrap .u64 ((h:Int)*263+b+7)=(h:Int)*263+b+7:=by rw [a3y];omega
  obtain ⟨z,hz,hz2⟩:∃z:Nat,(h*263+b+7)%4294967291=z/\z<4294967291:=⟨_,rfl,Nat.mod_lt _ (by omega)⟩
  have c6:((h:Int)*263+b+7).tmod 4294967291=z:=by rw [Int.tmod_eq_emod_of_nonneg (by omega)];omega
  have e2:IntKind.wrap .i64 ((i:Int)+1)=(i:Int)+1:=by rw [a0f]<;>omega
  rw [hz] at hT
  simp [c0B,k0,k3,k6,k7,hlt,c1,c2,c3,c4,c5,c6,e2]
  exact ⟨s.length-(i+1),by omega,i+1,by omega,rfl,z,hz2,rfl,rfl,hT⟩
 ·have:i=s.length:=by omega
  subst this
  have hr:h=ofN s:=by rw [<-hT];simp [ofF]
  have c7:IntKind.wrap .u32 (h:Int)=h:=by rw [b3O];omega
  rw [hr] at c7 k3
  simp [c0B,k0,k3,k6,k7,c7]
theorem b8b (h:Nat) (hh:h<4294967296):PEv Tryz.prog 74 [.c (.raw (.int .u32 h))] (.c (.str (a08 h))):=by
 refine a0e mixed (F:=[]) trivial Tryz.func74 d5c d5d (by kernel_rfl) (by simp) (by simp) ?_
 have c:∀k:Nat,(h:Int).fdiv (2^k)=((h/2^k:Nat):Int):=fun k=>by
  rw [Int.fdiv_eq_ediv_of_nonneg _ (by exact Int.pow_nonneg (by omega))]
  push_cast
  rfl
 have w8:∀n:Nat,IntKind.wrap .u8 (n:Int)=((n%256:Nat):Int):=fun n=>by rw [b5w (by omega)];omega
 have u8:∀n:Nat,UInt8.ofNat (n%256)=UInt8.ofNat n:=fun n=>by
  apply UInt8.toNat_inj.1
  simp
 have b:IntKind.bits .u32=32:=rfl
 have c1:=c 24
 have c2:=c 16
 have c3:=c 8
 simp only [show (2:Nat)^24=16777216 from rfl,show (2:Nat)^16=65536 from rfl,show (2:Nat)^8=256 from rfl,show (2:Int)^24=16777216 from rfl,show (2:Int)^16=65536 from rfl,show (2:Int)^8=256 from rfl] at c1 c2 c3
 obtain ⟨x1,h1⟩:∃x,h/16777216=x:=⟨_,rfl⟩
 obtain ⟨x2,h2⟩:∃x,h/65536=x:=⟨_,rfl⟩
 obtain ⟨x3,h3⟩:∃x,h/256=x:=⟨_,rfl⟩
 rw [h1] at c1
 rw [h2] at c2
 rw [h3] at c3
 have v0:=w8 h
 have v1:=w8 x1
 have v2:=w8 x2
 have v3:=w8 x3
 obtain ⟨y0,g0⟩:∃x,h%256=x:=⟨_,rfl⟩
 obtain ⟨y1,g1⟩:∃x,x1%256=x:=⟨_,rfl⟩
 obtain ⟨y2,g2⟩:∃x,x2%256=x:=⟨_,rfl⟩
 obtain ⟨y3,g3⟩:∃x,x3%256=x:=⟨_,rfl⟩
 rw [g0] at v0
 rw [g1] at v1
 rw [g2] at v2
 rw [g3] at v3
 simp [s74,b,c1,c2,c3,v0,v1,v2,v3]
 rw [a08,h1,h2,h3,<-u8 x1,<-u8 x2,<-u8 x3,<-u8 h,g0,g1,g2,g3]
def b8c:List AV->Option (Prop×AV):=t1 (fun s=>s.length<4611686018427387904) fun s:List UInt8=>a1q s
def c0F:List AV->Option (Prop×AV):=t1 (fun s=>s.length<140737488355328) fun s:List UInt8=>.c (.str (a0g s.length++s))
def b1j:List AV->Option (Prop×AV):=t1 (fun s=>s.length<4611686018427387904) fun s:List UInt8=>.c (.raw (.int .u32 (ofN s)))
@[simp] theorem c6v {l:List AV}:b1j l=(t1 (fun s=>s.length<4611686018427387904) fun s:List UInt8=>.c (.raw (.int .u32 (ofN s)))) l:=(rfl)
def b1k:List AV->Option (Prop×AV):=t1 (fun w=>w.n<4294967296) fun w:W32=>.c (.str (a08 w.n))
@[simp] theorem c6w {l:List AV}:b1k l=(t1 (fun w=>w.n<4294967296) fun w:W32=>.c (.str (a08 w.n))) l:=(rfl)
def FS0:CT:=(111,.pu b8c)::(73,.pu c0F)::(75,.pu b1j)::(74,.pu b1k)::FN1
theorem b5C:a07 Tryz.prog FS0:=⟨a0o fun s h=>a4u s h,
 a0o fun s h=>a7M s h,
 a0o fun s h=>b5B s h,
 a0o fun w h=>b8b w.n h,b5A⟩
@[simp] theorem c3t:a0c FS0 75=some (.pu b1j):=(rfl)
@[simp] theorem c3u:a0c FS0 74=some (.pu b1k):=(rfl)
@[simp] theorem c6x {n:Nat} (h:(n==111||n==73||n==75||n==74)=false):a0c FS0 n=a0c FN1 n:=by
 simp only [Bool.or_eq_false_iff,beq_eq_false_iff_ne,ne_eq] at h
 simp [FS0,a0c,h]
theorem a94 (s:List UInt8):ofN s<4294967296:=Nat.lt_trans (b84 s 1 (by omega)) (by omega)
theorem b3R (n:Nat):(a0g n).length<=10:=by
 have h9:∀(k n:Nat),(a0E k n).length<=k+1:=by
  intro k
  induction k with
  |zero=>intro n;simp [a0E]
  |succ k ih=>
   intro n
   rw [a0E]
   split
   ·simp
   ·have:=ih (n/128);simp;omega
 exact h9 9 n
theorem a7O (s:List UInt8) (hs:s.length<4611686018427387904):PEv Tryz.prog 53 [.c (.str s)] (.c (.str (a02 s))):=by
 refine a0e mixed b5C Tryz.func53 d4H d4I (by kernel_rfl) (by simp) (by simp) ?_
 have hb:=b3R s.length
 by_cases h7:700<s.length
 ·have h7':(700:Int)<s.length:=by omega
  simp [s53,h7',a02,h7]
 ·have h7':¬(700:Int)<s.length:=by omega
  have l1:(a08 (ofN (a0g s.length++s))).length=4:=rfl
  simp [s53,h7',a02,h7,a94,l1,show s.length<9223372036854775808 by omega]
  omega
def a2a (s:List UInt8):AV:=match a3H s with
 |some (t,r)=>.t [(false,[.str t]),(false,[.str r]),(false,[.raw (.bool true)])]
 |none=>.t [(false,[.str []]),(false,[.str []]),(false,[.raw (.bool false)])]
theorem a6S (s:List UInt8) (hs:s.length<4611686018427387904):PEv Tryz.prog 57 [.c (.str s)] (a2a s):=by
 refine a0e mixed b5C Tryz.func57 d4J d4K (by kernel_rfl) (by unfold a2a;split<;>simp) (by simp) ?_
 cases hn:takeN s with
 |none=>
  simp [s57,hs,a2O hn.symm]
  simp [a2a,a3H,hn]
 |some q=>
  obtain ⟨n,r⟩:=q
  obtain ⟨h1,h2⟩:=a2r hn
  by_cases h7:700<n
  ·have h7':(700:Int)<n:=by omega
   simp [s57,hs,a1y hn.symm,h7']
   simp [a2a,a3H,hn,h7]
  ·have h7':¬(700:Int)<n:=by omega
   have e1:IntKind.wrap .i64 ((r.length:Int)-4)=(r.length:Int)-4:=by rw [a0f]<;>omega
   by_cases h8:r.length<n+4
   ·have h8':(r.length:Int)-4<n:=by omega
    simp [s57,hs,a1y hn.symm,h7',e1,h8']
    simp [a2a,a3H,hn,h7,h8]
   ·have h8':¬(r.length:Int)-4<n:=by omega
    have e2:IntKind.wrap .i64 ((s.length:Int)-r.length)=((s.length-r.length:Nat):Int):=by rw [a0f]<;>omega
    have e3:IntKind.wrap .i64 (4+(n:Int))=((4+n:Nat):Int):=by rw [a0f]<;>omega
    obtain ⟨a,ha⟩:∃a,s.length-r.length=a:=⟨_,rfl⟩
    obtain ⟨b,hb⟩:∃b,4+n=b:=⟨_,rfl⟩
    rw [ha] at e2
    rw [hb] at e3
    have e4:a<=s.length:=by omega
    have e5:b<=r.length:=by omega
    have e6:4<=b:=by omega
    have e7:4<=r.length:=by omega
    by_cases hc:r.take 4=a08 (ofN (s.take a++(r.take b).drop 4))
    ·simp [s57,hs,a1y hn.symm,h7',e1,h8',e2,e3,e4,e5,e6,e7,a94,hc]
     refine ⟨by omega,by omega,by omega,by omega,?_⟩
     simp [a2a,a3H,hn,h7,h8,ha,hb,hc]
    ·simp [s57,hs,a1y hn.symm,h7',e1,h8',e2,e3,e4,e5,e6,e7,a94,hc]
     refine ⟨by omega,by omega,by omega,by omega,?_⟩
     simp [a2a,a3H,hn,h7,h8,ha,hb,hc]
def c0G:List AV->Option (Prop×AV):=t1 (fun s=>s.length<4611686018427387904) fun s:List UInt8=>.c (.str (a02 s))
def c0H:List AV->Option (Prop×AV):=t1 (fun s=>s.length<4611686018427387904) fun s:List UInt8=>a2a s
def FS1:CT:=(53,.pu c0G)::(57,.pu c0H)::FS0
theorem c3v:a07 Tryz.prog FS1:=⟨a0o fun s h=>a7O s h,
 a0o fun s h=>a6S s h,b5C⟩
@[simp] theorem c6y {n:Nat} (h:(n==53||n==57)=false):a0c FS1 n=a0c FS0 n:=by
 simp only [Bool.or_eq_false_iff,beq_eq_false_iff_ne,ne_eq] at h
 simp [FS1,a0c,h]
open Go Go.Proofs Go.Shelf
def b3S:Go.Shelf.Ren:=⟨fun|15=>108|17=>99|20=>112|n=>n,fun|0=>0|3=>3|4=>4|9=>9|21=>21|23=>112|n=>n,fun n=>n⟩
theorem lays17:LaysGw.n17 Tryz.prog b3S where
 mixed:=by kernel_rfl
 f15:=Tryz.func108.trans (congrArg some (by kernel_rfl))
 f17:=Tryz.func99.trans (congrArg some (by kernel_rfl))
 f20:=Tryz.func112.trans (congrArg some (by kernel_rfl))
 t0:=Tryz.underlying0
 a0:=Tryz.isAgg0
 z0:=Tryz.sizeOf0
 v0:=Tryz.zeroValue0
 i0:=by kernel_rfl
 t3:=Tryz.underlying3
 a3:=Tryz.isAgg3
 z3:=Tryz.sizeOf3
 v3:=Tryz.zeroValue3
 i3:=by kernel_rfl
 t4:=Tryz.underlying4
 a4:=Tryz.isAgg4
 z4:=Tryz.sizeOf4
 v4:=Tryz.zeroValue4
 i4:=by kernel_rfl
 t9:=Tryz.underlying9
 a9:=Tryz.isAgg9
 z9:=Tryz.sizeOf9
 v9:=Tryz.zeroValue9
 i9:=by kernel_rfl
 t21:=Tryz.underlying21
 a21:=Tryz.isAgg21
 z21:=Tryz.sizeOf21
 v21:=Tryz.zeroValue21
 i21:=by kernel_rfl
 t23:=Tryz.underlying112
 a23:=Tryz.isAgg112
 z23:=Tryz.sizeOf112
 v23:=Tryz.zeroValue112
 i23:=by kernel_rfl
open Go Go.Proofs Go.Shelf
def lays195_ren:Go.Shelf.Ren:=⟨fun|195=>101|n=>n,fun|9=>9|3=>3|0=>0|4=>4|n=>n,fun  |n=>n⟩
theorem lays195:Lays.n195 Tryz.prog lays195_ren where
 mixed:=by kernel_rfl
 f195:=Tryz.func101.trans (congrArg some (by kernel_rfl))
 t0:=Tryz.underlying0
 a0:=Tryz.isAgg0
 z0:=Tryz.sizeOf0
 v0:=Tryz.zeroValue0
 t3:=Tryz.underlying3
 a3:=Tryz.isAgg3
 z3:=Tryz.sizeOf3
 v3:=Tryz.zeroValue3
 t4:=Tryz.underlying4
 a4:=Tryz.isAgg4
 z4:=Tryz.sizeOf4
 v4:=Tryz.zeroValue4
 t9:=Tryz.underlying9
 a9:=Tryz.isAgg9
 z9:=Tryz.sizeOf9
 v9:=Tryz.zeroValue9
open Go Go.Proofs
def a1m (r:Int):Bool:=r==10||(decide (32<=r)&&decide (r<=1114111)&&r != 127&&r != 65533&&(decide (r<=55295)||decide (57344<=r)))
instance d6W:Arg (Int×Unit) where
 enc r:=.c (.raw (.int .i32 r.1))
 dec|.c (.raw (.int .i32 n))=>some (n,())|_=>none
 a0X {x a} h:=by split at h<;>simp_all;subst h;rfl
@[simp] theorem d5E (n:Int):(Arg.dec (.c (.raw (.int .i32 n))):Option (Int×Unit))=some (n,()):=rfl
@[simp] theorem d5F (r:Int×Unit):Arg.enc r=.c (.raw (.int .i32 r.1)):=rfl
theorem b5D (r:Int):PEv Tryz.prog 109 [.c (.raw (.int .i32 r))] (.c (.raw (.bool (a1m r)))):=by
 refine a0e mixed (F:=[]) trivial Tryz.func109 c9X c9Y (by kernel_rfl) (by simp) (by simp) ?_
 by_cases h0:r=10
 ·simp [b64,h0,a1m]
 ·by_cases h1:r<32
  ·simp [b64,h0,h1,a1m,show ¬32<=r by omega]
  ·by_cases h2:1114111<r
   ·simp [b64,h0,h1,h2,a1m,show ¬r<=1114111 by omega]
   ·by_cases h3:r=127
    ·subst h3;simp [b64,a1m]
    ·by_cases h4:r=65533
     ·subst h4;simp [b64,a1m]
     ·by_cases h5:r<=55295
      ·simp [b64,h0,h1,h2,h3,h4,h5,a1m]
       omega
      ·by_cases h6:57344<=r
       ·simp [b64,h0,h1,h2,h3,h4,h5,h6,a1m]
        omega
       ·simp [b64,h0,h1,h2,h3,h4,h5,h6,a1m]
def a8L:List AV->Option (Prop×AV):=t1 (fun _=>True) fun r:Int×Unit=>.c (.raw (.bool (a1m r.1)))
@[simp] theorem c3w {l:List AV}:a8L l=(t1 (fun _=>True) fun r:Int×Unit=>.c (.raw (.bool (a1m r.1)))) l:=(rfl)
def FO0:CT:=(109,.pu a8L)::FS1
theorem b5E:a07 Tryz.prog FO0:=⟨a0o fun r _=>b5D r.1,c3v⟩
@[simp] theorem c1S:a0c FO0 109=some (.pu a8L):=(rfl)
@[simp] theorem c6z {n:Nat} (h:(n==109)=false):a0c FO0 n=a0c FS1 n:=by
 simp only [Bool.or_eq_false_iff,beq_eq_false_iff_ne,ne_eq] at h
 simp [FO0,a0c,h]
theorem b3T (r:Int):PEv Tryz.prog 100 [.c (.raw (.int .i32 r))] (.c (.raw (.bool (!a1m r)))):=by
 refine a0e mixed b5E Tryz.func100 c9L c9M (by kernel_rfl) (by simp) (by simp) ?_
 simp [c9K]
def a5c (s:List UInt8):Bool:=!decide (0<=Lib.idxFunc (fun r=>!a1m (r:Int)) true ⟨s.toArray⟩)
theorem a7n {f:FuncId} {args:List AV} {b:Bool} (hp:PEv Tryz.prog f args (.c (.raw (.bool b)))) {w:World} (hI:Inv Tryz.prog w) {vs:Array Value} (hs:vs.size=args.length)
  (hr:∀(k:Nat) x,args[k]?=some x->a2f w (Fr (Ctx.of w hI fun _ _=>True) a0j a0t) a0j a0t x (vs.getD k undef)) :
  Calls Tryz.prog f vs w fun e w'=>e=.returned (.bool b)/\RowKit.Below w.heap.size w w':=by
 refine (hp.2 w hI (fun _ _=>True) vs hs hr (fun k=>(0,k)) (fun i j h=>by simpa using h)).mono ?_
 rintro e w' ⟨v,rfl,ρ,hH,hR⟩
 have hv:=a0p (a0m hR)
 subst hv
 exact ⟨rfl,hH.below⟩
theorem a7o (s:List UInt8):PEv Tryz.prog 99 [.c (.str s),.c (.fn 100 [])] (.c (.raw (.bool (decide (0<=Lib.idxFunc (fun r=>!a1m (r:Int)) true ⟨s.toArray⟩))))):=by
 refine b09 (by kernel_rfl) (by simp) fun w hI F vs hs hr=>?_
 have h0:=a06 (a0m (hr 0 _ rfl))
 have h1:vs.getD 1 undef=.func (.func 100) #[] #[]:=by
  have:=a0m (hr 1 _ rfl)
  generalize vs.getD 1 undef=u at this
  cases this with
  |fn _ _ us hl _=>
   obtain rfl:us=#[]:=by
    cases us;simp at hl;subst hl;rfl
   rfl
 rw [vs2 hs h0 h1]
 refine Any.strings_ContainsFunc_grows lays17 100 #[] (fun args w=>a5K (by kernel_rfl) args w) (fun r=>!a1m (r:Int)) ⟨s.toArray⟩ w ?_
 intro W x _ hb
 exact a7n (b3T (x:Int)) (hI.keep hb) rfl fun k y hk=>by
  match k,hk with
  |0,hk=>
   simp at hk
   subst hk
   exact .c _ _ (.raw _)
theorem a7P (s:List UInt8):PEv Tryz.prog 92 [.c (.str s)] (.c (.raw (.bool (a5c s)))):=by
 refine a0e mixed b5E Tryz.func92 d5u d5v (by kernel_rfl) (by simp) (by simp) ?_
 simp [s92]
 refine a0Q (a7o s) (by simp) (by simp) (by simp) ?_
 simp [a5c]
def a1H (s:List UInt8):Nat:=Lib.runeCount ⟨s.toArray⟩
theorem a95 (s:List UInt8) (hs:s.length<9223372036854775807):PEv Tryz.prog 101 [.c (.str s)] (.c (.raw (.int .i64 (a1H s)))):=by
 refine b09 (by kernel_rfl) (by simp) fun w hI F vs hs' hr=>?_
 have h0:=a06 (a0m (hr 0 _ rfl))
 rw [vs1 hs' h0]
 refine (Any.utf8_RuneCountInString lays195 ⟨s.toArray⟩ w (by simpa [ByteArray.size] using hs)).mono ?_
 rintro e w' ⟨he,pos,rfl⟩
 exact ⟨he,(RowKit.Below.refl _ w).alloc (Nat.le_refl _) _⟩
def c0I:List AV->Option (Prop×AV):=t1 (fun _=>True) fun s:List UInt8=>.c (.raw (.bool (a5c s)))
def a8M:List AV->Option (Prop×AV):=t1 (fun s=>s.length<9223372036854775807) fun s:List UInt8=>.c (.raw (.int .i64 (a1H s)))
@[simp] theorem c3x {l:List AV}:a8M l=(t1 (fun s=>s.length<9223372036854775807) fun s:List UInt8=>.c (.raw (.int .i64 (a1H s)))) l:=(rfl)
def FO1:CT:=(92,.pu c0I)::(101,.pu a8M)::FO0
theorem c3y:a07 Tryz.prog FO1:=⟨a0o fun s _=>a7P s,
 a0o fun s h=>a95 s h,b5E⟩
@[simp] theorem c1T:a0c FO1 101=some (.pu a8M):=(rfl)
theorem b5F (n:Int):PEv Tryz.prog 89 [.c (.raw (.int .i64 n))] (.c (.raw (.bool (decide (1<=n/\n<=8))))):=by
 refine a0e mixed (F:=[]) trivial Tryz.func89 d5o d5p (by kernel_rfl) (by simp) (by simp) ?_
 by_cases h1:1<=n
 ·by_cases h2:n<=8
  ·simp [s89,h1,h2]
  ·simp [s89,h1,h2]
 ·simp [s89,h1]
theorem b5G (n:Int):PEv Tryz.prog 115 [.c (.raw (.int .i64 n))] (.c (.raw (.bool false))):=by
 refine a0e mixed (F:=[]) trivial Tryz.func115 d0a d0b (by kernel_rfl) (by simp) (by simp) ?_
 simp [c99]
def b65 (a b:Int):Int:=if a<b then -1 else if b<a then 1 else 0
def nameB (site seq:Int):Bool:=decide (1<=site/\site<=8)&&decide (1<=seq/\seq<=268435456)
def b1l:List AV->Option (Prop×AV):=t1 (fun _=>True) fun n:Int=>.c (.raw (.bool (decide (1<=n/\n<=8))))
@[simp] theorem c6A {l:List AV}:b1l l=(t1 (fun _=>True) fun n:Int=>.c (.raw (.bool (decide (1<=n/\n<=8))))) l:=(rfl)
def a8N:List AV->Option (Prop×AV):=t1 (fun _=>True) fun n:Int=>.c (.raw (.bool false))
@[simp] theorem c3z {l:List AV}:a8N l=(t1 (fun _=>True) fun n:Int=>.c (.raw (.bool false))) l:=(rfl)
def FO2:CT:=(89,.pu b1l)::(115,.pu a8N)::FO1
theorem b5H:a07 Tryz.prog FO2:=⟨a0o fun n _=>b5F n,
 a0o fun n _=>b5G n,c3y⟩
@[simp] theorem c3A:a0c FO2 89=some (.pu b1l):=(rfl)
@[simp] theorem c1U:a0c FO2 115=some (.pu a8N):=(rfl)
@[simp] theorem c6B {n:Nat} (h:(n==89||n==115)=false):a0c FO2 n=a0c FO1 n:=by
 simp only [Bool.or_eq_false_iff,beq_eq_false_iff_ne,ne_eq] at h
 simp [FO2,a0c,h]
theorem c3B (a b:Int):PEv Tryz.prog 114 [.c (.raw (.int .i64 a)),.c (.raw (.int .i64 b))] (.c (.raw (.int .i64 (b65 a b)))):=by
 refine a0e mixed b5H Tryz.func114 c97 c98 (by kernel_rfl) (by simp) (by simp) ?_
 by_cases h1:a<b
 ·simp [c3n,h1,b65]
 ·by_cases h2:b<a
  ·simp [c3n,h1,h2,b65]
  ·simp [c3n,h1,h2,b65]
theorem b5I (a b:Int):PEv Tryz.prog 68 [.c (.raw (.int .i64 a)),.c (.raw (.int .i64 b))] (.c (.raw (.bool (nameB a b)))):=by
 refine a0e mixed b5H Tryz.func68 d4S d4T (by kernel_rfl) (by simp) (by simp) ?_
 by_cases h1:1<=a/\a<=8
 ·by_cases h2:1<=b
  ·by_cases h3:b<=268435456
   ·simp [s68,h1,h2,h3,nameB]
   ·simp [s68,h1,h2,h3,nameB]
  ·simp [s68,h1,h2,nameB]
 ·simp [s68,h1,nameB]
open Go Go.Proofs
def a8O:List AV->Option (Prop×AV):=t2 (fun _ _=>True) fun a b:Int=>.c (.raw (.int .i64 (b65 a b)))
@[simp] theorem c3C {l:List AV}:a8O l=(t2 (fun _ _=>True) fun a b:Int=>.c (.raw (.int .i64 (b65 a b)))) l:=(rfl)
def b1m:List AV->Option (Prop×AV):=t2 (fun _ _=>True) fun a b:Int=>.c (.raw (.bool (nameB a b)))
@[simp] theorem c6C {l:List AV}:b1m l=(t2 (fun _ _=>True) fun a b:Int=>.c (.raw (.bool (nameB a b)))) l:=(rfl)
def FO3:CT:=(114,.pu a8O)::(68,.pu b1m)::FO2
theorem b85:a07 Tryz.prog FO3:=⟨a1s fun a b _=>c3B a b,
 a1s fun a b _=>b5I a b,b5H⟩
@[simp] theorem c1V:a0c FO3 114=some (.pu a8O):=(rfl)
@[simp] theorem c3D:a0c FO3 68=some (.pu b1m):=(rfl)
@[simp] theorem c6D {n:Nat} (h:(n==114||n==68)=false):a0c FO3 n=a0c FO2 n:=by
 simp only [Bool.or_eq_false_iff,beq_eq_false_iff_ne,ne_eq] at h
 simp [FO3,a0c,h]
def orI:List Int->Int
 |[]=>0
 |x::l=>if x=0 then orI l else x
theorem b8d (l:List Int) (hl:l.length<4611686018427387904):PEv Tryz.prog 113 [.c (.sl .brw false (a0a l))] (.c (.raw (.int .i64 (orI l)))):=by
 refine a0e mixed (F:=[]) trivial Tryz.func113 c95 c96 (by kernel_rfl) (by simp) (by simp) ?_
 simp [c94]
 refine a1x (fun n st=>∃i:Nat,i<=l.length/\n=l.length-i/\st.s 6=.c (.sl .brw false (a0a l))/\st.s 3=.c (.raw (.int .i64 0))/\st.s 2=.c (.raw (.int .i64 0))/\st.s 7=.c (.raw (.int .i64 l.length))/\st.s 8=.c (.raw (.int .i64 i))/\orI (l.drop i)=orI l) l.length ⟨0,by simp⟩ ?_
 rintro n st ⟨i,hi,rfl,h6,h3,h2,h7,h8,hp⟩
 by_cases hlt:i<l.length
 ·have hlt':(i:Int)<l.length:=by omega
  have hw:IntKind.wrap .i64 ((i:Int)+1)=((i+1:Nat):Int):=by rw [a0f]<;>omega
  have hd:l.drop i=l[i]::l.drop (i+1):=by rw [List.drop_eq_getElem_cons hlt]
  by_cases h0:l[i]=0
  ·simp [b2T,h6,h3,h2,h7,h8,hlt,hlt',hw,h0]
   refine ⟨_,?_,i+1,by omega,rfl,by simp,?_⟩
   ·omega
   ·rw [<-hp,hd,orI,if_pos h0]
  ·simp [b2T,h6,h3,h2,h7,h8,hlt,hlt',hw,h0]
   rw [<-hp,hd,orI,if_neg h0]
 ·have:i=l.length:=by omega
  subst this
  simp [b2T,h6,h3,h2,h7,h8]
  rw [<-hp]
  simp [orI]
def a1v (e:a0s):Bool:=decide (e=⟨0,0,0⟩)||(nameB e.site e.seq&&decide (0<=e.i)&&decide (e.i<12))
theorem b5J (e:a0s):PEv Tryz.prog 90 [Arg.enc e] (.c (.raw (.bool (a1v e)))):=by
 refine a0e mixed b85 Tryz.func90 d5q d5r (by kernel_rfl) (by simp) (by simp) ?_
 obtain ⟨a,b,c⟩:=e
 by_cases h0:a=0/\b=0/\c=0
 ·obtain ⟨rfl,rfl,rfl⟩:=h0
  simp [s90,a1v]
 ·have h0':(decide (a=0)&&(decide (b=0)&&decide (c=0)))=false:=by simpa using h0
  have d01:(decide ((⟨a,b,c⟩:a0s)=⟨0,0,0⟩))=false:=by simpa using h0
  cases h1:nameB a b
  ·simp [s90,h0',h1,a1v,d01]
  ·by_cases h2:0<=c
   ·simp [s90,h0',h1,h2,a1v,d01]
   ·simp [s90,h0',h1,h2,a1v,d01]
def ownB (o:OpV) (e:a0s):Bool:=decide (e.site=o.site)&&decide (e.seq=o.seq)
theorem c3E (o:OpV) (e:a0s):PEv Tryz.prog 91 [Arg.enc o,Arg.enc e] (.c (.raw (.bool (ownB o e)))):=by
 refine a0e mixed (F:=[]) trivial Tryz.func91 d5s d5t (by kernel_rfl) (by simp) (by simp [a0d]) ?_
 obtain ⟨o1,o2,o3,o4,o5,o6,o7,o8,o9⟩:=o
 obtain ⟨a,b,c⟩:=e
 by_cases h1:a=o1
 ·simp [s91,h1,ownB,a0d]
 ·simp [s91,h1,ownB,a0d]
def a4j (a b:a0s):Int:=orI [b65 a.site b.site,b65 a.seq b.seq,b65 a.i b.i]
def a8P:List AV->Option (Prop×AV):=t1 (fun l=>l.length<4611686018427387904) fun l:List Int=>.c (.raw (.int .i64 (orI l)))
@[simp] theorem c3F {l:List AV}:a8P l=(t1 (fun l=>l.length<4611686018427387904) fun l:List Int=>.c (.raw (.int .i64 (orI l)))) l:=(rfl)
def b1n:List AV->Option (Prop×AV):=t1 (fun _=>True) fun e:a0s=>.c (.raw (.bool (a1v e)))
@[simp] theorem c6E {l:List AV}:b1n l=(t1 (fun _=>True) fun e:a0s=>.c (.raw (.bool (a1v e)))) l:=(rfl)
def b1o:List AV->Option (Prop×AV):=t2 (fun _ _=>True) fun (o:OpV) (e:a0s)=>.c (.raw (.bool (ownB o e)))
@[simp] theorem c6F {l:List AV}:b1o l=(t2 (fun _ _=>True) fun (o:OpV) (e:a0s)=>.c (.raw (.bool (ownB o e)))) l:=(rfl)
def FO4:CT:=(113,.pu a8P)::(90,.pu b1n)::(91,.pu b1o)::FO3
theorem b86:a07 Tryz.prog FO4:=⟨a0o fun l h=>b8d l h,
 a0o fun e _=>b5J e,
 a1s fun o e _=>c3E o e,b85⟩
@[simp] theorem c1W:a0c FO4 113=some (.pu a8P):=(rfl)
@[simp] theorem c3G:a0c FO4 90=some (.pu b1n):=(rfl)
@[simp] theorem c3H:a0c FO4 91=some (.pu b1o):=(rfl)
@[simp] theorem c6G {n:Nat} (h:(n==113||n==90||n==91)=false):a0c FO4 n=a0c FO3 n:=by
 simp only [Bool.or_eq_false_iff,beq_eq_false_iff_ne,ne_eq] at h
 simp [FO4,a0c,h]
theorem b8e (a b c:Int):[[AC.raw (.int .i64 a)],[AC.raw (.int .i64 b)],[AC.raw (.int .i64 c)]]=a0a [a,b,c]:=rfl
theorem take3 (a b c:Int):List.take 3 (a0a [a,b,c])=a0a [a,b,c]:=rfl
theorem b3U (a b:a0s):PEv Tryz.prog 110 [Arg.enc a,Arg.enc b] (.c (.raw (.int .i64 (a4j a b)))):=by
 refine a0e mixed b86 Tryz.func110 c90 c91 (by kernel_rfl) (by simp) (by simp) ?_
 simp [c9Z,b8e,take3,a4j]
def a8Q:List AV->Option (Prop×AV):=t2 (fun _ _=>True) fun (a b:a0s)=>.c (.raw (.int .i64 (a4j a b)))
@[simp] theorem c3I {l:List AV}:a8Q l=(t2 (fun _ _=>True) fun (a b:a0s)=>.c (.raw (.int .i64 (a4j a b)))) l:=(rfl)
def FO5:CT:=(110,.pu a8Q)::FO4
theorem b5K:a07 Tryz.prog FO5:=⟨a1s fun a b _=>b3U a b,b86⟩
@[simp] theorem c1X:a0c FO5 110=some (.pu a8Q):=(rfl)
@[simp] theorem c6H {n:Nat} (h:(n==110)=false):a0c FO5 n=a0c FO4 n:=by
 simp only [Bool.or_eq_false_iff,beq_eq_false_iff_ne,ne_eq] at h
 simp [FO5,a0c,h]
def a5u (a b:a0s):Bool:=decide (a4j a b<0)
theorem c0J (a b:a0s):PEv Tryz.prog 102 [Arg.enc a,Arg.enc b] (.c (.raw (.bool (a5u a b)))):=by
 refine a0e mixed b5K Tryz.func102 c9O c9P (by kernel_rfl) (by simp) (by simp) ?_
 simp [c9N,a5u]
theorem c0K (o:OpV) (h:o.text.length<9223372036854775807):PEv Tryz.prog 93 [Arg.enc o] (.c (.raw (.int .i64 (a1H o.text)))):=by
 refine a0e mixed b5K Tryz.func93 d5w d5x (by kernel_rfl) (by simp) (by simp [a0d]) ?_
 simp [s93,a0d,h]
def a1J (o:OpV):Option a0s->List a0s->Bool
 |_,[]=>true
 |p,e::l=>if decide (e=⟨0,0,0⟩)||!a1v e||ownB o e||(match p with|none=>false|some q=>!a5u q e) then false else a1J o (some e) l
def a3e (o:OpV):Bool:=a1J o none o.gone&&decide (o.gone.length<=200)
def a8R:List AV->Option (Prop×AV):=t2 (fun _ _=>True) fun (a b:a0s)=>.c (.raw (.bool (a5u a b)))
@[simp] theorem c3J {l:List AV}:a8R l=(t2 (fun _ _=>True) fun (a b:a0s)=>.c (.raw (.bool (a5u a b)))) l:=(rfl)
def b1p:List AV->Option (Prop×AV):=t1 (fun o=>o.text.length<9223372036854775807) fun o:OpV=>.c (.raw (.int .i64 (a1H o.text)))
@[simp] theorem c6I {l:List AV}:b1p l=(t1 (fun o=>o.text.length<9223372036854775807) fun o:OpV=>.c (.raw (.int .i64 (a1H o.text)))) l:=(rfl)
def FO6:CT:=(102,.pu a8R)::(93,.pu b1p)::FO5
theorem b87:a07 Tryz.prog FO6:=⟨a1s fun a b _=>c0J a b,
 a0o fun o h=>c0K o h,b5K⟩
@[simp] theorem c1Y:a0c FO6 102=some (.pu a8R):=(rfl)
@[simp] theorem c3K:a0c FO6 93=some (.pu b1p):=(rfl)
@[simp] theorem c6J {n:Nat} (h:(n==102||n==93)=false):a0c FO6 n=a0c FO5 n:=by
 simp only [Bool.or_eq_false_iff,beq_eq_false_iff_ne,ne_eq] at h
 simp [FO6,a0c,h]
open Go Go.Proofs
def a2W (l:List a0s):Nat->Option a0s
 |0=>none
 |i+1=>l[i]?
theorem b8f (e:a0s):(decide (e.site=0)&&(decide (e.seq=0)&&decide (e.i=0)))=decide (e=⟨0,0,0⟩):=by
 obtain ⟨a,b,c⟩:=e
 by_cases h1:a=0<;>by_cases h2:b=0<;>by_cases h3:c=0<;>simp [h1,h2,h3]
theorem a7Q (o:OpV) {i:Nat} (hi:i<o.gone.length):a1J o (a2W o.gone i) (o.gone.drop i) =
  if decide (o.gone[i]=⟨0,0,0⟩)||!a1v o.gone[i]||ownB o o.gone[i]||(match a2W o.gone i with|none=>false|some q=>!a5u q o.gone[i]) then false else a1J o (a2W o.gone (i+1)) (o.gone.drop (i+1)):=by
 rw [List.drop_eq_getElem_cons hi]
 have e:a2W o.gone (i+1)=some o.gone[i]:=by simp [a2W,hi]
 rw [e]
 cases a2W o.gone i<;>rfl
theorem c0L (o:OpV) (hl:o.gone.length<4611686018427387904):PEv Tryz.prog 94 [Arg.enc o] (.c (.raw (.bool (a3e o)))):=by
 refine a0e mixed b87 Tryz.func94 d5y d5z (by kernel_rfl) (by simp) (by simp [a0d]) ?_
 simp [s94,a0d]
 refine a1x (fun n st=>∃i:Nat,i<=o.gone.length/\n=o.gone.length-i/\st.s 1=.c (.pt (0,1) 0 0)/\st.s 6=.c (.sl .brw false (a0a o.gone))/\st.s 7=.c (.raw (.int .i64 o.gone.length))/\st.s 8=.c (.raw (.int .i64 i))/\st.H (0,1)=.arr 46 11 false [a0d .brw o]/\0<st.T/\a0v st.H st.T/\a1J o (a2W o.gone i) (o.gone.drop i)=a1J o none o.gone) o.gone.length ⟨0,by simp [a2W,a0d];exact a0v.set' (a1r.mono (Nat.zero_le _)) (by simp)⟩ ?_
 rintro n st ⟨i,hi,rfl,h1,h6,h7,h8,hH,hT,hf,hp⟩
 have hfu:∀k d,st.T<=k->st.H (k,d)=.a0b:=hf
 by_cases hlt:i<o.gone.length
 ·have hlt':(i:Int)<o.gone.length:=by omega
  have hw:IntKind.wrap .i64 ((i:Int)+1)=((i+1:Nat):Int):=by rw [a0f]<;>omega
  rw [a7Q o hlt] at hp
  have hz:=b8f o.gone[i]
  cases z:decide (o.gone[i]=⟨0,0,0⟩)
  ·rw [z] at hz hp
   cases he:a1v o.gone[i]
   ·have hg:a3e o=false:=by simp [a3e,<-hp,he]
    simp [a92,h1,h6,h7,h8,hH,a0d,hlt,hlt',hw,hfu,hz,he,hg]
   ·cases hw':ownB o o.gone[i]
    ·by_cases h0:i=0
     ·subst h0
      have hp':a1J o (a2W o.gone 1) (o.gone.drop 1)=a1J o none o.gone:=by rw [<-hp];simp [he,hw',a2W]
      simp [a92,h1,h6,h7,h8,hH,a0d,hlt,hlt',hw,hfu,hz,he,hw']
      refine ⟨_,?_,1,by omega,rfl,rfl,?_,hp'⟩
      ·omega
      ·repeat' (first|exact hf.mono (by first|omega|(simp<;>omega))|(refine a0v.set' ?_ (by first|omega|(simp<;>omega))))
     ·obtain ⟨j,hj⟩:∃j,j+1=i:=⟨i-1,by omega⟩
      have hjl:j<o.gone.length:=by omega
      have hpe:a2W o.gone i=some o.gone[j]:=by subst hj;simp [a2W,hjl]
      have hs:IntKind.wrap .i64 ((i:Int)-1)=(j:Int):=by rw [a0f]<;>omega
      have hpos:0<i:=by omega
      cases hl':a5u o.gone[j] o.gone[i]
      ·have hg:a3e o=false:=by simp [a3e,<-hp,he,hpe,hl']
       simp [a92,h1,h6,h7,h8,hH,a0d,hlt,hlt',hw,hfu,hz,he,hw',hl',hs,hjl,hpos,h0,hg]
      ·have hp':a1J o (a2W o.gone (i+1)) (o.gone.drop (i+1))=a1J o none o.gone:=by rw [<-hp];simp [he,hw',hpe,hl']
       simp [a92,h1,h6,h7,h8,hH,a0d,hlt,hlt',hw,hfu,hz,he,hw',hl',hs,hjl,hpos,h0]
       refine ⟨_,?_,i+1,by omega,rfl,rfl,?_,hp'⟩
       ·omega
       ·repeat' (first|exact hf.mono (by first|omega|(simp<;>omega))|(refine a0v.set' ?_ (by first|omega|(simp<;>omega))))
    ·have hg:a3e o=false:=by simp [a3e,<-hp,he,hw']
     simp [a92,h1,h6,h7,h8,hH,a0d,hlt,hlt',hw,hfu,hz,he,hw',hg]
  ·rw [z] at hz hp
   have hg:a3e o=false:=by simp [a3e,<-hp]
   simp [a92,h1,h6,h7,h8,hH,a0d,hlt,hlt',hw,hfu,hz,hg]
 ·have:i=o.gone.length:=by omega
  subst this
  simp at hp
  simp [a92,h1,h6,h7,h8,hH,a0d]
  have:a1J o none o.gone=true:=by rw [<-hp];cases a2W o.gone o.gone.length<;>rfl
  simp [a3e,this]
  omega
open Go Go.Proofs
def b1q:List AV->Option (Prop×AV):=t1 (fun o=>o.gone.length<4611686018427387904) fun o:OpV=>.c (.raw (.bool (a3e o)))
@[simp] theorem c6K {l:List AV}:b1q l=(t1 (fun o=>o.gone.length<4611686018427387904) fun o:OpV=>.c (.raw (.bool (a3e o)))) l:=(rfl)
def b1r:List AV->Option (Prop×AV):=t1 (fun _=>True) fun s:List UInt8=>.c (.raw (.bool (a5c s)))
@[simp] theorem c6L {l:List AV}:b1r l=(t1 (fun _=>True) fun s:List UInt8=>.c (.raw (.bool (a5c s)))) l:=(rfl)
def FO7:CT:=(94,.pu b1q)::(92,.pu b1r)::FO6
theorem b5L:a07 Tryz.prog FO7:=⟨a0o fun o h=>c0L o h,
 a0o fun s _=>a7P s,b87⟩
@[simp] theorem c3L:a0c FO7 94=some (.pu b1q):=(rfl)
@[simp] theorem c3M:a0c FO7 92=some (.pu b1r):=(rfl)
@[simp] theorem c6M {n:Nat} (h:(n==94||n==92)=false):a0c FO7 n=a0c FO6 n:=by
 simp only [Bool.or_eq_false_iff,beq_eq_false_iff_ne,ne_eq] at h
 simp [FO7,a0c,h]
def okO (o:OpV):Prop:=o.text.length<4611686018427387904/\o.gone.length<4611686018427387904
def a2E (o:OpV):Bool:=
 a1v o.after&&!ownB o o.after&&!(decide (o.text=[])&&!decide (o.after=⟨0,0,0⟩))&&!(decide (o.text=[])&&decide (o.gone.length=0))&&
 a5c o.text&&decide (a1H o.text<=12)&&a3e o&&decide (o.of_=0)&&decide (o.num=0)&&decide (o.gen=0)
theorem c0M (o:OpV) (ho:okO o):PEv Tryz.prog 69 [Arg.enc o] (.c (.raw (.bool (a2E o)))):=by
 refine a0e mixed b5L Tryz.func69 d4U d4V (by kernel_rfl) (by simp) (by simp [a0d]) ?_
 have hz:=b8f o.after
 have b1:o.text.length<9223372036854775807:=by have:=ho.1;omega
 have b2:=ho.2
 have er:decide ((a1H o.text:Int)<=12)=decide (a1H o.text<=12):=by
  by_cases h:a1H o.text<=12<;>simp [h]<;>omega
 cases c1:a1v o.after
 ·simp [s69,a0d,a2E,c1]
 cases c2:ownB o o.after
 rotate_left
 ·simp [s69,a0d,a2E,c1,c2]
 cases c3:decide (o.text=[])
 rotate_left
 ·cases c4:decide (o.after=⟨0,0,0⟩)
  ·rw [c4] at hz
   simp [s69,a0d,a2E,hz,c1,c2,c3,c4]
  rw [c4] at hz
  cases c5:decide (o.gone=[])
  rotate_left
  ·simp [s69,a0d,a2E,hz,c1,c2,c3,c4,c5]
  cases c6:a5c o.text
  ·simp [s69,a0d,a2E,hz,b1,b2,c1,c2,c3,c4,c5,c6]
  cases c7:decide (a1H o.text<=12)
  ·have c7':decide ((a1H o.text:Int)<=12)=false:=by rw [er,c7]
   simp [s69,a0d,a2E,hz,b1,b2,c1,c2,c3,c4,c5,c6,c7,c7']
  have c7':decide ((a1H o.text:Int)<=12)=true:=by rw [er,c7]
  cases c8:a3e o
  ·simp [s69,a0d,a2E,hz,b1,b2,c1,c2,c3,c4,c5,c6,c7,c7',c8]
  cases c9:decide (o.of_=0)
  ·simp [s69,a0d,a2E,hz,b1,b2,c1,c2,c3,c4,c5,c6,c7,c7',c8,c9]
  cases c10:decide (o.num=0)
  ·simp [s69,a0d,a2E,hz,b1,b2,c1,c2,c3,c4,c5,c6,c7,c7',c8,c9,c10]
  ·simp [s69,a0d,a2E,hz,b1,b2,c1,c2,c3,c4,c5,c6,c7,c7',c8,c9,c10]
 ·skip
  cases c6:a5c o.text
  ·simp [s69,a0d,a2E,hz,b1,b2,c1,c2,c3,c6]
  cases c7:decide (a1H o.text<=12)
  ·have c7':decide ((a1H o.text:Int)<=12)=false:=by rw [er,c7]
   simp [s69,a0d,a2E,hz,b1,b2,c1,c2,c3,c6,c7,c7']
  have c7':decide ((a1H o.text:Int)<=12)=true:=by rw [er,c7]
  cases c8:a3e o
  ·simp [s69,a0d,a2E,hz,b1,b2,c1,c2,c3,c6,c7,c7',c8]
  cases c9:decide (o.of_=0)
  ·simp [s69,a0d,a2E,hz,b1,b2,c1,c2,c3,c6,c7,c7',c8,c9]
  cases c10:decide (o.num=0)
  ·simp [s69,a0d,a2E,hz,b1,b2,c1,c2,c3,c6,c7,c7',c8,c9,c10]
  ·simp [s69,a0d,a2E,hz,b1,b2,c1,c2,c3,c6,c7,c7',c8,c9,c10]
open Go Go.Proofs
theorem a0s.a8E {a b:a0s}:a=b↔a.site=b.site/\a.seq=b.seq/\a.i=b.i:=by
 obtain ⟨a1,a2,a3⟩:=a
 obtain ⟨b1,b2,b3⟩:=b
 simp
theorem b5M (a b:List a0s) (ha:a.length<4611686018427387904):PEv Tryz.prog 88 [Arg.enc a,Arg.enc b] (.c (.raw (.bool (decide (a=b))))):=by
 refine a0e mixed (F:=[]) trivial Tryz.func88 d5m d5n (by kernel_rfl) (by simp) (by simp) ?_
 simp [s88]
 refine ⟨fun h e=>h (by rw [e]),fun hl=>?_⟩
 have hl:a.length=b.length:=by omega
 refine a1x (fun n st=>∃i:Nat,i<=a.length/\n=a.length-i/\st.s 0=.c (.sl .brw false (a0a a))/\st.s 1=.c (.sl .brw false (a0a b))/\st.s 12=.c (.raw (.int .i64 a.length))/\st.s 13=.c (.raw (.int .i64 i))/\a.take i=b.take i) a.length ⟨0,by simp⟩ ?_
 rintro n st ⟨i,hi,rfl,h0,h1,h12,h5,hp⟩
 by_cases hlt:i<a.length
 ·have hb:i<b.length:=by omega
  have hw:IntKind.wrap .i64 ((i:Int)+1)=((i+1:Nat):Int):=by rw [a0f]<;>omega
  simp [c0E,h0,h1,h5,h12,hlt,hb]
  refine ⟨?_,?_⟩
  ·intro hne e
   subst e
   simp at hne
  ·intro e1 e2 e3
   refine ⟨a.length-(i+1),by omega,i+1,by omega,rfl,?_,?_⟩
   ·rw [a0f (by omega) (by omega)];rfl
   ·exact b06 hp hlt hb (a0s.a8E.2 ⟨e1,e2,e3⟩)
 ·have:i=a.length:=by omega
  subst this
  simp [c0E,h0,h1,h5,h12]
  rw [List.take_length,hl,List.take_length] at hp
  exact hp
theorem a7R (a b:List a0s) (ha:a.length<4611686018427387904):PEv Tryz.prog 85 [Arg.enc a,Arg.enc b] (.c (.raw (.bool (decide (a=b))))):=by
 refine a0e mixed (F:=[]) trivial Tryz.func85 d5k d5l (by kernel_rfl) (by simp) (by simp) ?_
 simp [s85]
 refine ⟨fun h e=>h (by rw [e]),fun hl=>?_⟩
 have hl:a.length=b.length:=by omega
 refine a1x (fun n st=>∃i:Nat,i<=a.length/\n=a.length-i/\st.s 0=.c (.sl .brw false (a0a a))/\st.s 1=.c (.sl .brw false (a0a b))/\st.s 5=.c (.raw (.int .i64 i))/\a.take i=b.take i) a.length ⟨0,by simp⟩ ?_
 rintro n st ⟨i,hi,rfl,h0,h1,h5,hp⟩
 by_cases hlt:i<a.length
 ·have hb:i<b.length:=by omega
  simp [c0D,h0,h1,h5,hlt,hb]
  refine ⟨?_,?_⟩
  ·intro hne e
   subst e
   simp at hne
  ·intro e1 e2 e3
   refine ⟨a.length-(i+1),by omega,i+1,by omega,rfl,?_,?_⟩
   ·rw [a0f (by omega) (by omega)];rfl
   ·exact b06 hp hlt hb (a0s.a8E.2 ⟨e1,e2,e3⟩)
 ·have:i=a.length:=by omega
  subst this
  simp [c0D,h0,h1,h5]
  rw [List.take_length,hl,List.take_length] at hp
  exact hp
open Go Go.Proofs
def a01 (o:OpV):Bool:=
 nameB o.of_ o.num&&!(decide (o.of_=o.site)&&decide (o.num=o.seq))&&!decide (o.gen<0)&&!decide (268435456<o.gen)&&
 decide (o.after=⟨0,0,0⟩)&&decide (o.text=[])&&decide (o.gone=[])
theorem b5N (o:OpV) (ho:okO o):PEv Tryz.prog 70 [Arg.enc o] (.c (.raw (.bool (a01 o)))):=by
 refine a0e mixed b5L Tryz.func70 d4W d4X (by kernel_rfl) (by simp) (by simp [a0d]) ?_
 have hz:=b8f o.after
 cases c1:nameB o.of_ o.num
 ·simp [s70,a0d,a01,hz,c1]
 cases c2:decide (o.of_=o.site)
 ·cases c4:decide (o.gen<0)
  rotate_left
  ·simp [s70,a0d,a01,hz,c1,c2,c4]
  cases c5:decide (268435456<o.gen)
  rotate_left
  ·simp [s70,a0d,a01,hz,c1,c2,c4,c5]
  cases c6:decide (o.after=⟨0,0,0⟩)
  ·rw [c6] at hz
   simp [s70,a0d,a01,hz,c1,c2,c4,c5,c6]
  rw [c6] at hz
  cases c7:decide (o.text=[])
  ·simp [s70,a0d,a01,hz,c1,c2,c4,c5,c6,c7]
  ·simp [s70,a0d,a01,hz,c1,c2,c4,c5,c6,c7]
 cases c3:decide (o.num=o.seq)
 rotate_left
 ·simp [s70,a0d,a01,hz,c1,c2,c3]
 cases c4:decide (o.gen<0)
 rotate_left
 ·simp [s70,a0d,a01,hz,c1,c2,c3,c4]
 cases c5:decide (268435456<o.gen)
 rotate_left
 ·simp [s70,a0d,a01,hz,c1,c2,c3,c4,c5]
 cases c6:decide (o.after=⟨0,0,0⟩)
 ·rw [c6] at hz
  simp [s70,a0d,a01,hz,c1,c2,c3,c4,c5,c6]
 rw [c6] at hz
 cases c7:decide (o.text=[])
 ·simp [s70,a0d,a01,hz,c1,c2,c3,c4,c5,c6,c7]
 ·simp [s70,a0d,a01,hz,c1,c2,c3,c4,c5,c6,c7]
open Go Go.Proofs
def b1s:List AV->Option (Prop×AV):=t2 (fun a _=>a.length<4611686018427387904) fun a b:List a0s=>.c (.raw (.bool (decide (a=b))))
@[simp] theorem c6N {l:List AV}:b1s l=(t2 (fun a _=>a.length<4611686018427387904) fun a b:List a0s=>.c (.raw (.bool (decide (a=b))))) l:=(rfl)
def c0N:List AV->Option (Prop×AV):=t2 (fun a _=>a.length<4611686018427387904) fun a b:List a0s=>.c (.raw (.bool (decide (a=b))))
def FQ1:CT:=(88,.pu b1s)::(85,.pu c0N)::FO7
theorem b88:a07 Tryz.prog FQ1:=⟨a1s fun a b h=>b5M a b h,
 a1s fun a b h=>a7R a b h,b5L⟩
@[simp] theorem c3N:a0c FQ1 88=some (.pu b1s):=(rfl)
@[simp] theorem c6O {n:Nat} (h:(n==88||n==85)=false):a0c FQ1 n=a0c FO7 n:=by
 simp only [Bool.or_eq_false_iff,beq_eq_false_iff_ne,ne_eq] at h
 simp [FQ1,a0c,h]
theorem b89 (a b:a0s):(decide (a.site=b.site)&&(decide (a.seq=b.seq)&&decide (a.i=b.i)))=decide (a=b):=by
 obtain ⟨a1,a2,a3⟩:=a
 obtain ⟨b1,b2,b3⟩:=b
 by_cases h1:a1=b1<;>by_cases h2:a2=b2<;>by_cases h3:a3=b3<;>simp [h1,h2,h3]
def a1S (a b:OpV):Bool:=
 decide (a.gone=b.gone)&&decide (a.site=b.site)&&decide (a.seq=b.seq)&&decide (a.kind=b.kind)&&decide (a.after=b.after)&&decide (a.text=b.text)&&decide (a.of_=b.of_)&&decide (a.num=b.num)&&decide (a.gen=b.gen)
theorem a8S (a b:OpV):a1S a b=decide (a=b):=by
 obtain ⟨a1,a2,a3,a4,a5,a6,a7,a8,a9⟩:=a
 obtain ⟨b1,b2,b3,b4,b5,b6,b7,b8,b9⟩:=b
 rw [Bool.eq_iff_iff]
 simp [a1S]
 constructor
 ·rintro ⟨⟨⟨⟨⟨⟨⟨⟨rfl,rfl⟩,rfl⟩,rfl⟩,rfl⟩,rfl⟩,rfl⟩,rfl⟩,rfl⟩
  simp
 ·rintro ⟨rfl,rfl,rfl,rfl,rfl,rfl,rfl,rfl,rfl⟩
  simp
theorem c0O (a b:OpV) (ha:a.gone.length<4611686018427387904):PEv Tryz.prog 67 [Arg.enc a,Arg.enc b] (.c (.raw (.bool (a1S a b)))):=by
 refine a0e mixed b88 Tryz.func67 d4Q d4R (by kernel_rfl) (by simp) (by simp [a0d]) ?_
 have hz:=b89 a.after b.after
 cases c1:decide (a.gone=b.gone)
 ·simp [s67,a0d,a1S,hz,c1,ha]
 cases c2:decide (a.site=b.site)
 ·simp [s67,a0d,a1S,hz,c1,c2,ha]
 cases c3:decide (a.seq=b.seq)
 ·simp [s67,a0d,a1S,hz,c1,c2,c3,ha]
 cases c4:decide (a.kind=b.kind)
 ·simp [s67,a0d,a1S,hz,c1,c2,c3,c4,ha]
 cases c5:decide (a.after=b.after)
 ·rw [c5] at hz
  simp [s67,a0d,a1S,hz,c1,c2,c3,c4,c5,ha]
 rw [c5] at hz
 cases c6:decide (a.text=b.text)
 ·simp [s67,a0d,a1S,hz,c1,c2,c3,c4,c5,c6,ha]
 cases c7:decide (a.of_=b.of_)
 ·simp [s67,a0d,a1S,hz,c1,c2,c3,c4,c5,c6,c7,ha]
 cases c8:decide (a.num=b.num)
 ·simp [s67,a0d,a1S,hz,c1,c2,c3,c4,c5,c6,c7,c8,ha]
 ·simp [s67,a0d,a1S,hz,c1,c2,c3,c4,c5,c6,c7,c8,ha]
open Go Go.Proofs
def b1t:List AV->Option (Prop×AV):=t1 okO fun o:OpV=>.c (.raw (.bool (a2E o)))
@[simp] theorem c6P {l:List AV}:b1t l=(t1 okO fun o:OpV=>.c (.raw (.bool (a2E o)))) l:=(rfl)
def b1u:List AV->Option (Prop×AV):=t1 okO fun o:OpV=>.c (.raw (.bool (a01 o)))
@[simp] theorem c6Q {l:List AV}:b1u l=(t1 okO fun o:OpV=>.c (.raw (.bool (a01 o)))) l:=(rfl)
def b1v:List AV->Option (Prop×AV):=t2 (fun a _=>a.gone.length<4611686018427387904) fun a b:OpV=>.c (.raw (.bool (a1S a b)))
@[simp] theorem c6R {l:List AV}:b1v l=(t2 (fun a _=>a.gone.length<4611686018427387904) fun a b:OpV=>.c (.raw (.bool (a1S a b)))) l:=(rfl)
def FM0:CT:=(69,.pu b1t)::(70,.pu b1u)::(67,.pu b1v)::FQ1
theorem b5O:a07 Tryz.prog FM0:=⟨a0o fun o h=>c0M o h,
 a0o fun o h=>b5N o h,
 a1s fun a b h=>c0O a b h,b88⟩
@[simp] theorem c3O:a0c FM0 69=some (.pu b1t):=(rfl)
@[simp] theorem c3P:a0c FM0 70=some (.pu b1u):=(rfl)
@[simp] theorem c3Q:a0c FM0 67=some (.pu b1v):=(rfl)
@[simp] theorem c6S {n:Nat} (h:(n==69||n==70||n==67)=false):a0c FM0 n=a0c FQ1 n:=by
 simp only [Bool.or_eq_false_iff,beq_eq_false_iff_ne,ne_eq] at h
 simp [FM0,a0c,h]
def a0M (o:OpV):Bool:=nameB o.site o.seq&&(if o.kind=1 then a2E o else decide (o.kind=2)&&a01 o)
theorem b8g (o:OpV) (ho:okO o):PEv Tryz.prog 49 [Arg.enc o] (.c (.raw (.bool (a0M o)))):=by
 refine a0e mixed b5O Tryz.func49 d4z d4A (by kernel_rfl) (by simp) (by simp [a0d]) ?_
 cases c1:nameB o.site o.seq
 ·simp [s49,a0d,a0M,c1,ho]
 cases c2:decide (o.kind=1)
 rotate_left
 ·have c2':=of_decide_eq_true c2
  simp [s49,a0d,a0M,c1,c2,ho]
  exact fun h=>absurd c2' h
 cases c3:decide (o.kind=2)
 ·simp [s49,a0d,a0M,c1,c2,c3,ho]
 ·simp [s49,a0d,a0M,c1,c2,c3,ho]
  exact fun h=>absurd h (of_decide_eq_false c2)
def a1E:OpV:=⟨0,0,0,⟨0,0,0⟩,[],[],0,0,0⟩
theorem b3V (o:OpV) (ho:okO o):PEv Tryz.prog 48 [Arg.enc o] (.c (.raw (.bool (a1S o a1E)))):=by
 refine a0e mixed b5O Tryz.func48 d4x d4y (by kernel_rfl) (by simp) (by simp [a0d]) ?_
 have:=ho.2
 simp [s48,a0d,this,a1E]
def b1w:List AV->Option (Prop×AV):=t1 okO fun o:OpV=>.c (.raw (.bool (a0M o)))
@[simp] theorem c6T {l:List AV}:b1w l=(t1 okO fun o:OpV=>.c (.raw (.bool (a0M o)))) l:=(rfl)
def b1x:List AV->Option (Prop×AV):=t1 okO fun o:OpV=>.c (.raw (.bool (a1S o a1E)))
@[simp] theorem c6U {l:List AV}:b1x l=(t1 okO fun o:OpV=>.c (.raw (.bool (a1S o a1E)))) l:=(rfl)
def FM1:CT:=(49,.pu b1w)::(48,.pu b1x)::FM0
theorem b9a:a07 Tryz.prog FM1:=⟨a0o fun o h=>b8g o h,
 a0o fun o h=>b3V o h,b5O⟩
@[simp] theorem c3R:a0c FM1 49=some (.pu b1w):=(rfl)
@[simp] theorem c3S:a0c FM1 48=some (.pu b1x):=(rfl)
def a0N (e:a0i):Bool:=if e.join then decide (1<=e.a13)&&decide (e.a13<=268435456)&&a1S e.op a1E else decide (e.a13=0)&&a0M e.op
theorem a96 (e:a0i) (ho:okO e.op):PEv Tryz.prog 23 [Arg.enc e] (.c (.raw (.bool (a0N e)))):=by
 refine a0e mixed b9a Tryz.func23 d4c d4d (by kernel_rfl) (by simp) (by simp [a0n,a0d]) ?_
 cases c1:e.join
 ·cases c2:decide (e.a13=0)
  ·simp [s23,a0n,a0d,a0N,c1,c2,ho]
  ·simp [s23,a0n,a0d,a0N,c1,c2,ho]
 ·cases c2:decide (1<=e.a13)
  ·simp [s23,a0n,a0d,a0N,c1,c2,ho]
  cases c3:decide (e.a13<=268435456)
  ·simp [s23,a0n,a0d,a0N,c1,c2,c3,ho]
  ·simp [s23,a0n,a0d,a0N,c1,c2,c3,ho]
theorem a4I {a b:Int} (h:nameB a b=true):1<=a/\a<=8/\1<=b/\b<=268435456:=by
 simp [nameB] at h
 omega
theorem c0P {e:a0s} (h:a1v e=true):0<=e.site/\e.site<=8/\0<=e.seq/\e.seq<=268435456/\0<=e.i/\e.i<12:=by
 simp [a1v] at h
 rcases h with rfl|⟨⟨h1,h2⟩,h3⟩
 ·simp
 ·have:=a4I h1
  omega
def okN (n:Int):Prop:=0<=n/\n<9223372036854775808
def okE (e:a0s):Prop:=okN e.site/\okN e.seq/\okN e.i
theorem b2U {e:a0s} (h:a1v e=true):okE e:=by
 have:=c0P h
 refine ⟨⟨?_,?_⟩,⟨?_,?_⟩,?_,?_⟩<;>omega
def c0Q:List AV->Option (Prop×AV):=t1 (fun e=>okO e.op) fun e:a0i=>.c (.raw (.bool (a0N e)))
def b1y:List AV->Option (Prop×AV):=t1 (fun l=>l.length<1000000/\∀n∈l,okN n) fun l:List Int=>.c (.str (a1D l))
@[simp] theorem c6V {l:List AV}:b1y l=(t1 (fun l=>l.length<1000000/\∀n∈l,okN n) fun l:List Int=>.c (.str (a1D l))) l:=(rfl)
def b1z:List AV->Option (Prop×AV):=t1 (fun s=>s.length<140737488355328) fun s:List UInt8=>.c (.str (a0g s.length++s))
@[simp] theorem c6W {l:List AV}:b1z l=(t1 (fun s=>s.length<140737488355328) fun s:List UInt8=>.c (.str (a0g s.length++s))) l:=(rfl)
def FP0:CT:=(23,.pu c0Q)::(71,.pu b1y)::(73,.pu b1z)::FM1
theorem b9b:a07 Tryz.prog FP0:=⟨a0o fun e h=>a96 e h,
 a0o fun l h=>b3Q l h.1 h.2,
 a0o fun s h=>a7M s h,b9a⟩
@[simp] theorem c3T:a0c FP0 71=some (.pu b1y):=(rfl)
@[simp] theorem c3U:a0c FP0 73=some (.pu b1z):=(rfl)
@[simp] theorem c6X {n:Nat} (h:(n==23||n==71||n==73)=false):a0c FP0 n=a0c FM1 n:=by
 simp only [Bool.or_eq_false_iff,beq_eq_false_iff_ne,ne_eq] at h
 simp [FP0,a0c,h]
def a09 (e:a0s):List UInt8:=a1D [e.site,e.seq,e.i]
theorem b8h (e:a0s) (h:okE e):PEv Tryz.prog 72 [Arg.enc e] (.c (.str (a09 e))):=by
 refine a0e mixed b9b Tryz.func72 d4Y d4Z (by kernel_rfl) (by simp) (by simp) ?_
 obtain ⟨h1,h2,h3⟩:=h
 simp [s72,b8e,take3,h1,h2,h3,a09]
open Go Go.Proofs
def b1A:List AV->Option (Prop×AV):=t1 okE fun e:a0s=>.c (.str (a09 e))
@[simp] theorem c6Y {l:List AV}:b1A l=(t1 okE fun e:a0s=>.c (.str (a09 e))) l:=(rfl)
def FP1:CT:=(72,.pu b1A)::FP0
theorem b9c:a07 Tryz.prog FP1:=⟨a0o fun e h=>b8h e h,b9b⟩
@[simp] theorem c3V:a0c FP1 72=some (.pu b1A):=(rfl)
@[simp] theorem c6Z {n:Nat} (h:(n==72)=false):a0c FP1 n=a0c FP0 n:=by
 simp only [Bool.or_eq_false_iff,beq_eq_false_iff_ne,ne_eq] at h
 simp [FP1,a0c,h]
structure okP (o:OpV):Prop where
 site:okN o.site
 seq:okN o.seq
 kind:okN o.kind
 of_:okN o.of_
 num:okN o.num
 gen:okN o.gen
 after:okE o.after
 gone:∀e∈o.gone,okE e
 text:o.text.length<1000000
 len:o.gone.length<1000000
def a3I (o:OpV):List UInt8:=a1D [o.site,o.seq,o.kind]
def b4z (o:OpV):List UInt8:=a09 o.after++((a0g o.text.length++o.text)++a1D [(o.gone.length:Int)])
def a0U (o:OpV):List UInt8:=if o.kind=2 then a3I o++a1D [o.of_,o.num,o.gen] else a3I o++b4z o++o.gone.flatMap a09
theorem a5d (e:a0s):(a09 e).length<=30:=by
 have:=a2s [e.site,e.seq,e.i]
 simpa [a09] using this
theorem c3W (a:Int):(Arg.dec (.c (.sl .brw false [[AC.raw (.int .i64 a)]])):Option (List Int))=some [a]:=a48 [a]
theorem b9d (a b c:Int):(Arg.dec (.c (.sl .brw false [[AC.raw (.int .i64 a)],[AC.raw (.int .i64 b)],[AC.raw (.int .i64 c)]])):Option (List Int))=some [a,b,c]:=a48 [a,b,c]
theorem b2V (l:List a0s):(l.flatMap a09).length<=30*l.length:=by
 induction l with
 |nil=>simp
 |cons x l ih=>
  have:=a5d x
  simp at ih ⊢
  omega
theorem b8i (o:OpV) (h:okP o):PEv Tryz.prog 51 [Arg.enc o] (.c (.str (a0U o))):=by
 refine a0e mixed b9c Tryz.func51 d4D d4E (by kernel_rfl) (by simp) (by simp [a0d]) ?_
 have hl1:=a2s [o.site,o.seq,o.kind]
 have hl2:=a2s [o.of_,o.num,o.gen]
 have hl3:=a5d o.after
 have hl4:=a1l o.text.length
 have hl5:=a2s [(o.gone.length:Int)]
 have hl6:=h.text
 have hl7:=h.len
 simp only [List.length_cons,List.length_nil] at hl1 hl2 hl5
 have e1:=h.site;have e2:=h.seq;have e3:=h.kind;have e4:=h.of_;have e5:=h.num;have e6:=h.gen;have e7:=h.after
 have e8:okN (o.gone.length:Int):=⟨by omega,by omega⟩
 have l1:(a1D [o.site,o.seq,o.kind]).length+(a1D [o.of_,o.num,o.gen]).length<=9223372036854775807:=by omega
 have l2:o.text.length<140737488355328:=by omega
 have e9:a09 {site:=o.after.site,seq:=o.after.seq,i:=o.after.i}=a09 o.after:=rfl
 cases c:decide (o.kind=2)
 rotate_left
 ·have e10:a0U o=a3I o++a1D [o.of_,o.num,o.gen]:=by rw [a0U,if_pos (of_decide_eq_true c)]
  simp [s51,a0d,b9d,e1,e2,e3,e4,e5,e6,c,l1,e10,a3I]
 ·have e10:a0U o=a3I o++b4z o++o.gone.flatMap a09:=by rw [a0U,if_neg (of_decide_eq_false c)]
  have l3:(a09 o.after).length+((a0g o.text.length).length+o.text.length)<=9223372036854775807:=by omega
  have l4:(a09 o.after).length+((a0g o.text.length).length+(o.text.length+(a1D [(o.gone.length:Int)]).length))<=9223372036854775807:=by omega
  have l5:(a1D [o.site,o.seq,o.kind]).length+((a09 o.after).length+((a0g o.text.length).length+(o.text.length+(a1D [(o.gone.length:Int)]).length)))<=9223372036854775807:=by omega
  simp [s51,a0d,b9d,c3W,e1,e2,e3,e7,e8,c,l2,l3,l4,l5,e9]
  refine ⟨by omega,?_⟩
  have lm:(a3I o++b4z o).length<=1000200:=by simp [a3I,b4z];omega
  refine a1x (fun n st=>∃i:Nat,i<=o.gone.length/\n=o.gone.length-i/\st.s 3=.c (.str (a3I o++b4z o++(o.gone.take i).flatMap a09))/\st.s 43=.c (.sl .brw false (a0a o.gone))/\st.s 44=.c (.raw (.int .i64 o.gone.length))/\st.s 45=.c (.raw (.int .i64 i))/\a0v st.H st.T) o.gone.length ?_ ?_
  ·refine ⟨0,by omega,by omega,?_⟩
   simp [a3I,b4z]
   (repeat' (first|exact a1r.mono (Nat.zero_le _)|(refine a0v.set' ?_ (by simp))))
  rintro n st ⟨i,hi,rfl,h3,h43,h44,h45,hf⟩
  have hfu:∀k d,st.T<=k->st.H (k,d)=.a0b:=hf
  by_cases hlt:i<o.gone.length
  ·have hlt':(i:Int)<o.gone.length:=by omega
   have hw:IntKind.wrap .i64 ((i:Int)+1)=((i+1:Nat):Int):=by rw [a0f]<;>omega
   have hg:okE o.gone[i]:=h.gone _ (List.getElem_mem hlt)
   have hg':a09 {site:=o.gone[i].site,seq:=o.gone[i].seq,i:=o.gone[i].i}=a09 o.gone[i]:=rfl
   have hg2:okE {site:=o.gone[i].site,seq:=o.gone[i].seq,i:=o.gone[i].i}:=hg
   have g1:=b2V (o.gone.take i)
   rw [List.length_take] at g1
   have g2:=a5d o.gone[i]
   generalize hX:a3I o++b4z o++(o.gone.take i).flatMap a09=X at h3
   have hXl:X.length+(a09 o.gone[i]).length<=9223372036854775807:=by rw [<-hX,List.length_append];omega
   simp [c0A,h3,h43,h44,h45,hlt,hlt',hw,hfu,hg2,hg',hXl]
   refine ⟨_,?_,i+1,by omega,rfl,?_,rfl,?_⟩
   ·omega
   ·rw [<-hX,<-List.take_append_getElem hlt,List.flatMap_append]
    simp
   ·repeat' (first|exact hf.mono (by first|omega|(simp<;>omega))|(refine a0v.set' ?_ (by first|omega|(simp<;>omega))))
  ·have:i=o.gone.length:=by omega
   subst this
   simp [c0A,h3,h43,h44,h45,e10]
open Go Go.Proofs
structure RdV where
 s:List UInt8
 bad:Bool
def a1g (r:RdV):List AC:=[.str r.s,.raw (.bool r.bad)]
def rdG {α:Type} (C:RdV->Prop) (f:RdV->α×RdV) (out:α->AV):List AC->List AV->Option (Prop×List AC×AV):=fun row rest=>
 match row,rest with
 |[.str s,.raw (.bool b)],[]=>some (C ⟨s,b⟩,a1g (f ⟨s,b⟩).2,out (f ⟨s,b⟩).1)
 |_,_=>none
@[simp] theorem d1O {α:Type} {C:RdV->Prop} {f:RdV->α×RdV} {out:α->AV} {s:List UInt8} {b:Bool} :
  rdG C f out [.str s,.raw (.bool b)] []=some (C ⟨s,b⟩,a1g (f ⟨s,b⟩).2,out (f ⟨s,b⟩).1):=rfl
theorem a6g {F:CT} (hF:a07 Tryz.prog F) {e:TypeId} {f:FuncId} {fn:Func} {s:SC} {α:Type} {C:RdV->Prop} {g:RdV->α×RdV} {out:α->AV} (hf:Tryz.prog.funcs[f]?=some fn) (hs:a0r fn.body s=some (unK s,true))
  (hok:a0R a0q fn 0=true) (hn:Nat.ble 1 fn.ntmps=true) (hout:∀a,∀c∈(out a).flat,a6v c)
  (h:∀(H:Heap) (T:Nat) (id:Id) (r:RdV),H id=.arr e 2 false [a1g r]->a0v H T->C r->
   a14 Tryz.prog F s (c3k Tryz.prog fn fun res H'=>exV H' res (out (g r).1)/\(a1j res.flat).Nodup/\(∀i∈a1j res.flat,H i=.a0b)/\a0y [id] H H'/\H' id=.arr e 2 false [a1g (g r).2]) (a5b H T [.c (.pt id 0 0)])) :
  a5J Tryz.prog f (mh1 e 2 (rdG C g out)):=by
 have inv:∀{row rest q},rdG C g out row rest=some q->∃r:RdV,row=a1g r/\rest=[]/\q=(C r,a1g (g r).2,out (g r).1):=by
  intro row rest q hq
  unfold rdG at hq
  split at hq
  ·cases hq
   exact ⟨⟨_,_⟩,rfl,rfl,rfl⟩
  ·cases hq
 refine c0z mixed hF hf hs hok (fun row rest q hq=>?_) fun H T id row rest q hid hfr hq hC=>?_
 ·obtain ⟨r,rfl,rfl,rfl⟩:=inv hq
  refine ⟨hn,hout _,fun c hc id=>?_⟩
  simp [a1g] at hc
  rcases hc with rfl|rfl<;>simp
 ·obtain ⟨r,rfl,rfl,rfl⟩:=inv hq
  exact h H T id r hid hfr hC
def rdNum (r:RdV):Int×RdV:=((a0S r.s).1,⟨(a0S r.s).2.1,r.bad||!decide ((a0S r.s).2.2=0)⟩)
def a1a (r:RdV):List UInt8×RdV:=((a0G r.s).1,⟨(a0G r.s).2.1,r.bad||!decide ((a0G r.s).2.2=0)⟩)
def okR (r:RdV):Prop:=r.s.length<4611686018427387904
def b66 (n:Int):AV:=.c (.raw (.int .i64 n))
def c0R (s:List UInt8):AV:=.c (.str s)
def b1B:List AV->Option (Prop×AV):=t1 (fun s=>s.length<4611686018427387904) fun s:List UInt8=>a2g s
@[simp] theorem c60 {l:List AV}:b1B l=(t1 (fun s=>s.length<4611686018427387904) fun s:List UInt8=>a2g s) l:=(rfl)
def a8T:List AV->Option (Prop×AV):=t1 (fun s=>s.length<4611686018427387904) fun s:List UInt8=>a1q s
@[simp] theorem c3X {l:List AV}:a8T l=(t1 (fun s=>s.length<4611686018427387904) fun s:List UInt8=>a1q s) l:=(rfl)
def FR0:CT:=(82,.pu b1B)::(111,.pu a8T)::FP1
theorem b5P:a07 Tryz.prog FR0:=⟨a0o fun s h=>a5t s h,
 a0o fun s h=>a4u s h,b9c⟩
@[simp] theorem c3Y:a0c FR0 82=some (.pu b1B):=(rfl)
@[simp] theorem c1Z:a0c FR0 111=some (.pu a8T):=(rfl)
@[simp] theorem c61 {n:Nat} (h:(n==82||n==111)=false):a0c FR0 n=a0c FP1 n:=by
 simp only [Bool.or_eq_false_iff,beq_eq_false_iff_ne,ne_eq] at h
 simp [FR0,a0c,h]
theorem a3z {id:Id} {H:Heap} {o o':OK}:a0y [id] H (hset (hset H id o) id o'):=by
 intro i hi hn
 simp at hn
 simp [hset,hn]
theorem b8j:a5J Tryz.prog 105 (mh1 145 2 (rdG okR rdNum b66)):=by
 refine a6g b5P Tryz.func105 c9Q c9R (by kernel_rfl) (by simp [b66]) fun H T id r hid hf hr=>?_
 obtain ⟨s,bad⟩:=r
 have hr':s.length<4611686018427387904:=hr
 have hfu:∀k d,T<=k->H (k,d)=.a0b:=hf
 cases bad
 ·simp [c6o,hid,hfu,hr',a1g,a2g]
  refine ⟨by simp [b66,rdNum],a3z,rfl,by simp [rdNum]⟩
 ·simp [c6o,hid,hfu,hr',a1g,a2g]
  refine ⟨by simp [b66,rdNum],a3z,rfl,by simp [rdNum]⟩
theorem b5Q:a5J Tryz.prog 107 (mh1 145 2 (rdG okR a1a c0R)):=by
 refine a6g b5P Tryz.func107 c9V c9W (by kernel_rfl) (by simp [c0R]) fun H T id r hid hf hr=>?_
 obtain ⟨s,bad⟩:=r
 have hr':s.length<4611686018427387904:=hr
 have hfu:∀k d,T<=k->H (k,d)=.a0b:=hf
 cases bad
 ·simp [c6p,hid,hfu,hr',a1g,a1q]
  refine ⟨by simp [c0R,a1a],a3z,rfl,by simp [a1a]⟩
 ·simp [c6p,hid,hfu,hr',a1g,a1q]
  refine ⟨by simp [c0R,a1a],a3z,rfl,by simp [a1a]⟩
def a8U:MH:=mh1 145 2 (rdG okR rdNum b66)
@[simp] theorem c3Z {H:Heap} {l:List AV}:a8U H l=(mh1 145 2 (rdG okR rdNum b66)) H l:=(rfl)
def a8V:MH:=mh1 145 2 (rdG okR a1a c0R)
@[simp] theorem c30 {H:Heap} {l:List AV}:a8V H l=(mh1 145 2 (rdG okR a1a c0R)) H l:=(rfl)
def FR1:CT:=(105,.mu a8U)::(107,.mu a8V)::FR0
theorem b9e:a07 Tryz.prog FR1:=⟨b8j,
 b5Q,b5P⟩
@[simp] theorem c11:a0c FR1 105=some (.mu a8U):=(rfl)
@[simp] theorem c12:a0c FR1 107=some (.mu a8V):=(rfl)
@[simp] theorem c62 {n:Nat} (h:(n==105||n==107)=false):a0c FR1 n=a0c FR0 n:=by
 simp only [Bool.or_eq_false_iff,beq_eq_false_iff_ne,ne_eq] at h
 simp [FR1,a0c,h]
def a1b (r:RdV):a0s×RdV:=
 let a:=rdNum r
 let b:=rdNum a.2
 let c:=rdNum b.2
 (⟨a.1,b.1,c.1⟩,c.2)
def b67 (e:a0s):AV:=.g (Enc.row e)
theorem a2b {r:RdV} (h:okR r):okR (rdNum r).2:=by
 show (a0S r.s).2.1.length<_
 have h':r.s.length<4611686018427387904:=h
 cases hn:takeN r.s with
 |none=>simp [a0S,hn]
 |some q=>
  obtain ⟨n,t⟩:=q
  have:=(a2r hn).2
  simp [a0S,hn]
  omega
theorem b5R {r:RdV} (h:okR r):okR (a1a r).2:=by
 show (a0G r.s).2.1.length<_
 have h':r.s.length<4611686018427387904:=h
 cases hn:takeN r.s with
 |none=>simp [a0G,hn]
 |some q=>
  obtain ⟨n,t⟩:=q
  have:=(a2r hn).2
  simp only [a0G,hn]
  split
  ·simp;omega
  ·simp
theorem a97 {r:RdV} (h:okR r):okR (a1b r).2:=a2b (a2b (a2b h))
theorem b5S:a5J Tryz.prog 106 (mh1 145 2 (rdG okR a1b b67)):=by
 refine a6g b9e Tryz.func106 c9T c9U (by kernel_rfl) (by simp [b67]) fun H T id r hid hf hr=>?_
 obtain ⟨n1,n2,n3⟩:=hf.arr hid
 have hfu:∀k d,T<=k->H (k,d)=.a0b:=hf
 have c1:=a2b hr
 have c2:=a2b c1
 obtain ⟨s,bad⟩:=r
 rcases e1:rdNum ⟨s,bad⟩ with ⟨a1,s1,b1⟩
 rw [e1] at c1 c2
 simp only at c1 c2
 rcases e2:rdNum ⟨s1,b1⟩ with ⟨a2,s2,b2⟩
 rw [e2] at c2
 simp only at c2
 rcases e3:rdNum ⟨s2,b2⟩ with ⟨a3,s3,b3⟩
 have e4:a1b ⟨s,bad⟩=(⟨a1,a2,a3⟩,⟨s3,b3⟩):=by simp [a1b,e1,e2,e3]
 simp [c9S,hid,hfu,hr,c1,c2,e1,e2,e3,e4,a1g,b66,b67,n1,n2]
 (repeat' (first|exact a0y.refl _ _|assumption|(refine a0y.set ?_ (by first|(right;simp;done)|(left;simp [hfu];done)|(left;exact hfu _ _ (by omega))|(left;assumption)))))
open Go Go.Proofs
def a0z:Nat->RdV->List a0s×RdV
 |0,r=>([],r)
 |n+1,r=>((a0z n r).1++[(a1b (a0z n r).2).1],(a1b (a0z n r).2).2)
def a6h (r:RdV):OpV×RdV:=
 let a:=rdNum r
 let b:=rdNum a.2
 let c:=rdNum b.2
 if c.1=2 then
  let d:=rdNum c.2
  let e:=rdNum d.2
  let f:=rdNum e.2
  (⟨a.1,b.1,c.1,⟨0,0,0⟩,[],[],d.1,e.1,f.1⟩,⟨f.2.s,f.2.bad||!a0M ⟨a.1,b.1,c.1,⟨0,0,0⟩,[],[],d.1,e.1,f.1⟩⟩)
 else
  let d:=a1b c.2
  let e:=a1a d.2
  let f:=rdNum e.2
  let g:=a0z (min f.1.toNat 200) f.2
  (⟨a.1,b.1,c.1,d.1,e.1,g.1,0,0,0⟩,⟨g.2.s,g.2.bad||decide (200<f.1)||!a0M ⟨a.1,b.1,c.1,d.1,e.1,g.1,0,0,0⟩⟩)
def a1Z (c:AC) (o:OpV):List AC:=
 [.raw (.int .i64 o.site),.raw (.int .i64 o.seq),.raw (.int .i64 o.kind),.raw (.int .i64 o.after.site),.raw (.int .i64 o.after.seq),.raw (.int .i64 o.after.i),.str o.text,c,.raw (.int .i64 o.of_),.raw (.int .i64 o.num),.raw (.int .i64 o.gen)]
def b8k (o:OpV):AV:=.g (a1Z (.nw 44 3 (a0a o.gone)) o)
def a8W:MH:=mh1 145 2 (rdG okR a1b b67)
@[simp] theorem c31 {H:Heap} {l:List AV}:a8W H l=(mh1 145 2 (rdG okR a1b b67)) H l:=(rfl)
def FR2:CT:=(106,.mu a8W)::FR1
theorem c32:a07 Tryz.prog FR2:=⟨b5S,b9e⟩
@[simp] theorem c13:a0c FR2 106=some (.mu a8W):=(rfl)
@[simp] theorem c63 {n:Nat} (h:(n==106)=false):a0c FR2 n=a0c FR1 n:=by
 simp only [Bool.or_eq_false_iff,beq_eq_false_iff_ne,ne_eq] at h
 simp [FR2,a0c,h]
theorem a5v {r:RdV} (h:okR r):∀n,okR (a0z n r).2/\(a0z n r).1.length=n
 |0=>⟨h,rfl⟩
 |n+1=>by
  obtain ⟨h1,h2⟩:=a5v h n
  exact ⟨a97 h1,by simp [a0z,h2]⟩
theorem b2W (r:RdV):0<=(rdNum r).1/\(rdNum r).1<=268435456:=by
 simp only [rdNum,a0S]
 cases hn:takeN r.s with
 |none=>simp
 |some q=>
  obtain ⟨n,t⟩:=q
  have:=(a2r hn).1
  simp
  omega
theorem b3W {r:RdV} (h:okR r):(a1a r).1.length<4611686018427387904:=by
 show (a0G r.s).1.length<_
 have h':r.s.length<4611686018427387904:=h
 cases hn:takeN r.s with
 |none=>simp [a0G,hn]
 |some q=>
  obtain ⟨n,t⟩:=q
  have:=(a2r hn).2
  simp only [a0G,hn]
  split
  ·simp;omega
  ·simp
theorem c0S:a5J Tryz.prog 98 (mh1 145 2 (rdG okR a6h b8k)):=by
 refine a6g c32 Tryz.func98 d5C d5D (by kernel_rfl) (by simp [b8k,a1Z]) fun H T id r hid hf hr=>?_
 obtain ⟨n1,n2,n3⟩:=hf.arr hid
 have hfu:∀k d,T<=k->H (k,d)=.a0b:=hf
 have c1:=a2b hr
 have c2:=a2b c1
 have c3:=a2b c2
 obtain ⟨s,bad⟩:=r
 rcases e1:rdNum ⟨s,bad⟩ with ⟨a1,s1,b1⟩
 rw [e1] at c1 c2 c3
 simp only at c1 c2 c3
 rcases e2:rdNum ⟨s1,b1⟩ with ⟨a2,s2,b2⟩
 rw [e2] at c2 c3
 simp only at c2 c3
 rcases e3:rdNum ⟨s2,b2⟩ with ⟨a3,s3,b3⟩
 rw [e3] at c3
 simp only at c3
 cases k:decide (a3=2)
 rotate_left
 ·have k':=of_decide_eq_true k
  have c4:=a2b c3
  have c5:=a2b c4
  rcases e4:rdNum ⟨s3,b3⟩ with ⟨a4,s4,b4⟩
  rw [e4] at c4 c5
  simp only at c4 c5
  rcases e5:rdNum ⟨s4,b4⟩ with ⟨a5,s5,b5⟩
  rw [e5] at c5
  simp only at c5
  rcases e6:rdNum ⟨s5,b5⟩ with ⟨a6,s6,b6⟩
  generalize ho:(⟨a1,a2,a3,⟨0,0,0⟩,[],[],a4,a5,a6⟩:OpV)=o
  have hoo:okO o:=by subst ho;exact ⟨by simp,by simp⟩
  have e7:a6h ⟨s,bad⟩=(o,⟨s6,b6||!a0M o⟩):=by subst ho;simp [a6h,e1,e2,e3,e4,e5,e6,k']
  cases b6
  ·simp [s98,hid,hfu,hr,c1,c2,c3,c4,c5,e1,e2,e3,e4,e5,e6,e7,a1g,b66,b67,b8k,n1,n2,k,ho,hoo]
   refine ⟨by subst ho;simp [a1Z],?_⟩
   (repeat' (first|exact a0y.refl _ _|assumption|(refine a0y.set ?_ (by first|(right;simp;done)|(left;simp [hfu];done)|(left;exact hfu _ _ (by omega))|(left;assumption)))))
  ·simp [s98,hid,hfu,hr,c1,c2,c3,c4,c5,e1,e2,e3,e4,e5,e6,e7,a1g,b66,b67,b8k,n1,n2,k,ho,hoo]
   refine ⟨by subst ho;simp [a1Z],?_⟩
   (repeat' (first|exact a0y.refl _ _|assumption|(refine a0y.set ?_ (by first|(right;simp;done)|(left;simp [hfu];done)|(left;exact hfu _ _ (by omega))|(left;assumption)))))
 ·have k':¬a3=2:=of_decide_eq_false k
  have c4:=a97 c3
  have c5:=b5R c4
  have c6:=a2b c5
  have lt:=b3W c4
  rcases e4:a1b ⟨s3,b3⟩ with ⟨⟨x1,x2,x3⟩,s4,b4⟩
  rw [e4] at c4 c5 c6 lt
  simp only at c4 c5 c6 lt
  rcases e5:a1a ⟨s4,b4⟩ with ⟨tx,s5,b5⟩
  rw [e5] at c5 c6 lt
  simp only at c5 c6 lt
  obtain ⟨hn0,hn1⟩:=b2W ⟨s5,b5⟩
  rcases e6:rdNum ⟨s5,b5⟩ with ⟨n,s6,b6⟩
  rw [e6] at c6 hn0 hn1
  simp only at c6 hn0 hn1
  obtain ⟨m,hm⟩:∃m,m=min n.toNat 200:=⟨_,rfl⟩
  have hmi:(if 200<n then (200:Int) else n)=(m:Int):=by split<;>omega
  have hm2:m<=200:=by omega
  generalize ho:(⟨a1,a2,a3,⟨x1,x2,x3⟩,tx,(a0z m ⟨s6,b6⟩).1,0,0,0⟩:OpV)=o
  obtain ⟨cm,lm⟩:=a5v c6 m
  have hoo:okO o:=by subst ho;exact ⟨lt,by show (a0z m ⟨s6,b6⟩).1.length<_;omega⟩
  have e7:a6h ⟨s,bad⟩=(o,⟨(a0z m ⟨s6,b6⟩).2.s,(a0z m ⟨s6,b6⟩).2.bad||decide (200<n)||!a0M o⟩):=by simp [a6h,e1,e2,e3,e4,e5,e6,k',ho,<-hm]
  simp [s98,hid,hfu,hr,c1,c2,c3,c4,c5,c6,e1,e2,e3,e4,e5,e6,e7,a1g,b66,b67,b8k,c0R,n1,n2,k,hmi]
  obtain ⟨r6,hr6⟩:∃r6:RdV,r6=⟨s6,b6⟩:=⟨_,rfl⟩
  rw [<-hr6] at ho cm lm e7 c6 ⊢
  refine a1x (fun q st=>∃(i:Nat) (g:AC),i<=m/\q=m-i/\st.s 0=.c (.pt id 0 0)/\st.s 2=.c (.pt (T,2) 0 0)/\st.s 3=.c (.pt (T+1,3) 0 0)/\st.s 4=.c (.raw (.int .i64 n))/\st.s 33=.c (.raw (.int .i64 m))/\st.s 34=.c (.raw (.int .i64 i))/\
   st.H id=.arr 145 2 false [a1g (a0z i r6).2]/\st.H (T,2)=.arr 46 11 false [a1Z (.raw (.slice none 0 0)) ⟨0,0,0,⟨0,0,0⟩,[],[],0,0,0⟩]/\st.H (T+1,3)=.arr 46 11 false [a1Z g ⟨a1,a2,a3,⟨x1,x2,x3⟩,tx,[],0,0,0⟩]/\
   ((g=.raw (.slice none 0 0)/\i=0)\/∃j,g=.so j 0 i/\H j=.a0b/\st.H j=.arr 44 3 false (a0a (a0z i r6).1))/\a0y [id] H st.H/\T+1<st.T/\a0v st.H st.T) m ?_ ?_
  ·refine ⟨0,.raw (.slice none 0 0),by omega,by omega,?_⟩
   simp [n1,n2,hid,a0z,a1g,a1Z,hr6]
   refine ⟨?_,?_⟩
   ·(repeat' (first|exact a0y.refl _ _|assumption|(refine a0y.set ?_ (by first|(right;simp;done)|(left;simp [hfu];done)|(left;exact hfu _ _ (by omega))|(left;assumption)))))
   ·repeat' (first|exact hf.mono (by first|omega|(simp<;>omega))|(refine a0v.set' ?_ (by first|omega|(simp<;>omega))))
  rintro q st ⟨i,g,hi,rfl,q0,q2,q3,q4,q33,q34,h1,h2,h3,hg,hsb,hT,hf'⟩
  have b9F:∀k d,st.T<=k->st.H (k,d)=.a0b:=hf'
  obtain ⟨ci,li⟩:=a5v c6 i
  rcases er:(a0z i r6).2 with ⟨si,bi⟩
  rw [er] at h1 ci
  by_cases hlt:i<m
  ·have hlt':(i:Int)<m:=by omega
   have hw:IntKind.wrap .i64 ((i:Int)+1)=((i+1:Nat):Int):=by rw [a0f]<;>omega
   rcases e8:a1b ⟨si,bi⟩ with ⟨⟨y1,y2,y3⟩,s9,b9⟩
   obtain ⟨p1,p2,p3⟩:=hf'.arr h1
   obtain ⟨p4,p5,p6⟩:=hf'.arr h3
   have e9:(a0z (i+1) r6)=((a0z i r6).1++[⟨y1,y2,y3⟩],⟨s9,b9⟩):=by simp [a0z,er,e8]
   have ht:a0a (a0z (i+1) r6).1=a0a (a0z i r6).1++[Enc.row (⟨y1,y2,y3⟩:a0s)]:=by rw [e9,a7J]
   have d1:=n2 (T+1) 3 (by omega)
   have d2:=n1 (T+1) 3 (by omega)
   rcases hg with ⟨rfl,rfl⟩|⟨j,rfl,hju,hj⟩
   ·simp [a8I,q0,q2,q3,q4,q33,q34,h1,h2,h3,hlt,hlt',hw,b9F,ci,e8,b67,a1g,a1Z,p1,p2,p4,p5,d1,d2]
    refine ⟨by omega,m-1,by omega,1,by omega,rfl,rfl,?_,by rw [n1 T 2 (Nat.le_refl _)];simp,⟨_,_,⟨⟨rfl,rfl⟩,rfl⟩,hfu _ _ (by omega),?_⟩,?_⟩
    ·have:=e9
     simp at this
     rw [this]
     exact ⟨rfl,rfl⟩
    ·simp at ht
     rw [ht]
     simp [a0z]
    ·refine ⟨?_,by omega,?_⟩
     ·(repeat' (first|exact a0y.refl _ _|assumption|(refine a0y.set ?_ (by first|(right;simp;done)|(left;simp [hfu];done)|(left;exact hfu _ _ (by omega))|(left;assumption)))))
     ·have hf:=hf'
      repeat' (first|exact hf.mono (by first|omega|(simp<;>omega))|(refine a0v.set' ?_ (by first|omega|(simp<;>omega))))
   ·obtain ⟨p7,p8,p9⟩:=hf'.arr hj
    have ne:∀{x:Id} {e sz:Nat} {f:Bool} {rows:List (List AC)},st.H x=.arr e sz f rows->e≠44->(j=x)=False/\(x=j)=False:=by
     intro x e sz f rows hx he
     constructor
     ·simp;rintro rfl;rw [hx] at hj;simp at hj;exact he hj.1
     ·simp;rintro rfl;rw [hx] at hj;simp at hj;exact he hj.1
    obtain ⟨g1,g2⟩:=ne h1 (by decide)
    obtain ⟨g3,g4⟩:=ne h2 (by decide)
    obtain ⟨g5,g6⟩:=ne h3 (by decide)
    simp [a8I,q0,q2,q3,q4,q33,q34,h1,h2,h3,hlt,hlt',hw,b9F,ci,e8,b67,a1g,a1Z,p1,p2,p4,p5,d1,d2,hj,p7,p8,g1,g2,g3,g4,g5,g6,li]
    refine ⟨⟨by omega,by omega⟩,by omega,m-(i+1),by omega,i+1,by omega,rfl,rfl,?_,by rw [n1 T 2 (Nat.le_refl _)];simp,⟨_,_,⟨⟨rfl,rfl⟩,rfl⟩,hfu _ _ (by omega),?_⟩,?_⟩
    ·rw [e9]
     exact ⟨rfl,rfl⟩
    ·rw [ht]
     simp
    ·refine ⟨?_,by omega,?_⟩
     ·(repeat' (first|exact a0y.refl _ _|assumption|(refine a0y.set ?_ (by first|(right;simp;done)|(left;simp [hfu];done)|(left;exact hfu _ _ (by omega))|(left;assumption)))))
     ·have hf:=hf'
      repeat' (first|exact hf.mono (by first|omega|(simp<;>omega))|(refine a0v.set' ?_ (by first|omega|(simp<;>omega))))
  ·have:i=m:=by omega
   subst this
   have hf0:=hf
   have d3:((T,2)=id)=False:=n1 T 2 (Nat.le_refl _)
   have d4:(id=(T,2))=False:=n2 T 2 (Nat.le_refl _)
   obtain ⟨p1,p2,p3⟩:=hf'.arr h1
   have d1:=n2 (T+1) 3 (by omega)
   have d2:=n1 (T+1) 3 (by omega)
   rw [er] at e7
   have og:o.gone=(a0z i r6).1:=by rw [<-ho]
   rcases hg with ⟨rfl,rfl⟩|⟨j,rfl,hju,hj⟩
   ·have ho':(⟨a1,a2,a3,⟨x1,x2,x3⟩,tx,[],0,0,0⟩:OpV)=o:=by rw [<-ho];rfl
    have hx:(a0a o.gone)=[]:=by rw [og];rfl
    cases c:(bi||decide (200<n))
    ·obtain ⟨c1,c2⟩:=Bool.or_eq_false_iff.1 c
     subst c1
     simp [a8I,er,q0,q2,q3,q4,q33,q34,h1,h2,h3,b9F,a1g,a1Z,p1,p2,d1,d2,d3,d4,c2,ho',hoo,hx]
     refine ⟨by rw [<-ho];simp,?_⟩
     (repeat' (first|exact a0y.refl _ _|assumption|(refine a0y.set ?_ (by first|(right;simp;done)|(left;simp [hfu];done)|(left;exact hfu _ _ (by omega))|(left;assumption)))))
    ·cases bi
     ·simp only [Bool.false_or] at c
      simp [a8I,er,q0,q2,q3,q4,q33,q34,h1,h2,h3,b9F,a1g,a1Z,p1,p2,d1,d2,d3,d4,c,ho',hoo,hx]
      refine ⟨by rw [<-ho];simp,?_⟩
      (repeat' (first|exact a0y.refl _ _|assumption|(refine a0y.set ?_ (by first|(right;simp;done)|(left;simp [hfu];done)|(left;exact hfu _ _ (by omega))|(left;assumption)))))
     ·simp [a8I,er,q0,q2,q3,q4,q33,q34,h1,h2,h3,b9F,a1g,a1Z,p1,p2,d1,d2,d3,d4,ho',hoo,hx]
      refine ⟨by rw [<-ho];simp,?_⟩
      (repeat' (first|exact a0y.refl _ _|assumption|(refine a0y.set ?_ (by first|(right;simp;done)|(left;simp [hfu];done)|(left;exact hfu _ _ (by omega))|(left;assumption)))))
   ·have ho':(⟨a1,a2,a3,⟨x1,x2,x3⟩,tx,(a0z i r6).1,0,0,0⟩:OpV)=o:=ho
    obtain ⟨p7,p8,p9⟩:=hf'.arr hj
    have ne:∀{x:Id} {e sz:Nat} {f:Bool} {rows:List (List AC)},st.H x=.arr e sz f rows->e≠44->(j=x)=False/\(x=j)=False:=by
     intro x e sz f rows hx he
     constructor
     ·simp;rintro rfl;rw [hx] at hj;simp at hj;exact he hj.1
     ·simp;rintro rfl;rw [hx] at hj;simp at hj;exact he hj.1
    have htk:List.take i (a0a (a0z i r6).1)=a0a (a0z i r6).1:=List.take_of_length_le (by simp [a0a,li])
    obtain ⟨g1,g2⟩:=ne h1 (by decide)
    obtain ⟨g3,g4⟩:=ne h2 (by decide)
    obtain ⟨g5,g6⟩:=ne h3 (by decide)
    cases c:(bi||decide (200<n))
    ·obtain ⟨c1,c2⟩:=Bool.or_eq_false_iff.1 c
     subst c1
     simp [a8I,er,q0,q2,q3,q4,q33,q34,h1,h2,h3,b9F,a1g,a1Z,p1,p2,d1,d2,d3,d4,c2,ho',hoo,hj,p7,p8,g1,g2,g3,g4,g5,g6,li,og,htk]
     refine ⟨by rw [<-ho];simp,fun a b h=>by rw [h];exact hju,?_⟩
     (repeat' (first|exact a0y.refl _ _|assumption|(refine a0y.set ?_ (by first|(right;simp;done)|(left;simp [hfu];done)|(left;exact hfu _ _ (by omega))|(left;assumption)))))
    ·cases bi
     ·simp only [Bool.false_or] at c
      simp [a8I,er,q0,q2,q3,q4,q33,q34,h1,h2,h3,b9F,a1g,a1Z,p1,p2,d1,d2,d3,d4,c,ho',hoo,hj,p7,p8,g1,g2,g3,g4,g5,g6,li,og,htk]
      refine ⟨by rw [<-ho];simp,fun a b h=>by rw [h];exact hju,?_⟩
      (repeat' (first|exact a0y.refl _ _|assumption|(refine a0y.set ?_ (by first|(right;simp;done)|(left;simp [hfu];done)|(left;exact hfu _ _ (by omega))|(left;assumption)))))
     ·simp [a8I,er,q0,q2,q3,q4,q33,q34,h1,h2,h3,b9F,a1g,a1Z,p1,p2,d1,d2,d3,d4,ho',hoo,hj,p7,p8,g1,g2,g3,g4,g5,g6,li,og,htk]
      refine ⟨by rw [<-ho];simp,fun a b h=>by rw [h];exact hju,?_⟩
      (repeat' (first|exact a0y.refl _ _|assumption|(refine a0y.set ?_ (by first|(right;simp;done)|(left;simp [hfu];done)|(left;exact hfu _ _ (by omega))|(left;assumption)))))
open Go Go.Proofs
theorem b8l (n hi:Int):PEv Tryz.prog 32 [.c (.raw (.int .i64 n)),.c (.raw (.int .i64 hi))] (.c (.raw (.bool (decide (0<=n)&&decide (n<=hi))))):=by
 refine a0e mixed b3L Tryz.func32 d2Q ok32 (by kernel_rfl) (by simp) (by simp) ?_
 simp [s32]
 omega
theorem a4k {n:Int} (h1:0<=n) (h2:n<18446744073709551616):IntKind.wrap .u64 n=n:=by
 have:IntKind.wrap .u64 n=n%18446744073709551616:=by simp [IntKind.wrap,IntKind.bits,IntKind.signed]
 rw [this];omega
theorem b3X (n:Nat):a1Q (List.replicate n [AC.raw (.int .u8 0)])=some (List.replicate n 0):=by
 induction n with
 |zero=>rfl
 |succ n ih=>simp [List.replicate_succ,ih]
def blank:List UInt8:=List.replicate 32 0
theorem b8m (n:Nat) (h:n<=1000000):PEv Tryz.prog 40 [.c (.raw (.int .i64 n))] (.c (.str (List.replicate n 0))):=by
 refine a0e mixed b3L Tryz.func40 d2T d2U (by kernel_rfl) (by simp) (by simp) ?_
 simp [s40,b3X]
 omega
theorem b5T (n:Int) (h:0<=n/\n<=1000000):PEv Tryz.prog 40 [.c (.raw (.int .i64 n))] (.c (.str (List.replicate n.toNat 0))):=by
 have:=b8m n.toNat (by omega)
 rw [Int.toNat_of_nonneg h.1] at this
 exact this
def b5U:List AV->Option (Prop×AV):=t2 (fun _ _=>True) fun n hi:Int=>.c (.raw (.bool (decide (0<=n)&&decide (n<=hi))))
@[simp] theorem d0e {l:List AV}:b5U l=(t2 (fun _ _=>True) fun n hi:Int=>.c (.raw (.bool (decide (0<=n)&&decide (n<=hi))))) l:=(rfl)
def b5V:List AV->Option (Prop×AV):=t1 (fun n=>0<=n/\n<=1000000) fun n:Int=>.c (.str (List.replicate n.toNat 0))
@[simp] theorem d0f {l:List AV}:b5V l=(t1 (fun n=>0<=n/\n<=1000000) fun n:Int=>.c (.str (List.replicate n.toNat 0))) l:=(rfl)
def F2:CT:=(32,.pu b5U)::(40,.pu b5V)::F1
theorem c33:a07 Tryz.prog F2:=⟨a1s fun n hi _=>b8l n hi,
 a0o fun n h=>b5T n h,b3L⟩
@[simp] theorem c64:a0c F2 32=some (.pu b5U):=(rfl)
@[simp] theorem c65:a0c F2 40=some (.pu b5V):=(rfl)
@[simp] theorem d0g {n:Nat} (h:(n==32||n==40)=false):a0c F2 n=a0c F1 n:=by
 simp only [Bool.or_eq_false_iff,beq_eq_false_iff_ne,ne_eq] at h
 simp [F2,a0c,h]
theorem b3Y:PEv Tryz.prog 19 [] (.c (.str blank)):=by
 refine a0e mixed c33 Tryz.func19 d2F d2G (by kernel_rfl) (by simp) (by simp) ?_
 simp [s19,blank]
open Go Go.Proofs
def a5e {α:Type} (f:α->Int):Int->List α->Int
 |n,[]=>n
 |n,x::r=>if n<1048576 then a5e f (n+f x) r else n
def a1h (d:a0l):Int:=a5e (fun s:a4h=>(s.text.length:Int)/16) (a5e (fun s:List UInt8=>(s.length:Int)/64) ((d.safe.length:Int)/4+d.wait.length) d.safe) d.wait
theorem a5f {α:Type} (f:α->Int) (n:Int) (l:List α) (i:Nat) (h:i<l.length) (hn:n<1048576):a5e f n (l.drop i)=a5e f (n+f l[i]) (l.drop (i+1)):=by
 rw [List.drop_eq_getElem_cons h,a5e,if_pos hn]
theorem a5g {α:Type} (f:α->Int) (n:Int) (l:List α) (h:¬n<1048576):a5e f n l=n:=by
 cases l with
 |nil=>rfl
 |cons x r=>rw [a5e,if_neg h]
theorem a8X (d:a0l) (h1:d.safe.length<281474976710656) (h2:d.wait.length<281474976710656) (h3:∀s∈d.safe,s.length<281474976710656) (h4:∀s∈d.wait,s.text.length<281474976710656) :
  PEv Tryz.prog 39 [Arg.enc d] (.c (.raw (.int .i64 (a1h d)))):=by
 have hF:a07 Tryz.prog []:=trivial
 refine a0e mixed hF Tryz.func39 d2R d2S (by kernel_rfl) (by simp) (by simp) ?_
 have e0:IntKind.wrap .i64 (IntKind.wrap .i64 ((d.safe.length:Int)/4)+d.wait.length)=(d.safe.length:Int)/4+d.wait.length:=by
  rw [a0f (n:=(d.safe.length:Int)/4) (by omega) (by omega),a0f (by omega) (by omega)]
 simp [s39,e0]
 generalize hW:a5e (fun s:List UInt8=>(s.length:Int)/64) ((d.safe.length:Int)/4+d.wait.length) d.safe=W
 refine b74 (fun st=>st.s 1=.c (.pt (0,1) 0 0)/\st.H (0,1)=.arr 30 2 false [[.sl .brw false (a0a d.safe),.sl .brw false (a0a d.wait)]]/\st.s 3=.c (.raw (.int .i64 W))/\0<=W/\W<1125899906842624) ?_ ?_
 ·refine a1x (fun n st=>∃(i:Nat) (m:Int),i<=d.safe.length/\n=d.safe.length-i/\st.s 1=.c (.pt (0,1) 0 0)/\st.H (0,1)=.arr 30 2 false [[.sl .brw false (a0a d.safe),.sl .brw false (a0a d.wait)]]/\
   st.s 3=.c (.raw (.int .i64 m))/\st.s 4=.c (.raw (.int .i64 i))/\0<=m/\m<1125899906842624/\a5e (fun s:List UInt8=>(s.length:Int)/64) m (d.safe.drop i)=W)
   d.safe.length ⟨0,(d.safe.length:Int)/4+d.wait.length,by simp [hW];omega⟩ ?_
  rintro n st ⟨i,m,hi,rfl,g1,gH,g3,g4,hm0,hm1,hw⟩
  by_cases hlt:i<d.safe.length
  ·by_cases hm:m<1048576
   ·have hl:=h3 d.safe[i] (List.getElem_mem hlt)
    have e1:IntKind.wrap .i64 (m+IntKind.wrap .i64 ((d.safe[i].length:Int)/64))=m+(d.safe[i].length:Int)/64:=by
     rw [a0f (n:=(d.safe[i].length:Int)/64) (by omega) (by omega),a0f (by omega) (by omega)]
    have e2:IntKind.wrap .i64 ((i:Int)+1)=((i+1:Nat):Int):=by rw [a0f]<;>omega
    simp [a8z,a9Q,g1,gH,g3,g4,hlt,hm,e1,e2]
    refine ⟨_,?_,i+1,?_,rfl,rfl,?_,?_,?_⟩
    ·omega
    ·omega
    ·omega
    ·omega
    ·rw [<-hw,a5f _ _ _ _ hlt hm]
   ·rw [a5g _ _ _ hm] at hw
    subst hw
    simp [a8z,a9Q,g1,gH,g3,g4,hlt,hm]
    omega
  ·have:d.safe.drop i=[]:=List.drop_eq_nil_of_le (by omega)
   rw [this,a5e] at hw
   subst hw
   simp [a8z,a9Q,g1,gH,g3,g4,hlt]
   omega
 ·rintro st ⟨g1,gH,g3,hW0,hW1⟩
  simp [a8z,a9Q,g1,gH,g3]
  have hV:a1h d=a5e (fun s:a4h=>(s.text.length:Int)/16) W d.wait:=by rw [<-hW];rfl
  refine a1x (fun n st=>∃(i:Nat) (m:Int),i<=d.wait.length/\n=d.wait.length-i/\st.s 1=.c (.pt (0,1) 0 0)/\st.H (0,1)=.arr 30 2 false [[.sl .brw false (a0a d.safe),.sl .brw false (a0a d.wait)]]/\
   st.s 3=.c (.raw (.int .i64 m))/\st.s 5=.c (.raw (.int .i64 i))/\0<=m/\m<2251799813685248/\a5e (fun s:a4h=>(s.text.length:Int)/16) m (d.wait.drop i)=a1h d)
   d.wait.length ⟨0,W,by simp [hV,g1,gH,g3];omega⟩ ?_
  rintro n st ⟨i,m,hi,rfl,g1,gH,g3,g4,hm0,hm1,hw⟩
  by_cases hlt:i<d.wait.length
  ·by_cases hm:m<1048576
   ·have hl:=h4 d.wait[i] (List.getElem_mem hlt)
    have e1:IntKind.wrap .i64 (m+IntKind.wrap .i64 ((d.wait[i].text.length:Int)/16))=m+(d.wait[i].text.length:Int)/16:=by
     rw [a0f (n:=(d.wait[i].text.length:Int)/16) (by omega) (by omega),a0f (by omega) (by omega)]
    have e2:IntKind.wrap .i64 ((i:Int)+1)=((i+1:Nat):Int):=by rw [a0f]<;>omega
    simp [a8z,a9Q,g1,gH,g3,g4,hlt,hm,e1,e2]
    refine ⟨_,?_,i+1,?_,rfl,rfl,?_,?_,?_⟩
    ·omega
    ·omega
    ·omega
    ·omega
    ·rw [<-hw,a5f _ _ _ _ hlt hm]
   ·rw [a5g _ _ _ hm] at hw
    subst hw
    simp [a8z,a9Q,g1,gH,g3,g4,hlt,hm]
  ·have:d.wait.drop i=[]:=List.drop_eq_nil_of_le (by omega)
   rw [this,a5e] at hw
   subst hw
   simp [a8z,a9Q,g1,gH,g3,g4,hlt]
open Go Go.Proofs
theorem b3Z (l:List (List UInt8)) (hl:l.length<1000000):PEv Tryz.prog 27 [.c (.sl .brw false (a0a l))] (.c (.nw 9 1 (a0a l))):=by
 have hF:a07 Tryz.prog []:=trivial
 refine a0e mixed hF Tryz.func27 sl27 d2N (by kernel_rfl) (by simp) (by simp) ?_
 simp [s27]
 omega
theorem b30 (l:List a4h) (hl:l.length<1000000):PEv Tryz.prog 76 [.c (.sl .brw false (a0a l))] (.c (.nw 73 2 (a0a l))):=by
 have hF:a07 Tryz.prog []:=trivial
 refine a0e mixed hF Tryz.func76 d3p d3q (by kernel_rfl) (by simp) (by simp) ?_
 simp [s76]
 omega
def b5W:List AV->Option (Prop×AV):=t1 (fun l=>l.length<1000000) fun l:List (List UInt8)=>.c (.nw 9 1 (a0a l))
@[simp] theorem d0h {l:List AV}:b5W l=(t1 (fun l=>l.length<1000000) fun l:List (List UInt8)=>.c (.nw 9 1 (a0a l))) l:=(rfl)
def b5X:List AV->Option (Prop×AV):=t1 (fun l=>l.length<1000000) fun l:List a4h=>.c (.nw 73 2 (a0a l))
@[simp] theorem d0i {l:List AV}:b5X l=(t1 (fun l=>l.length<1000000) fun l:List a4h=>.c (.nw 73 2 (a0a l))) l:=(rfl)
def F3:CT:=(27,.pu b5W)::(76,.pu b5X)::F2
theorem c34:a07 Tryz.prog F3:=⟨a0o fun l h=>b3Z l h,
 a0o fun l h=>b30 l h,c33⟩
@[simp] theorem c66:a0c F3 27=some (.pu b5W):=(rfl)
@[simp] theorem c67:a0c F3 76=some (.pu b5X):=(rfl)
@[simp] theorem d0j {n:Nat} (h:(n==27||n==76)=false):a0c F3 n=a0c F2 n:=by
 simp only [Bool.or_eq_false_iff,beq_eq_false_iff_ne,ne_eq] at h
 simp [F3,a0c,h]
theorem b8n (d:a0l) (h1:d.safe.length<1000000) (h2:d.wait.length<1000000):PEv Tryz.prog 54 [Arg.enc d] (.g (a0w d)):=by
 refine a0e mixed c34 Tryz.func54 d3f d3g (by kernel_rfl) (by simp [a0w]) (by simp) ?_
 simp [s54,h1,h2,a0w]
open Go Go.Proofs
def idxOf {α:Type} (p:α->Bool):Nat->List α->Int
 |_,[]=>-1
 |i,x::r=>if p x=true then i else idxOf p (i+1) r
theorem a7p (g:FuncId) (caps:List AC) (p:List UInt8->Bool) (l:List (List UInt8)) (hl:l.length<1000000) (a7g:∀c∈caps,b4w c) (b2v:a3c a0j (caps.map .c)=some (caps.map .c))
  (hp:∀s∈l,PEv Tryz.prog g (.c (.str s)::caps.map .c) (.c (.raw (.bool (p s))))) :
  PEv Tryz.prog 65 [.c (.sl .brw false (a0a l)),.c (.fn g caps)] (.c (.raw (.int .i64 (idxOf p 0 l)))):=by
 have hF:a07 Tryz.prog []:=trivial
 refine a0e mixed hF Tryz.func65 d3l d3m (by kernel_rfl) (by simp) (by simpa using a7g) ?_
 simp [s65]
 refine a1x (fun n st=>∃i:Nat,i<=l.length/\n=l.length-i/\st.s 0=.c (.sl .brw false (a0a l))/\st.s 1=.c (.fn g caps)/\st.s 7=.c (.raw (.int .i64 l.length))/\st.s 8=.c (.raw (.int .i64 i))/\st.H=a0j/\
  idxOf p i (l.drop i)=idxOf p 0 l) l.length ⟨0,by simp⟩ ?_
 rintro n st ⟨i,hi,rfl,h0,h1,h7,h8,hH,hx⟩
 by_cases hlt:i<l.length
 ·have hw:IntKind.wrap .i64 ((i:Int)+1)=((i+1:Nat):Int):=by rw [a0f]<;>omega
  have hev:=hp l[i] (List.getElem_mem hlt)
  simp [b7G,h0,h1,h7,h8,hH,hlt]
  refine a0Q hev ?_ (by simp) (by simp) ?_
  ·simp [hH,b2v]
  ·rw [List.drop_eq_getElem_cons hlt,idxOf] at hx
   simp [b7G,h0,h1,h7,h8,hH,hlt,hw]
   refine ⟨fun e=>by rw [if_pos e] at hx;exact hx,fun e=>⟨_,?_,i+1,?_,rfl,rfl,?_⟩⟩
   ·omega
   ·omega
   ·rw [if_neg (by simp [e])] at hx;exact hx
 ·simp [b7G,h0,h1,h7,h8,hH,hlt]
  rw [<-hx,List.drop_eq_nil_of_le (by omega)]
  rfl
theorem a7q (g:FuncId) (caps:List AC) (p:a4h->Bool) (l:List a4h) (hl:l.length<1000000) (a7g:∀c∈caps,b4w c) (b2v:a3c a0j (caps.map .c)=some (caps.map .c))
  (hp:∀s∈l,PEv Tryz.prog g (.g [.raw (.int .i64 s.at_),.str s.text]::caps.map .c) (.c (.raw (.bool (p s))))) :
  PEv Tryz.prog 66 [.c (.sl .brw false (a0a l)),.c (.fn g caps)] (.c (.raw (.int .i64 (idxOf p 0 l)))):=by
 have hF:a07 Tryz.prog []:=trivial
 refine a0e mixed hF Tryz.func66 d3n d3o (by kernel_rfl) (by simp) (by simpa using a7g) ?_
 simp [s66]
 refine a1x (fun n st=>∃i:Nat,i<=l.length/\n=l.length-i/\st.s 0=.c (.sl .brw false (a0a l))/\st.s 1=.c (.fn g caps)/\st.s 7=.c (.raw (.int .i64 l.length))/\st.s 8=.c (.raw (.int .i64 i))/\st.H=a0j/\
  idxOf p i (l.drop i)=idxOf p 0 l) l.length ⟨0,by simp⟩ ?_
 rintro n st ⟨i,hi,rfl,h0,h1,h7,h8,hH,hx⟩
 by_cases hlt:i<l.length
 ·have hw:IntKind.wrap .i64 ((i:Int)+1)=((i+1:Nat):Int):=by rw [a0f]<;>omega
  have hev:=hp l[i] (List.getElem_mem hlt)
  simp [b7H,h0,h1,h7,h8,hH,hlt]
  refine a0Q hev ?_ (by simp) (by simp) ?_
  ·simp [hH,b2v]
  ·rw [List.drop_eq_getElem_cons hlt,idxOf] at hx
   simp [b7H,h0,h1,h7,h8,hH,hlt,hw]
   refine ⟨fun e=>by rw [if_pos e] at hx;exact hx,fun e=>⟨_,?_,i+1,?_,rfl,rfl,?_⟩⟩
   ·omega
   ·omega
   ·rw [if_neg (by simp [e])] at hx;exact hx
 ·simp [b7H,h0,h1,h7,h8,hH,hlt]
  rw [<-hx,List.drop_eq_nil_of_le (by omega)]
  rfl
theorem a6T {α:Type} (p:α->Bool):∀(l:List α) (i:Nat),(0<=idxOf p i l)↔l.any p=true
 |[],i=>by simp [idxOf]
 |x::r,i=>by
  rw [idxOf,List.any_cons]
  by_cases h:p x=true
  ·simp [h]
  ·rw [if_neg h,a6T p r (i+1)]
   simp [h]
open Go Go.Proofs
theorem a8Y (g:FuncId) (caps:List AC) (p:List UInt8->Bool) (l:List (List UInt8)) (hl:l.length<1000000) (a7g:∀c∈caps,b4w c) (b2v:a3c a0j (caps.map .c)=some (caps.map .c)) (b61:a2Z a0j caps=some caps)
  (hp:∀s∈l,PEv Tryz.prog g (.c (.str s)::caps.map .c) (.c (.raw (.bool (p s))))) :
  PEv Tryz.prog 43 [.c (.sl .brw false (a0a l)),.c (.fn g caps)] (.c (.raw (.bool (l.any p)))):=by
 have hF:a07 Tryz.prog []:=trivial
 refine a0e mixed hF Tryz.func43 d2V d2W (by kernel_rfl) (by simp) (by simpa using a7g) ?_
 simp [s43]
 refine a0Q (a7p g caps p l hl a7g b2v hp) (by simp [b61]) (by simp) (by simp) ?_
 simp
 rw [Bool.eq_iff_iff,decide_eq_true_iff]
 exact a6T p l 0
theorem a8Z (g:FuncId) (caps:List AC) (p:a4h->Bool) (l:List a4h) (hl:l.length<1000000) (a7g:∀c∈caps,b4w c) (b2v:a3c a0j (caps.map .c)=some (caps.map .c)) (b61:a2Z a0j caps=some caps)
  (hp:∀s∈l,PEv Tryz.prog g (.g [.raw (.int .i64 s.at_),.str s.text]::caps.map .c) (.c (.raw (.bool (p s))))) :
  PEv Tryz.prog 46 [.c (.sl .brw false (a0a l)),.c (.fn g caps)] (.c (.raw (.bool (l.any p)))):=by
 have hF:a07 Tryz.prog []:=trivial
 refine a0e mixed hF Tryz.func46 d3b d3c (by kernel_rfl) (by simp) (by simpa using a7g) ?_
 simp [s46]
 refine a0Q (a7q g caps p l hl a7g b2v hp) (by simp [b61]) (by simp) (by simp) ?_
 simp
 rw [Bool.eq_iff_iff,decide_eq_true_iff]
 exact a6T p l 0
def a55 (s:List UInt8):Bool:=decide (s.length=32)
theorem c0T (s:List UInt8):PEv Tryz.prog 44 [.c (.str s)] (.c (.raw (.bool (!a55 s)))):=by
 refine a0e mixed b3L Tryz.func44 d2X d2Y (by kernel_rfl) (by simp) (by simp) ?_
 simp [s44,a55]
def a3Z (n:Nat) (x:a4h):Bool:=!a55 x.text||decide (x.at_<0)||decide ((n:Int)<=x.at_)
theorem c0U (d:a0l) (x:a4h):PEv Tryz.prog 47 [.g [.raw (.int .i64 x.at_),.str x.text],.c (.pv .brw [.sl .brw false (a0a d.safe),.sl .brw false (a0a d.wait)] 0)] (.c (.raw (.bool (a3Z d.safe.length x)))):=by
 refine a0e mixed b3L Tryz.func47 d3d d3e (by kernel_rfl) (by simp) (by simp) ?_
 simp [s47,a3Z,a55]
 omega
open Go Go.Proofs
def a3s (d:a0l):Bool:=decide (1<=d.safe.length)&&decide (d.safe.length<=400)&&decide (d.wait.length<=400)&&d.safe.all a55&&d.wait.all fun x=>!a3Z d.safe.length x
theorem c0V {α:Type} (p:α->Bool) (l:List α):(l.any fun x=>!p x)=!l.all p:=by
 induction l with
 |nil=>rfl
 |cons x r ih=>simp [ih]
theorem c35 (d:a0l) (h1:d.safe.length<1000000) (h2:d.wait.length<1000000):PEv Tryz.prog 22 [Arg.enc d] (.c (.raw (.bool (a3s d)))):=by
 refine a0e mixed b3L Tryz.func22 d2H d2I (by kernel_rfl) (by simp) (by simp) ?_
 simp [s22]
 refine ⟨fun g1=>⟨fun g2=>⟨fun g3=>?_,fun g3=>?_⟩,fun g2=>?_⟩,fun g1=>?_⟩
 ·simp [a3s];omega
 ·refine a0Q (a8Y 44 [] (fun s=>!a55 s) d.safe h1 (by simp) (by simp) (by simp) fun s _=>c0T s) ?_ (by simp) (by simp) ?_
  ·simp
  ·simp
   refine ⟨fun s hs hx=>?_,fun hs=>?_⟩
   ·simp [a3s];intro _ _ _ ha;rw [ha s hs] at hx;cases hx
   ·refine a0Q (a8Z 47 [.pv .brw [.sl .brw false (a0a d.safe),.sl .brw false (a0a d.wait)] 0] (a3Z d.safe.length) d.wait h2 (by simp) (by simp) (by simp) fun x _=>c0U d x) ?_ (by simp) (by simp) ?_
    ·simp
    ·simp
     have e:d.safe.all a55=true:=List.all_eq_true.2 hs
     have e2:d.wait.any (a3Z d.safe.length)=!d.wait.all fun x=>!a3Z d.safe.length x:=by rw [<-c0V];simp
     rw [e2,a3s,e]
     simp [show 1<=d.safe.length by omega,show d.safe.length<=400 by omega,show d.wait.length<=400 by omega]
 ·simp [a3s];omega
 ·simp [a3s];omega
open Go Go.Proofs
def b2X (safe:List (List UInt8)) (w:a4h) (k:Int):List (List UInt8):=
 if k=1 then safe.set w.at_.toNat w.text else if k=2 then safe.set w.at_.toNat (w.text.take 16++(safe.getD w.at_.toNat []).drop 16) else safe
def a2t (keep:List Int) (i:Nat):Int:=if (keep.getD i 0)<0 then 0 else (keep.getD i 0)%3
def a1T (keep:List Int):Nat->List (List UInt8)->List a4h->List (List UInt8)
 |_,safe,[]=>safe
 |i,safe,w::r=>a1T keep (i+1) (b2X safe w (a2t keep i)) r
theorem a6U (safe:List (List UInt8)) (w:a4h) (k:Int):(b2X safe w k).length=safe.length:=by
 unfold b2X;split<;>(try split)<;>simp
theorem a4v (keep:List Int):∀(l:List a4h) (i:Nat) (safe:List (List UInt8)),(a1T keep i safe l).length=safe.length
 |[],_,_=>rfl
 |w::r,i,safe=>by rw [a1T,a4v,a6U]
theorem c0W {d:a0l} (h:a3s d=true):1<=d.safe.length/\d.safe.length<=400/\d.wait.length<=400/\(∀s∈d.safe,s.length=32)/\∀x∈d.wait,x.text.length=32/\0<=x.at_/\x.at_<d.safe.length:=by
 simp only [a3s,Bool.and_eq_true,decide_eq_true_eq,List.all_eq_true] at h
 obtain ⟨⟨⟨⟨h1,h2⟩,h3⟩,h4⟩,h5⟩:=h
 refine ⟨h1,h2,h3,fun s hs=>by simpa [a55] using h4 s hs,fun x hx=>?_⟩
 have:=h5 x hx
 simp [a3Z,a55] at this
 omega
theorem b5Y {α:Type} {p:α->Prop} {l:List α} {i:Nat} {x:α} (h:∀s∈l,p s) (hx:p x):∀s∈l.set i x,p s:=fun s hs=>by
 rcases List.mem_or_eq_of_mem_set hs with q|q
 ·exact h s q
 ·rw [q];exact hx
theorem b8o {safe:List (List UInt8)} {w:a4h} {k:Int} (h:∀s∈safe,s.length=32) (hw:w.text.length=32) (h0:0<=w.at_) (h1:w.at_<safe.length):∀s∈b2X safe w k,s.length=32:=by
 unfold b2X
 split
 ·exact b5Y h hw
 ·split
  ·refine b5Y h ?_
   have:w.at_.toNat<safe.length:=by omega
   have:=h (safe.getD w.at_.toNat []) (by simp [List.getD,this])
   simp [hw] at this ⊢
   omega
  ·exact h
def c0X (H:Heap) (v i:Id) (safe:List (List UInt8)):Prop:=H v=.arr 30 2 false [[.so i 0 safe.length,.raw (.slice none 0 0)]]/\H i=.arr 9 1 false (a0a safe)/\v≠i
theorem b5Z {keep:List Int} {i:Nat} (hk:i<keep.length):keep.getD i 0=keep[i]:=by simp [List.getD,hk]
theorem a7S {l:List (List UInt8)} {i:Nat} {a:List UInt8}:a0a (l.set i a)=(a0a l).set i [AC.str a]:=(b5n l i a).symm
theorem a98 {F:CT} (d:a0l) (keep:List Int) (hd:a3s d=true) (hkl:keep.length<281474976710656) {Q:AEx->St->Prop} {st:St} (b v i:Id) (k6:st.s 6=.c (.pt v 0 0)) (b4:Id) (k4:st.s 4=.c (.pt b4 0 0))
  (k1:st.s 1=.c (.sl .brw false (a0a keep))) (kv:c0X st.H v i d.safe) (k18:st.s 18=.c (.sl .brw false (a0a d.wait))) (k19:st.s 19=.c (.raw (.int .i64 d.wait.length))) (k20:st.s 20=.c (.raw (.int .i64 0)))
  (hf:a0v st.H st.T)
  (hn:∀st',st'.s 6=.c (.pt v 0 0)->st'.s 4=.c (.pt b4 0 0)->st'.H i=.arr 9 1 false (a0a (a1T keep 0 d.safe d.wait))->a29 [i] st.H st.T st'.H st'.T->Q (.exit 0) st') :
  a14 Tryz.prog F (.loop a9P) Q st:=by
 obtain ⟨hd1,hd2,hd3,hd4,hd5⟩:=c0W hd
 obtain ⟨kv,ki,hvi⟩:=kv
 refine a1x (fun n st'=>∃(j:Nat) (safe:List (List UInt8)),j<=d.wait.length/\n=d.wait.length-j/\safe.length=d.safe.length/\(∀s∈safe,s.length=32)/\st'.s 6=.c (.pt v 0 0)/\st'.s 4=.c (.pt b4 0 0)/\
  st'.s 1=.c (.sl .brw false (a0a keep))/\st'.H i=.arr 9 1 false (a0a safe)/\st'.s 18=.c (.sl .brw false (a0a d.wait))/\st'.s 19=.c (.raw (.int .i64 d.wait.length))/\st'.s 20=.c (.raw (.int .i64 j))/\a29 [i] st.H st.T st'.H st'.T/\
  a1T keep j safe (d.wait.drop j)=a1T keep 0 d.safe d.wait) d.wait.length ⟨0,d.safe,by simp [k6,k4,k1,ki,k18,k19,k20,a29.refl hf];exact hd4⟩ ?_
 rintro n st' ⟨j,safe,hj,rfl,hl,hs,k6,k4,k1,ki,k18,k19,k20,he,hc⟩
 have hf':=he.fresh
 have kv:=he.arr kv (by simpa using hvi)
 obtain ⟨f4,f5,f6⟩:=hf'.arr kv
 obtain ⟨f7,f8,f9⟩:=hf'.arr ki
 have hfu:∀k d,st'.T<=k->st'.H (k,d)=.a0b:=hf'
 have hT:=he.2.2.1
 have hiv:(i=v)=False:=by simp only [eq_iff_iff,iff_false];exact fun e=>hvi e.symm
 by_cases hlt:j<d.wait.length
 ·have e2:IntKind.wrap .i64 ((j:Int)+1)=((j+1:Nat):Int):=by rw [a0f]<;>omega
  obtain ⟨w1,w2,w3⟩:=hd5 d.wait[j] (List.getElem_mem hlt)
  have w4:d.wait[j].at_.toNat<safe.length:=by omega
  have w5:d.wait[j].at_<safe.length:=by omega
  have w5':d.wait[j].at_<d.safe.length:=w3
  have w6:=hs safe[d.wait[j].at_.toNat] (List.getElem_mem w4)
  rw [List.drop_eq_getElem_cons hlt,a1T] at hc
  have hlen:(b2X safe d.wait[j] (a2t keep j)).length=d.safe.length:=by rw [a6U,hl]
  have b4A:=b8o (k:=a2t keep j) hs w1 w2 w5
  by_cases hk:j<keep.length
  ·have t3:0<=keep[j]->keep[j].tmod 3=keep[j]%3:=fun h=>Int.tmod_eq_emod_of_nonneg h
   have kA:a2t keep j=if keep[j]<0 then 0 else keep[j]%3:=by rw [a2t,b5Z hk]
   have hk':(keep.length<=j)=False:=by simp;omega
   by_cases g:keep[j]<0
   ·simp [a9P,k6,k4,k1,kv,ki,k18,k19,k20,hlt,e2,f4,f5,f7,f8,hfu,hk,hk',w1,w2,w4,w5',hiv,w6,g]
    refine ⟨d.wait.length-(j+1),by omega,j+1,by omega,rfl,_,hlen,b4A,?_,rfl,?_,hc⟩
    ·rw [kA,if_pos g];simp [b2X]
    ·repeat' (first|exact he.tick (by first|omega|(simp<;>omega))|(refine a29.new ?_ (by first|omega|(simp<;>omega)) (by first|omega|(simp<;>omega)))|(refine a29.set ?_ (by simp) (by first|omega|(simp<;>omega))))
   ·have g':(keep[j]<0)=False:=by simp;omega
    by_cases g1:keep[j].tmod 3=1
    ·simp [a9P,k6,k4,k1,kv,ki,k18,k19,k20,hlt,e2,f4,f5,f7,f8,hfu,hk,hk',w1,w2,w4,w5',hiv,w6,g',g1]
     refine ⟨d.wait.length-(j+1),by omega,j+1,by omega,rfl,_,hlen,b4A,?_,rfl,?_,hc⟩
     ·rw [kA,if_neg (by omega),<-t3 (by omega),g1];simp [b2X,a7S]
     ·repeat' (first|exact he.tick (by first|omega|(simp<;>omega))|(refine a29.new ?_ (by first|omega|(simp<;>omega)) (by first|omega|(simp<;>omega)))|(refine a29.set ?_ (by simp) (by first|omega|(simp<;>omega))))
    ·by_cases g2:keep[j].tmod 3=2
     ·simp [a9P,k6,k4,k1,kv,ki,k18,k19,k20,hlt,e2,f4,f5,f7,f8,hfu,hk,hk',w1,w2,w4,w5',hiv,w6,g',g1,g2]
      refine ⟨d.wait.length-(j+1),by omega,j+1,by omega,rfl,_,hlen,b4A,?_,rfl,?_,hc⟩
      ·rw [kA,if_neg (by omega),<-t3 (by omega),g2];simp [b2X,a7S,w4,List.take_of_length_le (Nat.le_of_eq w6)]
      ·repeat' (first|exact he.tick (by first|omega|(simp<;>omega))|(refine a29.new ?_ (by first|omega|(simp<;>omega)) (by first|omega|(simp<;>omega)))|(refine a29.set ?_ (by simp) (by first|omega|(simp<;>omega))))
     ·simp [a9P,k6,k4,k1,kv,ki,k18,k19,k20,hlt,e2,f4,f5,f7,f8,hfu,hk,hk',w1,w2,w4,w5',hiv,w6,g',g1,g2]
      refine ⟨d.wait.length-(j+1),by omega,j+1,by omega,rfl,_,hlen,b4A,?_,rfl,?_,hc⟩
      ·rw [kA,if_neg (by omega),<-t3 (by omega)];simp [b2X,g1,g2]
      ·repeat' (first|exact he.tick (by first|omega|(simp<;>omega))|(refine a29.new ?_ (by first|omega|(simp<;>omega)) (by first|omega|(simp<;>omega)))|(refine a29.set ?_ (by simp) (by first|omega|(simp<;>omega))))
  ·have kA:a2t keep j=0:=by simp [a2t,List.getD,hk]
   simp [a9P,k6,k4,k1,kv,ki,k18,k19,k20,hlt,e2,f4,f5,f7,f8,hfu,hk,w1,w2,w4,w5',hiv,w6]
   refine fun _=>⟨d.wait.length-(j+1),by omega,j+1,by omega,rfl,_,hlen,b4A,?_,rfl,?_,hc⟩
   ·rw [kA];simp [b2X]
   ·repeat' (first|exact he.tick (by first|omega|(simp<;>omega))|(refine a29.new ?_ (by first|omega|(simp<;>omega)) (by first|omega|(simp<;>omega)))|(refine a29.set ?_ (by simp) (by first|omega|(simp<;>omega))))
 ·have:j=d.wait.length:=by omega
  subst this
  simp [a9P,k6,k1,kv,ki,k18,k19,k20,hlt]
  rw [List.drop_length,a1T] at hc
  exact hn _ (by simp [k6]) (by simp [k4]) (by rw [<-hc];simpa using ki) (he.tick (by simp))
open Go Go.Proofs
def b50:List AV->Option (Prop×AV):=t1 (fun d:a0l=>d.safe.length<1000000/\d.wait.length<1000000) fun d:a0l=>.c (.raw (.bool (a3s d)))
@[simp] theorem d0k {l:List AV}:b50 l=(t1 (fun d:a0l=>d.safe.length<1000000/\d.wait.length<1000000) fun d:a0l=>.c (.raw (.bool (a3s d)))) l:=(rfl)
def b51:List AV->Option (Prop×AV):=t1 (fun d:a0l=>d.safe.length<1000000/\d.wait.length<1000000) fun d:a0l=>.g (a0w d)
@[simp] theorem d0l {l:List AV}:b51 l=(t1 (fun d:a0l=>d.safe.length<1000000/\d.wait.length<1000000) fun d:a0l=>.g (a0w d)) l:=(rfl)
def b52:List AV->Option (Prop×AV):=t0 (.c (.str blank))
@[simp] theorem d0m {l:List AV}:b52 l=(t0 (.c (.str blank))) l:=(rfl)
def F4:CT:=(22,.pu b50)::(54,.pu b51)::(19,.pu b52)::F3
theorem a81:a07 Tryz.prog F4:=⟨a0o fun d h=>c35 d h.1 h.2,
 a0o fun d h=>b8n d h.1 h.2,
 b2R b3Y,c34⟩
@[simp] theorem c68:a0c F4 22=some (.pu b50):=(rfl)
@[simp] theorem c69:a0c F4 54=some (.pu b51):=(rfl)
@[simp] theorem c7a:a0c F4 19=some (.pu b52):=(rfl)
@[simp] theorem d0n {n:Nat} (h:(n==22||n==54||n==19)=false):a0c F4 n=a0c F3 n:=by
 simp only [Bool.or_eq_false_iff,beq_eq_false_iff_ne,ne_eq] at h
 simp [F4,a0c,h]
def a4w (d:a0l) (keep:List Int):a0l×Int:=if a3s d=true then (⟨a1T keep 0 d.safe d.wait,[]⟩,0) else (⟨[],[]⟩,1)
def a1n (r:a0l×Int):AV:=.t [(true,a0w r.1),(false,[.raw (.int .i64 r.2)])]
theorem a30 (d:a0l) (keep:List Int) (h1:d.safe.length<1000000) (h2:d.wait.length<1000000) (h3:keep.length<281474976710656) :
  PEv Tryz.prog 10 [Arg.enc d,.c (.sl .brw false (a0a keep))] (a1n (a4w d keep)):=by
 refine a0e mixed a81 Tryz.func10 sl10 d2C (by kernel_rfl) (by simp [a1n,a0w]) (by simp) ?_
 unfold a4w
 by_cases hm:a3s d=true
 ·simp [s10,h1,h2,hm]
  refine a98 d keep hm h3 (0,2) (2,6) (2,16384) (by simp) (0,4) (by simp) (by simp) ⟨by simp,by simp,by simp⟩ (by simp) (by simp) (by simp) (by (simp;repeat' (first|exact a1r.mono (Nat.zero_le _)|(refine a0v.set' ?_ (by simp))))) ?_
  intro st' k6 k4 ki he
  have kv:=he.1 (2,6)
  have k4':=he.1 (0,4)
  simp at kv k4'
  simp [k6,k4,kv,k4',ki,a4v,a1n,a0w]
 ·simp [s10,h1,h2,hm]
  simp [a1n,a0w]
end Go.AE
