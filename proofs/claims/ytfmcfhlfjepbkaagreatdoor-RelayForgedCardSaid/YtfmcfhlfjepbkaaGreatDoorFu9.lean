/- RelayFull, RelayForged, RelayOpens: the walks and the reading. -/
import Derived.Test.YtfmcfhlfjepbkaaGreatDoorFu7
import Derived.Test.YtfmcfhlfjepbkaaGreatDoorFu8
set_option linter.unusedVariables false
set_option linter.unusedSimpArgs false
set_option maxHeartbeats 4000000
set_option maxRecDepth 1000000
namespace Go.AE
open Go Go.Proofs
theorem a8F (o:OpV) (h1:o.text.length<281474976710656) (h2:o.gone.length<281474976710656):0<=a2y o/\a2y o<=562949953421312:=by
 unfold a2y
 omega
def b4Z (l:List OpV):Int:=a8V a2y l.length l
theorem c9G (l:List OpV) (hl:l.length<281474976710656) (h:∀o∈l,o.text.length<281474976710656/\o.gone.length<281474976710656):(l.length:Int)<=b4Z l/\b4Z l<=562949954469888:=by
 have a1:=b4Y a2y l l.length fun o ho=>(a8F o (h o ho).1 (h o ho).2).1
 have a2:=a6C a2y 562949953421312 l l.length (fun o ho=>a8F o (h o ho).1 (h o ho).2) (by omega) (by omega)
 unfold b4Z
 omega
def f3t (l:List OpV) (q:Nat) (st:St):Prop:=∃(i:Nat) (m:Int),i<=l.length/\q=l.length-i/\st.s 0=.c (.sl .brw false (a0a l))/\st.s 3=.c (.raw (.int .i64 m))/\st.s 4=.c (.raw (.int .i64 i))/\0<=m/\m<1125899906842624/\a8V a2y m (l.drop i)=b4Z l
def b9i:List AV->Option (Prop×AV):=t1 (fun o=>o.text.length<4611686018427387904/\o.gone.length<4611686018427387904) fun o:OpV=>.c (.raw (.int .i64 (a2y o)))
@[simp] theorem e5N {l:List AV}:b9i l=(t1 (fun o=>o.text.length<4611686018427387904/\o.gone.length<4611686018427387904) fun o:OpV=>.c (.raw (.int .i64 (a2y o)))) l:=(rfl)
def FK3:CT:=(97,.pu b9i)::FK2
theorem e1c:a1k Tryz.prog FK3:=⟨a0n fun o h=>b77 o h.1 h.2,d9k⟩
@[simp] theorem e1d:a0c FK3 97=some (.pu b9i):=(rfl)
theorem b6R (l:List OpV) (hl:l.length<281474976710656) (h:∀o∈l,o.text.length<281474976710656/\o.gone.length<281474976710656):PEv Tryz.prog 46 [.c (.sl .brw false (a0a l))] (.c (.raw (.int .i64 (b4Z l)))):=by
 refine a0f mixed e1c Tryz.func46 f9u f9v (by kernel_rfl) (by simp) (by simp) ?_
 simp [s46]
 refine a6I (f3t l) l.length ⟨0,l.length,by omega,rfl,by simp,by simp,by simp,by omega,by omega,by simp [b4Z]⟩ ?_
 rintro q st ⟨i,m,hi,rfl,k0,k3,k4,hm0,hm1,hw⟩ J hJ
 by_cases hlt:i<l.length
 ·have hlt':(i:Int)<l.length:=by omega
  by_cases hm:m<1048576
  ·obtain ⟨t1,t2⟩:=h l[i] (List.getElem_mem hlt)
   obtain ⟨w1,w2⟩:=a8F l[i] t1 t2
   have t3:l[i].text.length<4611686018427387904:=by omega
   have t4:l[i].gone.length<4611686018427387904:=by omega
   have e1:IntKind.wrap .i64 (m+a2y l[i])=m+a2y l[i]:=by rw [a0d]<;>omega
   have e2:IntKind.wrap .i64 ((i:Int)+1)=((i+1:Nat):Int):=by rw [a0d]<;>omega
   simp [c7l,k0,k3,k4,hlt,hlt',hm,e1,e2,t3,t4,a0e]
   exact ⟨l.length-(i+1),by omega,hJ _ _ ⟨i+1,m+a2y l[i],by omega,rfl,by simp [k0],by simp,by simp,by omega,by omega,by rw [<-hw,a7y _ _ _ _ hlt hm]⟩⟩
  ·rw [a7z _ _ _ hm] at hw
   subst hw
   simp [c7l,k0,k3,k4,hlt,hlt',hm]
 ·have hlt':¬(i:Int)<l.length:=by omega
  have:l.drop i=[]:=List.drop_eq_nil_of_le (by omega)
  rw [this,a8V] at hw
  subst hw
  simp [c7l,k0,k3,k4,hlt,hlt']
structure f3u where
 ops:List OpV
 elems:List a0F
 nums:List Int
instance f3v:Arg f3u where
 enc p:=.g [.sl .brw false (a0a p.ops),.sl .brw false (a0a p.elems),.sl .brw false (a0a p.nums)]
 dec|.g [.sl .brw false a,.sl .brw false b,.sl .brw false l]=>(match a4A a,a4A b,a4A l with|some a,some b,some l=>some ⟨a,b,l⟩|_,_,_=>none)|_=>none
 a1o {x p} h:=by
  split at h
  ·split at h
   ·rename_i h1 h2 h3
    cases h
    rw [a0O h1,a0O h2,a0O h3]
   ·cases h
  ·cases h
@[simp] theorem e5O (p:f3u):Arg.enc p=.g [.sl .brw false (a0a p.ops),.sl .brw false (a0a p.elems),.sl .brw false (a0a p.nums)]:=rfl
open Go Go.Proofs
structure b9j where
 do_:Int
 m:a02
 k:List Int
instance f3w:Enc b9j where
 w:=9
 row a:=[.raw (.int .i64 a.do_),.raw (.int .i64 a.m.kind),.raw (.int .i64 a.m.site),.raw (.int .i64 a.m.a0H),.raw (.int .i64 a.m.known),.raw (.int .i64 a.m.seq),.raw (.int .i64 a.m.err),.sl .old false (a0a a.m.ops),.sl .old false (a0a a.k)]
 dec|[.raw (.int .i64 d),.raw (.int .i64 m1),.raw (.int .i64 m2),.raw (.int .i64 m3),.raw (.int .i64 m4),.raw (.int .i64 m5),.raw (.int .i64 m6),.sl .old false l,.sl .old false k]=>(match a4A l,a4A k with|some l,some k=>some ⟨d,⟨m1,m2,m3,m4,m5,m6,l⟩,k⟩|_,_=>none)|_=>none
 a36 a:=by simp
 a3O {r a} h:=by
  split at h
  ·split at h
   ·rename_i h1 h2
    cases h
    rw [a0O h1,a0O h2]
   ·cases h
  ·cases h
 len _:=rfl
 old a c hc:=by
  simp at hc
  rcases hc with rfl|rfl|rfl|rfl|rfl|rfl|rfl|rfl|rfl
  iterate 7 exact .raw _
  all_goals rw [a6i];simp
 ret a c hc:=by
  simp at hc
  rcases hc with rfl|rfl|rfl|rfl|rfl|rfl|rfl|rfl|rfl
  iterate 7 exact .raw _
  all_goals rw [a4G];simp
@[simp] theorem e5P (a:b9j):Enc.row a=[AC.raw (.int .i64 a.do_),.raw (.int .i64 a.m.kind),.raw (.int .i64 a.m.site),.raw (.int .i64 a.m.a0H),.raw (.int .i64 a.m.known),.raw (.int .i64 a.m.seq),.raw (.int .i64 a.m.err),.sl .old false (a0a a.m.ops),.sl .old false (a0a a.k)]:=rfl
@[simp] theorem f5M:Enc.w b9j=9:=rfl
structure a7a where
 r:a0o
 n:Int
 l:List b9j
def a1J (p:a7a):List AC:=[.sl .brw false (a0a p.r.disk.safe),.sl .brw false (a0a p.r.disk.wait),.sl .brw false (a0a p.r.ops),.sl .brw false (a0a p.r.ends),.raw (.int .i64 p.n),.sl .brw false (a0a p.l)]
instance f3x:Arg a7a where
 enc p:=.g (a1J p)
 dec|.g [.sl .brw false a,.sl .brw false b,.sl .brw false c,.sl .brw false d,.raw (.int .i64 n),.sl .brw false l]=>(match a4A a,a4A b,a4A c,a4A d,a4A l with|some a,some b,some c,some d,some l=>some ⟨⟨⟨a,b⟩,c,d⟩,n,l⟩|_,_,_,_,_=>none)|_=>none
 a1o {x p} h:=by
  split at h
  ·split at h
   ·rename_i h1 h2 h3 h4 h5
    cases h
    rw [a0O h1,a0O h2,a0O h3,a0O h4,a0O h5]
    rfl
   ·cases h
  ·cases h
@[simp] theorem a9r (p:a7a):Arg.enc p=.g (a1J p):=rfl
structure b0Z (p:a7a):Prop where
 safe:p.r.disk.safe.length<281474976710656/\∀s∈p.r.disk.safe,s.length<281474976710656
 wait:p.r.disk.wait.length<281474976710656/\∀s∈p.r.disk.wait,s.text.length<281474976710656
 ops:p.r.ops.length<281474976710656/\∀o∈p.r.ops,o.text.length<281474976710656/\o.gone.length<281474976710656
 ends:p.r.ends.length<281474976710656
 l:p.l.length<281474976710656
 acts:∀a∈p.l,(a.m.ops.length<281474976710656/\∀o∈a.m.ops,o.text.length<281474976710656/\o.gone.length<281474976710656)/\a.k.length<281474976710656
def b9k:List AV->Option (Prop×AV):=t1 (fun d:a0k=>(d.safe.length<281474976710656/\∀s∈d.safe,s.length<281474976710656)/\(d.wait.length<281474976710656/\∀s∈d.wait,s.text.length<281474976710656)) fun d:a0k=>iv (a1Q d)
@[simp] theorem e5Q {l:List AV}:b9k l=(t1 (fun d:a0k=>(d.safe.length<281474976710656/\∀s∈d.safe,s.length<281474976710656)/\(d.wait.length<281474976710656/\∀s∈d.wait,s.text.length<281474976710656)) fun d:a0k=>iv (a1Q d)) l:=(rfl)
def b9l:List AV->Option (Prop×AV):=t1 (fun l=>l.length<281474976710656/\∀o∈l,o.text.length<281474976710656/\o.gone.length<281474976710656) fun l:List OpV=>iv (b4Z l)
@[simp] theorem e5R {l:List AV}:b9l l=(t1 (fun l=>l.length<281474976710656/\∀o∈l,o.text.length<281474976710656/\o.gone.length<281474976710656) fun l:List OpV=>iv (b4Z l)) l:=(rfl)
def FZ0:CT:=(96,.pu b9k)::(46,.pu b9l)::[]
theorem c9H:a1k Tryz.prog FZ0:=⟨a0n fun d h=>b2J d h.1.1 h.2.1 h.1.2 h.2.2,
 a0n fun l h=>b6R l h.1 h.2,trivial⟩
@[simp] theorem e1e:a0c FZ0 96=some (.pu b9k):=(rfl)
@[simp] theorem e1f:a0c FZ0 46=some (.pu b9l):=(rfl)
@[simp] theorem e5S {n:Nat} (h:(n==96||n==46)=false):a0c FZ0 n=a0c ([]:CT) n:=by
 simp only [Bool.or_eq_false_iff,beq_eq_false_iff_ne,ne_eq] at h
 simp [FZ0,a0c,h]
def c2m (r:a0o):Int:=a1Q r.disk+b4Z r.ops+r.ends.length
theorem c5N (p:a7a) (h:b0Z p):PEv Tryz.prog 45 [Arg.enc p.r] (iv (c2m p.r))/\0<=c2m p.r/\c2m p.r<=2251799813685248:=by
 obtain ⟨b1,b2⟩:=a9b p.r.disk h.safe.1 h.wait.1 h.safe.2 h.wait.2
 obtain ⟨b3,b4⟩:=c9G p.r.ops h.ops.1 h.ops.2
 have b5:=h.ends
 refine ⟨?_,by unfold c2m;omega,by unfold c2m;omega⟩
 refine a0f mixed c9H Tryz.func45 f9s f9t (by kernel_rfl) (by simp) (by simp [a0r]) ?_
 have e1:IntKind.wrap .i64 (a1Q p.r.disk+b4Z p.r.ops)=a1Q p.r.disk+b4Z p.r.ops:=by rw [a0d]<;>omega
 have e2:IntKind.wrap .i64 (a1Q p.r.disk+b4Z p.r.ops+p.r.ends.length)=a1Q p.r.disk+b4Z p.r.ops+p.r.ends.length:=by rw [a0d]<;>omega
 simp only [d1q,a0r]
 simp [s45,e1,e2,c2m]
 exact ⟨⟨h.safe,h.wait⟩,h.ops⟩
def b9m:List AV->Option (Prop×AV):=t1 (fun r:a0o=>∃p:a7a,p.r=r/\b0Z p) fun r:a0o=>iv (c2m r)
@[simp] theorem e5T {l:List AV}:b9m l=(t1 (fun r:a0o=>∃p:a7a,p.r=r/\b0Z p) fun r:a0o=>iv (c2m r)) l:=(rfl)
def FZ1:CT:=(45,.pu b9m)::FZ0
theorem e1g:a1k Tryz.prog FZ1:=⟨a0n fun r h=>by obtain ⟨p,rfl,hp⟩:=h;exact (c5N p hp).1,c9H⟩
@[simp] theorem e1h:a0c FZ1 45=some (.pu b9m):=(rfl)
@[simp] theorem e5U {n:Nat} (h:(n==45)=false):a0c FZ1 n=a0c FZ0 n:=by
 simp only [Bool.or_eq_false_iff,beq_eq_false_iff_ne,ne_eq] at h
 simp [FZ1,a0c,h]
def d1O (a:b9j):Int:=b4Z a.m.ops+a.k.length
def c0W (p:a7a):Int:=a8V d1O (c2m p.r+p.l.length) p.l
theorem c2e (p:a7a) (h:b0Z p):PEv Tryz.prog 15 [Arg.enc p] (bv (decide (700<c0W p))):=by
 obtain ⟨_,b1,b2⟩:=c5N p h
 have b3:=h.l
 have hex:(∃q:a7a,q.r=⟨⟨p.r.disk.safe,p.r.disk.wait⟩,p.r.ops,p.r.ends⟩/\b0Z q)=True:=by simp only [eq_iff_iff,iff_true];exact ⟨p,rfl,h⟩
 refine a0f mixed e1g Tryz.func15 f8f f8g (by kernel_rfl) (by simp) (by simp [a1J]) ?_
 have e0:IntKind.wrap .i64 (c2m p.r+p.l.length)=c2m p.r+p.l.length:=by rw [a0d]<;>omega
 generalize hB:c0W p=B
 unfold c0W at hB
 simp only [a9r,a1J]
 simp [s15,hex,e0]
 refine vl (fun q:Nat×Int=>q.1<=p.l.length/\a8V d1O q.2 (p.l.drop q.1)=B/\0<=q.2/\q.2<9007199254740992) (fun q=>mkS [(1,.c (.pt (1,1) 0 0)),(3,iv q.2),(4,iv q.1)] [.var (1,1) 32 (a1J p)]) (fun q=>p.l.length-q.1) (0,c2m p.r+p.l.length) ⟨by simp,by simpa using hB,by simp only;omega,by simp only;omega⟩ (a0b rfl ?_) ?_
 ·simp [a1J]
 rintro ⟨i,m⟩ ⟨hi,hx,hm0,hm1⟩ J hJ
 simp only at hi hx hm0 hm1
 simp only [a1J]
 by_cases hlt:i<p.l.length
 ·by_cases hm:m<1048576
  ·have hw:IntKind.wrap .i64 ((i:Int)+1)=((i+1:Nat):Int):=by rw [a0d]<;>omega
   have ha:=h.acts _ (List.getElem_mem hlt)
   obtain ⟨w1,w2⟩:=c9G _ ha.1.1 ha.1.2
   have w3:=ha.2
   have e1:IntKind.wrap .i64 (m+b4Z p.l[i].m.ops)=m+b4Z p.l[i].m.ops:=by rw [a0d]<;>omega
   have e2:IntKind.wrap .i64 (m+b4Z p.l[i].m.ops+p.l[i].k.length)=m+b4Z p.l[i].m.ops+p.l[i].k.length:=by rw [a0d]<;>omega
   simp [c7i,hlt,hm,hw,e1,e2]
   refine ⟨ha.1,hJ (i+1,m+b4Z p.l[i].m.ops+p.l[i].k.length) ⟨by simp;omega,?_,by simp only;omega,by simp only;omega⟩ (by simp;omega) _ (a0b rfl ?_)⟩
   ·rw [<-hx,a7y _ _ _ _ hlt hm]
    simp only [d1O,Int.add_assoc]
   ·simp [a1J]
  ·rw [a7z _ _ _ hm] at hx
   subst hx
   simp [c7i,hlt,hm]
 ·obtain rfl:i=p.l.length:=by omega
  rw [List.drop_eq_nil_of_le (Nat.le_refl _),a8V] at hx
  subst hx
  simp [c7i]
open Go
variable {P:Program}
theorem vsC {F:CT} {ι:Type} (I:ι->Prop) (v:ι->St) {x y:SC} {Q:AEx->St->Prop} {st:St} (h1:∀J:St->Prop,(∀j,I j->∀s,a9c P (v j) s->J s)->a6G P F x (a4C J Q) st) (h2:∀j,I j->a6G P F y Q (v j)):a6G P F (.seq x y) Q st:=by
 show a6G P F x _ st
 refine a2F (fun e st' q=>?_) (h1 (fun s=>∃j,I j/\a9c P (v j) s) fun j hj s hs=>⟨j,hj,hs⟩)
 cases e with
 |normal=>obtain ⟨j,g1,g2⟩:=q;exact ⟨v j,g2,h2 j g1⟩
 |_=>exact q
theorem v1C {F:CT} (v:St) {x y:SC} {Q:AEx->St->Prop} {st:St} (h1:∀J:St->Prop,(∀s,a9c P v s->J s)->a6G P F x (a4C J Q) st) (h2:a6G P F y Q v):a6G P F (.seq x y) Q st:=
 vsC (ι:=Unit) (fun _=>True) (fun _=>v) (fun J hJ=>h1 J fun s hs=>hJ () trivial s hs) fun _ _=>h2
theorem a4y {F:CT} {id:Nat} {x:SC} {Q:AEx->St->Prop} {st:St} (h:a6G P F x (a4o id Q) st):a6G P F (.block id x) Q st:=h
theorem vlc {F:CT} {ι:Type} (I:ι->Prop) (v:ι->St) (μ:ι->Nat) (i:ι) {x:SC} {Q:AEx->St->Prop} {st:St} (hi:I i) (h0:a9c P (v i) st)
  (h:∀i,I i->∀J:St->Prop,(∀j,I j->μ j<μ i->∀s,a9c P (v j) s->J s)->a6G P F x (a4C J Q) (v i)):a2S P F (.loop x) Q st:=
 ⟨{i // I i},fun i=>v i.1,fun i=>μ i.1,⟨i,hi⟩,h0,fun i=>h i.1 i.2 _ fun j hj hlt s hs=>⟨⟨j,hj⟩,hlt,hs⟩⟩
open Go Go.Proofs
theorem c8u (n:Int):PEv Tryz.prog 19 [Arg.enc n] (iv n):=by
 refine a0f mixed (F:=[]) trivial Tryz.func19 f8k f8l (by kernel_rfl) (by simp) (by simp) ?_
 simp [s19]
def d1P:List AV->Option (Prop×AV):=t1 b0Z fun p:a7a=>bv (decide (700<c0W p))
def b9n:List AV->Option (Prop×AV):=t1 (fun _=>True) fun n:Int=>iv n
@[simp] theorem e5V {l:List AV}:b9n l=(t1 (fun _=>True) fun n:Int=>iv n) l:=(rfl)
def b9o:List AV->Option (Prop×AV):=t1 a7N fun r:a0o=>bv (a1P r)
@[simp] theorem e5W {l:List AV}:b9o l=(t1 a7N fun r:a0o=>bv (a1P r)) l:=(rfl)
def d1Q:List AV->Option (Prop×AV):=t1 a7N fun r:a0o=>.g (a0r .old r)
def b9p:List AV->Option (Prop×AV):=t2 (fun a _=>a.length<4611686018427387904/\∀o∈a,o.gone.length<4611686018427387904) fun a b:List OpV=>bv (decide (a=b))
@[simp] theorem e5X {l:List AV}:b9p l=(t2 (fun a _=>a.length<4611686018427387904/\∀o∈a,o.gone.length<4611686018427387904) fun a b:List OpV=>bv (decide (a=b))) l:=(rfl)
def d1R:List AV->Option (Prop×AV):=t2 (fun a _=>a.gone.length<4611686018427387904) fun a b:OpV=>bv (decide (a=b))
def b9q:List AV->Option (Prop×AV):=t2 (fun a _=>a7N a) fun a b:a0o=>bv (decide (a=b))
@[simp] theorem e5Y {l:List AV}:b9q l=(t2 (fun a _=>a7N a) fun a b:a0o=>bv (decide (a=b))) l:=(rfl)
def b9r:List AV->Option (Prop×AV):=t2 (fun a _=>okM a) fun a b:a02=>bv (decide (a=b))
@[simp] theorem e5Z {l:List AV}:b9r l=(t2 (fun a _=>okM a) fun a b:a02=>bv (decide (a=b))) l:=(rfl)
def b9s:List AV->Option (Prop×AV):=t1 okM fun m:a02=>bv (a22 m)
@[simp] theorem e50 {l:List AV}:b9s l=(t1 okM fun m:a02=>bv (a22 m)) l:=(rfl)
def d1S:List AV->Option (Prop×AV):=t3 (fun l _ _=>l.length<1000000) fun (l:List OpV) (a b:Int)=>iv (idxOf (isN a b) 0 l)
def b9t:List AV->Option (Prop×AV):=t1 (fun _=>True) fun n:Int=>.t [(true,a0r .old ⟨(a8Y n).1,[],[]⟩),(false,[.raw (.int .i64 (a8Y n).2)])]
@[simp] theorem e51 {l:List AV}:b9t l=(t1 (fun _=>True) fun n:Int=>.t [(true,a0r .old ⟨(a8Y n).1,[],[]⟩),(false,[.raw (.int .i64 (a8Y n).2)])]) l:=(rfl)
def FY0:CT:=(15,.pu d1P)::(19,.pu b9n)::(16,.pu b9o)::(17,.pu d1Q)::(20,.pu b9p)::(24,.pu d1R)::(21,.pu b9q)::(22,.pu b9r)::(23,.pu b9s)::(25,.pu d1S)::(42,.pu b9t)::[]
theorem c9I:a1k Tryz.prog FY0:=⟨a0n fun p h=>c2e p h,
 a0n fun n _=>c8u n,
 a0n fun r h=>by rw [<-c5F];exact c5E r h,
 a0n fun r h=>b8A r h,
 a0P fun a b h=>b4m a b h.1 h.2,
 a0P fun a b h=>(by rw [show bv (decide (a=b))=bv (a2L a b) by rw [a5u]];exact b7S a b h),
 a0P fun a b h=>c7Y a b h,
 a0P fun a b h=>c0D a b h,
 a0n fun m h=>c5G m h,
 a4L fun l a b h=>c5k l a b h,
 a0n fun n _=>d1H n,trivial⟩
@[simp] theorem e1i:a0c FY0 19=some (.pu b9n):=(rfl)
@[simp] theorem e1j:a0c FY0 16=some (.pu b9o):=(rfl)
@[simp] theorem e1k:a0c FY0 20=some (.pu b9p):=(rfl)
@[simp] theorem e1l:a0c FY0 21=some (.pu b9q):=(rfl)
@[simp] theorem e1m:a0c FY0 22=some (.pu b9r):=(rfl)
@[simp] theorem e1n:a0c FY0 23=some (.pu b9s):=(rfl)
@[simp] theorem e1o:a0c FY0 42=some (.pu b9t):=(rfl)
@[simp] theorem e52 {n:Nat} (h:(n==15||n==19||n==16||n==17||n==20||n==24||n==21||n==22||n==23||n==25||n==42)=false):a0c FY0 n=a0c ([]:CT) n:=by
 simp only [Bool.or_eq_false_iff,beq_eq_false_iff_ne,ne_eq] at h
 simp [FY0,a0c,h]
theorem d1T:(a0Y ⟨(a8Y 9).1,[],[]⟩ ⟨1,0,5,0,0,0,[]⟩).2.2=0/\(a0Y ⟨(a8Y 9).1,[],[]⟩ ⟨1,0,5,0,0,0,[]⟩).2.1.kind=2/\(a0Y ⟨(a8Y 9).1,[],[]⟩ ⟨1,0,5,0,0,0,[]⟩).2.1.site=1/\(a0Y ⟨(a8Y 9).1,[],[]⟩ ⟨1,0,5,0,0,0,[]⟩).1.ends.length=1/\(a8Y 9).2=0:=by decide +kernel
theorem c2f:PEv Tryz.prog 26 [] (bv true):=by
 refine c2U mixed c9I Tryz.func26 f8o f8p (by kernel_rfl) (by simp) (by simp) ?_
 have hok:a7N ⟨(a8Y 9).1,[],[]⟩:=by
  have e:(a8Y 9).1=⟨List.replicate 9 blank,[]⟩:=by rw [a8Y,if_pos (by omega)];rfl
  rw [e]
  exact ⟨by simp,by simp,by simp,by simp,by simp⟩
 have htk:=b8V ⟨(a8Y 9).1,[],[]⟩ ⟨1,0,5,0,0,0,[]⟩ hok ⟨by simp,by simp⟩
 obtain ⟨w1,w2,w3,w4,w5⟩:=d1T
 generalize hN:a8Y 9=N at *
 obtain ⟨⟨n1,n2⟩,n3⟩:=N
 simp only at htk w1 w2 w3 w4 w5
 generalize a0Y ⟨⟨n1,n2⟩,[],[]⟩ ⟨1,0,5,0,0,0,[]⟩=T at *
 obtain ⟨⟨⟨x1,x2⟩,x3,x4⟩,⟨a1,a2,a3,a4,a5,a6,a7⟩,e⟩:=T
 simp only at htk w1 w2 w3 w4
 subst w1 w2 w3 w5
 have w4':(x4.length:Int)=1:=by omega
 unfold s26
 refine v1 (mkS [(0,bv false)] []) (fun J hJ=>?_) ?_
 ·simp
  exact hJ _ (a0b rfl (by simp))
 refine v1 (mkS [(1,.c (.pt (1,1) 0 0)),(2,iv 0)] [.var (1,1) 29 (a0r .old ⟨⟨n1,n2⟩,[],[]⟩)]) (fun J hJ=>?_) ?_
 ·simp [hN,a0r]
  refine hJ _ (a0b rfl ?_)
  simp [a0r]
 refine v1 (mkS [(1,.c (.pt (1,1) 0 0)),(2,iv 0),(3,.c (.pt (1,2) 0 0)),(4,.c (.pt (1,3) 0 0)),(5,iv 0)] [.var (1,1) 29 (a0r .old ⟨⟨n1,n2⟩,[],[]⟩),.var (1,2) 29 (a0r .old ⟨⟨x1,x2⟩,x3,x4⟩),.var (1,3) 38 (a0l .old ⟨2,1,a3,a4,a5,a6,a7⟩)]) (fun J hJ=>?_) ?_
 ·simp only [a0r,a0l,a0u]
  simp
  refine a1x (args':=[.g (a0r .brw ⟨⟨n1,n2⟩,[],[]⟩),.g (a0l .brw ⟨1,0,5,0,0,0,[]⟩)]) ?_ htk (by simp [a0r,a0l,a0u]) (by simp [a0r,a0l,a0u]) ?_
  ·simp [a0r,a0l,a0u]
  simp [a0r,a0l,a0u]
  refine hJ _ (a0b rfl ?_)
  simp [a0r,a0l,a0u]
 refine a1p ?_
 simp only [a0r,a0l,a0u]
 simp [w4']
def b9u:List AV->Option (Prop×AV):=t0 (bv true)
@[simp] theorem e53 {l:List AV}:b9u l=(t0 (bv true)) l:=(rfl)
def FY1:CT:=(26,.pu b9u)::FY0
theorem c5O:a1k Tryz.prog FY1:=⟨b1i c2f,c9I⟩
@[simp] theorem e1p:a0c FY1 26=some (.pu b9u):=(rfl)
@[simp] theorem e54 {n:Nat} (h:(n==26)=false):a0c FY1 n=a0c FY0 n:=by
 simp only [Bool.or_eq_false_iff,beq_eq_false_iff_ne,ne_eq] at h
 simp [FY1,a0c,h]
open Go Go.Proofs
theorem b40 (n:Int):okM (a25 n):=⟨by simp [a25],by simp [a25]⟩
theorem c8v (i:Nat):okM (a5G (a5j i)):=⟨by simp [a5G],by simp [a5G,a5j]⟩
theorem c5P:∀n,n<=2->∃es k,a34 (a3s n) es k
 |0,_=>⟨[],120,b9d (by omega) (by omega)⟩
 |1,_=>⟨_,_,a6f.1⟩
 |2,_=>⟨_,_,a6f.2.2.2.1⟩
theorem b9v (n:Nat) (h:n<=42):PEv Tryz.prog 30 [iv n] (.g (a0r .old (a3b n))):=by
 refine a6x mixed (F:=[]) trivial Tryz.func30 f8t f8u (by kernel_rfl) (by simp [a0r]) (by simp) ?_
 unfold s30
 refine v1 (mkS [(0,iv n),(2,.c (.pt (1,1) 0 0))] [.var (1,1) 29 [.a0x,.a0x,.a0x,.a0x]]) (fun J hJ=>?_) ?_
 ·simp
  refine hJ _ (a0b rfl ?_)
  simp
 refine v1 (mkS [(0,iv n),(2,.c (.pt (1,1) 0 0)),(3,.c (.pt (1,2) 0 0))] [.var (1,1) 29 [.a0x,.a0x,.a0x,.a0x],.var (1,2) 29 (a0r .old (a3s 0))]) (fun J hJ=>?_) ?_
 ·simp
  refine a0R (b0y 120 (by omega)) ?_ (by simp [a0r]) (by simp [a0r]) ?_
  ·simp
  simp [a0r]
  refine hJ _ (a0b rfl ?_)
  simp [a0r,a3s,b9c]
 refine v1C (mkS [(0,iv n),(2,.c (.pt (1,1) 0 0)),(3,.c (.pt (1,2) 0 0))] [.var (1,1) 29 [.a0x,.a0x,.a0x,.a0x],.var (1,2) 29 (a0r .old (a3b 0))]) (fun J0 hJ0=>?_) ?_
 ·refine v1 (mkS [(0,iv n),(2,.c (.pt (1,1) 0 0)),(3,.c (.pt (1,2) 0 0)),(4,iv 1)] [.var (1,1) 29 [.a0x,.a0x,.a0x,.a0x],.var (1,2) 29 (a0r .old (a3s 0))]) (fun J hJ=>?_) ?_
  ·simp
   refine hJ _ (a0b rfl ?_)
   simp [a0r]
  refine a4y ?_
  refine a1p ?_
  refine vl (fun i:Nat=>i<=2) (fun i=>mkS [(0,iv n),(2,.c (.pt (1,1) 0 0)),(3,.c (.pt (1,2) 0 0)),(4,iv ((i:Int)+1))] [.var (1,1) 29 [.a0x,.a0x,.a0x,.a0x],.var (1,2) 29 (a0r .old (a3s i))]) (fun i=>2-i) 0 (by omega) (a0b rfl ?_) ?_
  ·simp [a0r]
  intro i hi J hJ
  have hw:IntKind.wrap .i64 ((i:Int)+1+1)=((i+1:Nat):Int)+1:=by rw [a0d]<;>omega
  by_cases h2:i<2
  ·obtain ⟨es,k,hI⟩:=c5P i (by omega)
   have hT:=a8D (a3s i) (a25 ((i+1:Nat):Int)) (a69 hI (a7S i (by omega)) (.inl rfl)) hI (b40 _)
   rw [<-b9e] at hT
   generalize (a0Y (a3s i) (a25 ((i+1:Nat):Int))).2.1=y at hT
   have hn:=hJ (i+1) (by omega) (by omega)
   have h2':(i:Int)+1<=2:=by omega
   generalize a3s (i+1)=X at *
   generalize a3s i=r at *
   simp [c7k,h2',a0r]
   refine a0R (args':=[.g (a0r .brw r),.g (a0l .brw (a25 ((i+1:Nat):Int)))]) hT ?_ (by simp [a0r,a0l,a0u]) (by simp [a0r,a0l,a0u]) ?_
   ·simp [a0r,a0l,a0u,a25]
   simp [a0r,a0l,a0u,hw]
   refine hn _ (a0b rfl ?_)
   simp [a0r,hw]
  ·have h2':¬(i:Int)+1<=2:=by omega
   obtain rfl:i=2:=by omega
   simp [c7k,h2',a0r]
   refine hJ0 _ (a0b rfl ?_)
   simp [a0r,a3b]
 refine v1C (mkS [(2,.c (.pt (1,1) 0 0)),(3,.c (.pt (1,2) 0 0))] [.var (1,1) 29 [.a0x,.a0x,.a0x,.a0x],.var (1,2) 29 (a0r .old (a3b n))]) (fun J0 hJ0=>?_) ?_
 rotate_left
 ·refine a1p ?_
  simp [a0r]
  refine a0w (mkS [(2,.c (.pt (1,1) 0 0))] [.var (1,1) 29 (a0r .old (a3b n))]) (a0b rfl ?_) ?_<;>simp [a0r]
 refine v1 (mkS [(0,iv n),(2,.c (.pt (1,1) 0 0)),(3,.c (.pt (1,2) 0 0)),(5,iv 0)] [.var (1,1) 29 [.a0x,.a0x,.a0x,.a0x],.var (1,2) 29 (a0r .old (a3b 0))]) (fun J hJ=>?_) ?_
 ·simp
  refine hJ _ (a0b rfl ?_)
  simp [a0r]
 refine a4y ?_
 refine a1p ?_
 refine vlc (fun i:Nat=>i<=n) (fun i=>mkS [(0,iv n),(2,.c (.pt (1,1) 0 0)),(3,.c (.pt (1,2) 0 0)),(5,iv i)] [.var (1,1) 29 [.a0x,.a0x,.a0x,.a0x],.var (1,2) 29 (a0r .old (a3b i))]) (fun i=>n-i) 0 (by omega) (a0b rfl ?_) ?_
 ·simp [a0r]
 intro i hi J hJ
 have hw:IntKind.wrap .i64 ((i:Int)+1)=((i+1:Nat):Int):=by rw [a0d]<;>omega
 unfold d6J
 refine vs (ι:=Unit) (fun _=>i<n) (fun _=>mkS [(0,iv n),(2,.c (.pt (1,1) 0 0)),(3,.c (.pt (1,2) 0 0)),(5,iv i)] [.var (1,1) 29 [.a0x,.a0x,.a0x,.a0x],.var (1,2) 29 (a0r .old (a3b i))]) (fun J1 hJ1=>?_) (fun _ h2=>?_)
 ·by_cases h2:i<n
  ·simp [h2]
   refine hJ1 () h2 _ (a0b rfl ?_)
   simp [a0r]
  ·obtain rfl:i=n:=by omega
   simp
   refine hJ0 _ (a0b rfl ?_)
   simp [a0r]
 obtain ⟨es,k,hI⟩:=c8t i (by omega)
 have hT:=a8D (a3b i) (a5G (a5j i)) (a69 hI (a9q i (by omega)) (.inr (.inr rfl))) hI (c8v i)
 rw [<-b4V] at hT
 generalize (a0Y (a3b i) (a5G (a5j i))).2.1=y at hT
 have hn:=hJ (i+1) (by omega) (by omega)
 clear hJ hI
 generalize a3b (i+1)=X at *
 generalize a3b i=r at *
 refine v1C (mkS [(0,iv n),(2,.c (.pt (1,1) 0 0)),(3,.c (.pt (1,2) 0 0)),(5,iv i)] [.var (1,1) 29 [.a0x,.a0x,.a0x,.a0x],.var (1,2) 29 (a0r .old X)]) (fun J1 hJ1=>?_) ?_
 rotate_left
 ·refine a1p ?_
  simp [hw]
  refine hn _ (a0b rfl ?_)
  simp [a0r,hw]
 refine a4y ?_
 have e1:(i:Int).tmod 2=(i:Int)%2:=Int.tmod_eq_emod_of_nonneg (by omega)
 have e2:(i:Int).tmod 26=(i:Int)%26:=Int.tmod_eq_emod_of_nonneg (by omega)
 have e3:IntKind.wrap .i64 ((i:Int)/2)=((i/2:Nat):Int):=by rw [a0d]<;>omega
 obtain ⟨a,ha⟩:∃a:Int,a=((1+i%2:Nat):Int):=⟨_,rfl⟩
 obtain ⟨b,hb⟩:∃b:Int,b=((1+i/2:Nat):Int):=⟨_,rfl⟩
 obtain ⟨c,hc⟩:∃c:UInt8,c=UInt8.ofNat (97+i%26):=⟨_,rfl⟩
 obtain ⟨d,hd⟩:∃d:Int,d=((i/2:Nat):Int):=⟨_,rfl⟩
 have f1:IntKind.wrap .i64 (1+(i:Int)%2)=a:=by rw [a0d]<;>omega
 have f2:IntKind.wrap .i64 (1+((i/2:Nat):Int))=b:=by rw [a0d]<;>omega
 have f3:IntKind.wrap .u8 (IntKind.wrap .i64 (97+(i:Int)%26))=(c.toNat:Int):=by
  have hm:i%26<26:=Nat.mod_lt _ (by omega)
  rw [a0d (by omega) (by omega),hc,show (97:Int)+(i:Int)%26=((97+i%26:Nat):Int) by omega]
  generalize i%26=m at hm
  revert m
  decide
 obtain ⟨af,haf⟩:∃af:a0F,af=if 1<i then ⟨a,d,0⟩ else ⟨0,0,0⟩:=⟨_,rfl⟩
 have hO:a5j i=⟨a,b,1,af,[c],[],0,0,0⟩:=by rw [a5j,haf,ha,hb,hc,hd]
 rw [hO] at hT
 rw [<-hd] at e3 f2
 refine v1 (mkS [(0,iv n),(2,.c (.pt (1,1) 0 0)),(3,.c (.pt (1,2) 0 0)),(5,iv i),(6,.c (.pt (1,3) 0 0))] [.var (1,1) 29 [.a0x,.a0x,.a0x,.a0x],.var (1,2) 29 (a0r .old r),.var (1,3) 53 (a0e .old ⟨a,b,1,⟨0,0,0⟩,[c],[],0,0,0⟩)]) (fun J2 hJ2=>?_) ?_
 ·simp [e1,e2,e3,f1,f2,f3]
  refine hJ2 _ (a0b rfl ?_)
  simp [a0r,a0e]
 refine v1 (mkS [(0,iv n),(2,.c (.pt (1,1) 0 0)),(3,.c (.pt (1,2) 0 0)),(5,iv i),(6,.c (.pt (1,3) 0 0))] [.var (1,1) 29 [.a0x,.a0x,.a0x,.a0x],.var (1,2) 29 (a0r .old r),.var (1,3) 53 (a0e .old ⟨a,b,1,af,[c],[],0,0,0⟩)]) (fun J2 hJ2=>?_) ?_
 ·by_cases h1:(1:Int)<i
  ·rw [if_pos (by omega)] at haf
   subst haf
   simp [h1,e1,e3,f1,a0e]
   refine hJ2 _ (a0b rfl ?_)
   simp [a0r,a0e]
  ·rw [if_neg (by omega)] at haf
   subst haf
   simp [h1]
   refine hJ2 _ (a0b rfl ?_)
   simp [a0r,a0e]
 refine a1p ?_
 obtain ⟨u,v,w⟩:=af
 simp [a0r,a0e]
 refine a0R (args':=[.g (a0r .brw r),.g (a0l .brw (a5G ⟨a,b,1,⟨u,v,w⟩,[c],[],0,0,0⟩))]) hT ?_ (by simp [a0r,a0l,a0u]) (by simp [a0r,a0l,a0u]) ?_
 ·simp [a0r,a0l,a0u,a5G,a2G,a0e]
 simp [a0r,a0l,a0u]
 refine hJ1 _ (a0b rfl ?_)
 simp [a0r]
open Go Go.Proofs
def a5I:Nat->a0o
 |0=>b9c 6
 |n+1=>(a0Y (a5I n) (a25 ((n+1:Nat):Int))).1
theorem b0C (n:Nat):a5I (n+1)=(a0Y (a5I n) (a25 ((n+1:Nat):Int))).1:=rfl
theorem b0D:∀n,n<=12->∃es k,a34 (a5I n) es k
 |0,_=>⟨_,_,b9d (n:=6) (by omega) (by omega)⟩
 |n+1,h=>by
  obtain ⟨es,k,hI⟩:=b0D n (by omega)
  rw [b0C]
  exact (once (a69 hI (a7S n (by omega)) (.inl rfl)) hI).may
theorem c5Q:∀i,i<11->(a0Y (a5I i) (a25 ((i+1:Nat):Int))).2.2=0/\decide (((a0Y (a5I i) (a25 ((i+1:Nat):Int))).1.ends.length:Int)=(i:Int)+1)=decide ((i:Int)+1<=6):=by decide +kernel
def b0E:OpV:=⟨1,21,1,⟨0,0,0⟩,[122],[],0,0,0⟩
def c59:a02:=⟨3,2,0,38,0,0,[]⟩
theorem e1q:a1g 1 (a4e 40)=20/\a2Q (a5G b0E)=true/\(a0t ⟨a18,a4e 40,[1,2]⟩ (a5G b0E)).2.2.kind=6/\(a0t ⟨a18,a4e 40,[1,2]⟩ (a5G b0E)).2.2.err=6/\
  a2Q c59=true/\(a0t ⟨a18,a4e 40,[1,2]⟩ c59).2.1=false/\(a0t ⟨a18,a4e 40,[1,2]⟩ c59).2.2.kind=5/\(a0t ⟨a18,a4e 40,[1,2]⟩ c59).2.2.ops.length=2:=by decide +kernel
theorem c8w:∃w,a3b 42=w/\a7N w/\w.ops.length=40/\a1g 1 w.ops=20/\(∃a:a02,a0Y w (a5G b0E)=(w,a,0)/\a.kind=6/\a.err=6)/\∃b:a02,a0Y w c59=(w,b,0)/\b.kind=5/\b.ops.length=2:=by
 obtain ⟨i1,i2,i3⟩:=a5A 40 (by omega)
 obtain ⟨k1,k2,k3,k4,k5,k6,k7,k8⟩:=e1q
 rw [b6Q 42 (by omega) (by omega)]
 generalize a3b 40=w at *
 have e:∀m,a0t w m=a0t ⟨a18,a4e 40,[1,2]⟩ m:=fun m=>by rw [b0A,i2,i3]
 refine ⟨w,rfl,(a4w i1).1,by rw [i2];simp [a4e],by rw [i2];exact k1,⟨_,a8E i1 k2 (.inr (.inr rfl)) (by rw [e];exact b9f _ (.inr (.inr rfl))),by rw [e];exact k3,by rw [e];exact k4⟩,_,a8E i1 k5 (.inr (.inl rfl)) (by rw [e];exact k6),by rw [e];exact k7,by rw [e];exact k8⟩
def b9w:List AV->Option (Prop×AV):=t2 (fun l _=>l.length<1000000) fun (l:List OpV) (s:Int)=>iv (a1g s l)
@[simp] theorem e55 {l:List AV}:b9w l=(t2 (fun l _=>l.length<1000000) fun (l:List OpV) (s:Int)=>iv (a1g s l)) l:=(rfl)
def GA5:CT:=(31,.pu b9w)::FY1
theorem e1r:a1k Tryz.prog GA5:=⟨a0P fun l s h=>b8l l s h,c5O⟩
@[simp] theorem e1s:a0c GA5 31=some (.pu b9w):=(rfl)
@[simp] theorem e56 {n:Nat} (h:(n==31)=false):a0c GA5 n=a0c FY1 n:=by
 simp only [Bool.or_eq_false_iff,beq_eq_false_iff_ne,ne_eq] at h
 simp [GA5,a0c,h]
theorem b6S (p:a7a) (hp:b0Z p):PEv Tryz.prog 5 [Arg.enc p] (bv true):=by
 refine a6x mixed e1r Tryz.func5 sl5 ok5 (by kernel_rfl) (by simp) (by simp [a1J]) ?_
 have hl:=hp.l
 have htj:=fun i (h:i<11)=>(c5Q i h)
 unfold s5
 generalize hrow:a1J p=P
 have hP:∃a b c d e,P=[a,b,c,d,e,.sl .brw false (a0a p.l)]:=⟨_,_,_,_,_,hrow.symm⟩
 refine v1 (mkS [(1,.c (.pt (1,1) 0 0))] [.var (1,1) 32 [.a0x,.a0x,.a0x,.a0x,.a0x,.sl .brw false (a0a p.l)]]) (fun J hJ=>?_) ?_
 ·simp only [a9r,a1J]
  simp
  refine hJ _ (a0b rfl ?_)
  simp
 refine v1 (mkS [(1,.c (.pt (1,1) 0 0)),(3,.c (.pt (1,2) 0 0))] [.var (1,1) 32 [.a0x,.a0x,.a0x,.a0x,.a0x,.sl .brw false (a0a p.l)],.var (1,2) 29 (a0r .old (a5I 0))]) (fun J hJ=>?_) ?_
 ·simp
  refine a0R (b0y 6 (by omega)) ?_ (by simp [a0r]) (by simp [a0r]) ?_
  ·simp
  simp [a0r]
  refine hJ _ (a0b rfl ?_)
  simp [a0r,a5I,b9c]
 refine v1C (mkS [(1,.c (.pt (1,1) 0 0))] [.var (1,1) 32 [.a0x,.a0x,.a0x,.a0x,.a0x,.sl .brw false (a0a p.l)]]) (fun J0 hJ0=>?_) ?_
 ·refine v1 (mkS [(1,.c (.pt (1,1) 0 0)),(3,.c (.pt (1,2) 0 0)),(4,iv 1)] [.var (1,1) 32 [.a0x,.a0x,.a0x,.a0x,.a0x,.sl .brw false (a0a p.l)],.var (1,2) 29 (a0r .old (a5I 0))]) (fun J hJ=>?_) ?_
  ·simp
   refine hJ _ (a0b rfl ?_)
   simp [a0r]
  refine a4y ?_
  refine a1p ?_
  refine vlc (fun i:Nat=>i<=11) (fun i=>mkS [(1,.c (.pt (1,1) 0 0)),(3,.c (.pt (1,2) 0 0)),(4,iv ((i:Int)+1))] [.var (1,1) 32 [.a0x,.a0x,.a0x,.a0x,.a0x,.sl .brw false (a0a p.l)],.var (1,2) 29 (a0r .old (a5I i))]) (fun i=>11-i) 0 (by omega) (a0b rfl ?_) ?_
  ·simp [a0r]
  intro i hi J hJ
  have hw:IntKind.wrap .i64 ((i:Int)+1+1)=((i+1:Nat):Int)+1:=by rw [a0d]<;>omega
  unfold f5x
  refine vs (ι:=Unit) (fun _=>i<11) (fun _=>mkS [(1,.c (.pt (1,1) 0 0)),(3,.c (.pt (1,2) 0 0)),(4,iv ((i:Int)+1))] [.var (1,1) 32 [.a0x,.a0x,.a0x,.a0x,.a0x,.sl .brw false (a0a p.l)],.var (1,2) 29 (a0r .old (a5I i))]) (fun J1 hJ1=>?_) (fun _ h2=>?_)
  ·by_cases h2:(i:Int)+1<12
   ·simp [h2]
    refine hJ1 () (by omega) _ (a0b rfl ?_)
    simp [a0r]
   ·simp [h2]
    refine hJ0 _ (a0b rfl ?_)
    simp
  obtain ⟨es,k,hI⟩:=b0D i (by omega)
  obtain ⟨okr,_⟩:=a4w hI
  obtain ⟨es2,k2,hI2⟩:=b0D (i+1) (by omega)
  obtain ⟨okX,_⟩:=a4w hI2
  have hfm:=a69 hI (a7S i (by omega)) (.inl rfl)
  have hT:=a8D (a5I i) (a25 ((i+1:Nat):Int)) hfm hI (b40 _)
  have htk:=b8V (a5I i) (a25 ((i+1:Nat):Int)) okr (b40 _)
  have hon:=once hfm hI
  obtain ⟨k1,k3⟩:=c5Q i h2
  have hok2:okM (a0Y (a5I i) (a25 ((i+1:Nat):Int))).2.1:=by
   by_cases ha:(a0Y (a5I i) (a25 ((i+1:Nat):Int))).2.1.ops=[]
   ·exact ⟨by rw [ha];simp,by rw [ha];simp⟩
   ·obtain ⟨q,j,q1,q2,q3⟩:=hon.sent ha
    rw [<-b0C] at q1 q3
    exact ⟨by rw [q3];simp;have:=okX.2.2.1;omega,fun o ho=>okX.2.2.2.2 o (List.mem_of_mem_drop (List.mem_of_mem_take (by rw [<-q3];exact ho)))⟩
  rw [<-b0C] at hT k3
  rw [b0C] at okX
  generalize hTT:a0Y (a5I i) (a25 ((i+1:Nat):Int))=T at *
  have hX:a5I (i+1)=T.1:=by rw [b0C,hTT]
  rw [hX] at hT k3 hI2
  have hn:=hJ (i+1) (by omega) (by omega)
  rw [hX] at hn
  clear hJ hI hI2 hon hfm hTT hX
  obtain ⟨X,a,e⟩:=T
  simp only at *
  subst k1
  generalize a5I i=r at *
  refine v1C (mkS [(1,.c (.pt (1,1) 0 0)),(3,.c (.pt (1,2) 0 0)),(4,iv ((i:Int)+1))] [.var (1,1) 32 [.a0x,.a0x,.a0x,.a0x,.a0x,.sl .brw false (a0a p.l)],.var (1,2) 29 (a0r .old X)]) (fun J1 hJ1=>?_) ?_
  rotate_left
  ·refine a1p ?_
   simp [hw]
   refine hn _ (a0b rfl ?_)
   simp [a0r,hw]
  refine a4y ?_
  refine v1 (mkS [(1,.c (.pt (1,1) 0 0)),(3,.c (.pt (1,2) 0 0)),(4,iv ((i:Int)+1)),(5,.c (.pt (1,3) 0 0)),(6,.c (.pt (1,4) 0 0)),(7,iv 0)] [.var (1,1) 32 [.a0x,.a0x,.a0x,.a0x,.a0x,.sl .brw false (a0a p.l)],.var (1,2) 29 (a0r .old r),.var (1,3) 29 (a0r .old X),.var (1,4) 38 (a0l .old a)]) (fun J hJ=>?_) ?_
  ·simp only [a0r]
   simp
   refine a1x (args':=[.g (a0r .brw r),.g (a0l .brw (a25 ((i+1:Nat):Int)))]) ?_ htk (by simp [a0r,a0l,a0u]) (by simp [a0r,a0l,a0u]) ?_
   ·simp [a0r,a0l,a0u,a25]
   simp [a0r,a0l,a0u]
   refine hJ _ (a0b rfl ?_)
   simp [a0r,a0l,a0u]
  refine v1 (mkS [(1,.c (.pt (1,1) 0 0)),(3,.c (.pt (1,2) 0 0)),(4,iv ((i:Int)+1)),(5,.c (.pt (1,3) 0 0)),(6,.c (.pt (1,4) 0 0)),(7,iv 0),(8,.c (.pt (1,5) 0 0)),(9,.c (.pt (1,6) 0 0))] [.var (1,1) 32 [.a0x,.a0x,.a0x,.a0x,.a0x,.sl .brw false (a0a p.l)],.var (1,2) 29 (a0r .old r),.var (1,3) 29 (a0r .old X),.var (1,4) 38 (a0l .old a),.var (1,5) 29 (a0r .old X),.var (1,6) 38 (a0l .old a)]) (fun J hJ=>?_) ?_
  ·simp only [a0r]
   simp
   refine a0R (args':=[.g (a0r .brw r),.g (a0l .brw (a25 ((i+1:Nat):Int)))]) hT ?_ (by simp [a0r,a0l,a0u]) (by simp [a0r,a0l,a0u]) ?_
   ·simp [a0r,a0l,a0u,a25]
   simp [a0r,a0l,a0u]
   refine hJ _ (a0b rfl ?_)
   simp [a0r,a0l,a0u]
  refine v1 (mkS [(1,.c (.pt (1,1) 0 0)),(3,.c (.pt (1,2) 0 0)),(4,iv ((i:Int)+1)),(5,.c (.pt (1,3) 0 0))] [.var (1,1) 32 [.a0x,.a0x,.a0x,.a0x,.a0x,.sl .brw false (a0a p.l)],.var (1,2) 29 (a0r .old r),.var (1,3) 29 (a0r .old X)]) (fun J hJ=>?_) ?_
  ·simp only [a0r,a0l,a0u]
   obtain ⟨⟨x1,x2⟩,x3,x4⟩:=X
   obtain ⟨m1,m2,m3,m4,m5,m6,m7⟩:=a
   simp only at k3 okX hok2 hJ ⊢
   cases c1:decide ((x4.length:Int)=(i:Int)+1)
   ·rw [c1] at k3
    have k3:=k3.symm
    simp [okX,hok2,c1,k3]
    refine hJ _ (a0b rfl ?_)
    simp [a0r]
   ·rw [c1] at k3
    have k3:=k3.symm
    simp [okX,hok2,c1,k3]
    refine hJ _ (a0b rfl ?_)
    simp [a0r]
  refine a1p ?_
  simp [a0r]
  refine hJ1 _ (a0b rfl ?_)
  simp [a0r]
 obtain ⟨w,w0,okw,w1,w2,⟨a,a1,a2,a3⟩,b,b1,b2,b3⟩:=c8w
 have hm:=b9v 42 (by omega)
 have hta:=a9p w (a5G b0E) okw ⟨by simp [a5G],by simp [a5G,b0E]⟩
 have htb:=b8V w c59 okw ⟨by simp [c59],by simp [c59]⟩
 rw [w0] at hm
 rw [a1] at hta
 rw [b1] at htb
 clear a1 b1 w0
 obtain ⟨m1,m2,m3,m4,m5,m6,m7⟩:=a
 obtain ⟨n1,n2,n3,n4,n5,n6,n7⟩:=b
 simp only at a2 a3 b2 b3 hta htb
 subst a2 a3 b2
 refine v1 (mkS [(1,.c (.pt (1,1) 0 0)),(10,.c (.pt (1,2) 0 0))] [.var (1,1) 32 [.a0x,.a0x,.a0x,.a0x,.a0x,.sl .brw false (a0a p.l)],.var (1,2) 29 (a0r .old w)]) (fun J hJ=>?_) ?_
 ·simp
  refine a0R hm ?_ (by simp [a0r]) (by simp [a0r]) ?_
  ·simp
  simp [a0r]
  refine hJ _ (a0b rfl ?_)
  simp [a0r]
 refine v1 (mkS [(1,.c (.pt (1,1) 0 0)),(10,.c (.pt (1,2) 0 0))] [.var (1,1) 32 [.a0x,.a0x,.a0x,.a0x,.a0x,.sl .brw false (a0a p.l)],.var (1,2) 29 (a0r .old w)]) (fun J hJ=>?_) ?_
 ·simp [a0r,w1]
  refine hJ _ (a0b rfl ?_)
  simp [a0r]
 refine v1 (mkS [(1,.c (.pt (1,1) 0 0)),(10,.c (.pt (1,2) 0 0)),(11,.c (.pt (1,3) 0 0))] [.var (1,1) 32 [.a0x,.a0x,.a0x,.a0x,.a0x,.sl .brw false (a0a p.l)],.var (1,2) 29 (a0r .old w),.var (1,3) 53 (a0e .old b0E)]) (fun J hJ=>?_) ?_
 ·have e1:IntKind.wrap .i64 21=21:=by decide
  simp [a0r,w1,w2,e1]
  refine hJ _ (a0b rfl ?_)
  simp [a0r,a0e,b0E,e1]
 refine v1 (mkS [(1,.c (.pt (1,1) 0 0)),(10,.c (.pt (1,2) 0 0)),(12,.c (.pt (1,4) 0 0)),(13,.c (.pt (1,5) 0 0)),(14,iv 0)] [.var (1,1) 32 [.a0x,.a0x,.a0x,.a0x,.a0x,.sl .brw false (a0a p.l)],.var (1,2) 29 (a0r .old w),.var (1,4) 29 (a0r .old w),.var (1,5) 38 (a0l .old ⟨6,m2,m3,m4,m5,6,m7⟩)]) (fun J hJ=>?_) ?_
 ·simp [a0r,a0e,b0E]
  refine a1x (args':=[.g (a0r .brw w),.g (a0l .brw (a5G b0E))]) ?_ hta (by simp [a0r,a0l,a0u]) (by simp [a0r,a0l,a0u]) ?_
  ·simp [a0r,a0l,a0u,a5G,a2G,a0e,b0E]
  simp [a0r,a0l,a0u]
  refine hJ _ (a0b rfl ?_)
  simp [a0r,a0l,a0u]
 refine v1 (mkS [(1,.c (.pt (1,1) 0 0)),(10,.c (.pt (1,2) 0 0)),(12,.c (.pt (1,4) 0 0)),(13,.c (.pt (1,5) 0 0)),(14,iv 0),(15,.c (.pt (1,6) 0 0)),(16,.c (.pt (1,7) 0 0)),(17,iv 0)] [.var (1,1) 32 [.a0x,.a0x,.a0x,.a0x,.a0x,.sl .brw false (a0a p.l)],.var (1,2) 29 (a0r .old w),.var (1,4) 29 (a0r .old w),.var (1,5) 38 (a0l .old ⟨6,m2,m3,m4,m5,6,m7⟩),.var (1,6) 29 (a0r .old w),.var (1,7) 38 (a0l .old ⟨5,n2,n3,n4,n5,n6,n7⟩)]) (fun J hJ=>?_) ?_
 ·simp only [a0r,a0l,a0u]
  simp
  refine a1x (args':=[.g (a0r .brw w),.g (a0l .brw c59)]) ?_ htb (by simp [a0r,a0l,a0u]) (by simp [a0r,a0l,a0u]) ?_
  ·simp [a0r,a0l,a0u,c59]
  simp [a0r,a0l,a0u]
  refine hJ _ (a0b rfl ?_)
  simp [a0r,a0l,a0u]
 refine a1p ?_
 simp only [a0r,a0l,a0u]
 obtain ⟨⟨y1,y2⟩,y3,y4⟩:=w
 simp [okw,b3]
 refine a0w (mkS [(2,bv true)] []) (a0b rfl ?_) ?_<;>simp [a1J]
open Go Go.Proofs
def a3N:List OpV:=[⟨2,4,1,⟨0,0,0⟩,[97],[],0,0,0⟩,⟨1,5,1,⟨0,0,0⟩,[97],[],0,0,0⟩,⟨1,4,1,⟨1,9,0⟩,[97],[],0,0,0⟩,⟨1,4,1,⟨0,0,0⟩,[],[⟨1,9,0⟩],0,0,0⟩,⟨1,4,2,⟨0,0,0⟩,[],[],2,7,0⟩,⟨1,4,1,⟨2,1,1⟩,[97],[],0,0,0⟩]
def a8G:List Int:=[1,8,1,1,1,1]
def b00 (k:Nat) (o:OpV):a02:=⟨4,1,0,(k:Int),0,0,[o]⟩
def b0F:a02:=⟨4,5,0,0,0,0,[⟨5,1,1,⟨0,0,0⟩,[97],[],0,0,0⟩]⟩
def f5N (m:a02) (e s q:Int):Bool:=decide (m.kind=6)&&decide (m.err=e)&&decide (m.site=s)&&decide (m.seq=q)
theorem c8x:(∀k,k<5->∀i,i<6->a2Q (b00 k (a3N.getD i a0C))=true/\(a0t ⟨a18,a4e 6,[1,2]⟩ (b00 k (a3N.getD i a0C))).2.1=false/\f5N (a0t ⟨a18,a4e 6,[1,2]⟩ (b00 k (a3N.getD i a0C))).2.2 (a8G.getD i 0) 1 (a3N.getD i a0C).seq=true)/\
  a2Q b0F=true/\(a0t ⟨a18,a4e 6,[1,2]⟩ b0F).2.1=false/\(a0t ⟨a18,a4e 6,[1,2]⟩ b0F).2.2.kind=6/\(a0t ⟨a18,a4e 6,[1,2]⟩ b0F).2.2.err=3:=by decide +kernel
theorem c2g:∃w,a3b 6=w/\a7N w/\(∀k,k<5->∀i,i<6->∃a:a02,a0Y w (b00 k (a3N.getD i a0C))=(w,a,0)/\a.kind=6/\a.err=a8G.getD i 0/\a.site=1/\a.seq=(a3N.getD i a0C).seq)/\∃b:a02,a0Y w b0F=(w,b,0)/\b.kind=6/\b.err=3:=by
 obtain ⟨i1,i2,i3⟩:=a5A 6 (by omega)
 obtain ⟨k1,k2,k3,k4,k5⟩:=c8x
 generalize a3b 6=w at *
 have e:∀m,a0t w m=a0t ⟨a18,a4e 6,[1,2]⟩ m:=fun m=>by rw [b0A,i2,i3]
 refine ⟨w,rfl,(a4w i1).1,fun k hk i hi=>?_,_,a8E i1 k2 (.inr (.inr rfl)) (by rw [e];exact k3),by rw [e];exact k4,by rw [e];exact k5⟩
 obtain ⟨a1,a2,a3⟩:=k1 k hk i hi
 refine ⟨_,a8E i1 a1 (.inr (.inr rfl)) (by rw [e];exact a2),?_⟩
 rw [e]
 simp only [f5N,Bool.and_eq_true,decide_eq_true_eq] at a3
 exact ⟨a3.1.1.1,a3.1.1.2,a3.1.2,a3.2⟩
theorem b01 (p:a7a) (hp:b0Z p):PEv Tryz.prog 6 [Arg.enc p] (bv true):=by
 refine a6x mixed c5O Tryz.func6 sl6 ok6 (by kernel_rfl) (by simp) (by simp [a1J]) ?_
 have hl:=hp.l
 obtain ⟨w,w0,okw,hA,b,b1,b2,b3⟩:=c2g
 have hm:=b9v 6 (by omega)
 rw [w0] at hm
 have htb:=a9p w b0F okw ⟨by simp [b0F],by simp [b0F]⟩
 rw [b1] at htb
 have hta:=fun k o (hk:okM (b00 k o))=>a9p w (b00 k o) okw hk
 unfold s6
 refine v1 (mkS [(1,.c (.pt (1,1) 0 0))] [.var (1,1) 32 [.a0x,.a0x,.a0x,.a0x,.a0x,.sl .brw false (a0a p.l)]]) (fun J hJ=>?_) ?_
 ·simp only [a9r,a1J]
  simp
  refine hJ _ (a0b rfl ?_)
  simp
 refine v1 (mkS [(1,.c (.pt (1,1) 0 0)),(3,.c (.pt (1,2) 0 0))] [.var (1,1) 32 [.a0x,.a0x,.a0x,.a0x,.a0x,.sl .brw false (a0a p.l)],.var (1,2) 29 (a0r .old w)]) (fun J hJ=>?_) ?_
 ·simp
  refine a0R hm ?_ (by simp [a0r]) (by simp [a0r]) ?_
  ·simp
  simp [a0r]
  refine hJ _ (a0b rfl ?_)
  simp [a0r]
 refine v1 (mkS [(1,.c (.pt (1,1) 0 0)),(3,.c (.pt (1,2) 0 0)),(4,.c (.pt (1,3) 0 0))] [.var (1,1) 32 [.a0x,.a0x,.a0x,.a0x,.a0x,.sl .brw false (a0a p.l)],.var (1,2) 29 (a0r .old w),.var (1,3) 50 [.raw (.int .i64 1),.raw (.int .i64 9),.raw (.int .i64 0)]]) (fun J hJ=>?_) ?_
 ·simp
  refine hJ _ (a0b rfl ?_)
  simp [a0r]
 refine v1 (mkS [(1,.c (.pt (1,1) 0 0)),(3,.c (.pt (1,2) 0 0)),(5,.c (.so (1,4) 0 6))] [.var (1,1) 32 [.a0x,.a0x,.a0x,.a0x,.a0x,.sl .brw false (a0a p.l)],.var (1,2) 29 (a0r .old w),.tab (1,4) 53 11 (a0a a3N)]) (fun J hJ=>?_) ?_
 ·simp
  refine hJ _ (a0b rfl ?_)
  simp [a0r,a3N,a2G,a0e]
 refine v1 (mkS [(1,.c (.pt (1,1) 0 0)),(3,.c (.pt (1,2) 0 0)),(5,.c (.so (1,4) 0 6)),(6,.c (.so (1,5) 0 6))] [.var (1,1) 32 [.a0x,.a0x,.a0x,.a0x,.a0x,.sl .brw false (a0a p.l)],.var (1,2) 29 (a0r .old w),.rows (1,4) 53 11 (a0a a3N),.tab (1,5) 3 1 (a0a a8G)]) (fun J hJ=>?_) ?_
 ·simp
  refine hJ _ (a0b rfl ?_)
  simp [a0r,a8G,a2G]
 have hL6:a3N.length=6:=rfl
 have hE6:a8G.length=6:=rfl
 have hLs:∀o∈a3N,o.text.length<1000000/\o.gone.length<1000000:=by
  intro o ho
  simp only [a3N,List.mem_cons,List.not_mem_nil,or_false] at ho
  rcases ho with rfl|rfl|rfl|rfl|rfl|rfl<;>simp
 generalize a3N=L at *
 generalize a8G=E at *
 refine v1C (mkS [(3,.c (.pt (1,2) 0 0))] [.var (1,2) 29 (a0r .old w)]) (fun J0 hJ0=>?_) ?_
 ·refine v1 (mkS [(1,.c (.pt (1,1) 0 0)),(3,.c (.pt (1,2) 0 0)),(5,.c (.so (1,4) 0 6)),(6,.c (.so (1,5) 0 6)),(7,iv 0)] [.var (1,1) 32 [.a0x,.a0x,.a0x,.a0x,.a0x,.sl .brw false (a0a p.l)],.var (1,2) 29 (a0r .old w),.rows (1,4) 53 11 (a0a L),.rows (1,5) 3 1 (a0a E)]) (fun J hJ=>?_) ?_
  ·simp
   refine hJ _ (a0b rfl ?_)
   simp [a0r]
  refine a4y ?_
  refine a1p ?_
  refine vlc (fun i:Nat=>i<=6) (fun i=>mkS [(1,.c (.pt (1,1) 0 0)),(3,.c (.pt (1,2) 0 0)),(5,.c (.so (1,4) 0 6)),(6,.c (.so (1,5) 0 6)),(7,iv i)] [.var (1,1) 32 [.a0x,.a0x,.a0x,.a0x,.a0x,.sl .brw false (a0a p.l)],.var (1,2) 29 (a0r .old w),.rows (1,4) 53 11 (a0a L),.rows (1,5) 3 1 (a0a E)]) (fun i=>6-i) 0 (by omega) (a0b rfl ?_) ?_
  ·simp [a0r]
  intro i hi J hJ
  have hw:IntKind.wrap .i64 ((i:Int)+1)=((i+1:Nat):Int):=by rw [a0d]<;>omega
  unfold f5y
  refine vs (ι:=Unit) (fun _=>i<6) (fun _=>mkS [(1,.c (.pt (1,1) 0 0)),(3,.c (.pt (1,2) 0 0)),(5,.c (.so (1,4) 0 6)),(6,.c (.so (1,5) 0 6)),(7,iv i)] [.var (1,1) 32 [.a0x,.a0x,.a0x,.a0x,.a0x,.sl .brw false (a0a p.l)],.var (1,2) 29 (a0r .old w),.rows (1,4) 53 11 (a0a L),.rows (1,5) 3 1 (a0a E)]) (fun J1 hJ1=>?_) (fun _ h2=>?_)
  ·by_cases h2:(i:Int)<6
   ·simp [h2]
    refine hJ1 () (by omega) _ (a0b rfl ?_)
    simp [a0r]
   ·simp [h2]
    refine hJ0 _ (a0b rfl ?_)
    simp [a0r]
  have hiL:i<L.length:=by omega
  have hiE:i<E.length:=by omega
  obtain ⟨k,hk⟩:∃k,k=p.l.length%5:=⟨_,rfl⟩
  have hk5:k<5:=by omega
  have e1:(p.l.length:Int).tmod 5=(k:Int):=by rw [Int.tmod_eq_emod_of_nonneg (by omega)];omega
  obtain ⟨a,a1,a2,a3,a4,a5⟩:=hA k hk5 i h2
  have eL:L.getD i a0C=L[i]:=by simp [List.getD,hiL]
  have eE:E.getD i 0=E[i]:=by simp [List.getD,hiE]
  rw [eL] at a1 a5
  rw [eE] at a3
  have hLi:=hLs _ (List.getElem_mem hiL)
  have hta:=hta k L[i] ⟨by simp [b00],by simpa [b00] using hLi⟩
  rw [a1] at hta
  clear a1 hA
  obtain ⟨m1,m2,m3,m4,m5,m6,m7⟩:=a
  simp only at a2 a3 a4 a5 hta
  subst a2 a3 a4 a5
  refine v1C (mkS [(1,.c (.pt (1,1) 0 0)),(3,.c (.pt (1,2) 0 0)),(5,.c (.so (1,4) 0 6)),(6,.c (.so (1,5) 0 6)),(7,iv i)] [.var (1,1) 32 [.a0x,.a0x,.a0x,.a0x,.a0x,.sl .brw false (a0a p.l)],.var (1,2) 29 (a0r .old w),.rows (1,4) 53 11 (a0a L),.rows (1,5) 3 1 (a0a E)]) (fun J1 hJ1=>?_) ?_
  rotate_left
  ·refine a1p ?_
   simp [hw]
   refine hJ (i+1) (by omega) (by omega) _ (a0b rfl ?_)
   simp [a0r,hw]
  refine a4y ?_
  refine v1 (mkS [(1,.c (.pt (1,1) 0 0)),(3,.c (.pt (1,2) 0 0)),(5,.c (.so (1,4) 0 6)),(6,.c (.so (1,5) 0 6)),(7,iv i),(8,.c (.pt (1,6) 0 0)),(9,.c (.pt (1,7) 0 0)),(10,iv 0)] [.var (1,1) 32 [.a0x,.a0x,.a0x,.a0x,.a0x,.sl .brw false (a0a p.l)],.var (1,2) 29 (a0r .old w),.rows (1,4) 53 11 (a0a L),.rows (1,5) 3 1 (a0a E),.var (1,6) 29 (a0r .old w),.var (1,7) 38 (a0l .old ⟨6,1,m3,m4,L[i].seq,E[i],m7⟩)]) (fun J hJ=>?_) ?_
  ·simp [a0r,hiL,hL6,h2,e1,a0e]
   refine ⟨by omega,a1x (args':=[.g (a0r .brw w),.g (a0l .brw (b00 k L[i]))]) ?_ hta (by simp [a0r,a0l,a0u]) (by simp [a0r,a0l,a0u]) ?_⟩
   ·simp [a0r,a0l,a0u,b00,a2G,a0e]
   simp [a0r,a0l,a0u]
   refine hJ _ (a0b rfl ?_)
   simp [a0r,a0l,a0u]
  refine a1p ?_
  simp only [a0r,a0l,a0u]
  obtain ⟨⟨y1,y2⟩,y3,y4⟩:=w
  simp [okw,hiL,hiE,hL6,hE6,h2,a0e]
  refine ⟨by omega,hJ1 _ (a0b rfl ?_)⟩
  simp [a0r]
 refine v1 (mkS [(3,.c (.pt (1,2) 0 0)),(11,.c (.pt (1,3) 0 0)),(12,.c (.pt (1,4) 0 0)),(13,iv 0)] [.var (1,2) 29 (a0r .old w),.var (1,3) 29 (a0r .old w),.var (1,4) 38 (a0l .old b)]) (fun J hJ=>?_) ?_
 ·simp only [a0r]
  simp
  refine a1x (args':=[.g (a0r .brw w),.g (a0u (.sl .brw false [[.raw (.int .i64 5),.raw (.int .i64 1),.raw (.int .i64 1),.raw (.int .i64 0),.raw (.int .i64 0),.raw (.int .i64 0),.str [97],.raw (.slice none 0 0),.raw (.int .i64 0),.raw (.int .i64 0),.raw (.int .i64 0)]]) b0F)]) ?_ (f3r htb (by simp [a0r,a0l,a0u]) _ (by simp [c9C,b0F,a2G,a0e]) (by simp [a7g,a7h])) (by simp [a0r,a0l,a0u]) (by simp [a0r,a0l,a0u]) ?_
  ·simp [a0r,a0u,b0F]
  simp [a0r,a0l,a0u]
  refine hJ _ (a0b rfl ?_)
  simp [a0r,a0l,a0u]
 refine a1p ?_
 obtain ⟨n1,n2,n3,n4,n5,n6,n7⟩:=b
 simp only at b2 b3
 subst b2 b3
 simp only [a0r,a0l,a0u]
 obtain ⟨⟨y1,y2⟩,y3,y4⟩:=w
 simp [okw]
 refine a0w (mkS [(2,bv true)] []) (a0b rfl ?_) ?_<;>simp [a1J]
open Go
def c8y (s:List (List UInt8)) (k:Nat):a0k:=⟨s.set k (1::(s.getD k []).drop 1),[]⟩
def b19 (n k:Nat):Bool:=
 let d:=c8y (a19 (b0B n)++List.replicate (118-n) blank) k
 let y:=(a4v d).1
 a1N d&&decide ((a4v d).2=0)&&decide (y.ops=(a4e n).take y.ops.length)&&decide (y.ops.length<=n)&&a1P y
theorem d1U:∀n,n<5->∀k,k<n+2->b19 n k=true:=by decide +kernel
theorem d1V:∀n,n<4->∀k,k<n+7->b19 (n+5) k=true:=by decide +kernel
theorem d1W:∀n,n<3->∀k,k<n+11->b19 (n+9) k=true:=by decide +kernel
theorem d1X:∀n,n<2->∀k,k<n+14->b19 (n+12) k=true:=by decide +kernel
theorem d1Y (n:Nat) (hn:n<14) (k:Nat) (hk:k<n+2):b19 n k=true:=by
 by_cases h1:n<5
 ·exact d1U n h1 k hk
 ·by_cases h2:n<9
  ·obtain ⟨m,rfl⟩:∃m,n=m+5:=⟨n-5,by omega⟩
   exact d1V m (by omega) k (by omega)
  ·by_cases h3:n<12
   ·obtain ⟨m,rfl⟩:∃m,n=m+9:=⟨n-9,by omega⟩
    exact d1W m (by omega) k (by omega)
   ·obtain ⟨m,rfl⟩:∃m,n=m+12:=⟨n-12,by omega⟩
    exact d1X m (by omega) k (by omega)
theorem c8z (n:Nat) (hn:n<14):∃r,a3b n=r/\(∃es k,a34 r es k)/\a4v r.disk=(r,0)/\r.disk.safe.length=120/\r.disk.wait=[]/\(∀s∈r.disk.safe,s.length=32)/\
  ∀k,k<n+2->a1N (c8y r.disk.safe k)=true/\∃y,a4v (c8y r.disk.safe k)=(y,0)/\a1P y=true/\y.ops=r.ops.take y.ops.length/\y.ops.length<=n:=by
 obtain ⟨i1,i2,i3⟩:=a5A n (by omega)
 have hd:=i1.disk
 have hsz:=i1.sz
 refine ⟨_,rfl,⟨_,_,i1⟩,c5x i1,?_,by rw [hd],(a1f i1.may).1,fun k hk=>?_⟩
 ·have h1:∀m,m<=40->(a19 (b0B m)).length=m+2:=fun m=>by
   induction m with
   |zero=>
    intro _
    obtain ⟨_,s1⟩:=b4W 0 (by omega)
    obtain ⟨_,s2⟩:=b4W 1 (by omega)
    have e:b0B 0=[⟨true,((0+1:Nat):Int),a0C⟩,⟨true,((1+1:Nat):Int),a0C⟩]:=rfl
    rw [e,a2a,a2a,List.length_append,List.length_append,a3M,a3M,s1,s2]
    rfl
   |succ m ih=>
    intro hm
    have e1:b0B (m+1)=b0B m++[⟨false,0,a5j m⟩]:=by rw [b0B,a5k,List.map_append,<-List.append_assoc];rfl
    rw [e1,a9n,List.length_append,ih (by omega),show a19 [⟨false,0,a5j m⟩]=frS ⟨false,0,a5j m⟩ by simp [a19],a3M,(c5L m (by omega)).2]
  rw [hd]
  simp only [List.length_append,List.length_replicate,h1 n (by omega)]
  omega
 ·have h:=d1Y n hn k hk
  have hs:(a3b n).disk.safe=a19 (b0B n)++List.replicate (118-n) blank:=by rw [hd]
  rw [hs,i2]
  simp only [b19,Bool.and_eq_true,decide_eq_true_eq] at h
  obtain ⟨⟨⟨⟨a1,a2⟩,a3⟩,a4⟩,a5⟩:=h
  exact ⟨a1,_,Prod.ext rfl a2,a5,a3,a4⟩
open Go Go.Proofs
def b9x:List AV->Option (Prop×AV):=t1 (fun d:a0k=>d.safe.length<1000000/\d.wait.length<1000000) fun d:a0k=>.t [(true,a0r .old (a4v d).1),(false,[.raw (.int .i64 (a4v d).2)])]
@[simp] theorem e57 {l:List AV}:b9x l=(t1 (fun d:a0k=>d.safe.length<1000000/\d.wait.length<1000000) fun d:a0k=>.t [(true,a0r .old (a4v d).1),(false,[.raw (.int .i64 (a4v d).2)])]) l:=(rfl)
def b9y:List AV->Option (Prop×AV):=t1 a98 fun r:a0o=>iv (if a1P r=true then 0 else 1)
@[simp] theorem e58 {l:List AV}:b9y l=(t1 a98 fun r:a0o=>iv (if a1P r=true then 0 else 1)) l:=(rfl)
def b9z:List AV->Option (Prop×AV):=t1 (fun d:a0k=>a1N d=true/\d.wait=[]) fun d:a0k=>.g (a0r .old (a4v d).1)
@[simp] theorem e59 {l:List AV}:b9z l=(t1 (fun d:a0k=>a1N d=true/\d.wait=[]) fun d:a0k=>.g (a0r .old (a4v d).1)) l:=(rfl)
def b9A:List AV->Option (Prop×AV):=t1 (fun d:a0k=>d.safe.length<1000000/\d.wait.length<1000000) fun d:a0k=>.g (a0y d)
@[simp] theorem e6a {l:List AV}:b9A l=(t1 (fun d:a0k=>d.safe.length<1000000/\d.wait.length<1000000) fun d:a0k=>.g (a0y d)) l:=(rfl)
def b9B:List AV->Option (Prop×AV):=t1 (fun _=>True) fun n:Int=>a2g (a8Y n)
@[simp] theorem e6b {l:List AV}:b9B l=(t1 (fun _=>True) fun n:Int=>a2g (a8Y n)) l:=(rfl)
def b9C:List AV->Option (Prop×AV):=t3 (fun (d:a0k) _ _=>d.safe.length<1000000/\d.wait.length<1000000) fun (d:a0k) (n:Int) (s:List UInt8)=>a2g (a9i d n s)
@[simp] theorem e6c {l:List AV}:b9C l=(t3 (fun (d:a0k) _ _=>d.safe.length<1000000/\d.wait.length<1000000) fun (d:a0k) (n:Int) (s:List UInt8)=>a2g (a9i d n s)) l:=(rfl)
def b9D:List AV->Option (Prop×AV):=t0 (.c (.str blank))
@[simp] theorem e6d {l:List AV}:b9D l=(t0 (.c (.str blank))) l:=(rfl)
def GA6:CT:=(32,.pu b9x)::(33,.pu b9y)::(35,.pu b9z)::(34,.pu b9A)::(36,.pu b9B)::(37,.pu b9C)::(38,.pu b9D)::FY1
theorem e1t:a1k Tryz.prog GA6:=⟨a0n fun d h=>d1K d h.1 h.2,
 a0n fun r h=>c5A r h,
 a0n fun d h=>c2b d h.1 h.2,
 a0n fun d h=>a5r d h.1 h.2,
 a0n fun n _=>c5z n,
 a4L fun d n s h=>PEv.frz .old (by simp) (b1H d n s h.1 h.2),
 b1i a8e,c5O⟩
@[simp] theorem e1u:a0c GA6 32=some (.pu b9x):=(rfl)
@[simp] theorem e1v:a0c GA6 33=some (.pu b9y):=(rfl)
@[simp] theorem e1w:a0c GA6 35=some (.pu b9z):=(rfl)
@[simp] theorem e1x:a0c GA6 34=some (.pu b9A):=(rfl)
@[simp] theorem e1y:a0c GA6 36=some (.pu b9B):=(rfl)
@[simp] theorem e1z:a0c GA6 37=some (.pu b9C):=(rfl)
@[simp] theorem e1A:a0c GA6 38=some (.pu b9D):=(rfl)
@[simp] theorem e6e {n:Nat} (h:(n==32||n==33||n==35||n==34||n==36||n==37||n==38)=false):a0c GA6 n=a0c FY1 n:=by
 simp only [Bool.or_eq_false_iff,beq_eq_false_iff_ne,ne_eq] at h
 simp [GA6,a0c,h]
theorem d1Z:a8Y 3=(⟨[blank,blank,blank],[]⟩,0)/\a9i ⟨[blank,blank,blank],[]⟩ 0 blank=(⟨[blank,blank,blank],[⟨0,blank⟩]⟩,0)/\(a4v ⟨[blank,blank,blank],[⟨0,blank⟩]⟩).2=5/\a22 ⟨3,1,0,0,0,0,[]⟩=true:=by decide +kernel
theorem b41 (p:a7a) (hp:b0Z p):PEv Tryz.prog 7 [Arg.enc p] (bv true):=by
 refine a6x mixed e1t Tryz.func7 sl7 ok7 (by kernel_rfl) (by simp) (by simp [a1J]) ?_
 have hl:=hp.l
 obtain ⟨w1,w2,w3,w4⟩:=d1Z
 obtain ⟨q,hq⟩:∃q,q=p.l.length%3:=⟨_,rfl⟩
 have hq3:(p.l.length:Int).tmod 3=(q:Int):=by rw [Int.tmod_eq_emod_of_nonneg (by omega)];omega
 unfold s7
 refine v1 (mkS [(1,.c (.pt (1,1) 0 0))] [.var (1,1) 32 [.a0x,.a0x,.a0x,.a0x,.a0x,.sl .brw false (a0a p.l)]]) (fun J hJ=>?_) ?_
 ·simp only [a9r,a1J]
  simp
  refine hJ _ (a0b rfl ?_)
  simp
 refine v1C (mkS [] []) (fun J0 hJ0=>?_) ?_
 rotate_left
 ·generalize hB:blank=B at *
  refine v1 (mkS [(11,.c (.pt (1,1) 0 0)),(12,iv 0)] [.var (1,1) 25 (a2m ⟨[B,B,B],[]⟩)]) (fun J hJ=>?_) ?_
  ·simp [w1,a2g,a2m]
   refine hJ _ (a0b rfl ?_)
   simp [a2m]
  refine v1 (mkS [(11,.c (.pt (1,1) 0 0)),(12,iv 0),(13,iv 0)] [.var (1,1) 25 (a2m ⟨[B,B,B],[⟨0,B⟩]⟩)]) (fun J hJ=>?_) ?_
  ·simp [a2m,hB,w2,a2g]
   refine hJ _ (a0b rfl ?_)
   simp [a2m]
  refine v1 (mkS [(12,iv 0),(13,iv 0),(15,iv 5)] []) (fun J hJ=>?_) ?_
  ·have hO:a4v ⟨[B,B,B],[⟨0,B⟩]⟩=((a4v ⟨[B,B,B],[⟨0,B⟩]⟩).1,5):=Prod.ext rfl w3
   generalize (a4v ⟨[B,B,B],[⟨0,B⟩]⟩).1=Y at hO
   simp [hO,a2m,a0r]
   refine hJ _ (a0b rfl ?_)
   simp
  refine a1p ?_
  have hok:okM ⟨3,1,0,0,0,0,[]⟩:=⟨by simp,by simp⟩
  simp [hok,w4]
  refine a0w (mkS [(2,bv true)] []) (a0b rfl ?_) ?_<;>simp [a1J]
 refine v1 (mkS [(1,.c (.pt (1,1) 0 0)),(3,iv 0)] [.var (1,1) 32 [.a0x,.a0x,.a0x,.a0x,.a0x,.sl .brw false (a0a p.l)]]) (fun J hJ=>?_) ?_
 ·simp
  refine hJ _ (a0b rfl ?_)
  simp
 refine a4y ?_
 refine a1p ?_
 refine vlc (fun n:Nat=>n<=16) (fun n=>mkS [(1,.c (.pt (1,1) 0 0)),(3,iv n)] [.var (1,1) 32 [.a0x,.a0x,.a0x,.a0x,.a0x,.sl .brw false (a0a p.l)]]) (fun n=>17-n) 0 (by omega) (a0b rfl ?_) ?_
 ·simp
 intro n hn J hJ
 have e1:IntKind.wrap .i64 ((n:Int)+1)=(n:Int)+1:=by rw [a0d]<;>omega
 have e2:IntKind.wrap .i64 ((n:Int)+1+(q:Int))=((n+1+q:Nat):Int):=by rw [a0d]<;>omega
 unfold f5z
 refine vs (ι:=Unit) (fun _=>n<14) (fun _=>mkS [(1,.c (.pt (1,1) 0 0)),(3,iv n)] [.var (1,1) 32 [.a0x,.a0x,.a0x,.a0x,.a0x,.sl .brw false (a0a p.l)]]) (fun J1 hJ1=>?_) (fun _ h2=>?_)
 ·by_cases h2:(n:Int)<14
  ·simp [h2]
   refine hJ1 () (by omega) _ (a0b rfl ?_)
   simp
  ·simp [h2]
   refine hJ0 _ (a0b rfl ?_)
   simp
 obtain ⟨r,hr,⟨es,k,hI⟩,ho,hs0,hwt,hs1,hk⟩:=c8z n h2
 obtain ⟨okr,_⟩:=a4w hI
 have hmay:=b0r hI
 have hm:=b9v n (by omega)
 rw [hr] at hm
 obtain ⟨⟨sf,wt⟩,ops,ends⟩:=r
 simp only at hwt hs0 hs1 ho hk
 subst hwt
 have okl:=okr.l
 have hos:sf.length<1000000:=by omega
 refine v1C (mkS [(1,.c (.pt (1,1) 0 0)),(3,iv n)] [.var (1,1) 32 [.a0x,.a0x,.a0x,.a0x,.a0x,.sl .brw false (a0a p.l)]]) (fun J1 hJ1=>?_) ?_
 rotate_left
 ·refine a1p ?_
  simp [hq3,e1,e2]
  refine hJ (n+1+q) (by omega) (by omega) _ (a0b rfl ?_)
  simp [e2]
 refine a4y ?_
 refine v1 (mkS [(1,.c (.pt (1,1) 0 0)),(3,iv n),(4,.c (.pt (1,2) 0 0))] [.var (1,1) 32 [.a0x,.a0x,.a0x,.a0x,.a0x,.sl .brw false (a0a p.l)],.var (1,2) 29 (a0r .old ⟨⟨sf,[]⟩,ops,ends⟩)]) (fun J hJ=>?_) ?_
 ·simp
  refine a0R hm ?_ (by simp [a0r]) (by simp [a0r]) ?_
  ·simp
  simp [a0r]
  refine hJ _ (a0b rfl ?_)
  simp [a0r]
 refine v1 (mkS [(1,.c (.pt (1,1) 0 0)),(3,iv n),(4,.c (.pt (1,2) 0 0)),(5,.c (.pt (1,3) 0 0)),(6,iv 0)] [.var (1,1) 32 [.a0x,.a0x,.a0x,.a0x,.a0x,.sl .brw false (a0a p.l)],.var (1,2) 29 (a0r .old ⟨⟨sf,[]⟩,ops,ends⟩),.var (1,3) 29 (a0r .old ⟨⟨sf,[]⟩,ops,ends⟩)]) (fun J hJ=>?_) ?_
 ·simp [a0r,hos,ho]
  refine hJ _ (a0b rfl ?_)
  simp [a0r]
 refine v1 (mkS [(1,.c (.pt (1,1) 0 0)),(3,iv n),(4,.c (.pt (1,2) 0 0))] [.var (1,1) 32 [.a0x,.a0x,.a0x,.a0x,.a0x,.sl .brw false (a0a p.l)],.var (1,2) 29 (a0r .old ⟨⟨sf,[]⟩,ops,ends⟩)]) (fun J hJ=>?_) ?_
 ·simp [a0r,okr,okl,hmay]
  refine hJ _ (a0b rfl ?_)
  simp [a0r]
 refine v1 (mkS [(1,.c (.pt (1,1) 0 0)),(3,iv n),(4,.c (.pt (1,2) 0 0)),(7,iv 0)] [.var (1,1) 32 [.a0x,.a0x,.a0x,.a0x,.a0x,.sl .brw false (a0a p.l)],.var (1,2) 29 (a0r .old ⟨⟨sf,[]⟩,ops,ends⟩)]) (fun J hJ=>?_) ?_
 ·simp
  refine hJ _ (a0b rfl ?_)
  simp [a0r]
 refine a4y ?_
 refine a1p ?_
 refine vlc (fun k:Nat=>k<=n+2) (fun k=>mkS [(1,.c (.pt (1,1) 0 0)),(3,iv n),(4,.c (.pt (1,2) 0 0)),(7,iv k)] [.var (1,1) 32 [.a0x,.a0x,.a0x,.a0x,.a0x,.sl .brw false (a0a p.l)],.var (1,2) 29 (a0r .old ⟨⟨sf,[]⟩,ops,ends⟩)]) (fun k=>n+2-k) 0 (by omega) (a0b rfl ?_) ?_
 ·simp [a0r]
 intro k hkn J hJ
 have e3:IntKind.wrap .i64 ((n:Int)+2)=(n:Int)+2:=by rw [a0d]<;>omega
 have e4:IntKind.wrap .i64 ((k:Int)+1)=((k+1:Nat):Int):=by rw [a0d]<;>omega
 unfold e8p
 refine vs (ι:=Unit) (fun _=>k<n+2) (fun _=>mkS [(1,.c (.pt (1,1) 0 0)),(3,iv n),(4,.c (.pt (1,2) 0 0)),(7,iv k)] [.var (1,1) 32 [.a0x,.a0x,.a0x,.a0x,.a0x,.sl .brw false (a0a p.l)],.var (1,2) 29 (a0r .old ⟨⟨sf,[]⟩,ops,ends⟩)]) (fun J2 hJ2=>?_) (fun _ h3=>?_)
 ·by_cases h3:(k:Int)<(n:Int)+2
  ·simp [e3,h3]
   refine hJ2 () (by omega) _ (a0b rfl ?_)
   simp [a0r]
  ·simp [e3,h3]
   refine hJ1 _ (a0b rfl ?_)
   simp
 obtain ⟨m1,y,y1,y2,y3,y4⟩:=hk k h3
 have hks:k<sf.length:=by omega
 have hsl:sf.getD k []=sf[k]:=by simp [List.getD,hks]
 have h32:=hs1 _ (List.getElem_mem hks)
 rw [c8y,hsl] at m1 y1
 have hset:(sf.set k (1::sf[k].drop 1)).length<1000000:=by rw [List.length_set];omega
 generalize hS:sf.set k (1::sf[k].drop 1)=S at *
 obtain ⟨yes,yk,hIy⟩:=a6z y2
 obtain ⟨oky,_⟩:=a4w hIy
 refine v1C (mkS [(1,.c (.pt (1,1) 0 0)),(3,iv n),(4,.c (.pt (1,2) 0 0)),(7,iv k)] [.var (1,1) 32 [.a0x,.a0x,.a0x,.a0x,.a0x,.sl .brw false (a0a p.l)],.var (1,2) 29 (a0r .old ⟨⟨sf,[]⟩,ops,ends⟩)]) (fun J3 hJ3=>?_) ?_
 rotate_left
 ·refine a1p ?_
  simp [e4]
  refine hJ (k+1) (by omega) (by omega) _ (a0b rfl ?_)
  simp [a0r,e4]
 refine a4y ?_
 refine v1 (mkS [(1,.c (.pt (1,1) 0 0)),(3,iv n),(4,.c (.pt (1,2) 0 0)),(7,iv k),(8,.c (.pt (1,3) 0 0))] [.var (1,1) 32 [.a0x,.a0x,.a0x,.a0x,.a0x,.sl .brw false (a0a p.l)],.var (1,2) 29 (a0r .old ⟨⟨sf,[]⟩,ops,ends⟩),.var (1,3) 25 [.so (1,4) 0 sf.length,.sl .old false []],.rows (1,4) 9 1 (a0a sf)]) (fun J hJ=>?_) ?_
 ·simp [a0r,hos,a0y]
  refine hJ _ (a0b rfl ?_)
  simp [a0r]
 refine v1 (mkS [(1,.c (.pt (1,1) 0 0)),(3,iv n),(4,.c (.pt (1,2) 0 0)),(7,iv k),(8,.c (.pt (1,3) 0 0))] [.var (1,1) 32 [.a0x,.a0x,.a0x,.a0x,.a0x,.sl .brw false (a0a p.l)],.var (1,2) 29 (a0r .old ⟨⟨sf,[]⟩,ops,ends⟩),.var (1,3) 25 (a2m ⟨S,[]⟩)]) (fun J hJ=>?_) ?_
 ·have ht:List.take 32 sf[k]=sf[k]:=List.take_of_length_le (by omega)
  have hrw:(a0a sf).set k [AC.str (1::sf[k].tail)]=a0a S:=by rw [<-a4i,<-hS,List.drop_one]
  simp [hks,h32,ht]
  refine hJ _ (a0b rfl ?_)
  simp [a0r,a2m,hrw]
  rw [<-hS,List.length_set]
 refine v1 (mkS [(1,.c (.pt (1,1) 0 0)),(3,iv n),(4,.c (.pt (1,2) 0 0)),(7,iv k),(8,.c (.pt (1,3) 0 0)),(9,.c (.pt (1,5) 0 0)),(10,iv 0)] [.var (1,1) 32 [.a0x,.a0x,.a0x,.a0x,.a0x,.sl .brw false (a0a p.l)],.var (1,2) 29 (a0r .old ⟨⟨sf,[]⟩,ops,ends⟩),.var (1,3) 25 (a2m ⟨S,[]⟩),.var (1,5) 29 (a0r .old y)]) (fun J hJ=>?_) ?_
 ·simp [a2m,hset,y1,a0r]
  refine hJ _ (a0b rfl ?_)
  simp [a0r,a2m]
 refine a1p ?_
 obtain ⟨⟨u1,u2⟩,u3,u4⟩:=y
 simp only at y3 y4
 have z1:¬(n:Int)<u3.length:=by omega
 have z2:u3.length<=ops.length:=by rw [y3,List.length_take];omega
 have z3:List.take u3.length (a0a ops)=a0a u3:=by rw [a8c,<-y3]
 have z4:u3.length<4611686018427387904:=by omega
 have z5:(∀o∈u3,o.gone.length<4611686018427387904)=True:=by
  simp only [eq_iff_iff,iff_true]
  exact fun o ho=>Nat.lt_trans (oky.2.2.2.2 o ho).2 (by omega)
 simp only [a0r,a2m]
 simp [oky,m1,y1,y2,a0r,z1,z2,z3,z4,z5]
 refine hJ3 _ (a0b rfl ?_)
 simp [a0r]
open Go Go.Proofs
structure f3y where
 o:f3u
 d:b4X
 g0u:List a0i
 nums:List Int
def askRow (p:f3y):List AC:=[.sl .brw false (a0a p.o.ops),.sl .brw false (a0a p.o.elems),.sl .brw false (a0a p.o.nums),.sl .brw false (a0a p.d.d.safe),.sl .brw false (a0a p.d.d.wait),.raw (.int .i64 p.d.n),.sl .brw false (a0a p.d.l),
 .sl .brw false (a0a p.g0u),.sl .brw false (a0a p.nums)]
instance f5O:Arg f3y where
 enc p:=.g (askRow p)
 dec|.g [.sl .brw false a,.sl .brw false b,.sl .brw false c,.sl .brw false d,.sl .brw false e,.raw (.int .i64 n),.sl .brw false f,.sl .brw false g,.sl .brw false h]=>
    (match a4A a,a4A b,a4A c,a4A d,a4A e,a4A f,a4A g,a4A h with
     |some a,some b,some c,some d,some e,some f,some g,some h=>some ⟨⟨a,b,c⟩,⟨⟨d,e⟩,n,f⟩,g,h⟩|_,_,_,_,_,_,_,_=>none)|_=>none
 a1o {x p} h:=by
  split at h
  ·split at h
   ·rename_i h1 h2 h3 h4 h5 h6 h7 h8
    cases h
    rw [a0O h1,a0O h2,a0O h3,a0O h4,a0O h5,a0O h6,a0O h7,a0O h8]
    rfl
   ·cases h
  ·cases h
@[simp] theorem f3z (p:f3y):Arg.enc p=.g (askRow p):=rfl
open Go Go.Proofs
theorem b2a:b5U a0F Tryz.prog 50 (fun _=>True):=by
 intro H enc w F fuel cs x hF h
 obtain ⟨xs,n,_,rfl,hl,hlen,hf⟩:=DataW.trod_struct Tryz.underlying50 h
 rw [show Tryz.prog.cellsOf 50=3 from by kernel_rfl] at hl
 match cs,hl,xs,hlen with
 |[c0,c1,c2],_,[x0,x1,x2],_=>
  have h0:=hf 0 _ rfl
  change DataW.trod enc Tryz.prog w 0 _ true _ 3 (List.take (Tryz.prog.cellsOf 3) [c0,c1,c2])=some x0 at h0
  rw [show Tryz.prog.cellsOf 3=1 from by kernel_rfl] at h0
  have h1:=hf 1 _ rfl
  change DataW.trod enc Tryz.prog w 0 _ true _ 3 (List.take (Tryz.prog.cellsOf 3) [c1,c2])=some x1 at h1
  rw [show Tryz.prog.cellsOf 3=1 from by kernel_rfl] at h1
  have h2:=hf 2 _ rfl
  change DataW.trod enc Tryz.prog w 0 _ true _ 3 (List.take (Tryz.prog.cellsOf 3) [c2])=some x2 at h2
  rw [show Tryz.prog.cellsOf 3=1 from by kernel_rfl] at h2
  obtain ⟨a0,_,o0,r0,_⟩:=a1s Tryz.underlying3 enc w F n _ _ hF h0
  obtain ⟨a1,_,o1,r1,_⟩:=a1s Tryz.underlying3 enc w F n _ _ hF h1
  obtain ⟨a2,_,o2,r2,_⟩:=a1s Tryz.underlying3 enc w F n _ _ hF h2
  refine ⟨⟨a0,a1,a2⟩,rfl,?_,?_,fun hw=>trivial⟩
  ·intro v hv
   simp at hv o0 o1 o2
   rcases hv with rfl|rfl|rfl
   ·exact o0
   ·exact o1
   ·exact o2
  ·intro k c hk
   match k,hk with
   |0,hk=>exact r0 0 c (by simpa using hk)
   |1,hk=>exact r1 0 c (by simpa using hk)
   |2,hk=>exact r2 0 c (by simpa using hk)
theorem b9E:a9U a0F Tryz.prog 51 (fun l=>l.length*Tryz.prog.bytesOf 50<=reachBytes/\∀a∈l,True):=
 a3K Tryz.underlying51 b2a (by kernel_rfl) (by decide)
open Go Go.Proofs
theorem c8A:b5U OpV Tryz.prog 53 (fun o=>o.text.length<=reachBytes/\o.gone.length*24<=reachBytes):=by
 intro H enc w F fuel cs x hF h
 obtain ⟨xs,n,_,rfl,hl,hlen,hf⟩:=DataW.trod_struct Tryz.underlying53 h
 rw [show Tryz.prog.cellsOf 53=11 from by kernel_rfl] at hl
 match cs,hl,xs,hlen with
 |[c0,c1,c2,c3,c4,c5,c6,c7,c8,c9,c10],_,[x0,x1,x2,x3,x4,x5,x6,x7,x8],_=>
  have e1:Tryz.prog.cellsOf 3=1:=by kernel_rfl
  have h0:=hf 0 _ rfl
  change DataW.trod enc Tryz.prog w 0 _ true _ 3 (List.take (Tryz.prog.cellsOf 3) [c0,c1,c2,c3,c4,c5,c6,c7,c8,c9,c10])=some x0 at h0
  rw [e1] at h0
  have h1:=hf 1 _ rfl
  change DataW.trod enc Tryz.prog w 0 _ true _ 3 (List.take (Tryz.prog.cellsOf 3) [c1,c2,c3,c4,c5,c6,c7,c8,c9,c10])=some x1 at h1
  rw [e1] at h1
  have h2:=hf 2 _ rfl
  change DataW.trod enc Tryz.prog w 0 _ true _ 3 (List.take (Tryz.prog.cellsOf 3) [c2,c3,c4,c5,c6,c7,c8,c9,c10])=some x2 at h2
  rw [e1] at h2
  have h3:=hf 3 _ rfl
  change DataW.trod enc Tryz.prog w 0 _ true _ 50 (List.take (Tryz.prog.cellsOf 50) [c3,c4,c5,c6,c7,c8,c9,c10])=some x3 at h3
  rw [show Tryz.prog.cellsOf 50=3 from by kernel_rfl] at h3
  have h4:=hf 4 _ rfl
  change DataW.trod enc Tryz.prog w 0 _ true _ 9 (List.take (Tryz.prog.cellsOf 9) [c6,c7,c8,c9,c10])=some x4 at h4
  rw [show Tryz.prog.cellsOf 9=1 from by kernel_rfl] at h4
  have h5:=hf 5 _ rfl
  change DataW.trod enc Tryz.prog w 0 _ true _ 51 (List.take (Tryz.prog.cellsOf 51) [c7,c8,c9,c10])=some x5 at h5
  rw [show Tryz.prog.cellsOf 51=1 from by kernel_rfl] at h5
  have h6:=hf 6 _ rfl
  change DataW.trod enc Tryz.prog w 0 _ true _ 3 (List.take (Tryz.prog.cellsOf 3) [c8,c9,c10])=some x6 at h6
  rw [e1] at h6
  have h7:=hf 7 _ rfl
  change DataW.trod enc Tryz.prog w 0 _ true _ 3 (List.take (Tryz.prog.cellsOf 3) [c9,c10])=some x7 at h7
  rw [e1] at h7
  have h8:=hf 8 _ rfl
  change DataW.trod enc Tryz.prog w 0 _ true _ 3 (List.take (Tryz.prog.cellsOf 3) [c10])=some x8 at h8
  rw [e1] at h8
  obtain ⟨a0,_,o0,r0,_⟩:=a1s Tryz.underlying3 enc w F n _ _ hF h0
  obtain ⟨a1,_,o1,r1,_⟩:=a1s Tryz.underlying3 enc w F n _ _ hF h1
  obtain ⟨a2,_,o2,r2,_⟩:=a1s Tryz.underlying3 enc w F n _ _ hF h2
  obtain ⟨a3,_,o3,r3,_⟩:=b2a enc w F n _ _ hF h3
  obtain ⟨a4,_,o4,r4,s4⟩:=a9T Tryz.underlying9 enc w F n _ _ hF h4
  obtain ⟨a5,_,o5,r5,s5⟩:=b9E enc w F n _ _ hF h5
  obtain ⟨a6,_,o6,r6,_⟩:=a1s Tryz.underlying3 enc w F n _ _ hF h6
  obtain ⟨a7,_,o7,r7,_⟩:=a1s Tryz.underlying3 enc w F n _ _ hF h7
  obtain ⟨a8,_,o8,r8,_⟩:=a1s Tryz.underlying3 enc w F n _ _ hF h8
  refine ⟨⟨a0,a1,a2,a3,a4,a5,a6,a7,a8⟩,rfl,?_,?_,fun hw=>?_⟩
  ·intro v hv
   simp at hv o0 o1 o2 o3 o4 o5 o6 o7 o8
   rcases hv with rfl|rfl|rfl|rfl|rfl|rfl|rfl|rfl|rfl|rfl|rfl
   ·exact o0
   ·exact o1
   ·exact o2
   ·exact o3.1
   ·exact o3.2.1
   ·exact o3.2.2
   ·exact o4
   ·exact o5
   ·exact o6
   ·exact o7
   ·exact o8
  ·intro k c hk
   match k,hk with
   |0,hk=>exact r0 0 c (by simpa [a0e] using hk)
   |1,hk=>exact r1 0 c (by simpa [a0e] using hk)
   |2,hk=>exact r2 0 c (by simpa [a0e] using hk)
   |3,hk=>exact r3 0 c (by simpa [a0e] using hk)
   |4,hk=>exact r3 1 c (by simpa [a0e] using hk)
   |5,hk=>exact r3 2 c (by simpa [a0e] using hk)
   |6,hk=>exact r4 0 c (by simpa [a0e] using hk)
   |7,hk=>
    simp [a0e] at hk
    subst hk
    exact r5
   |8,hk=>exact r6 0 c (by simpa [a0e] using hk)
   |9,hk=>exact r7 0 c (by simpa [a0e] using hk)
   |10,hk=>exact r8 0 c (by simpa [a0e] using hk)
  ·simp only [DataW.weights,Tryz.underlying53,DataW.weightsEach,List.map_cons,List.map_nil,List.append_nil,List.all_append,Bool.and_eq_true] at hw
   refine ⟨s4 hw.2.2.2.2.1,?_⟩
   have:=(s5 hw.2.2.2.2.2.1).1
   rwa [show Tryz.prog.bytesOf 50=24 from by kernel_rfl] at this
theorem b6T:a9U OpV Tryz.prog 26 (fun l=>l.length*Tryz.prog.bytesOf 53<=reachBytes/\∀o∈l,o.text.length<=reachBytes/\o.gone.length*24<=reachBytes):=
 a3K Tryz.underlying26 c8A (by kernel_rfl) (by decide)
open Go Go.Proofs
instance f5P:Enc a02 where
 w:=7
 row m:=[.raw (.int .i64 m.kind),.raw (.int .i64 m.site),.raw (.int .i64 m.a0H),.raw (.int .i64 m.known),.raw (.int .i64 m.seq),.raw (.int .i64 m.err),.sl .old false (a0a m.ops)]
 dec|[.raw (.int .i64 m1),.raw (.int .i64 m2),.raw (.int .i64 m3),.raw (.int .i64 m4),.raw (.int .i64 m5),.raw (.int .i64 m6),.sl .old false l]=>(match a4A l with|some l=>some ⟨m1,m2,m3,m4,m5,m6,l⟩|_=>none)|_=>none
 a36 a:=by simp
 a3O {r a} h:=by
  split at h
  ·split at h
   ·rename_i h1
    cases h
    rw [a0O h1]
   ·cases h
  ·cases h
 len _:=rfl
 old a c hc:=by
  simp at hc
  rcases hc with rfl|rfl|rfl|rfl|rfl|rfl|rfl
  iterate 6 exact .raw _
  all_goals rw [a6i];simp
 ret a c hc:=by
  simp at hc
  rcases hc with rfl|rfl|rfl|rfl|rfl|rfl|rfl
  iterate 6 exact .raw _
  all_goals rw [a4G];simp
@[simp] theorem f3A (m:a02):Enc.row m=[AC.raw (.int .i64 m.kind),.raw (.int .i64 m.site),.raw (.int .i64 m.a0H),.raw (.int .i64 m.known),.raw (.int .i64 m.seq),.raw (.int .i64 m.err),.sl .old false (a0a m.ops)]:=rfl
@[simp] theorem g0c:Enc.w a02=7:=rfl
theorem c5R:b5U a02 Tryz.prog 38 (fun a=>a.ops.length*112<=reachBytes/\∀o∈a.ops,o.text.length<=reachBytes/\o.gone.length*24<=reachBytes):=by
 intro H enc w F fuel cs x hF h
 obtain ⟨xs,n,_,rfl,hl,hlen,hf⟩:=DataW.trod_struct Tryz.underlying38 h
 rw [show Tryz.prog.cellsOf 38=7 from by kernel_rfl] at hl
 match cs,hl,xs,hlen with
 |[c0,c1,c2,c3,c4,c5,c6],_,[x0,x1,x2,x3,x4,x5,x6],_=>
  have h0:=hf 0 _ rfl
  change DataW.trod enc Tryz.prog w 0 _ true _ 3 (List.take (Tryz.prog.cellsOf 3) [c0,c1,c2,c3,c4,c5,c6])=some x0 at h0
  rw [show Tryz.prog.cellsOf 3=1 from by kernel_rfl] at h0
  have h1:=hf 1 _ rfl
  change DataW.trod enc Tryz.prog w 0 _ true _ 3 (List.take (Tryz.prog.cellsOf 3) [c1,c2,c3,c4,c5,c6])=some x1 at h1
  rw [show Tryz.prog.cellsOf 3=1 from by kernel_rfl] at h1
  have h2:=hf 2 _ rfl
  change DataW.trod enc Tryz.prog w 0 _ true _ 3 (List.take (Tryz.prog.cellsOf 3) [c2,c3,c4,c5,c6])=some x2 at h2
  rw [show Tryz.prog.cellsOf 3=1 from by kernel_rfl] at h2
  have h3:=hf 3 _ rfl
  change DataW.trod enc Tryz.prog w 0 _ true _ 3 (List.take (Tryz.prog.cellsOf 3) [c3,c4,c5,c6])=some x3 at h3
  rw [show Tryz.prog.cellsOf 3=1 from by kernel_rfl] at h3
  have h4:=hf 4 _ rfl
  change DataW.trod enc Tryz.prog w 0 _ true _ 3 (List.take (Tryz.prog.cellsOf 3) [c4,c5,c6])=some x4 at h4
  rw [show Tryz.prog.cellsOf 3=1 from by kernel_rfl] at h4
  have h5:=hf 5 _ rfl
  change DataW.trod enc Tryz.prog w 0 _ true _ 36 (List.take (Tryz.prog.cellsOf 36) [c5,c6])=some x5 at h5
  rw [show Tryz.prog.cellsOf 36=1 from by kernel_rfl] at h5
  have h6:=hf 6 _ rfl
  change DataW.trod enc Tryz.prog w 0 _ true _ 26 (List.take (Tryz.prog.cellsOf 26) [c6])=some x6 at h6
  rw [show Tryz.prog.cellsOf 26=1 from by kernel_rfl] at h6
  obtain ⟨a0,_,o0,r0,s0⟩:=a1s Tryz.underlying3 enc w F n _ _ hF h0
  obtain ⟨a1,_,o1,r1,s1⟩:=a1s Tryz.underlying3 enc w F n _ _ hF h1
  obtain ⟨a2,_,o2,r2,s2⟩:=a1s Tryz.underlying3 enc w F n _ _ hF h2
  obtain ⟨a3,_,o3,r3,s3⟩:=a1s Tryz.underlying3 enc w F n _ _ hF h3
  obtain ⟨a4,_,o4,r4,s4⟩:=a1s Tryz.underlying3 enc w F n _ _ hF h4
  obtain ⟨a5,_,o5,r5,s5⟩:=a1s Tryz.underlying36 enc w F n _ _ hF h5
  obtain ⟨a6,_,o6,r6,s6⟩:=b6T enc w F n _ _ hF h6
  refine ⟨⟨a0,a1,a2,a3,a4,a5,a6⟩,rfl,?_,?_,fun hw=>?_⟩
  ·intro v hv
   simp at hv o0 o1 o2 o3 o4 o5 o6
   rcases hv with rfl|rfl|rfl|rfl|rfl|rfl|rfl
   ·exact o0
   ·exact o1
   ·exact o2
   ·exact o3
   ·exact o4
   ·exact o5
   ·exact o6
  ·intro k c hk
   match k,hk with
   |0,hk=>exact r0 0 c (by simpa using hk)
   |1,hk=>exact r1 0 c (by simpa using hk)
   |2,hk=>exact r2 0 c (by simpa using hk)
   |3,hk=>exact r3 0 c (by simpa using hk)
   |4,hk=>exact r4 0 c (by simpa using hk)
   |5,hk=>exact r5 0 c (by simpa using hk)
   |6,hk=>
    simp at hk
    subst hk
    exact r6
  ·simp only [DataW.weights,Tryz.underlying38,DataW.weightsEach,List.map_cons,List.map_nil,List.append_nil,List.all_append,Bool.and_eq_true] at hw
   have:=s6 hw.2.2.2.2.2.2
   rw [show Tryz.prog.bytesOf 53=112 from by kernel_rfl] at this
   exact this
theorem c2h:b5U b9j Tryz.prog 42 (fun a=>(a.m.ops.length*112<=reachBytes/\∀o∈a.m.ops,o.text.length<=reachBytes/\o.gone.length*24<=reachBytes)/\a.k.length*8<=reachBytes):=by
 intro H enc w F fuel cs x hF h
 obtain ⟨xs,n,_,rfl,hl,hlen,hf⟩:=DataW.trod_struct Tryz.underlying42 h
 rw [show Tryz.prog.cellsOf 42=9 from by kernel_rfl] at hl
 match cs,hl,xs,hlen with
 |[c0,c1,c2,c3,c4,c5,c6,c7,c8],_,[x0,x1,x2],_=>
  have h0:=hf 0 _ rfl
  change DataW.trod enc Tryz.prog w 0 _ true _ 3 (List.take (Tryz.prog.cellsOf 3) [c0,c1,c2,c3,c4,c5,c6,c7,c8])=some x0 at h0
  rw [show Tryz.prog.cellsOf 3=1 from by kernel_rfl] at h0
  have h1:=hf 1 _ rfl
  change DataW.trod enc Tryz.prog w 0 _ true _ 38 (List.take (Tryz.prog.cellsOf 38) [c1,c2,c3,c4,c5,c6,c7,c8])=some x1 at h1
  rw [show Tryz.prog.cellsOf 38=7 from by kernel_rfl] at h1
  have h2:=hf 2 _ rfl
  change DataW.trod enc Tryz.prog w 0 _ true _ 27 (List.take (Tryz.prog.cellsOf 27) [c8])=some x2 at h2
  rw [show Tryz.prog.cellsOf 27=1 from by kernel_rfl] at h2
  obtain ⟨a0,_,o0,r0,s0⟩:=a1s Tryz.underlying3 enc w F n _ _ hF h0
  obtain ⟨a1,_,o1,r1,s1⟩:=c5R enc w F n _ _ hF h1
  obtain ⟨a2,_,o2,r2,s2⟩:=b18 enc w F n _ _ hF h2
  refine ⟨⟨a0,a1,a2⟩,rfl,?_,?_,fun hw=>?_⟩
  ·intro v hv
   simp at hv o0 o1 o2
   rcases hv with rfl|rfl|rfl|rfl|rfl|rfl|rfl|rfl|rfl
   ·exact o0
   ·simp [o1]
   ·simp [o1]
   ·simp [o1]
   ·simp [o1]
   ·simp [o1]
   ·simp [o1]
   ·simp [o1]
   ·exact o2
  ·intro k c hk
   match k,hk with
   |0,hk=>exact r0 0 c (by simpa using hk)
   |1,hk=>exact r1 0 c (by simpa using hk)
   |2,hk=>exact r1 1 c (by simpa using hk)
   |3,hk=>exact r1 2 c (by simpa using hk)
   |4,hk=>exact r1 3 c (by simpa using hk)
   |5,hk=>exact r1 4 c (by simpa using hk)
   |6,hk=>exact r1 5 c (by simpa using hk)
   |7,hk=>exact r1 6 c (by simpa using hk)
   |8,hk=>
    simp at hk
    subst hk
    exact r2
  ·simp only [DataW.weights,Tryz.underlying42,DataW.weightsEach,List.map_cons,List.map_nil,List.append_nil,List.all_append,Bool.and_eq_true] at hw
   have:=(s2 hw.2.2).1
   rw [show Tryz.prog.bytesOf 3=8 from by kernel_rfl] at this
   exact ⟨s1 hw.2.1,this⟩
theorem b9F:a9U b9j Tryz.prog 30 (fun l=>l.length*Tryz.prog.bytesOf 42<=reachBytes/\∀a∈l,(a.m.ops.length*112<=reachBytes/\∀o∈a.m.ops,o.text.length<=reachBytes/\o.gone.length*24<=reachBytes)/\a.k.length*8<=reachBytes):=
 a3K Tryz.underlying30 c2h (by kernel_rfl) (by decide)
theorem a8H {H:Type} (enc:TypeId×Value->H) (w:World) (F:Tag->Nat->Prop) (fuel:Nat) (cs:List Value) (x:DataW H×List MemPlace) (hF:∀b,b<w.heap.size->F .old b) (hF2:∀b,F .old b->F .brw b)
  (h:DataW.trod enc Tryz.prog w 0 (fun _=>true) true fuel 32 cs=some x) (hw:(x.1.weights Tryz.prog 32).all (·<=reachBytes)=true) :
  ∃p:a7a,b0Z p/\a3u w F a0s a0G (.g (a1J p)) (.agg cs.toArray):=by
 obtain ⟨xs,n,_,rfl,hl,hlen,hf⟩:=DataW.trod_struct Tryz.underlying32 h
 rw [show Tryz.prog.cellsOf 32=6 from by kernel_rfl] at hl
 match cs,hl,xs,hlen with
 |[c0,c1,c2,c3,c4,c5],_,[x0,x1,x2],_=>
  have h0:=hf 0 _ rfl
  change DataW.trod enc Tryz.prog w 0 _ true _ 29 (List.take (Tryz.prog.cellsOf 29) [c0,c1,c2,c3,c4,c5])=some x0 at h0
  rw [show Tryz.prog.cellsOf 29=4 from by kernel_rfl] at h0
  have h1:=hf 1 _ rfl
  change DataW.trod enc Tryz.prog w 0 _ true _ 3 (List.take (Tryz.prog.cellsOf 3) [c4,c5])=some x1 at h1
  rw [show Tryz.prog.cellsOf 3=1 from by kernel_rfl] at h1
  have h2:=hf 2 _ rfl
  change DataW.trod enc Tryz.prog w 0 _ true _ 30 (List.take (Tryz.prog.cellsOf 30) [c5])=some x2 at h2
  rw [show Tryz.prog.cellsOf 30=1 from by kernel_rfl] at h2
  obtain ⟨ys,m,_,hx0,hl',hlen',hf'⟩:=DataW.trod_struct Tryz.underlying29 h0
  obtain ⟨a1,_,o1,r1,s1⟩:=a1s Tryz.underlying3 enc w F n _ _ hF h1
  obtain ⟨a2,_,o2,r2,s2⟩:=b9F enc w F n _ _ hF h2
  match ys,hlen' with
  |[y0,y1,y2],_=>
   have g0:=hf' 0 _ rfl
   change DataW.trod enc Tryz.prog w 0 _ true _ 25 (List.take (Tryz.prog.cellsOf 25) [c0,c1,c2,c3])=some y0 at g0
   rw [show Tryz.prog.cellsOf 25=2 from by kernel_rfl] at g0
   have g1:=hf' 1 _ rfl
   change DataW.trod enc Tryz.prog w 0 _ true _ 26 (List.take (Tryz.prog.cellsOf 26) [c2,c3])=some y1 at g1
   rw [show Tryz.prog.cellsOf 26=1 from by kernel_rfl] at g1
   have g2:=hf' 2 _ rfl
   change DataW.trod enc Tryz.prog w 0 _ true _ 27 (List.take (Tryz.prog.cellsOf 27) [c3])=some y2 at g2
   rw [show Tryz.prog.cellsOf 27=1 from by kernel_rfl] at g2
   obtain ⟨zs,m',_,hy0,hl2,hlen2,hf2⟩:=DataW.trod_struct Tryz.underlying25 g0
   obtain ⟨b2,_,p2,q2,z2⟩:=b6T enc w F m _ _ hF g1
   obtain ⟨b3,_,p3,q3,z3⟩:=b18 enc w F m _ _ hF g2
   match zs,hlen2 with
   |[u0,u1],_=>
    have k0:=hf2 0 _ rfl
    change DataW.trod enc Tryz.prog w 0 _ true _ 22 (List.take (Tryz.prog.cellsOf 22) [c0,c1])=some u0 at k0
    rw [show Tryz.prog.cellsOf 22=1 from by kernel_rfl] at k0
    have k1:=hf2 1 _ rfl
    change DataW.trod enc Tryz.prog w 0 _ true _ 23 (List.take (Tryz.prog.cellsOf 23) [c1])=some u1 at k1
    rw [show Tryz.prog.cellsOf 23=1 from by kernel_rfl] at k1
    obtain ⟨b0,_,p0,q0,z0⟩:=c2d enc w F m' _ _ hF k0
    obtain ⟨b1,_,p1,q1,z1⟩:=b9g enc w F m' _ _ hF k1
    simp only [DataW.weights,Tryz.underlying32,Tryz.underlying29,Tryz.underlying25,DataW.weightsEach,List.map_cons,List.map_nil,List.append_nil,List.all_append,Bool.and_eq_true,hx0,hy0] at hw
    obtain ⟨⟨⟨w0,w1⟩,w2,w3⟩,_,w5⟩:=hw
    obtain ⟨i0,j0⟩:=z0 w0
    obtain ⟨i1,j1⟩:=z1 w1
    obtain ⟨i2,j2⟩:=z2 w2
    obtain ⟨i3,j3⟩:=z3 w3
    obtain ⟨i5,j5⟩:=s2 w5
    rw [show Tryz.prog.bytesOf 9=16 from by kernel_rfl] at i0
    rw [show Tryz.prog.bytesOf 125=24 from by kernel_rfl] at i1
    rw [show Tryz.prog.bytesOf 53=112 from by kernel_rfl] at i2
    rw [show Tryz.prog.bytesOf 3=8 from by kernel_rfl] at i3
    rw [show Tryz.prog.bytesOf 42=104 from by kernel_rfl] at i5
    have hr:reachBytes=140737488351232:=rfl
    rw [hr] at i0 i1 i2 i3 i5 j0 j1 j2 j5
    refine ⟨⟨⟨⟨b0,b1⟩,b2,b3⟩,a1,a2⟩,⟨⟨by simp;omega,fun s hs=>by have:=j0 s hs;omega⟩,⟨by simp;omega,fun s hs=>by have:=j1 s hs;omega⟩,⟨by simp;omega,fun s hs=>by have:=j2 s hs;omega⟩,by simp;omega,by simp;omega,fun a ha=>?_⟩,?_⟩
    ·obtain ⟨⟨t1,t2⟩,t3⟩:=j5 a ha
     exact ⟨⟨by omega,fun o ho=>by have:=t2 o ho;omega⟩,by omega⟩
    ·refine .g _ _ rfl fun k c hk=>?_
     match k,hk with
     |0,hk=>simp [a1J] at hk;subst hk;exact q0.brw hF2
     |1,hk=>simp [a1J] at hk;subst hk;exact q1.brw hF2
     |2,hk=>simp [a1J] at hk;subst hk;exact q2.brw hF2
     |3,hk=>simp [a1J] at hk;subst hk;exact q3.brw hF2
     |4,hk=>exact r1 0 c (by simpa [a1J] using hk)
     |5,hk=>simp [a1J] at hk;subst hk;exact r2.brw hF2
end Go.AE
