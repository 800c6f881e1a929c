/- StoreKeeps: the walk and the reading. -/
import Derived.Test.YtnodicdkejklmaaGreatDoorKe5
import Derived.Test.YtnodicdkejklmaaGreatDoorKe6
set_option linter.unusedVariables false
set_option linter.unusedSimpArgs false
set_option maxHeartbeats 4000000
set_option maxRecDepth 100000
namespace Go.AE
open Go Go.Proofs
abbrev iv (n:Int):AV:=.c (.raw (.int .i64 n))
abbrev bv (b:Bool):AV:=.c (.raw (.bool b))
def a0u (d:a0l):List AC:=[.sl .old false (a0a d.safe),.sl .old false (a0a d.wait)]
def a4y (r:a0l×Int):AV:=.t [(true,a0u r.1),(false,[.raw (.int .i64 r.2)])]
def a9e (r:a0l×Int×Int):AV:=.t [(true,a0u r.1),(false,[.raw (.int .i64 r.2.1)]),(false,[.raw (.int .i64 r.2.2)])]
def b6P (r:List a0i×Nat×Int):AV:=.t [(false,[.sl .old false (a0a r.1)]),(false,[.raw (.int .i64 r.2.1)]),(false,[.raw (.int .i64 r.2.2)])]
def b6Q:List AV->Option (Prop×AV):=t1 b6v fun p:a5Z=>bv (a2l p)
@[simp] theorem d0F {l:List AV}:b6Q l=(t1 b6v fun p:a5Z=>bv (a2l p)) l:=(rfl)
def b6R:List AV->Option (Prop×AV):=t1 (fun _=>True) fun n:Int=>iv n
@[simp] theorem d0G {l:List AV}:b6R l=(t1 (fun _=>True) fun n:Int=>iv n) l:=(rfl)
def b6S:List AV->Option (Prop×AV):=t1 (fun p=>b6v p/\a2l p=false) fun p:a5Z=>.c (.sl .old false (a0a (a56 p)))
@[simp] theorem d0H {l:List AV}:b6S l=(t1 (fun p=>b6v p/\a2l p=false) fun p:a5Z=>.c (.sl .old false (a0a (a56 p)))) l:=(rfl)
def b6T:List AV->Option (Prop×AV):=t3 (fun (d:a0l) (n:Int) (e:a0i)=>d.safe.length<1000000/\d.wait.length<1000000/\e.op.text.length<1000000/\e.op.gone.length<1000000/\n<9223372036854775808) fun (d:a0l) (n:Int) (e:a0i)=>a9e (a0J d n e)
@[simp] theorem d0I {l:List AV}:b6T l=(t3 (fun (d:a0l) (n:Int) (e:a0i)=>d.safe.length<1000000/\d.wait.length<1000000/\e.op.text.length<1000000/\e.op.gone.length<1000000/\n<9223372036854775808) fun (d:a0l) (n:Int) (e:a0i)=>a9e (a0J d n e)) l:=(rfl)
def b2o:List AV->Option (Prop×AV):=t1 (fun d:a0l=>d.safe.length<1000000/\d.wait.length<1000000) fun d:a0l=>b6P (a4L d)
@[simp] theorem c8k {l:List AV}:b2o l=(t1 (fun d:a0l=>d.safe.length<1000000/\d.wait.length<1000000) fun d:a0l=>b6P (a4L d)) l:=(rfl)
def b2p:List AV->Option (Prop×AV):=t2 (fun (d:a0l) _=>d.safe.length<1000000/\d.wait.length<1000000) fun (d:a0l) (n:Int)=>a4y (a2Q d n)
@[simp] theorem c8l {l:List AV}:b2p l=(t2 (fun (d:a0l) _=>d.safe.length<1000000/\d.wait.length<1000000) fun (d:a0l) (n:Int)=>a4y (a2Q d n)) l:=(rfl)
def b6U:List AV->Option (Prop×AV):=t1 (fun d:a0l=>d.safe.length<1000000/\d.wait.length<1000000) fun d:a0l=>a4y (a3J d)
@[simp] theorem d0J {l:List AV}:b6U l=(t1 (fun d:a0l=>d.safe.length<1000000/\d.wait.length<1000000) fun d:a0l=>a4y (a3J d)) l:=(rfl)
def b2q:List AV->Option (Prop×AV):=t2 (fun (d:a0l) (k:List Int)=>d.safe.length<1000000/\d.wait.length<1000000/\k.length<281474976710656) fun (d:a0l) (k:List Int)=>a4y (a4w d k)
@[simp] theorem c8m {l:List AV}:b2q l=(t2 (fun (d:a0l) (k:List Int)=>d.safe.length<1000000/\d.wait.length<1000000/\k.length<281474976710656) fun (d:a0l) (k:List Int)=>a4y (a4w d k)) l:=(rfl)
def b2r:List AV->Option (Prop×AV):=t2 (fun a _=>a.length<4611686018427387904/\okL a) fun a b:List a0i=>bv (decide (a=b))
@[simp] theorem c8n {l:List AV}:b2r l=(t2 (fun a _=>a.length<4611686018427387904/\okL a) fun a b:List a0i=>bv (decide (a=b))) l:=(rfl)
def b2s:List AV->Option (Prop×AV):=t0 (bv true)
@[simp] theorem c8o {l:List AV}:b2s l=(t0 (bv true)) l:=(rfl)
def GK0:CT:=(4,.pu b6Q)::(8,.pu b6R)::(6,.pu b6S)::(7,.pu b6T)::(11,.pu b2o)::(13,.pu b2p)::(9,.pu b6U)::(10,.pu b2q)::(12,.pu b2r)::(15,.pu b2s)::[]
theorem c5e:a07 Tryz.prog GK0:=⟨a0o fun p h=>a7Z p h,
 a0o fun n _=>b24 n,
 a0o fun p h=>(b4l p h.1 h.2).frz .old (by simp),
 b2Q fun d n e h=>PEv.frz .old (by simp) (b0g d n e h.1 h.2.1 h.2.2.1 h.2.2.2.1 h.2.2.2.2),
 a0o fun d h=>PEv.frz .old (by simp) (b6f d h.1 h.2),
 a1s fun d n h=>PEv.frz .old (by simp) (b22 d n h.1 h.2),
 a0o fun d h=>PEv.frz .old (by simp) (a6V d h.1 h.2),
 a1s fun d k h=>PEv.frz .old (by simp) (a30 d k h.1 h.2.1 h.2.2),
 a1s fun a b h=>a5V a b h.1 h.2,
 b2R a7X,trivial⟩
@[simp] theorem c8p:a0c GK0 4=some (.pu b6Q):=(rfl)
@[simp] theorem c8q:a0c GK0 8=some (.pu b6R):=(rfl)
@[simp] theorem c8r:a0c GK0 6=some (.pu b6S):=(rfl)
@[simp] theorem c8s:a0c GK0 7=some (.pu b6T):=(rfl)
@[simp] theorem c5f:a0c GK0 11=some (.pu b2o):=(rfl)
@[simp] theorem c5g:a0c GK0 13=some (.pu b2p):=(rfl)
@[simp] theorem c8t:a0c GK0 9=some (.pu b6U):=(rfl)
@[simp] theorem c5h:a0c GK0 10=some (.pu b2q):=(rfl)
@[simp] theorem c5i:a0c GK0 12=some (.pu b2r):=(rfl)
@[simp] theorem c5j:a0c GK0 15=some (.pu b2s):=(rfl)
@[simp] theorem c8u {n:Nat} (h:(n==4||n==8||n==6||n==7||n==11||n==13||n==9||n==10||n==12||n==15)=false):a0c GK0 n=a0c ([]:CT) n:=by
 simp only [Bool.or_eq_false_iff,beq_eq_false_iff_ne,ne_eq] at h
 simp [GK0,a0c,h]
def x77:a0i:=⟨true,77,⟨0,0,0,⟨0,0,0⟩,[],[],0,0,0⟩⟩
def opA:OpV:=⟨1,1,1,⟨0,0,0⟩,[97],[],0,0,0⟩
theorem c1p:a0M opA=true:=by decide +kernel
theorem a9c.lens {d:a0l} {es ws:List a0i} {m:Nat} (h:a9c d es ws m):d.safe.length<=400/\d.wait.length<=400:=by
 obtain ⟨z1,z2,z3⟩:=h.sz
 rw [h.disk]
 refine ⟨by simp only [List.length_append,List.length_replicate];omega,?_⟩
 simp only [a7b];omega
theorem a9f (p:a5Z) (hp:b6v p):PEv Tryz.prog 3 [Arg.enc p] (bv true):=by
 refine b8P mixed c5e Tryz.func3 sl3 ok3 (by kernel_rfl) (by simp) (by simp [askRow]) ?_
 unfold s3
 refine v1 (mkS [(1,.c (.pt (1,1) 0 0)),(2,bv false)] [.var (1,1) 36 (askRow p)]) (fun J hJ=>?_) ?_
 ·simp [askRow]
  refine hJ _ (a0B rfl ?_)
  simp [askRow]
 refine vs (ι:=Unit) (fun _=>a2l p=false) (fun _=>mkS [(1,.c (.pt (1,1) 0 0))] [.var (1,1) 36 (askRow p)]) (fun J hJ=>?_) (fun _ hl=>?_)
 ·cases hl:a2l p
  ·simp [askRow,hp,hl]
   refine hJ () hl _ (a0B rfl ?_)
   simp [askRow]
  ·simp [askRow,hp,hl]
   refine b6O (mkS [(2,bv true)] []) (a0B rfl ?_) ?_<;>simp [askRow]
 obtain ⟨sL,sE⟩:=b2m hp hl
 refine v1 (mkS [(1,.c (.pt (1,1) 0 0)),(3,.c (.pt (1,2) 0 0))] [.var (1,1) 36 (askRow p),.var (1,2) 30 (a0u ⟨List.replicate 80 blank,[]⟩)]) (fun J hJ=>?_) ?_
 ·simp
  refine a0Q (a7T 80 (by omega)) ?_ (by simp [a0w]) (by simp [a0w]) ?_
  ·simp
  rw [show (80:Int).toNat=80 from rfl]
  generalize List.replicate 80 blank=S80 at *
  simp [a0w]
  refine hJ _ (a0B rfl ?_)
  simp [askRow,a0u]
 have h0:a9c ⟨List.replicate 80 blank,[]⟩ [] [] 80:=d0B (by omega) (by omega)
 generalize (⟨List.replicate 80 blank,[]⟩:a0l)=d0 at h0 ⊢
 refine v1 (mkS [(1,.c (.pt (1,1) 0 0)),(3,.c (.pt (1,2) 0 0)),(4,iv 0),(5,iv 0)] [.var (1,1) 36 (askRow p),.var (1,2) 30 (a0u d0)]) (fun J hJ=>?_) ?_
 ·simp
  refine hJ _ (a0B rfl ?_)
  simp [askRow,a0u]
 refine v1 (mkS [(1,.c (.pt (1,1) 0 0)),(3,.c (.pt (1,2) 0 0)),(4,iv 0),(5,iv 0),(6,.c (.raw (.slice none 0 0)))] [.var (1,1) 36 (askRow p),.var (1,2) 30 (a0u d0)]) (fun J hJ=>?_) ?_
 ·simp
  refine hJ _ (a0B rfl ?_)
  simp [askRow,a0u]
 refine v1 (mkS [(3,.c (.pt (1,2) 0 0)),(4,iv 0),(5,iv 0),(6,.c (.raw (.slice none 0 0))),(7,.c (.sl .old false (a0a (a56 p))))] [.var (1,2) 30 (a0u d0)]) (fun J hJ=>?_) ?_
 ·simp [askRow,hp,hl]
  refine hJ _ (a0B rfl ?_)
  simp [a0u]
 generalize a56 p=L at *
 refine v1C (mkS [] []) (fun J0 hJ0=>?_) ?_
 rotate_left
 ·refine a2A ?_
  simp
  refine a0Q (args':=[Arg.enc opA]) (b0i opA (by simp [opA]) (by simp [opA])) ?_ (by simp) (by simp) ?_
  ·simp [opA,a0d]
  simp [c1p]
  refine b6O (mkS [(2,bv true)] []) (a0B rfl ?_) ?_<;>simp [askRow]
 refine v1 (mkS [(3,.c (.pt (1,2) 0 0)),(4,iv 0),(5,iv 0),(6,.c (.raw (.slice none 0 0))),(7,.c (.sl .old false (a0a L))),(8,iv 0)] [.var (1,2) 30 (a0u d0)]) (fun J hJ=>?_) ?_
 ·simp
  refine hJ _ (a0B rfl ?_)
  simp [a0u]
 refine a9d ?_
 refine a2A ?_
 refine vlc (fun q:Nat×a0l×List a0i×List a0i=>q.1<=L.length/\(∃m,a9c q.2.1 q.2.2.1 q.2.2.2 m)/\(q.2.2.1++q.2.2.2).length<=q.1/\∀e∈q.2.2.1++q.2.2.2,e∈L) (fun q=>(mkS [(3,.c (.pt (1,2) 0 0)),(4,iv ((a0V q.2.2.1).length+(a0V q.2.2.2).length:Nat)),(5,iv q.2.2.1.length),(6,.c (.so (1,1) 0 (q.2.2.1++q.2.2.2).length)),(7,.c (.sl .old false (a0a L))),(8,iv q.1)] [.var (1,2) 30 (a0u q.2.1),.rows (1,1) 48 13 (a0a (q.2.2.1++q.2.2.2))])) (fun q=>L.length-q.1) (0,d0,[],[]) ⟨by simp,⟨_,h0⟩,by simp,by simp⟩ (a0B rfl ?_) ?_
 ·simp [a0u,a0V]
 rintro ⟨i,d,es,ws⟩ ⟨hi,⟨m,hW⟩,hA,hM⟩ J3 hJ3
 simp only at hi hW hA hM hJ3
 unfold d1M
 obtain ⟨at_,hat⟩:∃n:Nat,n=(a0V es).length+(a0V ws).length:=⟨_,rfl⟩
 rw [<-hat]
 refine vs (ι:=Unit) (fun _=>i<L.length) (fun _=>(mkS [(3,.c (.pt (1,2) 0 0)),(4,iv at_),(5,iv es.length),(6,.c (.so (1,1) 0 (es++ws).length)),(7,.c (.sl .old false (a0a L))),(8,iv i)] [.var (1,2) 30 (a0u d),.rows (1,1) 48 13 (a0a (es++ws))])) (fun J hJ=>?_) (fun _ hlt=>?_)
 ·by_cases hlt:i<L.length
  ·simp [hlt]
   refine hJ () hlt _ (a0B rfl ?_)
   simp [a0u]
  ·simp [hlt]
   exact hJ0 _ (a0B rfl (by simp))
 have hw:IntKind.wrap .i64 ((i:Int)+1)=((i+1:Nat):Int):=by rw [a0f]<;>omega
 refine vsC (ι:=a0l×List a0i×List a0i) (fun q=>(∃m,a9c q.1 q.2.1 q.2.2 m)/\(q.2.1++q.2.2).length<=i+1/\∀e∈q.2.1++q.2.2,e∈L) (fun q=>(mkS [(3,.c (.pt (1,2) 0 0)),(4,iv ((a0V q.2.1).length+(a0V q.2.2).length:Nat)),(5,iv q.2.1.length),(6,.c (.so (1,1) 0 (q.2.1++q.2.2).length)),(7,.c (.sl .old false (a0a L))),(8,iv i)] [.var (1,2) 30 (a0u q.1),.rows (1,1) 48 13 (a0a (q.2.1++q.2.2))])) (fun J5 hJ5=>?_) (fun q hq=>?_)
 rotate_left
 ·obtain ⟨q1,q2,q3⟩:=q
  refine a2A ?_
  simp [hw]
  refine hJ3 (i+1,q1,q2,q3) ⟨by simp;omega,hq.1,hq.2.1,hq.2.2⟩ (by simp;omega) _ (a0B rfl ?_)
  simp [a0u,hw]
 refine a9d ?_
 obtain ⟨b1,b2⟩:=hW.lens
 obtain ⟨t1,t2⟩:=sE _ (List.getElem_mem hlt)
 have hxL:L[i]∈L:=List.getElem_mem hlt
 have hb1:d.safe.length<1000000/\d.wait.length<1000000:=⟨by omega,by omega⟩
 have hb2:L[i].op.text.length<1000000/\L[i].op.gone.length<1000000:=⟨by omega,by omega⟩
 obtain ⟨z1,z2,z3⟩:=hW.sz
 have hb3:(at_:Int)<9223372036854775808:=by omega
 have happ:=@a9c.append d es ws m hW L[i]
 rw [<-hat] at happ
 have hsame:=hJ5 (d,es,ws) ⟨⟨m,hW⟩,by simp only;omega,hM⟩
 simp only at hsame
 rw [<-hat] at hsame
 generalize hx:L[i]=x at *
 generalize hAp:a0J d (at_:Int) x=Ap at *
 obtain ⟨d1,n1,e1⟩:=Ap
 simp only at happ
 refine v1 (mkS [(3,.c (.pt (1,2) 0 0)),(4,iv at_),(5,iv es.length),(6,.c (.so (1,1) 0 (es++ws).length)),(7,.c (.sl .old false (a0a L))),(8,iv i),(9,.c (.pt (1,3) 0 0)),(10,iv n1),(11,iv e1)] [.var (1,2) 30 (a0u d),.rows (1,1) 48 13 (a0a (es++ws)),.var (1,3) 30 (a0u d1)]) (fun J hJ=>?_) ?_
 ·simp only [a0u]
  obtain ⟨xj,xn,⟨o1,o2,o3,⟨o4,o5,o6⟩,o7,o8,o9,o10,o11⟩⟩:=x
  simp only at hb2
  simp [hlt,hx,a0n,a0d,hb1,hb2,hb3,hAp,a9e,a0u]
  refine hJ _ (a0B rfl ?_)
  simp [a0u]
 refine vs (ι:=Unit) (fun _=>e1=0) (fun _=>(mkS [(3,.c (.pt (1,2) 0 0)),(4,iv at_),(5,iv es.length),(6,.c (.so (1,1) 0 (es++ws).length)),(7,.c (.sl .old false (a0a L))),(8,iv i),(9,.c (.pt (1,3) 0 0)),(10,iv n1)] [.var (1,2) 30 (a0u d),.rows (1,1) 48 13 (a0a (es++ws)),.var (1,3) 30 (a0u d1)])) (fun J hJ=>?_) (fun _ h0=>?_)
 ·by_cases h0:e1=0
  ·subst h0
   simp
   refine hJ () rfl _ (a0B rfl ?_)
   simp [a0u]
  ·simp [h0]
   refine hsame _ (a0B rfl ?_)
   simp [a0u]
 obtain ⟨hW1,hn1⟩:=happ h0
 subst h0
 clear hsame
 obtain ⟨c1,c2⟩:=hW1.lens
 refine v1 (mkS [(3,.c (.pt (1,2) 0 0)),(4,iv n1),(5,iv es.length),(6,.c (.so (1,1) 0 (es++ws).length)),(7,.c (.sl .old false (a0a L))),(8,iv i)] [.var (1,2) 30 (a0u d1),.rows (1,1) 48 13 (a0a (es++ws))]) (fun J hJ=>?_) ?_
 ·simp [a0u]
  refine hJ _ (a0B rfl ?_)
  simp [a0u]
 have hcc:a1u (es++ws).length (a0a (es++ws))=a0a (es++ws):=a5k (by simp)
 have hb4:(es++ws).length<=9223372036854775806/\((es++ws).length+1)*136<=140737488355328:=⟨by omega,by omega⟩
 have hMx:∀e∈es++(ws++[x]),e∈L:=fun e he=>by
  rw [<-List.append_assoc] at he
  rcases List.mem_append.1 he with he|he
  ·exact hM e he
  ·rw [List.mem_singleton.1 he];exact hxL
 have hA1:(es++(ws++[x])).length<=i+1:=by rw [<-List.append_assoc,List.length_append];simp only [List.length_singleton];omega
 have eA:es++(ws++[x])=(es++ws)++[x]:=by rw [List.append_assoc]
 generalize hAA:es++ws=A at *
 refine v1 (mkS [(3,.c (.pt (1,2) 0 0)),(4,iv n1),(5,iv es.length),(6,.c (.so (1,1) 0 (A++[x]).length)),(7,.c (.sl .old false (a0a L))),(8,iv i)] [.var (1,2) 30 (a0u d1),.rows (1,1) 48 13 (a0a (A++[x]))]) (fun J hJ=>?_) ?_
 ·obtain ⟨xj,xn,⟨o1,o2,o3,⟨o4,o5,o6⟩,o7,o8,o9,o10,o11⟩⟩:=x
  simp [hlt,hx,a0n,a0d,hcc]
  refine ⟨⟨by omega,by omega⟩,hJ _ (a0B rfl ?_)⟩
  simp [a0u,a27,b6N,a0n,a0d]
 have d2t:(i:Int).tmod 2=(i:Int)%2:=Int.tmod_eq_emod_of_nonneg (by omega)
 refine vs (ι:=a0l×List a0i×List a0i) (fun q=>(∃m,a9c q.1 q.2.1 q.2.2 m)/\q.2.1++q.2.2=A++[x]/\n1=(((a0V q.2.1).length+(a0V q.2.2).length:Nat):Int)) (fun q=>(mkS [(3,.c (.pt (1,2) 0 0)),(4,iv n1),(5,iv q.2.1.length),(6,.c (.so (1,1) 0 (A++[x]).length)),(7,.c (.sl .old false (a0a L))),(8,iv i)] [.var (1,2) 30 (a0u q.1),.rows (1,1) 48 13 (a0a (A++[x]))])) (fun J hJ=>?_) ?_
 ·by_cases hev:(i:Int)%2=0
  ·obtain ⟨y1,y2⟩:=hW1.sync
   generalize hSy:a3J d1=SS at *
   obtain ⟨s,e⟩:=SS
   simp only at y1 y2
   subst y1
   have hc1:d1.safe.length<1000000/\d1.wait.length<1000000:=⟨by omega,by omega⟩
   obtain ⟨d1s,d1w⟩:=d1
   simp [a0u,d2t,hev,hc1,hSy,a4y]
   refine hJ (s,es++(ws++[x]),[]) ⟨⟨_,y2⟩,by simp [eA],by rw [hn1,a2n,List.length_append];simp [a0V]⟩ _ (a0B rfl ?_)
   simp [a0u,eA]
  ·simp [d2t,hev]
   refine hJ (d1,es,ws++[x]) ⟨⟨_,hW1⟩,eA,hn1⟩ _ (a0B rfl ?_)
   simp [a0u]
 rintro ⟨d2,es2,ws2⟩ ⟨⟨m2,hW2⟩,hA2,hN2⟩
 simp only at hW2 hA2 hN2 ⊢
 have hend:=hJ5 (d2,es2,ws2) ⟨⟨m2,hW2⟩,by simp only;rw [hA2,<-eA];exact hA1,by simp only;rw [hA2,<-eA];exact hMx⟩
 simp only at hend
 rw [hA2,<-hN2] at hend
 rw [eA] at hMx
 obtain ⟨c3,c4⟩:=hW2.lens
 have hc2:d2.safe.length<1000000/\d2.wait.length<1000000:=⟨by omega,by omega⟩
 have d6s:es2.length<=(A++[x]).length:=by rw [<-hA2,List.length_append];omega
 rw [eA] at hA1
 generalize A++[x]=A2 at *
 refine v1 (mkS [(3,.c (.pt (1,2) 0 0)),(4,iv n1),(5,iv es2.length),(6,.c (.so (1,1) 0 (A2).length)),(7,.c (.sl .old false (a0a L))),(8,iv i),(14,iv 0)] [.var (1,2) 30 (a0u d2),.rows (1,1) 48 13 (a0a A2)]) (fun J hJ=>?_) ?_
 ·simp
  refine hJ _ (a0B rfl ?_)
  simp [a0u]
 refine a9d ?_
 refine a2A ?_
 refine vlc (fun k:Nat=>k<=6) (fun k=>(mkS [(3,.c (.pt (1,2) 0 0)),(4,iv n1),(5,iv es2.length),(6,.c (.so (1,1) 0 (A2).length)),(7,.c (.sl .old false (a0a L))),(8,iv i),(14,iv k)] [.var (1,2) 30 (a0u d2),.rows (1,1) 48 13 (a0a A2)])) (fun k=>6-k) 0 (by omega) (a0B rfl ?_) ?_
 ·simp [a0u]
 intro k hk6 J7 hJ7
 unfold c9J
 refine vs (ι:=Unit) (fun _=>k<6) (fun _=>(mkS [(3,.c (.pt (1,2) 0 0)),(4,iv n1),(5,iv es2.length),(6,.c (.so (1,1) 0 (A2).length)),(7,.c (.sl .old false (a0a L))),(8,iv i),(14,iv k)] [.var (1,2) 30 (a0u d2),.rows (1,1) 48 13 (a0a A2)])) (fun J hJ=>?_) (fun _ h6=>?_)
 ·by_cases h6:(k:Int)<6
  ·simp [h6]
   refine hJ () (by omega) _ (a0B rfl ?_)
   simp [a0u]
  ·simp [h6]
   refine hend _ (a0B rfl ?_)
   simp [a0u]
 have hwk:IntKind.wrap .i64 ((k:Int)+1)=((k+1:Nat):Int):=by rw [a0f]<;>omega
 refine v1C (mkS [(3,.c (.pt (1,2) 0 0)),(4,iv n1),(5,iv es2.length),(6,.c (.so (1,1) 0 (A2).length)),(7,.c (.sl .old false (a0a L))),(8,iv i),(14,iv k)] [.var (1,2) 30 (a0u d2),.rows (1,1) 48 13 (a0a A2)]) (fun J9 hJ9=>?_) ?_
 rotate_left
 ·refine a2A ?_
  simp [hwk]
  refine hJ7 (k+1) (by omega) (by omega) _ (a0B rfl ?_)
  simp [a0u,hwk]
 refine a9d ?_
 have d6t:IntKind.wrap .i64 ((k:Int)+1)=(k:Int)+1:=by rw [a0f]<;>omega
 obtain ⟨w1,hw1⟩:∃w,IntKind.wrap .i64 ((k:Int)/2)=w:=⟨_,rfl⟩
 obtain ⟨w2,hw2⟩:∃w,((k:Int)+1).tmod 3=w:=⟨_,rfl⟩
 obtain ⟨w3,hw3⟩:∃w,(k:Int).tmod 2=w:=⟨_,rfl⟩
 refine v1 (mkS [(3,.c (.pt (1,2) 0 0)),(4,iv n1),(5,iv es2.length),(6,.c (.so (1,1) 0 (A2).length)),(7,.c (.sl .old false (a0a L))),(8,iv i),(14,iv k),(15,.c (.so (1,3) 0 7))] [.var (1,2) 30 (a0u d2),.rows (1,1) 48 13 (a0a A2),.rows (1,3) 3 1 (a0a [(k:Int),w1,w2,w3,2,1,(k:Int)])]) (fun J hJ=>?_) ?_
 ·simp [d6t,hw1,hw2,hw3]
  refine hJ _ (a0B rfl ?_)
  simp [a0u,b6N]
 have hKl:([(k:Int),w1,w2,w3,2,1,(k:Int)]:List Int).length=7:=rfl
 generalize ([(k:Int),w1,w2,w3,2,1,(k:Int)]:List Int)=K at *
 obtain ⟨y,n,en,c,f1,f2,f3,f4,f5,⟨f6,f7⟩,⟨f8,f9⟩,f10,f11⟩:=hW2.keeps K
 have hg1:es2.length<=(es2++ws2.take n).length:=by rw [List.length_append];omega
 have hg2:(es2++ws2.take n).length<=A2.length:=by rw [<-hA2,List.length_append,List.length_append,List.length_take];omega
 have hg3:A2.take (es2++ws2.take n).length=es2++ws2.take n:=by
  rw [<-hA2,List.length_append,List.length_take,List.take_append,List.take_of_length_le (by omega)]
  congr 1
  rw [show es2.length+min n ws2.length-es2.length=min n ws2.length by omega,Nat.min_eq_left f2]
 generalize es2++ws2.take n=G at *
 have hGL:∀e∈G,e∈L:=fun e he=>hMx e (by rw [<-hg3] at he;exact List.mem_of_mem_take he)
 have d06:okL G:=fun e he=>by have:=sE e (hGL e he);omega
 have hGl:G.length<4611686018427387904:=by omega
 have hf1:y.safe.length<1000000/\y.wait.length<1000000:=⟨by omega,by omega⟩
 have hf2:c.safe.length<1000000/\c.wait.length<1000000:=⟨by omega,by omega⟩
 have hK:K.length<281474976710656:=by omega
 have hen:(en:Int)<9223372036854775808:=by omega
 have hn1:¬G.length<es2.length:=by omega
 have hn2:¬A2.length<G.length:=by omega
 have hT:List.take G.length (a0a A2)=a0a G:=by rw [a4g,hg3]
 obtain ⟨ys,yw⟩:=y
 obtain ⟨cs,cw⟩:=c
 simp only at hf1 hf2
 refine v1 (mkS [(3,.c (.pt (1,2) 0 0)),(4,iv n1),(5,iv es2.length),(6,.c (.so (1,1) 0 (A2).length)),(7,.c (.sl .old false (a0a L))),(8,iv i),(14,iv k),(16,.c (.pt (1,4) 0 0)),(17,iv 0)] [.var (1,2) 30 (a0u d2),.rows (1,1) 48 13 (a0a A2),.var (1,4) 30 (a0u ⟨ys,yw⟩)]) (fun J hJ=>?_) ?_
 ·obtain ⟨d2s,d2w⟩:=d2
  simp only at hc2
  simp [a0u,hc2,hK,hKl,f1,a4y]
  refine hJ _ (a0B rfl ?_)
  simp [a0u]
 refine v1 (mkS [(3,.c (.pt (1,2) 0 0)),(4,iv n1),(5,iv es2.length),(6,.c (.so (1,1) 0 (A2).length)),(7,.c (.sl .old false (a0a L))),(8,iv i),(14,iv k),(16,.c (.pt (1,4) 0 0)),(17,iv 0),(18,.c (.sl .old false (a0a G))),(19,iv en),(20,iv 0)] [.var (1,2) 30 (a0u d2),.rows (1,1) 48 13 (a0a A2),.var (1,4) 30 (a0u ⟨ys,yw⟩)]) (fun J hJ=>?_) ?_
 ·simp [a0u,hf1,f3,b6P]
  refine hJ _ (a0B rfl ?_)
  simp [a0u]
 refine v1 (mkS [(3,.c (.pt (1,2) 0 0)),(4,iv n1),(5,iv es2.length),(6,.c (.so (1,1) 0 (A2).length)),(7,.c (.sl .old false (a0a L))),(8,iv i),(14,iv k),(16,.c (.pt (1,4) 0 0)),(18,.c (.sl .old false (a0a G))),(19,iv en)] [.var (1,2) 30 (a0u d2),.rows (1,1) 48 13 (a0a A2),.var (1,4) 30 (a0u ⟨ys,yw⟩)]) (fun J hJ=>?_) ?_
 ·simp [hn1,hn2,hg2,hT,hGl,d06]
  refine hJ _ (a0B rfl ?_)
  simp [a0u]
 refine v1 (mkS [(3,.c (.pt (1,2) 0 0)),(4,iv n1),(5,iv es2.length),(6,.c (.so (1,1) 0 (A2).length)),(7,.c (.sl .old false (a0a L))),(8,iv i),(14,iv k),(21,.c (.pt (1,5) 0 0)),(22,iv 0),(18,.c (.sl .old false (a0a G))),(19,iv en)] [.var (1,2) 30 (a0u d2),.rows (1,1) 48 13 (a0a A2),.var (1,5) 30 (a0u ⟨cs,cw⟩)]) (fun J hJ=>?_) ?_
 ·simp [a0u,hf1,f4,a4y]
  refine hJ _ (a0B rfl ?_)
  simp [a0u]
 refine v1 (mkS [(3,.c (.pt (1,2) 0 0)),(4,iv n1),(5,iv es2.length),(6,.c (.so (1,1) 0 (A2).length)),(7,.c (.sl .old false (a0a L))),(8,iv i),(14,iv k),(21,.c (.pt (1,5) 0 0)),(22,iv 0),(18,.c (.sl .old false (a0a G))),(19,iv en),(23,.c (.sl .old false (a0a G))),(24,iv en),(25,iv 0)] [.var (1,2) 30 (a0u d2),.rows (1,1) 48 13 (a0a A2),.var (1,5) 30 (a0u ⟨cs,cw⟩)]) (fun J hJ=>?_) ?_
 ·simp [a0u,hf2,f5,b6P]
  refine hJ _ (a0B rfl ?_)
  simp [a0u]
 refine v1 (mkS [(3,.c (.pt (1,2) 0 0)),(4,iv n1),(5,iv es2.length),(6,.c (.so (1,1) 0 (A2).length)),(7,.c (.sl .old false (a0a L))),(8,iv i),(14,iv k),(21,.c (.pt (1,5) 0 0)),(18,.c (.sl .old false (a0a G))),(19,iv en)] [.var (1,2) 30 (a0u d2),.rows (1,1) 48 13 (a0a A2),.var (1,5) 30 (a0u ⟨cs,cw⟩)]) (fun J hJ=>?_) ?_
 ·simp [hGl,d06]
  refine hJ _ (a0B rfl ?_)
  simp [a0u]
 have f12:=f11 x77
 clear f11
 generalize hX:a0J ⟨cs,cw⟩ (en:Int) x77=X at *
 obtain ⟨b,a,e2⟩:=X
 simp only at f12
 unfold x77 at hX
 refine v1 (mkS [(3,.c (.pt (1,2) 0 0)),(4,iv n1),(5,iv es2.length),(6,.c (.so (1,1) 0 (A2).length)),(7,.c (.sl .old false (a0a L))),(8,iv i),(14,iv k),(26,.c (.pt (1,6) 0 0)),(28,iv e2),(18,.c (.sl .old false (a0a G)))] [.var (1,2) 30 (a0u d2),.rows (1,1) 48 13 (a0a A2),.var (1,6) 30 (a0u b)]) (fun J hJ=>?_) ?_
 ·simp [a0u,hf2,hen,hX,a9e]
  refine hJ _ (a0B rfl ?_)
  simp [a0u]
 refine vs (ι:=Unit) (fun _=>e2=0) (fun _=>(mkS [(3,.c (.pt (1,2) 0 0)),(4,iv n1),(5,iv es2.length),(6,.c (.so (1,1) 0 (A2).length)),(7,.c (.sl .old false (a0a L))),(8,iv i),(14,iv k),(26,.c (.pt (1,6) 0 0)),(18,.c (.sl .old false (a0a G)))] [.var (1,2) 30 (a0u d2),.rows (1,1) 48 13 (a0a A2),.var (1,6) 30 (a0u b)])) (fun J hJ=>?_) (fun _ h0=>?_)
 ·by_cases h0:e2=0
  ·subst h0
   simp
   refine hJ () rfl _ (a0B rfl ?_)
   simp [a0u]
  ·simp [h0]
   refine hJ9 _ (a0B rfl ?_)
   simp [a0u]
 obtain ⟨b',s,a',en2,r1,r2,r3,⟨r4,r5⟩,r6,r7⟩:=f12 h0
 simp only [Prod.mk.injEq] at r1
 obtain ⟨rfl,_,_⟩:=r1
 have hs1:b.safe.length<1000000/\b.wait.length<1000000:=⟨by omega,by omega⟩
 have hs2:s.safe.length<1000000/\s.wait.length<1000000:=⟨by omega,by omega⟩
 obtain ⟨bs,bw⟩:=b
 obtain ⟨ss,sw⟩:=s
 simp only at hs1 hs2
 refine v1 (mkS [(3,.c (.pt (1,2) 0 0)),(4,iv n1),(5,iv es2.length),(6,.c (.so (1,1) 0 (A2).length)),(7,.c (.sl .old false (a0a L))),(8,iv i),(14,iv k),(26,.c (.pt (1,6) 0 0)),(29,iv 0),(18,.c (.sl .old false (a0a G)))] [.var (1,2) 30 (a0u d2),.rows (1,1) 48 13 (a0a A2),.var (1,6) 30 (a0u ⟨ss,sw⟩)]) (fun J hJ=>?_) ?_
 ·simp [a0u,hs1,r2,a4y]
  refine hJ _ (a0B rfl ?_)
  simp [a0u]
 have q1:(G++[x77]).length=G.length+1:=by simp
 have q2:(G++[x77]).take G.length=G:=by simp
 have q3:∀h:G.length<(G++[x77]).length,((G++[x77])[G.length]'h).a13=77:=fun h=>by simp [x77]
 generalize G++[x77]=LL at *
 refine v1 (mkS [(3,.c (.pt (1,2) 0 0)),(4,iv n1),(5,iv es2.length),(6,.c (.so (1,1) 0 (A2).length)),(7,.c (.sl .old false (a0a L))),(8,iv i),(14,iv k),(30,.c (.sl .old false (a0a LL))),(32,iv 0),(29,iv 0),(18,.c (.sl .old false (a0a G)))] [.var (1,2) 30 (a0u d2),.rows (1,1) 48 13 (a0a A2)]) (fun J hJ=>?_) ?_
 ·simp [a0u,hs2,r3,b6P]
  refine hJ _ (a0B rfl ?_)
  simp [a0u]
 have q4:IntKind.wrap .i64 ((G.length:Int)+1)=(G.length:Int)+1:=by rw [a0f]<;>omega
 have q5:List.take G.length (a0a LL)=a0a G:=by rw [a4g,q2]
 have q6:G.length<LL.length:=by omega
 have q7:=q3 q6
 have q8:(LL.length:Int)=(G.length:Int)+1:=by omega
 have q9:G.length<=LL.length:=by omega
 refine a2A ?_
 simp [q4,q5,q6,q7,q8,q9,hGl,d06,a0n]
 refine ⟨by omega,⟨rfl,by omega⟩,hJ9 _ (a0B rfl ?_)⟩
 simp [a0u]
open Go Go.Proofs
theorem a8g:a9X a0s Tryz.prog 44 (fun _=>True):=by
 intro H enc w F fuel cs x hF h
 obtain ⟨xs,n,_,rfl,hl,hlen,hf⟩:=DataW.trod_struct Tryz.underlying44 h
 rw [show Tryz.prog.cellsOf 44=3 from by kernel_rfl] at hl
 match cs,hl,xs,hlen with
 |[c0,c1,c2],_,[x0,x1,x2],_=>
  have h0:=hf 0 _ rfl
  change DataW.trod enc Tryz.prog w 0 _ true _ 3 (List.take (Tryz.prog.cellsOf 3) [c0,c1,c2])=some x0 at h0
  rw [show Tryz.prog.cellsOf 3=1 from by kernel_rfl] at h0
  have h1:=hf 1 _ rfl
  change DataW.trod enc Tryz.prog w 0 _ true _ 3 (List.take (Tryz.prog.cellsOf 3) [c1,c2])=some x1 at h1
  rw [show Tryz.prog.cellsOf 3=1 from by kernel_rfl] at h1
  have h2:=hf 2 _ rfl
  change DataW.trod enc Tryz.prog w 0 _ true _ 3 (List.take (Tryz.prog.cellsOf 3) [c2])=some x2 at h2
  rw [show Tryz.prog.cellsOf 3=1 from by kernel_rfl] at h2
  obtain ⟨a0,_,o0,r0,_⟩:=a00 Tryz.underlying3 enc w F n _ _ hF h0
  obtain ⟨a1,_,o1,r1,_⟩:=a00 Tryz.underlying3 enc w F n _ _ hF h1
  obtain ⟨a2,_,o2,r2,_⟩:=a00 Tryz.underlying3 enc w F n _ _ hF h2
  refine ⟨⟨a0,a1,a2⟩,rfl,?_,?_,fun hw=>trivial⟩
  ·intro v hv
   simp at hv o0 o1 o2
   rcases hv with rfl|rfl|rfl
   ·exact o0
   ·exact o1
   ·exact o2
  ·intro k c hk
   match k,hk with
   |0,hk=>exact r0 0 c (by simpa using hk)
   |1,hk=>exact r1 0 c (by simpa using hk)
   |2,hk=>exact r2 0 c (by simpa using hk)
theorem a7f:a5S a0s Tryz.prog 23 (fun l=>l.length*Tryz.prog.bytesOf 44<=reachBytes/\∀a∈l,True):=
 a1R Tryz.underlying23 a8g (by kernel_rfl) (by decide)
theorem b4r {P:Program} {t:TypeId} (ht:P.underlying t=some .bool) {H:Type} (enc:TypeId×Value->H) (w:World) (F:Tag->Nat->Prop) (fuel:Nat) (cs:List Value) (x:DataW H×List MemPlace)
  (h:DataW.trod enc P w 0 (fun _=>true) true fuel t cs=some x):∃b:Bool,cs=[.bool b]:=by
 obtain ⟨b,rfl,_⟩:=DataW.trod_bool ht h
 exact ⟨b,rfl⟩
open Go Go.Proofs
theorem b3l:a9X OpV Tryz.prog 46 (fun o=>o.text.length<=reachBytes/\o.gone.length*24<=reachBytes):=by
 intro H enc w F fuel cs x hF h
 obtain ⟨xs,n,_,rfl,hl,hlen,hf⟩:=DataW.trod_struct Tryz.underlying46 h
 rw [show Tryz.prog.cellsOf 46=11 from by kernel_rfl] at hl
 match cs,hl,xs,hlen with
 |[c0,c1,c2,c3,c4,c5,c6,c7,c8,c9,c10],_,[x0,x1,x2,x3,x4,x5,x6,x7,x8],_=>
  have e1:Tryz.prog.cellsOf 3=1:=by kernel_rfl
  have h0:=hf 0 _ rfl
  change DataW.trod enc Tryz.prog w 0 _ true _ 3 (List.take (Tryz.prog.cellsOf 3) [c0,c1,c2,c3,c4,c5,c6,c7,c8,c9,c10])=some x0 at h0
  rw [e1] at h0
  have h1:=hf 1 _ rfl
  change DataW.trod enc Tryz.prog w 0 _ true _ 3 (List.take (Tryz.prog.cellsOf 3) [c1,c2,c3,c4,c5,c6,c7,c8,c9,c10])=some x1 at h1
  rw [e1] at h1
  have h2:=hf 2 _ rfl
  change DataW.trod enc Tryz.prog w 0 _ true _ 3 (List.take (Tryz.prog.cellsOf 3) [c2,c3,c4,c5,c6,c7,c8,c9,c10])=some x2 at h2
  rw [e1] at h2
  have h3:=hf 3 _ rfl
  change DataW.trod enc Tryz.prog w 0 _ true _ 44 (List.take (Tryz.prog.cellsOf 44) [c3,c4,c5,c6,c7,c8,c9,c10])=some x3 at h3
  rw [show Tryz.prog.cellsOf 44=3 from by kernel_rfl] at h3
  have h4:=hf 4 _ rfl
  change DataW.trod enc Tryz.prog w 0 _ true _ 9 (List.take (Tryz.prog.cellsOf 9) [c6,c7,c8,c9,c10])=some x4 at h4
  rw [show Tryz.prog.cellsOf 9=1 from by kernel_rfl] at h4
  have h5:=hf 5 _ rfl
  change DataW.trod enc Tryz.prog w 0 _ true _ 23 (List.take (Tryz.prog.cellsOf 23) [c7,c8,c9,c10])=some x5 at h5
  rw [show Tryz.prog.cellsOf 23=1 from by kernel_rfl] at h5
  have h6:=hf 6 _ rfl
  change DataW.trod enc Tryz.prog w 0 _ true _ 3 (List.take (Tryz.prog.cellsOf 3) [c8,c9,c10])=some x6 at h6
  rw [e1] at h6
  have h7:=hf 7 _ rfl
  change DataW.trod enc Tryz.prog w 0 _ true _ 3 (List.take (Tryz.prog.cellsOf 3) [c9,c10])=some x7 at h7
  rw [e1] at h7
  have h8:=hf 8 _ rfl
  change DataW.trod enc Tryz.prog w 0 _ true _ 3 (List.take (Tryz.prog.cellsOf 3) [c10])=some x8 at h8
  rw [e1] at h8
  obtain ⟨a0,_,o0,r0,_⟩:=a00 Tryz.underlying3 enc w F n _ _ hF h0
  obtain ⟨a1,_,o1,r1,_⟩:=a00 Tryz.underlying3 enc w F n _ _ hF h1
  obtain ⟨a2,_,o2,r2,_⟩:=a00 Tryz.underlying3 enc w F n _ _ hF h2
  obtain ⟨a3,_,o3,r3,_⟩:=a8g enc w F n _ _ hF h3
  obtain ⟨a4,_,o4,r4,s4⟩:=a5a Tryz.underlying9 enc w F n _ _ hF h4
  obtain ⟨a5,_,o5,r5,s5⟩:=a7f enc w F n _ _ hF h5
  obtain ⟨a6,_,o6,r6,_⟩:=a00 Tryz.underlying3 enc w F n _ _ hF h6
  obtain ⟨a7,_,o7,r7,_⟩:=a00 Tryz.underlying3 enc w F n _ _ hF h7
  obtain ⟨a8,_,o8,r8,_⟩:=a00 Tryz.underlying3 enc w F n _ _ hF h8
  refine ⟨⟨a0,a1,a2,a3,a4,a5,a6,a7,a8⟩,rfl,?_,?_,fun hw=>?_⟩
  ·intro v hv
   simp at hv o0 o1 o2 o3 o4 o5 o6 o7 o8
   rcases hv with rfl|rfl|rfl|rfl|rfl|rfl|rfl|rfl|rfl|rfl|rfl
   ·exact o0
   ·exact o1
   ·exact o2
   ·exact o3.1
   ·exact o3.2.1
   ·exact o3.2.2
   ·exact o4
   ·exact o5
   ·exact o6
   ·exact o7
   ·exact o8
  ·intro k c hk
   match k,hk with
   |0,hk=>exact r0 0 c (by simpa [a0d] using hk)
   |1,hk=>exact r1 0 c (by simpa [a0d] using hk)
   |2,hk=>exact r2 0 c (by simpa [a0d] using hk)
   |3,hk=>exact r3 0 c (by simpa [a0d] using hk)
   |4,hk=>exact r3 1 c (by simpa [a0d] using hk)
   |5,hk=>exact r3 2 c (by simpa [a0d] using hk)
   |6,hk=>exact r4 0 c (by simpa [a0d] using hk)
   |7,hk=>
    simp [a0d] at hk
    subst hk
    exact r5
   |8,hk=>exact r6 0 c (by simpa [a0d] using hk)
   |9,hk=>exact r7 0 c (by simpa [a0d] using hk)
   |10,hk=>exact r8 0 c (by simpa [a0d] using hk)
  ·simp only [DataW.weights,Tryz.underlying46,DataW.weightsEach,List.map_cons,List.map_nil,List.append_nil,List.all_append,Bool.and_eq_true] at hw
   refine ⟨s4 hw.2.2.2.2.1,?_⟩
   have:=(s5 hw.2.2.2.2.2.1).1
   rwa [show Tryz.prog.bytesOf 44=24 from by kernel_rfl] at this
theorem b6V:a5S OpV Tryz.prog 22 (fun l=>l.length*Tryz.prog.bytesOf 46<=reachBytes/\∀o∈l,o.text.length<=reachBytes/\o.gone.length*24<=reachBytes):=
 a1R Tryz.underlying22 b3l (by kernel_rfl) (by decide)
theorem b2t:a9X a0i Tryz.prog 48 (fun e=>e.op.text.length<=reachBytes/\e.op.gone.length*24<=reachBytes):=by
 intro H enc w F fuel cs x hF h
 obtain ⟨xs,n,_,rfl,hl,hlen,hf⟩:=DataW.trod_struct Tryz.underlying48 h
 rw [show Tryz.prog.cellsOf 48=13 from by kernel_rfl] at hl
 match cs,hl,xs,hlen with
 |[b0,b1,c0,c1,c2,c3,c4,c5,c6,c7,c8,c9,c10],_,[x0,x1,x2],_=>
  have h0:=hf 0 _ rfl
  change DataW.trod enc Tryz.prog w 0 _ true _ 4 (List.take (Tryz.prog.cellsOf 4) [b0,b1,c0,c1,c2,c3,c4,c5,c6,c7,c8,c9,c10])=some x0 at h0
  rw [show Tryz.prog.cellsOf 4=1 from by kernel_rfl] at h0
  have h1:=hf 1 _ rfl
  change DataW.trod enc Tryz.prog w 0 _ true _ 3 (List.take (Tryz.prog.cellsOf 3) [b1,c0,c1,c2,c3,c4,c5,c6,c7,c8,c9,c10])=some x1 at h1
  rw [show Tryz.prog.cellsOf 3=1 from by kernel_rfl] at h1
  have h2:=hf 2 _ rfl
  change DataW.trod enc Tryz.prog w 0 _ true _ 46 (List.take (Tryz.prog.cellsOf 46) [c0,c1,c2,c3,c4,c5,c6,c7,c8,c9,c10])=some x2 at h2
  rw [show Tryz.prog.cellsOf 46=11 from by kernel_rfl] at h2
  obtain ⟨j,hj⟩:=b4r Tryz.underlying4 enc w F n _ _ h0
  obtain ⟨a1,_,o1,r1,_⟩:=a00 Tryz.underlying3 enc w F n _ _ hF h1
  obtain ⟨o,_,o2,r2,s2⟩:=b3l enc w F n _ _ hF h2
  simp at hj
  subst hj
  refine ⟨⟨j,a1,o⟩,rfl,?_,?_,fun hw=>?_⟩
  ·intro v hv
   rcases List.mem_cons.1 hv with rfl|hv
   ·rfl
   rcases List.mem_cons.1 hv with rfl|hv
   ·simp at o1;exact o1
   ·exact o2 v hv
  ·intro k c hk
   match k,hk with
   |0,hk=>
    simp [a0n] at hk
    subst hk
    exact .raw _
   |1,hk=>exact r1 0 c (by simpa [a0n] using hk)
   |k+2,hk=>exact r2 k c (by simpa [a0n] using hk)
  ·simp only [DataW.weights,Tryz.underlying48,DataW.weightsEach,List.map_cons,List.map_nil,List.append_nil,List.all_append,Bool.and_eq_true] at hw
   exact s2 hw.2.2
theorem a9g:a5S a0i Tryz.prog 34 (fun l=>l.length*Tryz.prog.bytesOf 48<=reachBytes/\∀e∈l,e.op.text.length<=reachBytes/\e.op.gone.length*24<=reachBytes):=
 a1R Tryz.underlying34 b2t (by kernel_rfl) (by decide)
open Go Go.Proofs
theorem b4s {H:Type} (enc:TypeId×Value->H) (w:World) (F:Tag->Nat->Prop) (fuel:Nat) (cs:List Value) (x:DataW H×List MemPlace) (hF:∀b,b<w.heap.size->F .old b) (hF2:∀b,F .old b->F .brw b)
  (h:DataW.trod enc Tryz.prog w 0 (fun _=>true) true fuel 26 cs=some x) :
  ∃(c0 c1 c2:Value) (p:b6s),cs=[c0,c1,c2]/\a0C w F a0j a0t (.sl .brw false (a0a p.ops)) c0/\a0C w F a0j a0t (.sl .brw false (a0a p.elems)) c1/\a0C w F a0j a0t (.sl .brw false (a0a p.nums)) c2/\
   ((x.1.weights Tryz.prog 26).all (·<=reachBytes)=true->b6t p):=by
 obtain ⟨xs,n,_,rfl,hl,hlen,hf⟩:=DataW.trod_struct Tryz.underlying26 h
 rw [show Tryz.prog.cellsOf 26=3 from by kernel_rfl] at hl
 match cs,hl,xs,hlen with
 |[c0,c1,c2],_,[x0,x1,x2],_=>
  have h0:=hf 0 _ rfl
  change DataW.trod enc Tryz.prog w 0 _ true _ 22 (List.take (Tryz.prog.cellsOf 22) [c0,c1,c2])=some x0 at h0
  rw [show Tryz.prog.cellsOf 22=1 from by kernel_rfl] at h0
  have h1:=hf 1 _ rfl
  change DataW.trod enc Tryz.prog w 0 _ true _ 23 (List.take (Tryz.prog.cellsOf 23) [c1,c2])=some x1 at h1
  rw [show Tryz.prog.cellsOf 23=1 from by kernel_rfl] at h1
  have h2:=hf 2 _ rfl
  change DataW.trod enc Tryz.prog w 0 _ true _ 24 (List.take (Tryz.prog.cellsOf 24) [c2])=some x2 at h2
  rw [show Tryz.prog.cellsOf 24=1 from by kernel_rfl] at h2
  obtain ⟨a0,_,_,r0,s0⟩:=b6V enc w F n _ _ hF h0
  obtain ⟨a1,_,_,r1,s1⟩:=a7f enc w F n _ _ hF h1
  obtain ⟨a2,_,_,r2,s2⟩:=a5z enc w F n _ _ hF h2
  refine ⟨c0,c1,c2,⟨a0,a1,a2⟩,rfl,r0.brw hF2,r1.brw hF2,r2.brw hF2,fun hw=>?_⟩
  simp only [DataW.weights,Tryz.underlying26,DataW.weightsEach,List.map_cons,List.map_nil,List.append_nil,List.all_append,Bool.and_eq_true] at hw
  obtain ⟨w0,w1,w2⟩:=hw
  obtain ⟨i0,j0⟩:=s0 w0
  obtain ⟨i1,_⟩:=s1 w1
  obtain ⟨i2,_⟩:=s2 w2
  rw [show Tryz.prog.bytesOf 46=112 from by kernel_rfl] at i0
  rw [show Tryz.prog.bytesOf 44=24 from by kernel_rfl] at i1
  rw [show Tryz.prog.bytesOf 3=8 from by kernel_rfl] at i2
  have hr:reachBytes=140737488351232:=rfl
  rw [hr] at i0 i1 i2 j0
  exact ⟨by simp;omega,fun o ho=>by have:=j0 o ho;omega,by simp;omega,by simp;omega⟩
theorem b4t {H:Type} (enc:TypeId×Value->H) (w:World) (F:Tag->Nat->Prop) (fuel:Nat) (cs:List Value) (x:DataW H×List MemPlace) (hF:∀b,b<w.heap.size->F .old b) (hF2:∀b,F .old b->F .brw b)
  (h:DataW.trod enc Tryz.prog w 0 (fun _=>true) true fuel 36 cs=some x) (hw:(x.1.weights Tryz.prog 36).all (·<=reachBytes)=true) :
  ∃p:a5Z,b6v p/\a2f w F a0j a0t (.g (askRow p)) (.agg cs.toArray):=by
 obtain ⟨xs,n,_,rfl,hl,hlen,hf⟩:=DataW.trod_struct Tryz.underlying36 h
 rw [show Tryz.prog.cellsOf 36=9 from by kernel_rfl] at hl
 match cs,hl,xs,hlen with
 |[c0,c1,c2,c3,c4,c5,c6,c7,c8],_,[x0,x1,x2,x3],_=>
  have h0:=hf 0 _ rfl
  change DataW.trod enc Tryz.prog w 0 _ true _ 26 (List.take (Tryz.prog.cellsOf 26) [c0,c1,c2,c3,c4,c5,c6,c7,c8])=some x0 at h0
  rw [show Tryz.prog.cellsOf 26=3 from by kernel_rfl] at h0
  have h1:=hf 1 _ rfl
  change DataW.trod enc Tryz.prog w 0 _ true _ 33 (List.take (Tryz.prog.cellsOf 33) [c3,c4,c5,c6,c7,c8])=some x1 at h1
  rw [show Tryz.prog.cellsOf 33=4 from by kernel_rfl] at h1
  have h2:=hf 2 _ rfl
  change DataW.trod enc Tryz.prog w 0 _ true _ 34 (List.take (Tryz.prog.cellsOf 34) [c7,c8])=some x2 at h2
  rw [show Tryz.prog.cellsOf 34=1 from by kernel_rfl] at h2
  have h3:=hf 3 _ rfl
  change DataW.trod enc Tryz.prog w 0 _ true _ 24 (List.take (Tryz.prog.cellsOf 24) [c8])=some x3 at h3
  rw [show Tryz.prog.cellsOf 24=1 from by kernel_rfl] at h3
  simp only [DataW.weights,Tryz.underlying36,DataW.weightsEach,List.map_cons,List.map_nil,List.append_nil,List.all_append,Bool.and_eq_true] at hw
  obtain ⟨w0,w1,w2,w3⟩:=hw
  obtain ⟨q0,q1,q2,p4,hq,r0,r1,r2,s4⟩:=b4s enc w F n _ _ hF hF2 h0
  simp at hq
  obtain ⟨rfl,rfl,rfl⟩:=hq
  obtain ⟨ps,sS,rS⟩:=b0l enc w F n _ _ hF hF2 h1 w1
  obtain ⟨es,_,_,r7,s7⟩:=a9g enc w F n _ _ hF h2
  obtain ⟨ns,_,_,r8,s8⟩:=a5z enc w F n _ _ hF h3
  obtain ⟨i7,j7⟩:=s7 w2
  obtain ⟨i8,j8⟩:=s8 w3
  rw [show Tryz.prog.bytesOf 48=128 from by kernel_rfl] at i7
  rw [show Tryz.prog.bytesOf 3=8 from by kernel_rfl] at i8
  have hr:reachBytes=140737488351232:=rfl
  rw [hr] at i7 i8 j7
  refine ⟨⟨p4,ps,es,ns⟩,⟨s4 w0,sS,by simp;omega,fun e he=>by have:=j7 e he;omega,by simp;omega,j8⟩,?_⟩
  have gS:∀(k:Nat) c,[AC.sl .brw false (a0a ps.d.safe),.sl .brw false (a0a ps.d.wait),.raw (.int .i64 ps.n),.sl .brw false (a0a ps.l)][k]?=some c->a0C w F a0j a0t c ((List.take 4 [c3,c4,c5,c6,c7,c8]).getD k undef):=by
   cases rS with
   |g _ _ hlen hrel=>simpa using hrel
  refine .g _ _ rfl fun k c hk=>?_
  match k,hk with
  |0,hk=>simp [askRow] at hk;subst hk;exact r0
  |1,hk=>simp [askRow] at hk;subst hk;exact r1
  |2,hk=>simp [askRow] at hk;subst hk;exact r2
  |3,hk=>simp [askRow] at hk;subst hk;exact gS 0 _ rfl
  |4,hk=>simp [askRow] at hk;subst hk;exact gS 1 _ rfl
  |5,hk=>simp [askRow] at hk;subst hk;exact gS 2 _ rfl
  |6,hk=>simp [askRow] at hk;subst hk;exact gS 3 _ rfl
  |7,hk=>simp [askRow] at hk;subst hk;exact r7.brw hF2
  |8,hk=>simp [askRow] at hk;subst hk;exact r8.brw hF2
end Go.AE
