/- The abstract machine: cuts within cuts, loops whose rounds have cuts. -/
import Derived.Test.YtnodicdkejklmaaGreatDoorKe5
set_option linter.unusedVariables false
set_option linter.unusedSimpArgs false
set_option maxHeartbeats 4000000
set_option maxRecDepth 100000
namespace Go.AE
open Go Go.Proofs
theorem c1h {p:a1K} (hp:a5B p) (h:¬700<a5X p):p.d.safe.length<=3000/\p.d.wait.length<=1000:=by
 obtain ⟨b1,b2⟩:=a3F p.d hp.safe hp.wait hp.c1t hp.c1u
 have g:=b28 p.l (a1h p.d+p.l.length)
 unfold a5X at h
 omega
structure a5Z where
 o:b6s
 d:a1K
 a2X:List a0i
 nums:List Int
structure b6v (p:a5Z):Prop where
 o:b6t p.o
 d:a5B p.d
 a2X:p.a2X.length<281474976710656
 d7h:∀e∈p.a2X,e.op.text.length<281474976710656/\e.op.gone.length<281474976710656
 nums:p.nums.length<281474976710656
 d7i:∀n∈p.nums,-9223372036854775808<=n/\n<=9223372036854775807
def askRow (p:a5Z):List AC:=[.sl .brw false (a0a p.o.ops),.sl .brw false (a0a p.o.elems),.sl .brw false (a0a p.o.nums),.sl .brw false (a0a p.d.d.safe),.sl .brw false (a0a p.d.d.wait),.raw (.int .i64 p.d.n),.sl .brw false (a0a p.d.l),
 .sl .brw false (a0a p.a2X),.sl .brw false (a0a p.nums)]
instance d1W:Arg a5Z where
 enc p:=.g (askRow p)
 dec|.g [.sl .brw false a,.sl .brw false b,.sl .brw false c,.sl .brw false d,.sl .brw false e,.raw (.int .i64 n),.sl .brw false f,.sl .brw false g,.sl .brw false h]=>
    (match a3g a,a3g b,a3g c,a3g d,a3g e,a3g f,a3g g,a3g h with
     |some a,some b,some c,some d,some e,some f,some g,some h=>some ⟨⟨a,b,c⟩,⟨⟨d,e⟩,n,f⟩,g,h⟩|_,_,_,_,_,_,_,_=>none)|_=>none
 a0X {x p} h:=by
  split at h
  ·split at h
   ·rename_i h1 h2 h3 h4 h5 h6 h7 h8
    cases h
    rw [a0I h1,a0I h2,a0I h3,a0I h4,a0I h5,a0I h6,a0I h7,a0I h8]
    rfl
   ·cases h
  ·cases h
@[simp] theorem d0z (p:a5Z):Arg.enc p=.g (askRow p):=rfl
@[simp] theorem c1i (p:a5Z):Arg.dec (.g (askRow p))=some p:=by
 show (match a3g (a0a p.o.ops),a3g (a0a p.o.elems),a3g (a0a p.o.nums),a3g (a0a p.d.d.safe),a3g (a0a p.d.d.wait),a3g (a0a p.d.l),a3g (a0a p.a2X),a3g (a0a p.nums) with
     |some a,some b,some c,some d,some e,some f,some g,some h=>some (a5Z.mk ⟨a,b,c⟩ ⟨⟨d,e⟩,p.d.n,f⟩ g h)|_,_,_,_,_,_,_,_=>none)=_
 simp
@[simp high] theorem c8b (p:a5Z):Arg.dec (.g [.sl .brw false (a0a p.o.ops),.sl .brw false (a0a p.o.elems),.sl .brw false (a0a p.o.nums),.sl .brw false (a0a p.d.d.safe),.sl .brw false (a0a p.d.d.wait),.raw (.int .i64 p.d.n),.sl .brw false (a0a p.d.l),
 .sl .brw false (a0a p.a2X),.sl .brw false (a0a p.nums)])=some p:=c1i p
def c17 (e:a0i):Int:=a0P e.op
def b2k (p:a5Z):Int:=a5e c17 (p.a2X.length+p.nums.length) p.a2X
def a2l (p:a5Z):Bool:=decide (500<b2k p)||decide (900<a5Y p.o)||decide (700<a5X p.d)
def b2l:List AV->Option (Prop×AV):=t1 b6t fun p:b6s=>.c (.raw (.bool (decide (900<a5Y p))))
@[simp] theorem c8c {l:List AV}:b2l l=(t1 b6t fun p:b6s=>.c (.raw (.bool (decide (900<a5Y p))))) l:=(rfl)
def FK5:CT:=(17,.pu b2l)::FK4
theorem b9w:a07 Tryz.prog FK5:=⟨a0o fun p h=>b6u p h,b9v⟩
@[simp] theorem c44:a0c FK5 17=some (.pu b2l):=(rfl)
@[simp] theorem c8d {n:Nat} (h:(n==17)=false):a0c FK5 n=a0c FK4 n:=by
 simp only [Bool.or_eq_false_iff,beq_eq_false_iff_ne,ne_eq] at h
 simp [FK5,a0c,h]
def d5M (p:a5Z) (q:Nat) (st:St):Prop:=∃(i:Nat) (m:Int),i<=p.a2X.length/\q=p.a2X.length-i/\st.s 1=.c (.pt (0,1) 0 0)/\st.H (0,1)=.arr 36 9 false [askRow p]/\
 st.s 3=.c (.raw (.int .i64 m))/\st.s 4=.c (.raw (.int .i64 i))/\0<=m/\m<1125899906842624/\a5e c17 m (p.a2X.drop i)=b2k p
theorem a7Z (p:a5Z) (hp:b6v p):PEv Tryz.prog 4 [Arg.enc p] (.c (.raw (.bool (a2l p)))):=by
 refine a0e mixed b9w Tryz.func4 sl4 ok4 (by kernel_rfl) (by simp) (by simp [askRow]) ?_
 obtain ⟨h1,h2,h3,h4,h5,h6⟩:=hp
 have e0:IntKind.wrap .i64 ((p.a2X.length:Int)+p.nums.length)=(p.a2X.length:Int)+p.nums.length:=by rw [a0f]<;>omega
 refine a4M (fun st'=>st'.s 1=.c (.pt (0,1) 0 0)/\st'.H (0,1)=.arr 36 9 false [askRow p]) ?_ ?_
 ·intro R' hR
  simp [askRow]
  exact hR _ ⟨by simp,by simp [askRow]⟩
 rintro st ⟨k1,kH⟩
 refine a4M (fun st'=>st'.s 1=.c (.pt (0,1) 0 0)/\st'.H (0,1)=.arr 36 9 false [askRow p]/\st'.s 3=.c (.raw (.int .i64 ((p.a2X.length:Int)+p.nums.length)))) ?_ ?_
 ·intro R' hR
  simp [k1,kH,askRow,e0]
  exact hR _ ⟨by simp [k1],by simp [kH,askRow],by simp⟩
 clear k1 kH
 rintro st ⟨k1,kH,k3⟩
 refine a4M (fun st'=>st'.s 1=.c (.pt (0,1) 0 0)/\st'.H (0,1)=.arr 36 9 false [askRow p]/\st'.s 3=.c (.raw (.int .i64 (b2k p)))) ?_ ?_
 ·intro R' hR
  simp
  refine a61 (d5M p) p.a2X.length ⟨0,p.a2X.length+p.nums.length,by omega,rfl,by simp [k1],by simp [kH],by simp [k3],by simp,by omega,by omega,by simp [b2k]⟩ ?_
  clear k1 kH k3
  rintro q st ⟨i,m,hi,rfl,k1,kH,k3,k4,hm0,hm1,hw⟩ J hJ
  by_cases hlt:i<p.a2X.length
  ·have hlt':(i:Int)<p.a2X.length:=by omega
   by_cases hm:m<1048576
   ·obtain ⟨t1,t2⟩:=h4 p.a2X[i] (List.getElem_mem hlt)
    obtain ⟨w1,w2⟩:=a2I p.a2X[i].op t1 t2
    have t3:p.a2X[i].op.text.length<4611686018427387904:=by omega
    have t4:p.a2X[i].op.gone.length<4611686018427387904:=by omega
    have e1:IntKind.wrap .i64 (m+a0P p.a2X[i].op)=m+a0P p.a2X[i].op:=by rw [a0f]<;>omega
    have e2:IntKind.wrap .i64 ((i:Int)+1)=((i+1:Nat):Int):=by rw [a0f]<;>omega
    simp [c6m,askRow,k1,kH,k3,k4,hlt,hlt',hm,e1,e2,t3,t4,a0n,a0d]
    exact ⟨p.a2X.length-(i+1),by omega,hJ _ _ ⟨i+1,m+a0P p.a2X[i].op,by omega,rfl,by simp [k1],by simp [kH,askRow],by simp,by simp,by omega,by omega,by rw [<-hw,a5f _ _ _ _ hlt hm];rfl⟩⟩
   ·rw [a5g _ _ _ hm] at hw
    subst hw
    simp [c6m,askRow,k1,kH,k3,k4,hlt,hlt',hm]
    exact hR _ ⟨by simp [k1],by simp [kH,askRow],by simp [k3]⟩
  ·have hlt':¬(i:Int)<p.a2X.length:=by omega
   have:p.a2X.drop i=[]:=List.drop_eq_nil_of_le (by omega)
   rw [this,a5e] at hw
   subst hw
   simp [c6m,askRow,k1,kH,k3,k4,hlt,hlt']
   exact hR _ ⟨by simp [k1],by simp [kH,askRow],by simp [k3]⟩
 ·clear k1 kH k3
  rintro st ⟨k1,kH,k3⟩
  unfold a2l
  by_cases c1:500<b2k p
  ·simp [askRow,k1,kH,k3,c1]
  ·by_cases c2:900<a5Y p.o
   ·simp [askRow,k1,kH,k3,c1,c2,h1]
   ·simp [askRow,k1,kH,k3,c1,c2,h1,h2]
theorem a9a {α:Type} (f:α->Int):∀(l:List α) (n:Int),(∀x∈l,0<=f x)->a5e f n l<1048576->∀a∈l,n+f a<=a5e f n l
 |[],n,_,_,a,ha=>by simp at ha
 |b::r,n,h0,h,a,ha=>by
  unfold a5e at h ⊢
  split at h
  ·rename_i hn
   rw [if_pos hn]
   rcases List.mem_cons.1 ha with rfl|ha
   ·exact a4O f r _ fun x hx=>h0 x (by simp [hx])
   ·have:=a9a f r _ (fun x hx=>h0 x (by simp [hx])) h a ha
    have:=h0 b (by simp)
    omega
  ·omega
theorem b6w {p:a5Z} (hp:b6v p) (h:a2l p=false):p.a2X.length<=500/\p.nums.length<=500/\(∀e∈p.a2X,e.op.text.length<=4000/\e.op.gone.length<=1000)/\
  p.o.ops.length<=900/\(∀o∈p.o.ops,o.text.length<=4000/\o.gone.length<=1000)/\p.d.d.safe.length<=3000/\p.d.d.wait.length<=1000:=by
 obtain ⟨h1,h2,h3,h4,h5,h6⟩:=hp
 simp only [a2l,Bool.or_eq_false_iff,decide_eq_false_iff_not] at h
 obtain ⟨⟨a1,a2⟩,a3⟩:=h
 have b0:∀x∈p.a2X,0<=c17 x:=fun x hx=>(a2I x.op (h4 x hx).1 (h4 x hx).2).1
 have b1:=a4O c17 p.a2X (p.a2X.length+p.nums.length) b0
 have b2:=a9a c17 p.a2X (p.a2X.length+p.nums.length) b0 (by unfold b2k at a1;omega)
 have c0:∀x∈p.o.ops,0<=a0P x:=fun x hx=>(a2I x (h1.opS x hx).1 (h1.opS x hx).2).1
 have c1:=a4O a0P p.o.ops p.o.ops.length c0
 have c2:=a9a a0P p.o.ops p.o.ops.length c0 (by unfold a5Y b2f at a2;omega)
 unfold b2k at a1
 unfold a5Y b2f at a2
 obtain ⟨d1,d2⟩:=c1h h2 a3
 refine ⟨by omega,by omega,fun e he=>?_,by omega,fun o ho=>?_,d1,d2⟩
 ·have:=b2 e he
  have hw:c17 e=2+((e.op.text.length/4:Nat):Int)+e.op.gone.length:=rfl
  omega
 ·have:=c2 o ho
  have hw:a0P o=2+((o.text.length/4:Nat):Int)+o.gone.length:=rfl
  omega
open Go Go.Proofs
def opE (o:OpV):a0i:=⟨false,0,o⟩
def a34 (p:a5Z) (i:Nat):List a0i:=p.a2X.take 6++(p.o.ops.take i).map opE
def a5C (n:Int):List AC:=[.raw (.bool true),.raw (.int .i64 n),.raw (.int .i64 0),.raw (.int .i64 0),.raw (.int .i64 0),.raw (.int .i64 0),.raw (.int .i64 0),.raw (.int .i64 0),.str [],.raw (.slice none 0 0),.raw (.int .i64 0),.raw (.int .i64 0),.raw (.int .i64 0)]
def a56 (p:a5Z):List a0i:=a34 p 4++[b0h (1+p.nums.length)]
def d0A (p:a5Z) (i:Nat) (st:St):Prop:=∃(id:Id) (n:Nat) (X:List (List AC)),st.s 1=.c (.pt (0,1) 0 0)/\st.H (0,1)=.arr 36 9 false [askRow p]/\st.s 3=.c (.so id 0 n)/\st.H id=.arr 48 13 false X/\
 a1u n X=a0a (a34 p i)/\(a34 p i).length=n/\n<=6+i/\((0,1)=id)=False/\a0v st.H st.T/\0<st.T
def d5N (p:a5Z) (q:Nat) (st:St):Prop:=∃i:Nat,i<=p.o.ops.length/\i<=4/\q=4-i/\st.s 4=.c (.raw (.int .i64 i))/\d0A p i st
def c45:List AV->Option (Prop×AV):=t1 b6v fun p:a5Z=>.c (.raw (.bool (a2l p)))
def FK6:CT:=(4,.pu c45)::FK5
theorem c46:a07 Tryz.prog FK6:=⟨a0o fun p h=>a7Z p h,b9w⟩
@[simp] theorem c8e {n:Nat} (h:(n==4)=false):a0c FK6 n=a0c FK5 n:=by
 simp only [Bool.or_eq_false_iff,beq_eq_false_iff_ne,ne_eq] at h
 simp [FK6,a0c,h]
theorem a71 (p:a5Z) (i:Nat) (h:i<p.o.ops.length):a34 p (i+1)=a34 p i++[opE p.o.ops[i]]:=by
 unfold a34
 rw [(List.take_append_getElem h).symm,List.map_append,List.map_singleton,List.append_assoc]
theorem b4l (p:a5Z) (hp:b6v p) (hl:a2l p=false):PEv Tryz.prog 6 [Arg.enc p] (.c (.nw 48 13 (a0a (a56 p)))):=by
 refine b6h mixed c46 Tryz.func6 sl6 ok6 (by kernel_rfl) (by simp) (by simp [askRow]) ?_
 obtain ⟨l1,l2,l3,l4,l5,l6,l7⟩:=b6w hp hl
 have g1:p.a2X.length<1000000:=by omega
 have g2:∀e∈p.a2X,e.op.gone.length<1000000:=fun e he=>by have:=l3 e he;omega
 refine a4M (fun st'=>st'.s 1=.c (.pt (0,1) 0 0)/\st'.H (0,1)=.arr 36 9 false [askRow p]/\a0v st'.H st'.T/\0<st'.T) ?_ ?_
 ·intro R' hR
  simp [askRow]
  exact hR _ ⟨by simp,by simp [askRow],by simp;(repeat' (first|exact a1r.mono (Nat.zero_le _)|(refine a0v.set' ?_ (by simp)))),by simp⟩
 rintro st ⟨k1,kH,hf,hT⟩
 have hfu:∀k d,st.T<=k->st.H (k,d)=.a0b:=hf
 obtain ⟨p1,p2,p3⟩:=hf.arr kH
 refine a4M (fun st'=>st'.s 1=.c (.pt (0,1) 0 0)/\st'.H (0,1)=.arr 36 9 false [askRow p]/\a0v st'.H st'.T/\0<st'.T/\∃id,st'.s 3=.c (.so id 0 p.a2X.length)/\st'.H id=.arr 48 13 false (a0a p.a2X)/\((0,1)=id)=False) ?_ ?_
 ·intro R' hR
  simp [k1,kH,askRow,g1,g2,hfu,p1,p2]
  refine ⟨g2,hR _ ⟨by first|exact k1|simp (maxDischargeDepth:=8) [k1],by simp [kH,askRow,p1,p2,Nat.le_add_right_of_le],by simp;repeat' (first|exact hf.mono (by first|omega|(simp<;>omega))|(refine a0v.set' ?_ (by first|omega|(simp<;>omega)))),by first|(simp;done)|(simp;omega)|omega,(st.T,8192),by simp,by simp,by first|(simp;done)|(simp;omega)|omega⟩⟩
 clear k1 kH hf hT hfu p1 p2 p3
 rintro st ⟨k1,kH,hf,hT,id,k3,kX,hne⟩
 refine a4M (d0A p 0) ?_ ?_
 ·intro R' hR
  by_cases h6:6<p.a2X.length
  ·have h6':(6:Int)<p.a2X.length:=by omega
   simp [k3,kX,h6,h6']
   refine ⟨by omega,hR _ ⟨id,6,_,by first|exact k1|simp [k1],by first|exact kH|simp [kH],by simp,by first|exact kX|simpa using kX,?_,by simp [a34];omega,by omega,hne,by first|exact hf|exact hf.mono (by first|omega|(simp;omega))|(simp;exact hf.mono (by omega)),by first|(simp;done)|(simp;omega)|omega⟩⟩
   simp [a34,a1u,h6,a4g]
  ·have h6':¬(6:Int)<p.a2X.length:=by omega
   simp [k3,kX,h6,h6']
   have ht:p.a2X.take 6=p.a2X:=List.take_of_length_le (by omega)
   refine hR _ ⟨id,_,_,by first|exact k1|simp [k1],by first|exact kH|simp [kH],by first|exact k3|simpa using k3,by first|exact kX|simpa using kX,?_,by simp [a34,ht],by omega,hne,by first|exact hf|exact hf.mono (by first|omega|(simp;omega))|(simp;exact hf.mono (by omega)),by first|(simp;done)|(simp;omega)|omega⟩
   simp [a34,a1u,ht]
 clear k1 kH hf hT k3 kX hne
 rintro st hQ
 refine a4M (d0A p 4) ?_ ?_
 ·intro R' hR
  simp
  refine a61 (d5N p) 4 ⟨0,by omega,by omega,rfl,by simp,?_⟩ ?_
  ·obtain ⟨id,n,X,k1,kH,k3,kX,hc,hn,hn6,hne,hf,hT⟩:=hQ
   exact ⟨id,n,X,by first|exact k1|simp [k1],by first|exact kH|simp [kH],by first|exact k3|simp [k3],by first|exact kX|simp [kX],hc,hn,hn6,hne,by first|exact hf|exact hf.mono (by first|omega|(simp;omega))|(simp;exact hf.mono (by omega)),by first|(simp;done)|(simp;omega)|omega⟩
  clear hQ st
  rintro q st ⟨i,hi,hi4,rfl,k4,id,n,X,k1,kH,k3,kX,hc,hn,hn6,hne,hf,hT⟩ J hJ
  have hfu:∀k d,st.T<=k->st.H (k,d)=.a0b:=hf
  obtain ⟨p1,p2,p3⟩:=hf.arr kH
  obtain ⟨f1,f2,f3⟩:=hf.arr kX
  have hcl:(a1u n X).length=n:=by rw [hc];simp [hn]
  by_cases hlt:i<p.o.ops.length
  ·have hlt':(i:Int)<p.o.ops.length:=by omega
   by_cases h4:i<4
   ·have h4':(i:Int)<4:=by omega
    have hw:IntKind.wrap .i64 ((i:Int)+1)=((i+1:Nat):Int):=by rw [a0f]<;>omega
    have hge:p.o.ops[i].gone.length<1000000:=by have:=l5 p.o.ops[i] (List.getElem_mem hlt);omega
    simp [c6n,k1,kH,k3,k4,kX,askRow,hlt,hlt',h4,h4',hw,hge,hfu,p1,p2,f1,f2,hcl,hne,a0d]
    refine ⟨⟨by omega,by omega⟩,4-(i+1),by omega,hJ _ _ ⟨i+1,by omega,by omega,rfl,by simp,(st.T+1,35),n+1,_,by first|exact k1|simp (maxDischargeDepth:=8) [k1],by simp [kH,askRow,p1,p2,hne,Nat.le_add_right_of_le],by simp,by simp;rfl,?_,?_,by omega,by first|(simp;done)|(simp;omega)|omega,by simp;repeat' (first|exact hf.mono (by first|omega|(simp<;>omega))|(refine a0v.set' ?_ (by first|omega|(simp<;>omega)))),by first|(simp;done)|(simp;omega)|omega⟩⟩
    ·rw [a5k (by simp [hcl]),hc,a71 p i hlt]
     simp [a0a,opE,a0n,a0d]
    ·rw [a71 p i hlt];simp [hn]
   ·have h4':¬(i:Int)<4:=by omega
    have:i=4:=by omega
    subst this
    have hlt2:(4:Int)<p.o.ops.length:=by omega
    simp [c6n,k1,kH,k3,k4,kX,askRow,hlt2]
    exact hR _ ⟨id,n,X,by first|exact k1|simp [k1],by first|exact kH|simp [kH],by first|exact k3|simp [k3],by first|exact kX|simp [kX],hc,hn,hn6,hne,by first|exact hf|exact hf.mono (by first|omega|(simp;omega))|(simp;exact hf.mono (by omega)),by first|(simp;done)|(simp;omega)|omega⟩
  ·have hlt':¬(i:Int)<p.o.ops.length:=by omega
   have he:a34 p 4=a34 p i:=by
    unfold a34
    rw [List.take_of_length_le (show p.o.ops.length<=4 by omega),List.take_of_length_le (show p.o.ops.length<=i by omega)]
   simp [c6n,k1,kH,k3,k4,kX,askRow,hlt,hlt']
   exact hR _ ⟨id,n,X,by first|exact k1|simp [k1],by first|exact kH|simp [kH],by first|exact k3|simp [k3],by first|exact kX|simp [kX],by rw [he];exact hc,by rw [he];exact hn,by omega,hne,by first|exact hf|exact hf.mono (by first|omega|(simp;omega))|(simp;exact hf.mono (by omega)),by first|(simp;done)|(simp;omega)|omega⟩
 clear hQ
 rintro st ⟨id,n,X,k1,kH,k3,kX,hc,hn,hn6,hne,hf,hT⟩
 have hfu:∀k d,st.T<=k->st.H (k,d)=.a0b:=hf
 obtain ⟨f1,f2,f3⟩:=hf.arr kX
 have hcl:(a1u n X).length=n:=by rw [hc];simp [hn]
 have hw:IntKind.wrap .i64 (1+(p.nums.length:Int))=1+(p.nums.length:Int):=by rw [a0f]<;>omega
 simp [k1,kH,k3,kX,askRow,hw,hfu,f1,f2,hcl,hc]
 have d05:(a0a (a34 p 4)++[a5C (1+p.nums.length)]).set n ((a5C (1+p.nums.length)).set 9 (.sl .old false []))=a0a (a56 p):=by
  rw [List.set_append_right _ _ (by simp [hn])]
  simp [hn,a56,a0a,a5C,b0h,a1E,a0n,a0d]
 refine ⟨⟨hn.symm,by omega,by omega⟩,_,.nil (o:=(st.T,43)) (e2:=48) (sz2:=13) (rows:=a0a (a34 p 4)++[a5C (1+p.nums.length)]) (k:=n) (j:=9) (r:=a5C (1+p.nums.length)) (by simp [a5C])
  (by rw [List.getElem?_append_right (by simp [hn])];simp [hn]) rfl (.refl _),?_,by simp [a56]⟩
 simp [c07]
 exact d05
open Go
open Go Go.Proofs
def b6x (H:Heap) (c:AC) (xs:List (List AC)):Prop:=(∃t cl,c=.sl t cl xs)\/(c=.raw (.slice none 0 0)/\xs=[])\/∃id e sz X,c=.so id 0 xs.length/\H id=.arr e sz false X/\xs.length<=X.length/\X.take xs.length=xs/\(e==30)=false
theorem b6x.ext {H H':Heap} {T T':Nat} {c:AC} {xs:List (List AC)} (h:b6x H c xs) (he:a29 [] H T H' T'):b6x H' c xs:=by
 rcases h with h|h|⟨id,e,sz,X,h0,h1,h2,h3⟩
 ·exact .inl h
 ·exact .inr (.inl h)
 ·exact .inr (.inr ⟨id,e,sz,X,h0,he.arr h1 (by simp),h2,h3⟩)
def b6y (H:Heap) (r:List AC) (d:a0l):Prop:=∃c1 c2,r=[c1,c2]/\b6x H c1 (a0a d.safe)/\b6x H c2 (a0a d.wait)
theorem b6y.ext {H H':Heap} {T T':Nat} {r:List AC} {d:a0l} (h:b6y H r d) (he:a29 [] H T H' T'):b6y H' r d:=by
 obtain ⟨c1,c2,h1,h2,h3⟩:=h
 exact ⟨c1,c2,h1,h2.ext he,h3.ext he⟩
def b9x (d:a0l):Prop:=d.safe.length<=3000/\d.wait.length<=1000
def b0n (H:Heap) (rows:List (List AC)) (ds:List a0l):Prop:=rows.length=ds.length/\∀(k:Nat) r d,rows[k]?=some r->ds[k]?=some d->b6y H r d/\b9x d
theorem b0n.ext {H H':Heap} {T T':Nat} {rows:List (List AC)} {ds:List a0l} (h:b0n H rows ds) (he:a29 [] H T H' T'):b0n H' rows ds:=
 ⟨h.1,fun k r d h1 h2=>⟨(h.2 k r d h1 h2).1.ext he,(h.2 k r d h1 h2).2⟩⟩
theorem b0n.nil {H:Heap}:b0n H [] []:=⟨rfl,by simp⟩
theorem b0n.snoc {H:Heap} {rows:List (List AC)} {ds:List a0l} {r:List AC} {d:a0l} (h:b0n H rows ds) (h1:b6y H r d) (h2:b9x d):b0n H (rows++[r]) (ds++[d]):=by
 obtain ⟨a,b⟩:=h
 refine ⟨by simp [a],fun k r' d' g1 g2=>?_⟩
 by_cases hk:k<rows.length
 ·rw [List.getElem?_append_left hk] at g1
  rw [List.getElem?_append_left (by omega)] at g2
  exact b k r' d' g1 g2
 ·rw [List.getElem?_append_right (by omega)] at g1
  rw [List.getElem?_append_right (by omega)] at g2
  have e1:k-rows.length=0:=by
   have:=(List.getElem?_eq_some_iff.1 g1).1
   simp at this;omega
  rw [e1] at g1
  rw [<-a,e1] at g2
  simp at g1 g2
  subst g1 g2
  exact ⟨h1,h2⟩
open Go Go.Proofs
theorem b2m {p:a5Z} (hp:b6v p) (hl:a2l p=false):(a56 p).length<=11/\∀e∈a56 p,e.op.text.length<=4000/\e.op.gone.length<=1000:=by
 obtain ⟨l1,l2,l3,l4,l5,l6,l7⟩:=b6w hp hl
 constructor
 ·simp only [a56,a34,List.length_append,List.length_take,List.length_map,List.length_singleton]
  omega
 ·intro e he
  simp only [a56,a34,List.mem_append,List.mem_map,List.mem_singleton] at he
  rcases he with (he|⟨o,ho,rfl⟩)|rfl
  ·exact l3 e (List.mem_of_mem_take he)
  ·exact l5 o (List.mem_of_mem_take ho)
  ·exact ⟨by simp [b0h,a1E],by simp [b0h,a1E]⟩
open Go
theorem b4m {o:OpV} (h:a0M o=true) (hk:o.kind=1):a1H o.text<=12/\a1v o.after=true/\a3e o=true/\o.of_=0/\o.num=0/\o.gen=0:=by
 simp only [a0M,Bool.and_eq_true,hk,if_true,a2E,decide_eq_true_eq] at h
 obtain ⟨_,⟨⟨⟨⟨⟨⟨⟨⟨⟨e1,_⟩,_⟩,_⟩,_⟩,e6⟩,e2⟩,e3⟩,e4⟩,e5⟩⟩:=h
 exact ⟨e6,e1,e2,e3,e4,e5⟩
theorem a3b {o:OpV} (h:a0M o=true) (hk:o.kind≠1):o.kind=2/\o.after=⟨0,0,0⟩/\o.text=[]/\o.gone=[]:=by
 simp only [a0M,Bool.and_eq_true,if_neg hk,a01,decide_eq_true_eq] at h
 obtain ⟨_,hk2,⟨⟨_,e2⟩,e3⟩,e4⟩:=h
 exact ⟨hk2,e2,e3,e4⟩
theorem a73 {o:OpV} (h:a0M o=true):1<=o.site/\o.site<=8/\1<=o.seq/\o.seq<=268435456:=by
 simp only [a0M,Bool.and_eq_true] at h
 exact a4I h.1
theorem a74 {o:OpV}:∀{l:List a0s} {p:Option a0s},a1J o p l=true->∀e∈l,a1v e=true
 |[],_,_,e,he=>by simp at he
 |x::l,p,h,e,he=>by
  obtain ⟨k1,k2⟩:=a4l h
  rcases List.mem_cons.1 he with rfl|he
  ·exact k1
  ·exact a74 k2 e he
theorem b8B {α:Type} {p:List α->Prop} (h0:p []) (h1:∀l a,p l->p (l++[a])) (l:List α):p l:=by
 have:∀r:List α,p r.reverse:=fun r=>by
  induction r with
  |nil=>exact h0
  |cons a r ih=>rw [List.reverse_cons];exact h1 _ _ ih
 have:=this l.reverse
 rwa [List.reverse_reverse] at this
theorem b6z {s:List UInt8} (h:(a2x s).2=true):a0N (a2x s).1=true:=by
 unfold a2x at h ⊢
 split at h
 ·cases h
 ·rename_i c1
  rw [if_neg c1]
  split at h
  ·rename_i c2
   rw [if_pos c2]
   simp only [Bool.and_eq_true] at h
   exact h.2
  ·rename_i c2
   rw [if_neg c2]
   simp only [Bool.and_eq_true] at h
   exact h.2
open Go
theorem b8C:∀(k j m acc q:Nat) (r:List UInt8),q<128^(k+1)->k<=j->acc+q*m<=268435456->(1<m->1<=q)->1<=m->a4s (k+1) m acc (a0E j q++r)=some (acc+q*m,r):=by
 have one:∀(k m acc q:Nat) (r:List UInt8),q<128->acc+q*m<=268435456->(1<m->1<=q)->a4s (k+1) m acc (UInt8.ofNat q::r)=some (acc+q*m,r):=fun k m acc q r h1 h2 h3=>by
  have e:(UInt8.ofNat q).toNat=q:=by simp;omega
  have e2:q%128=q:=Nat.mod_eq_of_lt h1
  rw [a4s,e,if_neg (by omega),e2,if_neg (by omega)]
 intro k
 induction k with
 |zero=>
  intro j m acc q r h1 _ h2 h3 h4
  have hq:q<128:=by simpa using h1
  have:a0E j q=[UInt8.ofNat q]:=by cases j<;>simp [a0E,hq]
  rw [this]
  exact one 0 m acc q r hq h2 h3
 |succ k ih=>
  intro j m acc q r h1 hj h2 h3 h4
  by_cases hq:q<128
  ·have:a0E j q=[UInt8.ofNat q]:=by cases j<;>simp [a0E,hq]
   rw [this]
   exact one _ m acc q r hq h2 h3
  ·obtain ⟨j,rfl⟩:∃i,j=i+1:=⟨j-1,by omega⟩
   have e:(UInt8.ofNat (q%128+128)).toNat=q%128+128:=by simp;omega
   have e2:(q%128+128)%128=q%128:=by omega
   have hd:q=128*(q/128)+q%128:=by omega
   have hm:q*m=(q/128)*(m*128)+(q%128)*m:=by
    conv=>lhs;rw [hd,Nat.add_mul]
    rw [Nat.mul_comm m 128,<-Nat.mul_assoc,Nat.mul_comm (q/128) 128]
   rw [a0E,if_neg hq,List.cons_append,a4s,e,if_pos (by omega),e2,ih j (m*128) (acc+q%128*m) (q/128) r (by rw [Nat.pow_succ] at h1;omega) (by omega) (by omega) (fun _=>by omega) (by omega)]
   congr 2
   omega
theorem a3B {n:Nat} (hn:n<=268435456) (r:List UInt8):takeN (a0g n++r)=some (n,r):=by
 have:=b8C 4 9 1 0 n r (by simp;omega) (by omega) (by omega) (fun h=>by omega) (by omega)
 simpa [takeN,a0g] using this
theorem a1G {n:Int} (h0:0<=n) (hn:n<=268435456) (r:List UInt8) (b:Bool):rdNum ⟨a0g n.toNat++r,b⟩=(n,⟨r,b⟩):=by
 simp [rdNum,a0S,a3B (show n.toNat<=268435456 by omega)]
 omega
theorem b6A {t:List UInt8} (hn:t.length<=268435456) (r:List UInt8) (b:Bool):a1a ⟨a0g t.length++(t++r),b⟩=(t,⟨r,b⟩):=by
 simp [a1a,a0G,a3B hn]
structure okB (e:a0s):Prop where
 a:0<=e.site/\e.site<=268435456
 b:0<=e.seq/\e.seq<=268435456
 c:0<=e.i/\e.i<=268435456
theorem b0o {e:a0s} (h:a1v e=true):okB e:=by
 simp only [a1v,Bool.or_eq_true,Bool.and_eq_true,decide_eq_true_eq] at h
 rcases h with rfl|⟨⟨h1,h2⟩,h3⟩
 ·exact ⟨by simp,by simp,by simp⟩
 ·have:=a4I h1
  exact ⟨by omega,by omega,by omega⟩
theorem b0p {e:a0s} (h:okB e) (r:List UInt8) (b:Bool):a1b ⟨a09 e++r,b⟩=(e,⟨r,b⟩):=by
 have:a09 e++r=a0g e.site.toNat++(a0g e.seq.toNat++(a0g e.i.toNat++r)):=by simp [a09,a1D]
 rw [this]
 simp only [a1b,a1G h.a.1 h.a.2,a1G h.b.1 h.b.2,a1G h.c.1 h.c.2]
theorem b4n (l:List a0s):(∀e∈l,okB e)->∀(r:List UInt8) (b:Bool),a0z l.length ⟨l.flatMap a09++r,b⟩=(l,⟨r,b⟩):=by
 refine b8B (p:=fun l=>(∀e∈l,okB e)->∀(r:List UInt8) (b:Bool),a0z l.length ⟨l.flatMap a09++r,b⟩=(l,⟨r,b⟩)) ?_ ?_ l
 ·intro _ r b;rfl
 ·intro l e ih h r b
  have h1:=ih (fun x hx=>h x (List.mem_append_left _ hx)) (a09 e++r) b
  rw [List.length_append,List.length_singleton,a0z,List.flatMap_append,List.append_assoc]
  simp only [List.flatMap_cons,List.flatMap_nil,List.append_nil]
  rw [h1]
  simp only [b0p (h e (by simp))]
theorem c1j {o:OpV} (h:a3e o=true):(∀e∈o.gone,a1v e=true)/\o.gone.length<=200:=by
 simp only [a3e,Bool.and_eq_true,decide_eq_true_eq] at h
 exact ⟨a74 h.1,h.2⟩
theorem b29 {o:OpV} (h:a0M o=true) (hk:o.kind=2):1<=o.of_/\o.of_<=8/\1<=o.num/\o.num<=268435456/\0<=o.gen/\o.gen<=268435456:=by
 simp only [a0M,Bool.and_eq_true,if_neg (show ¬o.kind=1 by omega),a01,decide_eq_true_eq,Bool.not_eq_true',decide_eq_false_iff_not] at h
 obtain ⟨_,_,⟨⟨⟨⟨⟨e1,_⟩,e2⟩,e3⟩,_⟩,_⟩,_⟩:=h
 have:=a4I e1
 omega
theorem c1k {o:OpV} (h:a0M o=true) (ht:o.text.length<=268435456) (r:List UInt8):a6h ⟨a0U o++r,false⟩=(o,⟨r,false⟩):=by
 obtain ⟨n1,n2,n3,n4⟩:=a73 h
 by_cases hk:o.kind=2
 ·obtain ⟨_,t1,t2,t3⟩:=a3b h (by omega)
  obtain ⟨b1,b2,b3,b4,b5,b6⟩:=b29 h hk
  have:a0U o++r=a0g o.site.toNat++(a0g o.seq.toNat++(a0g o.kind.toNat++(a0g o.of_.toNat++(a0g o.num.toNat++(a0g o.gen.toNat++r))))):=by simp [a0U,hk,a3I,a1D]
  obtain ⟨a1,a2,a3,a4,a5,a6,a7,a8,a9⟩:=o
  simp only at *
  subst hk t1 t2 t3
  rw [this]
  simp only [a6h,a1G (show 0<=a1 by omega) (by omega),a1G (show 0<=a2 by omega) (by omega),a1G (show (0:Int)<=2 by omega) (by omega),a1G (show 0<=a7 by omega) (by omega),a1G (show 0<=a8 by omega) (by omega),a1G (show 0<=a9 by omega) (by omega),if_true,h]
  rfl
 ·have hk1:o.kind=1:=Classical.byContradiction fun hk1=>hk (a3b h hk1).1
  obtain ⟨e1,e2,e3,e4,e5,e6⟩:=b4m h hk1
  obtain ⟨g1,g2⟩:=c1j e3
  have:a0U o++r=a0g o.site.toNat++(a0g o.seq.toNat++(a0g o.kind.toNat++(a09 o.after++(a0g o.text.length++(o.text++(a0g (o.gone.length:Int).toNat++(o.gone.flatMap a09++r))))))):=by simp [a0U,hk,a3I,b4z,a1D]
  obtain ⟨a1,a2,a3,a4,a5,a6,a7,a8,a9⟩:=o
  simp only at *
  subst hk1 e4 e5 e6
  rw [this]
  have hg:min (a6.length:Int).toNat 200=a6.length:=by omega
  simp only [a6h,a1G (show 0<=a1 by omega) (by omega),a1G (show 0<=a2 by omega) (by omega),a1G (show (0:Int)<=1 by omega) (by omega),b0p (b0o e2),b6A ht,a1G (show 0<=(a6.length:Int) by omega) (show (a6.length:Int)<=268435456 by omega),hg,b4n a6 fun e he=>b0o (g1 e he),h]
  rw [if_neg (by decide)]
  simp
  omega
theorem a8a {e:a0i} (hj:e.join=false):e.op.kind=1->e.op.text.length<=(a0A e).length:=fun hk=>by
 rw [a0A,if_neg (by simp [hj]),a0U,if_neg (by omega)]
 simp [b4z]
 omega
theorem b8D {e:a0i} (h:a0N e=true) (hl:(a0A e).length<=700):a2x (a0A e)=(e,true):=by
 cases hj:e.join
 ·have h':=h
  rw [a0N,if_neg (by simp [hj])] at h'
  simp only [Bool.and_eq_true,decide_eq_true_eq] at h'
  obtain ⟨hn,hm⟩:=h'
  have ht:e.op.text.length<=268435456:=by
   by_cases hk:e.op.kind=1
   ·have:=a8a hj hk;omega
   ·rw [(a3b hm hk).2.2.1];simp
  have hr:=c1k hm ht []
  rw [List.append_nil] at hr
  have ht1:a0S (a0A e)=(0,a0U e.op,0):=by
   rw [a0A,if_neg (by simp [hj]),a0S,a3B (by omega)]
  have he:(⟨false,0,e.op⟩:a0i)=e:=by obtain ⟨x,y,z⟩:=e;simp only at hj hn;subst hj hn;rfl
  have ho:a0O (a0U e.op)=(e.op,[],0):=by
   rw [a0O,hr];rfl
  rw [a2x,ht1]
  simp only
  rw [if_neg (by omega),if_neg (by omega),ho]
  simp only [he,h]
  rfl
 ·have h':=h
  rw [a0N,if_pos hj,a8S] at h'
  simp only [Bool.and_eq_true,decide_eq_true_eq] at h'
  obtain ⟨⟨h1,h2⟩,h3⟩:=h'
  have ht1:a0S (a0A e)=(1,a0g e.a13.toNat,0):=by
   rw [a0A,if_pos hj,a0S,a3B (by omega)]
  have ht2:a0S (a0g e.a13.toNat)=(e.a13.toNat,[],0):=by
   have:=a3B (show e.a13.toNat<=268435456 by omega) []
   rw [List.append_nil] at this
   rw [a0S,this]
  have he:(⟨true,(e.a13.toNat:Int),a1E⟩:a0i)=e:=by
   obtain ⟨x,y,z⟩:=e;simp only at hj h1 h3;subst hj h3
   rw [Int.toNat_of_nonneg (by simp only;omega)]
  rw [a2x,ht1]
  simp only
  rw [if_neg (by omega),if_pos trivial,ht2]
  simp only [he,h]
  rfl
theorem a10 (h:Nat):(a08 h).length=4:=rfl
theorem b8E {t:List UInt8} (hl:t.length<=700) (r:List UInt8):a3H (a02 t++r)=some (t,r):=by
 have e:a02 t++r=a0g t.length++(a08 (ofN (a0g t.length++t))++(t++r)):=by rw [a02,if_neg (by omega)];simp
 generalize hc:a08 (ofN (a0g t.length++t))=c at e
 have hc4:c.length=4:=by rw [<-hc];rfl
 rw [e,a3H,a3B (by omega)]
 simp only
 have e1:(c++(t++r)).take 4=c:=by rw [List.take_left' hc4]
 have e2:(c++(t++r)).take (4+t.length)=c++t:=by rw [<-List.append_assoc];exact List.take_left' (by simp [hc4])
 have e3:(c++(t++r)).drop (4+t.length)=r:=by rw [<-List.append_assoc];exact List.drop_left' (by simp [hc4])
 have e4:(c++t).drop 4=t:=List.drop_left' hc4
 have e5:(a0g t.length++(c++(t++r))).take ((a0g t.length++(c++(t++r))).length-(c++(t++r)).length)=a0g t.length:=by
  apply List.take_left'
  simp
 rw [if_neg (by simp [hc4];omega),e1,e2,e3,e4,e5,hc,if_pos rfl]
theorem b6B {e:a0i} (h:a0N e=true) (hf:(a0h e).2=0) (z:List UInt8):a1d ((a0h e).1++z)=(e,(a0h e).1.length/32,true):=by
 have hl:(a0A e).length<=700:=by
  unfold a0h at hf
  split at hf
  ·cases hf
  ·omega
 have hfr:(a0h e).1=a02 (a0A e)++List.replicate (b1M (a02 (a0A e)).length) 0:=by
  rw [a0h,if_neg (by omega)];rfl
 have hs:a3H ((a0h e).1++z)=some (a0A e,List.replicate (b1M (a02 (a0A e)).length) 0++z):=by
  rw [hfr,List.append_assoc,b8E hl]
 unfold a1d
 rw [hs]
 simp only [b8D h hl,if_true]
 have:b33 ((a0h e).1++z) (a0h e).1=true:=by
  show List.isPrefixOf _ _=true
  rw [List.isPrefixOf_iff_prefix]
  exact List.prefix_append _ _
 rw [this]
def zr:Nat->List UInt8->Option Nat
 |c,[]=>some c
 |c,b::s=>if b=0 then (if 4<=c then none else zr (c+1) s) else zr 0 s
theorem a8b:∀(s t:List UInt8) (c:Nat),zr c (s++t)=(zr c s).bind fun d=>zr d t
 |[],t,c=>rfl
 |b::s,t,c=>by
  rw [List.cons_append,zr,zr]
  split
  ·split
   ·rfl
   ·exact a8b s t _
  ·exact a8b s t _
theorem c1l:∀(s:List UInt8) (c:Nat),s≠[]->(∀b∈s,b≠0)->zr c s=some 0
 |[],c,h,_=>(h rfl).elim
 |[b],c,_,h=>by rw [zr,if_neg (h b (by simp)),zr]
 |b::b2::s,c,_,h=>by rw [zr,if_neg (h b (by simp))];exact c1l (b2::s) 0 (by simp) fun x hx=>h x (List.mem_cons_of_mem _ hx)
theorem b0q:∀(k n:Nat),1<=n->n<128^(k+1)->a0E k n≠[]/\∀b∈a0E k n,b≠0
 |0,n,h1,h2=>by
  refine ⟨by simp [a0E],fun b hb e=>?_⟩
  simp only [a0E,List.mem_singleton] at hb
  subst hb
  have:=congrArg UInt8.toNat e
  simp at this h2
  omega
 |k+1,n,h1,h2=>by
  rw [a0E]
  split
  ·refine ⟨by simp,fun b hb e=>?_⟩
   rw [List.mem_singleton] at hb
   subst hb
   have:=congrArg UInt8.toNat e
   simp at this
   omega
  ·refine ⟨by simp,fun b hb e=>?_⟩
   rcases List.mem_cons.1 hb with rfl|hb
   ·have:=congrArg UInt8.toNat e
    simp at this
    omega
   ·exact (b0q k (n/128) (by omega) (by rw [Nat.pow_succ] at h2;omega)).2 b hb e
theorem a2u {n:Int} (h1:1<=n) (h2:n<=268435456) (c:Nat) (r:List UInt8):zr c (a0g n.toNat++r)=zr 0 r:=by
 obtain ⟨e1,e2⟩:=b0q 9 n.toNat (by omega) (by simp;omega)
 rw [a8b,show a0g n.toNat=a0E 9 n.toNat from rfl,c1l _ c e1 e2]
 rfl
theorem b3a:a0g 0=[0]:=by decide +kernel
theorem a2y {c:Nat} (h:c<4) (r:List UInt8):zr c (a0g (0:Int).toNat++r)=zr (c+1) r:=by
 rw [show (0:Int).toNat=0 from rfl,b3a,List.cons_append,zr,if_pos rfl,if_neg (by omega)]
 rfl
theorem b6C:∀(n c:Nat) (r:List UInt8),c<=4->5<=c+n->zr c (List.replicate n 0++r)=none
 |0,c,r,h1,h2=>by omega
 |n+1,c,r,h1,h2=>by
  rw [List.replicate_succ,List.cons_append,zr,if_pos rfl]
  split
  ·rfl
  ·exact b6C n (c+1) r (by omega) (by omega)
theorem b8F:∀(s:List UInt8) (c d:Nat),c<=4->zr c s=some d->d<=4
 |[],c,d,h,e=>by simp only [zr,Option.some.injEq] at e;omega
 |b::s,c,d,h,e=>by
  rw [zr] at e
  split at e
  ·split at e
   ·cases e
   ·exact b8F s _ d (by omega) e
  ·exact b8F s 0 d (by omega) e
theorem c47 (s:ByteArray) (i:Nat) (hi:i<s.size) (h1:(Utf8.decode s i).1≠0) (h2:(Utf8.decode s i).1≠65533):1<=(Utf8.decode s i).2/\∀j,j<(Utf8.decode s i).2->(s.get! (i+j)).toNat≠0:=by
 unfold Utf8.decode at h1 h2 ⊢
 simp only [Nat.add_zero,Bool.and_eq_true,decide_eq_true_eq,beq_iff_eq,ge_iff_le,Utf8.runeError] at h1 h2 ⊢
 split at h1
 ·rename_i c
  rw [if_pos c] at h2 ⊢
  refine ⟨Nat.le_refl 1,fun j hj=>?_⟩
  obtain rfl:j=0:=by simp only at hj;omega
  simpa using h1
 rename_i c0
 rw [if_neg c0] at h2 ⊢
 split at h1
 ·rename_i c
  rw [if_pos c] at h2 ⊢
  split at h1
  ·rename_i c2
   rw [if_pos c2]
   refine ⟨by simp,fun j hj=>?_⟩
   simp only at hj
   have:j=0\/j=1:=by omega
   rcases this with rfl|rfl
   ·simp only [Nat.add_zero];omega
   ·omega
  ·rename_i c2
   rw [if_neg c2] at h2
   exact (h2 rfl).elim
 rename_i c1
 rw [if_neg c1] at h2 ⊢
 split at h1
 ·rename_i c
  rw [if_pos c] at h2 ⊢
  split at h1
  ·rename_i c2
   rw [if_pos c2]
   refine ⟨by simp,fun j hj=>?_⟩
   simp only at hj
   have:j=0\/j=1\/j=2:=by omega
   rcases this with rfl|rfl|rfl
   ·simp only [Nat.add_zero];omega
   ·omega
   ·omega
  ·rename_i c2
   rw [if_neg c2] at h2
   exact (h2 rfl).elim
 rename_i c3
 rw [if_neg c3] at h2 ⊢
 split at h1
 ·rename_i c
  rw [if_pos c] at h2 ⊢
  split at h1
  ·rename_i c2
   rw [if_pos c2]
   refine ⟨by simp,fun j hj=>?_⟩
   simp only at hj
   have:j=0\/j=1\/j=2\/j=3:=by omega
   rcases this with rfl|rfl|rfl|rfl
   ·simp only [Nat.add_zero];omega
   ·omega
   ·omega
   ·omega
  ·rename_i c2
   rw [if_neg c2] at h2
   exact (h2 rfl).elim
 ·rename_i c
  rw [if_neg c] at h2
  exact (h2 rfl).elim
theorem b9y (s:ByteArray):∀(f pos:Nat),s.size<=pos+f->Lib.idxFuncFrom (fun r=>!a1m (r:Int)) true s f pos=-1->∀j,pos<=j->j<s.size->(s.get! j).toNat≠0
 |0,pos,h,_,j,h1,h2=>by omega
 |f+1,pos,h,e,j,h1,h2=>by
  rw [Lib.idxFuncFrom,if_pos (by omega)] at e
  split at e
  ·omega
  ·rename_i c
   have hr:a1m ((Utf8.decode s pos).1:Int)=true:=by simpa using c
   have r0:(Utf8.decode s pos).1≠0:=fun e0=>by rw [e0] at hr;exact absurd hr (by decide)
   have r1:(Utf8.decode s pos).1≠65533:=fun e0=>by rw [e0] at hr;exact absurd hr (by decide)
   obtain ⟨w1,w2⟩:=c47 s pos (by omega) r0 r1
   by_cases hj:j<pos+(Utf8.decode s pos).2
   ·have:=w2 (j-pos) (by omega)
    rwa [show pos+(j-pos)=j by omega] at this
   ·exact b9y s f _ (by omega) e j (by omega) h2
theorem b8G {s:List UInt8} (h:a5c s=true):∀b∈s,b≠0:=by
 intro b hb e
 subst e
 obtain ⟨j,hj,hbj⟩:=List.mem_iff_getElem.1 hb
 simp only [a5c,Bool.not_eq_true',decide_eq_false_iff_not] at h
 rcases Lib.idxFunc_range (fun r=>!a1m (r:Int)) true ⟨s.toArray⟩ with h1|h1
 ·have:=b9y ⟨s.toArray⟩ _ 0 (by simp) h1 j (Nat.zero_le _) (by simpa [ByteArray.size] using hj)
  apply this
  have e2:(⟨s.toArray⟩:ByteArray).get! j=s[j]:=by
   show (⟨s.toArray⟩:ByteArray).data[j]! = _
   simp [hj]
  rw [e2,hbj];rfl
 ·exact (h h1.1).elim
open Go
theorem b8H {o:OpV} {p:Option a0s} {x:a0s} {l:List a0s} (h:a1J o p (x::l)=true):x≠⟨0,0,0⟩:=by
 have key:∀(B:Bool) (X:Bool),(if decide (x=⟨0,0,0⟩)||!a1v x||ownB o x||B then false else X)=true->x≠⟨0,0,0⟩:=by
  intro B X h e
  rw [decide_eq_true e] at h
  simp at h
 cases p with
 |none=>exact key _ _ h
 |some q=>exact key _ _ h
theorem b3b {o:OpV}:∀{l:List a0s} {p:Option a0s},a1J o p l=true->∀e∈l,nameB e.site e.seq=true/\0<=e.i/\e.i<12
 |[],_,_,e,he=>by simp at he
 |x::l,p,h,e,he=>by
  rcases List.mem_cons.1 he with rfl|he
  ·have hb:=(a4l h).1
   simp only [a1v,Bool.or_eq_true,Bool.and_eq_true,decide_eq_true_eq] at hb
   rcases hb with hb|hb
   ·exact (b8H h hb).elim
   ·exact ⟨hb.1.1,hb.1.2,hb.2⟩
  ·exact b3b (a4l h).2 e he
theorem b6D {e:a0s} (h:nameB e.site e.seq=true/\0<=e.i/\e.i<12) (c:Nat) (r:List UInt8):∃d,d<=1/\zr c (a09 e++r)=zr d r:=by
 have hn:=a4I h.1
 have e1:a09 e++r=a0g e.site.toNat++(a0g e.seq.toNat++(a0g e.i.toNat++r)):=by simp [a09,a1D]
 rw [e1,a2u (by omega) (by omega),a2u (by omega) (by omega)]
 by_cases hi:e.i=0
 ·rw [hi,a2y (by omega)];exact ⟨1,by omega,rfl⟩
 ·rw [a2u (by omega) (by omega)];exact ⟨0,by omega,rfl⟩
theorem a6j:∀(l:List a0s) (c:Nat),c<=1->(∀e∈l,nameB e.site e.seq=true/\0<=e.i/\e.i<12)->∃d,d<=1/\zr c (l.flatMap a09)=some d
 |[],c,hc,_=>⟨c,hc,rfl⟩
 |e::l,c,hc,h=>by
  obtain ⟨d,hd,e1⟩:=b6D (h e (by simp)) c (l.flatMap a09)
  obtain ⟨d2,hd2,e2⟩:=a6j l d hd fun x hx=>h x (List.mem_cons_of_mem _ hx)
  exact ⟨d2,hd2,by rw [List.flatMap_cons,e1,e2]⟩
theorem b3c {e:a0i} (h:a0N e=true) (hl:(a0A e).length<=700):∃d,d<=1/\zr 0 (a0A e)=some d:=by
 cases hj:e.join
 ·have h':=h
  rw [a0N,if_neg (by simp [hj])] at h'
  simp only [Bool.and_eq_true,decide_eq_true_eq] at h'
  obtain ⟨hn,hm⟩:=h'
  obtain ⟨n1,n2,n3,n4⟩:=a73 hm
  by_cases hk:e.op.kind=2
  ·obtain ⟨b1,b2,b3,b4,b5,b6⟩:=b29 hm hk
   have e1:a0A e=a0g (0:Int).toNat++(a0g e.op.site.toNat++(a0g e.op.seq.toNat++(a0g (2:Int).toNat++(a0g e.op.of_.toNat++(a0g e.op.num.toNat++(a0g e.op.gen.toNat++[])))))):=by simp [a0A,hj,a0U,hk,a3I,a1D]
   rw [e1,a2y (by omega),a2u (by omega) (by omega),a2u (by omega) (by omega),a2u (by omega) (by omega),a2u (by omega) (by omega),a2u (by omega) (by omega)]
   by_cases hg:e.op.gen=0
   ·rw [hg,a2y (by omega)];exact ⟨1,by omega,rfl⟩
   ·rw [a2u (by omega) (by omega)];exact ⟨0,by omega,rfl⟩
  ·have hk1:e.op.kind=1:=Classical.byContradiction fun hk1=>hk (a3b hm hk1).1
   have hm':=hm
   simp only [a0M,Bool.and_eq_true,hk1,if_true,a2E,decide_eq_true_eq,Bool.not_eq_true',Bool.and_eq_false_iff,decide_eq_false_iff_not] at hm'
   obtain ⟨_,⟨⟨⟨⟨⟨⟨⟨⟨⟨e1,_⟩,e3⟩,e4⟩,e5⟩,e6⟩,e7⟩,_⟩,_⟩,_⟩⟩:=hm'
   simp only [a3e,Bool.and_eq_true,decide_eq_true_eq] at e7
   have hg:=b3b e7.1
   have hs:a0A e=a0g (0:Int).toNat++(a0g e.op.site.toNat++(a0g e.op.seq.toNat++(a0g (1:Int).toNat++(a09 e.op.after++(a0g (e.op.text.length:Int).toNat++(e.op.text++(a0g (e.op.gone.length:Int).toNat++e.op.gone.flatMap a09))))))):=by simp [a0A,hj,a0U,hk1,a3I,b4z,a1D]
   rw [hs,a2y (by omega),a2u (by omega) (by omega),a2u (by omega) (by omega),a2u (by omega) (by omega)]
   by_cases ht:e.op.text=[]
   ·have ha:e.op.after=⟨0,0,0⟩:=Classical.byContradiction fun q=>by simp [ht,q] at e3
    have hgl:e.op.gone.length≠0:=fun q=>by simp [ht,q] at e4
    have ea:∀r,a09 (⟨0,0,0⟩:a0s)++r=a0g (0:Int).toNat++(a0g (0:Int).toNat++(a0g (0:Int).toNat++r)):=by intro r;simp [a09,a1D]
    rw [ha,ea,ht,a2y (by omega),a2y (by omega),a2y (by omega)]
    simp only [List.length_nil,List.nil_append]
    rw [show ((0:Nat):Int)=0 from rfl,a2y (by omega),a2u (by omega) (by omega)]
    exact a6j _ 0 (by omega) hg
   ·have ht0:0<e.op.text.length:=List.length_pos_iff.2 ht
    have hpt:=a8a hj hk1
    have ea:∀r,∃d,d<=3/\zr 0 (a09 e.op.after++r)=zr d r:=by
     intro r
     simp only [a1v,Bool.or_eq_true,Bool.and_eq_true,decide_eq_true_eq] at e1
     rcases e1 with e1|e1
     ·have ea:a09 (⟨0,0,0⟩:a0s)++r=a0g (0:Int).toNat++(a0g (0:Int).toNat++(a0g (0:Int).toNat++r)):=by simp [a09,a1D]
      rw [e1,ea,a2y (by omega),a2y (by omega),a2y (by omega)]
      exact ⟨3,by omega,rfl⟩
     ·obtain ⟨d,hd,e2⟩:=b6D ⟨e1.1.1,e1.1.2,e1.2⟩ 0 r
      exact ⟨d,by omega,e2⟩
    obtain ⟨d,_,e2⟩:=ea (a0g (e.op.text.length:Int).toNat++(e.op.text++(a0g (e.op.gone.length:Int).toNat++e.op.gone.flatMap a09)))
    rw [e2,a2u (by omega) (by omega),a8b,c1l _ _ ht (b8G e5),Option.bind_some]
    by_cases hg0:e.op.gone.length=0
    ·rw [hg0,show ((0:Nat):Int)=0 from rfl,a2y (by omega)]
     exact a6j _ 1 (by omega) hg
    ·rw [a2u (by omega) (by omega)]
     exact a6j _ 0 (by omega) hg
 ·have h':=h
  rw [a0N,if_pos hj,a8S] at h'
  simp only [Bool.and_eq_true,decide_eq_true_eq] at h'
  obtain ⟨⟨h1,h2⟩,h3⟩:=h'
  have e1:a0A e=a0g (1:Int).toNat++(a0g e.a13.toNat++[]):=by simp [a0A,hj]
  rw [e1,a2u (by omega) (by omega),a2u (by omega) (by omega)]
  exact ⟨0,by omega,rfl⟩
theorem a5D {e:a0i}:2<=(a0A e).length:=by
 have one:∀n,1<=(a0g n).length:=fun n=>by
  show 1<=(a0E 9 n).length
  rw [a0E];split<;>simp
 unfold a0A
 split
 ·have:=one 1;have:=one e.a13.toNat
  simp only [List.length_append];omega
 ·have:=one 0
  have:1<=(a0U e.op).length:=by
   have:=one e.op.site.toNat
   unfold a0U
   split<;>simp [a3I,a1D]<;>omega
  simp only [List.length_append];omega
def d1X (s s':List UInt8):Prop:=s'.length=s.length/\∀i,s'[i]?=s[i]?\/∀j,j<s.length->j/16=i/16->s'[j]?=some 0
theorem a11 {n:Nat} (h:n<=700):a0g n=if n<128 then [UInt8.ofNat n] else [UInt8.ofNat (n%128+128),UInt8.ofNat (n/128)]:=by
 show a0E 9 n=_
 rw [a0E]
 split
 ·rfl
 ·rw [a0E,if_pos (by omega)]
theorem d1Y (B C D:List UInt8) (i:Nat) (h:i<C.length):(B++(C++D))[B.length+i]?=C[i]?:=by
 rw [List.getElem?_append_right (by omega),show B.length+i-B.length=i by omega,List.getElem?_append_left h]
theorem get4 (B C D E:List UInt8) (i:Nat) (h:i<D.length):(B++(C++(D++E)))[B.length+C.length+i]?=D[i]?:=by
 rw [List.getElem?_append_right (by omega),List.getElem?_append_right (by omega),show B.length+C.length+i-B.length-C.length=i by omega,List.getElem?_append_left h]
theorem b4o {e:a0i} (h:a0N e=true) (hf:(a0h e).2=0) {Z s':List UInt8} (hlo:d1X ((a0h e).1++Z) s') (hZ:∀i,(a0h e).1.length<=i->s'[i]?=((a0h e).1++Z)[i]?) (hr:(a1d s').2.2=true):s'=(a0h e).1++Z:=by
 have hl:(a0A e).length<=700:=by
  unfold a0h at hf
  split at hf
  ·cases hf
  ·omega
 have hfr:(a0h e).1=a02 (a0A e)++List.replicate (b1M (a02 (a0A e)).length) 0:=by
  rw [a0h,if_neg (by omega)];rfl
 rw [hfr,List.append_assoc] at hlo ⊢
 rw [hfr] at hZ
 generalize b1M (a02 (a0A e)).length=pp at hlo hZ ⊢
 have hZ':∀i,(a02 (a0A e)).length+pp<=i->s'[i]?=(a02 (a0A e)++(List.replicate pp 0++Z))[i]?:=fun i hi=>by
  rw [<-List.append_assoc]
  exact hZ i (by simp;omega)
 clear hZ
 generalize hzz:List.replicate pp 0++Z=zz at hlo hZ' ⊢
 have d7j:pp<=zz.length:=by rw [<-hzz];simp
 have hp2:=a5D (e:=e)
 obtain ⟨dz,hdz,hz⟩:=b3c h hl
 unfold a1d at hr
 cases hq:a3H s' with
 |none=>simp [hq] at hr
 |some q=>
  obtain ⟨t',r'⟩:=q
  obtain ⟨hsp,ht7⟩:=a86 hq
  simp only [hq] at hr
  split at hr
  rotate_left
  ·cases hr
  rename_i hre
  have hpt:=b2Z hre
  have hmay:=b6z hre
  have ht2:2<=t'.length:=by rw [<-hpt];exact a5D
  obtain ⟨dz',d7k,hz'⟩:=b3c hmay (by rw [hpt];exact ht7)
  rw [hpt] at hz'
  generalize a0A e=t at *
  have es:a02 t++zz=a0g t.length++(a08 (ofN (a0g t.length++t))++(t++zz)):=by rw [a02,if_neg (by omega)];simp
  have es':s'=a0g t'.length++(a08 (ofN (a0g t'.length++t'))++(t'++r')):=by rw [hsp,a02,if_neg (by omega)];simp
  generalize hS:a02 t++zz=s at *
  obtain ⟨hlen,b4v⟩:=hlo
  have hb1:(a0g t.length).length<=2/\1<=(a0g t.length).length:=by rw [a11 hl];split<;>simp
  have hb1':(a0g t'.length).length<=2/\1<=(a0g t'.length).length:=by rw [a11 ht7];split<;>simp
  have d6p:s.length=(a0g t.length).length+(4+(t.length+zz.length)):=by rw [es];simp [a10]
  have h00:s'[0]?≠some 0:=by
   rw [es',a11 ht7]
   intro hx
   split at hx
   ·simp only [List.cons_append,List.getElem?_cons_zero,Option.some.injEq] at hx
    have:=congrArg UInt8.toNat hx
    simp at this
    omega
   ·simp only [List.cons_append,List.getElem?_cons_zero,Option.some.injEq] at hx
    have:=congrArg UInt8.toNat hx
    simp at this
    omega
  have hfirst:∀i,i<16->s'[i]?=s[i]?:=fun i hi=>by
   rcases b4v i with hx|hx
   ·exact hx
   ·exact (h00 (hx 0 (by omega) (by omega))).elim
  have hn:t'.length=t.length:=by
   have g0:=hfirst 0 (by omega)
   have g1:=hfirst 1 (by omega)
   rw [es,es',a11 hl,a11 ht7] at g0 g1
   by_cases c1:t.length<128<;>by_cases c2:t'.length<128
   ·simp only [if_pos c1,if_pos c2,List.cons_append,List.getElem?_cons_zero,Option.some.injEq] at g0
    have:=congrArg UInt8.toNat g0
    simp at this;omega
   ·simp only [if_pos c1,if_neg c2,List.cons_append,List.getElem?_cons_zero,Option.some.injEq] at g0
    have:=congrArg UInt8.toNat g0
    simp at this;omega
   ·simp only [if_neg c1,if_pos c2,List.cons_append,List.getElem?_cons_zero,Option.some.injEq] at g0
    have:=congrArg UInt8.toNat g0
    simp at this;omega
   ·simp only [if_neg c1,if_neg c2,List.cons_append,List.getElem?_cons_zero,List.getElem?_cons_succ,Option.some.injEq] at g0 g1
    have a0:=congrArg UInt8.toNat g0
    have a1:=congrArg UInt8.toNat g1
    simp at a0 a1;omega
  generalize hB:a0g t.length=B at *
  rw [hn,hB] at es' hb1'
  have hck:a08 (ofN (B++t'))=a08 (ofN (B++t)):=by
   apply List.ext_getElem?
   intro i
   by_cases hi:i<4
   ·have:=hfirst (B.length+i) (by omega)
    have g1:=d1Y B (a08 (ofN (B++t))) (t++zz) i hi
    have g2:=d1Y B (a08 (ofN (B++t'))) (t'++r') i hi
    rw [<-es] at g1
    rw [<-es'] at g2
    rw [<-g1,<-g2]
    exact this
   ·rw [List.getElem?_eq_none (by rw [a10];omega),List.getElem?_eq_none (by rw [a10];omega)]
  have hof:ofN (B++t')=ofN (B++t):=by
   have l1:=a94 (B++t')
   have l2:=a94 (B++t)
   generalize ofN (B++t')=x at *
   generalize ofN (B++t)=y at *
   simp only [a08,List.cons.injEq,and_true] at hck
   obtain ⟨k1,k2,k3,k4⟩:=hck
   have a1:=congrArg UInt8.toNat k1
   have a2:=congrArg UInt8.toNat k2
   have a3:=congrArg UInt8.toNat k3
   have a4:=congrArg UInt8.toNat k4
   simp at a1 a2 a3 a4
   omega
  have gt:∀i,i<t.length->s[B.length+4+i]?=t[i]?:=fun i hi=>by
   have:=get4 B (a08 (ofN (B++t))) t (zz) i hi
   rwa [<-es] at this
  have gt':∀i,i<t.length->s'[B.length+4+i]?=t'[i]?:=fun i hi=>by
   have:=get4 B (a08 (ofN (B++t'))) t' r' i (by omega)
   rwa [<-es'] at this
  have b9H:∀i,i<t.length->t'[i]?≠t[i]?->t.length=i+1/\15<B.length+4+i/\t'[i]?=some 0:=by
   intro i hi hne
   have hz0:∀j,j<s.length->j/16=(B.length+4+i)/16->s'[j]?=some 0:=by
    rcases b4v (B.length+4+i) with hx|hx
    ·exact (hne (by rw [<-gt i hi,<-gt' i hi];exact hx)).elim
    ·exact hx
   have h16:15<B.length+4+i:=by
    refine Classical.byContradiction fun q=>hne ?_
    rw [<-gt i hi,<-gt' i hi]
    exact hfirst _ (by omega)
   obtain ⟨c,hc⟩:∃c,(B.length+4+i)/16=c:=⟨_,rfl⟩
   obtain ⟨a,ha⟩:∃a,B.length+4+a=16*c:=⟨16*c-(B.length+4),by omega⟩
   have hzt:∀j,a<=j->j<a+16->j<t.length->t'[j]?=some 0:=fun j h1 h2 h3=>by
    rw [<-gt' j h3]
    exact hz0 _ (by omega) (by omega)
   have hrep:∀m,m<=16->a+m<=t.length->t'=t'.take a++(List.replicate m 0++t'.drop (a+m)):=fun m hm hml=>by
    have:(t'.drop a).take m=List.replicate m 0:=by
     apply List.ext_getElem?
     intro j
     rw [List.getElem?_take]
     by_cases hj:j<m
     ·rw [if_pos hj,List.getElem?_drop,hzt _ (by omega) (by omega) (by omega),List.getElem?_replicate,if_pos hj]
     ·rw [if_neg hj,List.getElem?_replicate,if_neg hj]
    rw [<-this,<-List.drop_drop,List.take_append_drop,List.take_append_drop]
   by_cases hfull:a+5<=t.length
   ·exfalso
    have:=hrep 5 (by omega) hfull
    rw [this,a8b] at hz'
    cases h5:zr 0 (t'.take a) with
    |none=>rw [h5] at hz';cases hz'
    |some d=>
     rw [h5,Option.bind_some,b6C 5 d _ (b8F _ 0 d (by omega) h5) (by omega)] at hz'
     cases hz'
   ·
    have hend:=hrep (t.length-a) (by omega) (by omega)
    rw [show a+(t.length-a)=t.length by omega,<-hn,List.drop_length,List.append_nil,hn] at hend
    have hone:t.length-a=1:=by
     refine Classical.byContradiction fun q=>?_
     rw [hend,a8b] at hz'
     cases h5:zr 0 (t'.take a) with
     |none=>rw [h5] at hz';cases hz'
     |some d=>
      have hd4:=b8F _ 0 d (by omega) h5
      rw [h5,Option.bind_some] at hz'
      obtain ⟨m,hm⟩:∃m,t.length-a=m+2:=⟨t.length-a-2,by omega⟩
      have run:∀(m d:Nat),d<=4->∀x,zr d (List.replicate m 0)=some x->d+m<=x:=fun m=>by
       induction m with
       |zero=>intro d _ x hx;simp [zr] at hx;omega
       |succ m ih=>
        intro d hd x hx
        rw [List.replicate_succ,zr,if_pos rfl] at hx
        split at hx
        ·cases hx
        ·have:=ih (d+1) (by omega) x hx;omega
      have:=run _ d hd4 _ hz'
      omega
    exact ⟨by omega,h16,hzt i (by omega) (by omega) hi⟩
  have htt:t'=t:=by
   refine Classical.byContradiction fun hne=>?_
   have:∃i,t'[i]?≠t[i]?:=Classical.byContradiction fun q=>hne (List.ext_getElem? fun i=>Classical.byContradiction fun q2=>q ⟨i,q2⟩)
   obtain ⟨i,hi⟩:=this
   have hil:i<t.length:=by
    refine Classical.byContradiction fun q=>hi ?_
    rw [List.getElem?_eq_none (by omega),List.getElem?_eq_none (by omega)]
   obtain ⟨p1,_,p3⟩:=b9H i hil hi
   have hsame:t'.take i=t.take i:=by
    apply List.ext_getElem?
    intro j
    rw [List.getElem?_take,List.getElem?_take]
    by_cases hj:j<i
    ·rw [if_pos hj,if_pos hj]
     refine Classical.byContradiction fun q=>?_
     have:=(b9H j (by omega) q).1
     omega
    ·rw [if_neg hj,if_neg hj]
   have hti:t[i]?=some t[i]:=List.getElem?_eq_getElem hil
   have e1:t=t.take i++[t[i]]:=by
    have:t.take (i+1)=t:=by rw [<-p1];exact List.take_length
    conv=>lhs;rw [<-this]
    rw [List.take_add_one,hti];rfl
   have e2:t'=t.take i++[0]:=by
    have:t'.take (i+1)=t':=by rw [<-p1,<-hn];exact List.take_length
    conv=>lhs;rw [<-this]
    rw [List.take_add_one,p3,hsame];rfl
   have hnz:t[i]≠0:=fun q=>hi (by rw [p3,hti,q])
   rw [e1,e2,<-List.append_assoc,<-List.append_assoc] at hof
   have snoc:∀(l:List UInt8) (b:UInt8) (h:Nat),ofF h (l++[b])=((ofF h l)*263+b.toNat+7)%4294967291:=fun l b=>by
    induction l with
    |nil=>intro h;rfl
    |cons x l ih=>intro h;rw [List.cons_append,ofF,ih,ofF]
   simp only [ofN,snoc] at hof
   have hlt:=UInt8.toNat_lt t[i]
   have:t[i].toNat≠0:=fun q=>hnz (by apply UInt8.toNat_inj.1;rw [q];rfl)
   have z0:(0:UInt8).toNat=0:=rfl
   rw [z0] at hof
   omega
  subst htt
  apply List.ext_getElem?
  intro i
  by_cases hi:i<B.length+4+t'.length
  ·have e1:s=(B++(a08 (ofN (B++t'))++t'))++zz:=by rw [es];simp
   have e2:s'=(B++(a08 (ofN (B++t'))++t'))++r':=by rw [es'];simp
   have hlt:i<(B++(a08 (ofN (B++t'))++t')).length:=by simp [a10];omega
   rw [e1,e2,List.getElem?_append_left hlt,List.getElem?_append_left hlt]
  ·by_cases hi2:i<s.length
   ·rcases b4v i with hx|hx
    ·exact hx
    ·have hsl:=congrArg List.length hS
     rw [List.length_append] at hsl
     by_cases hp:(a02 t').length+pp<=i
     ·exact hZ' i hp
     ·rw [hx i hi2 rfl,es,List.getElem?_append_right (by omega),List.getElem?_append_right (by rw [a10];omega),List.getElem?_append_right (by rw [a10];omega),<-hzz,List.getElem?_append_left (by rw [a10,List.length_replicate];omega),List.getElem?_replicate,if_pos (by rw [a10];omega)]
   ·rw [List.getElem?_eq_none (by omega),List.getElem?_eq_none (by omega)]
open Go
def b8I (e:a0i):Prop:=a0N e=true/\(a0h e).2=0
def chunk (B:List UInt8) (i k:Nat):List (List UInt8):=(List.range k).map fun j=>a88 B (i+j)
theorem a4n (B:List UInt8) (i k:Nat):chunk B i (k+1)=a88 B i::chunk B (i+1) k:=by
 simp only [chunk,List.range_succ_eq_map,List.map_cons,List.map_map,Nat.add_zero]
 congr 1
 apply List.map_congr_left
 intro j _
 simp only [Function.comp,Nat.succ_eq_add_one]
 rw [show i+(j+1)=i+1+j by omega]
theorem b6E (B:List UInt8) (i k:Nat):(chunk B i k).length=k:=by simp [chunk]
theorem a8c {B:List UInt8}:∀(k i:Nat),32*(i+k)<=B.length->secs (chunk B i k)
 |0,i,_=>by simp [chunk,secs]
 |k+1,i,h=>by
  rw [a4n]
  intro x hx
  rcases List.mem_cons.1 hx with rfl|hx
  ·exact b27 (by omega)
  ·exact a8c k (i+1) (by omega) x hx
theorem a8d {B:List UInt8}:∀(k i:Nat),32*(i+k)=B.length->(chunk B i k).flatten=B.drop (32*i)
 |0,i,h=>by simp [chunk];omega
 |k+1,i,h=>by
  rw [a4n,List.flatten_cons,a8d k (i+1) (by omega),a88]
  rw [show 32*(i+1)=32*i+32 by omega,<-List.drop_drop,List.take_append_drop]
def szE (e:a0i):Nat:=(a0h e).1.length/32
def frS (e:a0i):List (List UInt8):=chunk (a0h e).1 0 (szE e)
theorem a63 (e:a0i):(frS e).length=szE e:=b6E _ _ _
theorem b0r {e:a0i} (h:(a0h e).2=0):(a0A e).length<=700/\(a0h e).1=b0c (a02 (a0A e)):=by
 unfold a0h at h ⊢
 split at h
 ·cases h
 ·rename_i c;rw [if_neg c];exact ⟨by omega,rfl⟩
theorem a65 {e:a0i} (h:(a0h e).2=0):1<=szE e/\szE e<=23/\32*szE e=(a0h e).1.length:=by
 obtain ⟨h1,h2,h3⟩:=a7W h
 obtain ⟨h4,h5⟩:=b0r h
 have:=a7r h4
 rw [<-h5] at this
 unfold szE
 omega
theorem b3d {e:a0i} (h:(a0h e).2=0):secs (frS e):=a8c _ _ (by have:=(a65 h).2.2;omega)
theorem b3e {e:a0i} (h:(a0h e).2=0):(frS e).flatten=(a0h e).1:=by
 rw [frS,a8d _ 0 (by have:=(a65 h).2.2;omega)];rfl
theorem b8J {e:a0i} (h:(a0h e).2=0):∃x l,frS e=x::l/\x≠blank:=by
 obtain ⟨h1,h2,h3⟩:=a65 h
 obtain ⟨h4,h5⟩:=b0r h
 obtain ⟨k,hk⟩:∃k,szE e=k+1:=⟨szE e-1,by omega⟩
 refine ⟨a88 (a0h e).1 0,chunk (a0h e).1 1 k,by rw [frS,hk,a4n],fun hb=>?_⟩
 have h0:(a88 (a0h e).1 0)[0]?=(a0h e).1[0]?:=by simp [a88,List.getElem?_take]
 rw [hb,h5,b0c,a02,if_neg (by omega),a11 h4] at h0
 have hp2:=a5D (e:=e)
 split at h0
 ·simp [blank] at h0
  have:=congrArg UInt8.toNat h0
  simp at this
  omega
 ·simp [blank] at h0
  have:=congrArg UInt8.toNat h0
  simp at this
  omega
def a0V (l:List a0i):List (List UInt8):=l.flatMap frS
theorem a2v (e:a0i) (l:List a0i):a0V (e::l)=frS e++a0V l:=by simp [a0V]
theorem a2n (l l':List a0i):a0V (l++l')=a0V l++a0V l':=by simp [a0V]
theorem a3p {l:List a0i} (h:∀e∈l,b8I e):secs (a0V l):=by
 intro x hx
 simp only [a0V,List.mem_flatMap] at hx
 obtain ⟨e,he,hx⟩:=hx
 exact b3d (h e he).2 x hx
theorem b8K (l:List a0i) (h:∀e∈l,b8I e):l.length<=(a0V l).length:=by
 induction l with
 |nil=>simp
 |cons e l ih=>
  rw [a2v,List.length_append,a63,List.length_cons]
  have:=(a65 (h e (by simp)).2).1
  have:=ih fun x hx=>h x (by simp [hx])
  omega
def stops (R:List (List UInt8)):Prop:=R=[]\/(a1d (R.take 23).flatten).2.2=false
theorem b4p {R:List (List UInt8)} (h:stops R) (k a:Nat):a4t k R a=([],a):=by
 cases k with
 |zero=>rfl
 |succ k=>
  rw [a4t]
  split
  ·rfl
  ·rename_i hne
   rw [if_neg (by simp [h.resolve_left hne])]
theorem b0s:∀(l:List a0i) (k a:Nat) (R:List (List UInt8)),(∀e∈l,b8I e)->secs R->stops R->l.length<=k->a4t k (a0V l++R) a=(l,a+(a0V l).length)
 |[],k,a,R,_,_,hs,_=>by rw [show a0V []=[] from rfl,List.nil_append,b4p hs];rfl
 |e::l,k,a,R,h,hR,hs,hk=>by
  obtain ⟨k,rfl⟩:∃j,k=j+1:=⟨k-1,by simp at hk;omega⟩
  have he:=h e (by simp)
  have hl:∀x∈l,b8I x:=fun x hx=>h x (by simp [hx])
  obtain ⟨z1,z2,z3⟩:=a65 he.2
  have hlen:=a63 e
  have hw:((a0V (e::l)++R).take 23).flatten=(a0h e).1++((a0V l++R).take (23-szE e)).flatten:=by
   rw [a2v,List.append_assoc,List.take_append,List.take_of_length_le (by omega),List.flatten_append,b3e he.2,hlen]
  have hd:(a0V (e::l)++R).drop (szE e)=a0V l++R:=by
   rw [a2v,List.append_assoc];exact List.drop_left' hlen
  have hne:a0V (e::l)++R≠[]:=by
   obtain ⟨x,t,hx,_⟩:=b8J he.2
   rw [a2v,hx];simp
  rw [a4t,if_neg hne,hw,b6B he.1 he.2]
  simp only [if_true]
  rw [show (a0h e).1.length/32=szE e from rfl,hd,b0s l k (a+szE e) R hl hR hs (by simpa using hk),a2v,List.length_append,hlen]
  simp only [Nat.add_assoc]
theorem a4P (m:Nat):stops (List.replicate m blank):=by
 cases m with
 |zero=>exact .inl rfl
 |succ m=>
  right
  have:∃z,((List.replicate (m+1) blank).take 23).flatten=0::z:=by
   rw [List.replicate_succ,List.take_succ_cons,List.flatten_cons]
   exact ⟨_,rfl⟩
  obtain ⟨z,hz⟩:=this
  rw [hz]
  have:takeN (0::z)=some (0,z):=by
   have:=a3B (n:=0) (by omega) z
   rwa [b3a] at this
  unfold a1d
  have h2:∀t r,a3H (0::z)=some (t,r)->t=[]:=fun t r ht=>by
   unfold a3H at ht
   rw [this] at ht
   simp only at ht
   split at ht
   ·cases ht
   ·split at ht
    ·cases ht;simp
    ·cases ht
  cases hq:a3H (0::z) with
  |none=>rfl
  |some q=>
   obtain ⟨t,r⟩:=q
   obtain rfl:=h2 t r hq
   have:(a2x []).2=false:=by decide +kernel
   simp only [this]
   rfl
def a57 (c:List UInt8) (k:Int):List UInt8:=if k=1 then c else if k=2 then c.take 16++blank.drop 16 else blank
def a1z (keep:List Int):Nat->List (List UInt8)->List (List UInt8)
 |_,[]=>[]
 |i,c::l=>a57 c (a2t keep i)::a1z keep (i+1) l
theorem a3q (keep:List Int):∀(l:List (List UInt8)) (i:Nat),(a1z keep i l).length=l.length
 |[],i=>rfl
 |c::l,i=>by rw [a1z,List.length_cons,a3q keep l,List.length_cons]
theorem b6F {c:List UInt8} (h:c.length=32) (k:Int):(a57 c k).length=32:=by
 unfold a57
 split
 ·exact h
 ·split
  ·simp [blank,h]
  ·simp [blank]
theorem a3r (keep:List Int):∀(l:List (List UInt8)) (i:Nat),secs l->secs (a1z keep i l)
 |[],i,_=>by simp [a1z,secs]
 |c::l,i,h=>by
  rw [a1z]
  intro x hx
  rcases List.mem_cons.1 hx with rfl|hx
  ·exact b6F (h c (by simp)) _
  ·exact a3r keep l (i+1) (fun y hy=>h y (by simp [hy])) x hx
theorem a68 {k i:Nat} (h:i<k):a2t (List.replicate k 1) i=1:=by
 simp [a2t,List.getD,h]
theorem a8e (n:Nat):∀(l:List (List UInt8)) (i:Nat),i+l.length<=n->a1z (List.replicate n 1) i l=l
 |[],i,_=>rfl
 |c::l,i,h=>by
  simp only [List.length_cons] at h
  rw [a1z,a68 (by omega),a8e n l (i+1) (by omega)]
  rfl
theorem a9b:∀(l:List (List UInt8)),secs l->∀i,l.flatten[i]?=(l[i/32]?).bind fun s=>s[i%32]?
 |[],_,i=>by simp
 |x::l,h,i=>by
  have hx:=h x (by simp)
  rw [List.flatten_cons]
  by_cases hi:i<32
  ·rw [List.getElem?_append_left (by omega),show i/32=0 by omega,show i%32=i by omega];rfl
  ·rw [List.getElem?_append_right (by omega),hx,a9b l (fun y hy=>h y (by simp [hy])),show i/32=(i-32)/32+1 by omega,show i%32=(i-32)%32 by omega];rfl
theorem b3f (keep:List Int):∀(l:List (List UInt8)) (i j:Nat),(a1z keep i l)[j]?=l[j]?.map fun c=>a57 c (a2t keep (i+j))
 |[],i,j=>by simp [a1z]
 |c::l,i,0=>by simp [a1z]
 |c::l,i,j+1=>by
  rw [a1z,List.getElem?_cons_succ,List.getElem?_cons_succ,b3f keep l (i+1) j,show i+1+j=i+(j+1) by omega]
theorem b4q (keep:List Int) (l:List (List UInt8)) (h:secs l) (n:Nat) (Z:List UInt8):d1X (l.flatten++Z) ((a1z keep n l).flatten++Z):=by
 have hs:=a3r keep l n h
 have hl1:l.flatten.length=32*l.length:=a5U h
 have hl2:(a1z keep n l).flatten.length=32*l.length:=by rw [a5U hs,a3q]
 have hbl:∀q,q<32->blank[q]?=some 0:=fun q hq=>by rw [blank,List.getElem?_replicate,if_pos hq]
 refine ⟨by simp [hl1,hl2],fun i=>?_⟩
 by_cases hi:i<32*l.length
 ·have g:∀j,j<32*l.length->((a1z keep n l).flatten++Z)[j]?=(l[j/32]?.map fun c=>a57 c (a2t keep (n+j/32))).bind fun s=>s[j%32]?:=fun j hj=>by
   rw [List.getElem?_append_left (by omega),a9b _ hs,b3f]
  have g0:∀j,j<32*l.length->(l.flatten++Z)[j]?=l[j/32]?.bind fun s=>s[j%32]?:=fun j hj=>by
   rw [List.getElem?_append_left (by omega),a9b _ h]
  have hc:l[i/32]?=some (l[i/32]'(by omega)):=List.getElem?_eq_getElem (by omega)
  have hcl:=h (l[i/32]'(by omega)) (List.getElem_mem _)
  rw [g i hi,g0 i hi,hc]
  simp only [Option.map_some,Option.bind_some]
  by_cases k1:a2t keep (n+i/32)=1
  ·left;rw [a57,if_pos k1]
  by_cases k2:a2t keep (n+i/32)=2
  ·by_cases h16:i%32<16
   ·left
    rw [a57,if_neg k1,if_pos k2,List.getElem?_append_left (by simp [hcl];omega),List.getElem?_take,if_pos h16]
   ·right
    intro j hj hji
    have hjl:j<32*l.length:=by omega
    have e1:j/32=i/32:=by omega
    rw [g j hjl,e1,hc]
    simp only [Option.map_some,Option.bind_some]
    have d2r:(l[i/32].take 16).length=16:=by rw [List.length_take,hcl];rfl
    rw [a57,if_neg k1,if_pos k2,List.getElem?_append_right (by rw [d2r];omega),List.getElem?_drop,d2r,hbl _ (by omega)]
  ·right
   intro j hj hji
   have hjl:j<32*l.length:=by omega
   have e1:j/32=i/32:=by omega
   rw [g j hjl,e1,hc]
   simp only [Option.map_some,Option.bind_some]
   rw [a57,if_neg k1,if_neg k2,hbl _ (by omega)]
 ·left
  rw [List.getElem?_append_right (by omega),List.getElem?_append_right (by omega),hl1,hl2]
open Go
theorem a4o (m:Nat):secs (List.replicate m blank):=fun x hx=>by
 rw [(List.mem_replicate.1 hx).2];rfl
theorem a4p {a b:List (List UInt8)} (h1:secs a) (h2:secs b):secs (a++b):=fun x hx=>by
 rcases List.mem_append.1 hx with h|h
 ·exact h1 x h
 ·exact h2 x h
theorem a69 {l:List (List UInt8)} (h1:1<=l.length) (h2:l.length<=400) (h:secs l):a3s ⟨l,[]⟩=true:=by
 simp only [a3s,Bool.and_eq_true,decide_eq_true_eq,List.all_eq_true]
 exact ⟨⟨⟨⟨h1,h2⟩,by simp⟩,fun x hx=>by simp [a55,h x hx]⟩,by simp⟩
theorem a7a {es:List a0i} {R:List (List UInt8)} (h:∀e∈es,b8I e) (hR:secs R) (hs:stops R) (h1:1<=(a0V es++R).length) (h2:(a0V es++R).length<=400):a4L ⟨a0V es++R,[]⟩=(es,(a0V es).length,0):=by
 have hm:a3s ⟨a0V es++R,[]⟩=true:=a69 h1 h2 (a4p (a3p h) hR)
 have:=b8K es h
 rw [a4L,if_pos hm,b0s es _ 0 R h hR hs (by simp;omega),Nat.zero_add]
theorem b0t {d:a0l} (h:a3s d=true) (keep:List Int):a4w d keep=(⟨a1T keep 0 d.safe d.wait,[]⟩,0):=by rw [a4w,if_pos h]
theorem a5E (at_:Int) (h0:0<=at_):∀(l:List (List UInt8)) (i:Nat) (d:a0l),a3s d=true->i+l.length<=d.safe.length->d.wait.length+l.length<=400->
  ∃ps:List Nat,a3E at_ l i d=(⟨d.safe,d.wait++ps.map fun (p:Nat)=>(⟨(p:Int),blank⟩:a4h)⟩,0)/\a3s ⟨d.safe,d.wait++ps.map fun (p:Nat)=>(⟨(p:Int),blank⟩:a4h)⟩=true/\
   (∀p∈ps,at_<=(p:Int)/\p<d.safe.length)/\∀j s,l[j]?=some s->((i+j:Nat):Int)<at_\/s=blank\/i+j∈ps
 |[],i,d,hm,_,_=>⟨[],by simp [a3E],by simpa using hm,by simp,by simp⟩
 |s::l,i,d,hm,hl,hw=>by
  simp only [List.length_cons] at hl hw
  rw [a3E]
  by_cases hc:(i:Int)<at_\/s=blank
  ·rw [if_pos hc]
   obtain ⟨ps,p1,p2,p3,p4⟩:=a5E at_ h0 l (i+1) d hm (by omega) (by omega)
   refine ⟨ps,p1,p2,p3,fun j t ht=>?_⟩
   cases j with
   |zero=>
    simp only [List.getElem?_cons_zero,Option.some.injEq] at ht
    subst ht
    rcases hc with hc|hc
    ·left;simpa using hc
    ·right;left;exact hc
   |succ j=>
    have:=p4 j t (by simpa using ht)
    rwa [show i+1+j=i+(j+1) by omega] at this
  ·obtain ⟨m1,m2⟩:=b25 hm (n:=(i:Int)) (s:=blank) rfl (by omega) (by omega) (by omega)
   rw [if_neg hc,m2,if_pos rfl]
   obtain ⟨ps,p1,p2,p3,p4⟩:=a5E at_ h0 l (i+1) ⟨d.safe,d.wait++[⟨(i:Int),blank⟩]⟩ m1 (by simp only;omega) (by simp;omega)
   simp only [List.append_assoc,List.singleton_append] at p1 p2
   refine ⟨i::ps,by simpa using p1,by simpa using p2,fun p hp=>?_,fun j t ht=>?_⟩
   ·rcases List.mem_cons.1 hp with rfl|hp
    ·exact ⟨by rw [not_or] at hc;omega,by omega⟩
    ·exact p3 p hp
   ·cases j with
    |zero=>right;right;simp
    |succ j=>
     have:=p4 j t (by simpa using ht)
     rw [show i+1+j=i+(j+1) by omega] at this
     rcases this with h|h|h
     ·exact .inl h
     ·exact .inr (.inl h)
     ·exact .inr (.inr (List.mem_cons_of_mem _ h))
theorem a50:∀(ps:List Nat) (i n:Nat) (sf:List (List UInt8)),i+ps.length<=n->a1T (List.replicate n 1) i sf (ps.map fun (p:Nat)=>(⟨(p:Int),blank⟩:a4h))=ps.foldl (fun sf p=>sf.set p blank) sf
 |[],i,n,sf,_=>rfl
 |p::ps,i,n,sf,h=>by
  simp only [List.length_cons] at h
  rw [List.map_cons,a1T,List.foldl_cons,b2X,if_pos (a68 (by omega))]
  simp only [Int.toNat_natCast]
  exact a50 ps (i+1) n _ (by omega)
theorem a4x:∀(ps:List Nat) (sf:List (List UInt8)) (j:Nat),(ps.foldl (fun sf p=>sf.set p blank) sf)[j]?=if j∈ps/\j<sf.length then some blank else sf[j]?
 |[],sf,j=>by simp
 |p::ps,sf,j=>by
  rw [List.foldl_cons,a4x ps,List.length_set]
  by_cases hj:j∈ps/\j<sf.length
  ·rw [if_pos hj,if_pos ⟨List.mem_cons_of_mem _ hj.1,hj.2⟩]
  ·rw [if_neg hj,List.getElem?_set]
   by_cases hp:p=j
   ·subst hp
    rw [if_pos rfl]
    by_cases hl:p<sf.length
    ·rw [if_pos hl,if_pos ⟨List.mem_cons_self,hl⟩]
    ·rw [if_neg hl,if_neg (fun q=>hl q.2),List.getElem?_eq_none (by omega)]
   ·rw [if_neg hp,if_neg]
    rintro ⟨h1,h2⟩
    rcases List.mem_cons.1 h1 with h1|h1
    ·exact hp h1.symm
    ·exact hj ⟨h1,h2⟩
theorem b8L {A B:List (List UInt8)} (h:a3s ⟨A++B,[]⟩=true):a2Q ⟨A++B,[]⟩ (A.length:Int)=(⟨A++List.replicate B.length blank,[]⟩,0):=by
 obtain ⟨m1,m2,m3⟩:=a6Z h
 obtain ⟨ps,p1,p2,p3,p4⟩:=a5E (A.length:Int) (by omega) (A++B) 0 ⟨A++B,[]⟩ h (by simp) (by simpa using m3)
 rw [a2Q,if_pos ⟨h,by omega⟩]
 simp only [List.nil_append] at p1 p2
 rw [p1,if_pos rfl,a3J,b0t p2]
 simp only [List.length_map]
 rw [a50 ps 0 _ _ (by simp)]
 congr 2
 apply List.ext_getElem?
 intro j
 rw [a4x]
 simp only at p3
 by_cases hj:j<(A++B).length
 ·have h4:=p4 j ((A++B)[j]) (List.getElem?_eq_getElem hj)
  by_cases hjA:j<A.length
  ·rw [if_neg (fun q=>by have:=(p3 j q.1).1;omega),List.getElem?_append_left hjA,List.getElem?_append_left hjA]
  ·have hB:(A++List.replicate B.length blank)[j]?=some blank:=by
    rw [List.getElem?_append_right (by omega),List.getElem?_replicate,if_pos (by simp at hj;omega)]
   rw [hB]
   by_cases hp:j∈ps
   ·rw [if_pos ⟨hp,hj⟩]
   ·rw [if_neg (fun q=>hp q.1),List.getElem?_eq_getElem hj]
    rcases h4 with h|h|h
    ·omega
    ·rw [h]
    ·exact (hp (by simpa using h)).elim
 ·rw [if_neg (fun q=>hj q.2),List.getElem?_eq_none (by omega),List.getElem?_eq_none (by simp at hj ⊢;omega)]
open Go
def wsL:Nat->List (List UInt8)->List a4h
 |_,[]=>[]
 |a,s::l=>⟨(a:Int),s⟩::wsL (a+1) l
theorem a7b:∀(l:List (List UInt8)) (a:Nat),(wsL a l).length=l.length
 |[],_=>rfl
 |s::l,a=>by simp [wsL,a7b l]
theorem b6G:∀(l l':List (List UInt8)) (a:Nat),wsL a (l++l')=wsL a l++wsL (a+l.length) l'
 |[],l',a=>by simp [wsL]
 |s::l,l',a=>by
  rw [List.cons_append,wsL,b6G l l' (a+1),wsL,List.cons_append,List.length_cons,show a+1+l.length=a+(l.length+1) by omega]
theorem b6H (B:List UInt8) (at_:Nat):∀(k i:Nat),wsF B (at_:Int) i k=wsL (at_+i) (chunk B i k)
 |0,i=>by simp [wsF,chunk,wsL]
 |k+1,i=>by
  rw [b26,a4n,wsL,b6H B at_ k (i+1)]
  congr 1
theorem a7c (keep:List Int):∀(l l':List (List UInt8)) (i:Nat),a1z keep i (l++l')=a1z keep i l++a1z keep (i+l.length) l'
 |[],l',i=>by simp [a1z]
 |c::l,l',i=>by
  rw [List.cons_append,a1z,a7c keep l l' (i+1),a1z,List.cons_append,List.length_cons,show i+1+l.length=i+(l.length+1) by omega]
theorem b3g (keep:List Int):∀(l:List (List UInt8)) (i:Nat) (A D:List (List UInt8)),a1T keep i (A++(List.replicate l.length blank++D)) (wsL A.length l)=A++(a1z keep i l++D)
 |[],i,A,D=>by simp [wsL,a1T,a1z]
 |c::l,i,A,D=>by
  rw [wsL,a1T,a1z]
  have ht:b2X (A++(List.replicate (c::l).length blank++D)) ⟨(A.length:Int),c⟩ (a2t keep i)=(A++[a57 c (a2t keep i)])++(List.replicate l.length blank++D):=by
   have hset:∀x:List UInt8,(A++(List.replicate (l.length+1) blank++D)).set A.length x=(A++[x])++(List.replicate l.length blank++D):=fun x=>by
    rw [List.set_append_right _ _ (Nat.le_refl _),Nat.sub_self,List.replicate_succ,List.cons_append,List.set_cons_zero]
    simp
   have hget:(A++(List.replicate (l.length+1) blank++D)).getD A.length []=blank:=by
    simp [List.getD,List.getElem?_append_right,List.replicate_succ]
   unfold b2X a57
   simp only [Int.toNat_natCast,List.length_cons]
   split
   ·rw [hset]
   ·split
    ·rw [hget,hset]
    ·rw [List.replicate_succ,List.append_assoc];rfl
  have:=b3g keep l (i+1) (A++[a57 c (a2t keep i)]) D
  rw [ht]
  rw [List.length_append,List.length_singleton] at this
  rw [this]
  simp
theorem a8f (keep:List Int):∀(ws:List a0i) (i:Nat) (R:List (List UInt8)),(∀e∈ws,b8I e)->secs R->stops R->
  ∃n Q,n<=ws.length/\a1z keep i (a0V ws)++R=a0V (ws.take n)++Q/\secs Q/\stops Q
 |[],i,R,_,hR,hs=>⟨0,R,Nat.le_refl _,rfl,hR,hs⟩
 |x::ws,i,R,hf,hR,hs=>by
  have hx:=hf x (by simp)
  have hss:=b3d hx.2
  have hts:=a3r keep (frS x) i hss
  have htl:(a1z keep i (frS x)).length=szE x:=by rw [a3q,a63]
  obtain ⟨z1,z2,z3⟩:=a65 hx.2
  have hlw:secs (a0V ws):=a3p fun e he=>hf e (by simp [he])
  have hrest:secs (a1z keep (i+(frS x).length) (a0V ws)++R):=a4p (a3r keep _ _ hlw) hR
  by_cases hsame:a1z keep i (frS x)=frS x
  ·obtain ⟨n,Q,h1,h2,h3,h4⟩:=a8f keep ws (i+(frS x).length) R (fun e he=>hf e (by simp [he])) hR hs
   refine ⟨n+1,Q,by simpa using h1,?_,h3,h4⟩
   rw [a2v,a7c,hsame,List.append_assoc,h2,List.take_succ_cons,a2v,List.append_assoc]
  ·refine ⟨0,a1z keep i (a0V (x::ws))++R,Nat.zero_le _,rfl,a4p (a3r keep _ _ (a3p hf)) hR,?_⟩
   right
   rw [a2v,a7c,List.append_assoc]
   generalize a1z keep (i+(frS x).length) (a0V ws)++R=T at hrest
   cases hf1:(a1d ((a1z keep i (frS x)++T).take 23).flatten).2.2
   ·rfl
   exfalso
   have e1:((a1z keep i (frS x)++T).take 23).flatten=(a1z keep i (frS x)).flatten++(T.take (23-szE x)).flatten:=by
    rw [List.take_append,List.take_of_length_le (by omega),htl,List.flatten_append]
   rw [e1] at hf1
   have b4v:=b4q keep (frS x) hss i (T.take (23-szE x)).flatten
   have hfl:=b3e hx.2
   have hl1:(a1z keep i (frS x)).flatten.length=(a0h x).1.length:=by rw [a5U hts,htl,z3]
   rw [hfl] at b4v
   have:=b4o hx.1 hx.2 b4v (fun j hj=>by rw [List.getElem?_append_right (by omega),List.getElem?_append_right (by omega),hl1]) hf1
   rw [<-hfl] at this
   have:=(List.append_inj this (by rw [a5U hts,a5U hss,a3q])).1
   have inj:∀(a b:List (List UInt8)),secs a->secs b->a.length=b.length->a.flatten=b.flatten->a=b:=fun a=>by
    induction a with
    |nil=>intro b _ _ hl _;cases b with
     |nil=>rfl
     |cons y b=>simp at hl
    |cons x a ih=>
     intro b ha hb hl he
     cases b with
     |nil=>simp at hl
     |cons y b=>
      simp only [List.flatten_cons] at he
      have:=List.append_inj he (by rw [ha x (by simp),hb y (by simp)])
      rw [this.1,ih b (fun z hz=>ha z (by simp [hz])) (fun z hz=>hb z (by simp [hz])) (by simpa using hl) this.2]
   exact hsame (inj _ _ hts hss (by rw [a3q]) this)
structure a9c (d:a0l) (es ws:List a0i) (m:Nat):Prop where
 disk:d=⟨a0V es++List.replicate m blank,wsL (a0V es).length (a0V ws)⟩
 may:a3s d=true
 fit:∀e∈es++ws,b8I e
 sz:(a0V ws).length<=m/\1<=(a0V es).length+m/\(a0V es).length+m<=400
theorem d0B {m:Nat} (h1:1<=m) (h2:m<=400):a9c ⟨List.replicate m blank,[]⟩ [] [] m:=
 ⟨rfl,a69 (by simpa using h1) (by simpa using h2) (a4o m),by simp,by simp [a0V];omega⟩
theorem a9c.append {d:a0l} {es ws:List a0i} {m:Nat} (h:a9c d es ws m) {x:a0i} (h0:(a0J d (((a0V es).length+(a0V ws).length:Nat):Int) x).2.2=0) :
  a9c (a0J d (((a0V es).length+(a0V ws).length:Nat):Int) x).1 es (ws++[x]) m/\(a0J d (((a0V es).length+(a0V ws).length:Nat):Int) x).2.1=(((a0V es).length+(a0V (ws++[x])).length:Nat):Int):=by
 obtain ⟨z1,z2,z3⟩:=h.sz
 have hd:=h.disk
 have hm:=h.may
 have hls:d.safe.length=(a0V es).length+m:=by rw [hd];simp
 have hlw:d.wait.length=(a0V ws).length:=by rw [hd];simp [a7b]
 have e1:a0V [x]=frS x:=by simp [a0V]
 unfold a0J at h0 ⊢
 by_cases c1:a3s d=true/\a0N x=true/\0<=(((a0V es).length+(a0V ws).length:Nat):Int)
 rotate_left
 ·rw [if_neg c1] at h0;cases h0
 rw [if_pos c1] at h0 ⊢
 by_cases c2:(a0h x).2=0
 rotate_left
 ·rw [if_neg c2] at h0;exact (c2 h0).elim
 rw [if_pos c2] at h0 ⊢
 obtain ⟨s1,s2,s3⟩:=a65 c2
 rw [show (a0h x).1.length/32=szE x from rfl] at h0 ⊢
 by_cases c3:((szE x:Nat):Int)>(d.safe.length:Int)-min (((a0V es).length+(a0V ws).length:Nat):Int) (d.safe.length:Int)
 ·rw [if_pos c3] at h0;cases h0
 rw [if_neg c3]
 obtain ⟨a1,a2⟩:=b6q (B:=(a0h x).1) (at_:=(((a0V es).length+(a0V ws).length:Nat):Int)) (by omega) (szE x) 0 d hm (by omega) (by omega) (by omega)
 rw [a1,if_pos rfl]
 have hw:wsF (a0h x).1 (((a0V es).length+(a0V ws).length:Nat):Int) 0 (szE x)=wsL ((a0V es).length+(a0V ws).length) (frS x):=b6H _ _ _ 0
 rw [hw] at a2 ⊢
 refine ⟨⟨?_,a2,fun e he=>?_,?_,z2,z3⟩,?_⟩
 ·simp only [hd,a2n,e1,b6G]
 ·rw [<-List.append_assoc] at he
  rcases List.mem_append.1 he with he|he
  ·exact h.fit e he
  ·rw [List.mem_singleton.1 he];exact ⟨c1.2.1,c2⟩
 ·rw [a2n,e1,List.length_append,a63];omega
 ·rw [a2n,e1,List.length_append,a63]
  simp only
  omega
theorem a9c.c48 {d:a0l} {es ws:List a0i} {m:Nat} (h:a9c d es ws m) (keep:List Int):a4w d keep=(⟨a0V es++(a1z keep 0 (a0V ws)++List.replicate (m-(a0V ws).length) blank),[]⟩,0):=by
 obtain ⟨z1,z2,z3⟩:=h.sz
 rw [b0t h.may]
 simp only [h.disk]
 have:List.replicate m blank=List.replicate (a0V ws).length blank++List.replicate (m-(a0V ws).length) blank:=by rw [List.replicate_append_replicate];congr 1;omega
 rw [this,b3g]
theorem a9c.sync {d:a0l} {es ws:List a0i} {m:Nat} (h:a9c d es ws m):(a3J d).2=0/\a9c (a3J d).1 (es++ws) [] (m-(a0V ws).length):=by
 obtain ⟨z1,z2,z3⟩:=h.sz
 have hw:d.wait.length=(a0V ws).length:=by rw [h.disk];simp [a7b]
 rw [a3J,h.c48,hw,a8e _ _ 0 (by omega),<-List.append_assoc,<-a2n]
 refine ⟨rfl,rfl,a69 ?_ ?_ (a4p (a3p h.fit) (a4o _)),by simpa using h.fit,?_⟩
 ·rw [List.length_append,List.length_replicate,a2n,List.length_append];omega
 ·rw [List.length_append,List.length_replicate,a2n,List.length_append];omega
 ·rw [a2n,List.length_append,show a0V ([]:List a0i)=[] from rfl,List.length_nil];omega
theorem a9c.keeps {d:a0l} {es ws:List a0i} {m:Nat} (h:a9c d es ws m) (keep:List Int):∃(y:a0l) (n en:Nat) (c:a0l),a4w d keep=(y,0)/\n<=ws.length/\a4L y=(es++ws.take n,en,0)/\a2Q y (en:Int)=(c,0)/\a4L c=(es++ws.take n,en,0)/\
  (y.safe.length<=400/\y.wait.length<=400)/\(c.safe.length<=400/\c.wait.length<=400)/\en<=400/\
  ∀x,(a0J c (en:Int) x).2.2=0->∃(b s:a0l) (a en2:Nat),a0J c (en:Int) x=(b,(a:Int),0)/\a3J b=(s,0)/\a4L s=(es++ws.take n++[x],en2,0)/\(b.safe.length<=400/\b.wait.length<=400)/\s.safe.length<=400/\s.wait.length<=400:=by
 obtain ⟨z1,z2,z3⟩:=h.sz
 obtain ⟨n,Q,h1,h2,h3,h4⟩:=a8f keep ws 0 (List.replicate (m-(a0V ws).length) blank) (fun e he=>h.fit e (by simp [he])) (a4o _) (a4P _)
 have hcr:=h.c48 keep
 rw [h2,<-List.append_assoc,<-a2n] at hcr
 have hlen:=congrArg List.length h2
 simp only [List.length_append,a3q,List.length_replicate] at hlen
 have hfit:∀e∈es++ws.take n,b8I e:=fun e he=>h.fit e (by
  rcases List.mem_append.1 he with he|he
  ·simp [he]
  ·simp [List.mem_of_mem_take he])
 have hL:(a0V (es++ws.take n)++Q).length=(a0V es).length+m:=by rw [List.length_append,a2n,List.length_append];omega
 have hm:a3s ⟨a0V (es++ws.take n)++Q,[]⟩=true:=a69 (by omega) (by omega) (a4p (a3p hfit) h3)
 have hL2:(a0V (es++ws.take n)++List.replicate Q.length blank).length=(a0V es).length+m:=by rw [List.length_append] at hL ⊢;simpa using hL
 have d6q:a9c ⟨a0V (es++ws.take n)++List.replicate Q.length blank,[]⟩ (es++ws.take n) [] Q.length:=by
  refine ⟨rfl,a69 (by omega) (by omega) (a4p (a3p hfit) (a4o _)),by simpa using hfit,?_⟩
  rw [List.length_append,List.length_replicate] at hL2
  rw [show a0V ([]:List a0i)=[] from rfl,List.length_nil];omega
 generalize hE:es++ws.take n=E at *
 refine ⟨⟨a0V E++Q,[]⟩,n,(a0V E).length,⟨a0V E++List.replicate Q.length blank,[]⟩,?_⟩
 rw [hE]
 refine ⟨hcr,h1,a7a hfit h3 h4 (by omega) (by omega),b8L hm,a7a hfit (a4o _) (a4P _) (by omega) (by omega),
  ⟨by simp only;omega,by simp⟩,⟨by simp only;omega,by simp⟩,by rw [List.length_append] at hL;omega,fun x h0=>?_⟩
 have h0':(a0J ⟨a0V E++List.replicate Q.length blank,[]⟩ (((a0V E).length+(a0V ([]:List a0i)).length:Nat):Int) x).2.2=0:=h0
 obtain ⟨a1,a2⟩:=d6q.append h0'
 obtain ⟨b1,b2⟩:=a1.sync
 have e0:a0J ⟨a0V E++List.replicate Q.length blank,[]⟩ (((a0V E).length+(a0V ([]:List a0i)).length:Nat):Int) x=a0J ⟨a0V E++List.replicate Q.length blank,[]⟩ ((a0V E).length:Int) x:=rfl
 rw [e0] at a1 a2 b1 b2
 generalize hA:a0J ⟨a0V E++List.replicate Q.length blank,[]⟩ ((a0V E).length:Int) x=A at *
 obtain ⟨b,na,e⟩:=A
 simp only at h0 a1 a2 b1 b2
 subst h0
 generalize hS:a3J b=SS at *
 obtain ⟨s,e⟩:=SS
 simp only at b1 b2
 subst b1
 obtain ⟨y1,y2,y3⟩:=b2.sz
 obtain ⟨x1,x2,x3⟩:=a1.sz
 have hds:s=⟨a0V (E++[x])++List.replicate (Q.length-(a0V [x]).length) blank,[]⟩:=b2.disk
 have hdb:=a1.disk
 have hfs:∀e∈(E++[x])++[],b8I e:=b2.fit
 have y2':1<=(a0V (E++[x])).length+(Q.length-(a0V [x]).length):=y2
 have y3':(a0V (E++[x])).length+(Q.length-(a0V [x]).length)<=400:=y3
 have x1':(a0V [x]).length<=Q.length:=x1
 refine ⟨b,s,_,(a0V (E++[x])).length,by rw [a2],hS,?_,?_,?_⟩
 ·rw [hds]
  exact a7a (by simpa using hfs) (a4o _) (a4P _) (by rw [List.length_append,List.length_replicate];omega) (by rw [List.length_append,List.length_replicate];omega)
 ·rw [hdb]
  refine ⟨by simp only [List.length_append,List.length_replicate];omega,?_⟩
  simp only [a7b]
  show (a0V [x]).length<=400
  omega
 ·rw [hds]
  exact ⟨by simp only [List.length_append,List.length_replicate];omega,by simp⟩
open Go
variable {P:Program}
inductive HO where
 |rows (i:Id) (e sz:Nat) (xs:List (List AC))
 |var (i:Id) (e:Nat) (r:List AC)
 |snoc (i:Id) (e sz:Nat) (xs:List (List AC)) (r:List AC)
 |map (i:Id) (ag:Nat) (es:List (List Int×AC))
 |tab (i:Id) (e sz:Nat) (rr:List (List AC))
def HO.id:HO->Id
 |.rows i ..|.var i ..|.snoc i ..|.map i ..|.tab i ..=>i
def HO.ob:HO->OK
 |.rows _ e sz xs=>.arr e sz false xs
 |.var _ e r=>.arr e r.length false [r]
 |.snoc _ e sz xs r=>.arr e sz false (xs++[r])
 |.map _ ag es=>.mp ag es
 |.tab _ e sz rr=>.arr e sz false rr
def b8M:List (Nat×AV)->Nat->AV
 |[],_=>.c .a4S
 |(d,v)::r,t=>if t=d then v else b8M r t
def a2T:List HO->Heap
 |[],j=>if j.1=0 then .dead else .a0b
 |o::r,j=>if j=o.id then o.ob else a2T r j
def mkS (sl:List (Nat×AV)) (hp:List HO) (T:Nat:=1):St:={s:=b8M sl,H:=a2T hp,T:=T,n:=true}
structure PM where
 m:List (Id×Option Id)
 z:List Id
def a03:List (Id×Option Id)->Id->Option (Option Id)
 |[],_=>none
 |(a,b)::r,i=>if i=a then some b else a03 r i
def bd (i:Id) (j:Option Id) (pm:PM) (K:PM->Prop):Prop:=
 match a03 pm.m i with
 |none=>K ⟨(i,j)::pm.m,pm.z⟩
 |some j'=>j=j'/\K pm
def a1t (xs:List (List AC)):Prop:=∀r∈xs,∀c∈r,a1L c
mutual
def mC (H:Heap):AC->AC->PM->(PM->Prop)->Prop
 |.a4S,_,pm,K=>K pm
 |.raw v,.raw v',pm,K=>v=v'/\K pm
 |.str l,.str l',pm,K=>l=l'/\K pm
 |.so i o n,.so i' o' n',pm,K=>(o=o'/\n=n')/\bd i (some i') pm K
 |.so i o n,.raw v,pm,K=>(v=.slice none 0 0/\o=0/\n=0)/\bd i none pm K
 |.pt i a b,.pt i' a' b',pm,K=>(a=a'/\b=b')/\bd i (some i') pm K
 |.mr i,.mr i',pm,K=>bd i (some i') pm K
 |.sl t cl xs,.sl t' cl' xs',pm,K=>(t=t'/\(cl=true->cl'=true)/\xs=xs'/\a1t xs)/\K pm
 |.sl t cl xs,.so i o n,pm,K=>(t=.old/\cl=false/\o=0/\n=xs.length/\(∃e sz,H i=.arr e sz false xs)/\a1t xs)/\K ⟨pm.m,i::pm.z⟩
 |.sl t cl xs,.raw v,pm,K=>(v=.slice none 0 0/\cl=false/\xs=[])/\K pm
 |.fn f cs,.fn f' cs',pm,K=>f=f'/\mL H cs cs' pm K
 |.pv t r j,.pv t' r' j',pm,K=>(t=t'/\j=j'/\r=r'/\∀c∈r,b7j c)/\K pm
 |_,_,_,_=>False
def mL (H:Heap):List AC->List AC->PM->(PM->Prop)->Prop
 |[],[],pm,K=>K pm
 |c::cs,c'::cs',pm,K=>mC H c c' pm fun pm=>mL H cs cs' pm K
 |_,_,_,_=>False
end
def mT (H:Heap):List (Bool×List AC)->List (Bool×List AC)->PM->(PM->Prop)->Prop
 |[],[],pm,K=>K pm
 |(b,cs)::r,(b',cs')::r',pm,K=>b=b'/\mL H cs cs' pm fun pm=>mT H r r' pm K
 |_,_,_,_=>False
def mV (H:Heap):AV->AV->PM->(PM->Prop)->Prop
 |.c .a4S,_,pm,K=>K pm
 |.t xs,.t ys,pm,K=>mT H xs ys pm K
 |.c x,.c y,pm,K=>mC H x y pm K
 |.g xs,.g ys,pm,K=>mL H xs ys pm K
 |_,_,_,_=>False
def mSl (st:St):List (Nat×AV)->PM->(PM->Prop)->Prop
 |[],pm,K=>K pm
 |(d,v)::r,pm,K=>mV st.H v (st.s d) pm fun pm=>mSl st r pm K
def mR (H:Heap):List (List AC)->List (List AC)->PM->(PM->Prop)->Prop
 |[],[],pm,K=>K pm
 |r::rs,r'::rs',pm,K=>mL H r r' pm fun pm=>mR H rs rs' pm K
 |_,_,_,_=>False
def mO (H:Heap):HO->PM->(PM->Prop)->Prop
 |.rows i e sz xs,pm,K=>match a03 pm.m i with
  |some (some j)=>(H j=.arr e sz false xs/\a1t xs)/\K pm
  |some none=>xs=[]/\K pm
  |none=>False
 |.var i e r,pm,K=>match a03 pm.m i with
  |some (some j)=>match H j with
   |.arr e' sz' false [r']=>(e=e'/\sz'=r.length)/\mL H r r' pm K
   |_=>False
  |_=>False
 |.snoc i e sz xs r,pm,K=>match a03 pm.m i with
  |some (some j)=>∃r',(H j=.arr e sz false (xs++[r'])/\a1t xs)/\mL H r r' pm K
  |_=>False
 |.map i ag es,pm,K=>match a03 pm.m i with
  |some (some j)=>(H j=.mp ag es/\∀q∈es,a1L q.2)/\K pm
  |_=>False
 |.tab i e sz rr,pm,K=>match a03 pm.m i with
  |some (some j)=>match H j with
   |.arr e' sz' false rr'=>(e=e'/\sz=sz')/\mR H rr rr' pm K
   |_=>False
  |_=>False
def mHo (H:Heap):List HO->PM->(PM->Prop)->Prop
 |[],pm,K=>K pm
 |o::r,pm,K=>mO H o pm fun pm=>mHo H r pm K
def images (m:List (Id×Option Id)):List Id:=m.filterMap (·.2)
def b6I:List HO->Id->Prop
 |[],_=>False
 |o::r,i=>i=o.id\/b6I r i
def b8N (hp:List HO):List (Id×Option Id)->Prop
 |[]=>True
 |(i,_)::r=>b6I hp i/\b8N hp r
def pmZ (im:List Id):List Id->Prop
 |[]=>True
 |f::r=>f ∉ im/\pmZ im r
def pmA:List (Id×Option Id)->Prop
 |[]=>True
 |(i,j)::r=>(i.1=0->j=some i)/\pmA r
def d1Z (hp:List HO) (pm:PM):Prop:=(images pm.m).Nodup/\pmZ (images pm.m) pm.z/\b8N hp pm.m
theorem b6J:∀{m:List (Id×Option Id)},pmA m->∀i j,(i,j)∈m->i.1=0->j=some i
 |[],_,i,j,h=>by simp at h
 |(a,b)::r,h,i,j,hm=>by
  rcases List.mem_cons.1 hm with e|hm
  ·cases e;exact h.1
  ·exact b6J h.2 i j hm
theorem b3h:∀{hp:List HO} {i:Id},b6I hp i->∃o∈hp,o.id=i
 |[],_,h=>h.elim
 |o::r,i,h=>by
  rcases h with rfl|h
  ·exact ⟨o,List.mem_cons_self ..,rfl⟩
  ·obtain ⟨o',h1,h2⟩:=b3h h
   exact ⟨o',List.mem_cons_of_mem _ h1,h2⟩
theorem b3i {hp:List HO}:∀{m:List (Id×Option Id)},b8N hp m->∀q∈m,∃o∈hp,o.id=q.1
 |[],_,q,h=>by simp at h
 |(i,j)::r,h,q,hq=>by
  rcases List.mem_cons.1 hq with rfl|hq
  ·exact b3h h.1
  ·exact b3i h.2 q hq
theorem b9z {im:List Id}:∀{z:List Id},pmZ im z->∀f∈z,f ∉ im
 |[],_,q,h=>by simp at h
 |i::r,h,q,hq=>by
  rcases List.mem_cons.1 hq with rfl|hq
  ·exact h.1
  ·exact b9z h.2 q hq
inductive MC (H:Heap) (pm:PM):AC->AC->Prop where
 |a4S (c):MC H pm .a4S c
 |raw (v):MC H pm (.raw v) (.raw v)
 |str (l):MC H pm (.str l) (.str l)
 |so (i i' o n) (h:a03 pm.m i=some (some i')):MC H pm (.so i o n) (.so i' o n)
 |c5q (i) (h:a03 pm.m i=some none):MC H pm (.so i 0 0) (.raw (.slice none 0 0))
 |pt (i i' a b) (h:a03 pm.m i=some (some i')):MC H pm (.pt i a b) (.pt i' a b)
 |mr (i i') (h:a03 pm.m i=some (some i')):MC H pm (.mr i) (.mr i')
 |sl (t) (cl cl':Bool) (xs) (hc:cl=true->cl'=true) (h:a1t xs):MC H pm (.sl t cl xs) (.sl t cl' xs)
 |frz (i e sz xs) (h:H i=.arr e sz false xs) (hx:a1t xs) (hz:i∈pm.z):MC H pm (.sl .old false xs) (.so i 0 xs.length)
 |a0H (t):MC H pm (.sl t false []) (.raw (.slice none 0 0))
 |fn (f cs cs') (hl:cs.length=cs'.length) (h:∀(k:Nat) c c',cs[k]?=some c->cs'[k]?=some c'->MC H pm c c'):MC H pm (.fn f cs) (.fn f cs')
 |pv (t r j) (h:∀c∈r,b7j c):MC H pm (.pv t r j) (.pv t r j)
structure PM.le (a b:PM):Prop where
 m:∀i j,a03 a.m i=some j->a03 b.m i=some j
 z:∀f∈a.z,f∈b.z
theorem PM.le.refl (a:PM):a.le a:=⟨fun _ _ h=>h,fun _ h=>h⟩
theorem PM.le.trans {a b c:PM} (h:a.le b) (k:b.le c):a.le c:=⟨fun i j q=>k.m i j (h.m i j q),fun f q=>k.z f (h.z f q)⟩
def Got (pm:PM) (K:PM->Prop) (G:PM->Prop):Prop:=∃pm',pm.le pm'/\K pm'/\∀q,pm'.le q->G q
theorem b3j {i:Id} {j:Option Id} {pm:PM} {K:PM->Prop} (h:bd i j pm K):Got pm K fun q=>a03 q.m i=some j:=by
 unfold bd at h
 split at h
 ·rename_i hn
  refine ⟨⟨(i,j)::pm.m,pm.z⟩,⟨fun a b hab=>?_,fun _ h=>h⟩,h,fun q hq=>hq.m _ _ (by simp [a03])⟩
  show (if a=i then some j else a03 pm.m a)=some b
  split
  ·rename_i e;subst e;rw [hn] at hab;cases hab
  ·exact hab
 ·rename_i j' hs
  obtain ⟨rfl,h⟩:=h
  exact ⟨pm,.refl _,h,fun q hq=>hq.m _ _ hs⟩
mutual
theorem b9A {H:Heap}:∀(c c':AC) (pm:PM) (K:PM->Prop),mC H c c' pm K->Got pm K fun q=>MC H q c c'
 |.a4S,c',pm,K,h=>⟨pm,.refl _,by simpa [mC] using h,fun q _=>.a4S _⟩
 |.raw v,c',pm,K,h=>by
  cases c' with
  |raw v'=>
   simp only [mC] at h
   obtain ⟨rfl,h⟩:=h
   exact ⟨pm,.refl _,h,fun q _=>.raw _⟩
  |_=>simp [mC] at h
 |.str v,c',pm,K,h=>by
  cases c' with
  |str v'=>
   simp only [mC] at h
   obtain ⟨rfl,h⟩:=h
   exact ⟨pm,.refl _,h,fun q _=>.str _⟩
  |_=>simp [mC] at h
 |.so i o n,c',pm,K,h=>by
  cases c' with
  |so i' o' n'=>
   simp only [mC] at h
   obtain ⟨⟨rfl,rfl⟩,h⟩:=h
   obtain ⟨p,h1,h2,h3⟩:=b3j h
   exact ⟨p,h1,h2,fun q hq=>.so _ _ _ _ (h3 q hq)⟩
  |raw v=>
   simp only [mC] at h
   obtain ⟨⟨rfl,rfl,rfl⟩,h⟩:=h
   obtain ⟨p,h1,h2,h3⟩:=b3j h
   exact ⟨p,h1,h2,fun q hq=>.c5q _ (h3 q hq)⟩
  |_=>simp [mC] at h
 |.pt i a b,c',pm,K,h=>by
  cases c' with
  |pt i' a' b'=>
   simp only [mC] at h
   obtain ⟨⟨rfl,rfl⟩,h⟩:=h
   obtain ⟨p,h1,h2,h3⟩:=b3j h
   exact ⟨p,h1,h2,fun q hq=>.pt _ _ _ _ (h3 q hq)⟩
  |_=>simp [mC] at h
 |.mr i,c',pm,K,h=>by
  cases c' with
  |mr i'=>
   simp only [mC] at h
   obtain ⟨p,h1,h2,h3⟩:=b3j h
   exact ⟨p,h1,h2,fun q hq=>.mr _ _ (h3 q hq)⟩
  |_=>simp [mC] at h
 |.sl t cl xs,c',pm,K,h=>by
  cases c' with
  |sl t' cl' xs'=>
   simp only [mC] at h
   obtain ⟨⟨rfl,hc,rfl,hx⟩,h⟩:=h
   exact ⟨pm,.refl _,h,fun q _=>.sl _ _ _ _ hc hx⟩
  |so i o n=>
   simp only [mC] at h
   obtain ⟨⟨rfl,rfl,rfl,rfl,⟨e,sz,he⟩,hx⟩,h⟩:=h
   exact ⟨⟨pm.m,i::pm.z⟩,⟨fun _ _ h=>h,fun f hf=>List.mem_cons_of_mem _ hf⟩,h,fun q hq=>.frz _ _ _ _ he hx (hq.z _ (List.mem_cons_self ..))⟩
  |raw v=>
   simp only [mC] at h
   obtain ⟨⟨rfl,rfl,rfl⟩,h⟩:=h
   exact ⟨pm,.refl _,h,fun q _=>.a0H _⟩
  |_=>simp [mC] at h
 |.fn f cs,c',pm,K,h=>by
  cases c' with
  |fn f' cs'=>
   simp only [mC] at h
   obtain ⟨rfl,h⟩:=h
   obtain ⟨p,h1,h2,h3⟩:=a7d cs cs' pm K h
   exact ⟨p,h1,h2,fun q hq=>.fn _ _ _ (h3 q hq).1 (h3 q hq).2⟩
  |_=>simp [mC] at h
 |.pv t r j,c',pm,K,h=>by
  cases c' with
  |pv t' r' j'=>
   simp only [mC] at h
   obtain ⟨⟨rfl,rfl,rfl,hx⟩,h⟩:=h
   exact ⟨pm,.refl _,h,fun q _=>.pv _ _ _ hx⟩
  |_=>simp [mC] at h
 |.nw e sz xs,c',pm,K,h=>by cases c'<;>simp [mC] at h
theorem a7d {H:Heap}:∀(cs cs':List AC) (pm:PM) (K:PM->Prop),mL H cs cs' pm K->Got pm K fun q=>cs.length=cs'.length/\∀(k:Nat) c c',cs[k]?=some c->cs'[k]?=some c'->MC H q c c'
 |[],[],pm,K,h=>⟨pm,.refl _,by simpa [mL] using h,fun q _=>by simp⟩
 |[],_::_,pm,K,h=>by simp [mL] at h
 |_::_,[],pm,K,h=>by simp [mL] at h
 |c::cs,c'::cs',pm,K,h=>by
  simp only [mL] at h
  obtain ⟨p1,a1,a2,a3⟩:=b9A c c' pm _ h
  obtain ⟨p2,b1,b2,b3⟩:=a7d cs cs' p1 K a2
  refine ⟨p2,a1.trans b1,b2,fun q hq=>⟨by simp [(b3 q hq).1],fun k d d' hd hd'=>?_⟩⟩
  cases k with
  |zero=>
   simp at hd hd'
   subst hd hd'
   exact a3 q (b1.trans hq)
  |succ k=>exact (b3 q hq).2 k d d' (by simpa using hd) (by simpa using hd')
end
def MV (H:Heap) (pm:PM) (v v':AV):Prop:=v=.c .a4S\/(∃x y,v=.c x/\v'=.c y/\MC H pm x y)\/
 (∃xs ys,v=.g xs/\v'=.g ys/\xs.length=ys.length/\∀(k:Nat) c c',xs[k]?=some c->ys[k]?=some c'->MC H pm c c')\/
 ∃xs ys,v=.t xs/\v'=.t ys/\xs.length=ys.length/\∀(j:Nat) b cs b' cs',xs[j]?=some (b,cs)->ys[j]?=some (b',cs')->b=b'/\cs.length=cs'.length/\∀(k:Nat) c c',cs[k]?=some c->cs'[k]?=some c'->MC H pm c c'
theorem b9B {H:Heap}:∀{xs ys:List (Bool×List AC)} {pm:PM} {K:PM->Prop},mT H xs ys pm K->Got pm K fun q=>xs.length=ys.length/\∀(j:Nat) b cs b' cs',xs[j]?=some (b,cs)->ys[j]?=some (b',cs')->b=b'/\cs.length=cs'.length/\∀(k:Nat) c c',cs[k]?=some c->cs'[k]?=some c'->MC H q c c'
 |[],[],pm,K,h=>⟨pm,.refl _,h,fun q _=>by simp⟩
 |[],_::_,pm,K,h=>h.elim
 |(_,_)::_,[],pm,K,h=>h.elim
 |(b,cs)::r,(b',cs')::r',pm,K,h=>by
  obtain ⟨hb,h⟩:=h
  obtain ⟨p1,a1,a2,a3⟩:=a7d _ _ _ _ h
  obtain ⟨p2,b1,b2,b3⟩:=b9B a2
  refine ⟨p2,a1.trans b1,b2,fun q hq=>⟨by simp [(b3 q hq).1],fun j d ds d' ds' hd hd'=>?_⟩⟩
  cases j with
  |zero=>
   simp at hd hd'
   obtain ⟨rfl,rfl⟩:=hd
   obtain ⟨rfl,rfl⟩:=hd'
   exact ⟨hb,a3 q (b1.trans hq)⟩
  |succ j=>exact (b3 q hq).2 j d ds d' ds' (by simpa using hd) (by simpa using hd')
theorem c49 {H:Heap} {v v':AV} {pm:PM} {K:PM->Prop} (h:mV H v v' pm K):Got pm K fun q=>MV H q v v':=by
 unfold mV at h
 split at h
 ·exact ⟨pm,.refl _,h,fun q _=>.inl rfl⟩
 ·obtain ⟨p,h1,h2,h3⟩:=b9B h
  exact ⟨p,h1,h2,fun q hq=>.inr (.inr (.inr ⟨_,_,rfl,rfl,h3 q hq⟩))⟩
 ·obtain ⟨p,h1,h2,h3⟩:=b9A _ _ _ _ h
  exact ⟨p,h1,h2,fun q hq=>.inr (.inl ⟨_,_,rfl,rfl,h3 q hq⟩)⟩
 ·obtain ⟨p,h1,h2,h3⟩:=a7d _ _ _ _ h
  exact ⟨p,h1,h2,fun q hq=>.inr (.inr (.inl ⟨_,_,rfl,rfl,h3 q hq⟩))⟩
 ·exact h.elim
theorem b6K {st:St}:∀{sl:List (Nat×AV)} {pm:PM} {K:PM->Prop},mSl st sl pm K->Got pm K fun q=>∀d v,(d,v)∈sl->MV st.H q v (st.s d)
 |[],pm,K,h=>⟨pm,.refl _,h,fun q _=>by simp⟩
 |(d,v)::r,pm,K,h=>by
  obtain ⟨p1,a1,a2,a3⟩:=c49 h
  obtain ⟨p2,b1,b2,b3⟩:=b6K a2
  refine ⟨p2,a1.trans b1,b2,fun q hq d' v' hm=>?_⟩
  rcases List.mem_cons.1 hm with e|hm
  ·cases e;exact a3 q (b1.trans hq)
  ·exact b3 q hq d' v' hm
def MO (H:Heap) (pm:PM) (o:HO):Prop:=(∃ag es j,o.ob=.mp ag es/\a03 pm.m o.id=some (some j)/\H j=.mp ag es/\∀q∈es,a1L q.2)\/∃e sz rows,o.ob=.arr e sz false rows/\((a03 pm.m o.id=some none/\rows=[])\/∃j rows',a03 pm.m o.id=some (some j)/\H j=.arr e sz false rows'/\
 rows.length=rows'.length/\∀(i:Nat) r r',rows[i]?=some r->rows'[i]?=some r'->r.length=r'.length/\∀(k:Nat) c c',r[k]?=some c->r'[k]?=some c'->MC H pm c c')
theorem b2n {H:Heap} {pm:PM} {c:AC} (h:a1L c):MC H pm c c:=by
 cases h with
 |raw v=>exact .raw v
 |str l=>exact .str l
 |sl t cl xs ht h=>exact .sl _ _ _ _ (fun h=>h) h
theorem b9C {H:Heap}:∀{rs rs':List (List AC)} {pm:PM} {K:PM->Prop},mR H rs rs' pm K->Got pm K fun q=>rs.length=rs'.length/\∀(i:Nat) r r',rs[i]?=some r->rs'[i]?=some r'->r.length=r'.length/\∀(k:Nat) c c',r[k]?=some c->r'[k]?=some c'->MC H q c c'
 |[],[],pm,K,h=>⟨pm,.refl _,h,fun q _=>by simp⟩
 |[],_::_,pm,K,h=>h.elim
 |_::_,[],pm,K,h=>h.elim
 |r::rs,r'::rs',pm,K,h=>by
  obtain ⟨p1,a1,a2,a3⟩:=a7d _ _ _ _ h
  obtain ⟨p2,b1,b2,b3⟩:=b9C a2
  refine ⟨p2,a1.trans b1,b2,fun q hq=>⟨by simp [(b3 q hq).1],fun i s s' hs hs'=>?_⟩⟩
  cases i with
  |zero=>simp at hs hs';subst hs hs';exact a3 q (b1.trans hq)
  |succ i=>exact (b3 q hq).2 i s s' (by simpa using hs) (by simpa using hs')
theorem c5a {H:Heap} {o:HO} {pm:PM} {K:PM->Prop} (h:mO H o pm K):Got pm K fun q=>MO H q o:=by
 cases o with
 |map i ag es=>
  simp only [mO] at h
  split at h
  ·rename_i j hj
   exact ⟨pm,.refl _,h.2,fun q hq=>.inl ⟨ag,es,j,rfl,hq.m _ _ hj,h.1.1,h.1.2⟩⟩
  ·exact h.elim
 |rows i e sz xs=>
  simp only [mO] at h
  split at h
  ·rename_i j hj
   obtain ⟨⟨h1,h2⟩,h⟩:=h
   refine ⟨pm,.refl _,h,fun q hq=>.inr ⟨e,sz,xs,rfl,.inr ⟨j,xs,hq.m _ _ hj,h1,rfl,fun a r r' hr hr'=>?_⟩⟩⟩
   rw [hr] at hr';cases hr'
   refine ⟨rfl,fun k c c' hc hc'=>?_⟩
   rw [hc] at hc';cases hc'
   exact b2n (h2 r (List.mem_of_getElem? hr) c (List.mem_of_getElem? hc))
  ·rename_i hj
   obtain ⟨rfl,h⟩:=h
   exact ⟨pm,.refl _,h,fun q hq=>.inr ⟨e,sz,[],rfl,.inl ⟨hq.m _ _ hj,rfl⟩⟩⟩
  ·exact h.elim
 |var i e r=>
  simp only [mO] at h
  split at h
  ·rename_i j hj
   split at h
   ·rename_i e' sz' r' ho
    obtain ⟨⟨rfl,rfl⟩,h⟩:=h
    obtain ⟨p,h1,h2,h3⟩:=a7d _ _ _ _ h
    refine ⟨p,h1,h2,fun q hq=>.inr ⟨e,r.length,[r],rfl,.inr ⟨j,[r'],(h1.trans hq).m _ _ hj,ho,rfl,fun a s s' hs hs'=>?_⟩⟩⟩
    cases a with
    |zero=>simp at hs hs';subst hs hs';exact h3 q hq
    |succ a=>simp at hs
   ·exact h.elim
  ·exact h.elim
 |tab i e sz rr=>
  simp only [mO] at h
  split at h
  ·rename_i j hj
   split at h
   ·rename_i e' sz' rr' ho
    obtain ⟨⟨rfl,rfl⟩,h⟩:=h
    obtain ⟨p,h1,h2,h3⟩:=b9C h
    exact ⟨p,h1,h2,fun q hq=>.inr ⟨e,sz,rr,rfl,.inr ⟨j,rr',(h1.trans hq).m _ _ hj,ho,h3 q hq⟩⟩⟩
   ·exact h.elim
  ·exact h.elim
 |snoc i e sz xs r=>
  simp only [mO] at h
  split at h
  ·rename_i j hj
   obtain ⟨r',⟨ho,hx⟩,h⟩:=h
   obtain ⟨p,h1,h2,h3⟩:=a7d _ _ _ _ h
   refine ⟨p,h1,h2,fun q hq=>.inr ⟨e,sz,xs++[r],rfl,.inr ⟨j,xs++[r'],(h1.trans hq).m _ _ hj,ho,by simp,fun a s s' hs hs'=>?_⟩⟩⟩
   rcases Nat.lt_trichotomy a xs.length with ha|ha|ha
   ·rw [List.getElem?_append_left ha] at hs hs'
    rw [hs] at hs';cases hs'
    refine ⟨rfl,fun k c c' hc hc'=>?_⟩
    rw [hc] at hc';cases hc'
    exact b2n (hx s (List.mem_of_getElem? hs) c (List.mem_of_getElem? hc))
   ·subst ha
    simp at hs hs'
    subst hs hs'
    exact h3 q hq
   ·rw [List.getElem?_eq_none (by simp;omega)] at hs
    cases hs
  ·exact h.elim
theorem b6L {H:Heap}:∀{hp:List HO} {pm:PM} {K:PM->Prop},mHo H hp pm K->Got pm K fun q=>∀o∈hp,MO H q o
 |[],pm,K,h=>⟨pm,.refl _,h,fun q _=>by simp⟩
 |o::r,pm,K,h=>by
  obtain ⟨p1,a1,a2,a3⟩:=c5a h
  obtain ⟨p2,b1,b2,b3⟩:=b6L a2
  refine ⟨p2,a1.trans b1,b2,fun q hq o' hm=>?_⟩
  rcases List.mem_cons.1 hm with rfl|hm
  ·exact a3 q (b1.trans hq)
  ·exact b3 q hq o' hm
theorem a36:∀{m:List (Id×Option Id)} {i:Id} {j:Option Id},a03 m i=some j->(i,j)∈m
 |[],_,_,h=>by cases h
 |(a,b)::r,i,j,h=>by
  unfold a03 at h
  split at h
  ·rename_i e;subst e;cases h;exact List.mem_cons_self ..
  ·exact List.mem_cons_of_mem _ (a36 h)
theorem a5i {m:List (Id×Option Id)} {i j:Id} (h:a03 m i=some (some j)):j∈images m:=List.mem_filterMap.2 ⟨(i,some j),a36 h,rfl⟩
theorem a7e:∀{m:List (Id×Option Id)} {i i' j:Id},(images m).Nodup->a03 m i=some (some j)->a03 m i'=some (some j)->i=i'
 |[],_,_,_,_,h,_=>by cases h
 |(a,b)::r,i,i',j,hn,h,h'=>by
  have hn':(images r).Nodup:=by
   cases b with
   |none=>exact hn
   |some b=>simp only [images,List.filterMap_cons,List.nodup_cons] at hn;exact hn.2
  unfold a03 at h h'
  split at h<;>split at h'
  ·rename_i e e';rw [e,e']
  ·cases h
   simp only [images,List.filterMap_cons,List.nodup_cons] at hn
   exact (hn.1 (a5i h')).elim
  ·cases h'
   simp only [images,List.filterMap_cons,List.nodup_cons] at hn
   exact (hn.1 (a5i h)).elim
  ·exact a7e hn' h h'
theorem a6k:∀{hp:List HO} {i:Id},(a2T hp i).live=true->∃o∈hp,o.id=i/\a2T hp i=o.ob
 |[],i,h=>by
  unfold a2T at h
  split at h<;>cases h
 |o::r,i,h=>by
  unfold a2T at h ⊢
  split
  ·rename_i e;exact ⟨o,List.mem_cons_self ..,e.symm,rfl⟩
  ·rename_i e
   rw [if_neg e] at h
   obtain ⟨o',h1,h2⟩:=a6k h
   exact ⟨o',List.mem_cons_of_mem _ h1,h2⟩
theorem b9D:∀(hp:List HO) (k:Nat),a2T hp (0,k)≠.a0b
 |[],k=>by simp [a2T]
 |o::r,k=>by
  unfold a2T
  split
  ·cases o<;>simp [HO.ob]
  ·exact b9D r k
theorem b0u:∀{hp:List HO} {i:Id},(∃o∈hp,o.id=i)->a2T hp i≠.a0b
 |[],_,h=>by simp at h
 |o::r,i,h=>by
  unfold a2T
  split
  ·cases o<;>simp [HO.ob]
  ·rename_i e
   obtain ⟨o',h1,h2⟩:=h
   rcases List.mem_cons.1 h1 with rfl|h1
   ·exact (e h2.symm).elim
   ·exact b0u ⟨o',h1,h2⟩
theorem b3k:∀{sl:List (Nat×AV)} {t:Nat},b8M sl t=.c .a4S\/(t,b8M sl t)∈sl
 |[],_=>.inl rfl
 |(d,v)::r,t=>by
  unfold b8M
  split
  ·rename_i e;subst e;exact .inr (List.mem_cons_self ..)
  ·exact (b3k (sl:=r)).imp id (List.mem_cons_of_mem _)
def a1i (ρ:Lies) (pm:PM):Lies:=fun i=>match a03 pm.m i with
 |some (some j)=>ρ j
 |_=>none
theorem c5b {C:Ctx P} {H Hv:Heap} {ρ:Lies} {pm:PM} {w:World} {F':Tag->Nat->Prop} (hH:a1A C H ρ w) (hF:∀t b,Fr C H ρ t b->F' t b) (hb:∀i j,a03 pm.m i=some j->Hv i≠.a0b)
  (hl:∀i j,a03 pm.m i=some (some j)->(H j).live=true) (hz:∀f e sz xs,f∈pm.z->H f=.arr e sz false xs->∀b c s,ρ f=some (b,c,s)->C.p<=b/\¬C.B b->F' .old b) {c c':AC} (h:MC H pm c c') :
  ∀{v:Value},a0C w (Fr C H ρ) H ρ c' v->a0C w F' Hv (a1i ρ pm) c v:=by
 induction h with
 |a4S c=>exact fun _=>.a4S _
 |raw v=>intro v h;cases h;exact .raw _
 |str l=>intro v h;cases h;exact .str _
 |so i i' o n hi=>
  intro v h
  cases h with
  |so _ _ _ _ hk hs=>
   refine .so _ _ _ _ (hb _ _ hi) fun _=>?_
   have:=hs (hl _ _ hi)
   unfold a1p a1i at *
   rw [hi];exact this
 |c5q i hi=>
  intro v h
  cases h
  refine .so _ _ _ _ (hb _ _ hi) fun _=>?_
  unfold a1p a1i
  rw [hi]
  exact ⟨rfl,rfl,.nil⟩
 |pt i i' a b hi=>
  intro v h
  cases h with
  |pt _ _ _ _ hk hs=>
   refine .pt _ _ _ _ (hb _ _ hi) fun _=>?_
   obtain ⟨b',cap,sz,h1,h2⟩:=hs (hl _ _ hi)
   refine ⟨b',cap,sz,?_,h2⟩
   unfold a1i
   rw [hi];exact h1
 |mr i i' hi=>
  intro v h
  cases h with
  |mr _ _ hk hs=>
   refine .mr _ _ (hb _ _ hi) fun _=>?_
   obtain ⟨b',cap,sz,h1,h2⟩:=hs (hl _ _ hi)
   refine ⟨b',cap,sz,?_,h2⟩
   unfold a1i
   rw [hi];exact h1
 |sl t cl cl' xs hc hx=>
  intro v h
  cases h with
  |a0H _ _ _ h=>exact .a0H _ _ _ h
  |sl _ _ _ b o cap sz vs hb' hF' hcap hcl hrow hcell hone hrel=>
   exact .sl t cl xs b o cap sz vs hb' (hF t b hF') hcap (fun e=>hcl (hc e)) hrow hcell hone fun i j r c hi hj=>(hrel i j r c hi hj).b0y (hx r (List.mem_of_getElem? hi) c (List.mem_of_getElem? hj)) fun t b _ q=>hF t b q
 |frz i e sz xs hi hx hz'=>exact fun {v} h=>b6g hH h hi hx hF (hz i e sz xs hz' hi)
 |a0H t=>intro v h;cases h;exact .a0H _ _ _ .nil
 |fn f cs cs' hlen hcs ih=>
  intro v h
  cases h with
  |fn _ _ vs hs hv=>
   refine .fn f cs vs (by omega) fun k c hk=>?_
   have hk':k<cs'.length:=by have:=(List.getElem?_eq_some_iff.1 hk).1;omega
   exact ih k c cs'[k] hk (List.getElem?_eq_getElem hk') (hv k _ (List.getElem?_eq_getElem hk'))
 |pv t r j hr=>
  intro v h
  cases h with
  |pv _ _ _ b o vs hb' hF' hcell hrel=>
   refine .pv t r j b o vs hb' (hF t b hF') hcell fun k c hk=>?_
   have h1:=hrel k c hk
   have h2:=hr c (List.mem_of_getElem? hk)
   generalize vs k=u at h1
   cases h1 with
   |raw=>exact .raw _
   |str l=>exact .str l
   |a0H t cl _ h=>exact .a0H t cl _ h
   |sl t cl xs b o cap sz vs hb' hF' hcap hcl hrow hcell hone hrel=>
    exact .sl t cl xs b o cap sz vs hb' (hF t b hF') hcap hcl hrow hcell hone fun i j r c hi hj=>(hrel i j r c hi hj).old (h2 r (List.mem_of_getElem? hi) c (List.mem_of_getElem? hj)) fun b q=>hF _ b q
   |_=>exact h2.elim
theorem a1A.same {C:Ctx P} {H:Heap} {ρ:Lies} {w:World} (h:a1A C H ρ w) {id j:Id} (hi:(H id).mut=true) (hj:(H j).mut=true) {b c s c' s':Nat} (r:ρ id=some (b,c,s)) (r':ρ j=some (b,c',s')):id=j:=by
 rcases a2o ⟨id,c,s,hi,r⟩ with _|_
 all_goals
  cases h1:H id with
  |arr e sz f rows=>
   rw [h1] at hi
   cases f with
   |true=>cases hi
   |false=>
    cases h2:H j with
    |arr e' sz' f' rows'=>exact h.inj id j e sz rows e' sz' f' rows' b c s c' s' h1 h2 r r'
    |mp ag es=>exact (h.apart h1 h2 r r').elim
    |_=>rw [h2] at hj;cases hj
  |mp ag es=>
   cases h2:H j with
   |arr e' sz' f' rows'=>exact (h.apart h2 h1 r' r).elim
   |mp ag' es'=>exact h.maps.inj id j ag es ag' es' b c s c' s' h1 h2 r r'
   |_=>rw [h2] at hj;cases hj
  |_=>rw [h1] at hi;cases hi
theorem b6M {C C2:Ctx P} {H:Heap} {ρ:Lies} {w:World} {hp:List HO} {pm:PM} (hw:C2.w0=C.w0) (hG:C2.G=C.G) (hB:∀b,C2.B b->C.B b\/∃id cap s,(H id).mut=true/\ρ id=some (b,cap,s)/\id ∉ images pm.m/\id ∉ pm.z)
  (hK:∀b,C2.B b->w.heap[b]?=C2.K b) (hH:a1A C H ρ w) (g2:∀o∈hp,MO H pm o) (k1:(images pm.m).Nodup) (k2:∀f∈pm.z,f ∉ images pm.m) (k3:∀q∈pm.m,∃o∈hp,o.id=q.1) :
  a1A C2 (a2T hp) (a1i ρ pm) w/\(∀{c c':AC} {v:Value},MC H pm c c'->a0C w (Fr C H ρ) H ρ c' v->a0C w (Fr C2 (a2T hp) (a1i ρ pm)) (a2T hp) (a1i ρ pm) c v)/\(∀t b,Fr C H ρ t b->Fr C2 (a2T hp) (a1i ρ pm) t b)/\
   ∀b,Mut (a2T hp) (a1i ρ pm) b->∃i j cap s,a03 pm.m i=some (some j)/\(H j).mut=true/\ρ j=some (b,cap,s):=by
 obtain ⟨w0,hI,G,X,kX,B,K⟩:=C2
 simp only at hw hG hB hK
 subst hw hG
 generalize hC2:(⟨C.w0,hI,C.G,X,kX,B,K⟩:Ctx P)=C2
 have ep:C2.p=C.p:=by subst hC2;rfl
 have eG:C2.G=C.G:=by subst hC2;rfl
 have eB:C2.B=B:=by subst hC2;rfl
 have eK:C2.K=K:=by subst hC2;rfl
 have ew:C2.w0=C.w0:=by subst hC2;rfl
 clear hC2
 have hob:∀i e sz f rows,a2T hp i=.arr e sz f rows->f=false/\((a03 pm.m i=some none/\rows=[])\/∃j rows',a03 pm.m i=some (some j)/\H j=.arr e sz false rows'/\
   rows.length=rows'.length/\∀(i:Nat) r r',rows[i]?=some r->rows'[i]?=some r'->r.length=r'.length/\∀(k:Nat) c c',r[k]?=some c->r'[k]?=some c'->MC H pm c c'):=fun i e sz f rows hi=>by
  obtain ⟨o,h1,rfl,h3⟩:=a6k (hp:=hp) (i:=i) (by rw [hi];rfl)
  rcases g2 o h1 with ⟨ag,es,j,q1,_⟩|⟨e',sz',rows',q1,q2⟩
  ·rw [hi,q1] at h3;cases h3
  ·rw [hi,q1] at h3
   cases h3
   exact ⟨rfl,q2⟩
 have hom:∀i ag es,a2T hp i=.mp ag es->∃j,a03 pm.m i=some (some j)/\H j=.mp ag es/\∀q∈es,a1L q.2:=fun i ag es hi=>by
  obtain ⟨o,h1,rfl,h3⟩:=a6k (hp:=hp) (i:=i) (by rw [hi];rfl)
  rcases g2 o h1 with ⟨ag,es,j,q1,q2,q3,q4⟩|⟨e',sz',rows',q1,q2⟩
  ·rw [hi,q1] at h3
   cases h3
   exact ⟨j,q2,q3,q4⟩
  ·rw [hi,q1] at h3;cases h3
 have b0w:∀b,Mut (a2T hp) (a1i ρ pm) b->∃i j cap s,a03 pm.m i=some (some j)/\(H j).mut=true/\ρ j=some (b,cap,s):=fun b m=>by
  rcases a2o m with ⟨i,e,sz,rows,cap,s,q1,q2⟩|⟨i,ag,es,cap,s,q1,q2⟩
  ·rcases (hob i e sz false rows q1).2 with ⟨q3,_⟩|⟨j,rows',q3,q4,_⟩
   ·unfold a1i at q2;rw [q3] at q2;cases q2
   ·unfold a1i at q2;rw [q3] at q2
    exact ⟨i,j,cap,s,q3,by rw [q4];rfl,q2⟩
  ·obtain ⟨j,q3,q4,_⟩:=hom i ag es q1
   unfold a1i at q2;rw [q3] at q2
   exact ⟨i,j,cap,s,q3,by rw [q4];rfl,q2⟩
 have d6r:∀t b,Fr C H ρ t b->¬C2.B b:=fun t b q hb=>by
  rw [eB] at hb
  rcases hB b hb with h|⟨id,c,s,h1,h2,_⟩
  ·exact q.1.2 h
  ·exact q.2 ⟨id,c,s,h1,h2⟩
 have hF:∀t b,Fr C H ρ t b->Fr C2 (a2T hp) (a1i ρ pm) t b:=fun t b q=>⟨⟨by rw [ep,eG];exact q.1.1,d6r t b q⟩,fun hm=>by
  obtain ⟨i,j,cap,s,_,q2,q3⟩:=b0w b hm
  exact q.2 ⟨j,cap,s,q2,q3⟩⟩
 have hb:∀i j,a03 pm.m i=some j->a2T hp i≠.a0b:=fun i j q=>b0u (k3 _ (a36 q))
 have hl:∀i j,a03 pm.m i=some (some j)->(H j).live=true:=fun i j q=>by
  obtain ⟨o,o1,o2⟩:=k3 _ (a36 q)
  simp only at o2
  rcases g2 o o1 with ⟨ag,es,j',q1,q2,q3,_⟩|⟨e,sz,rows,q1,q2⟩
  ·rw [o2,q] at q2;cases q2;rw [q3];rfl
  ·rw [o2,q] at q2
   rcases q2 with ⟨q2,_⟩|⟨j',rows',q2,q3,_⟩
   ·cases q2
   ·cases q2;rw [q3];rfl
 have hz:∀f e sz xs,f∈pm.z->H f=.arr e sz false xs->∀b c s,ρ f=some (b,c,s)->C.p<=b/\¬C.B b->Fr C2 (a2T hp) (a1i ρ pm) .old b:=fun f e0 sz0 xs0 hf hfa b c s q1 q2=>⟨⟨.inl (by rw [ep];exact q2.1),fun hb=>by
  rw [eB] at hb
  rcases hB b hb with h|⟨id,c',s',h1,h2,_,h4⟩
  ·exact q2.2 h
  ·have:=hH.same h1 (by rw [hfa];rfl) h2 q1
   subst this
   exact h4 hf⟩,fun hm=>by
  obtain ⟨i,j,cap,s',q3,q4,q5⟩:=b0w b hm
  have:j=f:=by
   cases ho:H j with
   |arr e sz fz rows=>
    rw [ho] at q4
    cases fz with
    |false=>exact hH.inj j f e sz rows e0 sz0 false xs0 b cap s' c s ho hfa q5 q1
    |true=>cases q4
   |mp ag es=>exact (hH.apart hfa ho q1 q5).elim
   |_=>rw [ho] at q4;cases q4
  subst this
  exact k2 j hf (a5i q3)⟩
 have tr:∀{c c':AC} {v:Value},MC H pm c c'->a0C w (Fr C H ρ) H ρ c' v->a0C w (Fr C2 (a2T hp) (a1i ρ pm)) (a2T hp) (a1i ρ pm) c v:=fun hm hv=>c5b hH hF hb hl hz hm hv
 refine ⟨⟨by rw [ep,ew];exact hH.below,fun i e sz f rows hi=>?_,fun i i' e sz rows e' sz' f' rows' b c s c' s' hi hi' q q'=>?_,?_,⟨fun i ag es q=>by
  obtain ⟨j,q1,q2,q3⟩:=hom i ag es q
  obtain ⟨b,c,s,E,e1,e2,e3,e4,e5⟩:=hH.maps.row j ag es q2
  refine ⟨b,c,s,E,by unfold a1i;rw [q1];exact e1,by rw [ep];exact e2,e3,e4,fun n key x hn=>?_⟩
  obtain ⟨m,m1,m2,m3,m4⟩:=e5 n key x hn
  exact ⟨m,m1,m2,m3,tr (b2n (q3 _ (List.mem_of_getElem? hn))) m4⟩,fun i1 i2 a1 e1 a2 e2 b c s c' s' q1 q2 r1 r2=>by
  obtain ⟨j1,p1,p2,_⟩:=hom i1 a1 e1 q1
  obtain ⟨j2,p3,p4,_⟩:=hom i2 a2 e2 q2
  unfold a1i at r1 r2
  rw [p1] at r1
  rw [p3] at r2
  have:=hH.maps.inj j1 j2 a1 e1 a2 e2 b c s c' s' p2 p4 r1 r2
  subst this
  exact a7e k1 p1 p3,fun b hb=>⟨by
  rw [eB] at hb
  rcases hB b hb with h|⟨id,c,s,h1,h2,_⟩
  ·exact (hH.maps.there b h).1
  ·exact (hH.a9k ⟨id,c,s,h1,h2⟩).2,by rw [eK];exact hK b (by rw [<-eB];exact hb)⟩,fun i b c s l r hb=>by
  rw [eB] at hb
  have fin:∀j,a03 pm.m i=some (some j)->(H j).mut=true->(H j).live=true->ρ j=some (b,c,s)->False:=fun j q3 q4 q5 r=>by
   rcases hB b hb with h|⟨id,c',s',h1,h2,h3,_⟩
   ·exact hH.maps.not j b c s q5 r h
   ·have:=hH.same h1 q4 h2 r
    subst this
    exact h3 (a5i q3)
  cases ho:a2T hp i with
  |arr e sz f rows=>
   rcases (hob i e sz f rows ho).2 with ⟨q3,_⟩|⟨j,rows',q3,q4,_⟩
   ·unfold a1i at r;rw [q3] at r;cases r
   ·unfold a1i at r;rw [q3] at r
    exact fin j q3 (by rw [q4];rfl) (by rw [q4];rfl) r
  |mp ag es=>
   obtain ⟨j,q3,q4,_⟩:=hom i ag es ho
   unfold a1i at r;rw [q3] at r
   exact fin j q3 (by rw [q4];rfl) (by rw [q4];rfl) r
  |_=>rw [ho] at l;cases l⟩⟩,tr,hF,b0w⟩
 ·obtain ⟨rfl,q⟩:=hob i e sz f rows hi
  rcases q with ⟨q1,rfl⟩|⟨j,rows',q1,q2,q3,q4⟩
  ·exact ⟨by simp,.inl ⟨by unfold a1i;rw [q1],rfl⟩⟩
  ·have hj:=hH.row j e sz false rows' q2
   have e1:a1i ρ pm i=ρ j:=by unfold a1i;rw [q1]
   have get:∀(k:Nat) r,rows[k]?=some r->∃r',rows'[k]?=some r'/\r.length=r'.length/\∀(a:Nat) c c',r[a]?=some c->r'[a]?=some c'->MC H pm c c':=fun k r hk=>by
    have hk':k<rows'.length:=by have:=(List.getElem?_eq_some_iff.1 hk).1;omega
    obtain ⟨g1,g2⟩:=q4 k r rows'[k] hk (List.getElem?_eq_getElem hk')
    exact ⟨_,List.getElem?_eq_getElem hk',g1,g2⟩
   refine ⟨fun k r hk=>?_,?_⟩
   ·obtain ⟨r',g1,g2,_⟩:=get k r hk
    rw [g2];exact hj.a2e k r' g1
   ·rcases hj.lies with ⟨g1,g2⟩|⟨b,cap,cur,g1,g2,g3,g4,g5,g6,g7⟩
    ·subst g2
     exact .inl ⟨by rw [e1,g1],List.eq_nil_of_length_eq_zero (by simpa using q3)⟩
    ·refine .inr ⟨b,cap,cur,by rw [e1,g1],by rw [ep];exact g2,g3,by omega,g5,g6,fun k a r c hk ha=>?_⟩
     obtain ⟨r',f1,f2,f3⟩:=get k r hk
     have ha':a<r'.length:=by have:=(List.getElem?_eq_some_iff.1 ha).1;omega
     obtain ⟨v,v1,v2,v3⟩:=g7 k a r' r'[a] f1 (List.getElem?_eq_getElem ha')
     exact ⟨v,v1,v2,tr (f3 a c r'[a] ha (List.getElem?_eq_getElem ha')) v3⟩
 ·rcases (hob i _ _ _ _ hi).2 with ⟨q3,_⟩|⟨j,r1,q3,q4,_⟩
  ·unfold a1i at q;rw [q3] at q;cases q
  ·obtain ⟨rfl,q5⟩:=hob i' _ _ _ _ hi'
   rcases q5 with ⟨q5,_⟩|⟨j',r2,q5,q6,_⟩
   ·unfold a1i at q';rw [q5] at q';cases q'
   ·unfold a1i at q q'
    rw [q3] at q
    rw [q5] at q'
    have:=hH.inj j j' _ _ _ _ _ _ _ b c s c' s' q4 q6 q q'
    subst this
    exact a7e k1 q3 q5
 ·have:∀l:List HO,∃N,∀k d,N<=k->a2T l (k,d)=.a0b:=fun l=>by
   induction l with
   |nil=>exact ⟨1,fun k d hk=>by simp [a2T];omega⟩
   |cons o r ih=>
    obtain ⟨N,hN⟩:=ih
    refine ⟨N+o.id.1+1,fun k d hk=>?_⟩
    unfold a2T
    rw [if_neg (fun e=>by rw [<-e] at hk;simp at hk;omega)]
    exact hN k d (by omega)
  exact this hp
theorem c5c {w:World} {F F':Tag->Nat->Prop} {H Hv:Heap} {ρ ρ':Lies} {pm:PM} (tr:∀{c c':AC} {v:Value},MC H pm c c'->a0C w F H ρ c' v->a0C w F' Hv ρ' c v) {x y:AV} {u:Value} (hm:MV H pm x y) (h:a2f w F H ρ y u):a2f w F' Hv ρ' x u:=by
 have cells:∀(xs ys:List AC) (vs:Array Value),vs.size=ys.length->xs.length=ys.length->(∀(k:Nat) c c',xs[k]?=some c->ys[k]?=some c'->MC H pm c c')->(∀(k:Nat) c,ys[k]?=some c->a0C w F H ρ c (vs.getD k undef))->
   vs.size=xs.length/\∀(k:Nat) c,xs[k]?=some c->a0C w F' Hv ρ' c (vs.getD k undef):=fun xs ys vs h1 h2 h3 h4=>⟨by omega,fun k c hk=>by
  have hk':k<ys.length:=by have:=(List.getElem?_eq_some_iff.1 hk).1;omega
  exact tr (h3 k c ys[k] hk (List.getElem?_eq_getElem hk')) (h4 k _ (List.getElem?_eq_getElem hk'))⟩
 rcases hm with h1|⟨x,y,rfl,rfl,h3⟩|⟨xs,ys,rfl,rfl,h3,h4⟩|⟨xs,ys,rfl,rfl,h3,h4⟩
 ·rw [h1];exact .c _ _ (.a4S _)
 ·exact .c _ _ (tr h3 (a0m h))
 ·cases h with
  |g _ vs hs hv=>
   obtain ⟨q1,q2⟩:=cells xs ys vs hs h3 h4 hv
   exact .g xs vs q1 q2
 ·cases h with
  |t _ vs hs hv=>
   refine .t xs vs (by omega) fun j b cs hj=>?_
   have hj':j<ys.length:=by have:=(List.getElem?_eq_some_iff.1 hj).1;omega
   obtain ⟨b',cs',hy'⟩:∃b' cs',ys[j]?=some (b',cs'):=⟨ys[j].1,ys[j].2,List.getElem?_eq_getElem hj'⟩
   obtain ⟨rfl,g1,g2⟩:=h4 j b cs b' cs' hj hy'
   have:=hv j b cs' hy'
   generalize vs.getD j undef=u at this
   cases this with
   |c x _ hx=>
    match cs,g1 with
    |[y],_=>exact .c _ _ (tr (g2 0 y x rfl rfl) hx)
   |g _ us hu hh=>
    obtain ⟨q1,q2⟩:=cells cs cs' us hu g1 g2 hh
    exact .g _ _ q1 q2
theorem b8O {H:Heap} {ρ:Lies} {hp:List HO} {pm:PM} (g2:∀o∈hp,MO H pm o) (k4:pmA pm.m) (k:Nat):a2T hp (0,k)≠.a0b/\((a2T hp (0,k)).live=true->(H (0,k)).live=true/\a1i ρ pm (0,k)=ρ (0,k)):=by
 refine ⟨b9D hp k,fun hl=>?_⟩
 obtain ⟨o,o1,o2,o3⟩:=a6k hl
 have key:∀j,a03 pm.m (0,k)=some j->j=some (0,k):=fun j hj=>b6J k4 _ _ (a36 hj) rfl
 rcases g2 o o1 with ⟨ag,es,j,q1,q2,q3,_⟩|⟨e,sz,rows,q1,⟨q2,_⟩|⟨j,rows',q2,q3,_⟩⟩
 ·rw [o2] at q2
  cases key _ q2
  exact ⟨by rw [q3];rfl,by unfold a1i;rw [q2]⟩
 ·rw [o2] at q2
  cases key _ q2
 ·rw [o2] at q2
  cases key _ q2
  exact ⟨by rw [q3];rfl,by unfold a1i;rw [q2]⟩
def c1m:List HO->List (Id×Option Id)
 |[]=>[]
 |o::r=>if o.id.1=0 then (o.id,some o.id)::c1m r else c1m r
theorem a0B {sl:List (Nat×AV)} {hp:List HO} {T:Nat} {st:St} (hn:st.n=true) (h:mSl st sl ⟨c1m hp,[]⟩ fun pm=>mHo st.H hp pm fun pm=>d1Z hp pm/\pmA pm.m):a6c P (mkS sl hp T) st:=by
 refine .inr ⟨hn,fun C hC ρ a w hr=>?_⟩
 obtain ⟨p1,_,h,g1⟩:=b6K h
 obtain ⟨pm,l1,⟨⟨k1,k2,k3⟩,k4⟩,g2⟩:=b6L h
 replace k2:=b9z k2
 replace k3:=b3i k3
 replace g1:=g1 pm l1
 replace g2:=g2 pm (.refl _)
 obtain ⟨hR,tr,hF,_⟩:=b6M (C2:=C) rfl rfl (fun b hb=>.inl hb) (fun b hb=>(hr.heap.maps.there b hb).2) hr.heap g2 k1 k2 k3
 have outer:=b8O (ρ:=ρ) g2 k4
 refine ⟨a1i ρ pm,⟨hR,fun t=>?_,hr.a6a,hC hF outer hr.ghost,fun _=>hC⟩⟩
 ·show a2f w _ _ _ (b8M sl t) _
  rcases b3k (sl:=sl) (t:=t) with h0|h0
  ·rw [h0];exact .c _ _ (.a4S _)
  ·have:=hr.slot t
   generalize a.tmps.getD t undef=u at this
   exact c5c tr (g1 t _ h0) this
open Go
variable {P:Program} {F:CT} {st:St}
theorem vl {ι:Type} (I:ι->Prop) (v:ι->St) (μ:ι->Nat) (i:ι) {x:SC} {Q:AEx->St->Prop} (hi:I i) (h0:a6c P (v i) st)
  (h:∀i,I i->∀J:St->Prop,(∀j,I j->μ j<μ i->∀s,a6c P (v j) s->J s)->a14 P F x (a2V J Q) (v i)):a14 P F (.loop x) Q st:=
 ⟨{i // I i},fun i=>v i.1,fun i=>μ i.1,⟨i,hi⟩,h0,fun i=>a2A (h i.1 i.2 _ fun j hj hlt s hs=>⟨⟨j,hj⟩,hlt,hs⟩)⟩
theorem vs {ι:Type} (I:ι->Prop) (v:ι->St) {x y:SC} {Q:AEx->St->Prop} (h1:∀J:St->Prop,(∀j,I j->∀s,a6c P (v j) s->J s)->a14 P F x (a2V J Q) st) (h2:∀j,I j->a4G P F y Q (v j)):a4G P F (.seq x y) Q st:=by
 show a4G P F x _ st
 refine a1w (fun e st' q=>?_) (a2A (h1 (fun s=>∃j,I j/\a6c P (v j) s) fun j hj s hs=>⟨j,hj,hs⟩))
 cases e with
 |normal=>obtain ⟨j,g1,g2⟩:=q;exact ⟨v j,g2,h2 j g1⟩
 |_=>exact q
section
variable {sl:List (Nat×AV)} {hp:List HO} {T:Nat} {pm:PM} {K:PM->Prop} {H:Heap} {m:List (Id×Option Id)} {z:List Id} {i j:Id} {o:Option Id}
@[simp] theorem d5O:(mkS sl hp T).s=b8M sl:=(rfl)
@[simp] theorem d5P:(mkS sl hp T).H=a2T hp:=(rfl)
@[simp] theorem d5Q:(mkS sl hp T).T=T:=(rfl)
@[simp] theorem d2a {d t:Nat} {v:AV} {r:List (Nat×AV)}:b8M ((d,v)::r) t=if t=d then v else b8M r t:=(rfl)
@[simp] theorem d2b:a2T [] i=if i.1=0 then .dead else .a0b:=(rfl)
@[simp] theorem d2c {e sz:Nat} {xs:List (List AC)} {r:List HO}:a2T (.rows i e sz xs::r) j=if j=i then .arr e sz false xs else a2T r j:=(rfl)
@[simp] theorem d2d {e:Nat} {c:List AC} {r:List HO}:a2T (.var i e c::r) j=if j=i then .arr e c.length false [c] else a2T r j:=(rfl)
theorem d0C:bd i o ⟨m,z⟩ K=match a03 m i with
 |none=>K ⟨(i,o)::m,z⟩
 |some j'=>o=j'/\K ⟨m,z⟩:=rfl
theorem c5d (h:a03 m i=none):bd i o ⟨m,z⟩ K=K ⟨(i,o)::m,z⟩:=by rw [d0C,h]
@[simp] theorem d2e:c1m []=[]:=(rfl)
@[simp] theorem d2f {o:HO} {r:List HO}:c1m (o::r)=if o.id.1=0 then (o.id,some o.id)::c1m r else c1m r:=(rfl)
@[simp] theorem d5R:mSl st [] pm K=K pm:=(rfl)
@[simp] theorem d5S {d:Nat} {v:AV} {r:List (Nat×AV)}:mSl st ((d,v)::r) pm K=mV st.H v (st.s d) pm fun pm=>mSl st r pm K:=(rfl)
@[simp] theorem d5T:mHo H [] pm K=K pm:=(rfl)
@[simp] theorem d5U {o:HO} {r:List HO}:mHo H (o::r) pm K=mO H o pm fun pm=>mHo H r pm K:=(rfl)
@[simp] theorem d6Y {x y:AC}:mV H (.c x) (.c y) pm K=mC H x y pm K:=by
 cases x<;>first|rfl|simp [mV,mC]
@[simp] theorem d6Z:mL H [] [] pm K=K pm:=by simp [mL]
@[simp] theorem d7a {c c':AC} {r r':List AC}:mL H (c::r) (c'::r') pm K=mC H c c' pm fun pm=>mL H r r' pm K:=by simp [mL]
@[simp] theorem d2g {v v':Value}:mC H (.raw v) (.raw v') pm K=(v=v'/\K pm):=by simp [mC]
@[simp] theorem d5V {a b a' b':Nat}:mC H (.so i a b) (.so j a' b') pm K=((a=a'/\b=b')/\bd i (some j) pm K):=by simp [mC]
@[simp] theorem d2h {a b:Nat} {v:Value}:mC H (.so i a b) (.raw v) pm K=((v=.slice none 0 0/\a=0/\b=0)/\bd i none pm K):=by simp [mC]
@[simp] theorem d5W {a b a' b':Nat}:mC H (.pt i a b) (.pt j a' b') pm K=((a=a'/\b=b')/\bd i (some j) pm K):=by simp [mC]
@[simp] theorem d5X {t t':Tag} {cl cl':Bool} {xs xs':List (List AC)}:mC H (.sl t cl xs) (.sl t' cl' xs') pm K=((t=t'/\(cl=true->cl'=true)/\xs=xs'/\a1t xs)/\K pm):=by simp [mC]
@[simp] theorem d2i {t:Tag} {cl:Bool} {xs:List (List AC)} {o n:Nat}:mC H (.sl t cl xs) (.so i o n) ⟨m,z⟩ K=((t=.old/\cl=false/\o=0/\n=xs.length/\(∃e sz,H i=.arr e sz false xs)/\a1t xs)/\K ⟨m,i::z⟩):=by simp [mC]
def atR (H:Heap) (e sz:Nat) (xs:List (List AC)) (K:Prop):Option (Option Id)->Prop
 |some (some j)=>(H j=.arr e sz false xs/\a1t xs)/\K
 |some none=>xs=[]/\K
 |none=>False
@[simp] theorem d7b {e sz:Nat} {xs:List (List AC)}:mO H (.rows i e sz xs) pm K=atR H e sz xs (K pm) (a03 pm.m i):=by
 simp only [mO];split<;>simp_all [atR]
@[simp] theorem d5Y {e sz:Nat} {xs:List (List AC)} {K:Prop}:atR H e sz xs K (some (some j))=((H j=.arr e sz false xs/\a1t xs)/\K):=(rfl)
@[simp] theorem d5Z {e sz:Nat} {xs:List (List AC)} {K:Prop}:atR H e sz xs K (some none)=(xs=[]/\K):=(rfl)
def atO (H:Heap) (e:Nat) (r:List AC) (pm:PM) (K:PM->Prop):OK->Prop
 |.arr e' sz' false [r']=>(e=e'/\sz'=r.length)/\mL H r r' pm K
 |_=>False
def atV (H:Heap) (e:Nat) (r:List AC) (pm:PM) (K:PM->Prop):Option (Option Id)->Prop
 |some (some j)=>atO H e r pm K (H j)
 |_=>False
@[simp] theorem d7c {e:Nat} {r:List AC}:mO H (.var i e r) pm K=atV H e r pm K (a03 pm.m i):=by
 simp only [mO]
 rcases a03 pm.m i with _|_|j
 ·rfl
 ·rfl
 ·rcases h:H j with _|_|⟨e',sz',f,rows⟩<;>simp only [atV,atO,h]
  all_goals (rcases rows with _|⟨r',_|⟨r2,rest⟩⟩<;>cases f<;>rfl)
@[simp] theorem d6a {e:Nat} {r:List AC}:atV H e r pm K (some (some j))=atO H e r pm K (H j):=(rfl)
@[simp] theorem d6b {e e' sz':Nat} {r r':List AC}:atO H e r pm K (.arr e' sz' false [r'])=((e=e'/\sz'=r.length)/\mL H r r' pm K):=(rfl)
@[simp] theorem d0D:a03 [] i=none:=(rfl)
@[simp] theorem d0E {m:List (Id×Option Id)}:a03 ((j,o)::m) i=if i=j then some o else a03 m i:=(rfl)
@[simp] theorem c18:a1t []=True:=by simp [a1t]
@[simp] theorem c1n {α:Type} [Enc α] {l:List α}:a1t (a0a l)=True:=by simp only [a1t,eq_iff_iff];exact b5m
@[simp] theorem c19 {a b:List (List AC)}:a1t (a++b)=(a1t a/\a1t b):=by simp only [a1t,List.mem_append,or_imp,forall_and]
@[simp] theorem c8f {r:List AC} {l:List (List AC)}:a1t (r::l)=((∀c∈r,a1L c)/\a1t l):=by simp only [a1t,List.mem_cons,or_imp,forall_and,forall_eq]
theorem b6N {α:Type} [Enc α] (a:α) (l:List α):a0a (a::l)=Enc.row a::a0a l:=by simp [a0a]
@[simp] theorem c8g:images []=[]:=(rfl)
@[simp] theorem c8h {m:List (Id×Option Id)}:images ((i,some j)::m)=j::images m:=(rfl)
@[simp] theorem c8i {m:List (Id×Option Id)}:images ((i,none)::m)=images m:=(rfl)
end
attribute [simp] a3O a3P a4a c5d d1Z HO.id b6I b8N pmZ pmA
open Go
variable {P:Program}
structure VFr (C:Ctx P) (hp hp':List HO) (ρ ρ':Lies) (w w':World):Prop where
 size:w.heap.size<=w'.heap.size
 blk:∀t b,Fr C (a2T hp) ρ t b->b<w.heap.size->Fr C (a2T hp') ρ' t b/\w'.heap[b]?=w.heap[b]?
 own:∀k,(a2T hp' (0,k)).live=true->(a2T hp (0,k)).live=true/\ρ' (0,k)=ρ (0,k)
def nmC (hp:List HO):AC->Prop
 |.raw _|.str _|.a4S=>True
 |.so i _ _|.pt i _ _|.mr i=>b6I hp i
 |.sl t _ xs=>t≠.brw/\a1t xs
 |_=>False
def HO.ok (hp:List HO):HO->Prop
 |.rows _ _ _ xs=>a1t xs
 |.var _ _ r=>∀c∈r,nmC hp c
 |.snoc _ _ _ xs r=>a1t xs/\∀c∈r,nmC hp c
 |.map _ _ es=>∀q∈es,a1L q.2
 |.tab _ _ _ rr=>∀r∈rr,∀c∈r,nmC hp c
def d2j (hp:List HO):List HO->Prop
 |[]=>True
 |o::r=>o.ok hp/\d2j hp r
def takes (ret:AV) (hp':List HO):Prop:=(∀c∈ret.flat,nmC hp' c)/\d2j hp' hp'/\(hp'.map HO.id).Nodup
def VC (P:Program) (f:FuncId) (args:List AV) (hp:List HO) (ret:AV) (hp':List HO):Prop:=
 a3k P f=true/\takes ret hp'/\∀(C:Ctx P) (ρ:Lies) (w:World) (vs:Array Value),a1A C (a2T hp) ρ w->vs.size=args.length->
  (∀(k:Nat) x,args[k]?=some x->a2f w (Fr C (a2T hp) ρ) (a2T hp) ρ x (vs.getD k undef))->
  Calls P f vs w fun e w'=>∃v,e=.returned v/\∃ρ',a1A C (a2T hp') ρ' w'/\a2f w' (Fr C (a2T hp') ρ') (a2T hp') ρ' ret v/\VFr C hp hp' ρ ρ' w w'
open Go
variable {P:Program}
def gV (m:List (Id×Option Id)) (nm:Nat->Id):Id->Id:=fun i=>if i.1=0 then ((a03 m i).getD none).getD i else nm i.2
open Go
variable {P:Program} {F:CT} {st:St}
def mI (l:List (List Int×Int)):List (List Int×AC):=l.map fun q=>(q.1,.raw (.int .i64 q.2))
def lk (l:List (List Int×Int)) (k:List Int):Option Int:=(l.find? fun q=>q.1==k).map (·.2)
def pt (l:List (List Int×Int)) (k:List Int) (n:Int):List (List Int×Int):=
 match l.findIdx? fun q=>q.1==k with
 |some i=>l.set i (k,n)
 |none=>l++[(k,n)]
section
variable {hp r:List HO} {pm:PM} {K:PM->Prop} {H:Heap} {i j:Id} {m:List (Id×Option Id)} {g:Id->Id}
end
attribute [simp] takes
open Go
variable {P:Program}
def c8j (P:Program) (fn:Func) (ret:AV) (e:AEx) (st:St):Prop:=∃v,a6c P v st/\b8U P fn ret e v
theorem d2k {C:Ctx P} {n:Nat} {K:St->Prop} {a:Act} {w:World} (h:a1o C n (fun st=>∃v,a6c P v st/\K v) a w):a1o C n K a w:=by
 obtain ⟨h1,ρ,st,hr,v,hs,hk⟩:=h
 rcases hs with rfl|⟨hn,hs⟩
 ·exact ⟨h1,ρ,_,hr,hk⟩
 ·obtain ⟨ρ',hr'⟩:=hs C (hr.nf hn) ρ a w hr
  exact ⟨h1,ρ',v,hr',hk⟩
theorem b6O {fn:Func} {ret:AV} {e:AEx} {st:St} (v:St) (h:a6c P v st) (hk:b8U P fn ret e v):c8j P fn ret e st:=⟨v,h,hk⟩
theorem c1o {fn:Func} {ret:AV} {e:AEx} {st st':St} (h:st=st'):c8j P fn ret e st=c8j P fn ret e st':=by rw [h]
attribute [congr] c1o
open Go
variable {P:Program}
theorem b8P (hm:P.follows .mixedOrders=true) {F:CT} (hF:a07 P F) {f:FuncId} {fn:Func} {s:SC} {args:List AV} {ret:AV} (hf:P.funcs[f]?=some fn) (hs:a0r fn.body s=some (unK s,true))
  (hok:a0R a0q fn 0=true) (hle:Nat.ble args.length fn.ntmps=true) (hret:∀c∈ret.flat,a6v c) (harg:∀x∈args,∀c∈x.flat,VOK c) (h:a4G P F s (c8j P fn ret) (a4Y args)):PEv P f args ret:=by
 cases hb:fn.body with
 |none=>rw [hb] at hs;cases hs
 |some c=>
  rw [hb] at hs
  simp only [a0r,Option.map_some,Option.some.injEq,Prod.mk.injEq] at hs
  simp only [a0R,hb,Bool.and_eq_true,decide_eq_true_eq,bne_iff_ne,ne_eq] at hok
  obtain ⟨⟨hname,hcode⟩,_⟩:=hok
  have hle:=Nat.le_of_ble_eq_true hle
  refine ⟨⟨by simp [a3k,hf,hb,hname],hret,harg⟩,fun w hI G vs hsz hargs nm inj=>?_⟩
  refine calls_of_wp hf hb (Code.wp_mono (fun e a w' q=>?_) (a1M a0q (a8y hm) c fn.ntmps _ a0t (a4Y args) _ w hcode (by simp;omega) (b0O hsz hargs) (a1C hF hs.1 hs.2 h)))
  have fin:a1o (Ctx.of w hI G) fn.ntmps (fun st=>∃res,b4y P st fn.results.toList=some res/\exV st.H res ret/\(a1j res.flat).Nodup) a w'->
    a.defers=[]/\∃v,(results fn a.tmps).run P w'=.ok v w'/\(∃v',Ending.returned v=.returned v'/\∃ρ,a1A (Ctx.of w hI G) (adH nm 0 ret.flat a0j) ρ w'/\
     a2f w' (Fr (Ctx.of w hI G) (adH nm 0 ret.flat a0j) ρ) (adH nm 0 ret.flat a0j) ρ (ret.ad nm) v'):=fun ⟨_,ρ,st,hr,res,g1,g2,g3⟩=>by
   obtain ⟨v,h1,h2⟩:=a4c hr g1
   obtain ⟨ρ',h3,h4⟩:=a5q hr h2 hret g2 g3 nm inj
   exact ⟨hr.a6a,v,h1,v,rfl,ρ',h3,h4⟩
  cases e with
  |normal=>exact fin (a1o.mono (d2k q) fun st hs=>hs.2)
  |ret=>exact fin (a1o.mono (d2k q) fun st hs=>hs.2)
  |exit id=>
   obtain ⟨_,_,_,_,hs⟩:=q
   obtain ⟨v,_,hs⟩:=hs
   exact hs.1.elim
  |_=>exact q.elim
theorem v1 {F:CT} (v:St) {x y:SC} {Q:AEx->St->Prop} {st:St} (h1:∀J:St->Prop,(∀s,a6c P v s->J s)->a14 P F x (a2V J Q) st) (h2:a4G P F y Q v):a4G P F (.seq x y) Q st:=
 vs (ι:=Unit) (fun _=>True) (fun _=>v) (fun J hJ=>h1 J fun s hs=>hJ () trivial s hs) fun _ _=>h2
open Go
variable {P:Program}
theorem vsC {F:CT} {ι:Type} (I:ι->Prop) (v:ι->St) {x y:SC} {Q:AEx->St->Prop} {st:St} (h1:∀J:St->Prop,(∀j,I j->∀s,a6c P (v j) s->J s)->a4G P F x (a2V J Q) st) (h2:∀j,I j->a4G P F y Q (v j)):a4G P F (.seq x y) Q st:=by
 show a4G P F x _ st
 refine a1w (fun e st' q=>?_) (h1 (fun s=>∃j,I j/\a6c P (v j) s) fun j hj s hs=>⟨j,hj,hs⟩)
 cases e with
 |normal=>obtain ⟨j,g1,g2⟩:=q;exact ⟨v j,g2,h2 j g1⟩
 |_=>exact q
theorem v1C {F:CT} (v:St) {x y:SC} {Q:AEx->St->Prop} {st:St} (h1:∀J:St->Prop,(∀s,a6c P v s->J s)->a4G P F x (a2V J Q) st) (h2:a4G P F y Q v):a4G P F (.seq x y) Q st:=
 vsC (ι:=Unit) (fun _=>True) (fun _=>v) (fun J hJ=>h1 J fun s hs=>hJ () trivial s hs) fun _ _=>h2
theorem a9d {F:CT} {id:Nat} {x:SC} {Q:AEx->St->Prop} {st:St} (h:a4G P F x (a2M id Q) st):a4G P F (.block id x) Q st:=h
theorem vlc {F:CT} {ι:Type} (I:ι->Prop) (v:ι->St) (μ:ι->Nat) (i:ι) {x:SC} {Q:AEx->St->Prop} {st:St} (hi:I i) (h0:a6c P (v i) st)
  (h:∀i,I i->∀J:St->Prop,(∀j,I j->μ j<μ i->∀s,a6c P (v j) s->J s)->a4G P F x (a2V J Q) (v i)):a14 P F (.loop x) Q st:=
 ⟨{i // I i},fun i=>v i.1,fun i=>μ i.1,⟨i,hi⟩,h0,fun i=>h i.1 i.2 _ fun j hj hlt s hs=>⟨⟨j,hj⟩,hlt,hs⟩⟩
end Go.AE
