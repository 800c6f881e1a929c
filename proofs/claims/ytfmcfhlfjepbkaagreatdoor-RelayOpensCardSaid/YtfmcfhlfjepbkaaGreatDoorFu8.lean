/- DiskStays: what is heavy; what stays. -/
import Derived.Test.YtfmcfhlfjepbkaaGreatDoorFu4
import Derived.Test.YtfmcfhlfjepbkaaGreatDoorFu6
import Derived.Test.YtfmcfhlfjepbkaaGreatDoorFu7
set_option linter.unusedVariables false
set_option linter.unusedSimpArgs false
set_option maxHeartbeats 4000000
set_option maxRecDepth 1000000
namespace Go.AE
open Go
theorem c1Z {e:a0i}:2<=(a0V e).length:=by
 have one:∀n,1<=(a0h n).length:=fun n=>by
  show 1<=(a1d 9 n).length
  rw [a1d];split<;>simp
 unfold a0V
 split
 ·have:=one 1;have:=one e.a0H.toNat
  simp only [List.length_append];omega
 ·have:=one 0
  have:1<=(a05 e.op).length:=by
   have:=one e.op.site.toNat
   unfold a05
   split<;>simp [a4c,a2d]<;>omega
  simp only [List.length_append];omega
theorem b6C {n:Nat} (h:n<=700):a0h n=if n<128 then [UInt8.ofNat n] else [UInt8.ofNat (n%128+128),UInt8.ofNat (n/128)]:=by
 show a1d 9 n=_
 rw [a1d]
 split
 ·rfl
 ·rw [a1d,if_pos (by omega)]
open Go
def c0I (e:a0i):Prop:=a0J e=true/\(a0j e).2=0
def chunk (B:List UInt8) (i k:Nat):List (List UInt8):=(List.range k).map fun j=>a7c B (i+j)
theorem a6y (B:List UInt8) (i k:Nat):chunk B i (k+1)=a7c B i::chunk B (i+1) k:=by
 simp only [chunk,List.range_succ_eq_map,List.map_cons,List.map_map,Nat.add_zero]
 congr 1
 apply List.map_congr_left
 intro j _
 simp only [Function.comp,Nat.succ_eq_add_one]
 rw [show i+(j+1)=i+1+j by omega]
theorem c5s (B:List UInt8) (i k:Nat):(chunk B i k).length=k:=by simp [chunk]
theorem b12 {B:List UInt8}:∀(k i:Nat),32*(i+k)<=B.length->secs (chunk B i k)
 |0,i,_=>by simp [chunk,secs]
 |k+1,i,h=>by
  rw [a6y]
  intro x hx
  rcases List.mem_cons.1 hx with rfl|hx
  ·exact a9l (by omega)
  ·exact b12 k (i+1) (by omega) x hx
theorem b13 {B:List UInt8}:∀(k i:Nat),32*(i+k)=B.length->(chunk B i k).flatten=B.drop (32*i)
 |0,i,h=>by simp [chunk];omega
 |k+1,i,h=>by
  rw [a6y,List.flatten_cons,b13 k (i+1) (by omega),a7c]
  rw [show 32*(i+1)=32*i+32 by omega,<-List.drop_drop,List.take_append_drop]
def szE (e:a0i):Nat:=(a0j e).1.length/32
def frS (e:a0i):List (List UInt8):=chunk (a0j e).1 0 (szE e)
theorem a3M (e:a0i):(frS e).length=szE e:=c5s _ _ _
theorem a7Q {e:a0i} (h:(a0j e).2=0):(a0V e).length<=700/\(a0j e).1=a8n (a1e (a0V e)):=by
 unfold a0j at h ⊢
 split at h
 ·cases h
 ·rename_i c;rw [if_neg c];exact ⟨by omega,rfl⟩
theorem a7R {e:a0i} (h:(a0j e).2=0):1<=szE e/\szE e<=23/\32*szE e=(a0j e).1.length:=by
 obtain ⟨h1,h2,h3⟩:=a6s h
 obtain ⟨h4,h5⟩:=a7Q h
 have:=a6L h4
 rw [<-h5] at this
 unfold szE
 omega
theorem c0J {e:a0i} (h:(a0j e).2=0):secs (frS e):=b12 _ _ (by have:=(a7R h).2.2;omega)
theorem c0K {e:a0i} (h:(a0j e).2=0):(frS e).flatten=(a0j e).1:=by
 rw [frS,b13 _ 0 (by have:=(a7R h).2.2;omega)];rfl
theorem c0L {e:a0i} (h:(a0j e).2=0):∃x l,frS e=x::l/\x≠blank:=by
 obtain ⟨h1,h2,h3⟩:=a7R h
 obtain ⟨h4,h5⟩:=a7Q h
 obtain ⟨k,hk⟩:∃k,szE e=k+1:=⟨szE e-1,by omega⟩
 refine ⟨a7c (a0j e).1 0,chunk (a0j e).1 1 k,by rw [frS,hk,a6y],fun hb=>?_⟩
 have h0:(a7c (a0j e).1 0)[0]?=(a0j e).1[0]?:=by simp [a7c,List.getElem?_take]
 rw [hb,h5,a8n,a1e,if_neg (by omega),b6C h4] at h0
 have hp2:=c1Z (e:=e)
 split at h0
 ·simp [blank] at h0
  have:=congrArg UInt8.toNat h0
  simp at this
  omega
 ·simp [blank] at h0
  have:=congrArg UInt8.toNat h0
  simp at this
  omega
def a19 (l:List a0i):List (List UInt8):=l.flatMap frS
theorem a2a (e:a0i) (l:List a0i):a19 (e::l)=frS e++a19 l:=by simp [a19]
theorem a9n (l l':List a0i):a19 (l++l')=a19 l++a19 l':=by simp [a19]
theorem b6D {l:List a0i} (h:∀e∈l,c0I e):secs (a19 l):=by
 intro x hx
 simp only [a19,List.mem_flatMap] at hx
 obtain ⟨e,he,hx⟩:=hx
 exact c0J (h e he).2 x hx
theorem c8e (l:List a0i) (h:∀e∈l,c0I e):l.length<=(a19 l).length:=by
 induction l with
 |nil=>simp
 |cons e l ih=>
  rw [a2a,List.length_append,a3M,List.length_cons]
  have:=(a7R (h e (by simp)).2).1
  have:=ih fun x hx=>h x (by simp [hx])
  omega
def stops (R:List (List UInt8)):Prop:=R=[]\/(a0U (R.take 23).flatten).2.2=false
theorem c11 {R:List (List UInt8)} (h:stops R) (k a:Nat):a1R k R a=([],a):=by
 cases k with
 |zero=>rfl
 |succ k=>
  rw [a1R]
  split
  ·rfl
  ·rename_i hne
   rw [if_neg (by simp [h.resolve_left hne])]
theorem b6E:∀(l:List a0i) (k a:Nat) (R:List (List UInt8)),(∀e∈l,c0I e)->secs R->stops R->l.length<=k->a1R k (a19 l++R) a=(l,a+(a19 l).length)
 |[],k,a,R,_,_,hs,_=>by rw [show a19 []=[] from rfl,List.nil_append,c11 hs];rfl
 |e::l,k,a,R,h,hR,hs,hk=>by
  obtain ⟨k,rfl⟩:∃j,k=j+1:=⟨k-1,by simp at hk;omega⟩
  have he:=h e (by simp)
  have hl:∀x∈l,c0I x:=fun x hx=>h x (by simp [hx])
  obtain ⟨z1,z2,z3⟩:=a7R he.2
  have hlen:=a3M e
  have hw:((a19 (e::l)++R).take 23).flatten=(a0j e).1++((a19 l++R).take (23-szE e)).flatten:=by
   rw [a2a,List.append_assoc,List.take_append,List.take_of_length_le (by omega),List.flatten_append,c0K he.2,hlen]
  have hd:(a19 (e::l)++R).drop (szE e)=a19 l++R:=by
   rw [a2a,List.append_assoc];exact List.drop_left' hlen
  have hne:a19 (e::l)++R≠[]:=by
   obtain ⟨x,t,hx,_⟩:=c0L he.2
   rw [a2a,hx];simp
  rw [a1R,if_neg hne,hw,c5r he.1 he.2]
  simp only [if_true]
  rw [show (a0j e).1.length/32=szE e from rfl,hd,b6E l k (a+szE e) R hl hR hs (by simpa using hk),a2a,List.length_append,hlen]
  simp only [Nat.add_assoc]
theorem a6e:∀(k:Nat) (l:List (List UInt8)) (a:Nat),secs l->∃R,l=a19 (a1R k l a).1++R/\(∀e∈(a1R k l a).1,c0I e)/\(a1R k l a).2=a+(a19 (a1R k l a).1).length
 |0,l,a,_=>⟨l,rfl,by simp [a1R],by simp [a1R,a19]⟩
 |k+1,l,a,h=>by
  rw [a1R]
  split
  ·exact ⟨l,rfl,by simp,by simp [a19]⟩
  ·split
   ·rename_i hne hf
    have hfit:c0I (a0U (l.take 23).flatten).1/\(a0U (l.take 23).flatten).2.1=szE (a0U (l.take 23).flatten).1/\∃z,(l.take 23).flatten=(a0j (a0U (l.take 23).flatten).1).1++z:=by
     have hm:=(b1V hf).1
     have hz:=b0j hf
     unfold a0U at hf hm hz ⊢
     cases hq:a2Y (l.take 23).flatten with
     |none=>simp [hq] at hf
     |some q=>
      obtain ⟨t,r⟩:=q
      obtain ⟨_,ht7⟩:=a6r hq
      simp only [hq] at hf hm hz ⊢
      by_cases hr:(a2i t).2=true
      ·rw [if_pos hr] at hf hm hz
       rw [if_pos hr]
       refine ⟨⟨hm,?_⟩,rfl,?_⟩
       ·rw [a0j,a9j hr,if_neg (by omega)]
       ·have:(a0j (a2i t).1).1 <+: (l.take 23).flatten:=List.isPrefixOf_iff_prefix.1 hf
        obtain ⟨z,hz⟩:=this
        exact ⟨z,hz.symm⟩
      ·rw [if_neg hr] at hf;cases hf
    obtain ⟨n1,n2,n3⟩:=a57 hf
    rw [a7H fun x hx=>h x (List.mem_of_mem_take hx),List.length_take] at n2
    generalize a0U (l.take 23).flatten=q at hfit hf n1 n2 n3 ⊢
    obtain ⟨e,n,b⟩:=q
    simp only at hfit hf n1 n2 n3 ⊢
    obtain ⟨hfit,rfl,z,hz⟩:=hfit
    obtain ⟨R,r1,r2,r3⟩:=a6e k (l.drop (szE e)) (a+szE e) fun x hx=>h x (List.mem_of_mem_drop hx)
    have htake:l.take (szE e)=frS e:=by
     have s1:secs (l.take (szE e)):=fun x hx=>h x (List.mem_of_mem_take hx)
     have s2:=c0J hfit.2
     have e1:(l.take (szE e)).flatten=(frS e).flatten:=by
      have:l.take (szE e)=(l.take 23).take (szE e):=by rw [List.take_take,Nat.min_eq_left (by omega)]
      rw [this,a81 (fun x hx=>h x (List.mem_of_mem_take hx)),hz,c0K hfit.2,(a7R hfit.2).2.2]
      simp
     have inj:∀(a b:List (List UInt8)),secs a->secs b->a.length=b.length->a.flatten=b.flatten->a=b:=fun a=>by
      induction a with
      |nil=>intro b _ _ hl _;cases b with
       |nil=>rfl
       |cons y b=>simp at hl
      |cons x a ih=>
       intro b ha hb hl he
       cases b with
       |nil=>simp at hl
       |cons y b=>
        simp only [List.flatten_cons] at he
        have:=List.append_inj he (by rw [ha x (by simp),hb y (by simp)])
        rw [this.1,ih b (fun z hz=>ha z (by simp [hz])) (fun z hz=>hb z (by simp [hz])) (by simpa using hl) this.2]
     exact inj _ _ s1 s2 (by rw [a3M,List.length_take];omega) e1
    refine ⟨R,?_,?_,?_⟩
    ·rw [a2a,List.append_assoc,<-r1,<-htake,List.take_append_drop]
    ·intro x hx
     rcases List.mem_cons.1 hx with rfl|hx
     ·exact hfit
     ·exact r2 x hx
    ·rw [r3,a2a,List.length_append,a3M];omega
   ·exact ⟨l,rfl,by simp,by simp [a19]⟩
theorem b8y (m:Nat):stops (List.replicate m blank):=by
 cases m with
 |zero=>exact .inl rfl
 |succ m=>
  right
  have:∃z,((List.replicate (m+1) blank).take 23).flatten=0::z:=by
   rw [List.replicate_succ,List.take_succ_cons,List.flatten_cons]
   exact ⟨_,rfl⟩
  obtain ⟨z,hz⟩:=this
  rw [hz]
  have:takeN (0::z)=some (0,z):=by
   have:=a5z (n:=0) (by omega) z
   rwa [c8d] at this
  unfold a0U
  have h2:∀t r,a2Y (0::z)=some (t,r)->t=[]:=fun t r ht=>by
   unfold a2Y at ht
   rw [this] at ht
   simp only at ht
   split at ht
   ·cases ht
   ·split at ht
    ·cases ht;simp
    ·cases ht
  cases hq:a2Y (0::z) with
  |none=>rfl
  |some q=>
   obtain ⟨t,r⟩:=q
   obtain rfl:=h2 t r hq
   have:(a2i []).2=false:=by decide +kernel
   simp only [this]
   rfl
def d1E (c:List UInt8) (k:Int):List UInt8:=if k=1 then c else if k=2 then c.take 16++blank.drop 16 else blank
def b8z (keep:List Int):Nat->List (List UInt8)->List (List UInt8)
 |_,[]=>[]
 |i,c::l=>d1E c (a3n keep i)::b8z keep (i+1) l
theorem b6F (keep:List Int) (B:List UInt8) (at_:Int):∀(k i:Nat) (A D:List (List UInt8)),at_+(i:Int)=(A.length:Int)->a1O keep i (A++(List.replicate k blank++D)) (wsF B at_ i k)=A++(b8z keep i (chunk B i k)++D)
 |0,i,A,D,_=>by simp [wsF,a1O,chunk,b8z]
 |k+1,i,A,D,h=>by
  rw [c0z,a6y,a1O,b8z]
  have ht:b1D (A++(List.replicate (k+1) blank++D)) ⟨at_+(i:Int),a7c B i⟩ (a3n keep i)=(A++[d1E (a7c B i) (a3n keep i)])++(List.replicate k blank++D):=by
   have hat:(at_+(i:Int)).toNat=A.length:=by omega
   have hset:∀x:List UInt8,(A++(List.replicate (k+1) blank++D)).set A.length x=(A++[x])++(List.replicate k blank++D):=fun x=>by
    rw [List.set_append_right _ _ (Nat.le_refl _),Nat.sub_self,List.replicate_succ,List.cons_append,List.set_cons_zero]
    simp
   have hget:(A++(List.replicate (k+1) blank++D)).getD A.length []=blank:=by
    simp [List.getD,List.getElem?_append_right,List.replicate_succ]
   unfold b1D d1E
   simp only [hat]
   split
   ·rw [hset]
   ·split
    ·rw [hget,hset]
    ·rw [List.replicate_succ,List.append_assoc];rfl
  rw [ht,b6F keep B at_ k (i+1) _ D (by simp;omega)]
  simp
theorem b0p {k i:Nat} (h:i<k):a3n (List.replicate k 1) i=1:=by
 simp [a3n,List.getD,h]
theorem b14 (n:Nat):∀(l:List (List UInt8)) (i:Nat),i+l.length<=n->b8z (List.replicate n 1) i l=l
 |[],i,_=>rfl
 |c::l,i,h=>by
  simp only [List.length_cons] at h
  rw [b8z,b0p (by omega),b14 n l (i+1) (by omega)]
  rfl
open Go
def a1U:a0o->List a0i->Option a0o
 |r,[]=>some r
 |r,x::l=>if (a04 r x).2=true then a1U (a04 r x).1 l else none
theorem b0q:∀(l:List a0i) (r:a0o) (x:a0i),a1U r (l++[x])=(a1U r l).bind fun r'=>if (a04 r' x).2=true then some (a04 r' x).1 else none
 |[],r,x=>by simp [a1U]
 |y::l,r,x=>by
  rw [List.cons_append,a1U,a1U]
  split
  ·exact b0q l _ x
  ·rfl
theorem a9o:∀(l:List a0i) (r r':a0o) (a:Nat),a1U r l=some r'->a3U r a l=(r',a+(a19 l).length)
 |[],r,r',a,h=>by simp [a1U] at h;subst h;rfl
 |x::l,r,r',a,h=>by
  rw [a1U] at h
  split at h
  ·rename_i hg
   rw [a3U,if_pos hg,a9o l _ r' _ h,a2a,List.length_append,a3M,Nat.add_assoc];rfl
  ·cases h
theorem b6G:∀(l:List a0i) (r:a0o) (a:Nat),(∃r',a1U r l=some r')\/∃l1 x l2 r1,l=l1++x::l2/\a1U r l1=some r1/\(a04 r1 x).2=false/\a3U r a l=(r1,a+(a19 l1).length)
 |[],r,a=>.inl ⟨r,rfl⟩
 |x::l,r,a=>by
  cases hg:(a04 r x).2
  ·exact .inr ⟨[],x,l,r,rfl,rfl,hg,by rw [a3U,if_neg (by simp [hg])];rfl⟩
  ·rcases b6G l (a04 r x).1 (a+szE x) with ⟨r',h⟩|⟨l1,y,l2,r1,h1,h2,h3,h4⟩
   ·exact .inl ⟨r',by rw [a1U,if_pos hg];exact h⟩
   ·refine .inr ⟨x::l1,y,l2,r1,by rw [h1];rfl,by rw [a1U,if_pos hg];exact h2,h3,?_⟩
    rw [a3U,if_pos hg]
    refine h4.trans ?_
    rw [a2a,List.length_append,a3M,Nat.add_assoc]
structure a34 (r:a0o) (es:List a0i) (m:Nat):Prop where
 disk:r.disk=⟨a19 es++List.replicate m blank,[]⟩
 fit:∀e∈es,c0I e
 all:a1U a2q es=some ⟨a18,r.ops,r.ends⟩
 sz:1<=(a19 es).length+m/\(a19 es).length+m<=400
theorem c0M (m:Nat):secs (List.replicate m blank):=fun x hx=>by
 rw [(List.mem_replicate.1 hx).2];rfl
theorem c0N {a b:List (List UInt8)} (h1:secs a) (h2:secs b):secs (a++b):=fun x hx=>by
 rcases List.mem_append.1 hx with h|h
 ·exact h1 x h
 ·exact h2 x h
theorem c5t {l:List (List UInt8)} (h1:1<=l.length) (h2:l.length<=400) (h:secs l):a1N ⟨l,[]⟩=true:=by
 simp only [a1N,Bool.and_eq_true,decide_eq_true_eq,List.all_eq_true]
 exact ⟨⟨⟨⟨h1,h2⟩,by simp⟩,fun x hx=>by simp [a4Y,h x hx]⟩,by simp⟩
theorem c5u {es:List a0i} {R:List (List UInt8)} (h:∀e∈es,c0I e) (hR:secs R) (hs:stops R) (h1:1<=(a19 es++R).length) (h2:(a19 es++R).length<=400):a2v ⟨a19 es++R,[]⟩=(es,(a19 es).length,0):=by
 have hm:a1N ⟨a19 es++R,[]⟩=true:=c5t h1 h2 (c0N (b6D h) hR)
 have:=c8e es h
 rw [a2v,if_pos hm,b6E es _ 0 R h hR hs (by simp;omega),Nat.zero_add]
theorem a34.may {r:a0o} {es:List a0i} {m:Nat} (h:a34 r es m):a1N r.disk=true:=by
 rw [h.disk]
 exact c5t (by simp;have:=h.sz;omega) (by simp;have:=h.sz;omega) (c0N (b6D h.fit) (c0M m))
theorem a34.load {r:a0o} {es:List a0i} {m:Nat} (h:a34 r es m):a2v r.disk=(es,(a19 es).length,0):=by
 rw [h.disk]
 exact c5u h.fit (c0M m) (b8y m) (by simp;have:=h.sz;omega) (by simp;have:=h.sz;omega)
theorem a34.told {r:a0o} {es:List a0i} {m:Nat} (h:a34 r es m):a1A r.disk=(⟨a18,r.ops,r.ends⟩,(a19 es).length):=by
 rw [a1A,h.load,a9o es _ _ 0 h.all,Nat.zero_add]
theorem b0r {r:a0o} {es:List a0i} {m:Nat} (h:a34 r es m):a1P r=true:=by
 unfold a1P
 rw [h.told,h.may]
 simp only [h.disk,decide_true,Bool.true_and,Bool.and_true]
 rw [List.drop_left' rfl]
 simp
theorem a6z {r:a0o} (h:a1P r=true):∃es m,a34 r es m:=by
 obtain ⟨⟨sf,wt⟩,ops,ends⟩:=r
 simp only [a1P,Bool.and_eq_true,decide_eq_true_eq,Bool.not_eq_true'] at h
 obtain ⟨⟨⟨⟨h1,rfl⟩,h3⟩,h4⟩,h5⟩:=h
 obtain ⟨m1,m2,m3⟩:=a1f h1
 simp only at m1 m2 m3
 obtain ⟨R,r1,r2,r3⟩:=a6e sf.length sf 0 m1
 have hload:a2v ⟨sf,[]⟩=((a1R sf.length sf 0).1,(a1R sf.length sf 0).2,0):=by rw [a2v,if_pos h1]
 have htold:a1A ⟨sf,[]⟩=a3U a2q 0 (a1R sf.length sf 0).1:=by rw [a1A,hload]
 generalize hes:(a1R sf.length sf 0).1=es at *
 have hbl:∀A B,sf=A++B->(a1A ⟨sf,[]⟩).2=A.length->B=List.replicate B.length blank:=fun A B e1 e2=>by
  rw [e2] at h5
  rw [List.any_eq_false] at h5
  rw [e1,List.drop_left' rfl] at h5
  exact List.eq_replicate_of_mem fun b hb=>by simpa using h5 b hb
 rcases b6G es a2q 0 with ⟨r',hr⟩|⟨l1,x,l2,r1',e1,e2,e3,e4⟩
 ·have ht:=a9o es a2q r' 0 hr
  rw [htold,ht] at h3 h4
  have hR:=hbl (a19 es) R r1 (by rw [htold,ht];simp)
  have hin:r'.disk=a18:=by
   have:=(a9m ⟨sf,[]⟩).1
   rw [htold,ht] at this;exact this
  refine ⟨es,R.length,⟨?_,r2,?_,?_⟩⟩
  ·rw [<-hR,<-r1]
  ·rw [hr]
   obtain ⟨x,y,z⟩:=r'
   simp only at hin h3 h4
   rw [hin,h3,h4]
  ·rw [r1,List.length_append] at m2 m3;exact ⟨m2,m3⟩
 ·exfalso
  have hx:c0I x:=r2 x (by rw [e1];simp)
  obtain ⟨s,t,hs,hne⟩:=c0L hx.2
  have hB:=hbl (a19 l1) (s::(t++(a19 l2++R))) (by rw [r1,e1,a9n,a2a,hs];simp) (by rw [htold,e4];simp)
  rw [List.length_cons,List.replicate_succ] at hB
  exact hne (List.cons.inj hB).1
structure Ord (r:a0o):Prop where
 tree:a0L r.ops=true
 ends:r.ends.length<=8/\r.ends.Nodup
 site:∀o∈r.ops,o.site<=(r.ends.length:Int)
theorem c5v {r:a0o} (h:Ord r) (x:a0i):Ord (a04 r x).1:=by
 unfold a04
 split
 ·split
  ·exact h
  ·rename_i c
   rw [not_or] at c
   refine ⟨h.tree,⟨by simp;omega,?_⟩,fun o ho=>?_⟩
   ·simp only
    rw [List.nodup_append]
    refine ⟨h.ends.2,by simp,?_⟩
    intro a ha b hb
    rw [List.mem_singleton.1 hb]
    rintro rfl
    exact c.2 ha
   ·have:=h.site o ho;simp;omega
 ·split
  ·exact h
  ·rename_i c
   rw [not_or] at c
   refine ⟨by simpa using c.2,h.ends,fun o ho=>?_⟩
   rcases List.mem_append.1 ho with ho|ho
   ·exact h.site o ho
   ·rw [List.mem_singleton.1 ho];simp only;omega
theorem f3p:Ord a2q:=⟨a5y,by simp [a2q],by simp [a2q]⟩
theorem b0s:∀(l:List a0i) (r r':a0o),Ord r->a1U r l=some r'->Ord r'
 |[],r,r',h,e=>by simp [a1U] at e;subst e;exact h
 |x::l,r,r',h,e=>by
  rw [a1U] at e
  split at e
  ·exact b0s l _ r' (c5v h x) e
  ·cases e
theorem a34.ord {r:a0o} {es:List a0i} {m:Nat} (h:a34 r es m):a0L r.ops=true/\(r.ends.length<=8/\r.ends.Nodup)/\∀o∈r.ops,o.site<=(r.ends.length:Int):=by
 have:=b0s es a2q _ f3p h.all
 exact ⟨this.tree,this.ends,this.site⟩
theorem c12 (r:a0o) (d:a0k) (x:a0i):a04 {r with disk:=d} x=({(a04 r x).1 with disk:=d},(a04 r x).2):=by
 unfold a04
 simp only
 split<;>split<;>rfl
theorem b15 {r:a0o} {es:List a0i} {m:Nat} (h:a34 r es m) {x:a0i} (hx:a0J x=true):a1v r.disk ((a19 es).length:Int) x =
  if (a0j x).2=0 then if m<szE x then (noD,0,6) else (⟨r.disk.safe,wsF (a0j x).1 ((a19 es).length:Int) 0 (szE x)⟩,((a19 es).length:Int)+(szE x:Int),0) else (noD,0,(a0j x).2):=by
 have hm:=h.may
 unfold a1v
 rw [if_pos ⟨hm,hx,by omega⟩]
 by_cases hf:(a0j x).2=0
 ·obtain ⟨z1,z2,z3⟩:=a7R hf
  have hl:r.disk.safe.length=(a19 es).length+m:=by rw [h.disk];simp
  rw [if_pos hf,if_pos hf,show (a0j x).1.length/32=szE x from rfl]
  by_cases hc:m<szE x
  ·rw [if_pos hc,if_pos (by omega)]
  ·rw [if_neg hc,if_neg (by omega)]
   obtain ⟨a1,a2⟩:=b4a (B:=(a0j x).1) (at_:=((a19 es).length:Int)) (by omega) (szE x) 0 r.disk hm (by omega) (by omega) (by rw [h.disk];simp;omega)
   rw [a1,if_pos rfl]
   congr 1
   rw [h.disk];simp
 ·rw [if_neg hf,if_neg hf]
theorem b0t {d:a0k} (h:a1N d=true) (keep:List Int):a7E d keep=(⟨a1O keep 0 d.safe d.wait,[]⟩,0):=by rw [a7E,if_pos h]
theorem c0O {r:a0o} {es:List a0i} {m:Nat} (h:a34 r es m) {x:a0i} (hf:(a0j x).2=0) (hc:¬m<szE x):a1N ⟨r.disk.safe,wsF (a0j x).1 ((a19 es).length:Int) 0 (szE x)⟩=true:=by
 obtain ⟨z1,z2,z3⟩:=a7R hf
 have hl:r.disk.safe.length=(a19 es).length+m:=by rw [h.disk];simp
 have:=(b4a (B:=(a0j x).1) (at_:=((a19 es).length:Int)) (by omega) (szE x) 0 r.disk h.may (by omega) (by omega) (by rw [h.disk];simp;omega)).2
 rw [h.disk] at this ⊢
 simpa using this
theorem c5w {r:a0o} {es:List a0i} {m:Nat} (h:a34 r es m) {x:a0i} (hf:(a0j x).2=0) (hc:¬m<szE x) (keep:List Int) :
  a7E ⟨r.disk.safe,wsF (a0j x).1 ((a19 es).length:Int) 0 (szE x)⟩ keep=(⟨a19 es++(b8z keep 0 (frS x)++List.replicate (m-szE x) blank),[]⟩,0):=by
 rw [b0t (c0O h hf hc)]
 simp only [h.disk]
 have:List.replicate m blank=List.replicate (szE x) blank++List.replicate (m-szE x) blank:=by rw [List.replicate_append_replicate];congr 1;omega
 rw [this,b6F keep _ _ (szE x) 0 (a19 es) _ (by simp)]
 rfl
theorem c8f {r:a0o} {es:List a0i} {m:Nat} (h:a34 r es m) {x:a0i} (hf:(a0j x).2=0) (hc:¬m<szE x) :
  a3E ⟨r.disk.safe,wsF (a0j x).1 ((a19 es).length:Int) 0 (szE x)⟩=(⟨a19 (es++[x])++List.replicate (m-szE x) blank,[]⟩,0):=by
 rw [a3E,c5w h hf hc]
 rw [b14 _ _ 0 (by rw [a3M];simp [b75])]
 rw [a9n,List.append_assoc,show a19 [x]=frS x by simp [a19]]
theorem a34.snoc {r:a0o} {es:List a0i} {m:Nat} (h:a34 r es m) {x:a0i} (hx:c0I x) (hc:¬m<szE x) (hg:(a04 r x).2=true) {d:a0k} (hd:d=⟨a19 (es++[x])++List.replicate (m-szE x) blank,[]⟩):a34 {(a04 r x).1 with disk:=d} (es++[x]) (m-szE x):=by
 have hgv:=c12 r a18 x
 refine ⟨hd,fun e he=>?_,?_,?_⟩
 ·rcases List.mem_append.1 he with he|he
  ·exact h.fit e he
  ·rw [List.mem_singleton.1 he];exact hx
 ·rw [b0q,h.all,Option.bind_some]
  have e1:(⟨a18,r.ops,r.ends⟩:a0o)={r with disk:=a18}:=rfl
  rw [e1,hgv,if_pos hg]
 ·have:=h.sz
  rw [a9n,List.length_append,show a19 [x]=frS x by simp [a19],a3M]
  omega
theorem b6H (at_:Int):∀(l:List (List UInt8)) (i:Nat) (d:a0k),(∀j (s:List UInt8),l[j]?=some s->((i+j:Nat):Int)<at_\/s=blank)->a1W at_ l i d=(d,0)
 |[],i,d,h=>rfl
 |s::l,i,d,h=>by
  rw [a1W,if_pos (by simpa using h 0 s rfl)]
  exact b6H at_ l (i+1) d fun j t ht=>by
   have:=h (j+1) t (by simpa using ht)
   rwa [show i+1+j=i+(j+1) by omega]
theorem c8g {d:a0k} (h:a1N d=true) (hw:d.wait=[]):a3E d=(d,0):=by
 obtain ⟨s,w⟩:=d
 simp only at hw
 subst hw
 rw [a3E,b0t h]
 rfl
theorem c8h {r:a0o} {es:List a0i} {m:Nat} (h:a34 r es m):a1G r.disk ((a19 es).length:Int)=(r.disk,0):=by
 rw [a1G,if_pos ⟨h.may,by omega⟩,b6H,if_pos rfl,c8g h.may (by rw [h.disk])]
 intro j s hs
 rw [h.disk] at hs
 simp only at hs
 by_cases hj:j<(a19 es).length
 ·left;omega
 ·right
  rw [List.getElem?_append_right (by omega),List.getElem?_replicate] at hs
  split at hs
  ·exact (Option.some.inj hs).symm
  ·cases hs
theorem a8z (at_:Int) (h0:0<=at_):∀(l:List (List UInt8)) (i:Nat) (d:a0k),a1N d=true->i+l.length<=d.safe.length->d.wait.length+l.length<=400->
  ∃ps:List Nat,a1W at_ l i d=(⟨d.safe,d.wait++ps.map fun (p:Nat)=>(⟨(p:Int),blank⟩:a4M)⟩,0)/\a1N ⟨d.safe,d.wait++ps.map fun (p:Nat)=>(⟨(p:Int),blank⟩:a4M)⟩=true/\
   (∀p∈ps,at_<=(p:Int)/\p<d.safe.length)/\∀j s,l[j]?=some s->((i+j:Nat):Int)<at_\/s=blank\/i+j∈ps
 |[],i,d,hm,_,_=>⟨[],by simp [a1W],by simpa using hm,by simp,by simp⟩
 |s::l,i,d,hm,hl,hw=>by
  simp only [List.length_cons] at hl hw
  rw [a1W]
  by_cases hc:(i:Int)<at_\/s=blank
  ·rw [if_pos hc]
   obtain ⟨ps,p1,p2,p3,p4⟩:=a8z at_ h0 l (i+1) d hm (by omega) (by omega)
   refine ⟨ps,p1,p2,p3,fun j t ht=>?_⟩
   cases j with
   |zero=>
    simp only [List.getElem?_cons_zero,Option.some.injEq] at ht
    subst ht
    rcases hc with hc|hc
    ·left;simpa using hc
    ·right;left;exact hc
   |succ j=>
    have:=p4 j t (by simpa using ht)
    rwa [show i+1+j=i+(j+1) by omega] at this
  ·obtain ⟨m1,m2⟩:=a9k hm (n:=(i:Int)) (s:=blank) rfl (by omega) (by omega) (by omega)
   rw [if_neg hc,m2,if_pos rfl]
   obtain ⟨ps,p1,p2,p3,p4⟩:=a8z at_ h0 l (i+1) ⟨d.safe,d.wait++[⟨(i:Int),blank⟩]⟩ m1 (by simp only;omega) (by simp;omega)
   simp only [List.append_assoc,List.singleton_append] at p1 p2
   refine ⟨i::ps,by simpa using p1,by simpa using p2,fun p hp=>?_,fun j t ht=>?_⟩
   ·rcases List.mem_cons.1 hp with rfl|hp
    ·exact ⟨by rw [not_or] at hc;omega,by omega⟩
    ·exact p3 p hp
   ·cases j with
    |zero=>right;right;simp
    |succ j=>
     have:=p4 j t (by simpa using ht)
     rw [show i+1+j=i+(j+1) by omega] at this
     rcases this with h|h|h
     ·exact .inl h
     ·exact .inr (.inl h)
     ·exact .inr (.inr (List.mem_cons_of_mem _ h))
theorem a89:∀(ps:List Nat) (i n:Nat) (sf:List (List UInt8)),i+ps.length<=n->a1O (List.replicate n 1) i sf (ps.map fun (p:Nat)=>(⟨(p:Int),blank⟩:a4M))=ps.foldl (fun sf p=>sf.set p blank) sf
 |[],i,n,sf,_=>rfl
 |p::ps,i,n,sf,h=>by
  simp only [List.length_cons] at h
  rw [List.map_cons,a1O,List.foldl_cons,b1D,if_pos (b0p (by omega))]
  simp only [Int.toNat_natCast]
  exact a89 ps (i+1) n _ (by omega)
theorem a6M:∀(ps:List Nat) (sf:List (List UInt8)) (j:Nat),(ps.foldl (fun sf p=>sf.set p blank) sf)[j]?=if j∈ps/\j<sf.length then some blank else sf[j]?
 |[],sf,j=>by simp
 |p::ps,sf,j=>by
  rw [List.foldl_cons,a6M ps,List.length_set]
  by_cases hj:j∈ps/\j<sf.length
  ·rw [if_pos hj,if_pos ⟨List.mem_cons_of_mem _ hj.1,hj.2⟩]
  ·rw [if_neg hj,List.getElem?_set]
   by_cases hp:p=j
   ·subst hp
    rw [if_pos rfl]
    by_cases hl:p<sf.length
    ·rw [if_pos hl,if_pos ⟨List.mem_cons_self,hl⟩]
    ·rw [if_neg hl,if_neg (fun q=>hl q.2),List.getElem?_eq_none (by omega)]
   ·rw [if_neg hp,if_neg]
    rintro ⟨h1,h2⟩
    rcases List.mem_cons.1 h1 with h1|h1
    ·exact hp h1.symm
    ·exact hj ⟨h1,h2⟩
theorem c8i {A B:List (List UInt8)} (h:a1N ⟨A++B,[]⟩=true):a1G ⟨A++B,[]⟩ (A.length:Int)=(⟨A++List.replicate B.length blank,[]⟩,0):=by
 obtain ⟨m1,m2,m3⟩:=a1f h
 obtain ⟨ps,p1,p2,p3,p4⟩:=a8z (A.length:Int) (by omega) (A++B) 0 ⟨A++B,[]⟩ h (by simp) (by simpa using m3)
 rw [a1G,if_pos ⟨h,by omega⟩]
 simp only [List.nil_append] at p1 p2
 rw [p1,if_pos rfl,a3E,b0t p2]
 simp only [List.length_map]
 rw [a89 ps 0 _ _ (by simp)]
 congr 2
 apply List.ext_getElem?
 intro j
 rw [a6M]
 simp only at p3
 by_cases hj:j<(A++B).length
 ·have h4:=p4 j ((A++B)[j]) (List.getElem?_eq_getElem hj)
  by_cases hjA:j<A.length
  ·rw [if_neg (fun q=>by have:=(p3 j q.1).1;omega),List.getElem?_append_left hjA,List.getElem?_append_left hjA]
  ·have hB:(A++List.replicate B.length blank)[j]?=some blank:=by
    rw [List.getElem?_append_right (by omega),List.getElem?_replicate,if_pos (by simp at hj;omega)]
   rw [hB]
   by_cases hp:j∈ps
   ·rw [if_pos ⟨hp,hj⟩]
   ·rw [if_neg (fun q=>hp q.1),List.getElem?_eq_getElem hj]
    rcases h4 with h|h|h
    ·omega
    ·rw [h]
    ·exact (hp (by simpa using h)).elim
 ·rw [if_neg (fun q=>hj q.2),List.getElem?_eq_none (by omega),List.getElem?_eq_none (by simp at hj ⊢;omega)]
def a4v (d:a0k):a0o×Int:=
 if a1N d=false then (a2q,1) else if d.wait≠[] then (a2q,5)
 else if (a1G d ((a1A d).2:Int)).2≠0 then (a2q,(a1G d ((a1A d).2:Int)).2) else ({(a1A d).1 with disk:=(a1G d ((a1A d).2:Int)).1},0)
theorem c5x {r:a0o} {es:List a0i} {m:Nat} (h:a34 r es m):a4v r.disk=(r,0):=by
 unfold a4v
 rw [if_neg (by simp [h.may]),if_neg (by simp [h.disk]),h.told]
 simp only
 rw [c8h h,if_neg (by simp)]
open Go Go.Proofs
def a2m (d:a0k):List AC:=[.sl .old false (a0a d.safe),.sl .old false (a0a d.wait)]
theorem c8j (r:a0o) (h:a7N r):PEv Tryz.prog 54 [Arg.enc r] (.g (a0r .old r)):=PEv.frz .old (by simp) (d1w r h)
theorem b8A (r:a0o) (h:a7N r):PEv Tryz.prog 17 [Arg.enc r] (.g (a0r .old r)):=PEv.frz .old (by simp) (b1X r h)
def a68 (r:a0k×Int×Int):AV:=.t [(true,a2m r.1),(false,[.raw (.int .i64 r.2.1)]),(false,[.raw (.int .i64 r.2.2)])]
theorem c13 (d:a0k) (at_:Int) (e:a0i) (h1:d.safe.length<1000000) (h2:d.wait.length<1000000) (h3:e.op.text.length<1000000) (h4:e.op.gone.length<1000000) (hat:at_<9223372036854775808):PEv Tryz.prog 107 [Arg.enc d,iv at_,Arg.enc e] (a68 (a1v d at_ e)):=PEv.frz .old (by simp) (b6k d at_ e h1 h2 h3 h4 hat)
def a2g (r:a0k×Int):AV:=.t [(true,a2m r.1),(false,[.raw (.int .i64 r.2)])]
theorem c8k (d:a0k) (h1:d.safe.length<1000000) (h2:d.wait.length<1000000):PEv Tryz.prog 59 [Arg.enc d] (a2g (a3E d)):=PEv.frz .old (by simp) (a96 d h1 h2)
theorem c5y (d:a0k) (at_:Int) (h1:d.safe.length<1000000) (h2:d.wait.length<1000000):PEv Tryz.prog 76 [Arg.enc d,iv at_] (a2g (a1G d at_)):=PEv.frz .old (by simp) (c0t d at_ h1 h2)
theorem c5z (n:Int):PEv Tryz.prog 36 [iv n] (a2g (a8Y n)):=PEv.frz .old (by simp) (b1F n)
theorem d1F (d:a0k) (h1:d.safe.length<1000000) (h2:d.wait.length<1000000):PEv Tryz.prog 84 [Arg.enc d] (.g (a2m d)):=PEv.frz .old (by simp) (b2K d h1 h2)
def b8B:List AV->Option (Prop×AV):=t1 a7N fun r:a0o=>.g (a0r .old r)
@[simp] theorem e48 {l:List AV}:b8B l=(t1 a7N fun r:a0o=>.g (a0r .old r)) l:=(rfl)
def b8C:List AV->Option (Prop×AV):=t1 (fun d:a0k=>d.safe.length<1000000/\d.wait.length<1000000) fun d:a0k=>.t [(true,a0r .old (a1A d).1),(false,[.raw (.int .i64 (a1A d).2)])]
@[simp] theorem e49 {l:List AV}:b8C l=(t1 (fun d:a0k=>d.safe.length<1000000/\d.wait.length<1000000) fun d:a0k=>.t [(true,a0r .old (a1A d).1),(false,[.raw (.int .i64 (a1A d).2)])]) l:=(rfl)
def b4N:List AV->Option (Prop×AV):=t3 (fun d at_ e=>d.safe.length<1000000/\d.wait.length<1000000/\e.op.text.length<1000000/\e.op.gone.length<1000000/\at_<9223372036854775808) fun (d:a0k) (at_:Int) (e:a0i)=>a68 (a1v d at_ e)
@[simp] theorem e0p {l:List AV}:b4N l=(t3 (fun d at_ e=>d.safe.length<1000000/\d.wait.length<1000000/\e.op.text.length<1000000/\e.op.gone.length<1000000/\at_<9223372036854775808) fun (d:a0k) (at_:Int) (e:a0i)=>a68 (a1v d at_ e)) l:=(rfl)
def b8D:List AV->Option (Prop×AV):=t2 (fun d _=>d.safe.length<1000000/\d.wait.length<1000000) fun (d:a0k) (at_:Int)=>a2g (a1G d at_)
@[simp] theorem e5a {l:List AV}:b8D l=(t2 (fun d _=>d.safe.length<1000000/\d.wait.length<1000000) fun (d:a0k) (at_:Int)=>a2g (a1G d at_)) l:=(rfl)
def b8E:List AV->Option (Prop×AV):=t1 (fun d:a0k=>d.safe.length<1000000/\d.wait.length<1000000) fun d:a0k=>a2g (a3E d)
@[simp] theorem e5b {l:List AV}:b8E l=(t1 (fun d:a0k=>d.safe.length<1000000/\d.wait.length<1000000) fun d:a0k=>a2g (a3E d)) l:=(rfl)
def b8F:List AV->Option (Prop×AV):=t1 (fun _=>True) fun n:Int=>a2g (a8Y n)
@[simp] theorem e5c {l:List AV}:b8F l=(t1 (fun _=>True) fun n:Int=>a2g (a8Y n)) l:=(rfl)
def d1G:List AV->Option (Prop×AV):=t1 (fun d:a0k=>d.safe.length<1000000/\d.wait.length<1000000) fun d:a0k=>.g (a2m d)
def b8G:List AV->Option (Prop×AV):=t1 (fun d:a0k=>d.safe.length<1000000/\d.wait.length<1000000) fun d:a0k=>bv (a1N d)
@[simp] theorem e5d {l:List AV}:b8G l=(t1 (fun d:a0k=>d.safe.length<1000000/\d.wait.length<1000000) fun d:a0k=>bv (a1N d)) l:=(rfl)
def b8H:List AV->Option (Prop×AV):=t2 (fun r m=>a98 r/\okM m) fun (r:a0o) (m:a02)=>bv (a30 r m)
@[simp] theorem e5e {l:List AV}:b8H l=(t2 (fun r m=>a98 r/\okM m) fun (r:a0o) (m:a02)=>bv (a30 r m)) l:=(rfl)
def FWb:CT:=(54,.pu b8B)::(75,.pu b8C)::(107,.pu b4N)::(76,.pu b8D)::(59,.pu b8E)::(36,.pu b8F)::(84,.pu d1G)::(74,.pu b8G)::(53,.pu b8H)::FWa
theorem c0P:a1k Tryz.prog FWb:=⟨a0n fun r h=>c8j r h,
 a0n fun d h=>c49 d h.1 h.2,
 a4L fun d at_ e h=>c13 d at_ e h.1 h.2.1 h.2.2.1 h.2.2.2.1 h.2.2.2.2,
 a0P fun d at_ h=>c5y d at_ h.1 h.2,
 a0n fun d h=>c8k d h.1 h.2,
 a0n fun n _=>c5z n,
 a0n fun d h=>d1F d h.1 h.2,
 a0n fun d h=>c4r d h.1 h.2,
 a0P fun r m h=>d1B r m h.1 h.2,c9A⟩
@[simp] theorem e0q:a0c FWb 54=some (.pu b8B):=(rfl)
@[simp] theorem e0r:a0c FWb 75=some (.pu b8C):=(rfl)
@[simp] theorem d4V:a0c FWb 107=some (.pu b4N):=(rfl)
@[simp] theorem e0s:a0c FWb 76=some (.pu b8D):=(rfl)
@[simp] theorem e0t:a0c FWb 59=some (.pu b8E):=(rfl)
@[simp] theorem e0u:a0c FWb 36=some (.pu b8F):=(rfl)
@[simp] theorem e0v:a0c FWb 74=some (.pu b8G):=(rfl)
@[simp] theorem e0w:a0c FWb 53=some (.pu b8H):=(rfl)
@[simp] theorem e5f {n:Nat} (h:(n==54||n==75||n==107||n==76||n==59||n==36||n==84||n==74||n==53)=false):a0c FWb n=a0c FWa n:=by
 simp only [Bool.or_eq_false_iff,beq_eq_false_iff_ne,ne_eq] at h
 simp [FWb,a0c,h]
def a4U (r:a0o) (x:a0i):a0k×Int:=((a1v r.disk ((a1A r.disk).2:Int) x).1,(a1v r.disk ((a1A r.disk).2:Int) x).2.2)
theorem e0x (r:a0o) (x:a0i) (h:a98 r) (h1:x.op.text.length<1000000) (h2:x.op.gone.length<1000000):PEv Tryz.prog 56 [Arg.enc r,Arg.enc x] (a2g (a4U r x)):=by
 have ha:=b4k r.disk
 obtain ⟨g1,g2,g3,g4,g5⟩:=h
 have hat:((a1A r.disk).2:Int)<9223372036854775808:=by omega
 refine a2w mixed c0P Tryz.func56 f8J f8K (by kernel_rfl) (by simp [a2g,a2m]) (by simp [a0r,a0m,a0e]) ?_
 unfold a4U
 generalize hT:a1A r.disk=T at *
 obtain ⟨rt,at_⟩:=T
 simp only at hat
 generalize hR:a1v r.disk (at_:Int) x=R
 obtain ⟨d,a,e⟩:=R
 simp [s56,a0r,a0m,a0e,g1,g2,hT,hat,h1,h2,hR,a68,a2m,a2g]
 refine a0w (mkS [(4,.c (.pt (1,1) 0 0)),(5,iv e)] [.var (1,1) 25 (a2m d)]) (a0b rfl ?_) ?_<;>simp [a2m]
theorem d1H (n:Int):PEv Tryz.prog 42 [iv n] (.t [(true,a0r .old ⟨(a8Y n).1,[],[]⟩),(false,[.raw (.int .i64 (a8Y n).2)])]):=by
 refine a2w mixed c0P Tryz.func42 f8z f8A (by kernel_rfl) (by simp [a0r]) (by simp) ?_
 generalize hR:a8Y n=R
 simp [s42,hR,a2g,a2m]
 refine a0w (mkS [(2,.c (.pt (1,1) 0 0)),(3,iv R.2)] [.var (1,1) 29 (a0r .old ⟨R.1,[],[]⟩)]) (a0b rfl ?_) ?_<;>simp [a0r]
theorem c5A (r:a0o) (h:a98 r):PEv Tryz.prog 33 [Arg.enc r] (iv (if a1P r=true then 0 else 1)):=by
 refine a0f mixed c0P Tryz.func33 f8w f8x (by kernel_rfl) (by simp) (by simp [a0r]) ?_
 cases c1:a1P r<;>simp [s33,a0r,h,c1]
def a0Y (r:a0o) (m:a02):a0o×a02×Int:=
 if a30 r m=true then
  if (a0t r m).2.1=true then
   if (a4U r (a0t r m).1).2=0 then
    ({(a04 r (a0t r m).1).1 with disk:=(a3E (a4U r (a0t r m).1).1).1},
     if (a0t r m).1.join=true then a1I {(a04 r (a0t r m).1).1 with disk:=(a3E (a4U r (a0t r m).1).1).1} m.a0H else a1B {(a04 r (a0t r m).1).1 with disk:=(a3E (a4U r (a0t r m).1).1).1} m.known,0)
   else (r,a2A m 6,0)
  else (r,(a0t r m).2.2,0)
 else (a2q,a6d,1)
def b8I (r:a0o) (m:a02):a0k×Int:=
 if a30 r m=true then if (a0t r m).2.1=true/\(a4U r (a0t r m).1).2=0 then ((a4U r (a0t r m).1).1,0) else (r.disk,0) else (a18,1)
open Go
theorem a4V {r:a0o} {m:a02} (h:a30 r m=true):a1P r=true/\(∀o∈m.ops,a0v o=true)/\(m.kind=1\/m.kind=3\/m.kind=4)/\b0o m=true:=by
 simp only [a30,a2Q,Bool.and_eq_true,Bool.or_eq_true,decide_eq_true_eq,Bool.not_eq_true',List.any_eq_false] at h
 obtain ⟨⟨h1,h2,h3⟩,h4⟩:=h
 refine ⟨h1,fun o ho=>by simpa using h2 o ho,?_,h3⟩
 rcases h4 with (h4|h4)|h4
 ·exact .inl h4
 ·exact .inr (.inl h4)
 ·exact .inr (.inr h4)
theorem b4O {m:a02} (h:b0o m=true) (hk:m.kind=1):1<=m.a0H/\m.a0H<=268435456/\m.ops=[]/\m.site=0/\m.known=0/\m.seq=0/\m.err=0:=by
 rw [b0o,if_pos hk] at h
 simp only [b0X,Bool.and_eq_true,decide_eq_true_eq] at h
 obtain ⟨⟨⟨⟨⟨⟨h1,h2⟩,h3⟩,h4⟩,h5⟩,h6⟩,h7⟩:=h
 exact ⟨h1,h2,h3,h4,h5,h6,h7⟩
theorem c5B {m:a02} (h:b0o m=true) (hk:m.kind=3):1<=m.site/\m.site<=8/\0<=m.known/\m.known<=40/\m.ops=[]:=by
 rw [b0o,if_neg (by omega),if_neg (by omega),if_pos hk] at h
 simp only [a3h,countB,Bool.and_eq_true,decide_eq_true_eq] at h
 obtain ⟨⟨⟨⟨⟨⟨h1,h2⟩,h3,h4⟩,h5⟩,_⟩,_⟩,_⟩:=h
 exact ⟨h1,h2,h3,h4,h5⟩
theorem b4P {m:a02} (h:b0o m=true) (hk:m.kind=4):1<=m.site/\m.site<=8/\0<=m.known/\m.known<=40/\∃o,m.ops=[o]:=by
 rw [b0o,if_neg (by omega),if_neg (by omega),if_neg (by omega),if_pos hk] at h
 simp only [a3h,countB,Bool.and_eq_true,decide_eq_true_eq] at h
 obtain ⟨⟨⟨⟨⟨⟨h1,h2⟩,h3,h4⟩,h5⟩,_⟩,_⟩,_⟩:=h
 refine ⟨h1,h2,h3,h4,?_⟩
 rcases hm:m.ops with _|⟨o,_|⟨p,l⟩⟩
 ·simp [hm] at h5
 ·exact ⟨o,rfl⟩
 ·rw [hm] at h5;simp at h5;omega
theorem c5C {r:a0o} {m:a02} {o:OpV} (h:(b0n r m o).1=true):o.site=m.site/\a0L (r.ops++[o])=true/\b0n r m o=(true,a6d)/\o.seq=1+(a1g m.site r.ops:Int):=by
 unfold b0n at h ⊢
 split at h
 ·rename_i c1
  rw [if_pos c1]
  split at h
  ·cases h
  ·rename_i c2
   rw [if_neg c2]
   split at h
   ·cases h
   ·rename_i c3
    rw [if_neg c3]
    split at h
    ·rename_i c4
     rw [if_pos c4]
     exact ⟨c1,c4,rfl,by omega⟩
    ·split at h<;>cases h
 ·cases h
theorem a5h {r:a0o} {m:a02} (hf:a30 r m=true) (ha:(a0t r m).2.1=true):a0J (a0t r m).1=true/\(a04 r (a0t r m).1).2=true/\
  ((m.kind=1/\(a0t r m).1=⟨true,m.a0H,a0C⟩/\m.a0H ∉ r.ends/\r.ends.length<8)\/(m.kind=4/\∃o,m.ops=[o]/\(a0t r m).1=⟨false,0,o⟩/\o.site=m.site/\m.site<=(r.ends.length:Int)/\a0L (r.ops++[o])=true/\o.seq=1+(a1g m.site r.ops:Int))):=by
 obtain ⟨h1,h2,h3,h4⟩:=a4V hf
 unfold a0t at ha ⊢
 split at ha
 ·rename_i k1
  rw [if_pos k1]
  obtain ⟨n1,n2,_⟩:=b4O h4 k1
  split at ha
  ·cases ha
  ·rename_i c1
   rw [if_neg c1]
   split at ha
   ·cases ha
   ·rename_i c2
    rw [if_neg c2]
    have e1:a0J ⟨true,m.a0H,a0C⟩=true:=by
     rw [a0J,if_pos rfl,a5u]
     simp [n1,n2]
    refine ⟨e1,?_,.inl ⟨k1,rfl,c1,by omega⟩⟩
    rw [a04,if_pos rfl,if_neg (by rintro (h|h);omega;exact c1 h)]
 ·rename_i k1
  rw [if_neg k1]
  split at ha
  ·cases ha
  ·rename_i c1
   rw [if_neg c1]
   split at ha
   ·cases ha
   ·rename_i k3
    rw [if_neg k3]
    have k4:m.kind=4:=by rcases h3 with h|h|h<;>first|exact h|contradiction
    obtain ⟨s1,s2,s3,s4,o,ho⟩:=b4P h4 k4
    have hd:m.ops.headD a0C=o:=by rw [ho];rfl
    rw [b4F,hd] at ha
    rw [hd]
    obtain ⟨t1,t2,t3,t4⟩:=c5C ha
    have hm:=h2 o (by rw [ho];simp)
    refine ⟨by rw [a0J,if_neg (by simp)];simp [hm],?_,.inr ⟨k4,o,ho,rfl,t1,by omega,t2,t4⟩⟩
    rw [a04,if_neg (by simp),if_neg (by rintro (h|h);simp only at h;omega;simp only at h;rw [h] at t2;cases t2)]
inductive g0b (r:a0o) (m:a02) (es:List a0i) (k:Nat):Prop
 |none (h:(a0t r m).2.1=false) (e:a0Y r m=(r,(a0t r m).2.2,0)) (e2:b8I r m=(r.disk,0))
 |full (h:(a0t r m).2.1=true) (hp:(a4U r (a0t r m).1).2≠0) (e:a0Y r m=(r,a2A m 6,0)) (e2:b8I r m=(r.disk,0))
 |adds (h:(a0t r m).2.1=true) (hp:a4U r (a0t r m).1=(⟨r.disk.safe,wsF (a0j (a0t r m).1).1 ((a19 es).length:Int) 0 (szE (a0t r m).1)⟩,0)) (hx:c0I (a0t r m).1) (hc:¬k<szE (a0t r m).1)
   (hs:a3E (a4U r (a0t r m).1).1=(⟨a19 (es++[(a0t r m).1])++List.replicate (k-szE (a0t r m).1) blank,[]⟩,0))
   (hI:a34 (a0Y r m).1 (es++[(a0t r m).1]) (k-szE (a0t r m).1))
   (e0:(a0Y r m).1={(a04 r (a0t r m).1).1 with disk:=⟨a19 (es++[(a0t r m).1])++List.replicate (k-szE (a0t r m).1) blank,[]⟩})
   (e:a0Y r m=((a0Y r m).1,if (a0t r m).1.join=true then a1I (a0Y r m).1 m.a0H else a1B (a0Y r m).1 m.known,0)) (e2:b8I r m=((a4U r (a0t r m).1).1,0))
theorem took {r:a0o} {m:a02} (hf:a30 r m=true) {es:List a0i} {k:Nat} (hI:a34 r es k):g0b r m es k:=by
 cases ha:(a0t r m).2.1
 ·exact .none ha (by rw [a0Y,if_pos hf,if_neg (by simp [ha])]) (by rw [b8I,if_pos hf,if_neg (by simp [ha])])
 ·obtain ⟨hm,hg,_⟩:=a5h hf ha
  have hpv:a4U r (a0t r m).1=((a1v r.disk ((a19 es).length:Int) (a0t r m).1).1,(a1v r.disk ((a19 es).length:Int) (a0t r m).1).2.2):=by rw [a4U,hI.told]
  have hap:=b15 hI hm
  by_cases hfr:(a0j (a0t r m).1).2=0
  ·by_cases hc:k<szE (a0t r m).1
   ·rw [if_pos hfr,if_pos hc] at hap
    have:(a4U r (a0t r m).1).2≠0:=by rw [hpv,hap];simp
    exact .full ha this (by rw [a0Y,if_pos hf,if_pos ha,if_neg this]) (by rw [b8I,if_pos hf,if_neg (fun q=>this q.2)])
   ·rw [if_pos hfr,if_neg hc] at hap
    have hpt:a4U r (a0t r m).1=(⟨r.disk.safe,wsF (a0j (a0t r m).1).1 ((a19 es).length:Int) 0 (szE (a0t r m).1)⟩,0):=by rw [hpv,hap]
    have hs:a3E (a4U r (a0t r m).1).1=(⟨a19 (es++[(a0t r m).1])++List.replicate (k-szE (a0t r m).1) blank,[]⟩,0):=by rw [hpt];exact c8f hI hfr hc
    have he:a0Y r m=({(a04 r (a0t r m).1).1 with disk:=(a3E (a4U r (a0t r m).1).1).1},
     if (a0t r m).1.join=true then a1I {(a04 r (a0t r m).1).1 with disk:=(a3E (a4U r (a0t r m).1).1).1} m.a0H else a1B {(a04 r (a0t r m).1).1 with disk:=(a3E (a4U r (a0t r m).1).1).1} m.known,0):=by
     rw [a0Y,if_pos hf,if_pos ha,if_pos (by rw [hpt])]
    have h1:(a0Y r m).1={(a04 r (a0t r m).1).1 with disk:=(a3E (a4U r (a0t r m).1).1).1}:=by rw [he]
    refine .adds ha hpt ⟨hm,hfr⟩ hc hs ?_ ?_ (by rw [h1];exact he) (by rw [b8I,if_pos hf,if_pos ⟨ha,by rw [hpt]⟩])
    ·rw [h1,hs]
     exact hI.snoc ⟨hm,hfr⟩ hc hg rfl
    ·rw [h1,hs]
  ·rw [if_neg hfr] at hap
   have:(a4U r (a0t r m).1).2≠0:=by rw [hpv,hap];exact hfr
   exact .full ha this (by rw [a0Y,if_pos hf,if_pos ha,if_neg this]) (by rw [b8I,if_pos hf,if_neg (fun q=>this q.2)])
theorem b6I {o:OpV} (h:a0v o=true) (h1:o.text.length<1000000):o.gone.length<=200/\okP o:=by
 have hg:o.gone.length<=200:=by
  by_cases hk:o.kind=1
  ·have:=(a6v h hk).2.2.1
   simp only [a4r,Bool.and_eq_true,decide_eq_true_eq] at this
   exact this.2
  ·rw [(a1m h hk).2.2.2];simp
 exact ⟨hg,b6h h h1 (by omega)⟩
theorem a4w {r:a0o} {es:List a0i} {k:Nat} (hI:a34 r es k):a7N r/\(∀o∈r.ops,okP o)/\a3Z r.ops<=200/\r.ops.length<=40/\r.ends.length<=8/\r.disk.safe.length<=400:=by
 obtain ⟨t1,⟨t2,t3⟩,t4⟩:=hI.ord
 obtain ⟨f1,f2,f3,f4⟩:=a4T t1
 have hsz:=hI.sz
 have htx:∀o∈r.ops,o.text.length<=700:=by
  have key:∀(l:List a0i) (a b:a0o),(∀e∈l,c0I e)->(∀o∈a.ops,o.text.length<=700)->a1U a l=some b->∀o∈b.ops,o.text.length<=700:=fun l=>by
   induction l with
   |nil=>intro a b _ h e;simp [a1U] at e;subst e;exact h
   |cons x l ih=>
    intro a b hf h e
    rw [a1U] at e
    split at e
    ·refine ih _ b (fun y hy=>hf y (by simp [hy])) ?_ e
     have hx:=hf x (by simp)
     have hxt:x.join=false->x.op.text.length<=700:=fun hj=>by
      have hp:=(a7Q hx.2).1
      by_cases hk:x.op.kind=1
      ·have:=a8y hj hk;omega
      ·have hm:=hx.1
       rw [a0J,if_neg (by simp [hj])] at hm
       simp only [Bool.and_eq_true] at hm
       rw [(a1m hm.2 hk).2.2.1];simp
     unfold a04
     split
     ·split<;>exact h
     ·rename_i hj
      split
      ·exact h
      ·intro o ho
       rcases List.mem_append.1 ho with ho|ho
       ·exact h o ho
       ·rw [List.mem_singleton.1 ho];exact hxt (by simpa using hj)
    ·cases e
  exact key es a2q ⟨a18,r.ops,r.ends⟩ hI.fit (by simp [a2q]) hI.all
 have hok:∀o∈r.ops,o.gone.length<=200/\okP o:=fun o ho=>b6I (f3 o ho) (by have:=htx o ho;omega)
 have hd:r.disk.safe.length=(a19 es).length+k/\r.disk.wait=[]:=by rw [hI.disk];simp
 refine ⟨⟨by omega,by rw [hd.2];simp,by omega,by omega,fun o ho=>⟨by have:=htx o ho;omega,by have:=(hok o ho).1;omega⟩⟩,fun o ho=>(hok o ho).2,f2,f1,t2,by omega⟩
open Go Go.Proofs
def b8J:List AV->Option (Prop×AV):=t1 (fun d:a0k=>d.safe.length<281474976710656/\d.wait.length<281474976710656) fun d:a0k=>bv (a1N d)
@[simp] theorem e5g {l:List AV}:b8J l=(t1 (fun d:a0k=>d.safe.length<281474976710656/\d.wait.length<281474976710656) fun d:a0k=>bv (a1N d)) l:=(rfl)
def b8K:List AV->Option (Prop×AV):=t0 (.c (.str blank))
@[simp] theorem e5h {l:List AV}:b8K l=(t0 (.c (.str blank))) l:=(rfl)
def b8L:List AV->Option (Prop×AV):=t1 (fun d:a0k=>a1N d=true) fun d:a0k=>a1F (a0I d)
@[simp] theorem e5i {l:List AV}:b8L l=(t1 (fun d:a0k=>a1N d=true) fun d:a0k=>a1F (a0I d)) l:=(rfl)
def b8M:List AV->Option (Prop×AV):=t1 (fun l=>l.length<1000/\∀e∈l,a3W e.op.text=true/\e.op.text.length<1000000/\e.op.gone.length<1000000) fun l:List a0i=>a1T (a1X [] [] 0 l)
@[simp] theorem e5j {l:List AV}:b8M l=(t1 (fun l=>l.length<1000/\∀e∈l,a3W e.op.text=true/\e.op.text.length<1000000/\e.op.gone.length<1000000) fun l:List a0i=>a1T (a1X [] [] 0 l)) l:=(rfl)
def b8N:List AV->Option (Prop×AV):=t2 (fun a _=>a.length<4611686018427387904) fun a b:List Int=>bv (decide (a=b))
@[simp] theorem e5k {l:List AV}:b8N l=(t2 (fun a _=>a.length<4611686018427387904) fun a b:List Int=>bv (decide (a=b))) l:=(rfl)
def b8O:List AV->Option (Prop×AV):=t2 (fun a _=>a.length<4611686018427387904/\∀o∈a,o.gone.length<4611686018427387904) fun a b:List OpV=>bv (decide (a=b))
@[simp] theorem e5l {l:List AV}:b8O l=(t2 (fun a _=>a.length<4611686018427387904/\∀o∈a,o.gone.length<4611686018427387904) fun a b:List OpV=>bv (decide (a=b))) l:=(rfl)
def FX4:CT:=(47,.pu b8J)::(38,.pu b8K)::(48,.pu b8L)::(49,.pu b8M)::(50,.pu b8N)::(20,.pu b8O)::FX3
theorem c9B:a1k Tryz.prog FX4:=⟨a0n fun d h=>b1C d h.1 h.2,
 b1i a8e,
 a0n fun d h=>a6t d (a1f h).1 (by have:=(a1f h).2.2;omega) (by have:=a2M h;omega),
 a0n fun l h=>c0G l h.1 h.2,
 a0P fun a b h=>b6x a b h,
 a0P fun a b h=>b4m a b h.1 h.2,c5n⟩
@[simp] theorem e0y:a0c FX4 47=some (.pu b8J):=(rfl)
@[simp] theorem e0z:a0c FX4 38=some (.pu b8K):=(rfl)
@[simp] theorem e0A:a0c FX4 48=some (.pu b8L):=(rfl)
@[simp] theorem e0B:a0c FX4 49=some (.pu b8M):=(rfl)
@[simp] theorem e0C:a0c FX4 50=some (.pu b8N):=(rfl)
@[simp] theorem e0D:a0c FX4 20=some (.pu b8O):=(rfl)
@[simp] theorem e5m {n:Nat} (h:(n==47||n==38||n==48||n==49||n==50||n==20)=false):a0c FX4 n=a0c FX3 n:=by
 simp only [Bool.or_eq_false_iff,beq_eq_false_iff_ne,ne_eq] at h
 simp [FX4,a0c,h]
def b6J (l:List (List UInt8)):Nat->Nat->Bool
 |0,_=>true
 |k+1,i=>if h:i<l.length then decide (l[i]=blank)&&b6J l k (i+1) else true
def b0u (r:a0o):Bool:=
 a1N r.disk&&decide (r.disk.wait=[])&&
  (decide ((a1X [] [] 0 (a0I r.disk).1).2.2=(a0I r.disk).1.length)&&decide ((a1X [] [] 0 (a0I r.disk).1).1=r.ends)&&decide ((a1X [] [] 0 (a0I r.disk).1).2.1=r.ops)&&b6J r.disk.safe (r.disk.safe.length-(a0I r.disk).2.2) (a0I r.disk).2.2)
theorem a8A:∀(l:List a0i) (e:List Int) (o:List OpV) (k:Nat),(a1X e o k l).1.length<=e.length+l.length/\(a1X e o k l).2.1.length<=o.length+l.length/\(a1X e o k l).2.2<=k+l.length/\∀x∈(a1X e o k l).2.1,x∈o\/∃y∈l,x=y.op
 |[],e,o,k=>by simp [a1X]
 |x::l,e,o,k=>by
  rw [a1X]
  have stay:e.length<=e.length+(x::l).length/\o.length<=o.length+(x::l).length/\k<=k+(x::l).length/\∀z∈o,z∈o\/∃y∈x::l,z=y.op:=⟨by omega,by omega,by omega,fun z h=>.inl h⟩
  split
  ·split
   ·exact stay
   ·obtain ⟨h1,h2,h3,h4⟩:=a8A l (e++[x.a0H]) o (k+1)
    simp only [List.length_append,List.length_cons,List.length_nil] at h1 ⊢
    refine ⟨by omega,by omega,by omega,fun z hz=>?_⟩
    rcases h4 z hz with h|⟨y,h,e⟩
    ·exact .inl h
    ·exact .inr ⟨y,List.mem_cons_of_mem _ h,e⟩
  ·split
   ·exact stay
   ·obtain ⟨h1,h2,h3,h4⟩:=a8A l e (o++[x.op]) (k+1)
    simp only [List.length_append,List.length_cons,List.length_nil] at h2 ⊢
    refine ⟨by omega,by omega,by omega,fun z hz=>?_⟩
    rcases h4 z hz with h|⟨y,h,e⟩
    ·rcases List.mem_append.1 h with h|h
     ·exact .inl h
     ·exact .inr ⟨x,List.mem_cons_self,List.mem_singleton.1 h⟩
    ·exact .inr ⟨y,List.mem_cons_of_mem _ h,e⟩
theorem c5D {e:a0i} (h:c0I e):a3W e.op.text=true/\e.op.text.length<=700/\e.op.gone.length<=200:=by
 obtain ⟨h1,h2⟩:=h
 have hp:=(a7Q h2).1
 cases hj:e.join
 ·have h':=h1
  rw [a0J,if_neg (by simp [hj])] at h'
  simp only [Bool.and_eq_true,decide_eq_true_eq] at h'
  have ht:e.op.text.length<=700:=by
   by_cases hk:e.op.kind=1
   ·have:=a8y hj hk;omega
   ·rw [(a1m h'.2 hk).2.2.1];simp
  exact ⟨a8w h'.2,ht,(b6I h'.2 (by omega)).1⟩
 ·rw [a0J,if_pos hj,a5u] at h1
  simp only [Bool.and_eq_true,decide_eq_true_eq] at h1
  rw [h1.2]
  exact ⟨by decide +kernel,by simp [a0C],by simp [a0C]⟩
theorem a4x {d:a0k} (h:a1N d=true):(a0I d).1=(a2v d).1/\(a0I d).2.2=(a2v d).2.1/\(∀e∈(a0I d).1,c0I e)/\(a0I d).1.length<=d.safe.length/\(a0I d).2.2<=d.safe.length:=by
 obtain ⟨m1,m2,m3⟩:=a1f h
 obtain ⟨s1,s2⟩:=a83 d.safe.length d.safe 0 m1
 obtain ⟨R,r1,r2,r3⟩:=a6e d.safe.length d.safe 0 m1
 have e1:(a0I d).1=(a2v d).1:=by rw [a2v,if_pos h];exact s1
 have e2:(a0I d).2.2=(a2v d).2.1:=by rw [a2v,if_pos h];exact s2
 refine ⟨e1,e2,fun e he=>r2 e (by rw [<-s1];exact he),?_,?_⟩
 ·rw [e1];exact (a65 d).1
 ·have:(a1R d.safe.length d.safe 0).2<=d.safe.length:=by
   rw [r3,Nat.zero_add]
   conv=>rhs;rw [r1]
   simp
  exact s2▸this
theorem c5E (r:a0o) (h:a7N r):PEv Tryz.prog 16 [Arg.enc r] (bv (b0u r)):=by
 obtain ⟨⟨sf,wt⟩,ops,ends⟩:=r
 obtain ⟨h1,h2,h3,h4,h5⟩:=h
 simp only at h1 h2 h3 h4 h5
 have g1:sf.length<281474976710656:=by omega
 have g2:wt.length<281474976710656:=by omega
 refine a0f mixed c9B Tryz.func16 f8h ok16 (by kernel_rfl) (by simp) (by simp [a0r]) ?_
 generalize hB:b0u ⟨⟨sf,wt⟩,ops,ends⟩=B
 unfold b0u at hB
 simp only at hB
 cases c1:a1N ⟨sf,wt⟩
 ·rw [c1] at hB
  simp only [Bool.false_and] at hB
  subst hB
  simp [s16,a0r,g1,g2,c1]
 by_cases c2:wt=[]
 rotate_left
 ·rw [c1,decide_eq_false c2] at hB
  simp only [Bool.true_and,Bool.false_and] at hB
  subst hB
  have:0<wt.length:=List.length_pos_iff.2 c2
  simp [s16,a0r,g1,g2,c1,this]
 subst c2
 obtain ⟨q1,q2,q3,q4,q5⟩:=a4x c1
 rw [c1] at hB
 simp only [decide_true,Bool.true_and] at hB
 generalize hL:a0I ⟨sf,[]⟩=L at *
 obtain ⟨es,ats,en⟩:=L
 simp only at q3 q4 q5 hB
 have hle:sf.length<=400:=(a1f c1).2.2
 have hes:es.length<1000:=by omega
 have hef:(∀e∈es,a3W e.op.text=true/\e.op.text.length<1000000/\e.op.gone.length<1000000)=True:=by
  simp only [eq_iff_iff,iff_true]
  intro e he
  have:=c5D (q3 e he)
  exact ⟨this.1,by omega,by omega⟩
 have hFl:=a8A es [] [] 0
 generalize hF:a1X [] [] 0 es=F at *
 obtain ⟨fe,fo,fn⟩:=F
 simp only [List.length_nil,Nat.zero_add] at hFl hB
 obtain ⟨f1,f2,f3,f4⟩:=hFl
 have hfe:fe.length<4611686018427387904:=by omega
 have hfo:fo.length<4611686018427387904:=by omega
 have hfg:(∀o∈fo,o.gone.length<4611686018427387904)=True:=by
  simp only [eq_iff_iff,iff_true]
  intro o ho
  rcases f4 o ho with h|⟨y,hy,rfl⟩
  ·simp at h
  ·have:=c5D (q3 y hy);omega
 have hfn:fn<4611686018427387904:=by omega
 cases c3:decide (fn=es.length)
 ·rw [c3] at hB
  simp only [Bool.false_and] at hB
  subst hB
  simp [s16,a0r,g1,g2,c1,hL,a1F,hes,hef,hF,a1T,c3]
 cases c4:decide (fe=ends)
 ·rw [c3,c4] at hB
  simp only [Bool.false_and,Bool.true_and] at hB
  subst hB
  simp [s16,a0r,g1,g2,c1,hL,a1F,hes,hef,hF,a1T,hfe,c3,c4]
 cases c5:decide (fo=ops)
 ·rw [c3,c4,c5] at hB
  simp only [Bool.false_and,Bool.true_and] at hB
  subst hB
  simp [s16,a0r,g1,g2,c1,hL,a1F,hes,hef,hF,a1T,hfe,hfo,hfg,c3,c4,c5]
 rw [c3,c4,c5] at hB
 simp only [Bool.true_and] at hB
 simp [s16,a0r,g1,g2,c1,hL,a1F,hes,hef,hF,a1T,hfe,hfo,hfg,c3,c4,c5]
 refine vl (fun i:Nat=>i<=sf.length/\b6J sf (sf.length-i) i=B) (fun i=>mkS [(1,.c (.pt (1,1) 0 0)),(9,iv i)] [.var (1,1) 29 (a0r .brw ⟨⟨sf,[]⟩,ops,ends⟩)]) (fun i=>sf.length-i) en ⟨q5,hB⟩ (a0b rfl ?_) ?_
 ·simp [a0r]
 rintro i ⟨hi,hx⟩ J hJ
 by_cases hlt:i<sf.length
 ·have hw:IntKind.wrap .i64 ((i:Int)+1)=((i+1:Nat):Int):=by rw [a0d]<;>omega
  obtain ⟨k,hk⟩:∃k,sf.length-i=k+1:=⟨sf.length-i-1,by omega⟩
  rw [hk,b6J,dif_pos hlt] at hx
  cases c6:decide (sf[i]=blank)
  ·rw [c6] at hx
   simp only [Bool.false_and] at hx
   subst hx
   simp [c7j,a0r,hlt,c6]
  ·rw [c6,Bool.true_and] at hx
   simp [c7j,a0r,hlt,c6,hw]
   refine hJ (i+1) ⟨by omega,by rw [show sf.length-(i+1)=k by omega];exact hx⟩ (by omega) _ (a0b rfl ?_)
   simp [a0r]
 ·obtain rfl:i=sf.length:=by omega
  rw [Nat.sub_self,b6J] at hx
  subst hx
  simp [c7j,a0r]
open Go
theorem a8B:∀(l:List a0i) (e:List Int) (o:List OpV) (k:Nat),a0L o=true->
  (∃r',a1U ⟨a18,o,e⟩ l=some r'/\a1X e o k l=(r'.ends,r'.ops,k+l.length))\/(a1U ⟨a18,o,e⟩ l=none/\(a1X e o k l).2.2<k+l.length)
 |[],e,o,k,h=>.inl ⟨_,rfl,rfl⟩
 |x::l,e,o,k,h=>by
  rw [a1X,a1U]
  cases hj:x.join
  ·have ht:=a4u h x.op
   by_cases hc:(e.length:Int)<x.op.site\/a0L (o++[x.op])=false
   ·right
    have hg:(a04 ⟨a18,o,e⟩ x).2=false:=by rw [a04,if_neg (by simp [hj]),if_pos hc]
    have hc':(e.length:Int)<x.op.site\/a4t o x.op=false\/a3r (o++[x.op])=false:=by
     rcases hc with hc|hc
     ·exact .inl hc
     ·rw [hc] at ht
      rcases hg2:a4t o x.op with _|_
      ·exact .inr (.inl rfl)
      ·rw [hg2,Bool.true_and] at ht;exact .inr (.inr ht.symm)
    rw [if_neg (by simp [hg]),if_neg (by simp),if_pos hc']
    exact ⟨rfl,by simp⟩
   ·have hg:a04 ⟨a18,o,e⟩ x=(⟨a18,o++[x.op],e⟩,true):=by rw [a04,if_neg (by simp [hj]),if_neg hc]
    rw [not_or] at hc
    have hb:a0L (o++[x.op])=true:=by simpa using hc.2
    rw [hb] at ht
    have ht2:=ht.symm
    rw [Bool.and_eq_true] at ht2
    have hc':¬((e.length:Int)<x.op.site\/a4t o x.op=false\/a3r (o++[x.op])=false):=by
     rintro (q|q|q)
     ·exact hc.1 q
     ·rw [ht2.1] at q;cases q
     ·rw [ht2.2] at q;cases q
    rw [hg,if_pos rfl,if_neg (by simp),if_neg hc']
    rcases a8B l e (o++[x.op]) (k+1) hb with ⟨r',h1,h2⟩|⟨h1,h2⟩
    ·exact .inl ⟨r',h1,by rw [h2,List.length_cons];congr 2;omega⟩
    ·exact .inr ⟨h1,by rw [List.length_cons];omega⟩
  ·by_cases hc:x.a0H∈e\/(8:Int)<=e.length
   ·right
    have hg:(a04 ⟨a18,o,e⟩ x).2=false:=by
     rw [a04,if_pos hj,if_pos (by rcases hc with h|h;exact .inr h;exact .inl (by simp only;omega))]
    rw [if_neg (by simp [hg]),if_pos rfl,if_pos hc]
    exact ⟨rfl,by simp⟩
   ·have hg:a04 ⟨a18,o,e⟩ x=(⟨a18,o,e++[x.a0H]⟩,true):=by
     rw [a04,if_pos hj,if_neg (by rw [not_or] at hc ⊢;exact ⟨by simp only;omega,hc.1⟩)]
    rw [hg,if_pos rfl,if_pos rfl,if_neg hc]
    rcases a8B l (e++[x.a0H]) o (k+1) h with ⟨r',h1,h2⟩|⟨h1,h2⟩
    ·exact .inl ⟨r',h1,by rw [h2,List.length_cons];congr 2;omega⟩
    ·exact .inr ⟨h1,by rw [List.length_cons];omega⟩
theorem c0Q (l:List (List UInt8)):∀(k i:Nat),k=l.length-i->b6J l k i=!((l.drop i).any fun s=>!decide (s=blank))
 |0,i,h=>by rw [b6J,List.drop_of_length_le (by omega)];rfl
 |k+1,i,h=>by
  have hi:i<l.length:=by omega
  rw [b6J,dif_pos hi,List.drop_eq_getElem_cons hi,List.any_cons,c0Q l k (i+1) (by omega)]
  cases decide (l[i]=blank)<;>simp
theorem c5F (r:a0o):b0u r=a1P r:=by
 obtain ⟨⟨sf,wt⟩,ops,ends⟩:=r
 unfold b0u a1P
 simp only
 cases c1:a1N ⟨sf,wt⟩
 ·rfl
 by_cases c2:wt=[]
 rotate_left
 ·rw [decide_eq_false c2];rfl
 subst c2
 obtain ⟨q1,q2,q3,q4,q5⟩:=a4x c1
 obtain ⟨m1,m2,m3⟩:=a1f c1
 obtain ⟨R,r1,r2,r3⟩:=a6e sf.length sf 0 m1
 have hload:a2v ⟨sf,[]⟩=((a1R sf.length sf 0).1,(a1R sf.length sf 0).2,0):=by rw [a2v,if_pos c1]
 have hen:(a0I ⟨sf,[]⟩).2.2=(a19 (a2v ⟨sf,[]⟩).1).length:=by rw [q2,hload];simp only;rw [r3,Nat.zero_add]
 simp only [decide_true,Bool.true_and]
 rw [q1]
 rcases a8B (a2v ⟨sf,[]⟩).1 [] [] 0 a5y with ⟨r',h1,h2⟩|⟨h1,h2⟩
 ·have ht:a1A ⟨sf,[]⟩=(r',(a19 (a2v ⟨sf,[]⟩).1).length):=by rw [a1A,a9o _ a2q _ 0 h1,Nat.zero_add]
  rw [h2,ht,hen,c0Q _ _ _ rfl]
  simp
 ·have e1:decide ((a1X [] [] 0 (a2v ⟨sf,[]⟩).1).2.2=(a2v ⟨sf,[]⟩).1.length)=false:=by
   rw [decide_eq_false_iff_not];omega
  rw [e1]
  simp only [Bool.false_and]
  cases hm:a1P ⟨⟨sf,[]⟩,ops,ends⟩
  ·have:=hm
   unfold a1P at this
   simp only [c1,decide_true,Bool.true_and] at this
   exact this.symm
  ·obtain ⟨es,k,hI⟩:=a6z hm
   have:=hI.load
   simp only at this
   rw [this] at h1
   simp only at h1
   have h3:=hI.all
   rw [show a2q=⟨a18,[],[]⟩ from rfl,h1] at h3
   cases h3
open Go Go.Proofs
def b8P:List AV->Option (Prop×AV):=t3 (fun _ _ _=>True) fun n a b:Int=>bv (decide (a<=n)&&decide (n<=b))
@[simp] theorem e5n {l:List AV}:b8P l=(t3 (fun _ _ _=>True) fun n a b:Int=>bv (decide (a<=n)&&decide (n<=b))) l:=(rfl)
def b8Q:List AV->Option (Prop×AV):=t2 (fun _ _=>True) fun n hi:Int=>bv (decide (0<=n)&&decide (n<=hi))
@[simp] theorem e5o {l:List AV}:b8Q l=(t2 (fun _ _=>True) fun n hi:Int=>bv (decide (0<=n)&&decide (n<=hi))) l:=(rfl)
def b8R:List AV->Option (Prop×AV):=t2 (fun a _=>okM a) fun a b:a02=>bv (decide (a=b))
@[simp] theorem e5p {l:List AV}:b8R l=(t2 (fun a _=>okM a) fun a b:a02=>bv (decide (a=b))) l:=(rfl)
def FX5:CT:=(43,.pu b8P)::(63,.pu b8Q)::(22,.pu b8R)::FX4
theorem e0E:a1k Tryz.prog FX5:=⟨a4L fun n a b _=>b1h (F:=[]) trivial n a b,
 a0P fun n hi _=>c0h n hi,
 a0P fun a b h=>c0D a b h,c9B⟩
@[simp] theorem e0F:a0c FX5 43=some (.pu b8P):=(rfl)
@[simp] theorem e0G:a0c FX5 63=some (.pu b8Q):=(rfl)
@[simp] theorem e0H:a0c FX5 22=some (.pu b8R):=(rfl)
@[simp] theorem e5q {n:Nat} (h:(n==43||n==63||n==22)=false):a0c FX5 n=a0c FX4 n:=by
 simp only [Bool.or_eq_false_iff,beq_eq_false_iff_ne,ne_eq] at h
 simp [FX5,a0c,h]
def c14 (m:a02):Bool×a02:=
 if m.kind=1 then (b0X m.a0H,⟨1,0,m.a0H,0,0,0,[]⟩)
 else if m.kind=2 then ((b0X m.a0H&&a3h m.site),⟨2,m.site,m.a0H,0,0,0,[]⟩)
 else if m.kind=3 then ((a3h m.site&&countB m.known),⟨3,m.site,0,m.known,0,0,[]⟩)
 else if m.kind=4 then ((a3h m.site&&countB m.known&&decide ((m.ops.length:Int)=1)),⟨4,m.site,0,m.known,0,0,m.ops⟩)
 else if m.kind=5 then ((countB m.known&&decide ((m.ops.length:Int)<=4)),⟨5,0,0,m.known,0,0,m.ops⟩)
 else if m.kind=6 then ((a3h m.site&&b0X m.seq&&decide (1<=m.err)&&decide (m.err<=8)),⟨6,m.site,0,0,m.seq,m.err,[]⟩)
 else (false,m)
def a22 (m:a02):Bool:=(c14 m).1&&!(m.ops.any fun o=>!a0v o)&&decide (m=(c14 m).2)
@[simp] theorem e5r (a b c d e f:Int):Arg.dec (.g [.raw (.int .i64 a),.raw (.int .i64 b),.raw (.int .i64 c),.raw (.int .i64 d),.raw (.int .i64 e),.raw (.int .i64 f),.sl .brw false []])=some (a02.mk a b c d e f []):=d1v a b c d e f []
theorem a6A {l:List OpV} {i:Nat} (h:false=(true&&(l.take i).all a0v)):(l.any fun o=>!a0v o)=true:=by
 rw [Bool.true_and] at h
 have h:=h.symm
 rw [List.all_eq_false] at h
 obtain ⟨o,ho,hb⟩:=h
 exact List.any_eq_true.2 ⟨o,List.mem_of_mem_take ho,by simpa using hb⟩
theorem a6B {l:List OpV} {i:Nat} (hi:i<l.length) (h:true=(true&&(l.take i).all a0v)):a0v l[i]=(true&&(l.take (i+1)).all a0v):=by
 rw [Bool.true_and] at h
 rw [Bool.true_and,<-List.take_append_getElem hi,List.all_append,<-h]
 simp
theorem a8C {l:List OpV} (h:true=(true&&(l.take l.length).all a0v)):(l.any fun o=>!a0v o)=false:=by
 rw [Bool.true_and,List.take_length] at h
 rw [List.any_eq_false]
 intro o ho
 simp [List.all_eq_true.1 h.symm o ho]
theorem c5G (m:a02) (h:okM m):PEv Tryz.prog 23 [Arg.enc m] (bv (a22 m)):=by
 have hm:=h
 refine a0f mixed e0E Tryz.func23 f8m f8n (by kernel_rfl) (by simp) (by simp [a0l,a0u]) ?_
 obtain ⟨a1,a2,a3,a4,a5,a6,l⟩:=m
 obtain ⟨hl,hlo⟩:=h
 simp only at hl hlo
 have eB:∀n:Int,(decide (1<=n)&&decide (n<=268435456))=b0X n:=fun _=>rfl
 have eC:∀n:Int,(decide (0<=n)&&decide (n<=40))=countB n:=fun _=>rfl
 have eS:∀n:Int,(decide (1<=n)&&decide (n<=8))=a3h n:=fun _=>by simp [a3h]
 generalize hM:a22 ⟨a1,a2,a3,a4,a5,a6,l⟩=M
 unfold a22 c14 at hM
 simp only at hM
 by_cases k1:a1=1
 ·subst k1
  rw [if_pos rfl] at hM
  simp only at hM
  cases d1:b0X a3
  ·rw [d1] at hM
   simp only [Bool.and_true,Bool.true_and,Bool.false_and,Bool.and_false] at hM
   subst hM
   simp only [a2b,a0l,a0u]
   simp [s23,eB,eC,eS,d1]
   refine vl (fun p:Nat×Bool=>p.1<=l.length/\p.2=(false&&(l.take p.1).all a0v)) (fun p=>mkS [(1,.c (.pt (1,1) 0 0)),(3,.c (.pt (1,2) 0 0)),(4,bv p.2),(6,iv p.1)] [.var (1,1) 38 (a0l .brw ⟨1,a2,a3,a4,a5,a6,l⟩),.var (1,2) 38 (a0l .brw ⟨1,0,a3,0,0,0,[]⟩)]) (fun p=>l.length-p.1) (0,false) ⟨by simp,by simp⟩ (a0b rfl ?_) ?_
   ·simp [a0l,a0u]
   rintro ⟨i,ok⟩ ⟨hi,hok⟩ J hJ
   simp only at hi hok
   cases ok
   ·by_cases hlt:i<l.length<;>simp only [a0l,a0u]<;>simp [a2X,hlt]
   ·simp at hok
  rw [d1] at hM
  simp only [Bool.and_true,Bool.true_and,Bool.false_and,Bool.and_false] at hM
  simp only [a2b,a0l,a0u]
  simp [s23,eB,eC,eS,d1]
  refine vl (fun p:Nat×Bool=>p.1<=l.length/\p.2=(true&&(l.take p.1).all a0v)) (fun p=>mkS [(1,.c (.pt (1,1) 0 0)),(3,.c (.pt (1,2) 0 0)),(4,bv p.2),(6,iv p.1)] [.var (1,1) 38 (a0l .brw ⟨1,a2,a3,a4,a5,a6,l⟩),.var (1,2) 38 (a0l .brw ⟨1,0,a3,0,0,0,[]⟩)]) (fun p=>l.length-p.1) (0,true) ⟨by simp,by simp⟩ (a0b rfl ?_) ?_
  ·simp [a0l,a0u]
  rintro ⟨i,ok⟩ ⟨hi,hok⟩ J hJ
  simp only at hi hok
  cases ok
  ·have hMf:M=false:=by rw [<-hM,a6A hok];rfl
   by_cases hlt:i<l.length<;>simp only [a0l,a0u]<;>simp [a2X,hlt,hMf]
  by_cases hlt:i<l.length
  ·have hw:IntKind.wrap .i64 ((i:Int)+1)=((i+1:Nat):Int):=by rw [a0d]<;>omega
   have ho:=hlo _ (List.getElem_mem hlt)
   have ho2:l[i].gone.length<4611686018427387904:=by omega
   simp only [a0l,a0u]
   simp [a2X,hlt,a0e,ho.1,ho2,hw]
   refine hJ (i+1,a0v l[i]) ⟨by simp;omega,a6B hlt hok⟩ (by simp;omega) _ (a0b rfl ?_)
   simp [a0l,a0u]
  ·obtain rfl:i=l.length:=by omega
   simp only [a0l,a0u]
   simp [a2X,hm]
   rw [<-hM,a8C hok];simp
 rw [if_neg k1] at hM
 by_cases k2:a1=2
 ·subst k2
  rw [if_pos rfl] at hM
  simp only at hM
  cases d1:b0X a3
  ·rw [d1] at hM
   simp only [Bool.and_true,Bool.true_and,Bool.false_and,Bool.and_false] at hM
   subst hM
   simp only [a2b,a0l,a0u]
   simp [s23,eB,eC,eS,d1]
   refine vl (fun p:Nat×Bool=>p.1<=l.length/\p.2=(false&&(l.take p.1).all a0v)) (fun p=>mkS [(1,.c (.pt (1,1) 0 0)),(3,.c (.pt (1,2) 0 0)),(4,bv p.2),(6,iv p.1)] [.var (1,1) 38 (a0l .brw ⟨2,a2,a3,a4,a5,a6,l⟩),.var (1,2) 38 (a0l .brw ⟨2,a2,a3,0,0,0,[]⟩)]) (fun p=>l.length-p.1) (0,false) ⟨by simp,by simp⟩ (a0b rfl ?_) ?_
   ·simp [a0l,a0u]
   rintro ⟨i,ok⟩ ⟨hi,hok⟩ J hJ
   simp only at hi hok
   cases ok
   ·by_cases hlt:i<l.length<;>simp only [a0l,a0u]<;>simp [a2X,hlt]
   ·simp at hok
  cases d2:a3h a2
  ·rw [d1,d2] at hM
   simp only [Bool.and_true,Bool.true_and,Bool.false_and,Bool.and_false] at hM
   subst hM
   simp only [a2b,a0l,a0u]
   simp [s23,eB,eC,eS,d1,d2]
   refine vl (fun p:Nat×Bool=>p.1<=l.length/\p.2=(false&&(l.take p.1).all a0v)) (fun p=>mkS [(1,.c (.pt (1,1) 0 0)),(3,.c (.pt (1,2) 0 0)),(4,bv p.2),(6,iv p.1)] [.var (1,1) 38 (a0l .brw ⟨2,a2,a3,a4,a5,a6,l⟩),.var (1,2) 38 (a0l .brw ⟨2,a2,a3,0,0,0,[]⟩)]) (fun p=>l.length-p.1) (0,false) ⟨by simp,by simp⟩ (a0b rfl ?_) ?_
   ·simp [a0l,a0u]
   rintro ⟨i,ok⟩ ⟨hi,hok⟩ J hJ
   simp only at hi hok
   cases ok
   ·by_cases hlt:i<l.length<;>simp only [a0l,a0u]<;>simp [a2X,hlt]
   ·simp at hok
  rw [d1,d2] at hM
  simp only [Bool.and_true,Bool.true_and,Bool.false_and,Bool.and_false] at hM
  simp only [a2b,a0l,a0u]
  simp [s23,eB,eC,eS,d1,d2]
  refine vl (fun p:Nat×Bool=>p.1<=l.length/\p.2=(true&&(l.take p.1).all a0v)) (fun p=>mkS [(1,.c (.pt (1,1) 0 0)),(3,.c (.pt (1,2) 0 0)),(4,bv p.2),(6,iv p.1)] [.var (1,1) 38 (a0l .brw ⟨2,a2,a3,a4,a5,a6,l⟩),.var (1,2) 38 (a0l .brw ⟨2,a2,a3,0,0,0,[]⟩)]) (fun p=>l.length-p.1) (0,true) ⟨by simp,by simp⟩ (a0b rfl ?_) ?_
  ·simp [a0l,a0u]
  rintro ⟨i,ok⟩ ⟨hi,hok⟩ J hJ
  simp only at hi hok
  cases ok
  ·have hMf:M=false:=by rw [<-hM,a6A hok];rfl
   by_cases hlt:i<l.length<;>simp only [a0l,a0u]<;>simp [a2X,hlt,hMf]
  by_cases hlt:i<l.length
  ·have hw:IntKind.wrap .i64 ((i:Int)+1)=((i+1:Nat):Int):=by rw [a0d]<;>omega
   have ho:=hlo _ (List.getElem_mem hlt)
   have ho2:l[i].gone.length<4611686018427387904:=by omega
   simp only [a0l,a0u]
   simp [a2X,hlt,a0e,ho.1,ho2,hw]
   refine hJ (i+1,a0v l[i]) ⟨by simp;omega,a6B hlt hok⟩ (by simp;omega) _ (a0b rfl ?_)
   simp [a0l,a0u]
  ·obtain rfl:i=l.length:=by omega
   simp only [a0l,a0u]
   simp [a2X,hm]
   rw [<-hM,a8C hok];simp
 rw [if_neg k2] at hM
 by_cases k3:a1=3
 ·subst k3
  rw [if_pos rfl] at hM
  simp only at hM
  cases d1:a3h a2
  ·rw [d1] at hM
   simp only [Bool.and_true,Bool.true_and,Bool.false_and,Bool.and_false] at hM
   subst hM
   simp only [a2b,a0l,a0u]
   simp [s23,eB,eC,eS,d1]
   refine vl (fun p:Nat×Bool=>p.1<=l.length/\p.2=(false&&(l.take p.1).all a0v)) (fun p=>mkS [(1,.c (.pt (1,1) 0 0)),(3,.c (.pt (1,2) 0 0)),(4,bv p.2),(6,iv p.1)] [.var (1,1) 38 (a0l .brw ⟨3,a2,a3,a4,a5,a6,l⟩),.var (1,2) 38 (a0l .brw ⟨3,a2,0,a4,0,0,[]⟩)]) (fun p=>l.length-p.1) (0,false) ⟨by simp,by simp⟩ (a0b rfl ?_) ?_
   ·simp [a0l,a0u]
   rintro ⟨i,ok⟩ ⟨hi,hok⟩ J hJ
   simp only at hi hok
   cases ok
   ·by_cases hlt:i<l.length<;>simp only [a0l,a0u]<;>simp [a2X,hlt]
   ·simp at hok
  cases d2:countB a4
  ·rw [d1,d2] at hM
   simp only [Bool.and_true,Bool.true_and,Bool.false_and,Bool.and_false] at hM
   subst hM
   simp only [a2b,a0l,a0u]
   simp [s23,eB,eC,eS,d1,d2]
   refine vl (fun p:Nat×Bool=>p.1<=l.length/\p.2=(false&&(l.take p.1).all a0v)) (fun p=>mkS [(1,.c (.pt (1,1) 0 0)),(3,.c (.pt (1,2) 0 0)),(4,bv p.2),(6,iv p.1)] [.var (1,1) 38 (a0l .brw ⟨3,a2,a3,a4,a5,a6,l⟩),.var (1,2) 38 (a0l .brw ⟨3,a2,0,a4,0,0,[]⟩)]) (fun p=>l.length-p.1) (0,false) ⟨by simp,by simp⟩ (a0b rfl ?_) ?_
   ·simp [a0l,a0u]
   rintro ⟨i,ok⟩ ⟨hi,hok⟩ J hJ
   simp only at hi hok
   cases ok
   ·by_cases hlt:i<l.length<;>simp only [a0l,a0u]<;>simp [a2X,hlt]
   ·simp at hok
  rw [d1,d2] at hM
  simp only [Bool.and_true,Bool.true_and,Bool.false_and,Bool.and_false] at hM
  simp only [a2b,a0l,a0u]
  simp [s23,eB,eC,eS,d1,d2]
  refine vl (fun p:Nat×Bool=>p.1<=l.length/\p.2=(true&&(l.take p.1).all a0v)) (fun p=>mkS [(1,.c (.pt (1,1) 0 0)),(3,.c (.pt (1,2) 0 0)),(4,bv p.2),(6,iv p.1)] [.var (1,1) 38 (a0l .brw ⟨3,a2,a3,a4,a5,a6,l⟩),.var (1,2) 38 (a0l .brw ⟨3,a2,0,a4,0,0,[]⟩)]) (fun p=>l.length-p.1) (0,true) ⟨by simp,by simp⟩ (a0b rfl ?_) ?_
  ·simp [a0l,a0u]
  rintro ⟨i,ok⟩ ⟨hi,hok⟩ J hJ
  simp only at hi hok
  cases ok
  ·have hMf:M=false:=by rw [<-hM,a6A hok];rfl
   by_cases hlt:i<l.length<;>simp only [a0l,a0u]<;>simp [a2X,hlt,hMf]
  by_cases hlt:i<l.length
  ·have hw:IntKind.wrap .i64 ((i:Int)+1)=((i+1:Nat):Int):=by rw [a0d]<;>omega
   have ho:=hlo _ (List.getElem_mem hlt)
   have ho2:l[i].gone.length<4611686018427387904:=by omega
   simp only [a0l,a0u]
   simp [a2X,hlt,a0e,ho.1,ho2,hw]
   refine hJ (i+1,a0v l[i]) ⟨by simp;omega,a6B hlt hok⟩ (by simp;omega) _ (a0b rfl ?_)
   simp [a0l,a0u]
  ·obtain rfl:i=l.length:=by omega
   simp only [a0l,a0u]
   simp [a2X,hm]
   rw [<-hM,a8C hok];simp
 rw [if_neg k3] at hM
 by_cases k4:a1=4
 ·subst k4
  rw [if_pos rfl] at hM
  simp only at hM
  cases d1:a3h a2
  ·rw [d1] at hM
   simp only [Bool.and_true,Bool.true_and,Bool.false_and,Bool.and_false] at hM
   subst hM
   simp only [a2b,a0l,a0u]
   simp [s23,eB,eC,eS,d1]
   refine vl (fun p:Nat×Bool=>p.1<=l.length/\p.2=(false&&(l.take p.1).all a0v)) (fun p=>mkS [(1,.c (.pt (1,1) 0 0)),(3,.c (.pt (1,2) 0 0)),(4,bv p.2),(6,iv p.1)] [.var (1,1) 38 (a0l .brw ⟨4,a2,a3,a4,a5,a6,l⟩),.var (1,2) 38 (a0l .brw ⟨4,a2,0,a4,0,0,l⟩)]) (fun p=>l.length-p.1) (0,false) ⟨by simp,by simp⟩ (a0b rfl ?_) ?_
   ·simp [a0l,a0u]
   rintro ⟨i,ok⟩ ⟨hi,hok⟩ J hJ
   simp only at hi hok
   cases ok
   ·by_cases hlt:i<l.length<;>simp only [a0l,a0u]<;>simp [a2X,hlt]
   ·simp at hok
  cases d2:countB a4
  ·rw [d1,d2] at hM
   simp only [Bool.and_true,Bool.true_and,Bool.false_and,Bool.and_false] at hM
   subst hM
   simp only [a2b,a0l,a0u]
   simp [s23,eB,eC,eS,d1,d2]
   refine vl (fun p:Nat×Bool=>p.1<=l.length/\p.2=(false&&(l.take p.1).all a0v)) (fun p=>mkS [(1,.c (.pt (1,1) 0 0)),(3,.c (.pt (1,2) 0 0)),(4,bv p.2),(6,iv p.1)] [.var (1,1) 38 (a0l .brw ⟨4,a2,a3,a4,a5,a6,l⟩),.var (1,2) 38 (a0l .brw ⟨4,a2,0,a4,0,0,l⟩)]) (fun p=>l.length-p.1) (0,false) ⟨by simp,by simp⟩ (a0b rfl ?_) ?_
   ·simp [a0l,a0u]
   rintro ⟨i,ok⟩ ⟨hi,hok⟩ J hJ
   simp only at hi hok
   cases ok
   ·by_cases hlt:i<l.length<;>simp only [a0l,a0u]<;>simp [a2X,hlt]
   ·simp at hok
  cases d3:decide ((l.length:Int)=1)
  ·rw [d1,d2,d3] at hM
   simp only [Bool.and_true,Bool.true_and,Bool.false_and,Bool.and_false] at hM
   subst hM
   simp only [a2b,a0l,a0u]
   simp [s23,eB,eC,eS,d1,d2,d3]
   refine vl (fun p:Nat×Bool=>p.1<=l.length/\p.2=(false&&(l.take p.1).all a0v)) (fun p=>mkS [(1,.c (.pt (1,1) 0 0)),(3,.c (.pt (1,2) 0 0)),(4,bv p.2),(6,iv p.1)] [.var (1,1) 38 (a0l .brw ⟨4,a2,a3,a4,a5,a6,l⟩),.var (1,2) 38 (a0l .brw ⟨4,a2,0,a4,0,0,l⟩)]) (fun p=>l.length-p.1) (0,false) ⟨by simp,by simp⟩ (a0b rfl ?_) ?_
   ·simp [a0l,a0u]
   rintro ⟨i,ok⟩ ⟨hi,hok⟩ J hJ
   simp only at hi hok
   cases ok
   ·by_cases hlt:i<l.length<;>simp only [a0l,a0u]<;>simp [a2X,hlt]
   ·simp at hok
  rw [d1,d2,d3] at hM
  simp only [Bool.and_true,Bool.true_and,Bool.false_and,Bool.and_false] at hM
  simp only [a2b,a0l,a0u]
  simp [s23,eB,eC,eS,d1,d2,d3]
  refine vl (fun p:Nat×Bool=>p.1<=l.length/\p.2=(true&&(l.take p.1).all a0v)) (fun p=>mkS [(1,.c (.pt (1,1) 0 0)),(3,.c (.pt (1,2) 0 0)),(4,bv p.2),(6,iv p.1)] [.var (1,1) 38 (a0l .brw ⟨4,a2,a3,a4,a5,a6,l⟩),.var (1,2) 38 (a0l .brw ⟨4,a2,0,a4,0,0,l⟩)]) (fun p=>l.length-p.1) (0,true) ⟨by simp,by simp⟩ (a0b rfl ?_) ?_
  ·simp [a0l,a0u]
  rintro ⟨i,ok⟩ ⟨hi,hok⟩ J hJ
  simp only at hi hok
  cases ok
  ·have hMf:M=false:=by rw [<-hM,a6A hok];rfl
   by_cases hlt:i<l.length<;>simp only [a0l,a0u]<;>simp [a2X,hlt,hMf]
  by_cases hlt:i<l.length
  ·have hw:IntKind.wrap .i64 ((i:Int)+1)=((i+1:Nat):Int):=by rw [a0d]<;>omega
   have ho:=hlo _ (List.getElem_mem hlt)
   have ho2:l[i].gone.length<4611686018427387904:=by omega
   simp only [a0l,a0u]
   simp [a2X,hlt,a0e,ho.1,ho2,hw]
   refine hJ (i+1,a0v l[i]) ⟨by simp;omega,a6B hlt hok⟩ (by simp;omega) _ (a0b rfl ?_)
   simp [a0l,a0u]
  ·obtain rfl:i=l.length:=by omega
   simp only [a0l,a0u]
   simp [a2X,hm]
   rw [<-hM,a8C hok];simp
 rw [if_neg k4] at hM
 by_cases k5:a1=5
 ·subst k5
  rw [if_pos rfl] at hM
  simp only at hM
  cases d1:countB a4
  ·rw [d1] at hM
   simp only [Bool.and_true,Bool.true_and,Bool.false_and,Bool.and_false] at hM
   subst hM
   simp only [a2b,a0l,a0u]
   simp [s23,eB,eC,eS,d1]
   refine vl (fun p:Nat×Bool=>p.1<=l.length/\p.2=(false&&(l.take p.1).all a0v)) (fun p=>mkS [(1,.c (.pt (1,1) 0 0)),(3,.c (.pt (1,2) 0 0)),(4,bv p.2),(6,iv p.1)] [.var (1,1) 38 (a0l .brw ⟨5,a2,a3,a4,a5,a6,l⟩),.var (1,2) 38 (a0l .brw ⟨5,0,0,a4,0,0,l⟩)]) (fun p=>l.length-p.1) (0,false) ⟨by simp,by simp⟩ (a0b rfl ?_) ?_
   ·simp [a0l,a0u]
   rintro ⟨i,ok⟩ ⟨hi,hok⟩ J hJ
   simp only at hi hok
   cases ok
   ·by_cases hlt:i<l.length<;>simp only [a0l,a0u]<;>simp [a2X,hlt]
   ·simp at hok
  cases d2:decide ((l.length:Int)<=4)
  ·rw [d1,d2] at hM
   simp only [Bool.and_true,Bool.true_and,Bool.false_and,Bool.and_false] at hM
   subst hM
   simp only [a2b,a0l,a0u]
   simp [s23,eB,eC,eS,d1,d2]
   refine vl (fun p:Nat×Bool=>p.1<=l.length/\p.2=(false&&(l.take p.1).all a0v)) (fun p=>mkS [(1,.c (.pt (1,1) 0 0)),(3,.c (.pt (1,2) 0 0)),(4,bv p.2),(6,iv p.1)] [.var (1,1) 38 (a0l .brw ⟨5,a2,a3,a4,a5,a6,l⟩),.var (1,2) 38 (a0l .brw ⟨5,0,0,a4,0,0,l⟩)]) (fun p=>l.length-p.1) (0,false) ⟨by simp,by simp⟩ (a0b rfl ?_) ?_
   ·simp [a0l,a0u]
   rintro ⟨i,ok⟩ ⟨hi,hok⟩ J hJ
   simp only at hi hok
   cases ok
   ·by_cases hlt:i<l.length<;>simp only [a0l,a0u]<;>simp [a2X,hlt]
   ·simp at hok
  rw [d1,d2] at hM
  simp only [Bool.and_true,Bool.true_and,Bool.false_and,Bool.and_false] at hM
  simp only [a2b,a0l,a0u]
  simp [s23,eB,eC,eS,d1,d2]
  refine vl (fun p:Nat×Bool=>p.1<=l.length/\p.2=(true&&(l.take p.1).all a0v)) (fun p=>mkS [(1,.c (.pt (1,1) 0 0)),(3,.c (.pt (1,2) 0 0)),(4,bv p.2),(6,iv p.1)] [.var (1,1) 38 (a0l .brw ⟨5,a2,a3,a4,a5,a6,l⟩),.var (1,2) 38 (a0l .brw ⟨5,0,0,a4,0,0,l⟩)]) (fun p=>l.length-p.1) (0,true) ⟨by simp,by simp⟩ (a0b rfl ?_) ?_
  ·simp [a0l,a0u]
  rintro ⟨i,ok⟩ ⟨hi,hok⟩ J hJ
  simp only at hi hok
  cases ok
  ·have hMf:M=false:=by rw [<-hM,a6A hok];rfl
   by_cases hlt:i<l.length<;>simp only [a0l,a0u]<;>simp [a2X,hlt,hMf]
  by_cases hlt:i<l.length
  ·have hw:IntKind.wrap .i64 ((i:Int)+1)=((i+1:Nat):Int):=by rw [a0d]<;>omega
   have ho:=hlo _ (List.getElem_mem hlt)
   have ho2:l[i].gone.length<4611686018427387904:=by omega
   simp only [a0l,a0u]
   simp [a2X,hlt,a0e,ho.1,ho2,hw]
   refine hJ (i+1,a0v l[i]) ⟨by simp;omega,a6B hlt hok⟩ (by simp;omega) _ (a0b rfl ?_)
   simp [a0l,a0u]
  ·obtain rfl:i=l.length:=by omega
   simp only [a0l,a0u]
   simp [a2X,hm]
   rw [<-hM,a8C hok];simp
 rw [if_neg k5] at hM
 by_cases k6:a1=6
 ·subst k6
  rw [if_pos rfl] at hM
  simp only at hM
  cases d1:a3h a2
  ·rw [d1] at hM
   simp only [Bool.and_true,Bool.true_and,Bool.false_and,Bool.and_false] at hM
   subst hM
   simp only [a2b,a0l,a0u]
   simp [s23,eB,eC,eS,d1]
   refine vl (fun p:Nat×Bool=>p.1<=l.length/\p.2=(false&&(l.take p.1).all a0v)) (fun p=>mkS [(1,.c (.pt (1,1) 0 0)),(3,.c (.pt (1,2) 0 0)),(4,bv p.2),(6,iv p.1)] [.var (1,1) 38 (a0l .brw ⟨6,a2,a3,a4,a5,a6,l⟩),.var (1,2) 38 (a0l .brw ⟨6,a2,0,0,a5,a6,[]⟩)]) (fun p=>l.length-p.1) (0,false) ⟨by simp,by simp⟩ (a0b rfl ?_) ?_
   ·simp [a0l,a0u]
   rintro ⟨i,ok⟩ ⟨hi,hok⟩ J hJ
   simp only at hi hok
   cases ok
   ·by_cases hlt:i<l.length<;>simp only [a0l,a0u]<;>simp [a2X,hlt]
   ·simp at hok
  cases d2:b0X a5
  ·rw [d1,d2] at hM
   simp only [Bool.and_true,Bool.true_and,Bool.false_and,Bool.and_false] at hM
   subst hM
   simp only [a2b,a0l,a0u]
   simp [s23,eB,eC,eS,d1,d2]
   refine vl (fun p:Nat×Bool=>p.1<=l.length/\p.2=(false&&(l.take p.1).all a0v)) (fun p=>mkS [(1,.c (.pt (1,1) 0 0)),(3,.c (.pt (1,2) 0 0)),(4,bv p.2),(6,iv p.1)] [.var (1,1) 38 (a0l .brw ⟨6,a2,a3,a4,a5,a6,l⟩),.var (1,2) 38 (a0l .brw ⟨6,a2,0,0,a5,a6,[]⟩)]) (fun p=>l.length-p.1) (0,false) ⟨by simp,by simp⟩ (a0b rfl ?_) ?_
   ·simp [a0l,a0u]
   rintro ⟨i,ok⟩ ⟨hi,hok⟩ J hJ
   simp only at hi hok
   cases ok
   ·by_cases hlt:i<l.length<;>simp only [a0l,a0u]<;>simp [a2X,hlt]
   ·simp at hok
  cases d3:decide (1<=a6)
  ·rw [d1,d2,d3] at hM
   simp only [Bool.and_true,Bool.true_and,Bool.false_and,Bool.and_false] at hM
   subst hM
   simp only [a2b,a0l,a0u]
   simp [s23,eB,eC,eS,d1,d2,d3]
   refine vl (fun p:Nat×Bool=>p.1<=l.length/\p.2=(false&&(l.take p.1).all a0v)) (fun p=>mkS [(1,.c (.pt (1,1) 0 0)),(3,.c (.pt (1,2) 0 0)),(4,bv p.2),(6,iv p.1)] [.var (1,1) 38 (a0l .brw ⟨6,a2,a3,a4,a5,a6,l⟩),.var (1,2) 38 (a0l .brw ⟨6,a2,0,0,a5,a6,[]⟩)]) (fun p=>l.length-p.1) (0,false) ⟨by simp,by simp⟩ (a0b rfl ?_) ?_
   ·simp [a0l,a0u]
   rintro ⟨i,ok⟩ ⟨hi,hok⟩ J hJ
   simp only at hi hok
   cases ok
   ·by_cases hlt:i<l.length<;>simp only [a0l,a0u]<;>simp [a2X,hlt]
   ·simp at hok
  cases d4:decide (a6<=8)
  ·rw [d1,d2,d3,d4] at hM
   simp only [Bool.and_true,Bool.true_and,Bool.false_and,Bool.and_false] at hM
   subst hM
   simp only [a2b,a0l,a0u]
   simp [s23,eB,eC,eS,d1,d2,d3,d4]
   refine vl (fun p:Nat×Bool=>p.1<=l.length/\p.2=(false&&(l.take p.1).all a0v)) (fun p=>mkS [(1,.c (.pt (1,1) 0 0)),(3,.c (.pt (1,2) 0 0)),(4,bv p.2),(6,iv p.1)] [.var (1,1) 38 (a0l .brw ⟨6,a2,a3,a4,a5,a6,l⟩),.var (1,2) 38 (a0l .brw ⟨6,a2,0,0,a5,a6,[]⟩)]) (fun p=>l.length-p.1) (0,false) ⟨by simp,by simp⟩ (a0b rfl ?_) ?_
   ·simp [a0l,a0u]
   rintro ⟨i,ok⟩ ⟨hi,hok⟩ J hJ
   simp only at hi hok
   cases ok
   ·by_cases hlt:i<l.length<;>simp only [a0l,a0u]<;>simp [a2X,hlt]
   ·simp at hok
  rw [d1,d2,d3,d4] at hM
  simp only [Bool.and_true,Bool.true_and,Bool.false_and,Bool.and_false] at hM
  simp only [a2b,a0l,a0u]
  simp [s23,eB,eC,eS,d1,d2,d3,d4]
  refine vl (fun p:Nat×Bool=>p.1<=l.length/\p.2=(true&&(l.take p.1).all a0v)) (fun p=>mkS [(1,.c (.pt (1,1) 0 0)),(3,.c (.pt (1,2) 0 0)),(4,bv p.2),(6,iv p.1)] [.var (1,1) 38 (a0l .brw ⟨6,a2,a3,a4,a5,a6,l⟩),.var (1,2) 38 (a0l .brw ⟨6,a2,0,0,a5,a6,[]⟩)]) (fun p=>l.length-p.1) (0,true) ⟨by simp,by simp⟩ (a0b rfl ?_) ?_
  ·simp [a0l,a0u]
  rintro ⟨i,ok⟩ ⟨hi,hok⟩ J hJ
  simp only at hi hok
  cases ok
  ·have hMf:M=false:=by rw [<-hM,a6A hok];rfl
   by_cases hlt:i<l.length<;>simp only [a0l,a0u]<;>simp [a2X,hlt,hMf]
  by_cases hlt:i<l.length
  ·have hw:IntKind.wrap .i64 ((i:Int)+1)=((i+1:Nat):Int):=by rw [a0d]<;>omega
   have ho:=hlo _ (List.getElem_mem hlt)
   have ho2:l[i].gone.length<4611686018427387904:=by omega
   simp only [a0l,a0u]
   simp [a2X,hlt,a0e,ho.1,ho2,hw]
   refine hJ (i+1,a0v l[i]) ⟨by simp;omega,a6B hlt hok⟩ (by simp;omega) _ (a0b rfl ?_)
   simp [a0l,a0u]
  ·obtain rfl:i=l.length:=by omega
   simp only [a0l,a0u]
   simp [a2X,hm]
   rw [<-hM,a8C hok];simp
 rw [if_neg k6] at hM
 subst hM
 simp only [a2b,a0l,a0u]
 simp [s23,eB,eC,eS,k1,k2,k3,k4,k5,k6]
open Go
theorem b6K:∀(l:List OpV) (y:a02),y.ops.length<=4->∃j,a8x y l={y with ops:=y.ops++l.take j}/\(a8x y l).ops.length<=4
 |[],y,h=>⟨0,by simp [a8x],by simpa [a8x] using h⟩
 |o::l,y,h=>by
  rw [a8x]
  split
  ·exact ⟨0,by simp,h⟩
  ·rename_i c
   rw [not_or] at c
   obtain ⟨j,h1,h2⟩:=b6K l (y.more o) (by simp [a02.more];omega)
   exact ⟨j+1,by rw [h1];simp [a02.more],h2⟩
theorem b0v (r:a0o) (known:Int):∃q j,q<=r.ops.length/\a1B r known=⟨5,0,0,(q:Nat),0,0,(r.ops.drop q).take j⟩/\(a1B r known).ops.length<=4:=by
 unfold a1B
 obtain ⟨j,h1,h2⟩:=b6K (r.ops.drop (min known.toNat r.ops.length)) ⟨5,0,0,(min known.toNat r.ops.length:Nat),0,0,[]⟩ (by simp)
 exact ⟨min known.toNat r.ops.length,j,by omega,by rw [h1];simp,h2⟩
theorem b6L {r:a0o} (h:a0L r.ops=true) (known:Int):a22 (a1B r known)=true:=by
 obtain ⟨q,j,h1,h2,h3⟩:=b0v r known
 obtain ⟨f1,f2,f3,f4⟩:=a4T h
 have hc:countB (q:Int)=true:=by simp [countB];omega
 have hm:((r.ops.drop q).take j).any (fun o=>!a0v o)=false:=by
  rw [List.any_eq_false]
  intro o ho
  simp [f3 o (List.mem_of_mem_drop (List.mem_of_mem_take ho))]
 rw [h2] at h3 ⊢
 simp only at h3
 have h3':((((r.ops.drop q).take j).length:Nat):Int)<=4:=by omega
 unfold a22 c14
 simp only
 rw [if_neg (by omega),if_neg (by omega),if_neg (by omega),if_neg (by omega),if_pos trivial]
 simp only [hc,hm,decide_eq_true h3']
 simp
theorem c0R {m:a02} {e:Int} (hf:b0o m=true) (ho:∀o∈m.ops,a0v o=true) (hk:m.kind=1\/m.kind=3\/m.kind=4) (h1:1<=e) (h2:e<=8):a22 (a2A m e)=true:=by
 have hs:a3h (if m.kind=1 then 1 else m.site)=true:=by
  rcases hk with k|k|k
  ·rw [if_pos k];rfl
  ·have:=c5B hf k
   rw [if_neg (by omega)];simp [a3h];omega
  ·obtain ⟨s1,s2,_⟩:=b4P hf k
   rw [if_neg (by omega)];simp [a3h];omega
 have hq:b0X (if m.ops≠[]/\e≠3 then (m.ops.headD a0C).seq else 1)=true:=by
  split
  ·rename_i c
   rcases hm:m.ops with _|⟨o,l⟩
   ·exact (c.1 hm).elim
   ·have:=a8t (ho o (by rw [hm];simp))
    simp [b0X];omega
  ·rfl
 unfold a22 c14 a2A
 simp only
 generalize (if m.kind=1 then 1 else m.site)=s at *
 generalize (if m.ops≠[]/\e≠3 then (m.ops.headD a0C).seq else 1)=q at *
 rw [if_neg (by omega),if_neg (by omega),if_neg (by omega),if_neg (by omega),if_neg (by omega),if_pos trivial]
 simp [hs,hq,h1,h2]
theorem c0S {α:Type} (p:α->Bool) (l:List α) (h:l.any p=true):0<=idxOf p 0 l/\idxOf p 0 l<l.length:=by
 rcases a6w p l 0 with ⟨h1,h2⟩|⟨k,hk,h1,h2⟩
 ·have:=(a3T p l 0).2 h;omega
 ·omega
theorem b0w {r:a0o} {n:Int} (hl:r.ends.length<=8) (hn:n∈r.ends) (h1:1<=n) (h2:n<=268435456):a22 (a1I r n)=true:=by
 obtain ⟨i1,i2⟩:=c0S (fun x=>decide (n=x)) r.ends (by simpa using hn)
 have hs:a3h (w64 (idxOf (fun x=>decide (n=x)) 0 r.ends+1))=true:=by
  rw [b1Z (by omega) (by omega)]
  simp [a3h];omega
 have ho:b0X n=true:=by simp [b0X];omega
 unfold a22 c14 a1I
 simp only
 rw [if_neg (by omega),if_pos trivial]
 simp [hs,ho]
structure Once (r:a0o) (m:a02):Prop where
 e:(a0Y r m).2.2=0
 f:a0Y (a0Y r m).1 m=((a0Y r m).1,(a0Y r m).2.1,0)
 may:∃es k,a34 (a0Y r m).1 es k
 lo:r.ops.length<=(a0Y r m).1.ops.length/\(a0Y r m).1.ops.length<=r.ops.length+1
 pre:(a0Y r m).1.ops.take r.ops.length=r.ops
 msg:a22 (a0Y r m).2.1=true
 sent:(a0Y r m).2.1.ops≠[]->∃q j,q<=(a0Y r m).1.ops.length/\(a0Y r m).2.1.known=(q:Nat)/\(a0Y r m).2.1.ops=((a0Y r m).1.ops.drop q).take j
theorem b6M {r:a0o} {m:a02} (hf:a30 r m=true) {es:List a0i} {k:Nat} (hI:a34 r es k) (ha:(a0t r m).2.1=false):a22 (a0t r m).2.2=true/\((a0t r m).2.2.ops≠[]->∃q j,q<=r.ops.length/\(a0t r m).2.2.known=(q:Nat)/\(a0t r m).2.2.ops=(r.ops.drop q).take j):=by
 obtain ⟨h1,h2,h3,h4⟩:=a4V hf
 obtain ⟨t1,⟨t2,t3⟩,t4⟩:=hI.ord
 have hsend:∀kn,a22 (a1B r kn)=true/\((a1B r kn).ops≠[]->∃q j,q<=r.ops.length/\(a1B r kn).known=(q:Nat)/\(a1B r kn).ops=(r.ops.drop q).take j):=fun kn=>by
  obtain ⟨q,j,g1,g2,g3⟩:=b0v r kn
  exact ⟨b6L t1 kn,fun _=>⟨q,j,g1,by rw [g2],by rw [g2]⟩⟩
 have hdone:∀e:Int,1<=e->e<=8->a22 (a2A m e)=true/\((a2A m e).ops≠[]->∃q j,q<=r.ops.length/\(a2A m e).known=(q:Nat)/\(a2A m e).ops=(r.ops.drop q).take j):=fun e e1 e2=>⟨c0R h4 h2 h3 e1 e2,fun q=>(q rfl).elim⟩
 unfold a0t at ha ⊢
 split
 ·rename_i k1
  rw [if_pos k1] at ha
  obtain ⟨n1,n2,_⟩:=b4O h4 k1
  split
  ·rename_i c1
   exact ⟨b0w t2 c1 n1 n2,fun q=>(q rfl).elim⟩
  ·rename_i c1
   rw [if_neg c1] at ha
   split
   ·exact hdone 6 (by omega) (by omega)
   ·rename_i c2;rw [if_neg c2] at ha;cases ha
 ·rename_i k1
  rw [if_neg k1] at ha
  split
  ·exact hdone 3 (by omega) (by omega)
  ·rename_i c1
   rw [if_neg c1] at ha
   split
   ·exact hsend _
   ·rename_i k3
    rw [if_neg k3] at ha
    unfold b4F b0n at ha ⊢
    split
    ·rename_i d1
     rw [if_pos d1] at ha
     split
     ·exact hsend _
     ·rename_i d2
      rw [if_neg d2] at ha
      split
      ·exact hdone 8 (by omega) (by omega)
      ·rename_i d3
       rw [if_neg d3] at ha
       split
       ·rename_i d4;rw [if_pos d4] at ha;cases ha
       ·split
        ·exact hdone 6 (by omega) (by omega)
        ·exact hdone 1 (by omega) (by omega)
    ·exact hdone 1 (by omega) (by omega)
theorem once {r:a0o} {m:a02} (hf:a30 r m=true) {es:List a0i} {k:Nat} (hI:a34 r es k):Once r m:=by
 obtain ⟨h1,h2,h3,h4⟩:=a4V hf
 rcases took hf hI with ⟨g1,e,_⟩|⟨g1,hp,e,_⟩|⟨g1,hp,hx,hc,hs,hI',e0,e,_⟩
 ·obtain ⟨a1,a2⟩:=b6M hf hI g1
  refine ⟨by rw [e],by rw [e];exact e,⟨es,k,by rw [e];exact hI⟩,by rw [e];simp,by rw [e];simp,by rw [e];exact a1,by rw [e];exact a2⟩
 ·refine ⟨by rw [e],by rw [e];exact e,⟨es,k,by rw [e];exact hI⟩,by rw [e];simp,by rw [e];simp,by rw [e];exact c0R h4 h2 h3 (by omega) (by omega),by rw [e];exact fun q=>(q rfl).elim⟩
 ·obtain ⟨c1,c2,c3⟩:=a5h hf g1
  generalize hX:(a0Y r m).1=X at *
  obtain ⟨t1,⟨t2,t3⟩,t4⟩:=hI'.ord
  have hfX:a30 X m=true:=by
   simp only [a30,Bool.and_eq_true] at hf ⊢
   exact ⟨⟨b0r hI',hf.1.2⟩,hf.2⟩
  rcases c3 with ⟨k1,hE,hn,hlt⟩|⟨k4,o,ho,hE,hos,hsl,htm,hseq⟩
  ·
   obtain ⟨n1,n2,_⟩:=b4O h4 k1
   rw [hE] at e e0
   have hg:a04 r ⟨true,m.a0H,a0C⟩=({r with ends:=r.ends++[m.a0H]},true):=by
    rw [a04,if_pos rfl,if_neg (by rintro (q|q);omega;exact hn q)]
   rw [hg] at e0
   have hXe:X.ends=r.ends++[m.a0H]:=by rw [e0]
   have hXo:X.ops=r.ops:=by rw [e0]
   have hin:m.a0H∈X.ends:=by rw [hXe];simp
   have ha2:a0t X m=(zeroE,false,a1I X m.a0H):=by rw [a0t,if_pos k1,if_pos hin]
   have e':a0Y r m=(X,a1I X m.a0H,0):=by rw [e,if_pos rfl]
   have e2:a0Y X m=(X,a1I X m.a0H,0):=by rw [a0Y,if_pos hfX,ha2];rfl
   refine ⟨by rw [e'],by rw [e'];exact e2,⟨_,_,by rw [e'];exact hI'⟩,by rw [e'];simp [hXo],by rw [e'];simp [hXo],by rw [e'];exact b0w t2 hin n1 n2,by rw [e'];exact fun q=>(q rfl).elim⟩
  ·
   obtain ⟨s1,s2,s3,s4,_⟩:=b4P h4 k4
   rw [hE] at e e0
   have hg:a04 r ⟨false,0,o⟩=({r with ops:=r.ops++[o]},true):=by
    rw [a04,if_neg (by simp),if_neg (by rintro (q|q);simp only at q;omega;simp only at q;rw [q] at htm;cases htm)]
   rw [hg] at e0
   have hXe:X.ends=r.ends:=by rw [e0]
   have hXo:X.ops=r.ops++[o]:=by rw [e0]
   have hnx:a1g m.site X.ops=a1g m.site r.ops+1:=by rw [hXo,a7I,if_pos hos]
   have hd:m.ops.headD a0C=o:=by rw [ho];rfl
   have ha2:a0t X m=(⟨false,0,o⟩,false,a1B X m.known):=by
    rw [a0t,if_neg (by omega),if_neg (by rw [hXe];omega),if_neg (by omega),hd,b4F,hd,b0n,if_pos hos,if_pos (by rw [hnx];omega)]
   have e':a0Y r m=(X,a1B X m.known,0):=by rw [e,if_neg (by simp)]
   have e2:a0Y X m=(X,a1B X m.known,0):=by rw [a0Y,if_pos hfX,ha2];rfl
   obtain ⟨q,j,g2,g3,g4⟩:=b0v X m.known
   refine ⟨by rw [e'],by rw [e'];exact e2,⟨_,_,by rw [e'];exact hI'⟩,by rw [e'];simp [hXo],by rw [e'];simp [hXo],by rw [e'];exact b6L t1 _,by rw [e'];exact fun _=>⟨q,j,g2,by rw [g3],by rw [g3]⟩⟩
open Go
open Go
def goesAt (l:List OpV):Prop:=∀j (h:j<l.length),a4t (l.take j) l[j]=true
theorem c0T (l:List OpV):∀(k i:Nat),k=l.length-i->(c9w l k i=true↔(∀j (h:j<l.length),i<=j->a4t (l.take j) l[j]=true)/\a3r l=true)
 |0,i,h=>by
  rw [c9w]
  exact ⟨fun f=>⟨fun j hj hi=>by omega,f⟩,fun f=>f.2⟩
 |k+1,i,h=>by
  have hi:i<l.length:=by omega
  rw [c9w,dif_pos hi,Bool.and_eq_true,c0T l k (i+1) (by omega)]
  refine ⟨fun ⟨a,b,c⟩=>⟨fun j hj hij=>?_,c⟩,fun ⟨a,c⟩=>⟨a i hi (Nat.le_refl _),fun j hj hij=>a j hj (by omega),c⟩⟩
  by_cases e:i=j
  ·subst e;exact a
  ·exact b j hj (by omega)
theorem c8l (l:List OpV):d4K l=true↔goesAt l/\a3r l=true:=by
 unfold d4K
 rw [Bool.and_eq_true,c0T l l.length 0 rfl]
 refine ⟨fun ⟨_,a,b⟩=>⟨fun j hj=>a j hj (Nat.zero_le _),b⟩,fun ⟨a,b⟩=>⟨?_,fun j hj _=>a j hj,b⟩⟩
 simp only [a3r,Bool.and_eq_true,decide_eq_true_eq] at b ⊢
 omega
theorem c8m {l:List OpV} {o:OpV} (h:a3r (l++[o])=true):a3r l=true:=by
 simp only [a3r,Bool.and_eq_true,decide_eq_true_eq,a7O,List.length_append] at h ⊢
 omega
theorem c15 (l:List OpV) (o:OpV):goesAt (l++[o])↔goesAt l/\a4t l o=true:=by
 refine ⟨fun h=>⟨fun j hj=>?_,?_⟩,fun ⟨a,b⟩ j hj=>?_⟩
 ·have:=h j (by simp;omega)
  rwa [List.take_append_of_le_length (by omega),List.getElem_append_left hj] at this
 ·have:=h l.length (by simp)
  rwa [List.take_left' rfl,List.getElem_append_right (Nat.le_refl _),List.getElem_singleton] at this
 ·simp only [List.length_append,List.length_singleton] at hj
  by_cases hl:j<l.length
  ·rw [List.take_append_of_le_length (by omega),List.getElem_append_left hl]
   exact a j hl
  ·obtain rfl:j=l.length:=by omega
   rw [List.take_left' rfl,List.getElem_append_right (Nat.le_refl _),List.getElem_singleton]
   exact b
theorem b0x {l:List OpV} {o:OpV} (h:a0L (l++[o])=true):a0L l=true:=by
 rw [a4k,b4u] at h
 rw [a4k]
 refine ⟨by have:=h.1;simp at this;omega,?_⟩
 cases hc:ckF ck0 l with
 |none=>rw [hc] at h;simp at h
 |some c=>rfl
theorem c8n (l:List OpV):a0L l=true↔goesAt l/\a3r l=true:=by
 refine b4v (p:=fun l=>a0L l=true↔goesAt l/\a3r l=true) ?_ ?_ l
 ·refine ⟨fun _=>⟨fun j hj=>by simp at hj,rfl⟩,fun _=>a5y⟩
 ·intro l o ih
  rw [c15]
  refine ⟨fun h=>?_,fun ⟨⟨a,b⟩,c⟩=>?_⟩
  ·have hp:=b0x h
   rw [a4u hp,Bool.and_eq_true] at h
   exact ⟨⟨(ih.1 hp).1,h.1⟩,h.2⟩
  ·rw [a4u (ih.2 ⟨a,c8m c⟩),b,c];rfl
theorem d1I (l:List OpV):d4K l=a0L l:=by rw [Bool.eq_iff_iff,c8l,c8n]
theorem c16 {r:a0o} (h:a0L r.ops=true) (x:a0i) (k:Nat) (l:List a0i) :
  a1X r.ends r.ops k (x::l)=if (a04 r x).2=true then a1X (a04 r x).1.ends (a04 r x).1.ops (k+1) l else (r.ends,r.ops,k):=by
 rw [a1X]
 cases hj:x.join
 ·rw [if_neg (by simp)]
  have ht:=a4u h x.op
  by_cases hc:(r.ends.length:Int)<x.op.site\/a0L (r.ops++[x.op])=false
  ·have hg:(a04 r x).2=false:=by rw [a04,if_neg (by simp [hj]),if_pos hc]
   have hc':(r.ends.length:Int)<x.op.site\/a4t r.ops x.op=false\/a3r (r.ops++[x.op])=false:=by
    rcases hc with hc|hc
    ·exact .inl hc
    ·rw [hc] at ht
     rcases hg2:a4t r.ops x.op with _|_
     ·exact .inr (.inl rfl)
     ·rw [hg2,Bool.true_and] at ht;exact .inr (.inr ht.symm)
   rw [if_pos hc',hg]
   rfl
  ·have hg:a04 r x=({r with ops:=r.ops++[x.op]},true):=by rw [a04,if_neg (by simp [hj]),if_neg hc]
   rw [not_or] at hc
   have hb:a0L (r.ops++[x.op])=true:=by simpa using hc.2
   rw [hb] at ht
   have ht2:=ht.symm
   rw [Bool.and_eq_true] at ht2
   have hc':¬((r.ends.length:Int)<x.op.site\/a4t r.ops x.op=false\/a3r (r.ops++[x.op])=false):=by
    rintro (q|q|q)
    ·exact hc.1 q
    ·rw [ht2.1] at q;cases q
    ·rw [ht2.2] at q;cases q
   rw [if_neg hc',hg]
   rfl
 ·rw [if_pos rfl]
  by_cases hc:x.a0H∈r.ends\/(8:Int)<=r.ends.length
  ·have hg:(a04 r x).2=false:=by
    rw [a04,if_pos hj,if_pos]
    rcases hc with h|h
    ·exact .inr h
    ·exact .inl (by omega)
   rw [if_pos hc,hg]
   rfl
  ·have hg:a04 r x=({r with ends:=r.ends++[x.a0H]},true):=by
    rw [a04,if_pos hj,if_neg]
    rw [not_or] at hc ⊢
    exact ⟨by omega,hc.1⟩
   rw [if_neg hc,hg]
   rfl
theorem c5H {r:a0o} (h:a0L r.ops=true) {x:a0i} (hg:(a04 r x).2=true):a0L (a04 r x).1.ops=true:=by
 unfold a04 at hg ⊢
 split at hg
 ·rename_i hj
  rw [if_pos hj]
  split at hg
  ·cases hg
  ·rename_i hc;rw [if_neg hc];exact h
 ·rename_i hj
  rw [if_neg hj]
  split at hg
  ·cases hg
  ·rename_i hc
   rw [if_neg hc]
   rw [not_or] at hc
   simpa using hc.2
theorem c0U:∀(l:List a0i) (r:a0o) (k a:Nat),a0L r.ops=true->∃n,n<=l.length/\a1X r.ends r.ops k l=((a3U r a l).1.ends,(a3U r a l).1.ops,k+n)/\(a3U r a l).2=a+(a19 (l.take n)).length
 |[],r,k,a,h=>⟨0,Nat.le_refl _,rfl,rfl⟩
 |x::l,r,k,a,h=>by
  rw [c16 h,a3U]
  by_cases hg:(a04 r x).2=true
  ·rw [if_pos hg,if_pos hg]
   obtain ⟨n,h1,h2,h3⟩:=c0U l (a04 r x).1 (k+1) (a+szE x) (c5H h hg)
   refine ⟨n+1,by simpa using h1,?_,?_⟩
   ·refine h2.trans ?_
    rw [show k+1+n=k+(n+1) by omega];rfl
   ·refine h3.trans ?_
    rw [List.take_succ_cons,a2a,List.length_append,a3M];omega
  ·rw [if_neg hg,if_neg hg]
   exact ⟨0,Nat.zero_le _,rfl,rfl⟩
theorem c5I:∀(k:Nat) (l:List (List UInt8)) (a:Nat),secs l->(a1H k l a).2.1.length=(a1H k l a).1.length/\∀j,j<(a1H k l a).1.length->(a1H k l a).2.1[j]?=some ((a+(a19 ((a1H k l a).1.take j)).length:Nat):Int)
 |0,l,a,_=>⟨rfl,fun j hj=>by simp [a1H] at hj⟩
 |k+1,l,a,h=>by
  unfold a1H
  by_cases hf:(a00 l.flatten).2.2=true
  ·rw [if_pos hf]
   have hx:=a4Z h
   rw [hx] at hf
   split at hf
   rotate_left
   ·cases hf
   rename_i hf1
   have hsz:=(a57 hf1)
   rw [if_pos hf1] at hx
   rw [hx]
   obtain ⟨i1,i2⟩:=c5I k (l.drop (a0U (l.take 23).flatten).2.1) (a+(a0U (l.take 23).flatten).2.1) fun x hx=>h x (List.mem_of_mem_drop hx)
   refine ⟨by simp [i1],fun j hj=>?_⟩
   cases j with
   |zero=>simp [a19]
   |succ j=>
    simp only [List.length_cons] at hj
    have:=i2 j (by omega)
    simp only [List.getElem?_cons_succ,List.take_succ_cons,a2a,List.length_append,a3M]
    rw [this]
    congr 2
    have:(a0U (l.take 23).flatten).2.1=szE (a0U (l.take 23).flatten).1:=(b0j hf1).symm
    omega
  ·rw [if_neg hf]
   exact ⟨rfl,fun j hj=>by simp at hj⟩
open Go Go.Proofs
theorem b0Y (m:a02) (h:c9s m):PEv Tryz.prog 125 [Arg.enc m] (.c (.str (b6Z m))):=by
 obtain ⟨⟨x1,y1⟩,⟨x2,y2⟩,⟨x3,y3⟩,⟨x4,y4⟩,⟨x5,y5⟩,⟨x6,y6⟩,h7,h8,h9⟩:=h
 refine a0f mixed c4O Tryz.func125 e8x e8y (by kernel_rfl) (by simp) (by simp [a0l,a0u]) ?_
 obtain ⟨a1,a2,a3,a4,a5,a6,l⟩:=m
 simp only at x1 x2 x3 x4 x5 x6 y1 y2 y3 y4 y5 y6 h7 h8
 have hn:l.length<9223372036854775808:=by omega
 have b1:=a0B a1.toNat
 have b2:=a0B a2.toNat
 have b3:=a0B a3.toNat
 have b4:=a0B a4.toNat
 have b5:=a0B a5.toNat
 have b6:=a0B a6.toNat
 have b7:=a0B l.length
 generalize hM:b6Z ⟨a1,a2,a3,a4,a5,a6,l⟩=M
 unfold b6Z at hM
 simp only at hM
 simp [e8w,a0l,a0u,x1,x2,x3,x4,x5,x6,y1,y2,y3,y4,y5,y6,hn]
 have hh:=a2K [a1,a2,a3,a4,a5,a6,(l.length:Int)]
 simp only [List.length_cons,List.length_nil] at hh
 have e0:a0h a1.toNat++(a0h a2.toNat++(a0h a3.toNat++(a0h a4.toNat++(a0h a5.toNat++(a0h a6.toNat++a0h l.length)))))=a2d [a1,a2,a3,a4,a5,a6,(l.length:Int)]:=by simp [a2d]
 rw [e0]
 generalize a2d [a1,a2,a3,a4,a5,a6,(l.length:Int)]=h0 at *
 repeat (refine ⟨by omega,?_⟩)
 refine vl (fun p:Nat×List UInt8=>p.1<=l.length/\p.2++(l.drop p.1).flatMap a05=M/\p.2.length<=70+40000000*p.1) (fun p=>mkS [(1,.c (.pt (1,1) 0 0)),(3,.c (.str p.2)),(4,iv p.1)] [.var (1,1) 38 (a0l .brw ⟨a1,a2,a3,a4,a5,a6,l⟩)]) (fun p=>l.length-p.1) (0,h0) ⟨by simp,by simpa using hM,by simp;omega⟩ ?_ ?_
 ·refine a0b rfl ?_
  simp [a0l,a0u]
 rintro ⟨i,acc⟩ ⟨hi,hx,ha⟩ J hJ
 simp only at hi hx ha
 simp only [a0l,a0u]
 by_cases hlt:i<l.length
 ·have hw:IntKind.wrap .i64 ((i:Int)+1)=((i+1:Nat):Int):=by rw [a0d]<;>omega
  have hp:=h8 _ (List.getElem_mem hlt)
  have hs:=a4j hp
  rw [List.drop_eq_getElem_cons hlt,List.flatMap_cons,<-List.append_assoc] at hx
  simp [c3I,hlt,a0e,hw,hp]
  refine ⟨by omega,hJ (i+1,acc++a05 l[i]) ⟨by simp;omega,hx,by simp;omega⟩ (by simp;omega) _ (a0b rfl ?_)⟩
  simp [a0l,a0u]
 ·obtain rfl:i=l.length:=by omega
  simp at hx
  subst hx
  simp [c3I]
theorem b16 (a b c:Int):PEv Tryz.prog 70 [Arg.enc a,Arg.enc b,Arg.enc c] (.g (a0l .old ⟨6,a,0,0,b,c,[]⟩)):=by
 refine a2w mixed (F:=[]) trivial Tryz.func70 f8X f8Y (by kernel_rfl) (by simp [a0l,a0u]) (by simp) ?_
 simp [s70]
 refine a0w (mkS [(6,.c (.pt (1,1) 0 0))] [.var (1,1) 38 (a0l .old ⟨6,a,0,0,b,c,[]⟩)]) (a0b rfl ?_) ?_<;>simp [a0l,a0u]
theorem b0y (n:Int) (h:0<=n/\n<=1000):PEv Tryz.prog 28 [Arg.enc n] (.g (a0r .old ⟨⟨List.replicate n.toNat blank,[]⟩,[],[]⟩)):=by
 refine a2w mixed (F:=[]) trivial Tryz.func28 sl28 f8q (by kernel_rfl) (by simp [a0r]) (by simp) ?_
 simp [s28]
 refine a0R (b1G n h) ?_ (by simp [a0y]) (by simp [a0y]) ?_
 ·simp
 generalize List.replicate n.toNat blank=L
 simp [a0y]
 refine a0w (mkS [(2,.c (.pt (1,1) 0 0))] [.var (1,1) 29 (a0r .old ⟨⟨L,[]⟩,[],[]⟩)]) (a0b rfl ?_) ?_<;>simp [a0r]
def b4Q:List AV->Option (Prop×AV):=t1 c9s fun m:a02=>.c (.str (b6Z m))
@[simp] theorem e0I {l:List AV}:b4Q l=(t1 c9s fun m:a02=>.c (.str (b6Z m))) l:=(rfl)
def b8S:List AV->Option (Prop×AV):=t1 okM fun m:a02=>.g (a0u (.nw 53 11 (a0a m.ops)) m)
@[simp] theorem e5s {l:List AV}:b8S l=(t1 okM fun m:a02=>.g (a0u (.nw 53 11 (a0a m.ops)) m)) l:=(rfl)
def b4R:List AV->Option (Prop×AV):=t1 (fun o=>o.gone.length<1000000) fun o:OpV=>.g (a0e .old o)
@[simp] theorem e0J {l:List AV}:b4R l=(t1 (fun o=>o.gone.length<1000000) fun o:OpV=>.g (a0e .old o)) l:=(rfl)
def GA0:CT:=(125,.pu b4Q)::(89,.pu b8S)::(101,.pu b4R)::[]
theorem e0K:a1k Tryz.prog GA0:=⟨a0n fun m h=>b0Y m h,
 a0n fun m h=>c1U m h,
 a0n fun o h=>a6u o h,trivial⟩
@[simp] theorem d4W:a0c GA0 125=some (.pu b4Q):=(rfl)
@[simp] theorem e0L:a0c GA0 89=some (.pu b8S):=(rfl)
@[simp] theorem d4X:a0c GA0 101=some (.pu b4R):=(rfl)
theorem b17 (r:a0o) (known:Int) (h:a7N r) (hp:∀o∈r.ops,okP o) (hk:0<=known):PEv Tryz.prog 73 [Arg.enc r,Arg.enc known] (.g (a0l .old (a1B r known))):=by
 obtain ⟨h1,h2,h3,h4,h5⟩:=h
 refine a2w mixed e0K Tryz.func73 f8Z f9a (by kernel_rfl) (by simp [a0l,a0u]) (by simp [a0r]) ?_
 obtain ⟨k,rfl⟩:=Int.eq_ofNat_of_zero_le hk
 generalize hR:a1B r (k:Int)=R
 unfold a1B at hR
 simp only [Int.toNat_natCast] at hR
 obtain ⟨q,hq⟩:∃q,min k r.ops.length=q:=⟨_,rfl⟩
 have hql:q<=r.ops.length:=by omega
 have hmin:(if r.ops.length<k then (r.ops.length:Int) else (k:Int))=(q:Int):=by split<;>omega
 rw [hq] at hR
 generalize hL:r.ops=l at *
 simp [s73,a0r,hL,hmin]
 refine vl (fun p:Nat×a02=>p.1<=l.length/\a8x p.2 (l.drop p.1)=R/\p.2.ops.length<=4/\(∀o∈p.2.ops,okP o/\o.text.length<1000000/\o.gone.length<1000000)/\p.2=⟨5,0,0,q,0,0,p.2.ops⟩)
  (fun p=>mkS [(2,.c (.pt (1,1) 0 0)),(4,.c (.pt (1,2) 0 0)),(5,.c (.pt (1,3) 0 0)),(6,iv p.1)] [.var (1,1) 29 [.a0x,.a0x,.sl .brw false (a0a l),.a0x],.var (1,2) 38 [.a0x,.a0x,.a0x,.a0x,.a0x,.a0x,.a0x],.var (1,3) 38 (a0l .old p.2)]) (fun p=>l.length-p.1) (q,⟨5,0,0,q,0,0,[]⟩) ⟨hql,hR,by simp,by simp,rfl⟩ (a0b rfl ?_) ?_
 ·simp [a0l,a0u]
 rintro ⟨i,y⟩ ⟨hi,hx,hy,hyp,hye⟩ J hJ
 simp only at hi hx hy hyp hye
 simp only [a0l,a0u]
 have hym:okM y:=⟨by omega,fun o ho=>(hyp o ho).2⟩
 by_cases hlt:i<l.length
 ·have hw:IntKind.wrap .i64 ((i:Int)+1)=((i+1:Nat):Int):=by rw [a0d]<;>omega
  have hpi:=hp _ (List.getElem_mem hlt)
  have hoi:=h5 _ (List.getElem_mem hlt)
  have hgi:=hoi.2
  rw [List.drop_eq_getElem_cons hlt,a8x] at hx
  have hrow:a0a y.ops++[a0e .old l[i]]=a0a (y.ops++[l[i]]):=by rw [a1l];rfl
  have b1:y.ops.length<=9223372036854775806/\(y.ops.length+1)*112<=140737488355328:=⟨by omega,by omega⟩
  have hc:a2C y.ops.length (a0a y.ops)=a0a y.ops:=a4f (by simp)
  have hmp:∀o∈y.ops++[l[i]],okP o/\o.text.length<1000000/\o.gone.length<1000000:=fun o ho=>by
   rcases List.mem_append.1 ho with ho|ho
   ·exact hyp o ho
   ·rw [List.mem_singleton.1 ho];exact ⟨hpi,hoi⟩
  simp only [a0e] at hrow
  cases c1:decide ((y.ops.length:Int)<4)
  ·have c1':4<y.ops.length+1:=by have:=of_decide_eq_false c1;omega
   rw [if_pos (.inl c1')] at hx
   subst hx
   simp [c3G,hlt,c1]
   refine a0w (mkS [(4,.c (.pt (1,1) 0 0))] [.var (1,1) 38 (a0l .old y)]) (a0b rfl ?_) ?_<;>simp [a0l,a0u]
  ·have c1':¬4<y.ops.length+1:=by have:=of_decide_eq_true c1;omega
   have hm:c9s (y.more l[i]):=by
    have hb:=c0H (m:=y.more l[i]) fun o ho=>(hmp o ho).1
    have hlen:(y.more l[i]).ops.length=y.ops.length+1:=by simp [a02.more]
    rw [hye]
    refine ⟨⟨by simp [a02.more],by simp [a02.more]⟩,⟨by simp [a02.more],by simp [a02.more]⟩,⟨by simp [a02.more],by simp [a02.more]⟩,⟨by simp [a02.more],by simp [a02.more];omega⟩,⟨by simp [a02.more],by simp [a02.more]⟩,⟨by simp [a02.more],by simp [a02.more]⟩,by simp [a02.more];omega,fun o ho=>(hmp o ho).1,?_⟩
    rw [<-hye]
    omega
   obtain ⟨N,hN⟩:∃N,b6Z (y.more l[i])=N:=⟨_,rfl⟩
   rw [hN] at hx
   simp only [a02.more] at hm hN
   obtain ⟨n1,n2,n3,n4,n5,n6,n7⟩:=y
   simp only at *
   cases c2:decide ((700:Int)<N.length)
   ·have c2':¬700<N.length:=by have:=of_decide_eq_false c2;omega
    rw [if_neg (by omega)] at hx
    simp [c3G,hlt,c1,hym,a0u,a0e,hgi,hc,b1,hrow,hm,hN,c2,hw]
    refine hJ (i+1,a02.more ⟨n1,n2,n3,n4,n5,n6,n7⟩ l[i]) ⟨by simp;omega,hx,by simp [a02.more];omega,hmp,congrArg (fun m=>m.more l[i]) hye⟩ (by simp;omega) _ (a0b rfl ?_)
    simp [a0l,a0u,a02.more]
   ·have c2':700<N.length:=by have:=of_decide_eq_true c2;omega
    rw [if_pos (.inr c2')] at hx
    subst hx
    simp [c3G,hlt,c1,hym,a0u,a0e,hgi,hc,b1,hrow,hm,hN,c2]
    refine a0w (mkS [(4,.c (.pt (1,1) 0 0))] [.var (1,1) 38 (a0l .old ⟨n1,n2,n3,n4,n5,n6,n7⟩)]) (a0b rfl ?_) ?_<;>simp [a0l,a0u]
 ·obtain rfl:i=l.length:=by omega
  simp [a8x] at hx
  subst hx
  simp [c3G]
  refine a0w (mkS [(4,.c (.pt (1,1) 0 0))] [.var (1,1) 38 (a0l .old y)]) (a0b rfl ?_) ?_<;>simp [a0l,a0u]
def b8T:List AV->Option (Prop×AV):=t1 (fun d:a0k=>a1N d=true) fun d:a0k=>a1F (a0I d)
@[simp] theorem e5t {l:List AV}:b8T l=(t1 (fun d:a0k=>a1N d=true) fun d:a0k=>a1F (a0I d)) l:=(rfl)
def b4S:List AV->Option (Prop×AV):=t3 (fun (d:a0k) (n:Int) (e:a0i)=>a1N d=true/\okF e/\0<=n/\n<9223372036854775808) fun (d:a0k) (n:Int) (e:a0i)=>a68 (a42 d n e)
@[simp] theorem e0M {l:List AV}:b4S l=(t3 (fun (d:a0k) (n:Int) (e:a0i)=>a1N d=true/\okF e/\0<=n/\n<9223372036854775808) fun (d:a0k) (n:Int) (e:a0i)=>a68 (a42 d n e)) l:=(rfl)
def GA1:CT:=(48,.pu b8T)::(124,.pu b4S)::[]
theorem e0N:a1k Tryz.prog GA1:=⟨a0n fun d h=>a6t d (a1f h).1 (by have:=(a1f h).2.2;omega) (by have:=a2M h;omega),
 a4L fun d n e h=>PEv.frz .old (by simp) (a86 d n e h.1 h.2.1 h.2.2.1 h.2.2.2),trivial⟩
@[simp] theorem e0O:a0c GA1 48=some (.pu b8T):=(rfl)
@[simp] theorem d4Y:a0c GA1 124=some (.pu b4S):=(rfl)
theorem c17 (r:a0o) (x:a0i) {es:List a0i} {k:Nat} (hI:a34 r es k) (hm:a0J x=true) (hf:okF x):PEv Tryz.prog 69 [Arg.enc r,Arg.enc x] (.t [(true,a2m (a4U r x).1),(false,[.raw (.bool (decide ((a4U r x).2=0)))])]):=by
 have hmay:=hI.may
 obtain ⟨q1,q2,q3,q4,q5⟩:=a4x hmay
 have hld:=hI.load
 rw [hld] at q2
 simp only at q2
 have hpv:a4U r x=((a1v r.disk ((a19 es).length:Int) x).1,(a1v r.disk ((a19 es).length:Int) x).2.2):=by rw [a4U,hI.told]
 rw [<-c1S hmay hm (Int.natCast_nonneg _)] at hpv
 have hsz:=hI.sz
 have hn:((a19 es).length:Int)<9223372036854775808:=by omega
 refine a2w mixed e0N Tryz.func69 f8V f8W (by kernel_rfl) (by simp [a2m]) (by simp [a0r,a0m,a0e]) ?_
 rw [hpv]
 obtain ⟨⟨sf,wt⟩,ops,ends⟩:=r
 simp only at *
 generalize hL:a0I ⟨sf,wt⟩=L at *
 obtain ⟨l1,l2,l3⟩:=L
 simp only at q2
 subst q2
 generalize hA:a42 ⟨sf,wt⟩ ((a19 es).length:Int) x=A
 obtain ⟨⟨a1,a2⟩,a3,a4⟩:=A
 obtain ⟨n,hnn⟩:∃n,(a19 es).length=n:=⟨_,rfl⟩
 rw [hnn] at *
 simp [s69,a0r,hmay,hL,a1F]
 simp [a0m,a0e,hmay,hf,hn,hA,a68,a2m]
 refine a0w (mkS [(4,.c (.pt (1,1) 0 0)),(5,bv (decide (a4=0)))] [.var (1,1) 25 (a2m ⟨a1,a2⟩)]) (a0b rfl ?_) ?_<;>simp [a2m]
open Go
variable {P:Program}
theorem a03.mono {w:World} {F F':Tag->Nat->Prop} {c:AC} {v:Value} (h:a03 w F a0s a0G c v) (hF:∀t b,F t b->F' t b):a03 w F' a0s a0G c v:=
 h.keep ⟨Nat.le_refl _,fun t b q _=>⟨hF t b q,rfl⟩,fun id q=>(q rfl).elim⟩
def d1J:AC->AC
 |.sl .old cl xs=>.sl .brw cl xs
 |c=>c
theorem c8o {w:World} {F F':Tag->Nat->Prop} (hF:∀t b,F t b->F' t b) (hO:∀b,F .old b->F' .brw b) {c:AC} {v:Value} (h:a03 w F a0s a0G c v):a03 w F' a0s a0G (d1J c) v:=by
 have h':=h.mono hF
 unfold d1J
 split
 ·rename_i cl xs
  cases h with
  |a08 _ _ _ h=>exact .a08 _ _ _ h
  |sl _ _ _ b o cap sz vs hb hf hcap hcl hrow hcell hone hrel=>exact .sl _ _ _ b o cap sz vs hb (hO b hf) hcap hcl hrow hcell hone fun i j r c hi hj=>(hrel i j r c hi hj).mono hF
 ·exact h'
def e5u (x y:AV):Prop:=∀(w:World) (F F':Tag->Nat->Prop),(∀t b,F t b->F' t b)->(∀b,F .old b->F' .brw b)->∀v,a3u w F a0s a0G y v->a3u w F' a0s a0G x v
theorem b6N (x:AV):e5u x x:=fun w F F' hF _ v h=>h.keep ⟨Nat.le_refl _,fun t b q _=>⟨hF t b q,rfl⟩,fun id q=>(q rfl).elim⟩
theorem c8p (cs:List AC):e5u (.g (cs.map d1J)) (.g cs):=fun w F F' hF hO v h=>by
 cases h with
 |g _ vs' hl' h'=>
  refine .g _ _ (by simpa using hl') fun j c hj=>?_
  rw [List.getElem?_map,Option.map_eq_some_iff] at hj
  obtain ⟨d,hd,rfl⟩:=hj
  exact c8o hF hO (h' j d hd)
def c9C:AC->AC
 |.raw (.slice none 0 0)=>.sl .old false []
 |c=>c
def f3q:AC->AC
 |.sl t cl xs=>.sl t cl (xs.map fun r=>r.map c9C)
 |c=>c
theorem c8q {w:World} {F:Tag->Nat->Prop} {c:AC} {v:Value} (h:a03 w F a0s a0G c v):a03 w F a0s a0G (c9C c) v:=by
 unfold c9C
 split
 ·cases h;exact .a08 _ _ _ .nil
 ·exact h
theorem c8r (cs:List AC):e5u (.g (cs.map f3q)) (.g cs):=fun w F F' hF hO v h=>by
 cases h with
 |g _ vs' hl' h'=>
  refine .g _ _ (by simpa using hl') fun j c hj=>?_
  rw [List.getElem?_map,Option.map_eq_some_iff] at hj
  obtain ⟨d,hd,rfl⟩:=hj
  have hu:=(h' j d hd).mono hF
  generalize vs'.getD j undef=u at hu ⊢
  unfold f3q
  split
  ·rename_i t cl xs
   cases hu with
   |a08 _ _ _ h=>exact .a08 _ _ _ h
   |sl _ _ _ b o cap sz vs hb hf hcap hcl hrow hcell hone hrel=>
    have e:(xs.map fun r=>r.map c9C).length=xs.length:=by simp
    have hg:∀(i:Nat) r,(xs.map fun r=>r.map c9C)[i]?=some r->∃r0,xs[i]?=some r0/\r=r0.map c9C:=fun i r hi=>by
     rw [List.getElem?_map,Option.map_eq_some_iff] at hi
     obtain ⟨r0,h1,rfl⟩:=hi
     exact ⟨r0,h1,rfl⟩
    rw [<-e]
    refine .sl _ _ _ b o cap sz vs hb hf (by rw [e];exact hcap) (fun q=>by rw [e];exact hcl q) (fun i r hi=>?_) (by rw [e];exact hcell) (by rw [e];exact hone) fun i j r c hi hj=>?_
    ·obtain ⟨r0,h1,rfl⟩:=hg i r hi
     simpa using hrow i r0 h1
    ·obtain ⟨r0,h1,rfl⟩:=hg i r hi
     rw [List.getElem?_map,Option.map_eq_some_iff] at hj
     obtain ⟨c0,h2,rfl⟩:=hj
     exact c8q (hrel i j r0 c0 h1 h2)
  ·exact hu
theorem PEv.f5L {f:FuncId} {args args':List AV} {ret:AV} (h:PEv P f args ret) (hl:args.length=args'.length) (hv:∀x∈args',∀c∈x.flat,VOK c) (hc:∀c∈ret.flat,a1Y c)
  (hm:∀(k:Nat) x y,args[k]?=some x->args'[k]?=some y->e5u x y):PEv P f args' ret:=by
 obtain ⟨⟨h1,h2,h3⟩,h4⟩:=h
 refine ⟨⟨h1,h2,hv⟩,fun w hI G vs hs hr nm inj=>?_⟩
 let G2:Tag->Nat->Prop:=fun t b=>G t b\/t=.brw/\G .old b
 have up:∀t b,Fr (Ctx.of w hI G) a0s a0G t b->Fr (Ctx.of w hI G2) a0s a0G t b:=fun t b q=>⟨⟨q.1.1.imp id fun q=>⟨q.1,.inl q.2⟩,q.1.2⟩,q.2⟩
 have ob:∀b,Fr (Ctx.of w hI G) a0s a0G .old b->Fr (Ctx.of w hI G2) a0s a0G .brw b:=fun b q=>⟨⟨q.1.1.imp id fun q=>⟨by simp,.inr ⟨rfl,q.2⟩⟩,q.1.2⟩,q.2⟩
 have down:∀t b,t≠.brw->Fr (Ctx.of w hI G2) a0s a0G t b->Fr (Ctx.of w hI G) a0s a0G t b:=fun t b ht q=>⟨⟨q.1.1.imp id fun q=>⟨q.1,q.2.resolve_right fun e=>ht e.1⟩,q.1.2⟩,q.2⟩
 have hno:∀(cs:List AC) (k:Nat) (H:Heap),(∀c∈cs,a1Y c)->adH nm k cs H=H/\adL nm k cs=cs:=fun cs=>by
  induction cs with
  |nil=>intro k H _;exact ⟨rfl,rfl⟩
  |cons c cs ih=>
   intro k H hcs
   have hh:=hcs c (by simp)
   obtain ⟨i1,i2⟩:=ih (k+1) (b7b (nm k) c H) fun x hx=>hcs x (by simp [hx])
   have e1:b7b (nm k) c H=H/\adC nm k c=c:=by cases hh<;>exact ⟨rfl,rfl⟩
   refine ⟨?_,?_⟩
   ·show adH nm (k+1) cs (b7b (nm k) c H)=H
    rw [i1,e1.1]
   ·show adC nm k c::adL nm (k+1) cs=c::cs
    rw [e1.2,i2]
 refine (h4 w hI G2 vs (by rw [hs,hl]) (fun k x hx=>?_) nm inj).mono ?_
 ·have hk:k<args'.length:=by have:=(List.getElem?_eq_some_iff.1 hx).1;omega
  have hy:=hr k _ (List.getElem?_eq_getElem hk)
  generalize vs.getD k undef=u at hy ⊢
  exact hm k x _ hx (List.getElem?_eq_getElem hk) w _ _ up ob _ hy
 ·rintro e w' ⟨v,rfl,ρ,hH,hR⟩
  rw [(hno ret.flat 0 a0s hc).1] at hH hR ⊢
  refine ⟨v,rfl,a0G,⟨hH.below,(fun id e sz f rows h=>by cases h),(fun id id' e sz rows e' sz' f3B rows' b c s c' s' h=>by cases h),⟨0,fun _ _ _=>rfl⟩,.none (fun _ _ _ h=>by cases h) (fun _ h=>h.elim) (fun _ _ _ _ _ _ h=>h)⟩,?_⟩
  have cell:∀c u,a1Y c->a03 w' (Fr (Ctx.of w hI G2) a0s ρ) a0s ρ c u->a03 w' (Fr (Ctx.of w hI G) a0s a0G) a0s a0G c u:=fun c u hc hu=>
   hu.b46 hc fun t b ht q=>down t b ht ⟨q.1,b2B⟩
  have cellL:∀(cs:List AC),(∀c∈cs,c∈ret.flat)->∀k,adL nm k cs=cs:=fun cs hcs k=>(hno cs k a0s fun c h=>hc c (hcs c h)).2
  cases ret with
  |c x=>
   have:adC nm 0 x=x:=by
    have:=hc x (by simp [AV.flat])
    cases this<;>rfl
   simp only [AV.ad,this] at hR ⊢
   cases hR with
   |c _ _ hx=>exact .c _ _ (cell _ _ (hc x (by simp [AV.flat])) hx)
  |g xs=>
   simp only [AV.ad,cellL xs (fun c h=>h)] at hR ⊢
   cases hR with
   |g _ vs hl hx=>exact .g _ _ hl fun k c hk=>cell _ _ (hc c (List.mem_of_getElem? hk)) (hx k c hk)
  |t ps=>
   have ht:∀(ps:List (Bool×List AC)) (k:Nat),(∀c∈a3q ps,a1Y c)->adT nm k ps=ps:=fun ps=>by
    induction ps with
    |nil=>intro k _;rfl
    |cons q r ih=>
     intro k hq
     obtain ⟨b,cs⟩:=q
     simp only [a3q,List.mem_append] at hq
     simp only [adT,(hno cs k a0s fun c h=>hq c (.inl h)).2,ih _ fun c h=>hq c (.inr h)]
   have inT:∀(ps:List (Bool×List AC)) (k:Nat) b cs,ps[k]?=some (b,cs)->∀c∈cs,c∈a3q ps:=fun ps=>by
    induction ps with
    |nil=>intro k b cs h;simp at h
    |cons q r ih=>
     intro k b cs h c hcm
     obtain ⟨b',cs'⟩:=q
     simp only [a3q,List.mem_append]
     cases k with
     |zero=>simp at h;obtain ⟨rfl,rfl⟩:=h;exact .inl hcm
     |succ k=>exact .inr (ih k b cs (by simpa using h) c hcm)
   simp only [AV.ad,ht ps 0 hc] at hR ⊢
   cases hR with
   |t _ vs hl hx=>
    refine .t _ _ hl fun k b cs hk=>?_
    have:=hx k b cs hk
    generalize vs.getD k undef=u at this ⊢
    cases this with
    |c x _ h=>exact .c _ _ (cell _ _ (hc x (inT ps k _ _ hk x (by simp))) h)
    |g _ vs' hl' h'=>exact .g _ _ hl' fun j c hj=>cell _ _ (hc c (inT ps k _ _ hk c (List.mem_of_getElem? hj))) (h' j c hj)
open Go Go.Proofs
def b8U:List AV->Option (Prop×AV):=t2 (fun r x=>a98 r/\x.op.text.length<1000000/\x.op.gone.length<1000000) fun (r:a0o) (x:a0i)=>a2g (a4U r x)
@[simp] theorem e5v {l:List AV}:b8U l=(t2 (fun r x=>a98 r/\x.op.text.length<1000000/\x.op.gone.length<1000000) fun (r:a0o) (x:a0i)=>a2g (a4U r x)) l:=(rfl)
def FWc:CT:=(56,.pu b8U)::FWb
theorem c9D:a1k Tryz.prog FWc:=⟨a0P fun r x h=>e0x r x h.1 h.2.1 h.2.2,c0P⟩
@[simp] theorem e0P:a0c FWc 56=some (.pu b8U):=(rfl)
@[simp] theorem e5w {n:Nat} (h:(n==56)=false):a0c FWc n=a0c FWb n:=by
 simp only [Bool.or_eq_false_iff,beq_eq_false_iff_ne,ne_eq] at h
 simp [FWc,a0c,h]
@[simp] theorem e5x (a:List (List UInt8)) (c:List OpV) (d:List Int):Arg.dec (.g [.sl .brw false (a0a a),.sl .brw false [],.sl .brw false (a0a c),.sl .brw false (a0a d)])=some (a0o.mk ⟨a,[]⟩ c d):=d1r a [] c d
theorem c18 (d:a0k):∀o∈(a1A d).1.ops,o.text.length<1000000/\o.gone.length<1000000:=by
 have key:∀(l:List a0i) (r:a0o) (a:Nat),(∀e∈l,e.op.text.length<1000000/\e.op.gone.length<1000000)->(∀o∈r.ops,o.text.length<1000000/\o.gone.length<1000000)->∀o∈(a3U r a l).1.ops,o.text.length<1000000/\o.gone.length<1000000:=fun l=>by
  induction l with
  |nil=>intro r a _ h;exact h
  |cons x l ih=>
   intro r a hl h
   rw [a3U]
   split
   ·refine ih _ _ (fun y hy=>hl y (by simp [hy])) ?_
    unfold a04
    split
    ·split<;>exact h
    ·split
     ·exact h
     ·intro o ho
      rcases List.mem_append.1 ho with ho|ho
      ·exact h o ho
      ·rw [List.mem_singleton.1 ho];exact hl x (by simp)
   ·exact h
 refine key _ _ _ (fun e he=>?_) (by simp [a2q])
 obtain ⟨m1,m2⟩:=b0i d e he
 exact a8q m1 m2
theorem c19 (d:a0k) (at_:Int):(a1G d at_).1.safe.length<=d.safe.length/\(a1G d at_).1.wait.length=0:=by
 have key:∀(l:List (List UInt8)) (i:Nat) (e:a0k),(a1W at_ l i e).1.safe.length<=e.safe.length:=fun l=>by
  induction l with
  |nil=>intro i e;exact Nat.le_refl _
  |cons s l ih=>
   intro i e
   rw [a1W]
   split
   ·exact ih _ _
   ·split
    ·exact Nat.le_trans (ih _ _) (b3E e i blank).1
    ·simp [noD]
 unfold a1G
 split
 ·split
  ·unfold a3E a7E
   split
   ·simp only [a3P]
    exact ⟨key _ _ _,rfl⟩
   ·simp
  ·simp [noD]
 ·simp [noD]
theorem c2a {r:a0o} {m:a02} (h:a30 r m=true) (hm:okM m):PEv Tryz.prog 55 [.g (a0r .old r),.g (a0l .brw m)] (.t [(true,a0m .old (a0t r m).1),(false,[.raw (.bool (a0t r m).2.1)]),(true,a0l .old (a0t r m).2.2)]):=by
 obtain ⟨h1,h2,h3,h4⟩:=a4V h
 obtain ⟨es,k,hI⟩:=a6z h1
 obtain ⟨g1,g2,g3,g4,g5,g6⟩:=a4w hI
 have hk:0<=m.known/\(m.kind≠1->m.kind≠3->m.ops≠[]):=by
  rcases h3 with k1|k3|k4
  ·have:=b4O h4 k1;exact ⟨by omega,fun q=>(q k1).elim⟩
  ·have:=c5B h4 k3;exact ⟨by omega,fun _ q=>(q k3).elim⟩
  ·obtain ⟨s1,s2,s3,s4,o,ho⟩:=b4P h4 k4;exact ⟨by omega,fun _ _=>by rw [ho];simp⟩
 exact c78 r m g1.l g2 (by omega) hm hk.2 hk.1
theorem b0z {r:a0o} {m:a02} (h:a30 r m=true) (hm:okM m):(a0t r m).1.op.text.length<1000000/\(a0t r m).1.op.gone.length<1000000:=by
 have z:zeroE.op.text.length<1000000/\zeroE.op.gone.length<1000000:=by simp [zeroE,a0C]
 have hd:(m.ops.headD a0C).text.length<1000000/\(m.ops.headD a0C).gone.length<1000000:=by
  rcases hm2:m.ops with _|⟨o,l⟩
  ·simp [a0C]
  ·exact hm.2 o (by rw [hm2];simp)
 unfold a0t
 repeat' split
 all_goals first|exact z|exact hd|(simp [a0C];done)
theorem a9p (r:a0o) (m:a02) (h:a7N r) (hm:okM m):PEv Tryz.prog 18 [.g (a0r .old r),.g (a0l .brw m)] (.t [(true,a0r .old (a0Y r m).1),(true,a0l .old (a0Y r m).2.1),(false,[.raw (.int .i64 (a0Y r m).2.2)])]):=by
 have hl:=h.l
 obtain ⟨⟨sf,wt⟩,ops,ends⟩:=r
 obtain ⟨a1,a2,a3,a4,a5,a6,l⟩:=m
 refine a2w mixed c9D Tryz.func18 f8i f8j (by kernel_rfl) (by simp [a0r,a0l,a0u]) (by simp [a0r,a0l,a0u]) ?_
 generalize hR:a0Y ⟨⟨sf,wt⟩,ops,ends⟩ ⟨a1,a2,a3,a4,a5,a6,l⟩=R
 cases hf:a30 ⟨⟨sf,wt⟩,ops,ends⟩ ⟨a1,a2,a3,a4,a5,a6,l⟩
 ·rw [a0Y,if_neg (by simp [hf])] at hR
  subst hR
  simp [s18,a0r,a0l,a0u,hl,hm,hf]
  refine a0w (mkS [(4,.c (.pt (1,1) 0 0)),(5,.c (.pt (1,2) 0 0)),(6,iv 1)] [.var (1,1) 29 (a0r .old a2q),.var (1,2) 38 (a0l .old a6d)]) (a0b rfl ?_) ?_<;>simp [a0r,a2q,a18,a0l,a0u,a6d]
 obtain ⟨h1,h2,h3,h4⟩:=a4V hf
 obtain ⟨es,k,hI⟩:=a6z h1
 have hae:=c2a hf hm
 have hsm:=b0z hf hm
 have hT:=took hf hI
 have hgo:=c0w ⟨⟨sf,wt⟩,ops,ends⟩ (a0t ⟨⟨sf,wt⟩,ops,ends⟩ ⟨a1,a2,a3,a4,a5,a6,l⟩).1 hl ⟨Nat.lt_trans hsm.1 (by omega),Nat.lt_trans hsm.2 (by omega)⟩
 have hkn:0<=a4:=by
  rcases h3 with k1|k3|k4
  ·have:=b4O h4 k1;simp only at this;omega
  ·have:=c5B h4 k3;simp only at this;omega
  ·obtain ⟨s1,s2,s3,s4,o,ho⟩:=b4P h4 k4;exact s3
 simp [s18,a0r,a0l,a0u,hl,hm,hf,h]
 refine a1x (args':=[.g (a0r .brw ⟨⟨sf,wt⟩,ops,ends⟩),.g (a0l .brw ⟨a1,a2,a3,a4,a5,a6,l⟩)]) ?_ hae (by simp [a0r,a0l,a0u,a0m,a0e]) (by simp [a0r,a0l,a0u,a0m,a0e]) ?_
 ·simp [a0r,a0l,a0u]
 rcases hT with ⟨g1,e,_⟩|⟨g1,hp,e,_⟩|⟨g1,hp,hx,hc,hs,hI',e0,e,_⟩
 ·rw [e] at hR
  subst hR
  generalize a0t ⟨⟨sf,wt⟩,ops,ends⟩ ⟨a1,a2,a3,a4,a5,a6,l⟩=V at *
  obtain ⟨x,b,y⟩:=V
  simp only at g1
  subst g1
  simp [a0r,a0l,a0u,a0m,a0e]
  refine a0w (mkS [(4,.c (.pt (1,1) 0 0)),(5,.c (.pt (1,2) 0 0)),(6,iv 0)] [.var (1,1) 29 (a0r .old ⟨⟨sf,wt⟩,ops,ends⟩),.var (1,2) 38 (a0l .old y)]) (a0b rfl ?_) ?_<;>simp [a0r,a0l,a0u]
 ·rw [e] at hR
  subst hR
  generalize a0t ⟨⟨sf,wt⟩,ops,ends⟩ ⟨a1,a2,a3,a4,a5,a6,l⟩=V at *
  obtain ⟨x,b,y⟩:=V
  simp only at g1 hp hsm
  subst g1
  have hp':decide ((a4U ⟨⟨sf,wt⟩,ops,ends⟩ x).2=0)=false:=by simp [hp]
  simp [a0r,a0l,a0u,a0m,a0e,hl,hsm,a2g,a2m,hp]
  refine a0w (mkS [(4,.c (.pt (1,1) 0 0)),(5,.c (.pt (1,2) 0 0)),(6,iv 0)] [.var (1,1) 29 (a0r .old ⟨⟨sf,wt⟩,ops,ends⟩),.var (1,2) 38 (a0l .old (a2A ⟨a1,a2,a3,a4,a5,a6,l⟩ 6))]) (a0b rfl ?_) ?_<;>simp [a0r,a0l,a0u]
 ·rw [e] at hR
  obtain ⟨q1,q2,q3,q4,q5,q6⟩:=a4w hI'
  have hwl:(a4U ⟨⟨sf,wt⟩,ops,ends⟩ (a0t ⟨⟨sf,wt⟩,ops,ends⟩ ⟨a1,a2,a3,a4,a5,a6,l⟩).1).1.safe.length<1000000/\(a4U ⟨⟨sf,wt⟩,ops,ends⟩ (a0t ⟨⟨sf,wt⟩,ops,ends⟩ ⟨a1,a2,a3,a4,a5,a6,l⟩).1).1.wait.length<1000000:=by
   rw [hp]
   have:=a7R hx.2
   exact ⟨h.1,by rw [b75];omega⟩
  generalize hX:(a0Y ⟨⟨sf,wt⟩,ops,ends⟩ ⟨a1,a2,a3,a4,a5,a6,l⟩).1=X at *
  generalize a0t ⟨⟨sf,wt⟩,ops,ends⟩ ⟨a1,a2,a3,a4,a5,a6,l⟩=V at *
  obtain ⟨x,b,y⟩:=V
  simp only at g1 hp hx hc hs hI' e0 hsm hgo hwl hR
  subst g1
  have hp':(a4U ⟨⟨sf,wt⟩,ops,ends⟩ x).2=0:=by rw [hp]
  generalize hPV:a4U ⟨⟨sf,wt⟩,ops,ends⟩ x=PV at *
  obtain ⟨⟨ps,pw⟩,pe⟩:=PV
  simp only at hp' hs hwl
  subst hp'
  generalize a04 ⟨⟨sf,wt⟩,ops,ends⟩ x=G at *
  obtain ⟨⟨gd,go,gn⟩,gb⟩:=G
  simp only at e0
  subst e0
  generalize a19 (es++[x])++List.replicate (k-szE x) blank=L at *
  have q1l:=q1.l
  simp [a0r,a0l,a0u,a0m,a0e,hl,hsm,a2g,a2m,hPV]
  refine a1x (args':=[.g (a0r .brw ⟨⟨sf,wt⟩,ops,ends⟩),.g (a0m .brw x)]) ?_ hgo (by simp [a0r,a0l,a0u,a0m,a0e]) (by simp [a0r,a0l,a0u,a0m,a0e]) ?_
  ·simp [a0r,a0m,a0e]
  cases cj:x.join
  ·rw [cj] at hR
   simp only [Bool.false_eq_true,if_false] at hR
   subst hR
   simp [a0r,a0l,a0u,a0m,a0e,hwl,hs,a2g,a2m,q1,cj]
   refine ⟨⟨q1l,q2,hkn⟩,?_⟩
   refine a0w (mkS [(4,.c (.pt (1,1) 0 0)),(5,.c (.pt (1,2) 0 0)),(6,iv 0)] [.var (1,1) 29 (a0r .old ⟨⟨L,[]⟩,go,gn⟩),.var (1,2) 38 (a0l .old (a1B ⟨⟨L,[]⟩,go,gn⟩ a4))]) (a0b rfl ?_) ?_<;>simp [a0r,a0l,a0u]
  ·rw [cj] at hR
   simp only [if_true] at hR
   subst hR
   simp [a0r,a0l,a0u,a0m,a0e,hwl,hs,a2g,a2m,q1,cj]
   refine ⟨q1l,?_⟩
   refine a0w (mkS [(4,.c (.pt (1,1) 0 0)),(5,.c (.pt (1,2) 0 0)),(6,iv 0)] [.var (1,1) 29 (a0r .old ⟨⟨L,[]⟩,go,gn⟩),.var (1,2) 38 (a0l .old (a1I ⟨⟨L,[]⟩,go,gn⟩ a3))]) (a0b rfl ?_) ?_<;>simp [a0r,a0l,a0u]
theorem e0Q {f:FuncId} {r:a0o} {m:a02} {ret:AV} (h:PEv Tryz.prog f [.g (a0r .old r),.g (a0l .brw m)] ret) (hc:∀c∈ret.flat,a1Y c):PEv Tryz.prog f [.g (a0r .old r),.g (a0l .old m)] ret:=
 h.f5L rfl (by simp [a0r,a0l,a0u]) hc fun k x y hx hy=>by
  match k,hx,hy with
  |0,hx,hy=>simp at hx hy;subst hx hy;exact b6N _
  |1,hx,hy=>simp at hx hy;subst hx hy;exact c8p _
theorem f3r {f:FuncId} {r:a0o} {m:a02} {ret:AV} (h:PEv Tryz.prog f [.g (a0r .old r),.g (a0l .brw m)] ret) (hc:∀c∈ret.flat,a1Y c) (xs:List (List AC)) (hx:(xs.map fun r=>r.map c9C)=a0a m.ops) (hv:∀r∈xs,∀c∈r,a6E c) :
  PEv Tryz.prog f [.g (a0r .old r),.g (a0u (.sl .brw false xs) m)] ret:=
 h.f5L rfl (by simp [a0r,a0u];exact hv) hc fun k x y hx' hy=>by
  match k,hx',hy with
  |0,hx',hy=>simp at hx' hy;subst hx' hy;exact b6N _
  |1,hx',hy=>
   simp at hx' hy
   subst hx' hy
   have:=c8r (a0u (.sl .brw false xs) m)
   simp only [a0u,List.map_cons,List.map_nil,f3q,hx] at this
   exact this
theorem b8V (r:a0o) (m:a02) (h:a7N r) (hm:okM m):PEv Tryz.prog 18 [.g (a0r .old r),.g (a0l .old m)] (.t [(true,a0r .old (a0Y r m).1),(true,a0l .old (a0Y r m).2.1),(false,[.raw (.int .i64 (a0Y r m).2.2)])]):=
 e0Q (a9p r m h hm) (by simp [a0r,a0l,a0u])
theorem d1K (d:a0k) (h1:d.safe.length<1000000) (h2:d.wait.length<1000000):PEv Tryz.prog 32 [Arg.enc d] (.t [(true,a0r .old (a4v d).1),(false,[.raw (.int .i64 (a4v d).2)])]):=by
 refine a2w mixed c9D Tryz.func32 f8v ok32 (by kernel_rfl) (by simp [a0r]) (by simp) ?_
 generalize hR:a4v d=R
 obtain ⟨sf,wt⟩:=d
 simp only at h1 h2
 unfold a4v at hR
 cases c1:a1N ⟨sf,wt⟩
 ·rw [if_pos c1] at hR
  subst hR
  simp [s32,a0r,h1,h2,c1]
  refine a0w (mkS [(2,.c (.pt (1,1) 0 0)),(3,iv 1)] [.var (1,1) 29 (a0r .old a2q)]) (a0b rfl ?_) ?_<;>simp [a0r,a2q,a18]
 rw [if_neg (by simp [c1])] at hR
 by_cases c2:wt=[]
 rotate_left
 ·rw [if_pos c2] at hR
  subst hR
  have:0<wt.length:=List.length_pos_iff.2 c2
  simp [s32,a0r,h1,h2,c1,this]
  refine a0w (mkS [(2,.c (.pt (1,1) 0 0)),(3,iv 5)] [.var (1,1) 29 (a0r .old a2q)]) (a0b rfl ?_) ?_<;>simp [a0r,a2q,a18]
 subst c2
 rw [if_neg (by simp)] at hR
 obtain ⟨t1,t2,t3,t4⟩:=a9m ⟨sf,[]⟩
 have hm:=(a1f c1).2
 simp only at hm t1 t2 t3 t4
 have hsmall:=c18 ⟨sf,[]⟩
 generalize hT:a1A ⟨sf,[]⟩=T at *
 obtain ⟨⟨td,tp,tn⟩,ta⟩:=T
 simp only at hR t1 t2 t3 t4 hsmall
 subst t1
 have hcl:=c19 ⟨sf,[]⟩ (ta:Int)
 generalize hC:a1G ⟨sf,[]⟩ (ta:Int)=C at *
 obtain ⟨⟨cs,cw⟩,ce⟩:=C
 simp only at hR hcl
 by_cases c3:ce=0
 ·subst c3
  rw [if_neg (by simp)] at hR
  subst hR
  have hok:a7N ⟨⟨cs,cw⟩,tp,tn⟩:=⟨by simp only;omega,by simp only;omega,by simp only;omega,by simp only;omega,hsmall⟩
  simp [s32,a0r,h1,h2,c1,hT,a18,hC,a2g,a2m,hok]
  refine a0w (mkS [(2,.c (.pt (1,1) 0 0)),(3,iv 0)] [.var (1,1) 29 (a0r .old ⟨⟨cs,cw⟩,tp,tn⟩)]) (a0b rfl ?_) ?_<;>simp [a0r]
 ·rw [if_pos c3] at hR
  subst hR
  simp [s32,a0r,h1,h2,c1,hT,a18,hC,a2g,a2m,c3]
  refine a0w (mkS [(2,.c (.pt (1,1) 0 0)),(3,iv ce)] [.var (1,1) 29 (a0r .old a2q)]) (a0b rfl ?_) ?_<;>simp [a0r,a2q,a18]
open Go Go.Proofs
def f3s (r:a0o) (m:a02) (o:OpV):a0i×Bool×a02:=
 if o.site=m.site then
  if o.seq<=a1g m.site r.ops then (zeroE,false,a1B r m.known)
  else if (a1g m.site r.ops:Int)+1<o.seq then (zeroE,false,⟨6,m.site,0,0,o.seq,8,[]⟩)
  else if a0L (r.ops++[o])=true then (⟨false,0,o⟩,true,a6d)
  else if a3r (r.ops++[o])=true then (zeroE,false,⟨6,m.site,0,0,o.seq,1,[]⟩) else (zeroE,false,⟨6,m.site,0,0,o.seq,6,[]⟩)
 else (zeroE,false,⟨6,m.site,0,0,o.seq,1,[]⟩)
def c9E (r:a0o) (m:a02):a0i×Bool×a02:=
 if m.kind=1 then
  if m.a0H∈r.ends then (zeroE,false,a1I r m.a0H)
  else if (8:Int)<=r.ends.length then (zeroE,false,⟨6,1,0,0,1,6,[]⟩)
  else (⟨true,m.a0H,a0C⟩,true,⟨2,(r.ends.length:Int)+1,m.a0H,0,0,0,[]⟩)
 else if (r.ends.length:Int)<m.site then (zeroE,false,⟨6,m.site,0,0,1,3,[]⟩)
 else if m.kind=3 then (zeroE,false,a1B r m.known)
 else f3s r m (m.ops.headD a0C)
theorem c5J {r:a0o} {m:a02} (hf:a30 r m=true) {es:List a0i} {k:Nat} (hI:a34 r es k) :
  ((a0t r m).2.1=false->c9E r m=(zeroE,false,(a0t r m).2.2))/\
  ((a0t r m).2.1=true->c9E r m=((a0t r m).1,true,if m.kind=1 then ⟨2,(r.ends.length:Int)+1,m.a0H,0,0,0,[]⟩ else a6d)):=by
 obtain ⟨h1,h2,h3,h4⟩:=a4V hf
 obtain ⟨t1,⟨t2,t3⟩,t4⟩:=hI.ord
 obtain ⟨f1,f2,f3,f4⟩:=a4T t1
 unfold a0t c9E
 by_cases k1:m.kind=1
 ·obtain ⟨n1,n2,n3,n4,n5,n6,n7⟩:=b4O h4 k1
  rw [if_pos k1,if_pos k1]
  by_cases c1:m.a0H∈r.ends
  ·rw [if_pos c1,if_pos c1];exact ⟨fun _=>rfl,fun q=>by cases q⟩
  ·rw [if_neg c1,if_neg c1]
   by_cases c2:(8:Int)<=r.ends.length
   ·rw [if_pos c2,if_pos c2]
    refine ⟨fun _=>?_,fun q=>by cases q⟩
    simp [a2A,k1,n3]
   ·rw [if_neg c2,if_neg c2]
    exact ⟨(fun q=>by cases q),fun _=>by rw [if_pos k1]⟩
 ·rw [if_neg k1,if_neg k1]
  by_cases c1:(r.ends.length:Int)<m.site
  ·rw [if_pos c1,if_pos c1]
   refine ⟨fun _=>?_,fun q=>by cases q⟩
   simp [a2A,k1]
  ·rw [if_neg c1,if_neg c1]
   by_cases k3:m.kind=3
   ·rw [if_pos k3,if_pos k3]
    exact ⟨fun _=>rfl,fun q=>by cases q⟩
   ·rw [if_neg k3,if_neg k3]
    have k4:m.kind=4:=by rcases h3 with h|h|h<;>first|exact h|contradiction
    obtain ⟨s1,s2,s3,s4,o,ho⟩:=b4P h4 k4
    have hd:m.ops.headD a0C=o:=by rw [ho];rfl
    have hdn:∀e:Int,e≠3->a2A m e=⟨6,m.site,0,0,o.seq,e,[]⟩:=fun e he=>by simp [a2A,k1,ho,he]
    have hmo:=h2 o (by rw [ho];simp)
    have hru:=b0l hmo
    unfold b4F b0n f3s
    rw [hd]
    by_cases d1:o.site=m.site
    ·rw [if_pos d1,if_pos d1]
     by_cases d2:o.seq<1+a1g m.site r.ops
     ·rw [if_pos d2,if_pos (show o.seq<=a1g m.site r.ops by omega)]
      exact ⟨fun _=>rfl,fun q=>by cases q⟩
     ·rw [if_neg d2,if_neg (show ¬o.seq<=a1g m.site r.ops by omega)]
      by_cases d3:1+(a1g m.site r.ops:Int)<o.seq
      ·rw [if_pos d3,if_pos (show (a1g m.site r.ops:Int)+1<o.seq by omega)]
       exact ⟨fun _=>by rw [hdn 8 (by omega)],fun q=>by cases q⟩
      ·rw [if_neg d3,if_neg (show ¬(a1g m.site r.ops:Int)+1<o.seq by omega)]
       by_cases d4:a0L (r.ops++[o])=true
       ·rw [if_pos d4,if_pos d4]
        exact ⟨(fun q=>by cases q),fun _=>by rw [if_neg k1]⟩
       ·rw [if_neg d4,if_neg d4]
        have hfit:((40:Int)<=r.ops.length\/200<w64 ((a3Z r.ops:Int)+a07 o.text))↔¬a3r (r.ops++[o])=true:=by
         rw [b1Z (by omega) (by omega)]
         simp only [a3r,a7O,List.length_append,List.length_singleton,Bool.and_eq_true,decide_eq_true_eq]
         omega
        by_cases d5:a3r (r.ops++[o])=true
        ·rw [if_neg (fun q=>hfit.1 q d5),if_pos d5]
         exact ⟨fun _=>by rw [hdn 1 (by omega)],fun q=>by cases q⟩
        ·rw [if_pos (hfit.2 d5),if_neg d5]
         exact ⟨fun _=>by rw [hdn 6 (by omega)],fun q=>by cases q⟩
    ·rw [if_neg d1,if_neg d1]
     exact ⟨fun _=>by rw [hdn 1 (by omega)],fun q=>by cases q⟩
theorem d1L (l:List Int) (n:Int) (k:Nat):idxOf (fun x=>decide (x=n)) k l=idxOf (fun x=>decide (n=x)) k l:=by
 congr 1
 funext x
 exact decide_eq_decide.2 eq_comm
theorem c0V (n:Int):∀(l:List Int) (k:Nat),n ∉ l->idxOf (fun x=>decide (n=x)) k (l++[n])=((k+l.length:Nat):Int)
 |[],k,_=>by simp [idxOf]
 |a::l,k,h=>by
  simp only [List.mem_cons,not_or] at h
  rw [List.cons_append,idxOf,if_neg (by simpa using h.1),c0V n l (k+1) h.2]
  simp only [List.length_cons];congr 1;omega
def b8W:List AV->Option (Prop×AV):=t2 (fun l _=>l.length<4611686018427387904) fun (l:List Int) (n:Int)=>iv (idxOf (fun x=>decide (x=n)) 0 l)
@[simp] theorem e5y {l:List AV}:b8W l=(t2 (fun l _=>l.length<4611686018427387904) fun (l:List Int) (n:Int)=>iv (idxOf (fun x=>decide (x=n)) 0 l)) l:=(rfl)
def b8X:List AV->Option (Prop×AV):=t3 (fun _ _ _=>True) fun a b c:Int=>.g (a0l .old ⟨6,a,0,0,b,c,[]⟩)
@[simp] theorem e5z {l:List AV}:b8X l=(t3 (fun _ _ _=>True) fun a b c:Int=>.g (a0l .old ⟨6,a,0,0,b,c,[]⟩)) l:=(rfl)
def b8Y:List AV->Option (Prop×AV):=t2 (fun r k=>a7N r/\(∀o∈r.ops,okP o)/\0<=k) fun (r:a0o) (k:Int)=>.g (a0l .old (a1B r k))
@[simp] theorem e5A {l:List AV}:b8Y l=(t2 (fun r k=>a7N r/\(∀o∈r.ops,okP o)/\0<=k) fun (r:a0o) (k:Int)=>.g (a0l .old (a1B r k))) l:=(rfl)
def b8Z:List AV->Option (Prop×AV):=t2 (fun l _=>l.length<1000000) fun (l:List OpV) (s:Int)=>iv (a1g s l)
@[simp] theorem e5B {l:List AV}:b8Z l=(t2 (fun l _=>l.length<1000000) fun (l:List OpV) (s:Int)=>iv (a1g s l)) l:=(rfl)
def b80:List AV->Option (Prop×AV):=t2 (fun l o=>l.length<1000000/\(∀o∈l,o.gone.length<1000000)/\o.gone.length<1000000) fun (l:List OpV) (o:OpV)=>.c (.sl .old false (a0a (l++[o])))
@[simp] theorem e5C {l:List AV}:b80 l=(t2 (fun l o=>l.length<1000000/\(∀o∈l,o.gone.length<1000000)/\o.gone.length<1000000) fun (l:List OpV) (o:OpV)=>.c (.sl .old false (a0a (l++[o])))) l:=(rfl)
def b4T:List AV->Option (Prop×AV):=t1 b10 fun l:List OpV=>bv (a0L l)
@[simp] theorem e0R {l:List AV}:b4T l=(t1 b10 fun l:List OpV=>bv (a0L l)) l:=(rfl)
def b4U:List AV->Option (Prop×AV):=t1 b10 fun l:List OpV=>bv (a3r l)
@[simp] theorem e0S {l:List AV}:b4U l=(t1 b10 fun l:List OpV=>bv (a3r l)) l:=(rfl)
def GA2:CT:=(66,.pu b8W)::(70,.pu b8X)::(73,.pu b8Y)::(31,.pu b8Z)::(72,.pu b80)::(123,.pu b4T)::(100,.pu b4U)::[]
theorem e0T:a1k Tryz.prog GA2:=⟨a0P fun l n h=>d1t l n h,
 a4L fun a b c _=>b16 a b c,
 a0P fun r k h=>b17 r k h.1 h.2.1 h.2.2,
 a0P fun l s h=>b8l l s h,
 a0P fun l o h=>b0m l o h.1 h.2.1 h.2.2,
 a0n fun l h=>d1I l▸d1z l h,
 a0n fun l h=>c5m l h,trivial⟩
@[simp] theorem e0U:a0c GA2 66=some (.pu b8W):=(rfl)
@[simp] theorem e0V:a0c GA2 70=some (.pu b8X):=(rfl)
@[simp] theorem e0W:a0c GA2 73=some (.pu b8Y):=(rfl)
@[simp] theorem e0X:a0c GA2 31=some (.pu b8Z):=(rfl)
@[simp] theorem e0Y:a0c GA2 72=some (.pu b80):=(rfl)
@[simp] theorem d4Z:a0c GA2 123=some (.pu b4T):=(rfl)
@[simp] theorem d5a:a0c GA2 100=some (.pu b4U):=(rfl)
def a5i (q:a0i×Bool×a02):AV:=.t [(true,a0m .old q.1),(false,[.raw (.bool q.2.1)]),(true,a0l .old q.2.2)]
theorem b81 (r:a0o) (m:a02) (hf:a30 r m=true) {es:List a0i} {k:Nat} (hI:a34 r es k) (hm:okM m):PEv Tryz.prog 68 [Arg.enc r,Arg.enc m] (a5i (c9E r m)):=by
 obtain ⟨h1,h2,h3,h4⟩:=a4V hf
 obtain ⟨okr,okp,hsum,hol,hel,_⟩:=a4w hI
 obtain ⟨f1,f2,f3,f4⟩:=a4T hI.ord.1
 have hk0:0<=m.known:=by
  rcases h3 with k1|k3|k4
  ·have:=b4O h4 k1;omega
  ·have:=c5B h4 k3;omega
  ·obtain ⟨s1,s2,s3,s4,o,ho⟩:=b4P h4 k4;exact s3
 have hne:m.kind≠1->m.kind≠3->∃o,m.ops=[o]:=fun a b=>by
  have k4:m.kind=4:=by rcases h3 with h|h|h<;>first|exact h|contradiction
  obtain ⟨s1,s2,s3,s4,o,ho⟩:=b4P h4 k4
  exact ⟨o,ho⟩
 have htx:∀o∈m.ops,b10 (r.ops++[o]):=fun o ho=>⟨by simp;omega,fun x hx=>by
  rcases List.mem_append.1 hx with hx|hx
  ·exact ⟨a8w (f3 x hx),okr.2.2.2.2 x hx⟩
  ·rw [List.mem_singleton.1 hx];exact ⟨a8w (h2 o ho),hm.2 o ho⟩⟩
 have d2f:(∀o∈r.ops,o.gone.length<1000000)=True:=by
  simp only [eq_iff_iff,iff_true]
  exact fun o ho=>(okr.2.2.2.2 o ho).2
 have f6a:(∀o∈r.ops,okP o)=True:=by simp only [eq_iff_iff,iff_true];exact okp
 have f3Z:r.ends.length<4611686018427387904:=by omega
 have d5d:r.ops.length<1000000:=by omega
 refine a2w mixed e0T Tryz.func68 f8T f8U (by kernel_rfl) (by simp [a5i,a0m,a0e,a0l,a0u]) (by simp [a0r,a0l,a0u]) ?_
 obtain ⟨a1,a2,a3,a4,a5,a6,l⟩:=m
 simp only at hk0 hne htx
 have hmg:=hm.2
 simp only at hmg
 clear hf h2 h3 h4 hI f3 f4
 obtain ⟨⟨sf,wt⟩,ops,ends⟩:=r
 simp only at *
 generalize hR:c9E ⟨⟨sf,wt⟩,ops,ends⟩ ⟨a1,a2,a3,a4,a5,a6,l⟩=R
 unfold c9E at hR
 simp only at hR
 by_cases k1:a1=1
 ·subst k1
  rw [if_pos rfl] at hR
  cases c1:decide (0<=idxOf (fun x=>decide (x=a3)) 0 ends)
  rotate_left
  ·have c1':=(a7P a3 ends).1 (of_decide_eq_true c1)
   have b:=c0S (fun x=>decide (x=a3)) ends (by simpa using c1')
   have e1:IntKind.wrap .i64 (idxOf (fun x=>decide (x=a3)) 0 ends+1)=idxOf (fun x=>decide (x=a3)) 0 ends+1:=by rw [a0d]<;>omega
   rw [if_pos c1'] at hR
   unfold a1I at hR
   simp only at hR
   rw [<-d1L ends a3 0,b1Z (by omega) (by omega)] at hR
   subst hR
   simp [s68,a0r,a0l,a0u,f3Z,c1,e1,a5i]
   refine a0w (mkS [(4,.c (.pt (1,1) 0 0)),(5,bv false),(6,.c (.pt (1,2) 0 0))] [.var (1,1) 97 (a0m .old zeroE),.var (1,2) 38 (a0l .old ⟨2,idxOf (fun x=>decide (x=a3)) 0 ends+1,a3,0,0,0,[]⟩)]) (a0b rfl ?_) ?_<;>simp [a0m,a0e,a0C,zeroE,a0l,a0u]
  have c1':a3 ∉ ends:=fun q=>of_decide_eq_false c1 ((a7P _ _).2 q)
  rw [if_neg c1'] at hR
  cases c2:decide ((8:Int)<=ends.length)
  rotate_left
  ·rw [if_pos (of_decide_eq_true c2)] at hR
   subst hR
   simp [s68,a0r,a0l,a0u,f3Z,c1,c2,a5i]
   refine a0w (mkS [(4,.c (.pt (1,1) 0 0)),(5,bv false),(6,.c (.pt (1,2) 0 0))] [.var (1,1) 97 (a0m .old zeroE),.var (1,2) 38 (a0l .old ⟨6,1,0,0,1,6,[]⟩)]) (a0b rfl ?_) ?_<;>simp [a0m,a0e,a0C,zeroE,a0l,a0u]
  rw [if_neg (of_decide_eq_false c2)] at hR
  subst hR
  have e1:IntKind.wrap .i64 ((ends.length:Int)+1)=(ends.length:Int)+1:=by rw [a0d]<;>omega
  simp [s68,a0r,a0l,a0u,f3Z,c1,c2,e1,a5i]
  refine a0w (mkS [(4,.c (.pt (1,1) 0 0)),(5,bv true),(6,.c (.pt (1,2) 0 0))] [.var (1,1) 97 (a0m .old ⟨true,a3,a0C⟩),.var (1,2) 38 (a0l .old ⟨2,(ends.length:Int)+1,a3,0,0,0,[]⟩)]) (a0b rfl ?_) ?_<;>simp [a0m,a0e,a0C,a0l,a0u]
 rw [if_neg k1] at hR
 cases c1:decide ((ends.length:Int)<a2)
 rotate_left
 ·rw [if_pos (of_decide_eq_true c1)] at hR
  subst hR
  simp [s68,a0r,a0l,a0u,k1,c1,a5i]
  refine a0w (mkS [(4,.c (.pt (1,1) 0 0)),(5,bv false),(6,.c (.pt (1,2) 0 0))] [.var (1,1) 97 (a0m .old zeroE),.var (1,2) 38 (a0l .old ⟨6,a2,0,0,1,3,[]⟩)]) (a0b rfl ?_) ?_<;>simp [a0m,a0e,a0C,zeroE,a0l,a0u]
 rw [if_neg (of_decide_eq_false c1)] at hR
 by_cases k3:a1=3
 ·subst k3
  rw [if_pos rfl] at hR
  subst hR
  simp [s68,a0r,a0l,a0u,c1,okr,f6a,hk0,a5i]
  refine a0w (mkS [(4,.c (.pt (1,1) 0 0)),(5,bv false),(6,.c (.pt (1,2) 0 0))] [.var (1,1) 97 (a0m .old zeroE),.var (1,2) 38 (a0l .old (a1B ⟨⟨sf,wt⟩,ops,ends⟩ a4))]) (a0b rfl ?_) ?_<;>simp [a0m,a0e,a0C,zeroE,a0l,a0u]
 rw [if_neg k3] at hR
 obtain ⟨o,rfl⟩:=hne k1 k3
 have htx:=htx o (by simp)
 obtain ⟨g1b,f4a⟩:=hmg o (by simp)
 rw [show List.headD [o] a0C=o from rfl,f3s] at hR
 dsimp only at hR
 cases d1:decide (o.site=a2)
 ·rw [if_neg (of_decide_eq_false d1)] at hR
  subst hR
  simp [s68,a0r,a0l,a0u,k1,k3,c1,a2G,a0e,d5d,d1,a5i]
  refine a0w (mkS [(4,.c (.pt (1,1) 0 0)),(5,bv false),(6,.c (.pt (1,2) 0 0))] [.var (1,1) 97 (a0m .old zeroE),.var (1,2) 38 (a0l .old ⟨6,a2,0,0,o.seq,1,[]⟩)]) (a0b rfl ?_) ?_<;>simp [a0m,a0e,a0C,zeroE,a0l,a0u]
 rw [if_pos (of_decide_eq_true d1)] at hR
 have hnx:=a7J a2 ops
 generalize hN:a1g a2 ops=N at *
 cases d2:decide (o.seq<=(N:Int))
 rotate_left
 ·rw [if_pos (of_decide_eq_true d2)] at hR
  subst hR
  simp [s68,a0r,a0l,a0u,k1,k3,c1,a2G,a0e,d5d,hN,d1,d2,okr,f6a,hk0,a5i]
  refine a0w (mkS [(4,.c (.pt (1,1) 0 0)),(5,bv false),(6,.c (.pt (1,2) 0 0))] [.var (1,1) 97 (a0m .old zeroE),.var (1,2) 38 (a0l .old (a1B ⟨⟨sf,wt⟩,ops,ends⟩ a4))]) (a0b rfl ?_) ?_<;>simp [a0m,a0e,a0C,zeroE,a0l,a0u]
 rw [if_neg (of_decide_eq_false d2)] at hR
 have e1:IntKind.wrap .i64 ((N:Int)+1)=(N:Int)+1:=by rw [a0d]<;>omega
 cases d3:decide ((N:Int)+1<o.seq)
 rotate_left
 ·rw [if_pos (of_decide_eq_true d3)] at hR
  subst hR
  simp [s68,a0r,a0l,a0u,k1,k3,c1,a2G,a0e,d5d,hN,d1,d2,e1,d3,a5i]
  refine a0w (mkS [(4,.c (.pt (1,1) 0 0)),(5,bv false),(6,.c (.pt (1,2) 0 0))] [.var (1,1) 97 (a0m .old zeroE),.var (1,2) 38 (a0l .old ⟨6,a2,0,0,o.seq,8,[]⟩)]) (a0b rfl ?_) ?_<;>simp [a0m,a0e,a0C,zeroE,a0l,a0u]
 rw [if_neg (of_decide_eq_false d3)] at hR
 cases d4:a0L (ops++[o])
 rotate_left
 ·rw [if_pos d4] at hR
  subst hR
  simp [s68,a0r,a0l,a0u,k1,k3,c1,a2G,a0e,d5d,hN,d1,d2,e1,d3,d2f,f4a,htx,d4,a5i]
  refine a0w (mkS [(4,.c (.pt (1,1) 0 0)),(5,bv true),(6,.c (.pt (1,2) 0 0))] [.var (1,1) 97 (a0m .old ⟨false,0,o⟩),.var (1,2) 38 (a0l .old a6d)]) (a0b rfl ?_) ?_<;>simp [a0m,a0e,a6d,a0l,a0u]
 rw [if_neg (by simp [d4])] at hR
 cases d5:a3r (ops++[o])
 ·rw [if_neg (by simp [d5])] at hR
  subst hR
  simp [s68,a0r,a0l,a0u,k1,k3,c1,a2G,a0e,d5d,hN,d1,d2,e1,d3,d2f,f4a,htx,d4,d5,a5i]
  refine a0w (mkS [(4,.c (.pt (1,1) 0 0)),(5,bv false),(6,.c (.pt (1,2) 0 0))] [.var (1,1) 97 (a0m .old zeroE),.var (1,2) 38 (a0l .old ⟨6,a2,0,0,o.seq,6,[]⟩)]) (a0b rfl ?_) ?_<;>simp [a0m,a0e,a0C,zeroE,a0l,a0u]
 ·rw [if_pos d5] at hR
  subst hR
  simp [s68,a0r,a0l,a0u,k1,k3,c1,a2G,a0e,d5d,hN,d1,d2,e1,d3,d2f,f4a,htx,d4,d5,a5i]
  refine a0w (mkS [(4,.c (.pt (1,1) 0 0)),(5,bv false),(6,.c (.pt (1,2) 0 0))] [.var (1,1) 97 (a0m .old zeroE),.var (1,2) 38 (a0l .old ⟨6,a2,0,0,o.seq,1,[]⟩)]) (a0b rfl ?_) ?_<;>simp [a0m,a0e,a0C,zeroE,a0l,a0u]
open Go Go.Proofs
def b82:List AV->Option (Prop×AV):=t1 a7N fun r:a0o=>.g (a8r r)
@[simp] theorem e5D {l:List AV}:b82 l=(t1 a7N fun r:a0o=>.g (a8r r)) l:=(rfl)
def d1M:List AV->Option (Prop×AV):=t1 (fun d:a0k=>d.safe.length<1000000/\d.wait.length<1000000) fun d:a0k=>.g (a0y d)
def b83:List AV->Option (Prop×AV):=t2 (fun r m=>a30 r m=true/\(∃es k,a34 r es k)/\okM m) fun (r:a0o) (m:a02)=>a5i (c9E r m)
@[simp] theorem e5E {l:List AV}:b83 l=(t2 (fun r m=>a30 r m=true/\(∃es k,a34 r es k)/\okM m) fun (r:a0o) (m:a02)=>a5i (c9E r m)) l:=(rfl)
def b84:List AV->Option (Prop×AV):=t2 (fun r x=>(∃es k,a34 r es k)/\a0J x=true/\okF x) fun (r:a0o) (x:a0i)=>.t [(true,a2m (a4U r x).1),(false,[.raw (.bool (decide ((a4U r x).2=0)))])]
@[simp] theorem e5F {l:List AV}:b84 l=(t2 (fun r x=>(∃es k,a34 r es k)/\a0J x=true/\okF x) fun (r:a0o) (x:a0i)=>.t [(true,a2m (a4U r x).1),(false,[.raw (.bool (decide ((a4U r x).2=0)))])]) l:=(rfl)
def b85:List AV->Option (Prop×AV):=t1 (fun d:a0k=>a1N d=true) fun d:a0k=>.g (a0y ⟨a39 d.safe d.wait,[]⟩)
@[simp] theorem e5G {l:List AV}:b85 l=(t1 (fun d:a0k=>a1N d=true) fun d:a0k=>.g (a0y ⟨a39 d.safe d.wait,[]⟩)) l:=(rfl)
def b86:List AV->Option (Prop×AV):=t3 (fun _ _ _=>True) fun a b c:Int=>.g (a0l .old ⟨6,a,0,0,b,c,[]⟩)
@[simp] theorem e5H {l:List AV}:b86 l=(t3 (fun _ _ _=>True) fun a b c:Int=>.g (a0l .old ⟨6,a,0,0,b,c,[]⟩)) l:=(rfl)
def b87:List AV->Option (Prop×AV):=t2 (fun r k=>a7N r/\(∀o∈r.ops,okP o)/\0<=k) fun (r:a0o) (k:Int)=>.g (a0l .old (a1B r k))
@[simp] theorem e5I {l:List AV}:b87 l=(t2 (fun r k=>a7N r/\(∀o∈r.ops,okP o)/\0<=k) fun (r:a0o) (k:Int)=>.g (a0l .old (a1B r k))) l:=(rfl)
def b88:List AV->Option (Prop×AV):=t2 (fun l o=>l.length<1000000/\(∀o∈l,o.gone.length<1000000)/\o.gone.length<1000000) fun (l:List OpV) (o:OpV)=>.c (.sl .old false (a0a (l++[o])))
@[simp] theorem e5J {l:List AV}:b88 l=(t2 (fun l o=>l.length<1000000/\(∀o∈l,o.gone.length<1000000)/\o.gone.length<1000000) fun (l:List OpV) (o:OpV)=>.c (.sl .old false (a0a (l++[o])))) l:=(rfl)
def GA3:CT:=(17,.pu b82)::(34,.pu d1M)::(68,.pu b83)::(69,.pu b84)::(71,.pu b85)::(70,.pu b86)::(73,.pu b87)::(72,.pu b88)::[]
theorem e0Z:a1k Tryz.prog GA3:=⟨a0n fun r h=>b1X r h,
 a0n fun d h=>a5r d h.1 h.2,
 a0P fun r m h=>by obtain ⟨h1,⟨es,k,h2⟩,h3⟩:=h;exact b81 r m h1 h2 h3,
 a0P fun r x h=>by obtain ⟨⟨es,k,h2⟩,h1,h3⟩:=h;exact c17 r x h2 h1 h3,
 a0n fun d h=>b1E d h,
 a4L fun a b c _=>b16 a b c,
 a0P fun r k h=>b17 r k h.1 h.2.1 h.2.2,
 a0P fun l o h=>b0m l o h.1 h.2.1 h.2.2,trivial⟩
@[simp] theorem e00:a0c GA3 17=some (.pu b82):=(rfl)
@[simp] theorem e01:a0c GA3 68=some (.pu b83):=(rfl)
@[simp] theorem e02:a0c GA3 69=some (.pu b84):=(rfl)
@[simp] theorem e03:a0c GA3 71=some (.pu b85):=(rfl)
@[simp] theorem e04:a0c GA3 70=some (.pu b86):=(rfl)
@[simp] theorem e05:a0c GA3 73=some (.pu b87):=(rfl)
@[simp] theorem e06:a0c GA3 72=some (.pu b88):=(rfl)
theorem a8D (r:a0o) (m:a02) (hf:a30 r m=true) {es:List a0i} {k:Nat} (hI:a34 r es k) (hm:okM m):PEv Tryz.prog 29 [Arg.enc r,Arg.enc m] (.t [(true,a0r .old (a0Y r m).1),(true,a0l .old (a0Y r m).2.1)]):=by
 obtain ⟨okr,okp,_⟩:=a4w hI
 obtain ⟨g1,g2⟩:=c5J hf hI
 have hsm:=b0z hf hm
 have hT:=took hf hI
 obtain ⟨h1,h2,h3,h4⟩:=a4V hf
 have had:=@a5h r m hf
 have hwm:=fun x=>@c0O r es k hI x
 have hex:∃es k,a34 r es k:=⟨es,k,hI⟩
 have hk0:0<=m.known:=by
  rcases h3 with k1|k3|k4
  ·have:=b4O h4 k1;omega
  ·have:=c5B h4 k3;omega
  ·obtain ⟨s1,s2,s3,s4,o,ho⟩:=b4P h4 k4;exact s3
 have hdn:∀e:Int,e≠3->(m.kind=1->a2A m e=⟨6,1,0,0,1,e,[]⟩)/\∀o,m.ops=[o]->m.kind=4->a2A m e=⟨6,m.site,0,0,o.seq,e,[]⟩:=fun e he=>⟨fun k1=>by
  have:=(b4O h4 k1).2.2.1
  simp [a2A,k1,this],fun o ho k4=>by simp [a2A,k4,ho,he]⟩
 refine a2w mixed e0Z Tryz.func29 f8r f8s (by kernel_rfl) (by simp [a0r,a0l,a0u]) (by simp [a0r,a0l,a0u]) ?_
 rcases hT with ⟨q1,e,_⟩|⟨q1,hp,e,_⟩|⟨q1,hp,hx,hc,hs,hI',e0,e,_⟩
 ·replace g1:=g1 q1
  rw [e]
  clear had hwm hdn g2 e
  generalize (a0t r m).2.2=y at *
  obtain ⟨⟨sf,wt⟩,ops,ends⟩:=r
  obtain ⟨a1,a2,a3,a4,a5,a6,l⟩:=m
  simp [s29,a0r,a0l,a0u,okr,a8r,a0y,hf,hex,hm,g1,a5i,a0m,a0e]
  refine a0w (mkS [(4,.c (.pt (1,1) 0 0)),(5,.c (.pt (1,2) 0 0))] [.var (1,1) 29 (a0r .old ⟨⟨sf,wt⟩,ops,ends⟩),.var (1,2) 38 (a0l .old y)]) (a0b rfl ?_) ?_<;>simp [a0r,a0l,a0u]
 ·obtain ⟨c1,c2,c3⟩:=had q1
  replace g2:=g2 q1
  have d2g:okF (a0t r m).1:=a3L c1 hsm.1 hsm.2
  rw [e]
  have hd:a2A m 6=if (a0t r m).1.join=true then ⟨6,1,0,0,1,6,[]⟩ else ⟨6,m.site,0,0,(a0t r m).1.op.seq,6,[]⟩:=by
   rcases c3 with ⟨k1,hE,_⟩|⟨k4,o,ho,hE,_⟩
   ·rw [hE,(hdn 6 (by omega)).1 k1];rfl
   ·rw [hE,(hdn 6 (by omega)).2 o ho k4];rfl
  rw [hd]
  clear had hwm hdn g1 e hd c2 c3 hsm
  generalize (a0t r m).1=x at *
  generalize hM:(if m.kind=1 then (⟨2,(r.ends.length:Int)+1,m.a0H,0,0,0,[]⟩:a02) else a6d)=M at *
  obtain ⟨⟨sf,wt⟩,ops,ends⟩:=r
  obtain ⟨a1,a2,a3,a4,a5,a6,l⟩:=m
  clear hM
  obtain ⟨xj,xn,⟨o1,o2,o3,⟨e1,e2,e3⟩,o5,o6,o7,o8,o9⟩⟩:=x
  simp only at *
  cases xj
  ·simp [s29,a0r,a0l,a0u,okr,a8r,a0y,hf,hex,hm,g2,a5i,a0m,a0e,c1,d2g,hp,a2m]
   refine a0w (mkS [(4,.c (.pt (1,1) 0 0)),(5,.c (.pt (1,2) 0 0))] [.var (1,1) 29 (a0r .old ⟨⟨sf,wt⟩,ops,ends⟩),.var (1,2) 38 (a0l .old ⟨6,a2,0,0,o2,6,[]⟩)]) (a0b rfl ?_) ?_<;>simp [a0r,a0l,a0u]
  ·simp [s29,a0r,a0l,a0u,okr,a8r,a0y,hf,hex,hm,g2,a5i,a0m,a0e,c1,d2g,hp,a2m]
   refine a0w (mkS [(4,.c (.pt (1,1) 0 0)),(5,.c (.pt (1,2) 0 0))] [.var (1,1) 29 (a0r .old ⟨⟨sf,wt⟩,ops,ends⟩),.var (1,2) 38 (a0l .old ⟨6,1,0,0,1,6,[]⟩)]) (a0b rfl ?_) ?_<;>simp [a0r,a0l,a0u]
 ·obtain ⟨c1,c2,c3⟩:=had q1
  replace g2:=g2 q1
  have d2g:okF (a0t r m).1:=a3L c1 hsm.1 hsm.2
  have hwt:=hwm _ hx.2 hc
  have hp2:(a4U r (a0t r m).1).2=0:=by rw [hp]
  have hp1:a1N (a4U r (a0t r m).1).1=true:=by rw [hp];exact hwt
  rw [b1T hp1] at hs
  simp only [Prod.mk.injEq,and_true,a0k.mk.injEq] at hs
  obtain ⟨okX,e6j,_⟩:=a4w hI'
  have hgo:(∀o∈r.ops,o.gone.length<1000000)=True:=by simp only [eq_iff_iff,iff_true];exact fun o ho=>(okr.2.2.2.2 o ho).2
  have hol:r.ops.length<1000000:=okr.2.2.1
  have hel:r.ends.length<1000000:=okr.2.2.2.1
  have hog:=hsm.2
  clear hdn hwm had g1 hwt hp
  rcases c3 with ⟨k1,hE,hn,hlt⟩|⟨k4,o,ho,hE,hos,hsl,htm,hseq⟩
  ·have hg:a04 r ⟨true,m.a0H,a0C⟩=({r with ends:=r.ends++[m.a0H]},true):=by
    rw [a04,if_pos rfl,if_neg (by rintro (q|q);omega;exact hn q)]
   rw [e,e0,hE,hg,if_pos rfl]
   rw [if_pos k1] at g2
   have f6b:∀d,a1I {{r with ends:=r.ends++[m.a0H]} with disk:=d} m.a0H=⟨2,(r.ends.length:Int)+1,m.a0H,0,0,0,[]⟩:=fun d=>by
    unfold a1I
    rw [c0V _ _ _ hn,b1Z (by omega) (by omega)]
    congr 1;omega
   rw [f6b]
   rw [hE] at g2 hs hp1 hp2 d2g c1
   clear e e0 hI' okX e6j f6b hg hE hx hc hsm hog
   obtain ⟨⟨sf,wt⟩,ops,ends⟩:=r
   obtain ⟨a1,a2,a3,a4,a5,a6,l⟩:=m
   simp only at *
   generalize a19 (es++[⟨true,a3,a0C⟩])++List.replicate (k-szE ⟨true,a3,a0C⟩) blank=L at *
   generalize hPV:a4U ⟨⟨sf,wt⟩,ops,ends⟩ ⟨true,a3,a0C⟩=PV at *
   obtain ⟨⟨ps,pw⟩,pe⟩:=PV
   simp only at hp1 hp2 hs
   subst hp2
   have hcc:a2C ends.length (a0a ends)=a0a ends:=a4f (by simp)
   have b1:ends.length<=9223372036854775806/\(ends.length+1)*8<=140737488355328:=⟨by omega,by omega⟩
   have hrow:a0a ends++[[AC.raw (.int .i64 a3)]]=a0a (ends++[a3]):=by rw [a1l];rfl
   have hz:(⟨true,a3,⟨0,0,0,⟨0,0,0⟩,[],[],0,0,0⟩⟩:a0i)=⟨true,a3,a0C⟩:=rfl
   simp [s29,a0r,a0l,a0u,okr,a8r,a0y,hf,hex,hm,g2,a5i,a0m,a0e,a0C,hz,c1,d2g,hPV,a2m,hp1,hs,hcc,b1,hrow]
   refine a0w (mkS [(4,.c (.pt (1,1) 0 0)),(5,.c (.pt (1,2) 0 0))] [.var (1,1) 29 (a0r .old ⟨⟨L,[]⟩,ops,ends++[a3]⟩),.var (1,2) 38 (a0l .old ⟨2,(ends.length:Int)+1,a3,0,0,0,[]⟩)]) (a0b rfl ?_) ?_<;>simp [a0r,a0l,a0u]
  ·have hg:a04 r ⟨false,0,o⟩=({r with ops:=r.ops++[o]},true):=by
    rw [a04,if_neg (by simp),if_neg (by rintro (q|q);simp only at q;omega;simp only at q;rw [q] at htm;cases htm)]
   rw [e,e0,hE,hg,if_neg (by simp)]
   rw [e0,hE,hg] at okX e6j
   rw [if_neg (by omega)] at g2
   rw [hE] at g2 hs hp1 hp2 d2g c1 hog
   simp only at okX e6j hog
   clear e e0 hI' hg hE hx hc hsm
   obtain ⟨o1,o2,o3,⟨e1,e2,e3⟩,o5,o6,o7,o8,o9⟩:=o
   obtain ⟨⟨sf,wt⟩,ops,ends⟩:=r
   obtain ⟨a1,a2,a3,a4,a5,a6,l⟩:=m
   simp only at *
   generalize a19 (es++[⟨false,0,⟨o1,o2,o3,⟨e1,e2,e3⟩,o5,o6,o7,o8,o9⟩⟩])++List.replicate (k-szE ⟨false,0,⟨o1,o2,o3,⟨e1,e2,e3⟩,o5,o6,o7,o8,o9⟩⟩) blank=L at *
   generalize hPV:a4U ⟨⟨sf,wt⟩,ops,ends⟩ ⟨false,0,⟨o1,o2,o3,⟨e1,e2,e3⟩,o5,o6,o7,o8,o9⟩⟩=PV at *
   obtain ⟨⟨ps,pw⟩,pe⟩:=PV
   simp only at hp1 hp2 hs
   subst hp2
   simp [s29,a0r,a0l,a0u,okr,a8r,a0y,hf,hex,hm,g2,a5i,a0m,a0e,c1,d2g,hPV,a2m,hp1,hs,hol,hgo,hog,okX,hk0,-List.mem_append]
   refine ⟨e6j,?_⟩
   refine a0w (mkS [(4,.c (.pt (1,1) 0 0)),(5,.c (.pt (1,2) 0 0))] [.var (1,1) 29 (a0r .old ⟨⟨L,[]⟩,ops++[⟨o1,o2,o3,⟨e1,e2,e3⟩,o5,o6,o7,o8,o9⟩],ends⟩),.var (1,2) 38 (a0l .old (a1B ⟨⟨L,[]⟩,ops++[⟨o1,o2,o3,⟨e1,e2,e3⟩,o5,o6,o7,o8,o9⟩],ends⟩ a4))]) (a0b rfl ?_) ?_<;>simp [a0r,a0l,a0u]
open Go Go.Proofs
def b89:List AV->Option (Prop×AV):=t1 (fun d:a0k=>a1N d=true) fun d:a0k=>a1F (a0I d)
@[simp] theorem e5K {l:List AV}:b89 l=(t1 (fun d:a0k=>a1N d=true) fun d:a0k=>a1F (a0I d)) l:=(rfl)
def b9a:List AV->Option (Prop×AV):=t2 (fun (d:a0k) n=>a1N d=true/\0<=n/\n<9223372036854775808) fun (d:a0k) (n:Int)=>a1j (a1G d n)
@[simp] theorem e5L {l:List AV}:b9a l=(t2 (fun (d:a0k) n=>a1N d=true/\0<=n/\n<9223372036854775808) fun (d:a0k) (n:Int)=>a1j (a1G d n)) l:=(rfl)
def b9b:List AV->Option (Prop×AV):=t1 (fun l=>l.length<1000/\∀e∈l,a3W e.op.text=true/\e.op.text.length<1000000/\e.op.gone.length<1000000) fun l:List a0i=>a1T (a1X [] [] 0 l)
@[simp] theorem e5M {l:List AV}:b9b l=(t1 (fun l=>l.length<1000/\∀e∈l,a3W e.op.text=true/\e.op.text.length<1000000/\e.op.gone.length<1000000) fun l:List a0i=>a1T (a1X [] [] 0 l)) l:=(rfl)
def GA4:CT:=(48,.pu b89)::(80,.pu b9a)::(49,.pu b9b)::[]
theorem e07:a1k Tryz.prog GA4:=⟨a0n fun d h=>a6t d (a1f h).1 (by have:=(a1f h).2.2;omega) (by have:=a2M h;omega),
 a0P fun d n h=>b0g d n h.1 h.2.1 h.2.2,
 a0n fun l h=>c0G l h.1 h.2,trivial⟩
@[simp] theorem e08:a0c GA4 48=some (.pu b89):=(rfl)
@[simp] theorem e09:a0c GA4 80=some (.pu b9a):=(rfl)
@[simp] theorem e1a:a0c GA4 49=some (.pu b9b):=(rfl)
theorem c5K {d:a0k} (h:a1N d=true) (hw:d.wait=[]):∃n en:Nat,a1X [] [] 0 (a0I d).1=((a1A d).1.ends,(a1A d).1.ops,n)/\n<=(a0I d).1.length/\(a0I d).2.1.length=(a0I d).1.length/\
  (∀h:n<(a0I d).2.1.length,(a0I d).2.1[n]=((a1A d).2:Int))/\(n=(a0I d).1.length->(a0I d).2.2=(a1A d).2)/\(a1A d).2<=d.safe.length/\(a1A d).1.disk=a18/\
  (a1G d ((a1A d).2:Int)).2=0/\a4v d=({(a1A d).1 with disk:=(a1G d ((a1A d).2:Int)).1},0):=by
 obtain ⟨q1,q2,q3,q4,q5⟩:=a4x h
 obtain ⟨m1,m2,m3⟩:=a1f h
 obtain ⟨t1,t2,t3,t4⟩:=a9m d
 obtain ⟨n,n1,n2,n3⟩:=c0U (a0I d).1 a2q 0 0 a5y
 obtain ⟨R,r1,r2,r3⟩:=a6e d.safe.length d.safe 0 m1
 obtain ⟨a1,a2⟩:=c5I d.safe.length d.safe 0 m1
 have hT:a1A d=a3U a2q 0 (a0I d).1:=by rw [q1];rfl
 rw [<-hT] at n2 n3
 have hle:(a1A d).2<=d.safe.length:=b4k d
 have hcl:(a1G d ((a1A d).2:Int)).2=0:=by
  have hd:d=⟨d.safe.take (a1A d).2++d.safe.drop (a1A d).2,[]⟩:=by
   rw [List.take_append_drop]
   obtain ⟨s,w⟩:=d
   simp only at hw
   rw [hw]
  have hlen:(d.safe.take (a1A d).2).length=(a1A d).2:=by rw [List.length_take];omega
  have h':=h
  rw [hd] at h'
  have:=c8i h'
  rw [<-hd,hlen] at this
  rw [this]
 refine ⟨n,0,?_,n1,a1,fun hn=>?_,fun hn=>?_,hle,t1,hcl,?_⟩
 ·refine n2.trans ?_
  rw [Nat.zero_add]
 ·have:(a0I d).2.1[n]?=some ((0+(a19 ((a0I d).1.take n)).length:Nat):Int):=a2 n (by rw [<-a1];exact hn)
  rw [List.getElem?_eq_getElem hn] at this
  rw [n3]
  exact Option.some.inj this
 ·rw [q2,n3,hn,List.take_length]
  rw [a2v,if_pos h]
  refine r3.trans ?_
  rw [q1,a2v,if_pos h]
 ·unfold a4v
  rw [if_neg (by simp [h]),if_neg (by simp [hw]),if_neg (by rw [hcl];simp)]
theorem c2b (d:a0k) (h:a1N d=true) (hw:d.wait=[]):PEv Tryz.prog 35 [Arg.enc d] (.g (a0r .old (a4v d).1)):=by
 obtain ⟨n,_,e1,e2,e3,e4,e5,e6,e7,e8,e9⟩:=c5K h hw
 obtain ⟨q1,q2,q3,q4,q5⟩:=a4x h
 obtain ⟨m1,m2,m3⟩:=a1f h
 refine a6x mixed e07 Tryz.func35 sl35 f8y (by kernel_rfl) (by simp [a0r]) (by simp) ?_
 rw [e9]
 obtain ⟨sf,wt⟩:=d
 generalize hL:a0I ⟨sf,wt⟩=L at *
 obtain ⟨es,ats,en⟩:=L
 generalize hTT:a1A ⟨sf,wt⟩=T at *
 obtain ⟨⟨td,tp,tn⟩,ta⟩:=T
 simp only at *
 subst e7
 have hes:es.length<1000:=by omega
 have hef:(∀e∈es,a3W e.op.text=true/\e.op.text.length<1000000/\e.op.gone.length<1000000)=True:=by
  simp only [eq_iff_iff,iff_true]
  intro e he
  have:=c5D (q3 e he)
  exact ⟨this.1,by omega,by omega⟩
 have hta:(ta:Int)<9223372036854775808:=by omega
 generalize hC:a1G ⟨sf,wt⟩ (ta:Int)=C at *
 obtain ⟨⟨cs,cw⟩,ce⟩:=C
 simp only at e8
 subst e8
 unfold s35
 refine v1 (mkS [(1,.c (.pt (1,1) 0 0)),(2,.c (.pt (1,2) 0 0))] [.var (1,1) 25 [.sl .brw false (a0a sf),.sl .brw false (a0a wt)],.var (1,2) 29 [.a0x,.a0x,.a0x,.a0x]]) (fun J hJ=>?_) ?_
 ·simp
  refine hJ _ (a0b rfl ?_)
  simp
 refine v1 (mkS [(1,.c (.pt (1,1) 0 0)),(2,.c (.pt (1,2) 0 0)),(3,.c (.sl .old false (a0a es))),(4,.c (.sl .old false (a0a ats))),(5,iv en)] [.var (1,1) 25 [.sl .brw false (a0a sf),.sl .brw false (a0a wt)],.var (1,2) 29 [.a0x,.a0x,.a0x,.a0x]]) (fun J hJ=>?_) ?_
 ·simp [h,hL,a1F]
  refine hJ _ (a0b rfl ?_)
  simp
 refine v1 (mkS [(1,.c (.pt (1,1) 0 0)),(2,.c (.pt (1,2) 0 0)),(3,.c (.sl .old false (a0a es))),(4,.c (.sl .old false (a0a ats))),(5,iv en),(6,.c (.sl .old false (a0a tn))),(7,.c (.sl .old false (a0a tp))),(8,iv n)] [.var (1,1) 25 [.sl .brw false (a0a sf),.sl .brw false (a0a wt)],.var (1,2) 29 [.a0x,.a0x,.a0x,.a0x]]) (fun J hJ=>?_) ?_
 ·simp [hes,hef,e1,a1T]
  refine hJ _ (a0b rfl ?_)
  simp
 refine v1 (mkS [(1,.c (.pt (1,1) 0 0)),(2,.c (.pt (1,2) 0 0)),(5,iv ta),(6,.c (.sl .old false (a0a tn))),(7,.c (.sl .old false (a0a tp)))] [.var (1,1) 25 [.sl .brw false (a0a sf),.sl .brw false (a0a wt)],.var (1,2) 29 [.a0x,.a0x,.a0x,.a0x]]) (fun J hJ=>?_) ?_
 ·by_cases hn:n<es.length
  ·have hn2:n<ats.length:=by omega
   have e4:=e4 hn2
   simp [hn,hn2,e4]
   refine hJ _ (a0b rfl ?_)
   simp
  ·have e5:=e5 (by omega)
   subst e5
   simp [hn]
   refine hJ _ (a0b rfl ?_)
   simp
 refine a1p ?_
 simp [h,hta,hC,a1j,a0y]
 refine a0w (mkS [(2,.c (.pt (1,1) 0 0))] [.var (1,1) 29 (a0r .old ⟨⟨cs,cw⟩,tp,tn⟩)]) (a0b rfl ?_) ?_<;>simp [a0r]
open Go
def a25 (n:Int):a02:=⟨1,0,n,0,0,0,[]⟩
def a5G (o:OpV):a02:=⟨4,o.site,0,0,0,0,[o]⟩
def b9c (n:Nat):a0o:=⟨⟨List.replicate n blank,[]⟩,[],[]⟩
theorem b9d {n:Nat} (h1:1<=n) (h2:n<=400):a34 (b9c n) [] n:=
 ⟨by simp [b9c,a19],by simp,rfl,by simp [a19];omega⟩
theorem c9F {r:a0o} {es:List a0i} {k:Nat} (hI:a34 r es k) {x:a0i} (hx:a0J x=true) (hf:(a0j x).2=0) (hk:szE x<=k):(a4U r x).2=0:=by
 have hpv:a4U r x=((a1v r.disk ((a19 es).length:Int) x).1,(a1v r.disk ((a19 es).length:Int) x).2.2):=by rw [a4U,hI.told]
 rw [hpv,b15 hI hx,if_pos hf,if_neg (by omega)]
theorem a69 {r:a0o} {es:List a0i} {k:Nat} (hI:a34 r es k) {m:a02} (hm:a2Q m=true) (hk:m.kind=1\/m.kind=3\/m.kind=4):a30 r m=true:=by
 simp only [a30,b0r hI,hm,Bool.and_eq_true,Bool.or_eq_true,decide_eq_true_eq,true_and]
 rcases hk with h|h|h
 ·exact .inl (.inl h)
 ·exact .inl (.inr h)
 ·exact .inr h
theorem b6O {r:a0o} {es:List a0i} {k:Nat} (hI:a34 r es k) {n:Int} (hm:a2Q (a25 n)=true) (hn:n ∉ r.ends) (h8:r.ends.length<8) (hf:(a0j ⟨true,n,a0C⟩).2=0) (hk:szE ⟨true,n,a0C⟩<=k) :
  (a0Y r (a25 n)).2.2=0/\a34 (a0Y r (a25 n)).1 (es++[⟨true,n,a0C⟩]) (k-szE ⟨true,n,a0C⟩)/\(a0Y r (a25 n)).1.ops=r.ops/\(a0Y r (a25 n)).1.ends=r.ends++[n]:=by
 have hfm:=a69 hI hm (.inl rfl)
 have ha:a0t r (a25 n)=(⟨true,n,a0C⟩,true,a6d):=by
  rw [a0t,if_pos (show (a25 n).kind=1 from rfl),if_neg (show ¬(a25 n).a0H∈r.ends from hn),if_neg (by omega)];rfl
 obtain ⟨c1,c2,_⟩:=a5h hfm (by rw [ha])
 rw [ha] at c1 c2
 simp only at c1 c2
 have hg:a04 r ⟨true,n,a0C⟩=({r with ends:=r.ends++[n]},true):=by
  rw [a04,if_pos rfl,if_neg (by rintro (q|q);omega;exact hn q)]
 rcases took hfm hI with ⟨q1,e,_⟩|⟨q1,hp,e,_⟩|⟨q1,hp,hx,hc,hs,hI',e0,e,_⟩
 ·rw [ha] at q1;cases q1
 ·rw [ha] at hp;exact (hp (c9F hI c1 hf hk)).elim
 ·rw [ha] at hI' e0
  simp only at hI' e0
  exact ⟨by rw [e],hI',by rw [e0,hg],by rw [e0,hg]⟩
theorem c8s {r:a0o} {es:List a0i} {k:Nat} (hI:a34 r es k) {o:OpV} (hm:a2Q (a5G o)=true) (hs:o.site<=(r.ends.length:Int)) (ht:a0L (r.ops++[o])=true) (hf:(a0j ⟨false,0,o⟩).2=0) (hk:szE ⟨false,0,o⟩<=k) :
  (a0Y r (a5G o)).2.2=0/\a34 (a0Y r (a5G o)).1 (es++[⟨false,0,o⟩]) (k-szE ⟨false,0,o⟩)/\(a0Y r (a5G o)).1.ops=r.ops++[o]/\(a0Y r (a5G o)).1.ends=r.ends:=by
 have hfm:=a69 hI hm (.inr (.inr rfl))
 have hgo:=a4u hI.ord.1 o
 rw [ht] at hgo
 have hgo:=hgo.symm
 rw [Bool.and_eq_true] at hgo
 have hsq:o.seq=(a1g o.site r.ops:Int)+1:=by
  have:=hgo.1
  simp only [a4t,Bool.and_eq_true,decide_eq_true_eq] at this
  exact this.1.1.1.2
 have ha:a0t r (a5G o)=(⟨false,0,o⟩,true,a6d):=by
  rw [a0t,if_neg (show ¬(a5G o).kind=1 by simp [a5G]),if_neg (show ¬(r.ends.length:Int)<(a5G o).site by simp only [a5G];omega),if_neg (show ¬(a5G o).kind=3 by simp [a5G])]
  show ((⟨false,0,o⟩:a0i),b0n r (a5G o) o)=_
  rw [b0n,if_pos (show o.site=(a5G o).site from rfl),if_neg (show ¬o.seq<1+a1g (a5G o).site r.ops by simp only [a5G];omega),if_neg (show ¬1+(a1g (a5G o).site r.ops:Int)<o.seq by simp only [a5G];omega),if_pos ht]
 obtain ⟨c1,c2,_⟩:=a5h hfm (by rw [ha])
 rw [ha] at c1 c2
 simp only at c1 c2
 have hg:a04 r ⟨false,0,o⟩=({r with ops:=r.ops++[o]},true):=by
  rw [a04,if_neg (by simp),if_neg (by rintro (q|q);simp only at q;omega;simp only at q;rw [q] at ht;cases ht)]
 rcases took hfm hI with ⟨q1,e,_⟩|⟨q1,hp,e,_⟩|⟨q1,hp,hx,hc,hs,hI',e0,e,_⟩
 ·rw [ha] at q1;cases q1
 ·rw [ha] at hp;exact (hp (c9F hI c1 hf hk)).elim
 ·rw [ha] at hI' e0
  simp only at hI' e0
  exact ⟨by rw [e],hI',by rw [e0,hg],by rw [e0,hg]⟩
theorem a8E {r:a0o} {es:List a0i} {k:Nat} (hI:a34 r es k) {m:a02} (hm:a2Q m=true) (hk:m.kind=1\/m.kind=3\/m.kind=4) (ha:(a0t r m).2.1=false):a0Y r m=(r,(a0t r m).2.2,0):=by
 have hfm:=a69 hI hm hk
 rw [a0Y,if_pos hfm,if_neg (by simp [ha])]
theorem b0A (r:a0o) (m:a02):a0t r m=a0t ⟨a18,r.ops,r.ends⟩ m:=rfl
def a5j (i:Nat):OpV:=⟨((1+i%2:Nat):Int),((1+i/2:Nat):Int),1,if 1<i then ⟨((1+i%2:Nat):Int),((i/2:Nat):Int),0⟩ else ⟨0,0,0⟩,[UInt8.ofNat (97+i%26)],[],0,0,0⟩
def a3s:Nat->a0o
 |0=>b9c 120
 |n+1=>(a0Y (a3s n) (a25 ((n+1:Nat):Int))).1
def a3b:Nat->a0o
 |0=>a3s 2
 |n+1=>(a0Y (a3b n) (a5G (a5j n))).1
theorem b9e (n:Nat):a3s (n+1)=(a0Y (a3s n) (a25 ((n+1:Nat):Int))).1:=rfl
theorem b4V (n:Nat):a3b (n+1)=(a0Y (a3b n) (a5G (a5j n))).1:=rfl
def a4e (n:Nat):List OpV:=(List.range n).map a5j
theorem a5k (n:Nat):a4e (n+1)=a4e n++[a5j n]:=by simp [a4e,List.range_succ]
def b0B (n:Nat):List a0i:=[⟨true,1,a0C⟩,⟨true,2,a0C⟩]++(a4e n).map fun o=>⟨false,0,o⟩
theorem a9q:∀i,i<42->a2Q (a5G (a5j i))=true:=by decide +kernel
theorem c5L:∀i,i<40->(a0j ⟨false,0,a5j i⟩).2=0/\szE ⟨false,0,a5j i⟩=1:=by decide +kernel
theorem d1N:a0L (a4e 40)=true:=by decide +kernel
theorem b6P:∀j,j<=40->a0L (a4e (40-j))=true
 |0,_=>d1N
 |j+1,h=>by
  have ih:=b6P j (by omega)
  rw [show 40-j=(40-(j+1))+1 by omega,a5k] at ih
  exact b0x ih
theorem a7S:∀i,i<12->a2Q (a25 ((i+1:Nat):Int))=true:=by decide +kernel
theorem b4W:∀i,i<12->(a0j ⟨true,((i+1:Nat):Int),a0C⟩).2=0/\szE ⟨true,((i+1:Nat):Int),a0C⟩=1:=by decide +kernel
theorem a6f:a34 (a3s 1) [⟨true,1,a0C⟩] 119/\(a3s 1).ops=[]/\(a3s 1).ends=[1]/\a34 (a3s 2) [⟨true,1,a0C⟩,⟨true,2,a0C⟩] 118/\(a3s 2).ops=[]/\(a3s 2).ends=[1,2]:=by
 obtain ⟨f1,s1⟩:=b4W 0 (by omega)
 obtain ⟨f2,s2⟩:=b4W 1 (by omega)
 have e0:a3s 0=b9c 120:=by rw [a3s]
 have e1:a3s 1=(a0Y (a3s 0) (a25 ((0+1:Nat):Int))).1:=b9e 0
 have e2:a3s 2=(a0Y (a3s 1) (a25 ((1+1:Nat):Int))).1:=b9e 1
 have h0:a34 (a3s 0) [] 120:=by rw [e0];exact b9d (by omega) (by omega)
 have o0:(a3s 0).ops=[]/\(a3s 0).ends=[]:=by rw [e0];exact ⟨rfl,rfl⟩
 obtain ⟨_,a2,a3,a4⟩:=b6O h0 (a7S 0 (by omega)) (by rw [o0.2];simp) (by rw [o0.2];simp) f1 (by rw [s1];omega)
 rw [s1] at a2
 rw [<-e1] at a2 a3 a4
 rw [o0.1] at a3
 rw [o0.2] at a4
 replace a2:a34 (a3s 1) [⟨true,1,a0C⟩] 119:=a2
 replace a4:(a3s 1).ends=[1]:=a4
 obtain ⟨_,b2,b3,b4⟩:=b6O a2 (a7S 1 (by omega)) (by rw [a4];simp) (by rw [a4];simp) f2 (by rw [s2];omega)
 rw [s2] at b2
 rw [<-e2] at b2 b3 b4
 rw [a3] at b3
 rw [a4] at b4
 exact ⟨a2,a3,a4,b2,b3,b4⟩
theorem a5A:∀n,n<=40->a34 (a3b n) (b0B n) (118-n)/\(a3b n).ops=a4e n/\(a3b n).ends=[1,2]
 |0,_=>⟨a6f.2.2.2.1,a6f.2.2.2.2.1,a6f.2.2.2.2.2⟩
 |n+1,h=>by
  obtain ⟨i1,i2,i3⟩:=a5A n (by omega)
  obtain ⟨f,s⟩:=c5L n (by omega)
  have ht:=b6P (40-(n+1)) (by omega)
  rw [show 40-(40-(n+1))=n+1 by omega,a5k,<-i2] at ht
  obtain ⟨_,a2,a3,a4⟩:=c8s i1 (a9q n (by omega)) (by rw [i3];simp [a5j];omega) ht f (by rw [s];omega)
  rw [s] at a2
  rw [<-b4V] at a2 a3 a4
  refine ⟨?_,by rw [a5k,<-i2];exact a3,by rw [<-i3];exact a4⟩
  have e1:b0B (n+1)=b0B n++[⟨false,0,a5j n⟩]:=by rw [b0B,a5k,List.map_append,<-List.append_assoc];rfl
  rw [e1,show 118-(n+1)=118-n-1 by omega]
  exact a2
theorem b9f:∀o,(o=a5j 40\/o=a5j 41\/o=⟨1,21,1,⟨0,0,0⟩,[122],[],0,0,0⟩)->(a0t ⟨a18,a4e 40,[1,2]⟩ (a5G o)).2.1=false:=by
 rintro o (rfl|rfl|rfl)
 all_goals decide +kernel
theorem b6Q (n:Nat) (h:40<=n) (h2:n<=42):a3b n=a3b 40:=by
 obtain ⟨i1,i2,i3⟩:=a5A 40 (by omega)
 have e:∀o,(a0t (a3b 40) o).2.1=(a0t ⟨a18,a4e 40,[1,2]⟩ o).2.1:=fun o=>by rw [b0A,i2,i3]
 have h41:a3b 41=a3b 40:=by
  rw [b4V 40,a8E i1 (a9q 40 (by omega)) (.inr (.inr rfl)) (by rw [e];exact b9f _ (.inl rfl))]
 have h42:a3b 42=a3b 40:=by
  rw [b4V 41,h41,a8E i1 (a9q 41 (by omega)) (.inr (.inr rfl)) (by rw [e];exact b9f _ (.inr (.inl rfl)))]
 have:n=40\/n=41\/n=42:=by omega
 rcases this with rfl|rfl|rfl
 ·rfl
 ·exact h41
 ·exact h42
theorem c8t (n:Nat) (h:n<=42):∃es k,a34 (a3b n) es k:=by
 by_cases h4:n<=40
 ·exact ⟨_,_,(a5A n h4).1⟩
 ·rw [b6Q n (by omega) h];exact ⟨_,_,(a5A 40 (by omega)).1⟩
open Go Go.Proofs
theorem c2c:b5U a4M Tryz.prog 125 (fun s=>s.text.length<=reachBytes):=by
 intro H enc w F fuel cs x hF h
 obtain ⟨xs,n,_,rfl,hl,hlen,hf⟩:=DataW.trod_struct Tryz.underlying125 h
 rw [show Tryz.prog.cellsOf 125=2 from by kernel_rfl] at hl
 match cs,hl,xs,hlen with
 |[c0,c1],_,[x0,x1],_=>
  have h0:=hf 0 _ rfl
  change DataW.trod enc Tryz.prog w 0 _ true _ 3 (List.take (Tryz.prog.cellsOf 3) [c0,c1])=some x0 at h0
  rw [show Tryz.prog.cellsOf 3=1 from by kernel_rfl] at h0
  have h1:=hf 1 _ rfl
  change DataW.trod enc Tryz.prog w 0 _ true _ 9 (List.take (Tryz.prog.cellsOf 9) [c1])=some x1 at h1
  rw [show Tryz.prog.cellsOf 9=1 from by kernel_rfl] at h1
  obtain ⟨a0,_,o0,r0,s0⟩:=a1s Tryz.underlying3 enc w F n _ _ hF h0
  obtain ⟨a1,_,o1,r1,s1⟩:=a9T Tryz.underlying9 enc w F n _ _ hF h1
  refine ⟨⟨a0,a1⟩,rfl,?_,?_,fun hw=>?_⟩
  ·intro v hv
   simp at hv o0 o1
   rcases hv with rfl|rfl
   ·exact o0
   ·exact o1
  ·intro k c hk
   match k,hk with
   |0,hk=>exact r0 0 c (by simpa using hk)
   |1,hk=>exact r1 0 c (by simpa using hk)
  ·simp only [DataW.weights,Tryz.underlying125,DataW.weightsEach,List.map_cons,List.map_nil,List.append_nil,List.all_append,Bool.and_eq_true] at hw
   exact s1 hw.2
theorem b18:a9U Int Tryz.prog 27 (fun l=>l.length*Tryz.prog.bytesOf 3<=reachBytes/\∀a∈l,-9223372036854775808<=a/\a<=9223372036854775807):=
 a3K Tryz.underlying27 (a1s Tryz.underlying3) (by kernel_rfl) (by decide)
theorem c2d:a9U (List UInt8) Tryz.prog 22 (fun l=>l.length*Tryz.prog.bytesOf 9<=reachBytes/\∀a∈l,a.length<=reachBytes):=
 a3K Tryz.underlying22 (a9T Tryz.underlying9) (by kernel_rfl) (by decide)
theorem b9g:a9U a4M Tryz.prog 23 (fun l=>l.length*Tryz.prog.bytesOf 125<=reachBytes/\∀a∈l,a.text.length<=reachBytes):=
 a3K Tryz.underlying23 c2c (by kernel_rfl) (by decide)
structure b4X where
 d:a0k
 n:Int
 l:List e3Q
def c5M (p:b4X):AV:=.g [.sl .brw false (a0a p.d.safe),.sl .brw false (a0a p.d.wait),.raw (.int .i64 p.n),.sl .brw false (a0a p.l)]
theorem a03.brw {w:World} {F:Tag->Nat->Prop} {H:Heap} {ρ:Lies} {cl:Bool} {xs:List (List AC)} {v:Value} (h:a03 w F H ρ (.sl .old cl xs) v) (hF:∀b,F .old b->F .brw b):a03 w F H ρ (.sl .brw cl xs) v:=by
 cases h with
 |a08 _ _ _ h=>exact .a08 _ _ _ h
 |sl _ _ _ b o cap sz vs hb hf hcap hcl hr hcell hone hrel=>exact .sl _ _ _ b o cap sz vs hb (hF b hf) hcap hcl hr hcell hone hrel
open Go Go.Proofs
def b9h (H:Heap) (v:Id) (d:a0k):Prop:=∃j1 j2,H v=.arr 25 2 false [[.so j1 0 d.safe.length,.so j2 0 d.wait.length]]/\H j1=.arr 9 1 false (a0a d.safe)/\H j2=.arr 125 2 false (a0a d.wait)
theorem b9h.ext {S:List Id} {H0 H:Heap} {T0 T:Nat} {v:Id} {d:a0k} (h:b9h H0 v d) (he:a3f S H0 T0 H T) (hS:∀i∈S,H0 i=.a0g):b9h H v d:=by
 obtain ⟨j1,j2,h1,h2,h3⟩:=h
 have no:∀{i e sz f rows},H0 i=OK.arr e sz f rows->i ∉ S:=fun h hi=>by rw [hS _ hi] at h;cases h
 exact ⟨j1,j2,he.arr h1 (no h1),he.arr h2 (no h2),he.arr h3 (no h3)⟩
theorem a3f.trans {S S':List Id} {H0 H1 H2:Heap} {T0 T1 T1' T2:Nat} (h:a3f S H0 T0 H1 T1) (h':a3f S' H1 T1' H2 T2) (hT:T1<=T1') (hS:∀i∈S',i∈S):a3f S H0 T0 H2 T2:=by
 refine ⟨fun i hi hn=>?_,h'.2.1,by have:=h.2.2.1;have:=h'.2.2.1;omega,h.2.2.2⟩
 have e1:=h.1 i hi hn
 rw [h'.1 i (by rw [e1];exact hi) (fun q=>hn (hS i q)),e1]
def F6:CT:=F5
attribute [simp] F6
open Go Go.Proofs
theorem b4Y {α:Type} (f:α->Int):∀(l:List α) (n:Int),(∀x∈l,0<=f x)->n<=a8V f n l
 |[],n,_=>Int.le_refl _
 |x::r,n,h=>by
  unfold a8V
  split
  ·have:=b4Y f r (n+f x) fun y hy=>h y (by simp [hy])
   have:=h x (by simp)
   omega
  ·exact Int.le_refl _
theorem a6C {α:Type} (f:α->Int) (B:Int):∀(l:List α) (n:Int),(∀x∈l,0<=f x/\f x<=B)->0<=B->n<=1048576+B->a8V f n l<=max n (1048576+B)
 |[],n,_,_,_=>by rw [a8V];omega
 |x::r,n,h,hB,hn=>by
  unfold a8V
  split
  ·have:=a6C f B r (n+f x) (fun y hy=>h y (by simp [hy])) hB (by have:=h x (by simp);omega)
   have:=h x (by simp)
   omega
  ·omega
theorem a9b (d:a0k) (h1:d.safe.length<281474976710656) (h2:d.wait.length<281474976710656) (h3:∀s∈d.safe,s.length<281474976710656) (h4:∀s∈d.wait,s.text.length<281474976710656) :
  (d.safe.length:Int)/4+d.wait.length<=a1Q d/\a1Q d<=562949954469888:=by
 have a1:=a6C (fun s:List UInt8=>(s.length:Int)/64) 562949953421312 d.safe ((d.safe.length:Int)/4+d.wait.length) (fun x hx=>by have:=h3 x hx;omega) (by omega) (by omega)
 have a2:=b4Y (fun s:List UInt8=>(s.length:Int)/64) d.safe ((d.safe.length:Int)/4+d.wait.length) (fun x hx=>by have:=h3 x hx;simp;omega)
 have b1:=a6C (fun s:a4M=>(s.text.length:Int)/16) 562949953421312 d.wait _ (fun x hx=>by have:=h4 x hx;omega) (by omega) (Int.le_trans a1 (by omega))
 have b2:=b4Y (fun s:a4M=>(s.text.length:Int)/16) d.wait (a8V (fun s:List UInt8=>(s.length:Int)/64) ((d.safe.length:Int)/4+d.wait.length) d.safe) (fun x hx=>by have:=h4 x hx;simp;omega)
 unfold a1Q
 constructor
 ·exact Int.le_trans a2 b2
 ·omega
instance e1b:Arg b4X where
 enc p:=c5M p
 dec|.g [.sl .brw false a,.sl .brw false b,.raw (.int .i64 n),.sl .brw false l]=>(match a4A a,a4A b,a4A l with|some a,some b,some l=>some ⟨⟨a,b⟩,n,l⟩|_,_,_=>none)|_=>none
 a1o {x p} h:=by
  split at h
  ·split at h
   ·rename_i h1 h2 h3
    cases h
    rw [a0O h1,a0O h2,a0O h3]
    rfl
   ·cases h
  ·cases h
@[simp] theorem d5b (p:b4X):Arg.enc p=c5M p:=rfl
end Go.AE
