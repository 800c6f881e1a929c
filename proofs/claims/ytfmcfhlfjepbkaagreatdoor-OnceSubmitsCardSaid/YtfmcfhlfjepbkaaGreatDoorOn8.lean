/- What ops and entries read as. -/
import Derived.Test.YtfmcfhlfjepbkaaGreatDoorOn4
import Derived.Test.YtfmcfhlfjepbkaaGreatDoorOn6
import Derived.Test.YtfmcfhlfjepbkaaGreatDoorOn7
set_option linter.unusedVariables false
set_option linter.unusedSimpArgs false
set_option maxHeartbeats 4000000
set_option maxRecDepth 100000
namespace Go.AE
open Go
def b71 (e:a0k):Prop:=a0H e=true/\(a0j e).2=0
def chunk (B:List UInt8) (i k:Nat):List (List UInt8):=(List.range k).map fun j=>a7N B (i+j)
theorem a6l (B:List UInt8) (i k:Nat):chunk B i (k+1)=a7N B i::chunk B (i+1) k:=by
 simp only [chunk,List.range_succ_eq_map,List.map_cons,List.map_map,Nat.add_zero]
 congr 1
 apply List.map_congr_left
 intro j _
 simp only [Function.comp,Nat.succ_eq_add_one]
 rw [show i+(j+1)=i+1+j by omega]
theorem c4z (B:List UInt8) (i k:Nat):(chunk B i k).length=k:=by simp [chunk]
theorem b1I {B:List UInt8}:∀(k i:Nat),32*(i+k)<=B.length->secs (chunk B i k)
 |0,i,_=>by simp [chunk,secs]
 |k+1,i,h=>by
  rw [a6l]
  intro x hx
  rcases List.mem_cons.1 hx with rfl|hx
  ·exact b9N (by omega)
  ·exact b1I k (i+1) (by omega) x hx
theorem b1J {B:List UInt8}:∀(k i:Nat),32*(i+k)=B.length->(chunk B i k).flatten=B.drop (32*i)
 |0,i,h=>by simp [chunk];omega
 |k+1,i,h=>by
  rw [a6l,List.flatten_cons,b1J k (i+1) (by omega),a7N]
  rw [show 32*(i+1)=32*i+32 by omega,<-List.drop_drop,List.take_append_drop]
def szE (e:a0k):Nat:=(a0j e).1.length/32
def frS (e:a0k):List (List UInt8):=chunk (a0j e).1 0 (szE e)
theorem a4J (e:a0k):(frS e).length=szE e:=c4z _ _ _
theorem a7F {e:a0k} (h:(a0j e).2=0):(a0E e).length<=700/\(a0j e).1=a8b (a03 (a0E e)):=by
 unfold a0j at h ⊢
 split at h
 ·cases h
 ·rename_i c;rw [if_neg c];exact ⟨by omega,rfl⟩
theorem a5X {e:a0k} (h:(a0j e).2=0):1<=szE e/\szE e<=23/\32*szE e=(a0j e).1.length:=by
 obtain ⟨h1,h2,h3⟩:=a8c h
 obtain ⟨h4,h5⟩:=a7F h
 have:=a6B h4
 rw [<-h5] at this
 unfold szE
 omega
theorem b4l {e:a0k} (h:(a0j e).2=0):secs (frS e):=b1I _ _ (by have:=(a5X h).2.2;omega)
theorem a83 {e:a0k} (h:(a0j e).2=0):(frS e).flatten=(a0j e).1:=by
 rw [frS,b1J _ 0 (by have:=(a5X h).2.2;omega)];rfl
theorem b90 {e:a0k} (h:(a0j e).2=0):∃x l,frS e=x::l/\x≠blank:=by
 obtain ⟨h1,h2,h3⟩:=a5X h
 obtain ⟨h4,h5⟩:=a7F h
 obtain ⟨k,hk⟩:∃k,szE e=k+1:=⟨szE e-1,by omega⟩
 refine ⟨a7N (a0j e).1 0,chunk (a0j e).1 1 k,by rw [frS,hk,a6l],fun hb=>?_⟩
 have h0:(a7N (a0j e).1 0)[0]?=(a0j e).1[0]?:=by simp [a7N,List.getElem?_take]
 rw [hb,h5,a8b,a03,if_neg (by omega),a3l h4] at h0
 have hp2:=a8j (e:=e)
 split at h0
 ·simp [blank] at h0
  have:=congrArg UInt8.toNat h0
  simp at this
  omega
 ·simp [blank] at h0
  have:=congrArg UInt8.toNat h0
  simp at this
  omega
def a2j (l:List a0k):List (List UInt8):=l.flatMap frS
theorem a2Y (e:a0k) (l:List a0k):a2j (e::l)=frS e++a2j l:=by simp [a2j]
theorem a84 (l l':List a0k):a2j (l++l')=a2j l++a2j l':=by simp [a2j]
theorem a99 {l:List a0k} (h:∀e∈l,b71 e):secs (a2j l):=by
 intro x hx
 simp only [a2j,List.mem_flatMap] at hx
 obtain ⟨e,he,hx⟩:=hx
 exact b4l (h e he).2 x hx
theorem c7i (l:List a0k) (h:∀e∈l,b71 e):l.length<=(a2j l).length:=by
 induction l with
 |nil=>simp
 |cons e l ih=>
  rw [a2Y,List.length_append,a4J,List.length_cons]
  have:=(a5X (h e (by simp)).2).1
  have:=ih fun x hx=>h x (by simp [hx])
  omega
def stops (R:List (List UInt8)):Prop:=R=[]\/(a0P (R.take 23).flatten).2.2=false
theorem c1d {R:List (List UInt8)} (h:stops R) (k a:Nat):a1J k R a=([],a):=by
 cases k with
 |zero=>rfl
 |succ k=>
  rw [a1J]
  split
  ·rfl
  ·rename_i hne
   rw [if_neg (by simp [h.resolve_left hne])]
theorem b6f:∀(l:List a0k) (k a:Nat) (R:List (List UInt8)),(∀e∈l,b71 e)->secs R->stops R->l.length<=k->a1J k (a2j l++R) a=(l,a+(a2j l).length)
 |[],k,a,R,_,_,hs,_=>by rw [show a2j []=[] from rfl,List.nil_append,c1d hs];rfl
 |e::l,k,a,R,h,hR,hs,hk=>by
  obtain ⟨k,rfl⟩:∃j,k=j+1:=⟨k-1,by simp at hk;omega⟩
  have he:=h e (by simp)
  have hl:∀x∈l,b71 x:=fun x hx=>h x (by simp [hx])
  obtain ⟨z1,z2,z3⟩:=a5X he.2
  have hlen:=a4J e
  have hw:((a2j (e::l)++R).take 23).flatten=(a0j e).1++((a2j l++R).take (23-szE e)).flatten:=by
   rw [a2Y,List.append_assoc,List.take_append,List.take_of_length_le (by omega),List.flatten_append,a83 he.2,hlen]
  have hd:(a2j (e::l)++R).drop (szE e)=a2j l++R:=by
   rw [a2Y,List.append_assoc];exact List.drop_left' hlen
  have hne:a2j (e::l)++R≠[]:=by
   obtain ⟨x,t,hx,_⟩:=b90 he.2
   rw [a2Y,hx];simp
  rw [a1J,if_neg hne,hw,c4v he.1 he.2]
  simp only [if_true]
  rw [show (a0j e).1.length/32=szE e from rfl,hd,b6f l k (a+szE e) R hl hR hs (by simpa using hk),a2Y,List.length_append,hlen]
  simp only [Nat.add_assoc]
theorem a7G:∀(k:Nat) (l:List (List UInt8)) (a:Nat),secs l->∃R,l=a2j (a1J k l a).1++R/\(∀e∈(a1J k l a).1,b71 e)/\(a1J k l a).2=a+(a2j (a1J k l a).1).length
 |0,l,a,_=>⟨l,rfl,by simp [a1J],by simp [a1J,a2j]⟩
 |k+1,l,a,h=>by
  rw [a1J]
  split
  ·exact ⟨l,rfl,by simp,by simp [a2j]⟩
  ·split
   ·rename_i hne hf
    have hfit:b71 (a0P (l.take 23).flatten).1/\(a0P (l.take 23).flatten).2.1=szE (a0P (l.take 23).flatten).1/\∃z,(l.take 23).flatten=(a0j (a0P (l.take 23).flatten).1).1++z:=by
     have hm:=(b1C hf).1
     have hz:=b56 hf
     unfold a0P at hf hm hz ⊢
     cases hq:a2L (l.take 23).flatten with
     |none=>simp [hq] at hf
     |some q=>
      obtain ⟨t,r⟩:=q
      obtain ⟨_,ht7⟩:=a5m hq
      simp only [hq] at hf hm hz ⊢
      by_cases hr:(a2b t).2=true
      ·rw [if_pos hr] at hf hm hz
       rw [if_pos hr]
       refine ⟨⟨hm,?_⟩,rfl,?_⟩
       ·rw [a0j,a7z hr,if_neg (by omega)]
       ·have:(a0j (a2b t).1).1 <+: (l.take 23).flatten:=List.isPrefixOf_iff_prefix.1 hf
        obtain ⟨z,hz⟩:=this
        exact ⟨z,hz.symm⟩
      ·rw [if_neg hr] at hf;cases hf
    obtain ⟨n1,n2,n3⟩:=a7A hf
    rw [a4Z fun x hx=>h x (List.mem_of_mem_take hx),List.length_take] at n2
    generalize a0P (l.take 23).flatten=q at hfit hf n1 n2 n3 ⊢
    obtain ⟨e,n,b⟩:=q
    simp only at hfit hf n1 n2 n3 ⊢
    obtain ⟨hfit,rfl,z,hz⟩:=hfit
    obtain ⟨R,r1,r2,r3⟩:=a7G k (l.drop (szE e)) (a+szE e) fun x hx=>h x (List.mem_of_mem_drop hx)
    have htake:l.take (szE e)=frS e:=by
     have s1:secs (l.take (szE e)):=fun x hx=>h x (List.mem_of_mem_take hx)
     have s2:=b4l hfit.2
     have e1:(l.take (szE e)).flatten=(frS e).flatten:=by
      have:l.take (szE e)=(l.take 23).take (szE e):=by rw [List.take_take,Nat.min_eq_left (by omega)]
      rw [this,a8J (fun x hx=>h x (List.mem_of_mem_take hx)),hz,a83 hfit.2,(a5X hfit.2).2.2]
      simp
     have inj:∀(a b:List (List UInt8)),secs a->secs b->a.length=b.length->a.flatten=b.flatten->a=b:=fun a=>by
      induction a with
      |nil=>intro b _ _ hl _;cases b with
       |nil=>rfl
       |cons y b=>simp at hl
      |cons x a ih=>
       intro b ha hb hl he
       cases b with
       |nil=>simp at hl
       |cons y b=>
        simp only [List.flatten_cons] at he
        have:=List.append_inj he (by rw [ha x (by simp),hb y (by simp)])
        rw [this.1,ih b (fun z hz=>ha z (by simp [hz])) (fun z hz=>hb z (by simp [hz])) (by simpa using hl) this.2]
     exact inj _ _ s1 s2 (by rw [a4J,List.length_take];omega) e1
    refine ⟨R,?_,?_,?_⟩
    ·rw [a2Y,List.append_assoc,<-r1,<-htake,List.take_append_drop]
    ·intro x hx
     rcases List.mem_cons.1 hx with rfl|hx
     ·exact hfit
     ·exact r2 x hx
    ·rw [r3,a2Y,List.length_append,a4J];omega
   ·exact ⟨l,rfl,by simp,by simp [a2j]⟩
theorem b72 (m:Nat):stops (List.replicate m blank):=by
 cases m with
 |zero=>exact .inl rfl
 |succ m=>
  right
  have:∃z,((List.replicate (m+1) blank).take 23).flatten=0::z:=by
   rw [List.replicate_succ,List.take_succ_cons,List.flatten_cons]
   exact ⟨_,rfl⟩
  obtain ⟨z,hz⟩:=this
  rw [hz]
  have:takeN (0::z)=some (0,z):=by
   have:=a5o (n:=0) (by omega) z
   rwa [b9X] at this
  unfold a0P
  have h2:∀t r,a2L (0::z)=some (t,r)->t=[]:=fun t r ht=>by
   unfold a2L at ht
   rw [this] at ht
   simp only at ht
   split at ht
   ·cases ht
   ·split at ht
    ·cases ht;simp
    ·cases ht
  cases hq:a2L (0::z) with
  |none=>rfl
  |some q=>
   obtain ⟨t,r⟩:=q
   obtain rfl:=h2 t r hq
   have:(a2b []).2=false:=by decide +kernel
   simp only [this]
   rfl
def b0a (c:List UInt8) (k:Int):List UInt8:=if k=1 then c else if k=2 then c.take 16++blank.drop 16 else blank
def a2Z (keep:List Int):Nat->List (List UInt8)->List (List UInt8)
 |_,[]=>[]
 |i,c::l=>b0a c (a2r keep i)::a2Z keep (i+1) l
theorem a45 (keep:List Int):∀(l:List (List UInt8)) (i:Nat),(a2Z keep i l).length=l.length
 |[],i=>rfl
 |c::l,i=>by rw [a2Z,List.length_cons,a45 keep l,List.length_cons]
theorem c4A {c:List UInt8} (h:c.length=32) (k:Int):(b0a c k).length=32:=by
 unfold b0a
 split
 ·exact h
 ·split
  ·simp [blank,h]
  ·simp [blank]
theorem a8k (keep:List Int):∀(l:List (List UInt8)) (i:Nat),secs l->secs (a2Z keep i l)
 |[],i,_=>by simp [a2Z,secs]
 |c::l,i,h=>by
  rw [a2Z]
  intro x hx
  rcases List.mem_cons.1 hx with rfl|hx
  ·exact c4A (h c (by simp)) _
  ·exact a8k keep l (i+1) (fun y hy=>h y (by simp [hy])) x hx
theorem b6g (keep:List Int) (B:List UInt8) (at_:Int):∀(k i:Nat) (A D:List (List UInt8)),at_+(i:Int)=(A.length:Int)->a1D keep i (A++(List.replicate k blank++D)) (wsF B at_ i k)=A++(a2Z keep i (chunk B i k)++D)
 |0,i,A,D,_=>by simp [wsF,a1D,chunk,a2Z]
 |k+1,i,A,D,h=>by
  rw [b9M,a6l,a1D,a2Z]
  have ht:b1o (A++(List.replicate (k+1) blank++D)) ⟨at_+(i:Int),a7N B i⟩ (a2r keep i)=(A++[b0a (a7N B i) (a2r keep i)])++(List.replicate k blank++D):=by
   have hat:(at_+(i:Int)).toNat=A.length:=by omega
   have hset:∀x:List UInt8,(A++(List.replicate (k+1) blank++D)).set A.length x=(A++[x])++(List.replicate k blank++D):=fun x=>by
    rw [List.set_append_right _ _ (Nat.le_refl _),Nat.sub_self,List.replicate_succ,List.cons_append,List.set_cons_zero]
    simp
   have hget:(A++(List.replicate (k+1) blank++D)).getD A.length []=blank:=by
    simp [List.getD,List.getElem?_append_right,List.replicate_succ]
   unfold b1o b0a
   simp only [hat]
   split
   ·rw [hset]
   ·split
    ·rw [hget,hset]
    ·rw [List.replicate_succ,List.append_assoc];rfl
  rw [ht,b6g keep B at_ k (i+1) _ D (by simp;omega)]
  simp
theorem b0b {k i:Nat} (h:i<k):a2r (List.replicate k 1) i=1:=by
 simp [a2r,List.getD,h]
theorem b1K (n:Nat):∀(l:List (List UInt8)) (i:Nat),i+l.length<=n->a2Z (List.replicate n 1) i l=l
 |[],i,_=>rfl
 |c::l,i,h=>by
  simp only [List.length_cons] at h
  rw [a2Z,b0b (by omega),b1K n l (i+1) (by omega)]
  rfl
theorem b4m:∀(l:List (List UInt8)),secs l->∀i,l.flatten[i]?=(l[i/32]?).bind fun s=>s[i%32]?
 |[],_,i=>by simp
 |x::l,h,i=>by
  have hx:=h x (by simp)
  rw [List.flatten_cons]
  by_cases hi:i<32
  ·rw [List.getElem?_append_left (by omega),show i/32=0 by omega,show i%32=i by omega];rfl
  ·rw [List.getElem?_append_right (by omega),hx,b4m l (fun y hy=>h y (by simp [hy])),show i/32=(i-32)/32+1 by omega,show i%32=(i-32)%32 by omega];rfl
theorem b91 (keep:List Int):∀(l:List (List UInt8)) (i j:Nat),(a2Z keep i l)[j]?=l[j]?.map fun c=>b0a c (a2r keep (i+j))
 |[],i,j=>by simp [a2Z]
 |c::l,i,0=>by simp [a2Z]
 |c::l,i,j+1=>by
  rw [a2Z,List.getElem?_cons_succ,List.getElem?_cons_succ,b91 keep l (i+1) j,show i+1+j=i+(j+1) by omega]
theorem c4B (keep:List Int) (l:List (List UInt8)) (h:secs l) (z:Nat):f3e (l.flatten++List.replicate z 0) ((a2Z keep 0 l).flatten++List.replicate z 0):=by
 have hs:=a8k keep l 0 h
 have hl1:l.flatten.length=32*l.length:=a4Z h
 have hl2:(a2Z keep 0 l).flatten.length=32*l.length:=by rw [a4Z hs,a45]
 have hbl:∀q,q<32->blank[q]?=some 0:=fun q hq=>by rw [blank,List.getElem?_replicate,if_pos hq]
 refine ⟨by simp [hl1,hl2],fun i=>?_⟩
 by_cases hi:i<32*l.length
 ·have g:∀j,j<32*l.length->((a2Z keep 0 l).flatten++List.replicate z 0)[j]?=(l[j/32]?.map fun c=>b0a c (a2r keep (j/32))).bind fun s=>s[j%32]?:=fun j hj=>by
   rw [List.getElem?_append_left (by omega),b4m _ hs,b91]
   simp
  have g0:∀j,j<32*l.length->(l.flatten++List.replicate z 0)[j]?=l[j/32]?.bind fun s=>s[j%32]?:=fun j hj=>by
   rw [List.getElem?_append_left (by omega),b4m _ h]
  have hc:l[i/32]?=some (l[i/32]'(by omega)):=List.getElem?_eq_getElem (by omega)
  have hcl:=h (l[i/32]'(by omega)) (List.getElem_mem _)
  rw [g i hi,g0 i hi,hc]
  simp only [Option.map_some,Option.bind_some]
  by_cases k1:a2r keep (i/32)=1
  ·left;rw [b0a,if_pos k1]
  by_cases k2:a2r keep (i/32)=2
  ·by_cases h16:i%32<16
   ·left
    rw [b0a,if_neg k1,if_pos k2,List.getElem?_append_left (by simp [hcl];omega),List.getElem?_take,if_pos h16]
   ·right
    intro j hj hji
    have hjl:j<32*l.length:=by omega
    have e1:j/32=i/32:=by omega
    rw [g j hjl,e1,hc]
    simp only [Option.map_some,Option.bind_some]
    have f3v:(l[i/32].take 16).length=16:=by rw [List.length_take,hcl];rfl
    rw [b0a,if_neg k1,if_pos k2,List.getElem?_append_right (by rw [f3v];omega),List.getElem?_drop,f3v,hbl _ (by omega)]
  ·right
   intro j hj hji
   have hjl:j<32*l.length:=by omega
   have e1:j/32=i/32:=by omega
   rw [g j hjl,e1,hc]
   simp only [Option.map_some,Option.bind_some]
   rw [b0a,if_neg k1,if_neg k2,hbl _ (by omega)]
 ·left
  rw [List.getElem?_append_right (by omega),List.getElem?_append_right (by omega),hl1,hl2]
open Go
def a1M:a0r->List a0k->Option a0r
 |r,[]=>some r
 |r,x::l=>if (a1y r x).2=true then a1M (a1y r x).1 l else none
theorem b0c:∀(l:List a0k) (r:a0r) (x:a0k),a1M r (l++[x])=(a1M r l).bind fun r'=>if (a1y r' x).2=true then some (a1y r' x).1 else none
 |[],r,x=>by simp [a1M]
 |y::l,r,x=>by
  rw [List.cons_append,a1M,a1M]
  split
  ·exact b0c l _ x
  ·rfl
theorem a7H:∀(l:List a0k) (r r':a0r) (a:Nat),a1M r l=some r'->a4I r a l=(r',a+(a2j l).length)
 |[],r,r',a,h=>by simp [a1M] at h;subst h;rfl
 |x::l,r,r',a,h=>by
  rw [a1M] at h
  split at h
  ·rename_i hg
   rw [a4I,if_pos hg,a7H l _ r' _ h,a2Y,List.length_append,a4J,Nat.add_assoc];rfl
  ·cases h
theorem b6h:∀(l:List a0k) (r:a0r) (a:Nat),(∃r',a1M r l=some r')\/∃l1 x l2 r1,l=l1++x::l2/\a1M r l1=some r1/\(a1y r1 x).2=false/\a4I r a l=(r1,a+(a2j l1).length)
 |[],r,a=>.inl ⟨r,rfl⟩
 |x::l,r,a=>by
  cases hg:(a1y r x).2
  ·exact .inr ⟨[],x,l,r,rfl,rfl,hg,by rw [a4I,if_neg (by simp [hg])];rfl⟩
  ·rcases b6h l (a1y r x).1 (a+szE x) with ⟨r',h⟩|⟨l1,y,l2,r1,h1,h2,h3,h4⟩
   ·exact .inl ⟨r',by rw [a1M,if_pos hg];exact h⟩
   ·refine .inr ⟨x::l1,y,l2,r1,by rw [h1];rfl,by rw [a1M,if_pos hg];exact h2,h3,?_⟩
    rw [a4I,if_pos hg]
    refine h4.trans ?_
    rw [a2Y,List.length_append,a4J,Nat.add_assoc]
structure a6D (r:a0r) (es:List a0k) (m:Nat):Prop where
 disk:r.disk=⟨a2j es++List.replicate m blank,[]⟩
 fit:∀e∈es,b71 e
 all:a1M a2t es=some ⟨a3c,r.ops,r.ends⟩
 sz:1<=(a2j es).length+m/\(a2j es).length+m<=400
theorem b4n (m:Nat):secs (List.replicate m blank):=fun x hx=>by
 rw [(List.mem_replicate.1 hx).2];rfl
theorem a86 {a b:List (List UInt8)} (h1:secs a) (h2:secs b):secs (a++b):=fun x hx=>by
 rcases List.mem_append.1 hx with h|h
 ·exact h1 x h
 ·exact h2 x h
theorem b73 {l:List (List UInt8)} (h1:1<=l.length) (h2:l.length<=400) (h:secs l):a2d ⟨l,[]⟩=true:=by
 simp only [a2d,Bool.and_eq_true,decide_eq_true_eq,List.all_eq_true]
 exact ⟨⟨⟨⟨h1,h2⟩,by simp⟩,fun x hx=>by simp [a4H,h x hx]⟩,by simp⟩
theorem b6i {es:List a0k} {R:List (List UInt8)} (h:∀e∈es,b71 e) (hR:secs R) (hs:stops R) (h1:1<=(a2j es++R).length) (h2:(a2j es++R).length<=400):a2C ⟨a2j es++R,[]⟩=(es,(a2j es).length,0):=by
 have hm:a2d ⟨a2j es++R,[]⟩=true:=b73 h1 h2 (a86 (a99 h) hR)
 have:=c7i es h
 rw [a2C,if_pos hm,b6f es _ 0 R h hR hs (by simp;omega),Nat.zero_add]
theorem a6D.may {r:a0r} {es:List a0k} {m:Nat} (h:a6D r es m):a2d r.disk=true:=by
 rw [h.disk]
 exact b73 (by simp;have:=h.sz;omega) (by simp;have:=h.sz;omega) (a86 (a99 h.fit) (b4n m))
theorem a6D.load {r:a0r} {es:List a0k} {m:Nat} (h:a6D r es m):a2C r.disk=(es,(a2j es).length,0):=by
 rw [h.disk]
 exact b6i h.fit (b4n m) (b72 m) (by simp;have:=h.sz;omega) (by simp;have:=h.sz;omega)
theorem a6D.told {r:a0r} {es:List a0k} {m:Nat} (h:a6D r es m):a2c r.disk=(⟨a3c,r.ops,r.ends⟩,(a2j es).length):=by
 rw [a2c,h.load,a7H es _ _ 0 h.all,Nat.zero_add]
theorem b6j {r:a0r} {es:List a0k} {m:Nat} (h:a6D r es m):a1P r=true:=by
 unfold a1P
 rw [h.told,h.may]
 simp only [h.disk,decide_true,Bool.true_and,Bool.and_true]
 rw [List.drop_left' rfl]
 simp
theorem a47 {r:a0r} (h:a1P r=true):∃es m,a6D r es m:=by
 obtain ⟨⟨sf,wt⟩,ops,ends⟩:=r
 simp only [a1P,Bool.and_eq_true,decide_eq_true_eq,Bool.not_eq_true'] at h
 obtain ⟨⟨⟨⟨h1,rfl⟩,h3⟩,h4⟩,h5⟩:=h
 obtain ⟨m1,m2,m3⟩:=a1Y h1
 simp only at m1 m2 m3
 obtain ⟨R,r1,r2,r3⟩:=a7G sf.length sf 0 m1
 have hload:a2C ⟨sf,[]⟩=((a1J sf.length sf 0).1,(a1J sf.length sf 0).2,0):=by rw [a2C,if_pos h1]
 have htold:a2c ⟨sf,[]⟩=a4I a2t 0 (a1J sf.length sf 0).1:=by rw [a2c,hload]
 generalize hes:(a1J sf.length sf 0).1=es at *
 have hbl:∀A B,sf=A++B->(a2c ⟨sf,[]⟩).2=A.length->B=List.replicate B.length blank:=fun A B e1 e2=>by
  rw [e2] at h5
  rw [List.any_eq_false] at h5
  rw [e1,List.drop_left' rfl] at h5
  exact List.eq_replicate_of_mem fun b hb=>by simpa using h5 b hb
 rcases b6h es a2t 0 with ⟨r',hr⟩|⟨l1,x,l2,r1',e1,e2,e3,e4⟩
 ·have ht:=a7H es a2t r' 0 hr
  rw [htold,ht] at h3 h4
  have hR:=hbl (a2j es) R r1 (by rw [htold,ht];simp)
  have hin:r'.disk=a3c:=by
   have:=(b3Z ⟨sf,[]⟩).1
   rw [htold,ht] at this;exact this
  refine ⟨es,R.length,⟨?_,r2,?_,?_⟩⟩
  ·rw [<-hR,<-r1]
  ·rw [hr]
   obtain ⟨x,y,z⟩:=r'
   simp only at hin h3 h4
   rw [hin,h3,h4]
  ·rw [r1,List.length_append] at m2 m3;exact ⟨m2,m3⟩
 ·exfalso
  have hx:b71 x:=r2 x (by rw [e1];simp)
  obtain ⟨s,t,hs,hne⟩:=b90 hx.2
  have hB:=hbl (a2j l1) (s::(t++(a2j l2++R))) (by rw [r1,e1,a84,a2Y,hs];simp) (by rw [htold,e4];simp)
  rw [List.length_cons,List.replicate_succ] at hB
  exact hne (List.cons.inj hB).1
structure Ord (r:a0r):Prop where
 tree:a04 r.ops=true
 ends:r.ends.length<=8/\r.ends.Nodup
 site:∀o∈r.ops,o.site<=(r.ends.length:Int)
theorem c4C {r:a0r} (h:Ord r) (x:a0k):Ord (a1y r x).1:=by
 unfold a1y
 split
 ·split
  ·exact h
  ·rename_i c
   rw [not_or] at c
   refine ⟨h.tree,⟨by simp;omega,?_⟩,fun o ho=>?_⟩
   ·simp only
    rw [List.nodup_append]
    refine ⟨h.ends.2,by simp,?_⟩
    intro a ha b hb
    rw [List.mem_singleton.1 hb]
    rintro rfl
    exact c.2 ha
   ·have:=h.site o ho;simp;omega
 ·split
  ·exact h
  ·rename_i c
   rw [not_or] at c
   refine ⟨by simpa using c.2,h.ends,fun o ho=>?_⟩
   rcases List.mem_append.1 ho with ho|ho
   ·exact h.site o ho
   ·rw [List.mem_singleton.1 ho];simp only;omega
theorem f0Y:Ord a2t:=⟨a98,by simp [a2t],by simp [a2t]⟩
theorem b0d:∀(l:List a0k) (r r':a0r),Ord r->a1M r l=some r'->Ord r'
 |[],r,r',h,e=>by simp [a1M] at e;subst e;exact h
 |x::l,r,r',h,e=>by
  rw [a1M] at e
  split at e
  ·exact b0d l _ r' (c4C h x) e
  ·cases e
theorem a6D.ord {r:a0r} {es:List a0k} {m:Nat} (h:a6D r es m):a04 r.ops=true/\(r.ends.length<=8/\r.ends.Nodup)/\∀o∈r.ops,o.site<=(r.ends.length:Int):=by
 have:=b0d es a2t _ f0Y h.all
 exact ⟨this.tree,this.ends,this.site⟩
theorem c1e (r:a0r) (d:a0l) (x:a0k):a1y {r with disk:=d} x=({(a1y r x).1 with disk:=d},(a1y r x).2):=by
 unfold a1y
 simp only
 split<;>split<;>rfl
theorem c1f {r:a0r} {es:List a0k} {m:Nat} (h:a6D r es m) {x:a0k} (hx:a0H x=true):a1O r.disk ((a2j es).length:Int) x =
  if (a0j x).2=0 then if m<szE x then (noD,0,6) else (⟨r.disk.safe,wsF (a0j x).1 ((a2j es).length:Int) 0 (szE x)⟩,((a2j es).length:Int)+(szE x:Int),0) else (noD,0,(a0j x).2):=by
 have hm:=h.may
 unfold a1O
 rw [if_pos ⟨hm,hx,by omega⟩]
 by_cases hf:(a0j x).2=0
 ·obtain ⟨z1,z2,z3⟩:=a5X hf
  have hl:r.disk.safe.length=(a2j es).length+m:=by rw [h.disk];simp
  rw [if_pos hf,if_pos hf,show (a0j x).1.length/32=szE x from rfl]
  by_cases hc:m<szE x
  ·rw [if_pos hc,if_pos (by omega)]
  ·rw [if_neg hc,if_neg (by omega)]
   obtain ⟨a1,a2⟩:=b7F (B:=(a0j x).1) (at_:=((a2j es).length:Int)) (by omega) (szE x) 0 r.disk hm (by omega) (by omega) (by rw [h.disk];simp;omega)
   rw [a1,if_pos rfl]
   congr 1
   rw [h.disk];simp
 ·rw [if_neg hf,if_neg hf]
theorem a7I {d:a0l} (h:a2d d=true) (keep:List Int):a4W d keep=(⟨a1D keep 0 d.safe d.wait,[]⟩,0):=by rw [a4W,if_pos h]
theorem c7j {r:a0r} {es:List a0k} {m:Nat} (h:a6D r es m) {x:a0k} (hf:(a0j x).2=0) (hc:¬m<szE x):a2d ⟨r.disk.safe,wsF (a0j x).1 ((a2j es).length:Int) 0 (szE x)⟩=true:=by
 obtain ⟨z1,z2,z3⟩:=a5X hf
 have hl:r.disk.safe.length=(a2j es).length+m:=by rw [h.disk];simp
 have:=(b7F (B:=(a0j x).1) (at_:=((a2j es).length:Int)) (by omega) (szE x) 0 r.disk h.may (by omega) (by omega) (by rw [h.disk];simp;omega)).2
 rw [h.disk] at this ⊢
 simpa using this
theorem b6k {r:a0r} {es:List a0k} {m:Nat} (h:a6D r es m) {x:a0k} (hf:(a0j x).2=0) (hc:¬m<szE x) (keep:List Int) :
  a4W ⟨r.disk.safe,wsF (a0j x).1 ((a2j es).length:Int) 0 (szE x)⟩ keep=(⟨a2j es++(a2Z keep 0 (frS x)++List.replicate (m-szE x) blank),[]⟩,0):=by
 rw [a7I (c7j h hf hc)]
 simp only [h.disk]
 have:List.replicate m blank=List.replicate (szE x) blank++List.replicate (m-szE x) blank:=by rw [List.replicate_append_replicate];congr 1;omega
 rw [this,b6g keep _ _ (szE x) 0 (a2j es) _ (by simp)]
 rfl
theorem c7k {r:a0r} {es:List a0k} {m:Nat} (h:a6D r es m) {x:a0k} (hf:(a0j x).2=0) (hc:¬m<szE x) :
  a3z ⟨r.disk.safe,wsF (a0j x).1 ((a2j es).length:Int) 0 (szE x)⟩=(⟨a2j (es++[x])++List.replicate (m-szE x) blank,[]⟩,0):=by
 rw [a3z,b6k h hf hc]
 rw [b1K _ _ 0 (by rw [a4J];simp [b3P])]
 rw [a84,List.append_assoc,show a2j [x]=frS x by simp [a2j]]
theorem a6D.snoc {r:a0r} {es:List a0k} {m:Nat} (h:a6D r es m) {x:a0k} (hx:b71 x) (hc:¬m<szE x) (hg:(a1y r x).2=true) {d:a0l} (hd:d=⟨a2j (es++[x])++List.replicate (m-szE x) blank,[]⟩):a6D {(a1y r x).1 with disk:=d} (es++[x]) (m-szE x):=by
 have hgv:=c1e r a3c x
 refine ⟨hd,fun e he=>?_,?_,?_⟩
 ·rcases List.mem_append.1 he with he|he
  ·exact h.fit e he
  ·rw [List.mem_singleton.1 he];exact hx
 ·rw [b0c,h.all,Option.bind_some]
  have e1:(⟨a3c,r.ops,r.ends⟩:a0r)={r with disk:=a3c}:=rfl
  rw [e1,hgv,if_pos hg]
 ·have:=h.sz
  rw [a84,List.length_append,show a2j [x]=frS x by simp [a2j],a4J]
  omega
theorem b6l (at_:Int):∀(l:List (List UInt8)) (i:Nat) (d:a0l),(∀j (s:List UInt8),l[j]?=some s->((i+j:Nat):Int)<at_\/s=blank)->a1N at_ l i d=(d,0)
 |[],i,d,h=>rfl
 |s::l,i,d,h=>by
  rw [a1N,if_pos (by simpa using h 0 s rfl)]
  exact b6l at_ l (i+1) d fun j t ht=>by
   have:=h (j+1) t (by simpa using ht)
   rwa [show i+1+j=i+(j+1) by omega]
theorem c7l {d:a0l} (h:a2d d=true) (hw:d.wait=[]):a3z d=(d,0):=by
 obtain ⟨s,w⟩:=d
 simp only at hw
 subst hw
 rw [a3z,a7I h]
 rfl
theorem c7m {r:a0r} {es:List a0k} {m:Nat} (h:a6D r es m):a10 r.disk ((a2j es).length:Int)=(r.disk,0):=by
 rw [a10,if_pos ⟨h.may,by omega⟩,b6l,if_pos rfl,c7l h.may (by rw [h.disk])]
 intro j s hs
 rw [h.disk] at hs
 simp only at hs
 by_cases hj:j<(a2j es).length
 ·left;omega
 ·right
  rw [List.getElem?_append_right (by omega),List.getElem?_replicate] at hs
  split at hs
  ·exact (Option.some.inj hs).symm
  ·cases hs
theorem a8l (at_:Int) (h0:0<=at_):∀(l:List (List UInt8)) (i:Nat) (d:a0l),a2d d=true->i+l.length<=d.safe.length->d.wait.length+l.length<=400->
  ∃ps:List Nat,a1N at_ l i d=(⟨d.safe,d.wait++ps.map fun (p:Nat)=>(⟨(p:Int),blank⟩:a4o)⟩,0)/\a2d ⟨d.safe,d.wait++ps.map fun (p:Nat)=>(⟨(p:Int),blank⟩:a4o)⟩=true/\
   (∀p∈ps,at_<=(p:Int)/\p<d.safe.length)/\∀j s,l[j]?=some s->((i+j:Nat):Int)<at_\/s=blank\/i+j∈ps
 |[],i,d,hm,_,_=>⟨[],by simp [a1N],by simpa using hm,by simp,by simp⟩
 |s::l,i,d,hm,hl,hw=>by
  simp only [List.length_cons] at hl hw
  rw [a1N]
  by_cases hc:(i:Int)<at_\/s=blank
  ·rw [if_pos hc]
   obtain ⟨ps,p1,p2,p3,p4⟩:=a8l at_ h0 l (i+1) d hm (by omega) (by omega)
   refine ⟨ps,p1,p2,p3,fun j t ht=>?_⟩
   cases j with
   |zero=>
    simp only [List.getElem?_cons_zero,Option.some.injEq] at ht
    subst ht
    rcases hc with hc|hc
    ·left;simpa using hc
    ·right;left;exact hc
   |succ j=>
    have:=p4 j t (by simpa using ht)
    rwa [show i+1+j=i+(j+1) by omega] at this
  ·obtain ⟨m1,m2⟩:=b3O hm (n:=(i:Int)) (s:=blank) rfl (by omega) (by omega) (by omega)
   rw [if_neg hc,m2,if_pos rfl]
   obtain ⟨ps,p1,p2,p3,p4⟩:=a8l at_ h0 l (i+1) ⟨d.safe,d.wait++[⟨(i:Int),blank⟩]⟩ m1 (by simp only;omega) (by simp;omega)
   simp only [List.append_assoc,List.singleton_append] at p1 p2
   refine ⟨i::ps,by simpa using p1,by simpa using p2,fun p hp=>?_,fun j t ht=>?_⟩
   ·rcases List.mem_cons.1 hp with rfl|hp
    ·exact ⟨by rw [not_or] at hc;omega,by omega⟩
    ·exact p3 p hp
   ·cases j with
    |zero=>right;right;simp
    |succ j=>
     have:=p4 j t (by simpa using ht)
     rw [show i+1+j=i+(j+1) by omega] at this
     rcases this with h|h|h
     ·exact .inl h
     ·exact .inr (.inl h)
     ·exact .inr (.inr (List.mem_cons_of_mem _ h))
theorem a8N:∀(ps:List Nat) (i n:Nat) (sf:List (List UInt8)),i+ps.length<=n->a1D (List.replicate n 1) i sf (ps.map fun (p:Nat)=>(⟨(p:Int),blank⟩:a4o))=ps.foldl (fun sf p=>sf.set p blank) sf
 |[],i,n,sf,_=>rfl
 |p::ps,i,n,sf,h=>by
  simp only [List.length_cons] at h
  rw [List.map_cons,a1D,List.foldl_cons,b1o,if_pos (b0b (by omega))]
  simp only [Int.toNat_natCast]
  exact a8N ps (i+1) n _ (by omega)
theorem a6E:∀(ps:List Nat) (sf:List (List UInt8)) (j:Nat),(ps.foldl (fun sf p=>sf.set p blank) sf)[j]?=if j∈ps/\j<sf.length then some blank else sf[j]?
 |[],sf,j=>by simp
 |p::ps,sf,j=>by
  rw [List.foldl_cons,a6E ps,List.length_set]
  by_cases hj:j∈ps/\j<sf.length
  ·rw [if_pos hj,if_pos ⟨List.mem_cons_of_mem _ hj.1,hj.2⟩]
  ·rw [if_neg hj,List.getElem?_set]
   by_cases hp:p=j
   ·subst hp
    rw [if_pos rfl]
    by_cases hl:p<sf.length
    ·rw [if_pos hl,if_pos ⟨List.mem_cons_self,hl⟩]
    ·rw [if_neg hl,if_neg (fun q=>hl q.2),List.getElem?_eq_none (by omega)]
   ·rw [if_neg hp,if_neg]
    rintro ⟨h1,h2⟩
    rcases List.mem_cons.1 h1 with h1|h1
    ·exact hp h1.symm
    ·exact hj ⟨h1,h2⟩
theorem c7n {A B:List (List UInt8)} (h:a2d ⟨A++B,[]⟩=true):a10 ⟨A++B,[]⟩ (A.length:Int)=(⟨A++List.replicate B.length blank,[]⟩,0):=by
 obtain ⟨m1,m2,m3⟩:=a1Y h
 obtain ⟨ps,p1,p2,p3,p4⟩:=a8l (A.length:Int) (by omega) (A++B) 0 ⟨A++B,[]⟩ h (by simp) (by simpa using m3)
 rw [a10,if_pos ⟨h,by omega⟩]
 simp only [List.nil_append] at p1 p2
 rw [p1,if_pos rfl,a3z,a7I p2]
 simp only [List.length_map]
 rw [a8N ps 0 _ _ (by simp)]
 congr 2
 apply List.ext_getElem?
 intro j
 rw [a6E]
 simp only at p3
 by_cases hj:j<(A++B).length
 ·have h4:=p4 j ((A++B)[j]) (List.getElem?_eq_getElem hj)
  by_cases hjA:j<A.length
  ·rw [if_neg (fun q=>by have:=(p3 j q.1).1;omega),List.getElem?_append_left hjA,List.getElem?_append_left hjA]
  ·have hB:(A++List.replicate B.length blank)[j]?=some blank:=by
    rw [List.getElem?_append_right (by omega),List.getElem?_replicate,if_pos (by simp at hj;omega)]
   rw [hB]
   by_cases hp:j∈ps
   ·rw [if_pos ⟨hp,hj⟩]
   ·rw [if_neg (fun q=>hp q.1),List.getElem?_eq_getElem hj]
    rcases h4 with h|h|h
    ·omega
    ·rw [h]
    ·exact (hp (by simpa using h)).elim
 ·rw [if_neg (fun q=>hj q.2),List.getElem?_eq_none (by omega),List.getElem?_eq_none (by simp at hj ⊢;omega)]
def a6u (d:a0l):a0r×Int:=
 if a2d d=false then (a2t,1) else if d.wait≠[] then (a2t,5)
 else if (a10 d ((a2c d).2:Int)).2≠0 then (a2t,(a10 d ((a2c d).2:Int)).2) else ({(a2c d).1 with disk:=(a10 d ((a2c d).2:Int)).1},0)
theorem b6m {r:a0r} {es:List a0k} {m:Nat} (h:a6D r es m):a6u r.disk=(r,0):=by
 unfold a6u
 rw [if_neg (by simp [h.may]),if_neg (by simp [h.disk]),h.told]
 simp only
 rw [c7m h,if_neg (by simp)]
theorem c4D {r:a0r} {es:List a0k} {m:Nat} (h:a6D r es m) {x:a0k} (hx:b71 x) (hc:¬m<szE x) (hg:(a1y r x).2=true) (keep:List Int) :
  a6u ⟨a2j es++(a2Z keep 0 (frS x)++List.replicate (m-szE x) blank),[]⟩=(r,0)\/
  a6u ⟨a2j es++(a2Z keep 0 (frS x)++List.replicate (m-szE x) blank),[]⟩=({(a1y r x).1 with disk:=⟨a2j (es++[x])++List.replicate (m-szE x) blank,[]⟩},0):=by
 obtain ⟨z1,z2,z3⟩:=a5X hx.2
 have hss:=b4l hx.2
 have hts:=a8k keep (frS x) 0 hss
 have htl:(a2Z keep 0 (frS x)).length=szE x:=by rw [a45,a4J]
 have hsz:=h.sz
 by_cases hsame:a2Z keep 0 (frS x)=frS x
 ·right
  have hI:=h.snoc hx hc hg rfl
  have:=b6m hI
  rw [hsame]
  rw [a84,List.append_assoc,show a2j [x]=frS x by simp [a2j]] at this ⊢
  exact this
 ·left
  have hR:secs (a2Z keep 0 (frS x)++List.replicate (m-szE x) blank):=a86 hts (b4n _)
  have hstop:stops (a2Z keep 0 (frS x)++List.replicate (m-szE x) blank):=by
   right
   cases hf:(a0P ((a2Z keep 0 (frS x)++List.replicate (m-szE x) blank).take 23).flatten).2.2
   ·rfl
   exfalso
   have e1:((a2Z keep 0 (frS x)++List.replicate (m-szE x) blank).take 23).flatten=(a2Z keep 0 (frS x)).flatten++List.replicate (32*min (23-szE x) (m-szE x)) 0:=by
    rw [List.take_append,List.take_of_length_le (by omega),htl,List.flatten_append,List.take_replicate]
    congr 1
    generalize min (23-szE x) (m-szE x)=q
    induction q with
    |zero=>rfl
    |succ q ih=>
     rw [List.replicate_succ,List.flatten_cons,ih,show 32*(q+1)=32+32*q by omega,<-List.replicate_append_replicate];rfl
   rw [e1] at hf
   have c1u:=c4B keep (frS x) hss (32*min (23-szE x) (m-szE x))
   rw [a83 hx.2] at c1u
   have:=c4y hx.1 hx.2 c1u hf
   rw [<-a83 hx.2] at this
   have:=(List.append_inj this (by rw [a4Z hts,a4Z hss,a45])).1
   have inj:∀(a b:List (List UInt8)),secs a->secs b->a.length=b.length->a.flatten=b.flatten->a=b:=fun a=>by
    induction a with
    |nil=>intro b _ _ hl _;cases b with
     |nil=>rfl
     |cons y b=>simp at hl
    |cons x a ih=>
     intro b ha hb hl he
     cases b with
     |nil=>simp at hl
     |cons y b=>
      simp only [List.flatten_cons] at he
      have:=List.append_inj he (by rw [ha x (by simp),hb y (by simp)])
      rw [this.1,ih b (fun z hz=>ha z (by simp [hz])) (fun z hz=>hb z (by simp [hz])) (by simpa using hl) this.2]
   exact hsame (inj _ _ hts hss (by rw [a45]) this)
  have hlen:(a2j es++(a2Z keep 0 (frS x)++List.replicate (m-szE x) blank)).length=(a2j es).length+m:=by simp [htl];omega
  have hm:a2d ⟨a2j es++(a2Z keep 0 (frS x)++List.replicate (m-szE x) blank),[]⟩=true:=b73 (by omega) (by omega) (a86 (a99 h.fit) hR)
  have hl:=b6i h.fit hR hstop (by omega) (by omega)
  have ht:a2c ⟨a2j es++(a2Z keep 0 (frS x)++List.replicate (m-szE x) blank),[]⟩=(⟨a3c,r.ops,r.ends⟩,(a2j es).length):=by
   rw [a2c,hl,a7H es _ _ 0 h.all,Nat.zero_add]
  unfold a6u
  rw [if_neg (by simp [hm]),if_neg (by simp),ht]
  simp only
  rw [c7n hm,if_neg (by simp)]
  have:(a2Z keep 0 (frS x)++List.replicate (m-szE x) blank).length=m:=by simp [htl];omega
  rw [this]
  obtain ⟨d,o,n⟩:=r
  have:=h.disk
  simp only at this
  simp only [this]
open Go Go.Proofs
def a1n (d:a0l):List AC:=[.sl .old false (a0a d.safe),.sl .old false (a0a d.wait)]
theorem c7o (r:a0r) (h:a8S r):PEv Tryz.prog 54 [Arg.enc r] (.g (a0u .old r)):=PEv.frz .old (by simp) (d0t r h)
theorem b74 (r:a0r) (h:a8S r):PEv Tryz.prog 17 [Arg.enc r] (.g (a0u .old r)):=PEv.frz .old (by simp) (c08 r h)
def b4o (r:a0l×Int×Int):AV:=.t [(true,a1n r.1),(false,[.raw (.int .i64 r.2.1)]),(false,[.raw (.int .i64 r.2.2)])]
theorem c1g (d:a0l) (at_:Int) (e:a0k) (h1:d.safe.length<1000000) (h2:d.wait.length<1000000) (h3:e.op.text.length<1000000) (h4:e.op.gone.length<1000000) (hat:at_<9223372036854775808):PEv Tryz.prog 107 [Arg.enc d,iv at_,Arg.enc e] (b4o (a1O d at_ e)):=PEv.frz .old (by simp) (b5T d at_ e h1 h2 h3 h4 hat)
def a1F (r:a0l×Int):AV:=.t [(true,a1n r.1),(false,[.raw (.int .i64 r.2)])]
theorem c7p (d:a0l) (h1:d.safe.length<1000000) (h2:d.wait.length<1000000):PEv Tryz.prog 59 [Arg.enc d] (a1F (a3z d)):=PEv.frz .old (by simp) (a9R d h1 h2)
theorem c4E (d:a0l) (at_:Int) (h1:d.safe.length<1000000) (h2:d.wait.length<1000000):PEv Tryz.prog 76 [Arg.enc d,iv at_] (a1F (a10 d at_)):=PEv.frz .old (by simp) (b9G d at_ h1 h2)
theorem d0B (n:Int):PEv Tryz.prog 36 [iv n] (a1F (a9Q n)):=PEv.frz .old (by simp) (b1p n)
theorem d0C (d:a0l) (h1:d.safe.length<1000000) (h2:d.wait.length<1000000):PEv Tryz.prog 84 [Arg.enc d] (.g (a1n d)):=PEv.frz .old (by simp) (b2n d h1 h2)
def b75:List AV->Option (Prop×AV):=t1 a8S fun r:a0r=>.g (a0u .old r)
@[simp] theorem e3a {l:List AV}:b75 l=(t1 a8S fun r:a0r=>.g (a0u .old r)) l:=(rfl)
def b76:List AV->Option (Prop×AV):=t1 (fun d:a0l=>d.safe.length<1000000/\d.wait.length<1000000) fun d:a0l=>.t [(true,a0u .old (a2c d).1),(false,[.raw (.int .i64 (a2c d).2)])]
@[simp] theorem e3b {l:List AV}:b76 l=(t1 (fun d:a0l=>d.safe.length<1000000/\d.wait.length<1000000) fun d:a0l=>.t [(true,a0u .old (a2c d).1),(false,[.raw (.int .i64 (a2c d).2)])]) l:=(rfl)
def b4p:List AV->Option (Prop×AV):=t3 (fun d at_ e=>d.safe.length<1000000/\d.wait.length<1000000/\e.op.text.length<1000000/\e.op.gone.length<1000000/\at_<9223372036854775808) fun (d:a0l) (at_:Int) (e:a0k)=>b4o (a1O d at_ e)
@[simp] theorem d8v {l:List AV}:b4p l=(t3 (fun d at_ e=>d.safe.length<1000000/\d.wait.length<1000000/\e.op.text.length<1000000/\e.op.gone.length<1000000/\at_<9223372036854775808) fun (d:a0l) (at_:Int) (e:a0k)=>b4o (a1O d at_ e)) l:=(rfl)
def b77:List AV->Option (Prop×AV):=t2 (fun d _=>d.safe.length<1000000/\d.wait.length<1000000) fun (d:a0l) (at_:Int)=>a1F (a10 d at_)
@[simp] theorem e3c {l:List AV}:b77 l=(t2 (fun d _=>d.safe.length<1000000/\d.wait.length<1000000) fun (d:a0l) (at_:Int)=>a1F (a10 d at_)) l:=(rfl)
def b78:List AV->Option (Prop×AV):=t1 (fun d:a0l=>d.safe.length<1000000/\d.wait.length<1000000) fun d:a0l=>a1F (a3z d)
@[simp] theorem e3d {l:List AV}:b78 l=(t1 (fun d:a0l=>d.safe.length<1000000/\d.wait.length<1000000) fun d:a0l=>a1F (a3z d)) l:=(rfl)
def b79:List AV->Option (Prop×AV):=t1 (fun _=>True) fun n:Int=>a1F (a9Q n)
@[simp] theorem e3e {l:List AV}:b79 l=(t1 (fun _=>True) fun n:Int=>a1F (a9Q n)) l:=(rfl)
def b8a:List AV->Option (Prop×AV):=t1 (fun d:a0l=>d.safe.length<1000000/\d.wait.length<1000000) fun d:a0l=>.g (a1n d)
@[simp] theorem e3f {l:List AV}:b8a l=(t1 (fun d:a0l=>d.safe.length<1000000/\d.wait.length<1000000) fun d:a0l=>.g (a1n d)) l:=(rfl)
def b8b:List AV->Option (Prop×AV):=t1 (fun d:a0l=>d.safe.length<1000000/\d.wait.length<1000000) fun d:a0l=>bv (a2d d)
@[simp] theorem e3g {l:List AV}:b8b l=(t1 (fun d:a0l=>d.safe.length<1000000/\d.wait.length<1000000) fun d:a0l=>bv (a2d d)) l:=(rfl)
def b8c:List AV->Option (Prop×AV):=t2 (fun r m=>b1t r/\okM m) fun (r:a0r) (m:a1A)=>bv (a4j r m)
@[simp] theorem e3h {l:List AV}:b8c l=(t2 (fun r m=>b1t r/\okM m) fun (r:a0r) (m:a1A)=>bv (a4j r m)) l:=(rfl)
def FWb:CT:=(54,.pu b75)::(75,.pu b76)::(107,.pu b4p)::(76,.pu b77)::(59,.pu b78)::(36,.pu b79)::(84,.pu b8a)::(74,.pu b8b)::(53,.pu b8c)::FWa
theorem c4F:a1k Tryz.prog FWb:=⟨a0n fun r h=>c7o r h,
 a0n fun d h=>c4i d h.1 h.2,
 a6w fun d at_ e h=>c1g d at_ e h.1 h.2.1 h.2.2.1 h.2.2.2.1 h.2.2.2.2,
 a0R fun d at_ h=>c4E d at_ h.1 h.2,
 a0n fun d h=>c7p d h.1 h.2,
 a0n fun n _=>d0B n,
 a0n fun d h=>d0C d h.1 h.2,
 a0n fun d h=>c3C d h.1 h.2,
 a0R fun r m h=>d0w r m h.1 h.2,c8s⟩
@[simp] theorem d8w:a0b FWb 54=some (.pu b75):=(rfl)
@[simp] theorem d8x:a0b FWb 75=some (.pu b76):=(rfl)
@[simp] theorem d3m:a0b FWb 107=some (.pu b4p):=(rfl)
@[simp] theorem d8y:a0b FWb 76=some (.pu b77):=(rfl)
@[simp] theorem d8z:a0b FWb 59=some (.pu b78):=(rfl)
@[simp] theorem d8A:a0b FWb 36=some (.pu b79):=(rfl)
@[simp] theorem d8B:a0b FWb 84=some (.pu b8a):=(rfl)
@[simp] theorem d8C:a0b FWb 74=some (.pu b8b):=(rfl)
@[simp] theorem d8D:a0b FWb 53=some (.pu b8c):=(rfl)
@[simp] theorem e3i {n:Nat} (h:(n==54||n==75||n==107||n==76||n==59||n==36||n==84||n==74||n==53)=false):a0b FWb n=a0b FWa n:=by
 simp only [Bool.or_eq_false_iff,beq_eq_false_iff_ne,ne_eq] at h
 simp [FWb,a0b,h]
def a62 (r:a0r) (x:a0k):a0l×Int:=((a1O r.disk ((a2c r.disk).2:Int) x).1,(a1O r.disk ((a2c r.disk).2:Int) x).2.2)
theorem d8E (r:a0r) (x:a0k) (h:b1t r) (h1:x.op.text.length<1000000) (h2:x.op.gone.length<1000000):PEv Tryz.prog 56 [Arg.enc r,Arg.enc x] (a1F (a62 r x)):=by
 have ha:=b9R r.disk
 obtain ⟨g1,g2,g3,g4,g5⟩:=h
 have hat:((a2c r.disk).2:Int)<9223372036854775808:=by omega
 refine a3G mixed c4F Tryz.func56 f6c f6d (by kernel_rfl) (by simp [a1F,a1n]) (by simp [a0u,a0q,a0f]) ?_
 unfold a62
 generalize hT:a2c r.disk=T at *
 obtain ⟨rt,at_⟩:=T
 simp only at hat
 generalize hR:a1O r.disk (at_:Int) x=R
 obtain ⟨d,a,e⟩:=R
 simp [s56,a0u,a0q,a0f,g1,g2,hT,hat,h1,h2,hR,b4o,a1n,a1F]
 refine a0A (mkS [(4,.c (.pt (1,1) 0 0)),(5,iv e)] [.var (1,1) 25 (a1n d)]) (a0c rfl ?_) ?_<;>simp [a1n]
theorem d0D (n:Int):PEv Tryz.prog 42 [iv n] (.t [(true,a0u .old ⟨(a9Q n).1,[],[]⟩),(false,[.raw (.int .i64 (a9Q n).2)])]):=by
 refine a3G mixed c4F Tryz.func42 f5S f5T (by kernel_rfl) (by simp [a0u]) (by simp) ?_
 generalize hR:a9Q n=R
 simp [s42,hR,a1F,a1n]
 refine a0A (mkS [(2,.c (.pt (1,1) 0 0)),(3,iv R.2)] [.var (1,1) 29 (a0u .old ⟨R.1,[],[]⟩)]) (a0c rfl ?_) ?_<;>simp [a0u]
def a1s (r:a0r) (m:a1A):a0r×a1A×Int:=
 if a4j r m=true then
  if (a0x r m).2.1=true then
   if (a62 r (a0x r m).1).2=0 then
    ({(a1y r (a0x r m).1).1 with disk:=(a3z (a62 r (a0x r m).1).1).1},
     if (a0x r m).1.join=true then a14 {(a1y r (a0x r m).1).1 with disk:=(a3z (a62 r (a0x r m).1).1).1} m.a0N else a2s {(a1y r (a0x r m).1).1 with disk:=(a3z (a62 r (a0x r m).1).1).1} m.known,0)
   else (r,a3H m 6,0)
  else (r,(a0x r m).2.2,0)
 else (a2t,b0H,1)
def a5p (r:a0r) (m:a1A):a0l×Int:=
 if a4j r m=true then if (a0x r m).2.1=true/\(a62 r (a0x r m).1).2=0 then ((a62 r (a0x r m).1).1,0) else (r.disk,0) else (a3c,1)
open Go
theorem a7J {r:a0r} {m:a1A} (h:a4j r m=true):a1P r=true/\(∀o∈m.ops,a0s o=true)/\(m.kind=1\/m.kind=3\/m.kind=4)/\a95 m=true:=by
 simp only [a4j,a6Z,Bool.and_eq_true,Bool.or_eq_true,decide_eq_true_eq,Bool.not_eq_true',List.any_eq_false] at h
 obtain ⟨⟨h1,h2,h3⟩,h4⟩:=h
 refine ⟨h1,fun o ho=>by simpa using h2 o ho,?_,h3⟩
 rcases h4 with (h4|h4)|h4
 ·exact .inl h4
 ·exact .inr (.inl h4)
 ·exact .inr (.inr h4)
theorem c4G {m:a1A} (h:a95 m=true) (hk:m.kind=1):1<=m.a0N/\m.a0N<=268435456/\m.ops=[]/\m.site=0/\m.known=0/\m.seq=0/\m.err=0:=by
 rw [a95,if_pos hk] at h
 simp only [b0I,Bool.and_eq_true,decide_eq_true_eq] at h
 obtain ⟨⟨⟨⟨⟨⟨h1,h2⟩,h3⟩,h4⟩,h5⟩,h6⟩,h7⟩:=h
 exact ⟨h1,h2,h3,h4,h5,h6,h7⟩
theorem d0E {m:a1A} (h:a95 m=true) (hk:m.kind=3):1<=m.site/\m.site<=8/\0<=m.known/\m.known<=40/\m.ops=[]:=by
 rw [a95,if_neg (by omega),if_neg (by omega),if_pos hk] at h
 simp only [a3d,countB,Bool.and_eq_true,decide_eq_true_eq] at h
 obtain ⟨⟨⟨⟨⟨⟨h1,h2⟩,h3,h4⟩,h5⟩,_⟩,_⟩,_⟩:=h
 exact ⟨h1,h2,h3,h4,h5⟩
theorem c4H {m:a1A} (h:a95 m=true) (hk:m.kind=4):1<=m.site/\m.site<=8/\0<=m.known/\m.known<=40/\∃o,m.ops=[o]:=by
 rw [a95,if_neg (by omega),if_neg (by omega),if_neg (by omega),if_pos hk] at h
 simp only [a3d,countB,Bool.and_eq_true,decide_eq_true_eq] at h
 obtain ⟨⟨⟨⟨⟨⟨h1,h2⟩,h3,h4⟩,h5⟩,_⟩,_⟩,_⟩:=h
 refine ⟨h1,h2,h3,h4,?_⟩
 rcases hm:m.ops with _|⟨o,_|⟨p,l⟩⟩
 ·simp [hm] at h5
 ·exact ⟨o,rfl⟩
 ·rw [hm] at h5;simp at h5;omega
theorem c4I {r:a0r} {m:a1A} {o:OpV} (h:(b59 r m o).1=true):o.site=m.site/\a04 (r.ops++[o])=true/\b59 r m o=(true,b0H)/\o.seq=1+(a1K m.site r.ops:Int):=by
 unfold b59 at h ⊢
 split at h
 ·rename_i c1
  rw [if_pos c1]
  split at h
  ·cases h
  ·rename_i c2
   rw [if_neg c2]
   split at h
   ·cases h
   ·rename_i c3
    rw [if_neg c3]
    split at h
    ·rename_i c4
     rw [if_pos c4]
     exact ⟨c1,c4,rfl,by omega⟩
    ·split at h<;>cases h
 ·cases h
theorem a8m {r:a0r} {m:a1A} (hf:a4j r m=true) (ha:(a0x r m).2.1=true):a0H (a0x r m).1=true/\(a1y r (a0x r m).1).2=true/\
  ((m.kind=1/\(a0x r m).1=⟨true,m.a0N,a0V⟩/\m.a0N ∉ r.ends/\r.ends.length<8)\/(m.kind=4/\∃o,m.ops=[o]/\(a0x r m).1=⟨false,0,o⟩/\o.site=m.site/\m.site<=(r.ends.length:Int)/\a04 (r.ops++[o])=true/\o.seq=1+(a1K m.site r.ops:Int))):=by
 obtain ⟨h1,h2,h3,h4⟩:=a7J hf
 unfold a0x at ha ⊢
 split at ha
 ·rename_i k1
  rw [if_pos k1]
  obtain ⟨n1,n2,_⟩:=c4G h4 k1
  split at ha
  ·cases ha
  ·rename_i c1
   rw [if_neg c1]
   split at ha
   ·cases ha
   ·rename_i c2
    rw [if_neg c2]
    have e1:a0H ⟨true,m.a0N,a0V⟩=true:=by
     rw [a0H,if_pos rfl,a4y]
     simp [n1,n2]
    refine ⟨e1,?_,.inl ⟨k1,rfl,c1,by omega⟩⟩
    rw [a1y,if_pos rfl,if_neg (by rintro (h|h);omega;exact c1 h)]
 ·rename_i k1
  rw [if_neg k1]
  split at ha
  ·cases ha
  ·rename_i c1
   rw [if_neg c1]
   split at ha
   ·cases ha
   ·rename_i k3
    rw [if_neg k3]
    have k4:m.kind=4:=by rcases h3 with h|h|h<;>first|exact h|contradiction
    obtain ⟨s1,s2,s3,s4,o,ho⟩:=c4H h4 k4
    have hd:m.ops.headD a0V=o:=by rw [ho];rfl
    rw [b6a,hd] at ha
    rw [hd]
    obtain ⟨t1,t2,t3,t4⟩:=c4I ha
    have hm:=h2 o (by rw [ho];simp)
    refine ⟨by rw [a0H,if_neg (by simp)];simp [hm],?_,.inr ⟨k4,o,ho,rfl,t1,by omega,t2,t4⟩⟩
    rw [a1y,if_neg (by simp),if_neg (by rintro (h|h);simp only at h;omega;simp only at h;rw [h] at t2;cases t2)]
inductive f7o (r:a0r) (m:a1A) (es:List a0k) (k:Nat):Prop
 |none (h:(a0x r m).2.1=false) (e:a1s r m=(r,(a0x r m).2.2,0)) (e2:a5p r m=(r.disk,0))
 |full (h:(a0x r m).2.1=true) (hp:(a62 r (a0x r m).1).2≠0) (e:a1s r m=(r,a3H m 6,0)) (e2:a5p r m=(r.disk,0))
 |adds (h:(a0x r m).2.1=true) (hp:a62 r (a0x r m).1=(⟨r.disk.safe,wsF (a0j (a0x r m).1).1 ((a2j es).length:Int) 0 (szE (a0x r m).1)⟩,0)) (hx:b71 (a0x r m).1) (hc:¬k<szE (a0x r m).1)
   (hs:a3z (a62 r (a0x r m).1).1=(⟨a2j (es++[(a0x r m).1])++List.replicate (k-szE (a0x r m).1) blank,[]⟩,0))
   (hI:a6D (a1s r m).1 (es++[(a0x r m).1]) (k-szE (a0x r m).1))
   (e0:(a1s r m).1={(a1y r (a0x r m).1).1 with disk:=⟨a2j (es++[(a0x r m).1])++List.replicate (k-szE (a0x r m).1) blank,[]⟩})
   (e:a1s r m=((a1s r m).1,if (a0x r m).1.join=true then a14 (a1s r m).1 m.a0N else a2s (a1s r m).1 m.known,0)) (e2:a5p r m=((a62 r (a0x r m).1).1,0))
theorem took {r:a0r} {m:a1A} (hf:a4j r m=true) {es:List a0k} {k:Nat} (hI:a6D r es k):f7o r m es k:=by
 cases ha:(a0x r m).2.1
 ·exact .none ha (by rw [a1s,if_pos hf,if_neg (by simp [ha])]) (by rw [a5p,if_pos hf,if_neg (by simp [ha])])
 ·obtain ⟨hm,hg,_⟩:=a8m hf ha
  have hpv:a62 r (a0x r m).1=((a1O r.disk ((a2j es).length:Int) (a0x r m).1).1,(a1O r.disk ((a2j es).length:Int) (a0x r m).1).2.2):=by rw [a62,hI.told]
  have hap:=c1f hI hm
  by_cases hfr:(a0j (a0x r m).1).2=0
  ·by_cases hc:k<szE (a0x r m).1
   ·rw [if_pos hfr,if_pos hc] at hap
    have:(a62 r (a0x r m).1).2≠0:=by rw [hpv,hap];simp
    exact .full ha this (by rw [a1s,if_pos hf,if_pos ha,if_neg this]) (by rw [a5p,if_pos hf,if_neg (fun q=>this q.2)])
   ·rw [if_pos hfr,if_neg hc] at hap
    have hpt:a62 r (a0x r m).1=(⟨r.disk.safe,wsF (a0j (a0x r m).1).1 ((a2j es).length:Int) 0 (szE (a0x r m).1)⟩,0):=by rw [hpv,hap]
    have hs:a3z (a62 r (a0x r m).1).1=(⟨a2j (es++[(a0x r m).1])++List.replicate (k-szE (a0x r m).1) blank,[]⟩,0):=by rw [hpt];exact c7k hI hfr hc
    have he:a1s r m=({(a1y r (a0x r m).1).1 with disk:=(a3z (a62 r (a0x r m).1).1).1},
     if (a0x r m).1.join=true then a14 {(a1y r (a0x r m).1).1 with disk:=(a3z (a62 r (a0x r m).1).1).1} m.a0N else a2s {(a1y r (a0x r m).1).1 with disk:=(a3z (a62 r (a0x r m).1).1).1} m.known,0):=by
     rw [a1s,if_pos hf,if_pos ha,if_pos (by rw [hpt])]
    have h1:(a1s r m).1={(a1y r (a0x r m).1).1 with disk:=(a3z (a62 r (a0x r m).1).1).1}:=by rw [he]
    refine .adds ha hpt ⟨hm,hfr⟩ hc hs ?_ ?_ (by rw [h1];exact he) (by rw [a5p,if_pos hf,if_pos ⟨ha,by rw [hpt]⟩])
    ·rw [h1,hs]
     exact hI.snoc ⟨hm,hfr⟩ hc hg rfl
    ·rw [h1,hs]
  ·rw [if_neg hfr] at hap
   have:(a62 r (a0x r m).1).2≠0:=by rw [hpv,hap];exact hfr
   exact .full ha this (by rw [a1s,if_pos hf,if_pos ha,if_neg this]) (by rw [a5p,if_pos hf,if_neg (fun q=>this q.2)])
theorem b6n {o:OpV} (h:a0s o=true) (h1:o.text.length<1000000):o.gone.length<=200/\okP o:=by
 have hg:o.gone.length<=200:=by
  by_cases hk:o.kind=1
  ·have:=(a6i h hk).2.2.1
   simp only [a38,Bool.and_eq_true,decide_eq_true_eq] at this
   exact this.2
  ·rw [(a1a h hk).2.2.2];simp
 exact ⟨hg,b5R h h1 (by omega)⟩
theorem a8n {r:a0r} {es:List a0k} {k:Nat} (hI:a6D r es k):a8S r/\(∀o∈r.ops,okP o)/\a3Y r.ops<=200/\r.ops.length<=40/\r.ends.length<=8/\r.disk.safe.length<=400:=by
 obtain ⟨t1,⟨t2,t3⟩,t4⟩:=hI.ord
 obtain ⟨f1,f2,f3,f4⟩:=a5W t1
 have hsz:=hI.sz
 have htx:∀o∈r.ops,o.text.length<=700:=by
  have key:∀(l:List a0k) (a b:a0r),(∀e∈l,b71 e)->(∀o∈a.ops,o.text.length<=700)->a1M a l=some b->∀o∈b.ops,o.text.length<=700:=fun l=>by
   induction l with
   |nil=>intro a b _ h e;simp [a1M] at e;subst e;exact h
   |cons x l ih=>
    intro a b hf h e
    rw [a1M] at e
    split at e
    ·refine ih _ b (fun y hy=>hf y (by simp [hy])) ?_ e
     have hx:=hf x (by simp)
     have hxt:x.join=false->x.op.text.length<=700:=fun hj=>by
      have hp:=(a7F hx.2).1
      by_cases hk:x.op.kind=1
      ·have:=a6k hj hk;omega
      ·have hm:=hx.1
       rw [a0H,if_neg (by simp [hj])] at hm
       simp only [Bool.and_eq_true] at hm
       rw [(a1a hm.2 hk).2.2.1];simp
     unfold a1y
     split
     ·split<;>exact h
     ·rename_i hj
      split
      ·exact h
      ·intro o ho
       rcases List.mem_append.1 ho with ho|ho
       ·exact h o ho
       ·rw [List.mem_singleton.1 ho];exact hxt (by simpa using hj)
    ·cases e
  exact key es a2t ⟨a3c,r.ops,r.ends⟩ hI.fit (by simp [a2t]) hI.all
 have hok:∀o∈r.ops,o.gone.length<=200/\okP o:=fun o ho=>b6n (f3 o ho) (by have:=htx o ho;omega)
 have hd:r.disk.safe.length=(a2j es).length+k/\r.disk.wait=[]:=by rw [hI.disk];simp
 refine ⟨⟨by omega,by rw [hd.2];simp,by omega,by omega,fun o ho=>⟨by have:=htx o ho;omega,by have:=(hok o ho).1;omega⟩⟩,fun o ho=>(hok o ho).2,f2,f1,t2,by omega⟩
open Go Go.Proofs
def b8d:List AV->Option (Prop×AV):=t2 (fun r x=>b1t r/\x.op.text.length<1000000/\x.op.gone.length<1000000) fun (r:a0r) (x:a0k)=>a1F (a62 r x)
@[simp] theorem e3j {l:List AV}:b8d l=(t2 (fun r x=>b1t r/\x.op.text.length<1000000/\x.op.gone.length<1000000) fun (r:a0r) (x:a0k)=>a1F (a62 r x)) l:=(rfl)
def FWc:CT:=(56,.pu b8d)::FWb
theorem c4J:a1k Tryz.prog FWc:=⟨a0R fun r x h=>d8E r x h.1 h.2.1 h.2.2,c4F⟩
@[simp] theorem d8F:a0b FWc 56=some (.pu b8d):=(rfl)
@[simp] theorem e3k {n:Nat} (h:(n==56)=false):a0b FWc n=a0b FWb n:=by
 simp only [Bool.or_eq_false_iff,beq_eq_false_iff_ne,ne_eq] at h
 simp [FWc,a0b,h]
@[simp] theorem e3l (a:List (List UInt8)) (c:List OpV) (d:List Int):Arg.dec (.g [.sl .brw false (a0a a),.sl .brw false [],.sl .brw false (a0a c),.sl .brw false (a0a d)])=some (a0r.mk ⟨a,[]⟩ c d):=d0o a [] c d
theorem c1h (d:a0l):∀o∈(a2c d).1.ops,o.text.length<1000000/\o.gone.length<1000000:=by
 have key:∀(l:List a0k) (r:a0r) (a:Nat),(∀e∈l,e.op.text.length<1000000/\e.op.gone.length<1000000)->(∀o∈r.ops,o.text.length<1000000/\o.gone.length<1000000)->∀o∈(a4I r a l).1.ops,o.text.length<1000000/\o.gone.length<1000000:=fun l=>by
  induction l with
  |nil=>intro r a _ h;exact h
  |cons x l ih=>
   intro r a hl h
   rw [a4I]
   split
   ·refine ih _ _ (fun y hy=>hl y (by simp [hy])) ?_
    unfold a1y
    split
    ·split<;>exact h
    ·split
     ·exact h
     ·intro o ho
      rcases List.mem_append.1 ho with ho|ho
      ·exact h o ho
      ·rw [List.mem_singleton.1 ho];exact hl x (by simp)
   ·exact h
 refine key _ _ _ (fun e he=>?_) (by simp [a2t])
 obtain ⟨m1,m2⟩:=a94 d e he
 exact a8g m1 m2
theorem c1i (d:a0l) (at_:Int):(a10 d at_).1.safe.length<=d.safe.length/\(a10 d at_).1.wait.length=0:=by
 have key:∀(l:List (List UInt8)) (i:Nat) (e:a0l),(a1N at_ l i e).1.safe.length<=e.safe.length:=fun l=>by
  induction l with
  |nil=>intro i e;exact Nat.le_refl _
  |cons s l ih=>
   intro i e
   rw [a1N]
   split
   ·exact ih _ _
   ·split
    ·exact Nat.le_trans (ih _ _) (b3i e i blank).1
    ·simp [noD]
 unfold a10
 split
 ·split
  ·unfold a3z a4W
   split
   ·simp only [a3K]
    exact ⟨key _ _ _,rfl⟩
   ·simp
  ·simp [noD]
 ·simp [noD]
theorem b1L {r:a0r} {m:a1A} (h:a4j r m=true) (hm:okM m):PEv Tryz.prog 55 [.g (a0u .old r),.g (a0p .old m)] (.t [(true,a0q .old (a0x r m).1),(false,[.raw (.bool (a0x r m).2.1)]),(true,a0p .old (a0x r m).2.2)]):=by
 obtain ⟨h1,h2,h3,h4⟩:=a7J h
 obtain ⟨es,k,hI⟩:=a47 h1
 obtain ⟨g1,g2,g3,g4,g5,g6⟩:=a8n hI
 have hk:0<=m.known/\(m.kind≠1->m.kind≠3->m.ops≠[]):=by
  rcases h3 with k1|k3|k4
  ·have:=c4G h4 k1;exact ⟨by omega,fun q=>(q k1).elim⟩
  ·have:=d0E h4 k3;exact ⟨by omega,fun _ q=>(q k3).elim⟩
  ·obtain ⟨s1,s2,s3,s4,o,ho⟩:=c4H h4 k4;exact ⟨by omega,fun _ _=>by rw [ho];simp⟩
 exact c7b r m g1.l g2 (by omega) hm hk.2 hk.1
theorem b0e {r:a0r} {m:a1A} (h:a4j r m=true) (hm:okM m):(a0x r m).1.op.text.length<1000000/\(a0x r m).1.op.gone.length<1000000:=by
 have z:zeroE.op.text.length<1000000/\zeroE.op.gone.length<1000000:=by simp [zeroE,a0V]
 have hd:(m.ops.headD a0V).text.length<1000000/\(m.ops.headD a0V).gone.length<1000000:=by
  rcases hm2:m.ops with _|⟨o,l⟩
  ·simp [a0V]
  ·exact hm.2 o (by rw [hm2];simp)
 unfold a0x
 repeat' split
 all_goals first|exact z|exact hd|(simp [a0V];done)
theorem b4q (r:a0r) (m:a1A) (h:a8S r) (hm:okM m):PEv Tryz.prog 18 [.g (a0u .old r),.g (a0p .old m)] (.t [(true,a0u .old (a1s r m).1),(true,a0p .old (a1s r m).2.1),(false,[.raw (.int .i64 (a1s r m).2.2)])]):=by
 have hl:=h.l
 obtain ⟨⟨sf,wt⟩,ops,ends⟩:=r
 obtain ⟨a1,a2,a3,a4,a5,a6,l⟩:=m
 refine a3G mixed c4J Tryz.func18 f5E f5F (by kernel_rfl) (by simp [a0u,a0p,a0y]) (by simp [a0u,a0p,a0y]) ?_
 generalize hR:a1s ⟨⟨sf,wt⟩,ops,ends⟩ ⟨a1,a2,a3,a4,a5,a6,l⟩=R
 cases hf:a4j ⟨⟨sf,wt⟩,ops,ends⟩ ⟨a1,a2,a3,a4,a5,a6,l⟩
 ·rw [a1s,if_neg (by simp [hf])] at hR
  subst hR
  simp [s18,a0u,a0p,a0y,hl,hm,hf]
  refine a0A (mkS [(4,.c (.pt (1,1) 0 0)),(5,.c (.pt (1,2) 0 0)),(6,iv 1)] [.var (1,1) 29 (a0u .old a2t),.var (1,2) 38 (a0p .old b0H)]) (a0c rfl ?_) ?_<;>simp [a0u,a2t,a3c,a0p,a0y,b0H]
 obtain ⟨h1,h2,h3,h4⟩:=a7J hf
 obtain ⟨es,k,hI⟩:=a47 h1
 have hae:=b1L hf hm
 have hsm:=b0e hf hm
 have hT:=took hf hI
 have hgo:=b9J ⟨⟨sf,wt⟩,ops,ends⟩ (a0x ⟨⟨sf,wt⟩,ops,ends⟩ ⟨a1,a2,a3,a4,a5,a6,l⟩).1 hl ⟨Nat.lt_trans hsm.1 (by omega),Nat.lt_trans hsm.2 (by omega)⟩
 have hkn:0<=a4:=by
  rcases h3 with k1|k3|k4
  ·have:=c4G h4 k1;simp only at this;omega
  ·have:=d0E h4 k3;simp only at this;omega
  ·obtain ⟨s1,s2,s3,s4,o,ho⟩:=c4H h4 k4;exact s3
 simp [s18,a0u,a0p,a0y,hl,hm,hf,h]
 refine a1f (args':=[.g (a0u .brw ⟨⟨sf,wt⟩,ops,ends⟩),.g (a0p .brw ⟨a1,a2,a3,a4,a5,a6,l⟩)]) ?_ hae (by simp [a0u,a0p,a0y,a0q,a0f]) (by simp [a0u,a0p,a0y,a0q,a0f]) ?_
 ·simp [a0u,a0p,a0y]
 rcases hT with ⟨g1,e,_⟩|⟨g1,hp,e,_⟩|⟨g1,hp,hx,hc,hs,hI',e0,e,_⟩
 ·rw [e] at hR
  subst hR
  generalize a0x ⟨⟨sf,wt⟩,ops,ends⟩ ⟨a1,a2,a3,a4,a5,a6,l⟩=V at *
  obtain ⟨x,b,y⟩:=V
  simp only at g1
  subst g1
  simp [a0u,a0p,a0y,a0q,a0f]
  refine a0A (mkS [(4,.c (.pt (1,1) 0 0)),(5,.c (.pt (1,2) 0 0)),(6,iv 0)] [.var (1,1) 29 (a0u .old ⟨⟨sf,wt⟩,ops,ends⟩),.var (1,2) 38 (a0p .old y)]) (a0c rfl ?_) ?_<;>simp [a0u,a0p,a0y]
 ·rw [e] at hR
  subst hR
  generalize a0x ⟨⟨sf,wt⟩,ops,ends⟩ ⟨a1,a2,a3,a4,a5,a6,l⟩=V at *
  obtain ⟨x,b,y⟩:=V
  simp only at g1 hp hsm
  subst g1
  have hp':decide ((a62 ⟨⟨sf,wt⟩,ops,ends⟩ x).2=0)=false:=by simp [hp]
  simp [a0u,a0p,a0y,a0q,a0f,hl,hsm,a1F,a1n,hp]
  refine a0A (mkS [(4,.c (.pt (1,1) 0 0)),(5,.c (.pt (1,2) 0 0)),(6,iv 0)] [.var (1,1) 29 (a0u .old ⟨⟨sf,wt⟩,ops,ends⟩),.var (1,2) 38 (a0p .old (a3H ⟨a1,a2,a3,a4,a5,a6,l⟩ 6))]) (a0c rfl ?_) ?_<;>simp [a0u,a0p,a0y]
 ·rw [e] at hR
  obtain ⟨q1,q2,q3,q4,q5,q6⟩:=a8n hI'
  have hwl:(a62 ⟨⟨sf,wt⟩,ops,ends⟩ (a0x ⟨⟨sf,wt⟩,ops,ends⟩ ⟨a1,a2,a3,a4,a5,a6,l⟩).1).1.safe.length<1000000/\(a62 ⟨⟨sf,wt⟩,ops,ends⟩ (a0x ⟨⟨sf,wt⟩,ops,ends⟩ ⟨a1,a2,a3,a4,a5,a6,l⟩).1).1.wait.length<1000000:=by
   rw [hp]
   have:=a5X hx.2
   exact ⟨h.1,by rw [b3P];omega⟩
  generalize hX:(a1s ⟨⟨sf,wt⟩,ops,ends⟩ ⟨a1,a2,a3,a4,a5,a6,l⟩).1=X at *
  generalize a0x ⟨⟨sf,wt⟩,ops,ends⟩ ⟨a1,a2,a3,a4,a5,a6,l⟩=V at *
  obtain ⟨x,b,y⟩:=V
  simp only at g1 hp hx hc hs hI' e0 hsm hgo hwl hR
  subst g1
  have hp':(a62 ⟨⟨sf,wt⟩,ops,ends⟩ x).2=0:=by rw [hp]
  generalize hPV:a62 ⟨⟨sf,wt⟩,ops,ends⟩ x=PV at *
  obtain ⟨⟨ps,pw⟩,pe⟩:=PV
  simp only at hp' hs hwl
  subst hp'
  generalize a1y ⟨⟨sf,wt⟩,ops,ends⟩ x=G at *
  obtain ⟨⟨gd,go,gn⟩,gb⟩:=G
  simp only at e0
  subst e0
  generalize a2j (es++[x])++List.replicate (k-szE x) blank=L at *
  have q1l:=q1.l
  simp [a0u,a0p,a0y,a0q,a0f,hl,hsm,a1F,a1n,hPV]
  refine a1f (args':=[.g (a0u .brw ⟨⟨sf,wt⟩,ops,ends⟩),.g (a0q .brw x)]) ?_ hgo (by simp [a0u,a0p,a0y,a0q,a0f]) (by simp [a0u,a0p,a0y,a0q,a0f]) ?_
  ·simp [a0u,a0q,a0f]
  cases cj:x.join
  ·rw [cj] at hR
   simp only [Bool.false_eq_true,if_false] at hR
   subst hR
   simp [a0u,a0p,a0y,a0q,a0f,hwl,hs,a1F,a1n,q1,cj]
   refine ⟨⟨q1l,q2,hkn⟩,?_⟩
   refine a0A (mkS [(4,.c (.pt (1,1) 0 0)),(5,.c (.pt (1,2) 0 0)),(6,iv 0)] [.var (1,1) 29 (a0u .old ⟨⟨L,[]⟩,go,gn⟩),.var (1,2) 38 (a0p .old (a2s ⟨⟨L,[]⟩,go,gn⟩ a4))]) (a0c rfl ?_) ?_<;>simp [a0u,a0p,a0y]
  ·rw [cj] at hR
   simp only [if_true] at hR
   subst hR
   simp [a0u,a0p,a0y,a0q,a0f,hwl,hs,a1F,a1n,q1,cj]
   refine ⟨q1l,?_⟩
   refine a0A (mkS [(4,.c (.pt (1,1) 0 0)),(5,.c (.pt (1,2) 0 0)),(6,iv 0)] [.var (1,1) 29 (a0u .old ⟨⟨L,[]⟩,go,gn⟩),.var (1,2) 38 (a0p .old (a14 ⟨⟨L,[]⟩,go,gn⟩ a3))]) (a0c rfl ?_) ?_<;>simp [a0u,a0p,a0y]
theorem d0F (r:a0r) (m:a1A) (h:a8S r) (hm:okM m):PEv Tryz.prog 39 [.g (a0u .old r),.g (a0p .old m)] (a1F (a5p r m)):=by
 have hl:=h.l
 obtain ⟨⟨sf,wt⟩,ops,ends⟩:=r
 obtain ⟨a1,a2,a3,a4,a5,a6,l⟩:=m
 have g1:=h.1
 have g2:=h.2.1
 simp only at g1 g2
 refine a3G mixed c4J Tryz.func39 f5O f5P (by kernel_rfl) (by simp [a1F,a1n]) (by simp [a0u,a0p,a0y]) ?_
 generalize hR:a5p ⟨⟨sf,wt⟩,ops,ends⟩ ⟨a1,a2,a3,a4,a5,a6,l⟩=R
 cases hf:a4j ⟨⟨sf,wt⟩,ops,ends⟩ ⟨a1,a2,a3,a4,a5,a6,l⟩
 ·rw [a5p,if_neg (by simp [hf])] at hR
  subst hR
  simp [s39,a0u,a0p,a0y,hl,hm,hf,a1F,a1n]
  refine a0A (mkS [(4,.c (.pt (1,1) 0 0)),(5,iv 1)] [.var (1,1) 25 (a1n a3c)]) (a0c rfl ?_) ?_<;>simp [a1n,a3c]
 have hae:=b1L hf hm
 have hsm:=b0e hf hm
 simp [s39,a0u,a0p,a0y,hl,hm,hf,a1F,a1n]
 refine a1f (args':=[.g (a0u .brw ⟨⟨sf,wt⟩,ops,ends⟩),.g (a0p .brw ⟨a1,a2,a3,a4,a5,a6,l⟩)]) ?_ hae (by simp [a0u,a0p,a0y,a0q,a0f]) (by simp [a0u,a0p,a0y,a0q,a0f]) ?_
 ·simp [a0u,a0p,a0y]
 rw [a5p,if_pos hf] at hR
 generalize a0x ⟨⟨sf,wt⟩,ops,ends⟩ ⟨a1,a2,a3,a4,a5,a6,l⟩=V at *
 obtain ⟨x,b,y⟩:=V
 simp only at hR hsm
 cases b
 ·rw [if_neg (by simp)] at hR
  subst hR
  simp [a0u,a0p,a0y,a0q,a0f,g1,g2,a1n]
  refine a0A (mkS [(4,.c (.pt (1,1) 0 0)),(5,iv 0)] [.var (1,1) 25 (a1n ⟨sf,wt⟩)]) (a0c rfl ?_) ?_<;>simp [a1n]
 ·generalize hPV:a62 ⟨⟨sf,wt⟩,ops,ends⟩ x=PV at *
  obtain ⟨⟨ps,pw⟩,pe⟩:=PV
  simp only at hR
  by_cases he:pe=0
  ·subst he
   rw [if_pos (by simp)] at hR
   subst hR
   simp [a0u,a0p,a0y,a0q,a0f,hl,hsm,hPV,a1F,a1n]
   refine a0A (mkS [(4,.c (.pt (1,1) 0 0)),(5,iv 0)] [.var (1,1) 25 (a1n ⟨ps,pw⟩)]) (a0c rfl ?_) ?_<;>simp [a1n]
  ·rw [if_neg (fun q=>he q.2)] at hR
   subst hR
   simp [a0u,a0p,a0y,a0q,a0f,hl,hsm,hPV,he,g1,g2,a1F,a1n]
   refine a0A (mkS [(4,.c (.pt (1,1) 0 0)),(5,iv 0)] [.var (1,1) 25 (a1n ⟨sf,wt⟩)]) (a0c rfl ?_) ?_<;>simp [a1n]
theorem d0G (d:a0l) (h1:d.safe.length<1000000) (h2:d.wait.length<1000000):PEv Tryz.prog 32 [Arg.enc d] (.t [(true,a0u .old (a6u d).1),(false,[.raw (.int .i64 (a6u d).2)])]):=by
 refine a3G mixed c4J Tryz.func32 f5N ok32 (by kernel_rfl) (by simp [a0u]) (by simp) ?_
 generalize hR:a6u d=R
 obtain ⟨sf,wt⟩:=d
 simp only at h1 h2
 unfold a6u at hR
 cases c1:a2d ⟨sf,wt⟩
 ·rw [if_pos c1] at hR
  subst hR
  simp [s32,a0u,h1,h2,c1]
  refine a0A (mkS [(2,.c (.pt (1,1) 0 0)),(3,iv 1)] [.var (1,1) 29 (a0u .old a2t)]) (a0c rfl ?_) ?_<;>simp [a0u,a2t,a3c]
 rw [if_neg (by simp [c1])] at hR
 by_cases c2:wt=[]
 rotate_left
 ·rw [if_pos c2] at hR
  subst hR
  have:0<wt.length:=List.length_pos_iff.2 c2
  simp [s32,a0u,h1,h2,c1,this]
  refine a0A (mkS [(2,.c (.pt (1,1) 0 0)),(3,iv 5)] [.var (1,1) 29 (a0u .old a2t)]) (a0c rfl ?_) ?_<;>simp [a0u,a2t,a3c]
 subst c2
 rw [if_neg (by simp)] at hR
 obtain ⟨t1,t2,t3,t4⟩:=b3Z ⟨sf,[]⟩
 have hm:=(a1Y c1).2
 simp only at hm t1 t2 t3 t4
 have hsmall:=c1h ⟨sf,[]⟩
 generalize hT:a2c ⟨sf,[]⟩=T at *
 obtain ⟨⟨td,tp,tn⟩,ta⟩:=T
 simp only at hR t1 t2 t3 t4 hsmall
 subst t1
 have hcl:=c1i ⟨sf,[]⟩ (ta:Int)
 generalize hC:a10 ⟨sf,[]⟩ (ta:Int)=C at *
 obtain ⟨⟨cs,cw⟩,ce⟩:=C
 simp only at hR hcl
 by_cases c3:ce=0
 ·subst c3
  rw [if_neg (by simp)] at hR
  subst hR
  have hok:a8S ⟨⟨cs,cw⟩,tp,tn⟩:=⟨by simp only;omega,by simp only;omega,by simp only;omega,by simp only;omega,hsmall⟩
  simp [s32,a0u,h1,h2,c1,hT,a3c,hC,a1F,a1n,hok]
  refine a0A (mkS [(2,.c (.pt (1,1) 0 0)),(3,iv 0)] [.var (1,1) 29 (a0u .old ⟨⟨cs,cw⟩,tp,tn⟩)]) (a0c rfl ?_) ?_<;>simp [a0u]
 ·rw [if_pos c3] at hR
  subst hR
  simp [s32,a0u,h1,h2,c1,hT,a3c,hC,a1F,a1n,c3]
  refine a0A (mkS [(2,.c (.pt (1,1) 0 0)),(3,iv ce)] [.var (1,1) 29 (a0u .old a2t)]) (a0c rfl ?_) ?_<;>simp [a0u,a2t,a3c]
open Go Go.Proofs
theorem c1j:b5v a4o Tryz.prog 125 (fun s=>s.text.length<=reachBytes):=by
 intro H enc w F fuel cs x hF h
 obtain ⟨xs,n,_,rfl,hl,hlen,hf⟩:=DataW.trod_struct Tryz.underlying125 h
 rw [show Tryz.prog.cellsOf 125=2 from by kernel_rfl] at hl
 match cs,hl,xs,hlen with
 |[c0,c1],_,[x0,x1],_=>
  have h0:=hf 0 _ rfl
  change DataW.trod enc Tryz.prog w 0 _ true _ 3 (List.take (Tryz.prog.cellsOf 3) [c0,c1])=some x0 at h0
  rw [show Tryz.prog.cellsOf 3=1 from by kernel_rfl] at h0
  have h1:=hf 1 _ rfl
  change DataW.trod enc Tryz.prog w 0 _ true _ 9 (List.take (Tryz.prog.cellsOf 9) [c1])=some x1 at h1
  rw [show Tryz.prog.cellsOf 9=1 from by kernel_rfl] at h1
  obtain ⟨a0,_,o0,r0,s0⟩:=a1h Tryz.underlying3 enc w F n _ _ hF h0
  obtain ⟨a1,_,o1,r1,s1⟩:=a9F Tryz.underlying9 enc w F n _ _ hF h1
  refine ⟨⟨a0,a1⟩,rfl,?_,?_,fun hw=>?_⟩
  ·intro v hv
   simp at hv o0 o1
   rcases hv with rfl|rfl
   ·exact o0
   ·exact o1
  ·intro k c hk
   match k,hk with
   |0,hk=>exact r0 0 c (by simpa using hk)
   |1,hk=>exact r1 0 c (by simpa using hk)
  ·simp only [DataW.weights,Tryz.underlying125,DataW.weightsEach,List.map_cons,List.map_nil,List.append_nil,List.all_append,Bool.and_eq_true] at hw
   exact s1 hw.2
theorem a8o:a9G Int Tryz.prog 27 (fun l=>l.length*Tryz.prog.bytesOf 3<=reachBytes/\∀a∈l,-9223372036854775808<=a/\a<=9223372036854775807):=
 a3F Tryz.underlying27 (a1h Tryz.underlying3) (by kernel_rfl) (by decide)
theorem b1M:a9G (List UInt8) Tryz.prog 22 (fun l=>l.length*Tryz.prog.bytesOf 9<=reachBytes/\∀a∈l,a.length<=reachBytes):=
 a3F Tryz.underlying22 (a9F Tryz.underlying9) (by kernel_rfl) (by decide)
theorem b0f:a9G a4o Tryz.prog 23 (fun l=>l.length*Tryz.prog.bytesOf 125<=reachBytes/\∀a∈l,a.text.length<=reachBytes):=
 a3F Tryz.underlying23 c1j (by kernel_rfl) (by decide)
structure b4r where
 d:a0l
 n:Int
 l:List e12
def c4K (p:b4r):AV:=.g [.sl .brw false (a0a p.d.safe),.sl .brw false (a0a p.d.wait),.raw (.int .i64 p.n),.sl .brw false (a0a p.l)]
theorem a02.brw {w:World} {F:Tag->Nat->Prop} {H:Heap} {ρ:Lies} {cl:Bool} {xs:List (List AC)} {v:Value} (h:a02 w F H ρ (.sl .old cl xs) v) (hF:∀b,F .old b->F .brw b):a02 w F H ρ (.sl .brw cl xs) v:=by
 cases h with
 |a1b _ _ _ h=>exact .a1b _ _ _ h
 |sl _ _ _ b o cap sz vs hb hf hcap hcl hr hcell hone hrel=>exact .sl _ _ _ b o cap sz vs hb (hF b hf) hcap hcl hr hcell hone hrel
open Go Go.Proofs
def b8e (H:Heap) (v:Id) (d:a0l):Prop:=∃j1 j2,H v=.arr 25 2 false [[.so j1 0 d.safe.length,.so j2 0 d.wait.length]]/\H j1=.arr 9 1 false (a0a d.safe)/\H j2=.arr 125 2 false (a0a d.wait)
theorem b8e.ext {S:List Id} {H0 H:Heap} {T0 T:Nat} {v:Id} {d:a0l} (h:b8e H0 v d) (he:a3b S H0 T0 H T) (hS:∀i∈S,H0 i=.a0h):b8e H v d:=by
 obtain ⟨j1,j2,h1,h2,h3⟩:=h
 have no:∀{i e sz f rows},H0 i=OK.arr e sz f rows->i ∉ S:=fun h hi=>by rw [hS _ hi] at h;cases h
 exact ⟨j1,j2,he.arr h1 (no h1),he.arr h2 (no h2),he.arr h3 (no h3)⟩
theorem a3b.trans {S S':List Id} {H0 H1 H2:Heap} {T0 T1 T1' T2:Nat} (h:a3b S H0 T0 H1 T1) (h':a3b S' H1 T1' H2 T2) (hT:T1<=T1') (hS:∀i∈S',i∈S):a3b S H0 T0 H2 T2:=by
 refine ⟨fun i hi hn=>?_,h'.2.1,by have:=h.2.2.1;have:=h'.2.2.1;omega,h.2.2.2⟩
 have e1:=h.1 i hi hn
 rw [h'.1 i (by rw [e1];exact hi) (fun q=>hn (hS i q)),e1]
def F6:CT:=F5
attribute [simp] F6
open Go Go.Proofs
theorem a8p {α:Type} (f:α->Int):∀(l:List α) (n:Int),(∀x∈l,0<=f x)->n<=a65 f n l
 |[],n,_=>Int.le_refl _
 |x::r,n,h=>by
  unfold a65
  split
  ·have:=a8p f r (n+f x) fun y hy=>h y (by simp [hy])
   have:=h x (by simp)
   omega
  ·exact Int.le_refl _
theorem a6m {α:Type} (f:α->Int) (B:Int):∀(l:List α) (n:Int),(∀x∈l,0<=f x/\f x<=B)->0<=B->n<=1048576+B->a65 f n l<=max n (1048576+B)
 |[],n,_,_,_=>by rw [a65];omega
 |x::r,n,h,hB,hn=>by
  unfold a65
  split
  ·have:=a6m f B r (n+f x) (fun y hy=>h y (by simp [hy])) hB (by have:=h x (by simp);omega)
   have:=h x (by simp)
   omega
  ·omega
theorem a5v (d:a0l) (h1:d.safe.length<281474976710656) (h2:d.wait.length<281474976710656) (h3:∀s∈d.safe,s.length<281474976710656) (h4:∀s∈d.wait,s.text.length<281474976710656) :
  (d.safe.length:Int)/4+d.wait.length<=a1I d/\a1I d<=562949954469888:=by
 have a1:=a6m (fun s:List UInt8=>(s.length:Int)/64) 562949953421312 d.safe ((d.safe.length:Int)/4+d.wait.length) (fun x hx=>by have:=h3 x hx;omega) (by omega) (by omega)
 have a2:=a8p (fun s:List UInt8=>(s.length:Int)/64) d.safe ((d.safe.length:Int)/4+d.wait.length) (fun x hx=>by have:=h3 x hx;simp;omega)
 have b1:=a6m (fun s:a4o=>(s.text.length:Int)/16) 562949953421312 d.wait _ (fun x hx=>by have:=h4 x hx;omega) (by omega) (Int.le_trans a1 (by omega))
 have b2:=a8p (fun s:a4o=>(s.text.length:Int)/16) d.wait (a65 (fun s:List UInt8=>(s.length:Int)/64) ((d.safe.length:Int)/4+d.wait.length) d.safe) (fun x hx=>by have:=h4 x hx;simp;omega)
 unfold a1I
 constructor
 ·exact Int.le_trans a2 b2
 ·omega
instance d8G:Arg b4r where
 enc p:=c4K p
 dec|.g [.sl .brw false a,.sl .brw false b,.raw (.int .i64 n),.sl .brw false l]=>(match a3T a,a3T b,a3T l with|some a,some b,some l=>some ⟨⟨a,b⟩,n,l⟩|_,_,_=>none)|_=>none
 a1j {x p} h:=by
  split at h
  ·split at h
   ·rename_i h1 h2 h3
    cases h
    rw [a0K h1,a0K h2,a0K h3]
    rfl
   ·cases h
  ·cases h
@[simp] theorem d3n (p:b4r):Arg.enc p=c4K p:=rfl
open Go Go.Proofs
theorem a6n (o:OpV) (h1:o.text.length<281474976710656) (h2:o.gone.length<281474976710656):0<=a13 o/\a13 o<=562949953421312:=by
 unfold a13
 omega
def a88 (l:List OpV):Int:=a65 a13 l.length l
theorem b1N (l:List OpV) (hl:l.length<281474976710656) (h:∀o∈l,o.text.length<281474976710656/\o.gone.length<281474976710656):(l.length:Int)<=a88 l/\a88 l<=562949954469888:=by
 have a1:=a8p a13 l l.length fun o ho=>(a6n o (h o ho).1 (h o ho).2).1
 have a2:=a6m a13 562949953421312 l l.length (fun o ho=>a6n o (h o ho).1 (h o ho).2) (by omega) (by omega)
 unfold a88
 omega
def f0Z (l:List OpV) (q:Nat) (st:St):Prop:=∃(i:Nat) (m:Int),i<=l.length/\q=l.length-i/\st.s 0=.c (.sl .brw false (a0a l))/\st.s 3=.c (.raw (.int .i64 m))/\st.s 4=.c (.raw (.int .i64 i))/\0<=m/\m<1125899906842624/\a65 a13 m (l.drop i)=a88 l
def b8f:List AV->Option (Prop×AV):=t1 (fun o=>o.text.length<4611686018427387904/\o.gone.length<4611686018427387904) fun o:OpV=>.c (.raw (.int .i64 (a13 o)))
@[simp] theorem e3m {l:List AV}:b8f l=(t1 (fun o=>o.text.length<4611686018427387904/\o.gone.length<4611686018427387904) fun o:OpV=>.c (.raw (.int .i64 (a13 o)))) l:=(rfl)
def FK3:CT:=(97,.pu b8f)::FK2
theorem d8H:a1k Tryz.prog FK3:=⟨a0n fun o h=>b7I o h.1 h.2,d7D⟩
@[simp] theorem d8I:a0b FK3 97=some (.pu b8f):=(rfl)
theorem a8O (l:List OpV) (hl:l.length<281474976710656) (h:∀o∈l,o.text.length<281474976710656/\o.gone.length<281474976710656):PEv Tryz.prog 46 [.c (.sl .brw false (a0a l))] (.c (.raw (.int .i64 (a88 l)))):=by
 refine a0e mixed d8H Tryz.func46 f6F f6G (by kernel_rfl) (by simp) (by simp) ?_
 simp [s46]
 refine a6y (f0Z l) l.length ⟨0,l.length,by omega,rfl,by simp,by simp,by simp,by omega,by omega,by simp [a88]⟩ ?_
 rintro q st ⟨i,m,hi,rfl,k0,k3,k4,hm0,hm1,hw⟩ J hJ
 by_cases hlt:i<l.length
 ·have hlt':(i:Int)<l.length:=by omega
  by_cases hm:m<1048576
  ·obtain ⟨t1,t2⟩:=h l[i] (List.getElem_mem hlt)
   obtain ⟨w1,w2⟩:=a6n l[i] t1 t2
   have t3:l[i].text.length<4611686018427387904:=by omega
   have t4:l[i].gone.length<4611686018427387904:=by omega
   have e1:IntKind.wrap .i64 (m+a13 l[i])=m+a13 l[i]:=by rw [a0d]<;>omega
   have e2:IntKind.wrap .i64 ((i:Int)+1)=((i+1:Nat):Int):=by rw [a0d]<;>omega
   simp [c6p,k0,k3,k4,hlt,hlt',hm,e1,e2,t3,t4,a0f]
   exact ⟨l.length-(i+1),by omega,hJ _ _ ⟨i+1,m+a13 l[i],by omega,rfl,by simp [k0],by simp,by simp,by omega,by omega,by rw [<-hw,a7r _ _ _ _ hlt hm]⟩⟩
  ·rw [a7s _ _ _ hm] at hw
   subst hw
   simp [c6p,k0,k3,k4,hlt,hlt',hm]
 ·have hlt':¬(i:Int)<l.length:=by omega
  have:l.drop i=[]:=List.drop_eq_nil_of_le (by omega)
  rw [this,a65] at hw
  subst hw
  simp [c6p,k0,k3,k4,hlt,hlt']
structure f00 where
 ops:List OpV
 elems:List a0B
 nums:List Int
instance f01:Arg f00 where
 enc p:=.g [.sl .brw false (a0a p.ops),.sl .brw false (a0a p.elems),.sl .brw false (a0a p.nums)]
 dec|.g [.sl .brw false a,.sl .brw false b,.sl .brw false l]=>(match a3T a,a3T b,a3T l with|some a,some b,some l=>some ⟨a,b,l⟩|_,_,_=>none)|_=>none
 a1j {x p} h:=by
  split at h
  ·split at h
   ·rename_i h1 h2 h3
    cases h
    rw [a0K h1,a0K h2,a0K h3]
   ·cases h
  ·cases h
@[simp] theorem e3n (p:f00):Arg.enc p=.g [.sl .brw false (a0a p.ops),.sl .brw false (a0a p.elems),.sl .brw false (a0a p.nums)]:=rfl
open Go Go.Proofs
structure b0J where
 do_:Int
 m:a1A
 k:List Int
instance f02:Enc b0J where
 w:=9
 row a:=[.raw (.int .i64 a.do_),.raw (.int .i64 a.m.kind),.raw (.int .i64 a.m.site),.raw (.int .i64 a.m.a0N),.raw (.int .i64 a.m.known),.raw (.int .i64 a.m.seq),.raw (.int .i64 a.m.err),.sl .old false (a0a a.m.ops),.sl .old false (a0a a.k)]
 dec|[.raw (.int .i64 d),.raw (.int .i64 m1),.raw (.int .i64 m2),.raw (.int .i64 m3),.raw (.int .i64 m4),.raw (.int .i64 m5),.raw (.int .i64 m6),.sl .old false l,.sl .old false k]=>(match a3T l,a3T k with|some l,some k=>some ⟨d,⟨m1,m2,m3,m4,m5,m6,l⟩,k⟩|_,_=>none)|_=>none
 a3J a:=by simp
 a3x {r a} h:=by
  split at h
  ·split at h
   ·rename_i h1 h2
    cases h
    rw [a0K h1,a0K h2]
   ·cases h
  ·cases h
 len _:=rfl
 old a c hc:=by
  simp at hc
  rcases hc with rfl|rfl|rfl|rfl|rfl|rfl|rfl|rfl|rfl
  iterate 7 exact .raw _
  all_goals rw [a5c];simp
 ret a c hc:=by
  simp at hc
  rcases hc with rfl|rfl|rfl|rfl|rfl|rfl|rfl|rfl|rfl
  iterate 7 exact .raw _
  all_goals rw [a30];simp
@[simp] theorem e3o (a:b0J):Enc.row a=[AC.raw (.int .i64 a.do_),.raw (.int .i64 a.m.kind),.raw (.int .i64 a.m.site),.raw (.int .i64 a.m.a0N),.raw (.int .i64 a.m.known),.raw (.int .i64 a.m.seq),.raw (.int .i64 a.m.err),.sl .old false (a0a a.m.ops),.sl .old false (a0a a.k)]:=rfl
@[simp] theorem f3g:Enc.w b0J=9:=rfl
structure a3n where
 r:a0r
 n:Int
 l:List b0J
def a0i (p:a3n):List AC:=[.sl .brw false (a0a p.r.disk.safe),.sl .brw false (a0a p.r.disk.wait),.sl .brw false (a0a p.r.ops),.sl .brw false (a0a p.r.ends),.raw (.int .i64 p.n),.sl .brw false (a0a p.l)]
instance f03:Arg a3n where
 enc p:=.g (a0i p)
 dec|.g [.sl .brw false a,.sl .brw false b,.sl .brw false c,.sl .brw false d,.raw (.int .i64 n),.sl .brw false l]=>(match a3T a,a3T b,a3T c,a3T d,a3T l with|some a,some b,some c,some d,some l=>some ⟨⟨⟨a,b⟩,c,d⟩,n,l⟩|_,_,_,_,_=>none)|_=>none
 a1j {x p} h:=by
  split at h
  ·split at h
   ·rename_i h1 h2 h3 h4 h5
    cases h
    rw [a0K h1,a0K h2,a0K h3,a0K h4,a0K h5]
    rfl
   ·cases h
  ·cases h
@[simp] theorem b4s (p:a3n):Arg.enc p=.g (a0i p):=rfl
@[simp] theorem e3p (a:List (List UInt8)) (b:List a4o) (c:List OpV) (d:List Int) (n:Int) (l:List b0J):Arg.dec (.g [.sl .brw false (a0a a),.sl .brw false (a0a b),.sl .brw false (a0a c),.sl .brw false (a0a d),.raw (.int .i64 n),.sl .brw false (a0a l)])=some (a3n.mk ⟨⟨a,b⟩,c,d⟩ n l):=by
 show (match a3T (a0a a),a3T (a0a b),a3T (a0a c),a3T (a0a d),a3T (a0a l) with|some a,some b,some c,some d,some l=>some (a3n.mk ⟨⟨a,b⟩,c,d⟩ n l)|_,_,_,_,_=>none)=_
 simp
structure a48 (p:a3n):Prop where
 safe:p.r.disk.safe.length<281474976710656/\∀s∈p.r.disk.safe,s.length<281474976710656
 wait:p.r.disk.wait.length<281474976710656/\∀s∈p.r.disk.wait,s.text.length<281474976710656
 ops:p.r.ops.length<281474976710656/\∀o∈p.r.ops,o.text.length<281474976710656/\o.gone.length<281474976710656
 ends:p.r.ends.length<281474976710656
 l:p.l.length<281474976710656
 acts:∀a∈p.l,(a.m.ops.length<281474976710656/\∀o∈a.m.ops,o.text.length<281474976710656/\o.gone.length<281474976710656)/\a.k.length<281474976710656
def b8g:List AV->Option (Prop×AV):=t1 (fun d:a0l=>(d.safe.length<281474976710656/\∀s∈d.safe,s.length<281474976710656)/\(d.wait.length<281474976710656/\∀s∈d.wait,s.text.length<281474976710656)) fun d:a0l=>iv (a1I d)
@[simp] theorem e3q {l:List AV}:b8g l=(t1 (fun d:a0l=>(d.safe.length<281474976710656/\∀s∈d.safe,s.length<281474976710656)/\(d.wait.length<281474976710656/\∀s∈d.wait,s.text.length<281474976710656)) fun d:a0l=>iv (a1I d)) l:=(rfl)
def b8h:List AV->Option (Prop×AV):=t1 (fun l=>l.length<281474976710656/\∀o∈l,o.text.length<281474976710656/\o.gone.length<281474976710656) fun l:List OpV=>iv (a88 l)
@[simp] theorem e3r {l:List AV}:b8h l=(t1 (fun l=>l.length<281474976710656/\∀o∈l,o.text.length<281474976710656/\o.gone.length<281474976710656) fun l:List OpV=>iv (a88 l)) l:=(rfl)
def FZ0:CT:=(96,.pu b8g)::(46,.pu b8h)::[]
theorem c8v:a1k Tryz.prog FZ0:=⟨a0n fun d h=>b2m d h.1.1 h.2.1 h.1.2 h.2.2,
 a0n fun l h=>a8O l h.1 h.2,trivial⟩
@[simp] theorem d8J:a0b FZ0 96=some (.pu b8g):=(rfl)
@[simp] theorem d8K:a0b FZ0 46=some (.pu b8h):=(rfl)
@[simp] theorem e3s {n:Nat} (h:(n==96||n==46)=false):a0b FZ0 n=a0b ([]:CT) n:=by
 simp only [Bool.or_eq_false_iff,beq_eq_false_iff_ne,ne_eq] at h
 simp [FZ0,a0b,h]
def b8i (r:a0r):Int:=a1I r.disk+a88 r.ops+r.ends.length
theorem b8j (p:a3n) (h:a48 p):PEv Tryz.prog 45 [Arg.enc p.r] (iv (b8i p.r))/\0<=b8i p.r/\b8i p.r<=2251799813685248:=by
 obtain ⟨b1,b2⟩:=a5v p.r.disk h.safe.1 h.wait.1 h.safe.2 h.wait.2
 obtain ⟨b3,b4⟩:=b1N p.r.ops h.ops.1 h.ops.2
 have b5:=h.ends
 refine ⟨?_,by unfold b8i;omega,by unfold b8i;omega⟩
 refine a0e mixed c8v Tryz.func45 f6D f6E (by kernel_rfl) (by simp) (by simp [a0u]) ?_
 have e1:IntKind.wrap .i64 (a1I p.r.disk+a88 p.r.ops)=a1I p.r.disk+a88 p.r.ops:=by rw [a0d]<;>omega
 have e2:IntKind.wrap .i64 (a1I p.r.disk+a88 p.r.ops+p.r.ends.length)=a1I p.r.disk+a88 p.r.ops+p.r.ends.length:=by rw [a0d]<;>omega
 simp only [d0n,a0u]
 simp [s45,e1,e2,b8i]
 exact ⟨⟨h.safe,h.wait⟩,h.ops⟩
def b8k:List AV->Option (Prop×AV):=t1 (fun r:a0r=>∃p:a3n,p.r=r/\a48 p) fun r:a0r=>iv (b8i r)
@[simp] theorem e3t {l:List AV}:b8k l=(t1 (fun r:a0r=>∃p:a3n,p.r=r/\a48 p) fun r:a0r=>iv (b8i r)) l:=(rfl)
def FZ1:CT:=(45,.pu b8k)::FZ0
theorem d8L:a1k Tryz.prog FZ1:=⟨a0n fun r h=>by obtain ⟨p,rfl,hp⟩:=h;exact (b8j p hp).1,c8v⟩
@[simp] theorem d8M:a0b FZ1 45=some (.pu b8k):=(rfl)
@[simp] theorem e3u {n:Nat} (h:(n==45)=false):a0b FZ1 n=a0b FZ0 n:=by
 simp only [Bool.or_eq_false_iff,beq_eq_false_iff_ne,ne_eq] at h
 simp [FZ1,a0b,h]
def b6o (a:b0J):Int:=a88 a.m.ops+a.k.length
def a6F (p:a3n):Int:=a65 b6o (b8i p.r+p.l.length) p.l
theorem c1k (p:a3n) (h:a48 p):PEv Tryz.prog 15 [Arg.enc p] (bv (decide (700<a6F p))):=by
 obtain ⟨_,b1,b2⟩:=b8j p h
 have b3:=h.l
 have hex:(∃q:a3n,q.r=⟨⟨p.r.disk.safe,p.r.disk.wait⟩,p.r.ops,p.r.ends⟩/\a48 q)=True:=by simp only [eq_iff_iff,iff_true];exact ⟨p,rfl,h⟩
 refine a0e mixed d8L Tryz.func15 f5B f5C (by kernel_rfl) (by simp) (by simp [a0i]) ?_
 have e0:IntKind.wrap .i64 (b8i p.r+p.l.length)=b8i p.r+p.l.length:=by rw [a0d]<;>omega
 generalize hB:a6F p=B
 unfold a6F at hB
 simp only [b4s,a0i]
 simp [s15,hex,e0]
 refine vl (fun q:Nat×Int=>q.1<=p.l.length/\a65 b6o q.2 (p.l.drop q.1)=B/\0<=q.2/\q.2<9007199254740992) (fun q=>mkS [(1,.c (.pt (1,1) 0 0)),(3,iv q.2),(4,iv q.1)] [.var (1,1) 32 (a0i p)]) (fun q=>p.l.length-q.1) (0,b8i p.r+p.l.length) ⟨by simp,by simpa using hB,by simp only;omega,by simp only;omega⟩ (a0c rfl ?_) ?_
 ·simp [a0i]
 rintro ⟨i,m⟩ ⟨hi,hx,hm0,hm1⟩ J hJ
 simp only at hi hx hm0 hm1
 simp only [a0i]
 by_cases hlt:i<p.l.length
 ·by_cases hm:m<1048576
  ·have hw:IntKind.wrap .i64 ((i:Int)+1)=((i+1:Nat):Int):=by rw [a0d]<;>omega
   have ha:=h.acts _ (List.getElem_mem hlt)
   obtain ⟨w1,w2⟩:=b1N _ ha.1.1 ha.1.2
   have w3:=ha.2
   have e1:IntKind.wrap .i64 (m+a88 p.l[i].m.ops)=m+a88 p.l[i].m.ops:=by rw [a0d]<;>omega
   have e2:IntKind.wrap .i64 (m+a88 p.l[i].m.ops+p.l[i].k.length)=m+a88 p.l[i].m.ops+p.l[i].k.length:=by rw [a0d]<;>omega
   simp [c6n,hlt,hm,hw,e1,e2]
   refine ⟨ha.1,hJ (i+1,m+a88 p.l[i].m.ops+p.l[i].k.length) ⟨by simp;omega,?_,by simp only;omega,by simp only;omega⟩ (by simp;omega) _ (a0c rfl ?_)⟩
   ·rw [<-hx,a7r _ _ _ _ hlt hm]
    simp only [b6o,Int.add_assoc]
   ·simp [a0i]
  ·rw [a7s _ _ _ hm] at hx
   subst hx
   simp [c6n,hlt,hm]
 ·obtain rfl:i=p.l.length:=by omega
  rw [List.drop_eq_nil_of_le (Nat.le_refl _),a65] at hx
  subst hx
  simp [c6n]
theorem b0g {α:Type} (f:α->Int):∀(l:List α) (n:Int),(∀x∈l,0<=f x)->a65 f n l<1048576->∀a∈l,n+f a<=a65 f n l
 |[],n,_,_,a,ha=>by simp at ha
 |b::r,n,hf,h,a,ha=>by
  unfold a65 at h ⊢
  split at h
  ·rename_i hn
   rw [if_pos hn]
   rcases List.mem_cons.1 ha with rfl|ha
   ·exact a8p f r _ fun y hy=>hf y (by simp [hy])
   ·have:=b0g f r _ (fun y hy=>hf y (by simp [hy])) h a ha
    have:=hf b (by simp)
    omega
  ·omega
theorem b1O {l:List OpV} (h1:l.length<281474976710656) (h2:∀o∈l,o.text.length<281474976710656/\o.gone.length<281474976710656) (h:a88 l<=700):l.length<=700/\∀o∈l,o.text.length<1000000/\o.gone.length<1000000:=by
 have hb:=(b1N l h1 h2).1
 refine ⟨by omega,fun o ho=>?_⟩
 have:=b0g a13 l l.length (fun x hx=>(a6n x (h2 x hx).1 (h2 x hx).2).1) (by unfold a88 at h;omega) o ho
 unfold a88 at h
 have e1:a13 o=2+((o.text.length/4:Nat):Int)+o.gone.length:=rfl
 omega
theorem c4L {p:a3n} (h:a48 p) (hl:¬700<a6F p):a8S p.r/\p.l.length<=700/\∀a∈p.l,okM a.m/\a.k.length<=700:=by
 obtain ⟨_,b1,b2⟩:=b8j p h
 have hw:∀a∈p.l,0<=b6o a:=fun a ha=>by
  have h1:=(b1N a.m.ops (h.acts a ha).1.1 (h.acts a ha).1.2).1
  unfold b6o;omega
 have hge:=a8p b6o p.l (b8i p.r+p.l.length) hw
 have hmem:=b0g b6o p.l (b8i p.r+p.l.length) hw (by unfold a6F at hl;omega)
 unfold a6F at hl
 obtain ⟨d1,d2⟩:=a5v p.r.disk h.safe.1 h.wait.1 h.safe.2 h.wait.2
 have o1:=(b1N p.r.ops h.ops.1 h.ops.2).1
 unfold b8i at *
 obtain ⟨s1,s2⟩:=b1O h.ops.1 h.ops.2 (by omega)
 refine ⟨⟨by omega,by omega,by omega,by omega,s2⟩,by omega,fun a ha=>?_⟩
 have:=hmem a ha
 have e1:b6o a=a88 a.m.ops+a.k.length:=rfl
 have h1:=(b1N a.m.ops (h.acts a ha).1.1 (h.acts a ha).1.2).1
 obtain ⟨t1,t2⟩:=b1O (h.acts a ha).1.1 (h.acts a ha).1.2 (by omega)
 exact ⟨⟨by omega,t2⟩,by omega⟩
open Go Go.Proofs
theorem c1l {o:OpV} (h:a0s o=true):a36 o.text=true:=by
 by_cases hk:o.kind=1
 ·simp only [a0s,Bool.and_eq_true,hk,if_true,a3Q,decide_eq_true_eq] at h
  exact h.2.1.1.1.1.1.2
 ·rw [(a1a h hk).2.2.1];decide +kernel
theorem c4M (s:List UInt8):a05 s<=s.length:=by
 have key:∀(s:ByteArray) (f p:Nat),Lib.runeCountFrom s f p<=f:=fun s f=>by
  induction f with
  |zero=>intro p;simp [Lib.runeCountFrom]
  |succ f ih=>
   intro p
   rw [Lib.runeCountFrom]
   split
   ·have:=ih (p+(Utf8.decode s p).2);omega
   ·omega
 exact key ⟨s.toArray⟩ _ 0
theorem d0H (l:List OpV) (s:Int) (hl:l.length<1000000):PEv Tryz.prog 31 [Arg.enc l,Arg.enc s] (iv (a1K s l)):=by
 refine a0e mixed (F:=[]) trivial Tryz.func31 sl31 f6C (by kernel_rfl) (by simp) (by simp) ?_
 simp [s31]
 refine vl (fun i:Nat=>i<=l.length) (fun i=>mkS [(0,.c (.sl .brw false (a0a l))),(1,iv s),(5,iv (a1K s (l.take i))),(6,iv i)] []) (fun i=>l.length-i) 0 (by simp) (a0c rfl ?_) ?_
 ·simp [a1K]
 rintro i hi J hJ
 by_cases hlt:i<l.length
 ·have hw:IntKind.wrap .i64 ((i:Int)+1)=((i+1:Nat):Int):=by rw [a0d]<;>omega
  have ht:a1K s (l.take (i+1))=a1K s (l.take i)+(if l[i].site=s then 1 else 0):=by rw [<-a7B,List.take_append_getElem hlt]
  have hn:=a8Z s (l.take i)
  have hn2:(l.take i).length<=i:=by simp;omega
  have hw2:IntKind.wrap .i64 ((a1K s (l.take i):Int)+1)=((a1K s (l.take i)+1:Nat):Int):=by rw [a0d]<;>omega
  simp [c9E,hlt,a0f,hw]
  refine ⟨fun e=>hJ (i+1) (by omega) (by omega) _ (a0c rfl ?_),fun e=>hJ (i+1) (by omega) (by omega) _ (a0c rfl ?_)⟩
  ·simp [hw,hw2,ht,e]
  ·simp [hw,ht,e]
 ·obtain rfl:i=l.length:=by omega
  simp [c9E]
theorem c4N (l:List OpV) (a b:Int) (hl:l.length<1000000):PEv Tryz.prog 25 [Arg.enc l,Arg.enc a,Arg.enc b] (iv (idxOf (isN a b) 0 l)):=by
 refine a0e mixed (F:=[]) trivial Tryz.func25 f6A f6B (by kernel_rfl) (by simp) (by simp) ?_
 generalize hR:idxOf (isN a b) 0 l=R
 simp [s25]
 refine vl (fun i:Nat=>i<=l.length/\idxOf (isN a b) i (l.drop i)=R)
  (fun i=>mkS [(0,.c (.sl .brw false (a0a l))),(1,iv a),(2,iv b),(7,iv i)] []) (fun i=>l.length-i) 0 (by simpa using hR) (a0c rfl ?_) ?_
 ·simp
 rintro i ⟨hi,hx⟩ J hJ
 by_cases hlt:i<l.length
 ·have hw:IntKind.wrap .i64 ((i:Int)+1)=((i+1:Nat):Int):=by rw [a0d]<;>omega
  rw [List.drop_eq_getElem_cons hlt,idxOf] at hx
  cases c1:decide (l[i].site=a)
  ·rw [if_neg (by simp [isN,c1])] at hx
   simp [c2W,hlt,a0f,hw,c1]
   refine hJ (i+1) ⟨by omega,hx⟩ (by omega) _ (a0c rfl ?_)
   simp
  ·cases c2:decide (l[i].seq=b)
   ·rw [if_neg (by simp [isN,c2])] at hx
    simp [c2W,hlt,a0f,hw,c1,c2]
    refine hJ (i+1) ⟨by omega,hx⟩ (by omega) _ (a0c rfl ?_)
    simp
   ·rw [if_pos (by simp only [isN,c1,c2];rfl)] at hx
    subst hx
    simp [c2W,hlt,a0f,hw,c1,c2]
 ·simp [c2W,hlt]
  rw [<-hx,List.drop_eq_nil_of_le (by omega)]
  rfl
theorem a6o {α:Type} (p:α->Bool):∀(l:List α) (n:Nat),(idxOf p n l=-1/\l.find? p=none)\/∃(k:Nat) (h:k<l.length),idxOf p n l=((n+k:Nat):Int)/\l.find? p=some l[k]
 |[],n=>.inl ⟨rfl,rfl⟩
 |x::l,n=>by
  rw [idxOf,List.find?_cons]
  cases hp:p x
  ·rcases a6o p l (n+1) with ⟨h1,h2⟩|⟨k,h,h1,h2⟩
   ·exact .inl ⟨by simpa using h1,by simpa using h2⟩
   ·refine .inr ⟨k+1,by simpa using h,?_,by simpa using h2⟩
    rw [if_neg (by simp)]
    rw [h1];congr 1;omega
  ·exact .inr ⟨0,by simp,by simp,by simp⟩
def b4t:List AV->Option (Prop×AV):=t1 (fun s=>s.length<1000000) fun s:List UInt8=>a1c s
@[simp] theorem d8N {l:List AV}:b4t l=(t1 (fun s=>s.length<1000000) fun s:List UInt8=>a1c s) l:=(rfl)
def b4u:List AV->Option (Prop×AV):=t1 (fun _=>True) fun e:a0B=>bv (a2P e)
@[simp] theorem d8O {l:List AV}:b4u l=(t1 (fun _=>True) fun e:a0B=>bv (a2P e)) l:=(rfl)
def b8l:List AV->Option (Prop×AV):=t1 (fun o=>o.text.length<1000000/\o.gone.length<4611686018427387904) fun o:OpV=>bv (a0s o)
@[simp] theorem e3v {l:List AV}:b8l l=(t1 (fun o=>o.text.length<1000000/\o.gone.length<4611686018427387904) fun o:OpV=>bv (a0s o)) l:=(rfl)
def b8m:List AV->Option (Prop×AV):=t2 (fun l _=>l.length<1000000) fun (l:List OpV) (s:Int)=>iv (a1K s l)
@[simp] theorem e3w {l:List AV}:b8m l=(t2 (fun l _=>l.length<1000000) fun (l:List OpV) (s:Int)=>iv (a1K s l)) l:=(rfl)
def b8n:List AV->Option (Prop×AV):=t3 (fun l _ _=>l.length<1000000) fun (l:List OpV) (a b:Int)=>iv (idxOf (isN a b) 0 l)
@[simp] theorem e3x {l:List AV}:b8n l=(t3 (fun l _ _=>l.length<1000000) fun (l:List OpV) (a b:Int)=>iv (idxOf (isN a b) 0 l)) l:=(rfl)
def b4v:List AV->Option (Prop×AV):=t1 (fun o=>o.gone.length<1000000) fun o:OpV=>.g (a0f .old o)
@[simp] theorem d8P {l:List AV}:b4v l=(t1 (fun o=>o.gone.length<1000000) fun o:OpV=>.g (a0f .old o)) l:=(rfl)
def b8o:List AV->Option (Prop×AV):=t1 (fun l=>l.length<1000000/\∀o∈l,o.gone.length<1000000) fun l:List OpV=>.c (.nw 53 11 (a0a l))
@[simp] theorem e3y {l:List AV}:b8o l=(t1 (fun l=>l.length<1000000/\∀o∈l,o.gone.length<1000000) fun l:List OpV=>.c (.nw 53 11 (a0a l))) l:=(rfl)
def FX0:CT:=(119,.pu b4t)::(118,.pu b4u)::(64,.pu b8l)::(31,.pu b8m)::(25,.pu b8n)::(101,.pu b4v)::(51,.pu b8o)::[]
theorem c8w:a1k Tryz.prog FX0:=⟨a0n fun s h=>a9U s h,
 a0n fun e _=>b9K e,
 a0n fun o h=>b5V o h.1 h.2,
 a0R fun l s h=>d0H l s h,
 a6w fun l a b h=>c4N l a b h,
 a0n fun o h=>a8f o h,
 a0n fun l h=>b1D l h.1 h.2,trivial⟩
@[simp] theorem d3o:a0b FX0 119=some (.pu b4t):=(rfl)
@[simp] theorem d3p:a0b FX0 118=some (.pu b4u):=(rfl)
@[simp] theorem d8Q:a0b FX0 64=some (.pu b8l):=(rfl)
@[simp] theorem d8R:a0b FX0 31=some (.pu b8m):=(rfl)
@[simp] theorem d8S:a0b FX0 25=some (.pu b8n):=(rfl)
@[simp] theorem d3q:a0b FX0 101=some (.pu b4v):=(rfl)
@[simp] theorem d8T:a0b FX0 51=some (.pu b8o):=(rfl)
@[simp] theorem e3z {n:Nat} (h:(n==119||n==118||n==64||n==31||n==25||n==101||n==51)=false):a0b FX0 n=a0b ([]:CT) n:=by
 simp only [Bool.or_eq_false_iff,beq_eq_false_iff_ne,ne_eq] at h
 simp [FX0,a0b,h]
theorem c4O (o:OpV) (ht:a36 o.text=true) (hl:o.text.length<1000000):PEv Tryz.prog 149 [Arg.enc o] (iv (a05 o.text)):=by
 refine a0e mixed c8w Tryz.func149 e73 e74 (by kernel_rfl) (by simp) (by simp [a0f]) ?_
 rw [a9T] at ht
 obtain ⟨X,hX⟩:=Option.isSome_iff_exists.1 ht
 have hav:a1c o.text=.t [(false,[.nw 21 1 (a0a X)]),(false,[.raw (.bool true)])]:=by rw [a1c,hX]
 rw [b1v hX]
 simp [e72,a0f,hl,hav]
def b4w:List AV->Option (Prop×AV):=t1 (fun o=>a36 o.text=true/\o.text.length<1000000) fun o:OpV=>iv (a05 o.text)
@[simp] theorem d8U {l:List AV}:b4w l=(t1 (fun o=>a36 o.text=true/\o.text.length<1000000) fun o:OpV=>iv (a05 o.text)) l:=(rfl)
def FX1:CT:=(149,.pu b4w)::FX0
theorem b6p:a1k Tryz.prog FX1:=⟨a0n fun o h=>c4O o h.1 h.2,c8w⟩
@[simp] theorem d3r:a0b FX1 149=some (.pu b4w):=(rfl)
@[simp] theorem e3A {n:Nat} (h:(n==149)=false):a0b FX1 n=a0b FX0 n:=by
 simp only [Bool.or_eq_false_iff,beq_eq_false_iff_ne,ne_eq] at h
 simp [FX1,a0b,h]
def b92 (l:List OpV):Prop:=l.length<1000000/\∀o∈l,a36 o.text=true/\o.text.length<1000000/\o.gone.length<1000000
theorem b92.take {l:List OpV} (h:b92 l) (n:Nat):b92 (l.take n):=⟨by have:=h.1;simp;omega,fun o ho=>h.2 o (List.mem_of_mem_take ho)⟩
theorem b8p (l:List OpV) (e:a0B) (h:b92 l):PEv Tryz.prog 147 [Arg.enc l,Arg.enc e] (bv (wrN l e)):=by
 refine a0e mixed b6p Tryz.func147 e7Y e7Z (by kernel_rfl) (by simp) (by simp) ?_
 generalize hB:wrN l e=B
 unfold wrN a6t at hB
 have h1:=h.1
 have hb0:decide (e=⟨0,0,0⟩)=a2P e:=rfl
 rw [hb0] at hB
 cases c0:a2P e
 rotate_left
 ·rw [c0] at hB;subst hB
  simp [d1h,c0]
 rw [c0,Bool.false_or] at hB
 rcases a6o (isN e.site e.seq) l 0 with ⟨q1,q2⟩|⟨k,hk,q1,q2⟩
 ·rw [q2] at hB;subst hB
  simp [d1h,c0,h1,q1]
 ·rw [q2] at hB
  simp only at hB
  rw [Nat.zero_add] at q1
  have ho:=h.2 _ (List.getElem_mem hk)
  cases c1:decide (0<=e.i)
  ·rw [c1] at hB;subst hB
   simp [d1h,c0,h1,q1,c1]
  ·rw [c1,Bool.true_and] at hB;subst hB
   simp [d1h,c0,h1,q1,c1,hk,a0f,ho.1,ho.2.1]
theorem c7q (l:List OpV) (a b:Int) (h:l.length<1000000):PEv Tryz.prog 148 [Arg.enc l,Arg.enc a,Arg.enc b] (bv (a8M l a b)):=by
 refine a0e mixed b6p Tryz.func148 e70 e71 (by kernel_rfl) (by simp) (by simp) ?_
 generalize hB:a8M l a b=B
 unfold a8M a6t at hB
 rcases a6o (isN a b) l 0 with ⟨q1,q2⟩|⟨k,hk,q1,q2⟩
 ·rw [q2] at hB;subst hB
  simp [e1m,h,q1]
 ·rw [q2] at hB
  simp only at hB
  subst hB
  rw [Nat.zero_add] at q1
  simp [e1m,h,q1,hk,a0f]
theorem c4P (l:List OpV) (o:OpV) (hl:l.length<1000000) (hg:∀o∈l,o.gone.length<1000000) (ho:o.gone.length<1000000):PEv Tryz.prog 72 [Arg.enc l,Arg.enc o] (.c (.sl .old false (a0a (l++[o])))):=by
 refine PEv.frz (ret:=.c (.nw 53 11 (a0a (l++[o])))) .old (by simp) ?_
 refine a0e mixed b6p Tryz.func72 f6S f6T (by kernel_rfl) (by simp) (by simp [a0f]) ?_
 have hg':(∀o∈l,o.gone.length<1000000)=True:=by simp;exact hg
 have hc:a2I l.length (a0a l)=a0a l:=a4L (by simp)
 simp [s72,a0f,hl,hg',ho,hc,a1g,a4G]
 exact ⟨by omega,by omega⟩
theorem d0I (l:List OpV) (h:b92 l):PEv Tryz.prog 100 [Arg.enc l] (bv (a96 l)):=by
 refine a0e mixed b6p Tryz.func100 e6S e6T (by kernel_rfl) (by simp) (by simp) ?_
 obtain ⟨h1,h2⟩:=h
 generalize hB:a96 l=B
 unfold a96 at hB
 have hle:∀i,a3Y (l.take i)<=1000000*i:=fun i=>by
  have key:∀(l:List OpV) (i:Nat),(∀o∈l,a05 o.text<=1000000)->a3Y (l.take i)<=1000000*i:=fun l=>by
   induction l with
   |nil=>intro i _;simp [a3Y]
   |cons x r ih=>
    intro i hx
    cases i with
    |zero=>simp [a3Y]
    |succ i=>
     have:=ih i fun o ho=>hx o (by simp [ho])
     have:=hx x (by simp)
     simp only [List.take_succ_cons,a3Y];omega
  exact key l i fun o ho=>by
   obtain ⟨t1,t2,_⟩:=h2 o ho
   have:=c4M o.text
   omega
 simp [e6R]
 refine vl (fun i:Nat=>i<=l.length/\i<=41) (fun i=>mkS [(0,.c (.sl .brw false (a0a l))),(3,iv (a3Y (l.take i))),(4,iv i)] []) (fun i=>l.length-i) 0 (by simp) (a0c rfl ?_) ?_
 ·simp [a3Y]
 rintro i ⟨hi,hi2⟩ J hJ
 by_cases hlt:i<l.length
 ·by_cases h40:i<=40
  ·have hw:IntKind.wrap .i64 ((i:Int)+1)=((i+1:Nat):Int):=by rw [a0d]<;>omega
   have ho:=h2 _ (List.getElem_mem hlt)
   have e1:a3Y (l.take (i+1))=a3Y (l.take i)+a05 l[i].text:=by rw [<-b39,List.take_append_getElem hlt]
   have e2:=hle (i+1)
   have hw2:IntKind.wrap .i64 ((a3Y (l.take i):Int)+a05 l[i].text)=((a3Y (l.take (i+1)):Nat):Int):=by rw [e1,a0d]<;>omega
   have f1v:(i:Int)<=40:=by omega
   simp [b5B,hlt,f1v,a0f,hw,ho.1,ho.2.1]
   refine hJ (i+1) ⟨by omega,by omega⟩ (by omega) _ (a0c rfl ?_)
   simp [hw2]
  ·have f1v:¬(i:Int)<=40:=by omega
   have hL:¬(l.length:Int)<=40:=by omega
   have hL2:¬l.length<=40:=by omega
   subst hB
   simp [b5B,hlt,f1v,hL,hL2]
 ·obtain rfl:i=l.length:=by omega
  subst hB
  cases c1:decide ((l.length:Int)<=40)
  ·have:¬l.length<=40:=by have:=of_decide_eq_false c1;omega
   simp [b5B,c1,this]
  ·have:l.length<=40:=by have:=of_decide_eq_true c1;omega
   simp [b5B,c1,this]
   omega
open Go Go.Proofs
def b4x:List AV->Option (Prop×AV):=t2 (fun l _=>b92 l) fun (l:List OpV) (e:a0B)=>bv (wrN l e)
@[simp] theorem d8V {l:List AV}:b4x l=(t2 (fun l _=>b92 l) fun (l:List OpV) (e:a0B)=>bv (wrN l e)) l:=(rfl)
def b4y:List AV->Option (Prop×AV):=t3 (fun l _ _=>l.length<1000000) fun (l:List OpV) (a b:Int)=>bv (a8M l a b)
@[simp] theorem d8W {l:List AV}:b4y l=(t3 (fun l _ _=>l.length<1000000) fun (l:List OpV) (a b:Int)=>bv (a8M l a b)) l:=(rfl)
def b4z:List AV->Option (Prop×AV):=t1 b92 fun l:List OpV=>bv (a96 l)
@[simp] theorem d8X {l:List AV}:b4z l=(t1 b92 fun l:List OpV=>bv (a96 l)) l:=(rfl)
def b8q:List AV->Option (Prop×AV):=t2 (fun l o=>l.length<1000000/\(∀o∈l,o.gone.length<1000000)/\o.gone.length<1000000) fun (l:List OpV) (o:OpV)=>.c (.sl .old false (a0a (l++[o])))
@[simp] theorem e3B {l:List AV}:b8q l=(t2 (fun l o=>l.length<1000000/\(∀o∈l,o.gone.length<1000000)/\o.gone.length<1000000) fun (l:List OpV) (o:OpV)=>.c (.sl .old false (a0a (l++[o])))) l:=(rfl)
def FX2:CT:=(147,.pu b4x)::(148,.pu b4y)::(100,.pu b4z)::(72,.pu b8q)::FX1
theorem c8x:a1k Tryz.prog FX2:=⟨a0R fun l e h=>b8p l e h,
 a6w fun l a b h=>c7q l a b h,
 a0n fun l h=>d0I l h,
 a0R fun l o h=>c4P l o h.1 h.2.1 h.2.2,b6p⟩
@[simp] theorem d3s:a0b FX2 147=some (.pu b4x):=(rfl)
@[simp] theorem d3t:a0b FX2 148=some (.pu b4y):=(rfl)
@[simp] theorem d3u:a0b FX2 100=some (.pu b4z):=(rfl)
@[simp] theorem d8Y:a0b FX2 72=some (.pu b8q):=(rfl)
@[simp] theorem e3C {n:Nat} (h:(n==147||n==148||n==100||n==72)=false):a0b FX2 n=a0b FX1 n:=by
 simp only [Bool.or_eq_false_iff,beq_eq_false_iff_ne,ne_eq] at h
 simp [FX2,a0b,h]
theorem c7r (l:List OpV) (o:OpV) (h:b92 l) (ht:o.text.length<1000000) (hg:o.gone.length<1000000):PEv Tryz.prog 99 [Arg.enc l,Arg.enc o] (bv (a61 l o)):=by
 have hg':o.gone.length<4611686018427387904:=by omega
 refine a0e mixed c8x Tryz.func99 f7g f7h (by kernel_rfl) (by simp) (by simp [a0f]) ?_
 have h1:=h.1
 have hn:=a8Z o.site l
 have hw1:IntKind.wrap .i64 ((a1K o.site l:Int)+1)=(a1K o.site l:Int)+1:=by rw [a0d]<;>omega
 generalize hB:a61 l o=B
 unfold a61 at hB
 cases c1:a0s o
 ·rw [c1] at hB;subst hB
  simp [s99,a0f,ht,hg',h1,h,hw1,c1]
 cases c2:decide (o.seq=(a1K o.site l:Int)+1)
 ·rw [c1,c2] at hB;subst hB
  simp [s99,a0f,ht,hg',h1,h,hw1,c1,c2]
 cases c3:wrN l o.after
 ·rw [c1,c2,c3] at hB;subst hB
  simp [s99,a0f,ht,hg',h1,h,hw1,c1,c2,c3]
 rw [c1,c2,c3] at hB
 simp only [Bool.true_and] at hB
 simp [s99,a0f,ht,hg',h1,h,hw1,c1,c2,c3]
 refine vl (fun i:Nat=>i<=o.gone.length/\∀j (hj:j<o.gone.length),j<i->wrN l o.gone[j]=true) (fun i=>mkS [(0,.c (.sl .brw false (a0a l))),(3,.c (.pt (1,1) 0 0)),(5,iv i)] [.var (1,1) 53 (a0f .brw o)]) (fun i=>o.gone.length-i) 0 (by simp) (a0c rfl ?_) ?_
 ·simp [a0f]
 rintro i ⟨hi,hp⟩ J hJ
 by_cases hlt:i<o.gone.length
 ·have hw:IntKind.wrap .i64 ((i:Int)+1)=((i+1:Nat):Int):=by rw [a0d]<;>omega
  cases c4:wrN l o.gone[i]
  ·have:(o.gone.any fun e=>!wrN l e)=true:=List.any_eq_true.2 ⟨_,List.getElem_mem hlt,by simp [c4]⟩
   rw [this] at hB
   simp only [Bool.not_true,Bool.false_and] at hB
   subst hB
   simp [c2Y,a0f,hlt,hw,h,c4]
  ·simp [c2Y,a0f,hlt,hw,h,c4]
   refine hJ (i+1) ⟨by omega,fun j hj hji=>?_⟩ (by omega) _ (a0c rfl ?_)
   ·by_cases f7I:j<i
    ·exact hp j hj f7I
    ·obtain rfl:j=i:=by omega
     exact c4
   ·simp [a0f]
 ·obtain rfl:i=o.gone.length:=by omega
  have:(o.gone.any fun e=>!wrN l e)=false:=by
   rw [List.any_eq_false]
   intro e he
   obtain ⟨j,hj,rfl⟩:=List.mem_iff_getElem.1 he
   simp [hp j hj hj]
  rw [this] at hB
  simp only [Bool.not_false,Bool.true_and] at hB
  subst hB
  cases c5:decide (o.kind=1)
  ·simp [c2Y,a0f,h1,c5]
  ·simp [c2Y,a0f,h1,c5]
def b8r:List AV->Option (Prop×AV):=t2 (fun l o=>b92 l/\o.text.length<1000000/\o.gone.length<1000000) fun (l:List OpV) (o:OpV)=>bv (a61 l o)
@[simp] theorem e3D {l:List AV}:b8r l=(t2 (fun l o=>b92 l/\o.text.length<1000000/\o.gone.length<1000000) fun (l:List OpV) (o:OpV)=>bv (a61 l o)) l:=(rfl)
def b8s:List AV->Option (Prop×AV):=t2 (fun l _=>l.length<4611686018427387904) fun (l:List Int) (n:Int)=>iv (idxOf (fun x=>decide (x=n)) 0 l)
@[simp] theorem e3E {l:List AV}:b8s l=(t2 (fun l _=>l.length<4611686018427387904) fun (l:List Int) (n:Int)=>iv (idxOf (fun x=>decide (x=n)) 0 l)) l:=(rfl)
def FX3:CT:=(99,.pu b8r)::(66,.pu b8s)::FX2
theorem c8y:a1k Tryz.prog FX3:=⟨a0R fun l o h=>c7r l o h.1 h.2.1 h.2.2,
 a0R fun l n h=>d0q l n h,c8x⟩
@[simp] theorem d8Z:a0b FX3 99=some (.pu b8r):=(rfl)
@[simp] theorem d9a:a0b FX3 66=some (.pu b8s):=(rfl)
@[simp] theorem e3F {n:Nat} (h:(n==99||n==66)=false):a0b FX3 n=a0b FX2 n:=by
 simp only [Bool.or_eq_false_iff,beq_eq_false_iff_ne,ne_eq] at h
 simp [FX3,a0b,h]
def a2H:List Int->List OpV->Nat->List a0k->List Int×List OpV×Nat
 |ends,ops,k,[]=>(ends,ops,k)
 |ends,ops,k,x::l=>
  if x.join=true then (if x.a0N∈ends\/(8:Int)<=ends.length then (ends,ops,k) else a2H (ends++[x.a0N]) ops (k+1) l)
  else if (ends.length:Int)<x.op.site\/a61 ops x.op=false\/a96 (ops++[x.op])=false then (ends,ops,k) else a2H ends (ops++[x.op]) (k+1) l
def a19 (r:List Int×List OpV×Nat):AV:=.t [(false,[.sl .old false (a0a r.1)]),(false,[.sl .old false (a0a r.2.1)]),(false,[.raw (.int .i64 r.2.2)])]
theorem a5a (n:Int) (l:List Int):(0<=idxOf (fun x=>decide (x=n)) 0 l)↔n∈l:=by
 rw [a3P];simp
theorem c7s (l:List a0k) (hl:l.length<1000) (h:∀e∈l,a36 e.op.text=true/\e.op.text.length<1000000/\e.op.gone.length<1000000):PEv Tryz.prog 49 [Arg.enc l] (a19 (a2H [] [] 0 l)):=by
 refine a3G mixed c8y Tryz.func49 f5U f5V (by kernel_rfl) (by simp [a19]) (by simp) ?_
 generalize hR:a2H [] [] 0 l=R
 simp [s49]
 refine vl (fun p:Nat×List Int×List OpV=>p.1<=l.length/\a2H p.2.1 p.2.2 p.1 (l.drop p.1)=R/\p.2.1.length<=p.1/\b92 p.2.2/\p.2.2.length<=p.1)
  (fun p=>mkS [(0,.c (.sl .brw false (a0a l))),(5,.c (.so (1,0) 0 p.2.1.length)),(6,.c (.sl .old false (a0a p.2.2))),(7,iv p.1)] [.rows (1,0) 3 1 (a0a p.2.1)]) (fun p=>l.length-p.1) (0,[],[]) ⟨by simp,by simpa using hR,by simp,⟨by simp,by simp⟩,by simp⟩ (a0c rfl ?_) ?_
 ·simp
 rintro ⟨i,ends,ops⟩ ⟨hi,hx,he,ho,hol⟩ J hJ
 simp only at hi hx he ho hol
 by_cases hlt:i<l.length
 ·have hw:IntKind.wrap .i64 ((i:Int)+1)=((i+1:Nat):Int):=by rw [a0d]<;>omega
  obtain ⟨e1,e2,e3⟩:=h _ (List.getElem_mem hlt)
  have hel:ends.length<4611686018427387904:=by omega
  have hc:a2I ends.length (a0a ends)=a0a ends:=a4L (by simp)
  rw [List.drop_eq_getElem_cons hlt,a2H] at hx
  cases cj:l[i].join
  ·rw [if_neg (by simp [cj])] at hx
   have hog:(∀o∈ops,o.gone.length<1000000)=True:=by simp;exact fun o hm=>(ho.2 o hm).2.2
   have hb:b92 (ops++[l[i].op]):=⟨by simp;omega,fun o hm=>by
    rcases List.mem_append.1 hm with hm|hm
    ·exact ho.2 o hm
    ·rw [List.mem_singleton.1 hm];exact ⟨e1,e2,e3⟩⟩
   cases c1:decide ((ends.length:Int)<l[i].op.site)
   rotate_left
   ·rw [if_pos (.inl (of_decide_eq_true c1))] at hx
    subst hx
    simp [b2k,hlt,a0q,a0f,cj,ho.1,hog,e3,c1,a19]
    refine a0A (mkS [(2,.c (.so (1,0) 0 ends.length)),(3,.c (.sl .old false (a0a ops))),(4,iv i)] [.rows (1,0) 3 1 (a0a ends)]) (a0c rfl ?_) ?_<;>simp [a19]
   cases c2:a61 ops l[i].op
   ·rw [if_pos (.inr (.inl c2))] at hx
    subst hx
    simp [b2k,hlt,a0q,a0f,cj,ho,ho.1,hog,e2,e3,c1,c2,a19]
    refine a0A (mkS [(2,.c (.so (1,0) 0 ends.length)),(3,.c (.sl .old false (a0a ops))),(4,iv i)] [.rows (1,0) 3 1 (a0a ends)]) (a0c rfl ?_) ?_<;>simp [a19]
   cases c3:a96 (ops++[l[i].op])
   ·rw [if_pos (.inr (.inr c3))] at hx
    subst hx
    simp [b2k,hlt,a0q,a0f,cj,ho,ho.1,hog,e2,e3,c1,c2,c3,hb,a19]
    refine a0A (mkS [(2,.c (.so (1,0) 0 ends.length)),(3,.c (.sl .old false (a0a ops))),(4,iv i)] [.rows (1,0) 3 1 (a0a ends)]) (a0c rfl ?_) ?_<;>simp [a19]
   ·rw [if_neg (by have:=of_decide_eq_false c1;rintro (q|q|q)<;>first|contradiction|(rw [c2] at q;cases q)|(rw [c3] at q;cases q))] at hx
    simp [b2k,hlt,a0q,a0f,cj,ho,ho.1,hog,e2,e3,c1,c2,c3,hb,hw]
    refine hJ (i+1,ends,ops++[l[i].op]) ⟨by simp;omega,hx,by simp;omega,hb,by simp;omega⟩ (by simp;omega) _ (a0c rfl ?_)
    simp
  ·rw [if_pos cj] at hx
   cases c1:decide (0<=idxOf (fun x=>decide (x=l[i].a0N)) 0 ends)
   rotate_left
   ·have c1':=(a5a _ _).1 (of_decide_eq_true c1)
    rw [if_pos (.inl c1')] at hx
    subst hx
    simp [b2k,hlt,a0q,a0f,cj,hel,c1,a19]
    refine a0A (mkS [(2,.c (.so (1,0) 0 ends.length)),(3,.c (.sl .old false (a0a ops))),(4,iv i)] [.rows (1,0) 3 1 (a0a ends)]) (a0c rfl ?_) ?_<;>simp [a19]
   have c1':l[i].a0N ∉ ends:=fun q=>of_decide_eq_false c1 ((a5a _ _).2 q)
   cases c2:decide ((8:Int)<=ends.length)
   rotate_left
   ·rw [if_pos (.inr (of_decide_eq_true c2))] at hx
    subst hx
    simp [b2k,hlt,a0q,a0f,cj,hel,c1,c2,a19]
    refine a0A (mkS [(2,.c (.so (1,0) 0 ends.length)),(3,.c (.sl .old false (a0a ops))),(4,iv i)] [.rows (1,0) 3 1 (a0a ends)]) (a0c rfl ?_) ?_<;>simp [a19]
   ·rw [if_neg (by have:=of_decide_eq_false c2;rintro (q|q)<;>contradiction)] at hx
    simp [b2k,hlt,a0q,a0f,cj,hel,c1,c2,hw,hc]
    refine ⟨⟨by omega,by omega⟩,hJ (i+1,ends++[l[i].a0N],ops) ⟨by simp;omega,hx,by simp;omega,ho,by simp;omega⟩ (by simp;omega) _ (a0c rfl ?_)⟩
    simp [a1g,a4G]
 ·obtain rfl:i=l.length:=by omega
  simp [a2H] at hx
  subst hx
  simp [b2k,a19]
  refine a0A (mkS [(2,.c (.so (1,0) 0 ends.length)),(3,.c (.sl .old false (a0a ops))),(4,iv l.length)] [.rows (1,0) 3 1 (a0a ends)]) (a0c rfl ?_) ?_<;>simp [a19]
open Go Go.Proofs
def b8t:List AV->Option (Prop×AV):=t1 (fun d:a0l=>d.safe.length<281474976710656/\d.wait.length<281474976710656) fun d:a0l=>bv (a2d d)
@[simp] theorem e3G {l:List AV}:b8t l=(t1 (fun d:a0l=>d.safe.length<281474976710656/\d.wait.length<281474976710656) fun d:a0l=>bv (a2d d)) l:=(rfl)
def b8u:List AV->Option (Prop×AV):=t0 (.c (.str blank))
@[simp] theorem e3H {l:List AV}:b8u l=(t0 (.c (.str blank))) l:=(rfl)
def b8v:List AV->Option (Prop×AV):=t1 (fun d:a0l=>a2d d=true) fun d:a0l=>a2G (a09 d)
@[simp] theorem e3I {l:List AV}:b8v l=(t1 (fun d:a0l=>a2d d=true) fun d:a0l=>a2G (a09 d)) l:=(rfl)
def b8w:List AV->Option (Prop×AV):=t1 (fun l=>l.length<1000/\∀e∈l,a36 e.op.text=true/\e.op.text.length<1000000/\e.op.gone.length<1000000) fun l:List a0k=>a19 (a2H [] [] 0 l)
@[simp] theorem e3J {l:List AV}:b8w l=(t1 (fun l=>l.length<1000/\∀e∈l,a36 e.op.text=true/\e.op.text.length<1000000/\e.op.gone.length<1000000) fun l:List a0k=>a19 (a2H [] [] 0 l)) l:=(rfl)
def b8x:List AV->Option (Prop×AV):=t2 (fun a _=>a.length<4611686018427387904) fun a b:List Int=>bv (decide (a=b))
@[simp] theorem e3K {l:List AV}:b8x l=(t2 (fun a _=>a.length<4611686018427387904) fun a b:List Int=>bv (decide (a=b))) l:=(rfl)
def b8y:List AV->Option (Prop×AV):=t2 (fun a _=>a.length<4611686018427387904/\∀o∈a,o.gone.length<4611686018427387904) fun a b:List OpV=>bv (decide (a=b))
@[simp] theorem e3L {l:List AV}:b8y l=(t2 (fun a _=>a.length<4611686018427387904/\∀o∈a,o.gone.length<4611686018427387904) fun a b:List OpV=>bv (decide (a=b))) l:=(rfl)
def FX4:CT:=(47,.pu b8t)::(38,.pu b8u)::(48,.pu b8v)::(49,.pu b8w)::(50,.pu b8x)::(20,.pu b8y)::FX3
theorem c8z:a1k Tryz.prog FX4:=⟨a0n fun d h=>b1n d h.1 h.2,
 b5s b1a,
 a0n fun d h=>b1A d (a1Y h).1 (by have:=(a1Y h).2.2;omega) (by have:=a42 h;omega),
 a0n fun l h=>c7s l h.1 h.2,
 a0R fun a b h=>b58 a b h,
 a0R fun a b h=>b31 a b h.1 h.2,c8y⟩
@[simp] theorem d9b:a0b FX4 47=some (.pu b8t):=(rfl)
@[simp] theorem d9c:a0b FX4 38=some (.pu b8u):=(rfl)
@[simp] theorem d9d:a0b FX4 48=some (.pu b8v):=(rfl)
@[simp] theorem d9e:a0b FX4 49=some (.pu b8w):=(rfl)
@[simp] theorem d9f:a0b FX4 50=some (.pu b8x):=(rfl)
@[simp] theorem d9g:a0b FX4 20=some (.pu b8y):=(rfl)
@[simp] theorem e3M {n:Nat} (h:(n==47||n==38||n==48||n==49||n==50||n==20)=false):a0b FX4 n=a0b FX3 n:=by
 simp only [Bool.or_eq_false_iff,beq_eq_false_iff_ne,ne_eq] at h
 simp [FX4,a0b,h]
def b6q (l:List (List UInt8)):Nat->Nat->Bool
 |0,_=>true
 |k+1,i=>if h:i<l.length then decide (l[i]=blank)&&b6q l k (i+1) else true
def b0h (r:a0r):Bool:=
 a2d r.disk&&decide (r.disk.wait=[])&&
  (decide ((a2H [] [] 0 (a09 r.disk).1).2.2=(a09 r.disk).1.length)&&decide ((a2H [] [] 0 (a09 r.disk).1).1=r.ends)&&decide ((a2H [] [] 0 (a09 r.disk).1).2.1=r.ops)&&b6q r.disk.safe (r.disk.safe.length-(a09 r.disk).2.2) (a09 r.disk).2.2)
theorem a8q:∀(l:List a0k) (e:List Int) (o:List OpV) (k:Nat),(a2H e o k l).1.length<=e.length+l.length/\(a2H e o k l).2.1.length<=o.length+l.length/\(a2H e o k l).2.2<=k+l.length/\∀x∈(a2H e o k l).2.1,x∈o\/∃y∈l,x=y.op
 |[],e,o,k=>by simp [a2H]
 |x::l,e,o,k=>by
  rw [a2H]
  have stay:e.length<=e.length+(x::l).length/\o.length<=o.length+(x::l).length/\k<=k+(x::l).length/\∀z∈o,z∈o\/∃y∈x::l,z=y.op:=⟨by omega,by omega,by omega,fun z h=>.inl h⟩
  split
  ·split
   ·exact stay
   ·obtain ⟨h1,h2,h3,h4⟩:=a8q l (e++[x.a0N]) o (k+1)
    simp only [List.length_append,List.length_cons,List.length_nil] at h1 ⊢
    refine ⟨by omega,by omega,by omega,fun z hz=>?_⟩
    rcases h4 z hz with h|⟨y,h,e⟩
    ·exact .inl h
    ·exact .inr ⟨y,List.mem_cons_of_mem _ h,e⟩
  ·split
   ·exact stay
   ·obtain ⟨h1,h2,h3,h4⟩:=a8q l e (o++[x.op]) (k+1)
    simp only [List.length_append,List.length_cons,List.length_nil] at h2 ⊢
    refine ⟨by omega,by omega,by omega,fun z hz=>?_⟩
    rcases h4 z hz with h|⟨y,h,e⟩
    ·rcases List.mem_append.1 h with h|h
     ·exact .inl h
     ·exact .inr ⟨x,List.mem_cons_self,List.mem_singleton.1 h⟩
    ·exact .inr ⟨y,List.mem_cons_of_mem _ h,e⟩
theorem c8A {e:a0k} (h:b71 e):a36 e.op.text=true/\e.op.text.length<=700/\e.op.gone.length<=200:=by
 obtain ⟨h1,h2⟩:=h
 have hp:=(a7F h2).1
 cases hj:e.join
 ·have h':=h1
  rw [a0H,if_neg (by simp [hj])] at h'
  simp only [Bool.and_eq_true,decide_eq_true_eq] at h'
  have ht:e.op.text.length<=700:=by
   by_cases hk:e.op.kind=1
   ·have:=a6k hj hk;omega
   ·rw [(a1a h'.2 hk).2.2.1];simp
  exact ⟨c1l h'.2,ht,(b6n h'.2 (by omega)).1⟩
 ·rw [a0H,if_pos hj,a4y] at h1
  simp only [Bool.and_eq_true,decide_eq_true_eq] at h1
  rw [h1.2]
  exact ⟨by decide +kernel,by simp [a0V],by simp [a0V]⟩
theorem b0i {d:a0l} (h:a2d d=true):(a09 d).1=(a2C d).1/\(a09 d).2.2=(a2C d).2.1/\(∀e∈(a09 d).1,b71 e)/\(a09 d).1.length<=d.safe.length/\(a09 d).2.2<=d.safe.length:=by
 obtain ⟨m1,m2,m3⟩:=a1Y h
 obtain ⟨s1,s2⟩:=a8K d.safe.length d.safe 0 m1
 obtain ⟨R,r1,r2,r3⟩:=a7G d.safe.length d.safe 0 m1
 have e1:(a09 d).1=(a2C d).1:=by rw [a2C,if_pos h];exact s1
 have e2:(a09 d).2.2=(a2C d).2.1:=by rw [a2C,if_pos h];exact s2
 refine ⟨e1,e2,fun e he=>r2 e (by rw [<-s1];exact he),?_,?_⟩
 ·rw [e1];exact (a6Y d).1
 ·have:(a1J d.safe.length d.safe 0).2<=d.safe.length:=by
   rw [r3,Nat.zero_add]
   conv=>rhs;rw [r1]
   simp
  exact s2▸this
theorem c4Q (r:a0r) (h:a8S r):PEv Tryz.prog 16 [Arg.enc r] (bv (b0h r)):=by
 obtain ⟨⟨sf,wt⟩,ops,ends⟩:=r
 obtain ⟨h1,h2,h3,h4,h5⟩:=h
 simp only at h1 h2 h3 h4 h5
 have g1:sf.length<281474976710656:=by omega
 have g2:wt.length<281474976710656:=by omega
 refine a0e mixed c8z Tryz.func16 f5D ok16 (by kernel_rfl) (by simp) (by simp [a0u]) ?_
 generalize hB:b0h ⟨⟨sf,wt⟩,ops,ends⟩=B
 unfold b0h at hB
 simp only at hB
 cases c1:a2d ⟨sf,wt⟩
 ·rw [c1] at hB
  simp only [Bool.false_and] at hB
  subst hB
  simp [s16,a0u,g1,g2,c1]
 by_cases c2:wt=[]
 rotate_left
 ·rw [c1,decide_eq_false c2] at hB
  simp only [Bool.true_and,Bool.false_and] at hB
  subst hB
  have:0<wt.length:=List.length_pos_iff.2 c2
  simp [s16,a0u,g1,g2,c1,this]
 subst c2
 obtain ⟨q1,q2,q3,q4,q5⟩:=b0i c1
 rw [c1] at hB
 simp only [decide_true,Bool.true_and] at hB
 generalize hL:a09 ⟨sf,[]⟩=L at *
 obtain ⟨es,ats,en⟩:=L
 simp only at q3 q4 q5 hB
 have hle:sf.length<=400:=(a1Y c1).2.2
 have hes:es.length<1000:=by omega
 have hef:(∀e∈es,a36 e.op.text=true/\e.op.text.length<1000000/\e.op.gone.length<1000000)=True:=by
  simp only [eq_iff_iff,iff_true]
  intro e he
  have:=c8A (q3 e he)
  exact ⟨this.1,by omega,by omega⟩
 have hFl:=a8q es [] [] 0
 generalize hF:a2H [] [] 0 es=F at *
 obtain ⟨fe,fo,fn⟩:=F
 simp only [List.length_nil,Nat.zero_add] at hFl hB
 obtain ⟨f1,f2,f3,f4⟩:=hFl
 have hfe:fe.length<4611686018427387904:=by omega
 have hfo:fo.length<4611686018427387904:=by omega
 have hfg:(∀o∈fo,o.gone.length<4611686018427387904)=True:=by
  simp only [eq_iff_iff,iff_true]
  intro o ho
  rcases f4 o ho with h|⟨y,hy,rfl⟩
  ·simp at h
  ·have:=c8A (q3 y hy);omega
 have hfn:fn<4611686018427387904:=by omega
 cases c3:decide (fn=es.length)
 ·rw [c3] at hB
  simp only [Bool.false_and] at hB
  subst hB
  simp [s16,a0u,g1,g2,c1,hL,a2G,hes,hef,hF,a19,c3]
 cases c4:decide (fe=ends)
 ·rw [c3,c4] at hB
  simp only [Bool.false_and,Bool.true_and] at hB
  subst hB
  simp [s16,a0u,g1,g2,c1,hL,a2G,hes,hef,hF,a19,hfe,c3,c4]
 cases c5:decide (fo=ops)
 ·rw [c3,c4,c5] at hB
  simp only [Bool.false_and,Bool.true_and] at hB
  subst hB
  simp [s16,a0u,g1,g2,c1,hL,a2G,hes,hef,hF,a19,hfe,hfo,hfg,c3,c4,c5]
 rw [c3,c4,c5] at hB
 simp only [Bool.true_and] at hB
 simp [s16,a0u,g1,g2,c1,hL,a2G,hes,hef,hF,a19,hfe,hfo,hfg,c3,c4,c5]
 refine vl (fun i:Nat=>i<=sf.length/\b6q sf (sf.length-i) i=B) (fun i=>mkS [(1,.c (.pt (1,1) 0 0)),(9,iv i)] [.var (1,1) 29 (a0u .brw ⟨⟨sf,[]⟩,ops,ends⟩)]) (fun i=>sf.length-i) en ⟨q5,hB⟩ (a0c rfl ?_) ?_
 ·simp [a0u]
 rintro i ⟨hi,hx⟩ J hJ
 by_cases hlt:i<sf.length
 ·have hw:IntKind.wrap .i64 ((i:Int)+1)=((i+1:Nat):Int):=by rw [a0d]<;>omega
  obtain ⟨k,hk⟩:∃k,sf.length-i=k+1:=⟨sf.length-i-1,by omega⟩
  rw [hk,b6q,dif_pos hlt] at hx
  cases c6:decide (sf[i]=blank)
  ·rw [c6] at hx
   simp only [Bool.false_and] at hx
   subst hx
   simp [c6o,a0u,hlt,c6]
  ·rw [c6,Bool.true_and] at hx
   simp [c6o,a0u,hlt,c6,hw]
   refine hJ (i+1) ⟨by omega,by rw [show sf.length-(i+1)=k by omega];exact hx⟩ (by omega) _ (a0c rfl ?_)
   simp [a0u]
 ·obtain rfl:i=sf.length:=by omega
  rw [Nat.sub_self,b6q] at hx
  subst hx
  simp [c6o,a0u]
open Go
theorem a8r:∀(l:List a0k) (e:List Int) (o:List OpV) (k:Nat),a04 o=true->
  (∃r',a1M ⟨a3c,o,e⟩ l=some r'/\a2H e o k l=(r'.ends,r'.ops,k+l.length))\/(a1M ⟨a3c,o,e⟩ l=none/\(a2H e o k l).2.2<k+l.length)
 |[],e,o,k,h=>.inl ⟨_,rfl,rfl⟩
 |x::l,e,o,k,h=>by
  rw [a2H,a1M]
  cases hj:x.join
  ·have ht:=a97 h x.op
   by_cases hc:(e.length:Int)<x.op.site\/a04 (o++[x.op])=false
   ·right
    have hg:(a1y ⟨a3c,o,e⟩ x).2=false:=by rw [a1y,if_neg (by simp [hj]),if_pos hc]
    have hc':(e.length:Int)<x.op.site\/a61 o x.op=false\/a96 (o++[x.op])=false:=by
     rcases hc with hc|hc
     ·exact .inl hc
     ·rw [hc] at ht
      rcases hg2:a61 o x.op with _|_
      ·exact .inr (.inl rfl)
      ·rw [hg2,Bool.true_and] at ht;exact .inr (.inr ht.symm)
    rw [if_neg (by simp [hg]),if_neg (by simp),if_pos hc']
    exact ⟨rfl,by simp⟩
   ·have hg:a1y ⟨a3c,o,e⟩ x=(⟨a3c,o++[x.op],e⟩,true):=by rw [a1y,if_neg (by simp [hj]),if_neg hc]
    rw [not_or] at hc
    have hb:a04 (o++[x.op])=true:=by simpa using hc.2
    rw [hb] at ht
    have ht2:=ht.symm
    rw [Bool.and_eq_true] at ht2
    have hc':¬((e.length:Int)<x.op.site\/a61 o x.op=false\/a96 (o++[x.op])=false):=by
     rintro (q|q|q)
     ·exact hc.1 q
     ·rw [ht2.1] at q;cases q
     ·rw [ht2.2] at q;cases q
    rw [hg,if_pos rfl,if_neg (by simp),if_neg hc']
    rcases a8r l e (o++[x.op]) (k+1) hb with ⟨r',h1,h2⟩|⟨h1,h2⟩
    ·exact .inl ⟨r',h1,by rw [h2,List.length_cons];congr 2;omega⟩
    ·exact .inr ⟨h1,by rw [List.length_cons];omega⟩
  ·by_cases hc:x.a0N∈e\/(8:Int)<=e.length
   ·right
    have hg:(a1y ⟨a3c,o,e⟩ x).2=false:=by
     rw [a1y,if_pos hj,if_pos (by rcases hc with h|h;exact .inr h;exact .inl (by simp only;omega))]
    rw [if_neg (by simp [hg]),if_pos rfl,if_pos hc]
    exact ⟨rfl,by simp⟩
   ·have hg:a1y ⟨a3c,o,e⟩ x=(⟨a3c,o,e++[x.a0N]⟩,true):=by
     rw [a1y,if_pos hj,if_neg (by rw [not_or] at hc ⊢;exact ⟨by simp only;omega,hc.1⟩)]
    rw [hg,if_pos rfl,if_pos rfl,if_neg hc]
    rcases a8r l (e++[x.a0N]) o (k+1) h with ⟨r',h1,h2⟩|⟨h1,h2⟩
    ·exact .inl ⟨r',h1,by rw [h2,List.length_cons];congr 2;omega⟩
    ·exact .inr ⟨h1,by rw [List.length_cons];omega⟩
theorem b93 (l:List (List UInt8)):∀(k i:Nat),k=l.length-i->b6q l k i=!((l.drop i).any fun s=>!decide (s=blank))
 |0,i,h=>by rw [b6q,List.drop_of_length_le (by omega)];rfl
 |k+1,i,h=>by
  have hi:i<l.length:=by omega
  rw [b6q,dif_pos hi,List.drop_eq_getElem_cons hi,List.any_cons,b93 l k (i+1) (by omega)]
  cases decide (l[i]=blank)<;>simp
theorem c4R (r:a0r):b0h r=a1P r:=by
 obtain ⟨⟨sf,wt⟩,ops,ends⟩:=r
 unfold b0h a1P
 simp only
 cases c1:a2d ⟨sf,wt⟩
 ·rfl
 by_cases c2:wt=[]
 rotate_left
 ·rw [decide_eq_false c2];rfl
 subst c2
 obtain ⟨q1,q2,q3,q4,q5⟩:=b0i c1
 obtain ⟨m1,m2,m3⟩:=a1Y c1
 obtain ⟨R,r1,r2,r3⟩:=a7G sf.length sf 0 m1
 have hload:a2C ⟨sf,[]⟩=((a1J sf.length sf 0).1,(a1J sf.length sf 0).2,0):=by rw [a2C,if_pos c1]
 have hen:(a09 ⟨sf,[]⟩).2.2=(a2j (a2C ⟨sf,[]⟩).1).length:=by rw [q2,hload];simp only;rw [r3,Nat.zero_add]
 simp only [decide_true,Bool.true_and]
 rw [q1]
 rcases a8r (a2C ⟨sf,[]⟩).1 [] [] 0 a98 with ⟨r',h1,h2⟩|⟨h1,h2⟩
 ·have ht:a2c ⟨sf,[]⟩=(r',(a2j (a2C ⟨sf,[]⟩).1).length):=by rw [a2c,a7H _ a2t _ 0 h1,Nat.zero_add]
  rw [h2,ht,hen,b93 _ _ _ rfl]
  simp
 ·have e1:decide ((a2H [] [] 0 (a2C ⟨sf,[]⟩).1).2.2=(a2C ⟨sf,[]⟩).1.length)=false:=by
   rw [decide_eq_false_iff_not];omega
  rw [e1]
  simp only [Bool.false_and]
  cases hm:a1P ⟨⟨sf,[]⟩,ops,ends⟩
  ·have:=hm
   unfold a1P at this
   simp only [c1,decide_true,Bool.true_and] at this
   exact this.symm
  ·obtain ⟨es,k,hI⟩:=a47 hm
   have:=hI.load
   simp only at this
   rw [this] at h1
   simp only at h1
   have h3:=hI.all
   rw [show a2t=⟨a3c,[],[]⟩ from rfl,h1] at h3
   cases h3
open Go Go.Proofs
def b8z:List AV->Option (Prop×AV):=t3 (fun _ _ _=>True) fun n a b:Int=>bv (decide (a<=n)&&decide (n<=b))
@[simp] theorem e3N {l:List AV}:b8z l=(t3 (fun _ _ _=>True) fun n a b:Int=>bv (decide (a<=n)&&decide (n<=b))) l:=(rfl)
def b8A:List AV->Option (Prop×AV):=t2 (fun _ _=>True) fun n hi:Int=>bv (decide (0<=n)&&decide (n<=hi))
@[simp] theorem e3O {l:List AV}:b8A l=(t2 (fun _ _=>True) fun n hi:Int=>bv (decide (0<=n)&&decide (n<=hi))) l:=(rfl)
def b8B:List AV->Option (Prop×AV):=t2 (fun a _=>okM a) fun a b:a1A=>bv (decide (a=b))
@[simp] theorem e3P {l:List AV}:b8B l=(t2 (fun a _=>okM a) fun a b:a1A=>bv (decide (a=b))) l:=(rfl)
def FX5:CT:=(43,.pu b8z)::(63,.pu b8A)::(22,.pu b8B)::FX4
theorem d9h:a1k Tryz.prog FX5:=⟨a6w fun n a b _=>b02 (F:=[]) trivial n a b,
 a0R fun n hi _=>b9u n hi,
 a0R fun a b h=>b9S a b h,c8z⟩
@[simp] theorem d9i:a0b FX5 43=some (.pu b8z):=(rfl)
@[simp] theorem d9j:a0b FX5 63=some (.pu b8A):=(rfl)
@[simp] theorem d9k:a0b FX5 22=some (.pu b8B):=(rfl)
@[simp] theorem e3Q {n:Nat} (h:(n==43||n==63||n==22)=false):a0b FX5 n=a0b FX4 n:=by
 simp only [Bool.or_eq_false_iff,beq_eq_false_iff_ne,ne_eq] at h
 simp [FX5,a0b,h]
def c1m (m:a1A):Bool×a1A:=
 if m.kind=1 then (b0I m.a0N,⟨1,0,m.a0N,0,0,0,[]⟩)
 else if m.kind=2 then ((b0I m.a0N&&a3d m.site),⟨2,m.site,m.a0N,0,0,0,[]⟩)
 else if m.kind=3 then ((a3d m.site&&countB m.known),⟨3,m.site,0,m.known,0,0,[]⟩)
 else if m.kind=4 then ((a3d m.site&&countB m.known&&decide ((m.ops.length:Int)=1)),⟨4,m.site,0,m.known,0,0,m.ops⟩)
 else if m.kind=5 then ((countB m.known&&decide ((m.ops.length:Int)<=4)),⟨5,0,0,m.known,0,0,m.ops⟩)
 else if m.kind=6 then ((a3d m.site&&b0I m.seq&&decide (1<=m.err)&&decide (m.err<=8)),⟨6,m.site,0,0,m.seq,m.err,[]⟩)
 else (false,m)
def a3e (m:a1A):Bool:=(c1m m).1&&!(m.ops.any fun o=>!a0s o)&&decide (m=(c1m m).2)
@[simp] theorem e3R (a b c d e f:Int):Arg.dec (.g [.raw (.int .i64 a),.raw (.int .i64 b),.raw (.int .i64 c),.raw (.int .i64 d),.raw (.int .i64 e),.raw (.int .i64 f),.sl .brw false []])=some (a1A.mk a b c d e f []):=d0s a b c d e f []
theorem a6p {l:List OpV} {i:Nat} (h:false=(true&&(l.take i).all a0s)):(l.any fun o=>!a0s o)=true:=by
 rw [Bool.true_and] at h
 have h:=h.symm
 rw [List.all_eq_false] at h
 obtain ⟨o,ho,hb⟩:=h
 exact List.any_eq_true.2 ⟨o,List.mem_of_mem_take ho,by simpa using hb⟩
theorem a6q {l:List OpV} {i:Nat} (hi:i<l.length) (h:true=(true&&(l.take i).all a0s)):a0s l[i]=(true&&(l.take (i+1)).all a0s):=by
 rw [Bool.true_and] at h
 rw [Bool.true_and,<-List.take_append_getElem hi,List.all_append,<-h]
 simp
theorem a8s {l:List OpV} (h:true=(true&&(l.take l.length).all a0s)):(l.any fun o=>!a0s o)=false:=by
 rw [Bool.true_and,List.take_length] at h
 rw [List.any_eq_false]
 intro o ho
 simp [List.all_eq_true.1 h.symm o ho]
theorem c4S (m:a1A) (h:okM m):PEv Tryz.prog 23 [Arg.enc m] (bv (a3e m)):=by
 have hm:=h
 refine a0e mixed d9h Tryz.func23 f5I f5J (by kernel_rfl) (by simp) (by simp [a0p,a0y]) ?_
 obtain ⟨a1,a2,a3,a4,a5,a6,l⟩:=m
 obtain ⟨hl,hlo⟩:=h
 simp only at hl hlo
 have eB:∀n:Int,(decide (1<=n)&&decide (n<=268435456))=b0I n:=fun _=>rfl
 have eC:∀n:Int,(decide (0<=n)&&decide (n<=40))=countB n:=fun _=>rfl
 have eS:∀n:Int,(decide (1<=n)&&decide (n<=8))=a3d n:=fun _=>by simp [a3d]
 generalize hM:a3e ⟨a1,a2,a3,a4,a5,a6,l⟩=M
 unfold a3e c1m at hM
 simp only at hM
 by_cases k1:a1=1
 ·subst k1
  rw [if_pos rfl] at hM
  simp only at hM
  cases d1:b0I a3
  ·rw [d1] at hM
   simp only [Bool.and_true,Bool.true_and,Bool.false_and,Bool.and_false] at hM
   subst hM
   simp only [a1Z,a0p,a0y]
   simp [s23,eB,eC,eS,d1]
   refine vl (fun p:Nat×Bool=>p.1<=l.length/\p.2=(false&&(l.take p.1).all a0s)) (fun p=>mkS [(1,.c (.pt (1,1) 0 0)),(3,.c (.pt (1,2) 0 0)),(4,bv p.2),(6,iv p.1)] [.var (1,1) 38 (a0p .brw ⟨1,a2,a3,a4,a5,a6,l⟩),.var (1,2) 38 (a0p .brw ⟨1,0,a3,0,0,0,[]⟩)]) (fun p=>l.length-p.1) (0,false) ⟨by simp,by simp⟩ (a0c rfl ?_) ?_
   ·simp [a0p,a0y]
   rintro ⟨i,ok⟩ ⟨hi,hok⟩ J hJ
   simp only at hi hok
   cases ok
   ·by_cases hlt:i<l.length<;>simp only [a0p,a0y]<;>simp [a2R,hlt]
   ·simp at hok
  rw [d1] at hM
  simp only [Bool.and_true,Bool.true_and,Bool.false_and,Bool.and_false] at hM
  simp only [a1Z,a0p,a0y]
  simp [s23,eB,eC,eS,d1]
  refine vl (fun p:Nat×Bool=>p.1<=l.length/\p.2=(true&&(l.take p.1).all a0s)) (fun p=>mkS [(1,.c (.pt (1,1) 0 0)),(3,.c (.pt (1,2) 0 0)),(4,bv p.2),(6,iv p.1)] [.var (1,1) 38 (a0p .brw ⟨1,a2,a3,a4,a5,a6,l⟩),.var (1,2) 38 (a0p .brw ⟨1,0,a3,0,0,0,[]⟩)]) (fun p=>l.length-p.1) (0,true) ⟨by simp,by simp⟩ (a0c rfl ?_) ?_
  ·simp [a0p,a0y]
  rintro ⟨i,ok⟩ ⟨hi,hok⟩ J hJ
  simp only at hi hok
  cases ok
  ·have hMf:M=false:=by rw [<-hM,a6p hok];rfl
   by_cases hlt:i<l.length<;>simp only [a0p,a0y]<;>simp [a2R,hlt,hMf]
  by_cases hlt:i<l.length
  ·have hw:IntKind.wrap .i64 ((i:Int)+1)=((i+1:Nat):Int):=by rw [a0d]<;>omega
   have ho:=hlo _ (List.getElem_mem hlt)
   have ho2:l[i].gone.length<4611686018427387904:=by omega
   simp only [a0p,a0y]
   simp [a2R,hlt,a0f,ho.1,ho2,hw]
   refine hJ (i+1,a0s l[i]) ⟨by simp;omega,a6q hlt hok⟩ (by simp;omega) _ (a0c rfl ?_)
   simp [a0p,a0y]
  ·obtain rfl:i=l.length:=by omega
   simp only [a0p,a0y]
   simp [a2R,hm]
   rw [<-hM,a8s hok];simp
 rw [if_neg k1] at hM
 by_cases k2:a1=2
 ·subst k2
  rw [if_pos rfl] at hM
  simp only at hM
  cases d1:b0I a3
  ·rw [d1] at hM
   simp only [Bool.and_true,Bool.true_and,Bool.false_and,Bool.and_false] at hM
   subst hM
   simp only [a1Z,a0p,a0y]
   simp [s23,eB,eC,eS,d1]
   refine vl (fun p:Nat×Bool=>p.1<=l.length/\p.2=(false&&(l.take p.1).all a0s)) (fun p=>mkS [(1,.c (.pt (1,1) 0 0)),(3,.c (.pt (1,2) 0 0)),(4,bv p.2),(6,iv p.1)] [.var (1,1) 38 (a0p .brw ⟨2,a2,a3,a4,a5,a6,l⟩),.var (1,2) 38 (a0p .brw ⟨2,a2,a3,0,0,0,[]⟩)]) (fun p=>l.length-p.1) (0,false) ⟨by simp,by simp⟩ (a0c rfl ?_) ?_
   ·simp [a0p,a0y]
   rintro ⟨i,ok⟩ ⟨hi,hok⟩ J hJ
   simp only at hi hok
   cases ok
   ·by_cases hlt:i<l.length<;>simp only [a0p,a0y]<;>simp [a2R,hlt]
   ·simp at hok
  cases d2:a3d a2
  ·rw [d1,d2] at hM
   simp only [Bool.and_true,Bool.true_and,Bool.false_and,Bool.and_false] at hM
   subst hM
   simp only [a1Z,a0p,a0y]
   simp [s23,eB,eC,eS,d1,d2]
   refine vl (fun p:Nat×Bool=>p.1<=l.length/\p.2=(false&&(l.take p.1).all a0s)) (fun p=>mkS [(1,.c (.pt (1,1) 0 0)),(3,.c (.pt (1,2) 0 0)),(4,bv p.2),(6,iv p.1)] [.var (1,1) 38 (a0p .brw ⟨2,a2,a3,a4,a5,a6,l⟩),.var (1,2) 38 (a0p .brw ⟨2,a2,a3,0,0,0,[]⟩)]) (fun p=>l.length-p.1) (0,false) ⟨by simp,by simp⟩ (a0c rfl ?_) ?_
   ·simp [a0p,a0y]
   rintro ⟨i,ok⟩ ⟨hi,hok⟩ J hJ
   simp only at hi hok
   cases ok
   ·by_cases hlt:i<l.length<;>simp only [a0p,a0y]<;>simp [a2R,hlt]
   ·simp at hok
  rw [d1,d2] at hM
  simp only [Bool.and_true,Bool.true_and,Bool.false_and,Bool.and_false] at hM
  simp only [a1Z,a0p,a0y]
  simp [s23,eB,eC,eS,d1,d2]
  refine vl (fun p:Nat×Bool=>p.1<=l.length/\p.2=(true&&(l.take p.1).all a0s)) (fun p=>mkS [(1,.c (.pt (1,1) 0 0)),(3,.c (.pt (1,2) 0 0)),(4,bv p.2),(6,iv p.1)] [.var (1,1) 38 (a0p .brw ⟨2,a2,a3,a4,a5,a6,l⟩),.var (1,2) 38 (a0p .brw ⟨2,a2,a3,0,0,0,[]⟩)]) (fun p=>l.length-p.1) (0,true) ⟨by simp,by simp⟩ (a0c rfl ?_) ?_
  ·simp [a0p,a0y]
  rintro ⟨i,ok⟩ ⟨hi,hok⟩ J hJ
  simp only at hi hok
  cases ok
  ·have hMf:M=false:=by rw [<-hM,a6p hok];rfl
   by_cases hlt:i<l.length<;>simp only [a0p,a0y]<;>simp [a2R,hlt,hMf]
  by_cases hlt:i<l.length
  ·have hw:IntKind.wrap .i64 ((i:Int)+1)=((i+1:Nat):Int):=by rw [a0d]<;>omega
   have ho:=hlo _ (List.getElem_mem hlt)
   have ho2:l[i].gone.length<4611686018427387904:=by omega
   simp only [a0p,a0y]
   simp [a2R,hlt,a0f,ho.1,ho2,hw]
   refine hJ (i+1,a0s l[i]) ⟨by simp;omega,a6q hlt hok⟩ (by simp;omega) _ (a0c rfl ?_)
   simp [a0p,a0y]
  ·obtain rfl:i=l.length:=by omega
   simp only [a0p,a0y]
   simp [a2R,hm]
   rw [<-hM,a8s hok];simp
 rw [if_neg k2] at hM
 by_cases k3:a1=3
 ·subst k3
  rw [if_pos rfl] at hM
  simp only at hM
  cases d1:a3d a2
  ·rw [d1] at hM
   simp only [Bool.and_true,Bool.true_and,Bool.false_and,Bool.and_false] at hM
   subst hM
   simp only [a1Z,a0p,a0y]
   simp [s23,eB,eC,eS,d1]
   refine vl (fun p:Nat×Bool=>p.1<=l.length/\p.2=(false&&(l.take p.1).all a0s)) (fun p=>mkS [(1,.c (.pt (1,1) 0 0)),(3,.c (.pt (1,2) 0 0)),(4,bv p.2),(6,iv p.1)] [.var (1,1) 38 (a0p .brw ⟨3,a2,a3,a4,a5,a6,l⟩),.var (1,2) 38 (a0p .brw ⟨3,a2,0,a4,0,0,[]⟩)]) (fun p=>l.length-p.1) (0,false) ⟨by simp,by simp⟩ (a0c rfl ?_) ?_
   ·simp [a0p,a0y]
   rintro ⟨i,ok⟩ ⟨hi,hok⟩ J hJ
   simp only at hi hok
   cases ok
   ·by_cases hlt:i<l.length<;>simp only [a0p,a0y]<;>simp [a2R,hlt]
   ·simp at hok
  cases d2:countB a4
  ·rw [d1,d2] at hM
   simp only [Bool.and_true,Bool.true_and,Bool.false_and,Bool.and_false] at hM
   subst hM
   simp only [a1Z,a0p,a0y]
   simp [s23,eB,eC,eS,d1,d2]
   refine vl (fun p:Nat×Bool=>p.1<=l.length/\p.2=(false&&(l.take p.1).all a0s)) (fun p=>mkS [(1,.c (.pt (1,1) 0 0)),(3,.c (.pt (1,2) 0 0)),(4,bv p.2),(6,iv p.1)] [.var (1,1) 38 (a0p .brw ⟨3,a2,a3,a4,a5,a6,l⟩),.var (1,2) 38 (a0p .brw ⟨3,a2,0,a4,0,0,[]⟩)]) (fun p=>l.length-p.1) (0,false) ⟨by simp,by simp⟩ (a0c rfl ?_) ?_
   ·simp [a0p,a0y]
   rintro ⟨i,ok⟩ ⟨hi,hok⟩ J hJ
   simp only at hi hok
   cases ok
   ·by_cases hlt:i<l.length<;>simp only [a0p,a0y]<;>simp [a2R,hlt]
   ·simp at hok
  rw [d1,d2] at hM
  simp only [Bool.and_true,Bool.true_and,Bool.false_and,Bool.and_false] at hM
  simp only [a1Z,a0p,a0y]
  simp [s23,eB,eC,eS,d1,d2]
  refine vl (fun p:Nat×Bool=>p.1<=l.length/\p.2=(true&&(l.take p.1).all a0s)) (fun p=>mkS [(1,.c (.pt (1,1) 0 0)),(3,.c (.pt (1,2) 0 0)),(4,bv p.2),(6,iv p.1)] [.var (1,1) 38 (a0p .brw ⟨3,a2,a3,a4,a5,a6,l⟩),.var (1,2) 38 (a0p .brw ⟨3,a2,0,a4,0,0,[]⟩)]) (fun p=>l.length-p.1) (0,true) ⟨by simp,by simp⟩ (a0c rfl ?_) ?_
  ·simp [a0p,a0y]
  rintro ⟨i,ok⟩ ⟨hi,hok⟩ J hJ
  simp only at hi hok
  cases ok
  ·have hMf:M=false:=by rw [<-hM,a6p hok];rfl
   by_cases hlt:i<l.length<;>simp only [a0p,a0y]<;>simp [a2R,hlt,hMf]
  by_cases hlt:i<l.length
  ·have hw:IntKind.wrap .i64 ((i:Int)+1)=((i+1:Nat):Int):=by rw [a0d]<;>omega
   have ho:=hlo _ (List.getElem_mem hlt)
   have ho2:l[i].gone.length<4611686018427387904:=by omega
   simp only [a0p,a0y]
   simp [a2R,hlt,a0f,ho.1,ho2,hw]
   refine hJ (i+1,a0s l[i]) ⟨by simp;omega,a6q hlt hok⟩ (by simp;omega) _ (a0c rfl ?_)
   simp [a0p,a0y]
  ·obtain rfl:i=l.length:=by omega
   simp only [a0p,a0y]
   simp [a2R,hm]
   rw [<-hM,a8s hok];simp
 rw [if_neg k3] at hM
 by_cases k4:a1=4
 ·subst k4
  rw [if_pos rfl] at hM
  simp only at hM
  cases d1:a3d a2
  ·rw [d1] at hM
   simp only [Bool.and_true,Bool.true_and,Bool.false_and,Bool.and_false] at hM
   subst hM
   simp only [a1Z,a0p,a0y]
   simp [s23,eB,eC,eS,d1]
   refine vl (fun p:Nat×Bool=>p.1<=l.length/\p.2=(false&&(l.take p.1).all a0s)) (fun p=>mkS [(1,.c (.pt (1,1) 0 0)),(3,.c (.pt (1,2) 0 0)),(4,bv p.2),(6,iv p.1)] [.var (1,1) 38 (a0p .brw ⟨4,a2,a3,a4,a5,a6,l⟩),.var (1,2) 38 (a0p .brw ⟨4,a2,0,a4,0,0,l⟩)]) (fun p=>l.length-p.1) (0,false) ⟨by simp,by simp⟩ (a0c rfl ?_) ?_
   ·simp [a0p,a0y]
   rintro ⟨i,ok⟩ ⟨hi,hok⟩ J hJ
   simp only at hi hok
   cases ok
   ·by_cases hlt:i<l.length<;>simp only [a0p,a0y]<;>simp [a2R,hlt]
   ·simp at hok
  cases d2:countB a4
  ·rw [d1,d2] at hM
   simp only [Bool.and_true,Bool.true_and,Bool.false_and,Bool.and_false] at hM
   subst hM
   simp only [a1Z,a0p,a0y]
   simp [s23,eB,eC,eS,d1,d2]
   refine vl (fun p:Nat×Bool=>p.1<=l.length/\p.2=(false&&(l.take p.1).all a0s)) (fun p=>mkS [(1,.c (.pt (1,1) 0 0)),(3,.c (.pt (1,2) 0 0)),(4,bv p.2),(6,iv p.1)] [.var (1,1) 38 (a0p .brw ⟨4,a2,a3,a4,a5,a6,l⟩),.var (1,2) 38 (a0p .brw ⟨4,a2,0,a4,0,0,l⟩)]) (fun p=>l.length-p.1) (0,false) ⟨by simp,by simp⟩ (a0c rfl ?_) ?_
   ·simp [a0p,a0y]
   rintro ⟨i,ok⟩ ⟨hi,hok⟩ J hJ
   simp only at hi hok
   cases ok
   ·by_cases hlt:i<l.length<;>simp only [a0p,a0y]<;>simp [a2R,hlt]
   ·simp at hok
  cases d3:decide ((l.length:Int)=1)
  ·rw [d1,d2,d3] at hM
   simp only [Bool.and_true,Bool.true_and,Bool.false_and,Bool.and_false] at hM
   subst hM
   simp only [a1Z,a0p,a0y]
   simp [s23,eB,eC,eS,d1,d2,d3]
   refine vl (fun p:Nat×Bool=>p.1<=l.length/\p.2=(false&&(l.take p.1).all a0s)) (fun p=>mkS [(1,.c (.pt (1,1) 0 0)),(3,.c (.pt (1,2) 0 0)),(4,bv p.2),(6,iv p.1)] [.var (1,1) 38 (a0p .brw ⟨4,a2,a3,a4,a5,a6,l⟩),.var (1,2) 38 (a0p .brw ⟨4,a2,0,a4,0,0,l⟩)]) (fun p=>l.length-p.1) (0,false) ⟨by simp,by simp⟩ (a0c rfl ?_) ?_
   ·simp [a0p,a0y]
   rintro ⟨i,ok⟩ ⟨hi,hok⟩ J hJ
   simp only at hi hok
   cases ok
   ·by_cases hlt:i<l.length<;>simp only [a0p,a0y]<;>simp [a2R,hlt]
   ·simp at hok
  rw [d1,d2,d3] at hM
  simp only [Bool.and_true,Bool.true_and,Bool.false_and,Bool.and_false] at hM
  simp only [a1Z,a0p,a0y]
  simp [s23,eB,eC,eS,d1,d2,d3]
  refine vl (fun p:Nat×Bool=>p.1<=l.length/\p.2=(true&&(l.take p.1).all a0s)) (fun p=>mkS [(1,.c (.pt (1,1) 0 0)),(3,.c (.pt (1,2) 0 0)),(4,bv p.2),(6,iv p.1)] [.var (1,1) 38 (a0p .brw ⟨4,a2,a3,a4,a5,a6,l⟩),.var (1,2) 38 (a0p .brw ⟨4,a2,0,a4,0,0,l⟩)]) (fun p=>l.length-p.1) (0,true) ⟨by simp,by simp⟩ (a0c rfl ?_) ?_
  ·simp [a0p,a0y]
  rintro ⟨i,ok⟩ ⟨hi,hok⟩ J hJ
  simp only at hi hok
  cases ok
  ·have hMf:M=false:=by rw [<-hM,a6p hok];rfl
   by_cases hlt:i<l.length<;>simp only [a0p,a0y]<;>simp [a2R,hlt,hMf]
  by_cases hlt:i<l.length
  ·have hw:IntKind.wrap .i64 ((i:Int)+1)=((i+1:Nat):Int):=by rw [a0d]<;>omega
   have ho:=hlo _ (List.getElem_mem hlt)
   have ho2:l[i].gone.length<4611686018427387904:=by omega
   simp only [a0p,a0y]
   simp [a2R,hlt,a0f,ho.1,ho2,hw]
   refine hJ (i+1,a0s l[i]) ⟨by simp;omega,a6q hlt hok⟩ (by simp;omega) _ (a0c rfl ?_)
   simp [a0p,a0y]
  ·obtain rfl:i=l.length:=by omega
   simp only [a0p,a0y]
   simp [a2R,hm]
   rw [<-hM,a8s hok];simp
 rw [if_neg k4] at hM
 by_cases k5:a1=5
 ·subst k5
  rw [if_pos rfl] at hM
  simp only at hM
  cases d1:countB a4
  ·rw [d1] at hM
   simp only [Bool.and_true,Bool.true_and,Bool.false_and,Bool.and_false] at hM
   subst hM
   simp only [a1Z,a0p,a0y]
   simp [s23,eB,eC,eS,d1]
   refine vl (fun p:Nat×Bool=>p.1<=l.length/\p.2=(false&&(l.take p.1).all a0s)) (fun p=>mkS [(1,.c (.pt (1,1) 0 0)),(3,.c (.pt (1,2) 0 0)),(4,bv p.2),(6,iv p.1)] [.var (1,1) 38 (a0p .brw ⟨5,a2,a3,a4,a5,a6,l⟩),.var (1,2) 38 (a0p .brw ⟨5,0,0,a4,0,0,l⟩)]) (fun p=>l.length-p.1) (0,false) ⟨by simp,by simp⟩ (a0c rfl ?_) ?_
   ·simp [a0p,a0y]
   rintro ⟨i,ok⟩ ⟨hi,hok⟩ J hJ
   simp only at hi hok
   cases ok
   ·by_cases hlt:i<l.length<;>simp only [a0p,a0y]<;>simp [a2R,hlt]
   ·simp at hok
  cases d2:decide ((l.length:Int)<=4)
  ·rw [d1,d2] at hM
   simp only [Bool.and_true,Bool.true_and,Bool.false_and,Bool.and_false] at hM
   subst hM
   simp only [a1Z,a0p,a0y]
   simp [s23,eB,eC,eS,d1,d2]
   refine vl (fun p:Nat×Bool=>p.1<=l.length/\p.2=(false&&(l.take p.1).all a0s)) (fun p=>mkS [(1,.c (.pt (1,1) 0 0)),(3,.c (.pt (1,2) 0 0)),(4,bv p.2),(6,iv p.1)] [.var (1,1) 38 (a0p .brw ⟨5,a2,a3,a4,a5,a6,l⟩),.var (1,2) 38 (a0p .brw ⟨5,0,0,a4,0,0,l⟩)]) (fun p=>l.length-p.1) (0,false) ⟨by simp,by simp⟩ (a0c rfl ?_) ?_
   ·simp [a0p,a0y]
   rintro ⟨i,ok⟩ ⟨hi,hok⟩ J hJ
   simp only at hi hok
   cases ok
   ·by_cases hlt:i<l.length<;>simp only [a0p,a0y]<;>simp [a2R,hlt]
   ·simp at hok
  rw [d1,d2] at hM
  simp only [Bool.and_true,Bool.true_and,Bool.false_and,Bool.and_false] at hM
  simp only [a1Z,a0p,a0y]
  simp [s23,eB,eC,eS,d1,d2]
  refine vl (fun p:Nat×Bool=>p.1<=l.length/\p.2=(true&&(l.take p.1).all a0s)) (fun p=>mkS [(1,.c (.pt (1,1) 0 0)),(3,.c (.pt (1,2) 0 0)),(4,bv p.2),(6,iv p.1)] [.var (1,1) 38 (a0p .brw ⟨5,a2,a3,a4,a5,a6,l⟩),.var (1,2) 38 (a0p .brw ⟨5,0,0,a4,0,0,l⟩)]) (fun p=>l.length-p.1) (0,true) ⟨by simp,by simp⟩ (a0c rfl ?_) ?_
  ·simp [a0p,a0y]
  rintro ⟨i,ok⟩ ⟨hi,hok⟩ J hJ
  simp only at hi hok
  cases ok
  ·have hMf:M=false:=by rw [<-hM,a6p hok];rfl
   by_cases hlt:i<l.length<;>simp only [a0p,a0y]<;>simp [a2R,hlt,hMf]
  by_cases hlt:i<l.length
  ·have hw:IntKind.wrap .i64 ((i:Int)+1)=((i+1:Nat):Int):=by rw [a0d]<;>omega
   have ho:=hlo _ (List.getElem_mem hlt)
   have ho2:l[i].gone.length<4611686018427387904:=by omega
   simp only [a0p,a0y]
   simp [a2R,hlt,a0f,ho.1,ho2,hw]
   refine hJ (i+1,a0s l[i]) ⟨by simp;omega,a6q hlt hok⟩ (by simp;omega) _ (a0c rfl ?_)
   simp [a0p,a0y]
  ·obtain rfl:i=l.length:=by omega
   simp only [a0p,a0y]
   simp [a2R,hm]
   rw [<-hM,a8s hok];simp
 rw [if_neg k5] at hM
 by_cases k6:a1=6
 ·subst k6
  rw [if_pos rfl] at hM
  simp only at hM
  cases d1:a3d a2
  ·rw [d1] at hM
   simp only [Bool.and_true,Bool.true_and,Bool.false_and,Bool.and_false] at hM
   subst hM
   simp only [a1Z,a0p,a0y]
   simp [s23,eB,eC,eS,d1]
   refine vl (fun p:Nat×Bool=>p.1<=l.length/\p.2=(false&&(l.take p.1).all a0s)) (fun p=>mkS [(1,.c (.pt (1,1) 0 0)),(3,.c (.pt (1,2) 0 0)),(4,bv p.2),(6,iv p.1)] [.var (1,1) 38 (a0p .brw ⟨6,a2,a3,a4,a5,a6,l⟩),.var (1,2) 38 (a0p .brw ⟨6,a2,0,0,a5,a6,[]⟩)]) (fun p=>l.length-p.1) (0,false) ⟨by simp,by simp⟩ (a0c rfl ?_) ?_
   ·simp [a0p,a0y]
   rintro ⟨i,ok⟩ ⟨hi,hok⟩ J hJ
   simp only at hi hok
   cases ok
   ·by_cases hlt:i<l.length<;>simp only [a0p,a0y]<;>simp [a2R,hlt]
   ·simp at hok
  cases d2:b0I a5
  ·rw [d1,d2] at hM
   simp only [Bool.and_true,Bool.true_and,Bool.false_and,Bool.and_false] at hM
   subst hM
   simp only [a1Z,a0p,a0y]
   simp [s23,eB,eC,eS,d1,d2]
   refine vl (fun p:Nat×Bool=>p.1<=l.length/\p.2=(false&&(l.take p.1).all a0s)) (fun p=>mkS [(1,.c (.pt (1,1) 0 0)),(3,.c (.pt (1,2) 0 0)),(4,bv p.2),(6,iv p.1)] [.var (1,1) 38 (a0p .brw ⟨6,a2,a3,a4,a5,a6,l⟩),.var (1,2) 38 (a0p .brw ⟨6,a2,0,0,a5,a6,[]⟩)]) (fun p=>l.length-p.1) (0,false) ⟨by simp,by simp⟩ (a0c rfl ?_) ?_
   ·simp [a0p,a0y]
   rintro ⟨i,ok⟩ ⟨hi,hok⟩ J hJ
   simp only at hi hok
   cases ok
   ·by_cases hlt:i<l.length<;>simp only [a0p,a0y]<;>simp [a2R,hlt]
   ·simp at hok
  cases d3:decide (1<=a6)
  ·rw [d1,d2,d3] at hM
   simp only [Bool.and_true,Bool.true_and,Bool.false_and,Bool.and_false] at hM
   subst hM
   simp only [a1Z,a0p,a0y]
   simp [s23,eB,eC,eS,d1,d2,d3]
   refine vl (fun p:Nat×Bool=>p.1<=l.length/\p.2=(false&&(l.take p.1).all a0s)) (fun p=>mkS [(1,.c (.pt (1,1) 0 0)),(3,.c (.pt (1,2) 0 0)),(4,bv p.2),(6,iv p.1)] [.var (1,1) 38 (a0p .brw ⟨6,a2,a3,a4,a5,a6,l⟩),.var (1,2) 38 (a0p .brw ⟨6,a2,0,0,a5,a6,[]⟩)]) (fun p=>l.length-p.1) (0,false) ⟨by simp,by simp⟩ (a0c rfl ?_) ?_
   ·simp [a0p,a0y]
   rintro ⟨i,ok⟩ ⟨hi,hok⟩ J hJ
   simp only at hi hok
   cases ok
   ·by_cases hlt:i<l.length<;>simp only [a0p,a0y]<;>simp [a2R,hlt]
   ·simp at hok
  cases d4:decide (a6<=8)
  ·rw [d1,d2,d3,d4] at hM
   simp only [Bool.and_true,Bool.true_and,Bool.false_and,Bool.and_false] at hM
   subst hM
   simp only [a1Z,a0p,a0y]
   simp [s23,eB,eC,eS,d1,d2,d3,d4]
   refine vl (fun p:Nat×Bool=>p.1<=l.length/\p.2=(false&&(l.take p.1).all a0s)) (fun p=>mkS [(1,.c (.pt (1,1) 0 0)),(3,.c (.pt (1,2) 0 0)),(4,bv p.2),(6,iv p.1)] [.var (1,1) 38 (a0p .brw ⟨6,a2,a3,a4,a5,a6,l⟩),.var (1,2) 38 (a0p .brw ⟨6,a2,0,0,a5,a6,[]⟩)]) (fun p=>l.length-p.1) (0,false) ⟨by simp,by simp⟩ (a0c rfl ?_) ?_
   ·simp [a0p,a0y]
   rintro ⟨i,ok⟩ ⟨hi,hok⟩ J hJ
   simp only at hi hok
   cases ok
   ·by_cases hlt:i<l.length<;>simp only [a0p,a0y]<;>simp [a2R,hlt]
   ·simp at hok
  rw [d1,d2,d3,d4] at hM
  simp only [Bool.and_true,Bool.true_and,Bool.false_and,Bool.and_false] at hM
  simp only [a1Z,a0p,a0y]
  simp [s23,eB,eC,eS,d1,d2,d3,d4]
  refine vl (fun p:Nat×Bool=>p.1<=l.length/\p.2=(true&&(l.take p.1).all a0s)) (fun p=>mkS [(1,.c (.pt (1,1) 0 0)),(3,.c (.pt (1,2) 0 0)),(4,bv p.2),(6,iv p.1)] [.var (1,1) 38 (a0p .brw ⟨6,a2,a3,a4,a5,a6,l⟩),.var (1,2) 38 (a0p .brw ⟨6,a2,0,0,a5,a6,[]⟩)]) (fun p=>l.length-p.1) (0,true) ⟨by simp,by simp⟩ (a0c rfl ?_) ?_
  ·simp [a0p,a0y]
  rintro ⟨i,ok⟩ ⟨hi,hok⟩ J hJ
  simp only at hi hok
  cases ok
  ·have hMf:M=false:=by rw [<-hM,a6p hok];rfl
   by_cases hlt:i<l.length<;>simp only [a0p,a0y]<;>simp [a2R,hlt,hMf]
  by_cases hlt:i<l.length
  ·have hw:IntKind.wrap .i64 ((i:Int)+1)=((i+1:Nat):Int):=by rw [a0d]<;>omega
   have ho:=hlo _ (List.getElem_mem hlt)
   have ho2:l[i].gone.length<4611686018427387904:=by omega
   simp only [a0p,a0y]
   simp [a2R,hlt,a0f,ho.1,ho2,hw]
   refine hJ (i+1,a0s l[i]) ⟨by simp;omega,a6q hlt hok⟩ (by simp;omega) _ (a0c rfl ?_)
   simp [a0p,a0y]
  ·obtain rfl:i=l.length:=by omega
   simp only [a0p,a0y]
   simp [a2R,hm]
   rw [<-hM,a8s hok];simp
 rw [if_neg k6] at hM
 subst hM
 simp only [a1Z,a0p,a0y]
 simp [s23,eB,eC,eS,k1,k2,k3,k4,k5,k6]
open Go
theorem b6r:∀(l:List OpV) (y:a1A),y.ops.length<=4->∃j,b0G y l={y with ops:=y.ops++l.take j}/\(b0G y l).ops.length<=4
 |[],y,h=>⟨0,by simp [b0G],by simpa [b0G] using h⟩
 |o::l,y,h=>by
  rw [b0G]
  split
  ·exact ⟨0,by simp,h⟩
  ·rename_i c
   rw [not_or] at c
   obtain ⟨j,h1,h2⟩:=b6r l (y.more o) (by simp [a1A.more];omega)
   exact ⟨j+1,by rw [h1];simp [a1A.more],h2⟩
theorem b0j (r:a0r) (known:Int):∃q j,q<=r.ops.length/\a2s r known=⟨5,0,0,(q:Nat),0,0,(r.ops.drop q).take j⟩/\(a2s r known).ops.length<=4:=by
 unfold a2s
 obtain ⟨j,h1,h2⟩:=b6r (r.ops.drop (min known.toNat r.ops.length)) ⟨5,0,0,(min known.toNat r.ops.length:Nat),0,0,[]⟩ (by simp)
 exact ⟨min known.toNat r.ops.length,j,by omega,by rw [h1];simp,h2⟩
theorem b6s {r:a0r} (h:a04 r.ops=true) (known:Int):a3e (a2s r known)=true:=by
 obtain ⟨q,j,h1,h2,h3⟩:=b0j r known
 obtain ⟨f1,f2,f3,f4⟩:=a5W h
 have hc:countB (q:Int)=true:=by simp [countB];omega
 have hm:((r.ops.drop q).take j).any (fun o=>!a0s o)=false:=by
  rw [List.any_eq_false]
  intro o ho
  simp [f3 o (List.mem_of_mem_drop (List.mem_of_mem_take ho))]
 rw [h2] at h3 ⊢
 simp only at h3
 have h3':((((r.ops.drop q).take j).length:Nat):Int)<=4:=by omega
 unfold a3e c1m
 simp only
 rw [if_neg (by omega),if_neg (by omega),if_neg (by omega),if_neg (by omega),if_pos trivial]
 simp only [hc,hm,decide_eq_true h3']
 simp
theorem b94 {m:a1A} {e:Int} (hf:a95 m=true) (ho:∀o∈m.ops,a0s o=true) (hk:m.kind=1\/m.kind=3\/m.kind=4) (h1:1<=e) (h2:e<=8):a3e (a3H m e)=true:=by
 have hs:a3d (if m.kind=1 then 1 else m.site)=true:=by
  rcases hk with k|k|k
  ·rw [if_pos k];rfl
  ·have:=d0E hf k
   rw [if_neg (by omega)];simp [a3d];omega
  ·obtain ⟨s1,s2,_⟩:=c4H hf k
   rw [if_neg (by omega)];simp [a3d];omega
 have hq:b0I (if m.ops≠[]/\e≠3 then (m.ops.headD a0V).seq else 1)=true:=by
  split
  ·rename_i c
   rcases hm:m.ops with _|⟨o,l⟩
   ·exact (c.1 hm).elim
   ·have:=a6j (ho o (by rw [hm];simp))
    simp [b0I];omega
  ·rfl
 unfold a3e c1m a3H
 simp only
 generalize (if m.kind=1 then 1 else m.site)=s at *
 generalize (if m.ops≠[]/\e≠3 then (m.ops.headD a0V).seq else 1)=q at *
 rw [if_neg (by omega),if_neg (by omega),if_neg (by omega),if_neg (by omega),if_neg (by omega),if_pos trivial]
 simp [hs,hq,h1,h2]
theorem c7t {α:Type} (p:α->Bool) (l:List α) (h:l.any p=true):0<=idxOf p 0 l/\idxOf p 0 l<l.length:=by
 rcases a6o p l 0 with ⟨h1,h2⟩|⟨k,hk,h1,h2⟩
 ·have:=(a3P p l 0).2 h;omega
 ·omega
theorem b0k {r:a0r} {n:Int} (hl:r.ends.length<=8) (hn:n∈r.ends) (h1:1<=n) (h2:n<=268435456):a3e (a14 r n)=true:=by
 obtain ⟨i1,i2⟩:=c7t (fun x=>decide (n=x)) r.ends (by simpa using hn)
 have hs:a3d (w64 (idxOf (fun x=>decide (n=x)) 0 r.ends+1))=true:=by
  rw [c4t (by omega) (by omega)]
  simp [a3d];omega
 have ho:b0I n=true:=by simp [b0I];omega
 unfold a3e c1m a14
 simp only
 rw [if_neg (by omega),if_pos trivial]
 simp [hs,ho]
theorem c4T:∀l:List OpV,a04 l=true->∀k (hk:k<l.length),a6t (l.take k) l[k].site l[k].seq=none:=fun l=>by
 refine b4k (p:=fun l=>a04 l=true->∀k (hk:k<l.length),a6t (l.take k) l[k].site l[k].seq=none) ?_ ?_ l
 ·intro _ k hk;simp at hk
 ·intro l o ih h k hk
  have hl:a04 l=true:=by
   rw [a4c,b4j] at h
   rw [a4c]
   refine ⟨by have:=h.1;simp at this;omega,?_⟩
   cases hc:ckF ck0 l with
   |none=>rw [hc] at h;simp at h
   |some c=>rfl
  have hlen:(l++[o]).length=l.length+1:=by simp
  by_cases hkl:k<l.length
  ·rw [List.take_append_of_le_length (by omega),List.getElem_append_left hkl]
   exact ih hl k hkl
  ·obtain rfl:k=l.length:=by omega
   rw [List.take_left' rfl,List.getElem_append_right (Nat.le_refl _)]
   simp only [Nat.sub_self,List.getElem_cons_zero]
   rw [a97 hl] at h
   simp only [a61,Bool.and_eq_true,decide_eq_true_eq] at h
   have hq:=h.1.1.1.1.2
   unfold a6t
   rw [List.find?_eq_none]
   intro x hx hxn
   obtain ⟨e1,e2⟩:=b9T.1 hxn
   have:=((a5W hl).2.2.2 x hx).2
   rw [e1,e2,hq] at this
   omega
theorem b95 {α:Type} (p:α->Bool):∀(l:List α) (n k:Nat) (hk:k<l.length),(l.take k).find? p=none->p l[k]=true->idxOf p n l=((n+k:Nat):Int)
 |[],n,k,hk,_,_=>by simp at hk
 |x::l,n,0,hk,_,hp=>by rw [idxOf,if_pos (by simpa using hp)];rfl
 |x::l,n,k+1,hk,hf,hp=>by
  rw [List.take_succ_cons,List.find?_cons] at hf
  cases hx:p x
  ·rw [hx] at hf
   rw [idxOf,if_neg (by simp [hx]),b95 p l (n+1) k (by simpa using hk) hf (by simpa using hp)]
   congr 1;omega
  ·rw [hx] at hf;cases hf
theorem d0J {l:List OpV} (h:a04 l=true) {k:Nat} (hk:k<l.length):idxOf (isN l[k].site l[k].seq) 0 l=(k:Int):=by
 have:=b95 (isN l[k].site l[k].seq) l 0 k hk (c4T l h k hk) (by simp [isN])
 simpa using this
structure Once (r:a0r) (m:a1A):Prop where
 e:(a1s r m).2.2=0
 f:a1s (a1s r m).1 m=((a1s r m).1,(a1s r m).2.1,0)
 may:∃es k,a6D (a1s r m).1 es k
 lo:r.ops.length<=(a1s r m).1.ops.length/\(a1s r m).1.ops.length<=r.ops.length+1
 pre:(a1s r m).1.ops.take r.ops.length=r.ops
 msg:a3e (a1s r m).2.1=true
 sent:(a1s r m).2.1.ops≠[]->∃q j,q<=(a1s r m).1.ops.length/\(a1s r m).2.1.known=(q:Nat)/\(a1s r m).2.1.ops=((a1s r m).1.ops.drop q).take j
theorem b6t {r:a0r} {m:a1A} (hf:a4j r m=true) {es:List a0k} {k:Nat} (hI:a6D r es k) (ha:(a0x r m).2.1=false):a3e (a0x r m).2.2=true/\((a0x r m).2.2.ops≠[]->∃q j,q<=r.ops.length/\(a0x r m).2.2.known=(q:Nat)/\(a0x r m).2.2.ops=(r.ops.drop q).take j):=by
 obtain ⟨h1,h2,h3,h4⟩:=a7J hf
 obtain ⟨t1,⟨t2,t3⟩,t4⟩:=hI.ord
 have hsend:∀kn,a3e (a2s r kn)=true/\((a2s r kn).ops≠[]->∃q j,q<=r.ops.length/\(a2s r kn).known=(q:Nat)/\(a2s r kn).ops=(r.ops.drop q).take j):=fun kn=>by
  obtain ⟨q,j,g1,g2,g3⟩:=b0j r kn
  exact ⟨b6s t1 kn,fun _=>⟨q,j,g1,by rw [g2],by rw [g2]⟩⟩
 have hdone:∀e:Int,1<=e->e<=8->a3e (a3H m e)=true/\((a3H m e).ops≠[]->∃q j,q<=r.ops.length/\(a3H m e).known=(q:Nat)/\(a3H m e).ops=(r.ops.drop q).take j):=fun e e1 e2=>⟨b94 h4 h2 h3 e1 e2,fun q=>(q rfl).elim⟩
 unfold a0x at ha ⊢
 split
 ·rename_i k1
  rw [if_pos k1] at ha
  obtain ⟨n1,n2,_⟩:=c4G h4 k1
  split
  ·rename_i c1
   exact ⟨b0k t2 c1 n1 n2,fun q=>(q rfl).elim⟩
  ·rename_i c1
   rw [if_neg c1] at ha
   split
   ·exact hdone 6 (by omega) (by omega)
   ·rename_i c2;rw [if_neg c2] at ha;cases ha
 ·rename_i k1
  rw [if_neg k1] at ha
  split
  ·exact hdone 3 (by omega) (by omega)
  ·rename_i c1
   rw [if_neg c1] at ha
   split
   ·exact hsend _
   ·rename_i k3
    rw [if_neg k3] at ha
    unfold b6a b59 at ha ⊢
    split
    ·rename_i d1
     rw [if_pos d1] at ha
     split
     ·exact hsend _
     ·rename_i d2
      rw [if_neg d2] at ha
      split
      ·exact hdone 8 (by omega) (by omega)
      ·rename_i d3
       rw [if_neg d3] at ha
       split
       ·rename_i d4;rw [if_pos d4] at ha;cases ha
       ·split
        ·exact hdone 6 (by omega) (by omega)
        ·exact hdone 1 (by omega) (by omega)
    ·exact hdone 1 (by omega) (by omega)
theorem once {r:a0r} {m:a1A} (hf:a4j r m=true) {es:List a0k} {k:Nat} (hI:a6D r es k):Once r m:=by
 obtain ⟨h1,h2,h3,h4⟩:=a7J hf
 rcases took hf hI with ⟨g1,e,_⟩|⟨g1,hp,e,_⟩|⟨g1,hp,hx,hc,hs,hI',e0,e,_⟩
 ·obtain ⟨a1,a2⟩:=b6t hf hI g1
  refine ⟨by rw [e],by rw [e];exact e,⟨es,k,by rw [e];exact hI⟩,by rw [e];simp,by rw [e];simp,by rw [e];exact a1,by rw [e];exact a2⟩
 ·refine ⟨by rw [e],by rw [e];exact e,⟨es,k,by rw [e];exact hI⟩,by rw [e];simp,by rw [e];simp,by rw [e];exact b94 h4 h2 h3 (by omega) (by omega),by rw [e];exact fun q=>(q rfl).elim⟩
 ·obtain ⟨c1,c2,c3⟩:=a8m hf g1
  generalize hX:(a1s r m).1=X at *
  obtain ⟨t1,⟨t2,t3⟩,t4⟩:=hI'.ord
  have hfX:a4j X m=true:=by
   simp only [a4j,Bool.and_eq_true] at hf ⊢
   exact ⟨⟨b6j hI',hf.1.2⟩,hf.2⟩
  rcases c3 with ⟨k1,hE,hn,hlt⟩|⟨k4,o,ho,hE,hos,hsl,htm,hseq⟩
  ·
   obtain ⟨n1,n2,_⟩:=c4G h4 k1
   rw [hE] at e e0
   have hg:a1y r ⟨true,m.a0N,a0V⟩=({r with ends:=r.ends++[m.a0N]},true):=by
    rw [a1y,if_pos rfl,if_neg (by rintro (q|q);omega;exact hn q)]
   rw [hg] at e0
   have hXe:X.ends=r.ends++[m.a0N]:=by rw [e0]
   have hXo:X.ops=r.ops:=by rw [e0]
   have hin:m.a0N∈X.ends:=by rw [hXe];simp
   have ha2:a0x X m=(zeroE,false,a14 X m.a0N):=by rw [a0x,if_pos k1,if_pos hin]
   have e':a1s r m=(X,a14 X m.a0N,0):=by rw [e,if_pos rfl]
   have e2:a1s X m=(X,a14 X m.a0N,0):=by rw [a1s,if_pos hfX,ha2];rfl
   refine ⟨by rw [e'],by rw [e'];exact e2,⟨_,_,by rw [e'];exact hI'⟩,by rw [e'];simp [hXo],by rw [e'];simp [hXo],by rw [e'];exact b0k t2 hin n1 n2,by rw [e'];exact fun q=>(q rfl).elim⟩
  ·
   obtain ⟨s1,s2,s3,s4,_⟩:=c4H h4 k4
   rw [hE] at e e0
   have hg:a1y r ⟨false,0,o⟩=({r with ops:=r.ops++[o]},true):=by
    rw [a1y,if_neg (by simp),if_neg (by rintro (q|q);simp only at q;omega;simp only at q;rw [q] at htm;cases htm)]
   rw [hg] at e0
   have hXe:X.ends=r.ends:=by rw [e0]
   have hXo:X.ops=r.ops++[o]:=by rw [e0]
   have hnx:a1K m.site X.ops=a1K m.site r.ops+1:=by rw [hXo,a7B,if_pos hos]
   have hd:m.ops.headD a0V=o:=by rw [ho];rfl
   have ha2:a0x X m=(⟨false,0,o⟩,false,a2s X m.known):=by
    rw [a0x,if_neg (by omega),if_neg (by rw [hXe];omega),if_neg (by omega),hd,b6a,hd,b59,if_pos hos,if_pos (by rw [hnx];omega)]
   have e':a1s r m=(X,a2s X m.known,0):=by rw [e,if_neg (by simp)]
   have e2:a1s X m=(X,a2s X m.known,0):=by rw [a1s,if_pos hfX,ha2];rfl
   obtain ⟨q,j,g2,g3,g4⟩:=b0j X m.known
   refine ⟨by rw [e'],by rw [e'];exact e2,⟨_,_,by rw [e'];exact hI'⟩,by rw [e'];simp [hXo],by rw [e'];simp [hXo],by rw [e'];exact b6s t1 _,by rw [e'];exact fun _=>⟨q,j,g2,by rw [g3],by rw [g3]⟩⟩
theorem b4A {r:a0r} {m:a1A} (h:(a1s r m).2.2=0):a4j r m=true:=by
 cases hf:a4j r m
 ·rw [a1s,if_neg (by simp [hf])] at h;cases h
 ·rfl
open Go
variable {P:Program}
theorem vsC {F:CT} {ι:Type} (I:ι->Prop) (v:ι->St) {x y:SC} {Q:AEx->St->Prop} {st:St} (h1:∀J:St->Prop,(∀j,I j->∀s,a8T P (v j) s->J s)->a6v P F x (a4n J Q) st) (h2:∀j,I j->a6v P F y Q (v j)):a6v P F (.seq x y) Q st:=by
 show a6v P F x _ st
 refine a2y (fun e st' q=>?_) (h1 (fun s=>∃j,I j/\a8T P (v j) s) fun j hj s hs=>⟨j,hj,hs⟩)
 cases e with
 |normal=>obtain ⟨j,g1,g2⟩:=q;exact ⟨v j,g2,h2 j g1⟩
 |_=>exact q
theorem v1C {F:CT} (v:St) {x y:SC} {Q:AEx->St->Prop} {st:St} (h1:∀J:St->Prop,(∀s,a8T P v s->J s)->a6v P F x (a4n J Q) st) (h2:a6v P F y Q v):a6v P F (.seq x y) Q st:=
 vsC (ι:=Unit) (fun _=>True) (fun _=>v) (fun J hJ=>h1 J fun s hs=>hJ () trivial s hs) fun _ _=>h2
theorem a5Y {F:CT} {id:Nat} {x:SC} {Q:AEx->St->Prop} {st:St} (h:a6v P F x (a4f id Q) st):a6v P F (.block id x) Q st:=h
theorem vlc {F:CT} {ι:Type} (I:ι->Prop) (v:ι->St) (μ:ι->Nat) (i:ι) {x:SC} {Q:AEx->St->Prop} {st:St} (hi:I i) (h0:a8T P (v i) st)
  (h:∀i,I i->∀J:St->Prop,(∀j,I j->μ j<μ i->∀s,a8T P (v j) s->J s)->a6v P F x (a4n J Q) (v i)):a2K P F (.loop x) Q st:=
 ⟨{i // I i},fun i=>v i.1,fun i=>μ i.1,⟨i,hi⟩,h0,fun i=>h i.1 i.2 _ fun j hj hlt s hs=>⟨⟨j,hj⟩,hlt,hs⟩⟩
open Go Go.Proofs
theorem c7u (n:Int):PEv Tryz.prog 19 [Arg.enc n] (iv n):=by
 refine a0e mixed (F:=[]) trivial Tryz.func19 f5G f5H (by kernel_rfl) (by simp) (by simp) ?_
 simp [s19]
def b8C:List AV->Option (Prop×AV):=t1 a48 fun p:a3n=>bv (decide (700<a6F p))
@[simp] theorem e3S {l:List AV}:b8C l=(t1 a48 fun p:a3n=>bv (decide (700<a6F p))) l:=(rfl)
def b8D:List AV->Option (Prop×AV):=t1 (fun _=>True) fun n:Int=>iv n
@[simp] theorem e3T {l:List AV}:b8D l=(t1 (fun _=>True) fun n:Int=>iv n) l:=(rfl)
def b8E:List AV->Option (Prop×AV):=t1 a8S fun r:a0r=>bv (a1P r)
@[simp] theorem e3U {l:List AV}:b8E l=(t1 a8S fun r:a0r=>bv (a1P r)) l:=(rfl)
def b8F:List AV->Option (Prop×AV):=t1 a8S fun r:a0r=>.g (a0u .old r)
@[simp] theorem e3V {l:List AV}:b8F l=(t1 a8S fun r:a0r=>.g (a0u .old r)) l:=(rfl)
def b8G:List AV->Option (Prop×AV):=t2 (fun a _=>a.length<4611686018427387904/\∀o∈a,o.gone.length<4611686018427387904) fun a b:List OpV=>bv (decide (a=b))
@[simp] theorem e3W {l:List AV}:b8G l=(t2 (fun a _=>a.length<4611686018427387904/\∀o∈a,o.gone.length<4611686018427387904) fun a b:List OpV=>bv (decide (a=b))) l:=(rfl)
def b8H:List AV->Option (Prop×AV):=t2 (fun a _=>a.gone.length<4611686018427387904) fun a b:OpV=>bv (decide (a=b))
@[simp] theorem e3X {l:List AV}:b8H l=(t2 (fun a _=>a.gone.length<4611686018427387904) fun a b:OpV=>bv (decide (a=b))) l:=(rfl)
def b8I:List AV->Option (Prop×AV):=t2 (fun a _=>a8S a) fun a b:a0r=>bv (decide (a=b))
@[simp] theorem e3Y {l:List AV}:b8I l=(t2 (fun a _=>a8S a) fun a b:a0r=>bv (decide (a=b))) l:=(rfl)
def b8J:List AV->Option (Prop×AV):=t2 (fun a _=>okM a) fun a b:a1A=>bv (decide (a=b))
@[simp] theorem e3Z {l:List AV}:b8J l=(t2 (fun a _=>okM a) fun a b:a1A=>bv (decide (a=b))) l:=(rfl)
def b8K:List AV->Option (Prop×AV):=t1 okM fun m:a1A=>bv (a3e m)
@[simp] theorem e30 {l:List AV}:b8K l=(t1 okM fun m:a1A=>bv (a3e m)) l:=(rfl)
def b8L:List AV->Option (Prop×AV):=t3 (fun l _ _=>l.length<1000000) fun (l:List OpV) (a b:Int)=>iv (idxOf (isN a b) 0 l)
@[simp] theorem e31 {l:List AV}:b8L l=(t3 (fun l _ _=>l.length<1000000) fun (l:List OpV) (a b:Int)=>iv (idxOf (isN a b) 0 l)) l:=(rfl)
def b8M:List AV->Option (Prop×AV):=t1 (fun _=>True) fun n:Int=>.t [(true,a0u .old ⟨(a9Q n).1,[],[]⟩),(false,[.raw (.int .i64 (a9Q n).2)])]
@[simp] theorem e32 {l:List AV}:b8M l=(t1 (fun _=>True) fun n:Int=>.t [(true,a0u .old ⟨(a9Q n).1,[],[]⟩),(false,[.raw (.int .i64 (a9Q n).2)])]) l:=(rfl)
def FY0:CT:=(15,.pu b8C)::(19,.pu b8D)::(16,.pu b8E)::(17,.pu b8F)::(20,.pu b8G)::(24,.pu b8H)::(21,.pu b8I)::(22,.pu b8J)::(23,.pu b8K)::(25,.pu b8L)::(42,.pu b8M)::[]
theorem c8B:a1k Tryz.prog FY0:=⟨a0n fun p h=>c1k p h,
 a0n fun n _=>c7u n,
 a0n fun r h=>by rw [<-c4R];exact c4Q r h,
 a0n fun r h=>b74 r h,
 a0R fun a b h=>b31 a b h.1 h.2,
 a0R fun a b h=>(by rw [show bv (decide (a=b))=bv (a2B a b) by rw [a4y]];exact b7s a b h),
 a0R fun a b h=>c62 a b h,
 a0R fun a b h=>b9S a b h,
 a0n fun m h=>c4S m h,
 a6w fun l a b h=>c4N l a b h,
 a0n fun n _=>d0D n,trivial⟩
@[simp] theorem d9l:a0b FY0 15=some (.pu b8C):=(rfl)
@[simp] theorem d9m:a0b FY0 19=some (.pu b8D):=(rfl)
@[simp] theorem d9n:a0b FY0 16=some (.pu b8E):=(rfl)
@[simp] theorem d9o:a0b FY0 17=some (.pu b8F):=(rfl)
@[simp] theorem d9p:a0b FY0 20=some (.pu b8G):=(rfl)
@[simp] theorem d9q:a0b FY0 24=some (.pu b8H):=(rfl)
@[simp] theorem d9r:a0b FY0 21=some (.pu b8I):=(rfl)
@[simp] theorem d9s:a0b FY0 22=some (.pu b8J):=(rfl)
@[simp] theorem d9t:a0b FY0 23=some (.pu b8K):=(rfl)
@[simp] theorem d9u:a0b FY0 25=some (.pu b8L):=(rfl)
@[simp] theorem d9v:a0b FY0 42=some (.pu b8M):=(rfl)
@[simp] theorem e33 {n:Nat} (h:(n==15||n==19||n==16||n==17||n==20||n==24||n==21||n==22||n==23||n==25||n==42)=false):a0b FY0 n=a0b ([]:CT) n:=by
 simp only [Bool.or_eq_false_iff,beq_eq_false_iff_ne,ne_eq] at h
 simp [FY0,a0b,h]
theorem d0K:(a1s ⟨(a9Q 9).1,[],[]⟩ ⟨1,0,5,0,0,0,[]⟩).2.2=0/\(a1s ⟨(a9Q 9).1,[],[]⟩ ⟨1,0,5,0,0,0,[]⟩).2.1.kind=2/\(a1s ⟨(a9Q 9).1,[],[]⟩ ⟨1,0,5,0,0,0,[]⟩).2.1.site=1/\(a1s ⟨(a9Q 9).1,[],[]⟩ ⟨1,0,5,0,0,0,[]⟩).1.ends.length=1/\(a9Q 9).2=0:=by decide +kernel
theorem c1n:PEv Tryz.prog 26 [] (bv true):=by
 refine c17 mixed c8B Tryz.func26 f5K f5L (by kernel_rfl) (by simp) (by simp) ?_
 have hok:a8S ⟨(a9Q 9).1,[],[]⟩:=by
  have e:(a9Q 9).1=⟨List.replicate 9 blank,[]⟩:=by rw [a9Q,if_pos (by omega)];rfl
  rw [e]
  exact ⟨by simp,by simp,by simp,by simp,by simp⟩
 have htk:=b4q ⟨(a9Q 9).1,[],[]⟩ ⟨1,0,5,0,0,0,[]⟩ hok ⟨by simp,by simp⟩
 obtain ⟨w1,w2,w3,w4,w5⟩:=d0K
 generalize hN:a9Q 9=N at *
 obtain ⟨⟨n1,n2⟩,n3⟩:=N
 simp only at htk w1 w2 w3 w4 w5
 generalize a1s ⟨⟨n1,n2⟩,[],[]⟩ ⟨1,0,5,0,0,0,[]⟩=T at *
 obtain ⟨⟨⟨x1,x2⟩,x3,x4⟩,⟨a1,a2,a3,a4,a5,a6,a7⟩,e⟩:=T
 simp only at htk w1 w2 w3 w4
 subst w1 w2 w3 w5
 have w4':(x4.length:Int)=1:=by omega
 unfold s26
 refine v1 (mkS [(0,bv false)] []) (fun J hJ=>?_) ?_
 ·simp
  exact hJ _ (a0c rfl (by simp))
 refine v1 (mkS [(1,.c (.pt (1,1) 0 0)),(2,iv 0)] [.var (1,1) 29 (a0u .old ⟨⟨n1,n2⟩,[],[]⟩)]) (fun J hJ=>?_) ?_
 ·simp [hN,a0u]
  refine hJ _ (a0c rfl ?_)
  simp [a0u]
 refine v1 (mkS [(1,.c (.pt (1,1) 0 0)),(2,iv 0),(3,.c (.pt (1,2) 0 0)),(4,.c (.pt (1,3) 0 0)),(5,iv 0)] [.var (1,1) 29 (a0u .old ⟨⟨n1,n2⟩,[],[]⟩),.var (1,2) 29 (a0u .old ⟨⟨x1,x2⟩,x3,x4⟩),.var (1,3) 38 (a0p .old ⟨2,1,a3,a4,a5,a6,a7⟩)]) (fun J hJ=>?_) ?_
 ·simp only [a0u,a0p,a0y]
  simp
  refine a1f (args':=[.g (a0u .brw ⟨⟨n1,n2⟩,[],[]⟩),.g (a0p .brw ⟨1,0,5,0,0,0,[]⟩)]) ?_ htk (by simp [a0u,a0p,a0y]) (by simp [a0u,a0p,a0y]) ?_
  ·simp [a0u,a0p,a0y]
  simp [a0u,a0p,a0y]
  refine hJ _ (a0c rfl ?_)
  simp [a0u,a0p,a0y]
 refine a1t ?_
 simp only [a0u,a0p,a0y]
 simp [w4']
def b8N:List AV->Option (Prop×AV):=t0 (bv true)
@[simp] theorem e34 {l:List AV}:b8N l=(t0 (bv true)) l:=(rfl)
def FY1:CT:=(26,.pu b8N)::FY0
theorem c8C:a1k Tryz.prog FY1:=⟨b5s c1n,c8B⟩
@[simp] theorem d9w:a0b FY1 26=some (.pu b8N):=(rfl)
@[simp] theorem e35 {n:Nat} (h:(n==26)=false):a0b FY1 n=a0b FY0 n:=by
 simp only [Bool.or_eq_false_iff,beq_eq_false_iff_ne,ne_eq] at h
 simp [FY1,a0b,h]
theorem a8P (p:a3n) (hp:a48 p):PEv Tryz.prog 3 [Arg.enc p] (bv true):=by
 refine a6h mixed c8C Tryz.func3 sl3 ok3 (by kernel_rfl) (by simp) (by simp [a0i]) ?_
 unfold s3
 refine v1 (mkS [(1,.c (.pt (1,1) 0 0)),(2,bv false)] [.var (1,1) 32 (a0i p)]) (fun J hJ=>?_) ?_
 ·simp only [b4s,a0i]
  simp
  refine hJ _ (a0c rfl ?_)
  simp [a0i,a0u,a0p,a0y]
 refine vs (ι:=Unit) (fun _=>a8S p.r/\a1P p.r=true/\∀a∈p.l,okM a.m) (fun _=>mkS [(1,.c (.pt (1,1) 0 0))] [.var (1,1) 32 (a0i p)]) (fun J hJ=>?_) (fun _ hq=>?_)
 ·simp only [a0i]
  cases c1:decide (700<a6F p)
  ·obtain ⟨g1,g2,g3⟩:=c4L hp (of_decide_eq_false c1)
   cases c2:a1P p.r
   ·simp [hp,c1,g1,c2]
    refine a0A (mkS [(2,bv true)] []) (a0c rfl ?_) ?_<;>simp [a0i]
   ·simp [hp,c1,g1,c2]
    refine hJ () ⟨g1,c2,fun a ha=>(g3 a ha).1⟩ _ (a0c rfl ?_)
    simp [a0i]
  ·simp [hp,c1]
   refine a0A (mkS [(2,bv true)] []) (a0c rfl ?_) ?_<;>simp [a0i]
 obtain ⟨g1,g2,g3⟩:=hq
 refine v1 (mkS [(1,.c (.pt (1,1) 0 0)),(3,.c (.pt (1,2) 0 0))] [.var (1,1) 32 (a0i p),.var (1,2) 29 (a0u .old p.r)]) (fun J hJ=>?_) ?_
 ·simp only [a0i]
  simp [g1,a0u]
  refine hJ _ (a0c rfl ?_)
  simp [a0i,a0u,a0p,a0y]
 refine v1C (mkS [] []) (fun J0 hJ0=>?_) ?_
 rotate_left
 ·refine a1t ?_
  simp
  refine a0A (mkS [(2,bv true)] []) (a0c rfl ?_) ?_<;>simp [a0i]
 refine v1 (mkS [(1,.c (.pt (1,1) 0 0)),(3,.c (.pt (1,2) 0 0)),(4,iv 0)] [.var (1,1) 32 (a0i p),.var (1,2) 29 (a0u .old p.r)]) (fun J hJ=>?_) ?_
 ·simp
  refine hJ _ (a0c rfl ?_)
  simp [a0i,a0u,a0p,a0y]
 refine a5Y ?_
 refine a1t ?_
 refine vlc (fun q:Nat×a0r=>q.1<=p.l.length/\∃es k,a6D q.2 es k) (fun q=>mkS [(1,.c (.pt (1,1) 0 0)),(3,.c (.pt (1,2) 0 0)),(4,iv q.1)] [.var (1,1) 32 (a0i p),.var (1,2) 29 (a0u .old q.2)]) (fun q=>p.l.length-q.1) (0,p.r) ⟨by simp,a47 g2⟩ (a0c rfl ?_) ?_
 ·simp [a0i,a0u]
 rintro ⟨i,r⟩ ⟨hi,es,k,hI⟩ J3 hJ3
 simp only at hi hI hJ3
 unfold f2R
 refine vs (ι:=Unit) (fun _=>i<p.l.length/\i<16) (fun _=>mkS [(1,.c (.pt (1,1) 0 0)),(3,.c (.pt (1,2) 0 0)),(4,iv i)] [.var (1,1) 32 (a0i p),.var (1,2) 29 (a0u .old r)]) (fun J hJ=>?_) (fun _ hq=>?_)
 ·simp only [a0i,a0u]
  by_cases hlt:i<p.l.length
  ·by_cases h16:(i:Int)<16
   ·simp [hlt,h16]
    refine hJ () ⟨hlt,by omega⟩ _ (a0c rfl ?_)
    simp [a0i,a0u]
   ·simp [hlt,h16]
    exact hJ0 _ (a0c rfl (by simp))
  ·simp [hlt]
   exact hJ0 _ (a0c rfl (by simp))
 obtain ⟨hlt,h16⟩:=hq
 have hw:IntKind.wrap .i64 ((i:Int)+1)=((i+1:Nat):Int):=by rw [a0d]<;>omega
 refine vsC (ι:=a0r) (fun r2=>∃es k,a6D r2 es k) (fun r2=>mkS [(1,.c (.pt (1,1) 0 0)),(3,.c (.pt (1,2) 0 0)),(4,iv i)] [.var (1,1) 32 (a0i p),.var (1,2) 29 (a0u .old r2)]) (fun J5 hJ5=>?_) (fun r2 hr2=>?_)
 rotate_left
 ·refine a1t ?_
  simp [hw]
  refine hJ3 (i+1,r2) ⟨by simp;omega,hr2⟩ (by simp;omega) _ (a0c rfl ?_)
  simp [a0i,a0u]
 refine a5Y ?_
 obtain ⟨okr,f8H,ok3,ok4,ok5,ok6⟩:=a8n hI
 have okm:=g3 _ (List.getElem_mem hlt)
 have htk:=b4q r p.l[i].m okr okm
 have hO:(a1s r p.l[i].m).2.2=0->Once r p.l[i].m:=fun h0=>once (b4A h0) hI
 generalize hT:a1s r p.l[i].m=T at *
 obtain ⟨x,a,e⟩:=T
 simp only at htk hO
 refine v1 (mkS [(1,.c (.pt (1,1) 0 0)),(3,.c (.pt (1,2) 0 0)),(4,iv i),(5,.c (.pt (1,3) 0 0)),(6,.c (.pt (1,4) 0 0)),(7,iv e)] [.var (1,1) 32 (a0i p),.var (1,2) 29 (a0u .old r),.var (1,3) 29 (a0u .old x),.var (1,4) 38 (a0p .old a)]) (fun J hJ=>?_) ?_
 ·simp only [a0i,a0u]
  simp [hlt]
  refine a1f (args':=[.g (a0u .brw r),.g (a0p .brw p.l[i].m)]) ?_ htk (by simp [a0u,a0p,a0y]) (by simp [a0u,a0p,a0y]) ?_
  ·simp [a0u,a0p,a0y]
  simp [a0u,a0p,a0y]
  refine hJ _ (a0c rfl ?_)
  simp [a0i,a0u,a0p,a0y]
 refine vs (ι:=Unit) (fun _=>e=0) (fun _=>mkS [(1,.c (.pt (1,1) 0 0)),(3,.c (.pt (1,2) 0 0)),(4,iv i),(5,.c (.pt (1,3) 0 0)),(6,.c (.pt (1,4) 0 0))] [.var (1,1) 32 (a0i p),.var (1,2) 29 (a0u .old r),.var (1,3) 29 (a0u .old x),.var (1,4) 38 (a0p .old a)]) (fun J hJ=>?_) (fun _ h0=>?_)
 ·by_cases h0:e=0
  ·subst h0
   simp
   refine hJ () rfl _ (a0c rfl ?_)
   simp [a0i,a0u,a0p,a0y]
  ·simp [h0]
   refine hJ5 r ⟨es,k,hI⟩ _ (a0c rfl ?_)
   simp [a0i,a0u]
 obtain ⟨_,o2,⟨es2,k2,hI2⟩,o4,o5,o6,o7⟩:=hO h0
 rw [hT] at o2 hI2 o4 o5 o6 o7
 simp only at o2 hI2 o4 o5 o6 o7
 subst h0
 obtain ⟨okx,f8I,x3,x4,x5,x6⟩:=a8n hI2
 have hmx:=b6j hI2
 have htr:=hI2.ord.1
 have oka:okM a:=by
  by_cases ha:a.ops=[]
  ·exact ⟨by rw [ha];simp,by rw [ha];simp⟩
  ·obtain ⟨q,j,q1,q2,q3⟩:=o7 ha
   exact ⟨by rw [q3];simp;omega,fun o ho=>okx.2.2.2.2 o (List.mem_of_mem_drop (List.mem_of_mem_take (by rw [<-q3];exact ho)))⟩
 have f3w:=b4q x p.l[i].m okx okm
 rw [o2] at f3w
 refine v1 (mkS [(1,.c (.pt (1,1) 0 0)),(3,.c (.pt (1,2) 0 0)),(4,iv i),(5,.c (.pt (1,3) 0 0)),(6,.c (.pt (1,4) 0 0)),(8,.c (.pt (1,5) 0 0)),(9,.c (.pt (1,6) 0 0)),(10,iv 0)] [.var (1,1) 32 (a0i p),.var (1,2) 29 (a0u .old r),.var (1,3) 29 (a0u .old x),.var (1,4) 38 (a0p .old a),.var (1,5) 29 (a0u .old x),.var (1,6) 38 (a0p .old a)]) (fun J hJ=>?_) ?_
 ·simp only [a0i,a0u]
  simp [hlt]
  refine a1f (args':=[.g (a0u .brw x),.g (a0p .brw p.l[i].m)]) ?_ f3w (by simp [a0u,a0p,a0y]) (by simp [a0u,a0p,a0y]) ?_
  ·simp [a0u,a0p,a0y]
  simp [a0u,a0p,a0y]
  refine hJ _ (a0c rfl ?_)
  simp [a0i,a0u,a0p,a0y]
 have e1:¬(x.ops.length:Int)<r.ops.length:=by omega
 have e2:IntKind.wrap .i64 ((r.ops.length:Int)+1)=(r.ops.length:Int)+1:=by rw [a0d]<;>omega
 have e3:¬(r.ops.length:Int)+1<x.ops.length:=by omega
 have e4:List.take r.ops.length (a0a x.ops)=a0a r.ops:=by
  have:List.take r.ops.length (a0a x.ops)=a0a (x.ops.take r.ops.length):=by simp [a0a]
  rw [this,o5]
 have e5:r.ops.length<4611686018427387904:=by omega
 have e6:(∀o∈r.ops,o.gone.length<4611686018427387904)=True:=by
  simp only [eq_iff_iff,iff_true]
  exact fun o ho=>Nat.lt_trans (okr.2.2.2.2 o ho).2 (by omega)
 have e7:r.ops.length<=x.ops.length:=o4.1
 refine v1 (mkS [(1,.c (.pt (1,1) 0 0)),(3,.c (.pt (1,2) 0 0)),(4,iv i),(5,.c (.pt (1,3) 0 0)),(6,.c (.pt (1,4) 0 0))] [.var (1,1) 32 (a0i p),.var (1,2) 29 (a0u .old r),.var (1,3) 29 (a0u .old x),.var (1,4) 38 (a0p .old a)]) (fun J hJ=>?_) ?_
 ·simp only [a0i,a0u,a0p,a0y]
  simp (maxSteps:=9^60) [okx,hmx,e1,e2,e3,e4,e5,e6,e7,oka,o6]
  refine hJ _ (a0c rfl ?_)
  simp [a0i,a0u,a0p,a0y]
 refine v1C (mkS [(1,.c (.pt (1,1) 0 0)),(3,.c (.pt (1,2) 0 0)),(4,iv i),(5,.c (.pt (1,3) 0 0)),(6,.c (.pt (1,4) 0 0))] [.var (1,1) 32 (a0i p),.var (1,2) 29 (a0u .old r),.var (1,3) 29 (a0u .old x),.var (1,4) 38 (a0p .old a)]) (fun J7 hJ7=>?_) ?_
 ·refine v1 (mkS [(1,.c (.pt (1,1) 0 0)),(3,.c (.pt (1,2) 0 0)),(4,iv i),(5,.c (.pt (1,3) 0 0)),(6,.c (.pt (1,4) 0 0)),(11,iv 0)] [.var (1,1) 32 (a0i p),.var (1,2) 29 (a0u .old r),.var (1,3) 29 (a0u .old x),.var (1,4) 38 (a0p .old a)]) (fun J hJ=>?_) ?_
  ·simp
   refine hJ _ (a0c rfl ?_)
   simp [a0i,a0u,a0p,a0y]
  refine a5Y ?_
  refine a1t ?_
  refine vlc (fun n:Nat=>n<=a.ops.length) (fun n=>mkS [(1,.c (.pt (1,1) 0 0)),(3,.c (.pt (1,2) 0 0)),(4,iv i),(5,.c (.pt (1,3) 0 0)),(6,.c (.pt (1,4) 0 0)),(11,iv n)] [.var (1,1) 32 (a0i p),.var (1,2) 29 (a0u .old r),.var (1,3) 29 (a0u .old x),.var (1,4) 38 (a0p .old a)]) (fun n=>a.ops.length-n) 0 (by simp) (a0c rfl ?_) ?_
  ·simp [a0i,a0u,a0p,a0y]
  intro n hn J8 hJ8
  unfold e1c
  refine vs (ι:=Unit) (fun _=>n<a.ops.length) (fun _=>mkS [(1,.c (.pt (1,1) 0 0)),(3,.c (.pt (1,2) 0 0)),(4,iv i),(5,.c (.pt (1,3) 0 0)),(6,.c (.pt (1,4) 0 0)),(11,iv n)] [.var (1,1) 32 (a0i p),.var (1,2) 29 (a0u .old r),.var (1,3) 29 (a0u .old x),.var (1,4) 38 (a0p .old a)]) (fun J hJ=>?_) (fun _ hln=>?_)
  ·simp only [a0i,a0u,a0p,a0y]
   by_cases hln:n<a.ops.length
   ·simp [hln]
    refine hJ () hln _ (a0c rfl ?_)
    simp [a0i,a0u,a0p,a0y]
   ·simp [hln]
    refine hJ7 _ (a0c rfl ?_)
    simp [a0i,a0u,a0p,a0y]
  obtain ⟨q,j,q1,q2,q3⟩:=o7 (by intro ha;rw [ha] at hln;simp at hln)
  have hwn:IntKind.wrap .i64 ((n:Int)+1)=((n+1:Nat):Int):=by have:=oka.1;rw [a0d]<;>omega
  obtain ⟨w,hwq⟩:∃w,w=q+n:=⟨_,rfl⟩
  have hqn:w<x.ops.length:=by rw [q3] at hln;simp at hln;omega
  have hqw:IntKind.wrap .i64 ((q:Int)+(n:Int))=(w:Int):=by rw [a0d]<;>omega
  have hq0:¬(q:Int)<0:=by omega
  have hq1:¬(x.ops.length:Int)<=(w:Int):=by omega
  have heq:a.ops[n]=x.ops[w]:=by
   have:a.ops[n]?=x.ops[w]?:=by
    rw [q3,List.getElem?_take_of_lt (by rw [q3] at hln;simp at hln;omega),List.getElem?_drop,hwq]
   rw [List.getElem?_eq_getElem hln,List.getElem?_eq_getElem hqn] at this
   exact Option.some.inj this
  have hgo:x.ops[w].gone.length<4611686018427387904:=Nat.lt_trans (okx.2.2.2.2 _ (List.getElem_mem hqn)).2 (by omega)
  refine v1 (mkS [(1,.c (.pt (1,1) 0 0)),(3,.c (.pt (1,2) 0 0)),(4,iv i),(5,.c (.pt (1,3) 0 0)),(6,.c (.pt (1,4) 0 0)),(11,iv n)] [.var (1,1) 32 (a0i p),.var (1,2) 29 (a0u .old r),.var (1,3) 29 (a0u .old x),.var (1,4) 38 (a0p .old a)]) (fun J hJ=>?_) ?_
  ·simp only [a0i,a0u,a0p,a0y,q2]
   simp (maxSteps:=9^60) [hln,hqw,hq0,hq1,hqn,heq,a0f,hgo]
   refine hJ _ (a0c rfl ?_)
   simp [a0i,a0u,a0p,a0y,q2]
  refine a1t ?_
  simp only [a0i,a0u,a0p,a0y]
  simp [hwn]
  refine hJ8 (n+1) (by omega) (by omega) _ (a0c rfl ?_)
  simp [a0i,a0u,a0p,a0y]
 refine v1C (mkS [(1,.c (.pt (1,1) 0 0)),(3,.c (.pt (1,2) 0 0)),(4,iv i),(5,.c (.pt (1,3) 0 0))] [.var (1,1) 32 (a0i p),.var (1,2) 29 (a0u .old r),.var (1,3) 29 (a0u .old x)]) (fun J7 hJ7=>?_) ?_
 ·refine v1 (mkS [(1,.c (.pt (1,1) 0 0)),(3,.c (.pt (1,2) 0 0)),(4,iv i),(5,.c (.pt (1,3) 0 0)),(12,iv 0)] [.var (1,1) 32 (a0i p),.var (1,2) 29 (a0u .old r),.var (1,3) 29 (a0u .old x)]) (fun J hJ=>?_) ?_
  ·simp
   refine hJ _ (a0c rfl ?_)
   simp [a0i,a0u,a0p,a0y]
  refine a5Y ?_
  refine a1t ?_
  refine vl (fun n:Nat=>n<=x.ops.length) (fun n=>mkS [(1,.c (.pt (1,1) 0 0)),(3,.c (.pt (1,2) 0 0)),(4,iv i),(5,.c (.pt (1,3) 0 0)),(12,iv n)] [.var (1,1) 32 (a0i p),.var (1,2) 29 (a0u .old r),.var (1,3) 29 (a0u .old x)]) (fun n=>x.ops.length-n) 0 (by simp) (a0c rfl ?_) ?_
  ·simp [a0i,a0u,a0p,a0y]
  intro n hn J8 hJ8
  simp only [a0i,a0u]
  by_cases hln:n<x.ops.length
  ·have hwn:IntKind.wrap .i64 ((n:Int)+1)=((n+1:Nat):Int):=by rw [a0d]<;>omega
   have hfi:=d0J htr hln
   have hxl:x.ops.length<1000000:=by omega
   simp [e1d,hln,a0f,hxl,hfi,hwn]
   refine hJ8 (n+1) (by omega) (by omega) _ (a0c rfl ?_)
   simp [a0i,a0u]
  ·simp [e1d,hln]
   refine hJ7 _ (a0c rfl ?_)
   simp [a0i,a0u]
 refine a1t ?_
 simp only [a0i,a0u]
 simp
 refine hJ5 x ⟨es2,k2,hI2⟩ _ (a0c rfl ?_)
 simp [a0i,a0u]
open Go Go.Proofs
def a2u (p:a3n):List AC:=[.sl .old false (a0a p.r.disk.safe),.sl .old false (a0a p.r.disk.wait),.sl .old false (a0a p.r.ops),.sl .old false (a0a p.r.ends),.raw (.int .i64 p.n),.sl .old false (a0a p.l)]
def a5Z (ks:List Int) (a:b0J):Bool:=decide (a.m.kind∈ks)||(decide (3<a.do_)&&decide ((0:Int)∈ks))
def c1o (p:a3n) (ks:List Int):a3n:={p with l:=p.l.filter (a5Z ks)}
def b8O:List AV->Option (Prop×AV):=t2 (fun l _=>l.length<4611686018427387904) fun (l:List Int) (n:Int)=>iv (idxOf (fun x=>decide (x=n)) 0 l)
@[simp] theorem e36 {l:List AV}:b8O l=(t2 (fun l _=>l.length<4611686018427387904) fun (l:List Int) (n:Int)=>iv (idxOf (fun x=>decide (x=n)) 0 l)) l:=(rfl)
def FY2:CT:=(66,.pu b8O)::FY1
theorem c4U:a1k Tryz.prog FY2:=⟨a0R fun l n h=>d0q l n h,c8C⟩
@[simp] theorem d9x:a0b FY2 66=some (.pu b8O):=(rfl)
@[simp] theorem e37 {n:Nat} (h:(n==66)=false):a0b FY2 n=a0b FY1 n:=by
 simp only [Bool.or_eq_false_iff,beq_eq_false_iff_ne,ne_eq] at h
 simp [FY2,a0b,h]
theorem b8P {α:Type} (f:α->Bool) (l:List α) (i:Nat) (h:i<l.length):(l.take (i+1)).filter f=(l.take i).filter f++if f l[i] then [l[i]] else []:=by
 rw [<-List.take_append_getElem h,List.filter_append]
 simp only [List.filter_cons,List.filter_nil]
theorem c4V (p:a3n) (ks:List Int) (hl:p.l.length*104<=140737488351232) (hk:ks.length<1000000):PEv Tryz.prog 27 [.g (a2u p),.c (.sl .brw false (a0a ks))] (.g (a2u (c1o p ks))):=by
 have hk':ks.length<4611686018427387904:=by omega
 refine a6h mixed c4U Tryz.func27 sl27 f5M (by kernel_rfl) (by simp [a2u]) (by simp [a2u]) ?_
 unfold s27
 simp only [a2u]
 refine v1 (mkS [(1,.c (.sl .brw false (a0a ks))),(2,.c (.pt (1,1) 0 0)),(4,.c (.pt (1,3) 0 0))] [.var (1,1) 32 (a2u p),.var (1,3) 32 [.a29,.a29,.a29,.a29,.a29,.a29]]) (fun J hJ=>?_) ?_
 ·simp
  refine hJ _ (a0c rfl ?_)
  simp [a2u]
 refine v1 (mkS [(1,.c (.sl .brw false (a0a ks))),(2,.c (.pt (1,1) 0 0)),(4,.c (.pt (1,3) 0 0)),(5,.c (.pt (1,2) 0 0))] [.var (1,1) 32 (a2u p),.var (1,2) 32 (a2u p),.var (1,3) 32 [.a29,.a29,.a29,.a29,.a29,.a29]]) (fun J hJ=>?_) ?_
 ·simp only [a2u]
  simp
  refine hJ _ (a0c rfl ?_)
  simp [a2u]
 refine v1 (mkS [(1,.c (.sl .brw false (a0a ks))),(2,.c (.pt (1,1) 0 0)),(4,.c (.pt (1,3) 0 0)),(5,.c (.pt (1,2) 0 0))] [.var (1,1) 32 (a2u p),.var (1,2) 32 [.sl .old false (a0a p.r.disk.safe),.sl .old false (a0a p.r.disk.wait),.sl .old false (a0a p.r.ops),.sl .old false (a0a p.r.ends),.raw (.int .i64 p.n),.raw (.slice none 0 0)],.var (1,3) 32 [.a29,.a29,.a29,.a29,.a29,.a29]]) (fun J hJ=>?_) ?_
 ·simp only [a2u]
  simp
  refine hJ _ (a0c rfl ?_)
  simp [a2u]
 have hc:∀l:List b0J,a2I l.length (a0a l)=a0a l:=fun l=>a4L (by simp)
 refine a1t ?_
 simp only [a2u]
 simp
 have hO:c1o p ks={p with l:=(p.l.take p.l.length).filter (a5Z ks)}:=by simp [c1o]
 rw [hO]
 obtain ⟨⟨⟨sf,wt⟩,ops,ends⟩,pn,pl⟩:=p
 simp only at *
 refine vl (fun i:Nat=>i<=pl.length) (fun i=>mkS [(1,.c (.sl .brw false (a0a ks))),(2,.c (.pt (1,1) 0 0)),(4,.c (.pt (1,3) 0 0)),(5,.c (.pt (1,2) 0 0)),(6,iv i)] [.var (1,1) 32 [.sl .old false (a0a sf),.sl .old false (a0a wt),.sl .old false (a0a ops),.sl .old false (a0a ends),.raw (.int .i64 pn),.sl .old false (a0a pl)],.var (1,2) 32 [.sl .old false (a0a sf),.sl .old false (a0a wt),.sl .old false (a0a ops),.sl .old false (a0a ends),.raw (.int .i64 pn),.so (1,0) 0 ((pl.take i).filter (a5Z ks)).length],.rows (1,0) 42 9 (a0a ((pl.take i).filter (a5Z ks))),.var (1,3) 32 [.a29,.a29,.a29,.a29,.a29,.a29]]) (fun i=>pl.length-i) 0 (by simp) (a0c rfl ?_) ?_
 ·simp
 rintro i hi J hJ
 by_cases hlt:i<pl.length
 ·have hw:IntKind.wrap .i64 ((i:Int)+1)=((i+1:Nat):Int):=by rw [a0d]<;>omega
  have hst:=b8P (a5Z ks) pl i hlt
  have hfl:((pl.take i).filter (a5Z ks)).length<=i:=Nat.le_trans (List.length_filter_le _ _) (by simp;omega)
  have hn:=hJ (i+1) (by omega) (by omega)
  rw [hst] at hn
  generalize (pl.take i).filter (a5Z ks)=L at *
  clear hJ hst hO
  have h0:L.length<=9223372036854775806/\(L.length+1)*104<=140737488355328:=⟨by omega,by omega⟩
  have hc:=hc L
  by_cases m1:pl[i].m.kind∈ks
  ·have e1:=(a5a pl[i].m.kind ks).2 m1
   have e1':=Int.not_lt.2 e1
   have ho:a5Z ks pl[i]=true:=by simp [a5Z,m1]
   simp only [ho,if_true] at hn
   simp [c0z,hlt,hw,hk',e1,e1',hc]
   refine ⟨h0,hn _ (a0c rfl ?_)⟩
   simp [hw,a1g,a4G]
  ·have e1:¬0<=idxOf (fun x=>decide (x=pl[i].m.kind)) 0 ks:=fun e=>m1 ((a5a pl[i].m.kind ks).1 e)
   have e1':=Int.not_le.1 e1
   by_cases m2:3<pl[i].do_
   ·by_cases m3:(0:Int)∈ks
    ·have e3:=(a5a 0 ks).2 m3
     have e3':=Int.not_lt.2 e3
     have ho:a5Z ks pl[i]=true:=by simp [a5Z,m2,m3]
     simp only [ho,if_true] at hn
     simp [c0z,hlt,hw,hk',e1,e1',hc,m2,m3,e3,e3']
     refine ⟨h0,hn _ (a0c rfl ?_)⟩
     simp [hw,a1g,a4G]
    ·have e3:¬0<=idxOf (fun x=>decide (x=0)) 0 ks:=fun e=>m3 ((a5a 0 ks).1 e)
     have e3':=Int.not_le.1 e3
     have ho:a5Z ks pl[i]=false:=by simp [a5Z,m1,m3]
     simp only [ho,List.append_nil,Bool.false_eq_true,if_false] at hn
     simp [c0z,hlt,hw,hk',e1,e1',hc,m2,m3,e3,e3']
     refine hn _ (a0c rfl ?_)
     simp [hw]
   ·have ho:a5Z ks pl[i]=false:=by simp [a5Z,m1,m2]
    simp only [ho,List.append_nil,Bool.false_eq_true,if_false] at hn
    simp [c0z,hlt,hw,hk',e1,e1',hc,m2]
    refine hn _ (a0c rfl ?_)
    simp [hw]
 ·have hi':pl.length=i:=by omega
  rw [show pl.take pl.length=pl.take i by rw [hi']]
  have hfl:((pl.take i).filter (a5Z ks)).length<=i:=Nat.le_trans (List.length_filter_le _ _) (by simp;omega)
  generalize (pl.take i).filter (a5Z ks)=L at *
  simp [c0z,hlt]
  refine a0A (mkS [(4,.c (.pt (1,1) 0 0))] [.var (1,1) 32 [.sl .old false (a0a sf),.sl .old false (a0a wt),.sl .old false (a0a ops),.sl .old false (a0a ends),.raw (.int .i64 pn),.sl .old false (a0a L)]]) (a0c rfl ?_) ?_<;>simp
open Go Go.Proofs
structure f04 where
 o:f00
 d:b4r
 f7J:List a0k
 nums:List Int
def askRow (p:f04):List AC:=[.sl .brw false (a0a p.o.ops),.sl .brw false (a0a p.o.elems),.sl .brw false (a0a p.o.nums),.sl .brw false (a0a p.d.d.safe),.sl .brw false (a0a p.d.d.wait),.raw (.int .i64 p.d.n),.sl .brw false (a0a p.d.l),
 .sl .brw false (a0a p.f7J),.sl .brw false (a0a p.nums)]
instance f3h:Arg f04 where
 enc p:=.g (askRow p)
 dec|.g [.sl .brw false a,.sl .brw false b,.sl .brw false c,.sl .brw false d,.sl .brw false e,.raw (.int .i64 n),.sl .brw false f,.sl .brw false g,.sl .brw false h]=>
    (match a3T a,a3T b,a3T c,a3T d,a3T e,a3T f,a3T g,a3T h with
     |some a,some b,some c,some d,some e,some f,some g,some h=>some ⟨⟨a,b,c⟩,⟨⟨d,e⟩,n,f⟩,g,h⟩|_,_,_,_,_,_,_,_=>none)|_=>none
 a1j {x p} h:=by
  split at h
  ·split at h
   ·rename_i h1 h2 h3 h4 h5 h6 h7 h8
    cases h
    rw [a0K h1,a0K h2,a0K h3,a0K h4,a0K h5,a0K h6,a0K h7,a0K h8]
    rfl
   ·cases h
  ·cases h
@[simp] theorem f05 (p:f04):Arg.enc p=.g (askRow p):=rfl
open Go Go.Proofs
theorem b1P:b5v a0B Tryz.prog 50 (fun _=>True):=by
 intro H enc w F fuel cs x hF h
 obtain ⟨xs,n,_,rfl,hl,hlen,hf⟩:=DataW.trod_struct Tryz.underlying50 h
 rw [show Tryz.prog.cellsOf 50=3 from by kernel_rfl] at hl
 match cs,hl,xs,hlen with
 |[c0,c1,c2],_,[x0,x1,x2],_=>
  have h0:=hf 0 _ rfl
  change DataW.trod enc Tryz.prog w 0 _ true _ 3 (List.take (Tryz.prog.cellsOf 3) [c0,c1,c2])=some x0 at h0
  rw [show Tryz.prog.cellsOf 3=1 from by kernel_rfl] at h0
  have h1:=hf 1 _ rfl
  change DataW.trod enc Tryz.prog w 0 _ true _ 3 (List.take (Tryz.prog.cellsOf 3) [c1,c2])=some x1 at h1
  rw [show Tryz.prog.cellsOf 3=1 from by kernel_rfl] at h1
  have h2:=hf 2 _ rfl
  change DataW.trod enc Tryz.prog w 0 _ true _ 3 (List.take (Tryz.prog.cellsOf 3) [c2])=some x2 at h2
  rw [show Tryz.prog.cellsOf 3=1 from by kernel_rfl] at h2
  obtain ⟨a0,_,o0,r0,_⟩:=a1h Tryz.underlying3 enc w F n _ _ hF h0
  obtain ⟨a1,_,o1,r1,_⟩:=a1h Tryz.underlying3 enc w F n _ _ hF h1
  obtain ⟨a2,_,o2,r2,_⟩:=a1h Tryz.underlying3 enc w F n _ _ hF h2
  refine ⟨⟨a0,a1,a2⟩,rfl,?_,?_,fun hw=>trivial⟩
  ·intro v hv
   simp at hv o0 o1 o2
   rcases hv with rfl|rfl|rfl
   ·exact o0
   ·exact o1
   ·exact o2
  ·intro k c hk
   match k,hk with
   |0,hk=>exact r0 0 c (by simpa using hk)
   |1,hk=>exact r1 0 c (by simpa using hk)
   |2,hk=>exact r2 0 c (by simpa using hk)
theorem b8Q:a9G a0B Tryz.prog 51 (fun l=>l.length*Tryz.prog.bytesOf 50<=reachBytes/\∀a∈l,True):=
 a3F Tryz.underlying51 b1P (by kernel_rfl) (by decide)
open Go Go.Proofs
theorem c7v:b5v OpV Tryz.prog 53 (fun o=>o.text.length<=reachBytes/\o.gone.length*24<=reachBytes):=by
 intro H enc w F fuel cs x hF h
 obtain ⟨xs,n,_,rfl,hl,hlen,hf⟩:=DataW.trod_struct Tryz.underlying53 h
 rw [show Tryz.prog.cellsOf 53=11 from by kernel_rfl] at hl
 match cs,hl,xs,hlen with
 |[c0,c1,c2,c3,c4,c5,c6,c7,c8,c9,c10],_,[x0,x1,x2,x3,x4,x5,x6,x7,x8],_=>
  have e1:Tryz.prog.cellsOf 3=1:=by kernel_rfl
  have h0:=hf 0 _ rfl
  change DataW.trod enc Tryz.prog w 0 _ true _ 3 (List.take (Tryz.prog.cellsOf 3) [c0,c1,c2,c3,c4,c5,c6,c7,c8,c9,c10])=some x0 at h0
  rw [e1] at h0
  have h1:=hf 1 _ rfl
  change DataW.trod enc Tryz.prog w 0 _ true _ 3 (List.take (Tryz.prog.cellsOf 3) [c1,c2,c3,c4,c5,c6,c7,c8,c9,c10])=some x1 at h1
  rw [e1] at h1
  have h2:=hf 2 _ rfl
  change DataW.trod enc Tryz.prog w 0 _ true _ 3 (List.take (Tryz.prog.cellsOf 3) [c2,c3,c4,c5,c6,c7,c8,c9,c10])=some x2 at h2
  rw [e1] at h2
  have h3:=hf 3 _ rfl
  change DataW.trod enc Tryz.prog w 0 _ true _ 50 (List.take (Tryz.prog.cellsOf 50) [c3,c4,c5,c6,c7,c8,c9,c10])=some x3 at h3
  rw [show Tryz.prog.cellsOf 50=3 from by kernel_rfl] at h3
  have h4:=hf 4 _ rfl
  change DataW.trod enc Tryz.prog w 0 _ true _ 9 (List.take (Tryz.prog.cellsOf 9) [c6,c7,c8,c9,c10])=some x4 at h4
  rw [show Tryz.prog.cellsOf 9=1 from by kernel_rfl] at h4
  have h5:=hf 5 _ rfl
  change DataW.trod enc Tryz.prog w 0 _ true _ 51 (List.take (Tryz.prog.cellsOf 51) [c7,c8,c9,c10])=some x5 at h5
  rw [show Tryz.prog.cellsOf 51=1 from by kernel_rfl] at h5
  have h6:=hf 6 _ rfl
  change DataW.trod enc Tryz.prog w 0 _ true _ 3 (List.take (Tryz.prog.cellsOf 3) [c8,c9,c10])=some x6 at h6
  rw [e1] at h6
  have h7:=hf 7 _ rfl
  change DataW.trod enc Tryz.prog w 0 _ true _ 3 (List.take (Tryz.prog.cellsOf 3) [c9,c10])=some x7 at h7
  rw [e1] at h7
  have h8:=hf 8 _ rfl
  change DataW.trod enc Tryz.prog w 0 _ true _ 3 (List.take (Tryz.prog.cellsOf 3) [c10])=some x8 at h8
  rw [e1] at h8
  obtain ⟨a0,_,o0,r0,_⟩:=a1h Tryz.underlying3 enc w F n _ _ hF h0
  obtain ⟨a1,_,o1,r1,_⟩:=a1h Tryz.underlying3 enc w F n _ _ hF h1
  obtain ⟨a2,_,o2,r2,_⟩:=a1h Tryz.underlying3 enc w F n _ _ hF h2
  obtain ⟨a3,_,o3,r3,_⟩:=b1P enc w F n _ _ hF h3
  obtain ⟨a4,_,o4,r4,s4⟩:=a9F Tryz.underlying9 enc w F n _ _ hF h4
  obtain ⟨a5,_,o5,r5,s5⟩:=b8Q enc w F n _ _ hF h5
  obtain ⟨a6,_,o6,r6,_⟩:=a1h Tryz.underlying3 enc w F n _ _ hF h6
  obtain ⟨a7,_,o7,r7,_⟩:=a1h Tryz.underlying3 enc w F n _ _ hF h7
  obtain ⟨a8,_,o8,r8,_⟩:=a1h Tryz.underlying3 enc w F n _ _ hF h8
  refine ⟨⟨a0,a1,a2,a3,a4,a5,a6,a7,a8⟩,rfl,?_,?_,fun hw=>?_⟩
  ·intro v hv
   simp at hv o0 o1 o2 o3 o4 o5 o6 o7 o8
   rcases hv with rfl|rfl|rfl|rfl|rfl|rfl|rfl|rfl|rfl|rfl|rfl
   ·exact o0
   ·exact o1
   ·exact o2
   ·exact o3.1
   ·exact o3.2.1
   ·exact o3.2.2
   ·exact o4
   ·exact o5
   ·exact o6
   ·exact o7
   ·exact o8
  ·intro k c hk
   match k,hk with
   |0,hk=>exact r0 0 c (by simpa [a0f] using hk)
   |1,hk=>exact r1 0 c (by simpa [a0f] using hk)
   |2,hk=>exact r2 0 c (by simpa [a0f] using hk)
   |3,hk=>exact r3 0 c (by simpa [a0f] using hk)
   |4,hk=>exact r3 1 c (by simpa [a0f] using hk)
   |5,hk=>exact r3 2 c (by simpa [a0f] using hk)
   |6,hk=>exact r4 0 c (by simpa [a0f] using hk)
   |7,hk=>
    simp [a0f] at hk
    subst hk
    exact r5
   |8,hk=>exact r6 0 c (by simpa [a0f] using hk)
   |9,hk=>exact r7 0 c (by simpa [a0f] using hk)
   |10,hk=>exact r8 0 c (by simpa [a0f] using hk)
  ·simp only [DataW.weights,Tryz.underlying53,DataW.weightsEach,List.map_cons,List.map_nil,List.append_nil,List.all_append,Bool.and_eq_true] at hw
   refine ⟨s4 hw.2.2.2.2.1,?_⟩
   have:=(s5 hw.2.2.2.2.2.1).1
   rwa [show Tryz.prog.bytesOf 50=24 from by kernel_rfl] at this
theorem b0l:a9G OpV Tryz.prog 26 (fun l=>l.length*Tryz.prog.bytesOf 53<=reachBytes/\∀o∈l,o.text.length<=reachBytes/\o.gone.length*24<=reachBytes):=
 a3F Tryz.underlying26 c7v (by kernel_rfl) (by decide)
end Go.AE
